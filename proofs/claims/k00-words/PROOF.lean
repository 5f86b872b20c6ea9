import PyProof.Rows.All
import Wide.All
import OpenK.AllK
import HandS.ExcCtx
import HandS.HotCalls
import Wide.FinOn
import HandS.Call
import HandS.List
import HandS.Ends
import HandS.Words
import HandS.Exc
import HandS.ExcOwn
import HandS.TryOnly
import HandS.Text
import HandS.Codes
import HandS.Style
import HandS.IsInst
import HandS.Wide
import KE.KExcSuper
import HandS.ExcField
import HandS.ExcIs
import HandS.TryMany
import HandS.Defaults
import HandS.Dict
import HandS.BoundDict
import HandS.NoneIn
import HandS.Flow
import HandS.WideBits
import HandS.Conv
import HandS.SortInts
import HandS.RaiseMore
import KE.RegKIsAll
import HandS.Comp
import HandS.More
import HandS.Iter
import PySem.Challenge.RW_kilnwarden_k00_words_back_and_forth
set_option Elab.async false
set_option linter.all false
set_option maxRecDepth 100000
set_option maxHeartbeats 2000000
/-! Kw: universal readings over HandS: one rule a construct, whatever the kinds of its parts are; the readings go by cases of the values and so reduce by simp. -/
namespace KW
open PySem PySem.Spec PyProof.Rows L2
abbrev Frag := PySem.W.Frag
abbrev S (l : List Nat) : Str := SX.S l

section
variable {X : Cx}
theorem PEw {e : Expr} {t t' : TE} (h : PE X e t) (w : ∀ σ H Q, t' σ H Q → t σ H Q) : PE X e t' := ⟨fun pins s σ H Q I q => h.run pins s σ H Q I (w σ H Q q)⟩
theorem PTw {e : Expr} {t t' : TT} (h : PT X e t) (w : ∀ σ H Q, t' σ H Q → t σ H Q) : PT X e t' := ⟨fun pins s σ H Q I q => h.run pins s σ H Q I (w σ H Q q)⟩
theorem PSw {st : Stmt} {t t' : TS} (h : PS X st t) (w : ∀ D σ H, t' D σ H → t D σ H) : PS X st t' := ⟨fun pins s σ H D I q => h.run pins s σ H D I (w D σ H q)⟩
theorem OpRw {f : Value → Value → Sem Value} {r r' : R2} (h : OpR X f r) (w : ∀ x y H Q, r' x y H Q → r x y H Q) : OpR X f r' := fun pins s σ H x y v u Q I rx ry q => h pins s σ H x y v u Q I rx ry (w _ _ _ _ q)
theorem UnRw {f : Value → Sem Value} {r r' : V → Hp → VK → Prop} (h : UnR X f r) (w : ∀ x H Q, r' x H Q → r x H Q) : UnR X f r' := fun pins s σ H x v Q I rx q => h pins s σ H x v Q I rx (w _ _ _ q)
theorem CallRw {f : Value} {r r' : List V → Hp → VK → Prop} (h : CallR X f r) (w : ∀ xs H Q, r' xs H Q → r xs H Q) : CallR X f r' := fun pins s σ H xs us Q I rx q => h pins s σ H xs us Q I rx (w _ _ _ q)
theorem IxRw {r r' : R2} (h : IxR X r) (w : ∀ x y H Q, r' x y H Q → r x y H Q) : IxR X r' := fun a b pins s σ H x y v u Q I rx ry q => h a b pins s σ H x y v u Q I rx ry (w _ _ _ _ q)
theorem SlRw {r r' : V → Option Int → Option Int → Hp → VK → Prop} (h : SlR X r) (w : ∀ x l u H Q, r' x l u H Q → r x l u H Q) : SlR X r' := fun pins s σ H x v vl vu lo hi sl Q I rx a b c q => h pins s σ H x v vl vu lo hi sl Q I rx a b c (w _ _ _ _ _ q)

/-! ### names -/
def uVar (i : Nat) : TE := fun σ H Q => match σ[i]? with
  | some (some v) => Q v H
  | _ => False
theorem kv (i : Nat) {x : Str} {pos : Pos} (hN : X.N[i]? = some x := by rfl) (hv : Vis X.env.scope x := by first | exact Or.inl rfl | exact Or.inr (Or.inl rfl) | exact Or.inr (Or.inr rfl)) (hd : (x == ("__debug__" : Str)) = false := by decide)
    (hcd : (x == ("__classdict__" : Str)) = false := by decide) : PE X (.Name x pos) (uVar i) := PEw (pe_var hN hv hd hcd) fun σ H Q h => by
  unfold uVar at h
  split at h
  · rename_i v e
    exact ⟨v, e, h⟩
  · exact h.elim

/-! ### operators -/
def uAdd (K : Frag) : R2
  | .int i, .int j, H, Q => Q (.int (i + j)) H
  | .str i, .str j, H, Q => i.length + j.length ≤ sizeLine ∧ Q (.str (i ++ j)) H
  | .ref a, .ref b, H, Q => rCat (.ref a) (.ref b) H Q ∨ rCatT K (.ref a) (.ref b) H Q
  | _, _, _, _ => False
theorem o_add : OpR X (binaryOp .Add) (uAdd X.K) := OpRw (op_add.or (op_add_str.or (op_cat.or op_catT))) fun x y H Q h => by
  unfold uAdd at h
  split at h
  · exact .inl ⟨_, _, rfl, rfl, h⟩
  · exact .inr (.inl ⟨_, _, rfl, rfl, h⟩)
  · exact .inr (.inr h)
  · exact h.elim
def uSub : R2
  | .int i, .int j, H, Q => Q (.int (i - j)) H
  | _, _, _, _ => False
theorem o_sub : OpR X (binaryOp .Sub) uSub := OpRw op_sub fun x y H Q h => by
  unfold uSub at h
  split at h
  · exact ⟨_, _, rfl, rfl, h⟩
  · exact h.elim
def uMul : R2
  | .int i, .int j, H, Q => (CMul i j ∨ CMulW i j) ∧ Q (.int (i * j)) H
  | .ref l, .int k, H, Q => rRep (.ref l) (.int k) H Q
  | _, _, _, _ => False
theorem o_mul : OpR X (binaryOp .Mult) uMul := OpRw (op_mul.or (op_mulW.or op_rep)) fun x y H Q h => by
  unfold uMul at h
  split at h
  · obtain ⟨c | c, h⟩ := h
    · exact .inl ⟨_, _, rfl, rfl, c, h⟩
    · exact .inr (.inl ⟨_, _, rfl, rfl, c, h⟩)
  · exact .inr (.inr h)
  · exact h.elim
def uMod : R2
  | .int i, .int j, H, Q => 0 < j ∧ Q (.int (i % j)) H
  | _, _, _, _ => False
theorem o_mod : OpR X (binaryOp .Mod) uMod := OpRw op_mod fun x y H Q h => by
  unfold uMod at h
  split at h
  · exact ⟨_, _, rfl, rfl, h⟩
  · exact h.elim
def uDiv : R2
  | .int i, .int j, H, Q => (CDiv i j ∨ CDivW i j) ∧ Q (.int (i / j)) H
  | _, _, _, _ => False
theorem o_fdiv : OpR X (binaryOp .FloorDiv) uDiv := OpRw (op_fdiv.or op_fdivW) fun x y H Q h => by
  unfold uDiv at h
  split at h
  · obtain ⟨c | c, h⟩ := h
    · exact .inl ⟨_, _, rfl, rfl, c, h⟩
    · exact .inr ⟨_, _, rfl, rfl, c, h⟩
  · exact h.elim
def uPow : R2
  | .int i, .int j, H, Q => CPow i j ∧ Q (.int (i ^ j.toNat)) H
  | _, _, _, _ => False
theorem o_pow : OpR X (binaryOp .Pow) uPow := OpRw op_pow fun x y H Q h => by
  unfold uPow at h
  split at h
  · exact ⟨_, _, rfl, rfl, h⟩
  · exact h.elim
def uShl : R2
  | .int i, .int j, H, Q => CPow i j ∧ Q (.int (i * 2 ^ j.toNat)) H
  | _, _, _, _ => False
theorem o_shl : OpR X (binaryOp .LShift) uShl := OpRw op_shl fun x y H Q h => by
  unfold uShl at h
  split at h
  · exact ⟨_, _, rfl, rfl, h⟩
  · exact h.elim
def uNeg : V → Hp → VK → Prop
  | .int i, H, Q => Q (.int (-i)) H
  | _, _, _ => False
theorem o_neg : UnR X (unaryOp .USub) uNeg := UnRw un_neg fun x H Q h => by
  unfold uNeg at h
  split at h
  · exact ⟨_, rfl, h⟩
  · exact h.elim
/-- in place: ints and texts; a list is lengthened -/
def uIAdd : R2
  | .int i, .int j, H, Q => Q (.int (i + j)) H
  | .str i, .str j, H, Q => i.length + j.length ≤ sizeLine ∧ Q (.str (i ++ j)) H
  | .ref a, .ref b, H, Q => rExt2 (.ref a) (.ref b) H Q
  | _, _, _, _ => False
theorem o_iadd : OpR X (inplaceOp .Add) uIAdd := OpRw (iop_add.or (iop_add_str.or iop_ext)) fun x y H Q h => by
  unfold uIAdd at h
  split at h
  · exact .inl ⟨_, _, rfl, rfl, h⟩
  · exact .inr (.inl ⟨_, _, rfl, rfl, h⟩)
  · exact .inr (.inr h)
  · exact h.elim
def uISub : R2
  | .int i, .int j, H, Q => Q (.int (i - j)) H
  | _, _, _, _ => False
theorem o_isub : OpR X (inplaceOp .Sub) uISub := OpRw iop_sub fun x y H Q h => by
  unfold uISub at h
  split at h
  · exact ⟨_, _, rfl, rfl, h⟩
  · exact h.elim

/-! ### comparisons -/
def uLt : R2
  | .int i, .int j, H, Q => Q (.bl (decide (i < j))) H
  | .str i, .str j, H, Q => Q (.bl (decide (i.cps.toList < j.cps.toList))) H
  | _, _, _, _ => False
theorem o_lt : OpR X (compareOp .Lt) uLt := OpRw (op_lt.or op_lt_str) fun x y H Q h => by
  unfold uLt at h
  split at h
  · exact .inl ⟨_, _, rfl, rfl, h⟩
  · exact .inr ⟨_, _, rfl, rfl, h⟩
  · exact h.elim
def uLe : R2
  | .int i, .int j, H, Q => Q (.bl (decide (i ≤ j))) H
  | _, _, _, _ => False
theorem o_le : OpR X (compareOp .LtE) uLe := OpRw op_le fun x y H Q h => by
  unfold uLe at h
  split at h
  · exact ⟨_, _, rfl, rfl, h⟩
  · exact h.elim
def uGt : R2
  | .int i, .int j, H, Q => Q (.bl (decide (j < i))) H
  | _, _, _, _ => False
theorem o_gt : OpR X (compareOp .Gt) uGt := OpRw op_gt fun x y H Q h => by
  unfold uGt at h
  split at h
  · exact ⟨_, _, rfl, rfl, h⟩
  · exact h.elim
def uGe : R2
  | .int i, .int j, H, Q => Q (.bl (decide (j ≤ i))) H
  | _, _, _, _ => False
theorem o_ge : OpR X (compareOp .GtE) uGe := OpRw op_ge fun x y H Q h => by
  unfold uGe at h
  split at h
  · exact ⟨_, _, rfl, rfl, h⟩
  · exact h.elim
def uEq (K : Frag) : R2
  | .int i, .int j, H, Q => Q (.bl (decide (i = j))) H
  | .str i, .str j, H, Q => Q (.bl (decide (i = j))) H
  | .bl i, .bl j, H, Q => Q (.bl (decide (i = j))) H
  | .non, .non, H, Q => Q (.bl true) H
  | .int _, .str _, H, Q => Q (.bl false) H
  | .str _, .int _, H, Q => Q (.bl false) H
  | .int _, .non, H, Q => Q (.bl false) H
  | .non, .int _, H, Q => Q (.bl false) H
  | .str _, .non, H, Q => Q (.bl false) H
  | .non, .str _, H, Q => Q (.bl false) H
  | .ref a, .ref b, H, Q => rEqD K (.ref a) (.ref b) H Q
  | _, _, _, _ => False
theorem o_eq (hu : X.A.units + 64 < cLine) : OpR X (compareOp .Eq) (uEq X.K) := OpRw (op_eq.or (op_eqD hu)) fun x y H Q h => by
  unfold uEq at h
  split at h <;> first
    | exact .inl ⟨rfl, by simpa using h⟩
    | exact .inr h
    | exact h.elim
def uNe (K : Frag) : R2
  | .int i, .int j, H, Q => Q (.bl (!decide (i = j))) H
  | .str i, .str j, H, Q => Q (.bl (!decide (i = j))) H
  | .bl i, .bl j, H, Q => Q (.bl (!decide (i = j))) H
  | .non, .non, H, Q => Q (.bl false) H
  | .int _, .str _, H, Q => Q (.bl true) H
  | .str _, .int _, H, Q => Q (.bl true) H
  | .int _, .non, H, Q => Q (.bl true) H
  | .non, .int _, H, Q => Q (.bl true) H
  | .str _, .non, H, Q => Q (.bl true) H
  | .non, .str _, H, Q => Q (.bl true) H
  | .ref a, .ref b, H, Q => rNeD K (.ref a) (.ref b) H Q
  | _, _, _, _ => False
theorem o_ne (hu : X.A.units + 64 < cLine) : OpR X (compareOp .NotEq) (uNe X.K) := OpRw (op_ne.or (op_neD hu)) fun x y H Q h => by
  unfold uNe at h
  split at h <;> first
    | exact .inl ⟨rfl, by simpa using h⟩
    | exact .inr h
    | exact h.elim
/-- is, is not: None and bools on the right -/
theorem op_isIB : OpR X (compareOp .Is) (fun x y H Q => (∃ i b, x = V.int i ∧ y = V.bl b) ∧ Q (.bl false) H) := by
  intro pins s σ H x y v u Q I rx ry h
  obtain ⟨⟨i, b, rfl, rfl⟩, q⟩ := h
  obtain ⟨t, rfl⟩ := rx
  cases (show u = Value.bool b from ry)
  exact wpAny_is_other rfl (fun z => nomatch z) ⟨.bl false, H, I, rfl, q⟩
def uIs : R2
  | .non, .non, H, Q => Q (.bl true) H
  | .int _, .non, H, Q => Q (.bl false) H
  | .str _, .non, H, Q => Q (.bl false) H
  | .ref _, .non, H, Q => Q (.bl false) H
  | .bl _, .non, H, Q => Q (.bl false) H
  | .bl a, .bl b, H, Q => Q (.bl (decide (a = b))) H
  | .int _, .bl _, H, Q => Q (.bl false) H
  | _, _, _, _ => False
theorem o_is : OpR X (compareOp .Is) uIs := OpRw (op_isN.or (op_isBl.or op_isIB)) fun x y H Q h => by
  unfold uIs at h
  split at h <;> first
    | exact .inl ⟨rfl, by simpa using h⟩
    | exact .inr (.inl ⟨_, _, rfl, rfl, h⟩)
    | exact .inr (.inr ⟨⟨_, _, rfl, rfl⟩, h⟩)
    | exact h.elim
def uNotIs : R2
  | .non, .non, H, Q => Q (.bl false) H
  | .int _, .non, H, Q => Q (.bl true) H
  | .str _, .non, H, Q => Q (.bl true) H
  | .ref _, .non, H, Q => Q (.bl true) H
  | .bl _, .non, H, Q => Q (.bl true) H
  | .bl a, .bl b, H, Q => Q (.bl (!decide (a = b))) H
  | _, _, _, _ => False
theorem o_isnot : OpR X (compareOp .IsNot) uNotIs := OpRw (op_notN.or op_notBl) fun x y H Q h => by
  unfold uNotIs at h
  split at h <;> first
    | exact .inl ⟨rfl, by simpa using h⟩
    | exact .inr ⟨_, _, rfl, rfl, h⟩
    | exact h.elim
/-- one text within another -/
def subStr (i j : Str) : Bool := !(Builtin.Str.occurrences j i 0 j.length 1).isEmpty
theorem subStr_one (c : Nat) (a : List Nat) : subStr (S [c]) (S a) = decide (c ∈ a) := SX.in_one a c
def uIn (K : Frag) : R2
  | .str i, .str j, H, Q => Q (.bl (subStr i j)) H
  | .int i, .ref p, H, Q => rIn K false (.int i) (.ref p) H Q
  | .str i, .ref p, H, Q => rIn K false (.str i) (.ref p) H Q
  | .non, .ref p, H, Q => rIn K false .non (.ref p) H Q
  | _, _, _, _ => False
theorem o_in : OpR X (compareOp .In) (uIn X.K) := OpRw (op_in_str.or op_in_seq) fun x y H Q h => by
  unfold uIn at h
  split at h <;> first
    | exact .inl ⟨_, _, rfl, rfl, h⟩
    | exact .inr h
    | exact h.elim
def uNotIn (K : Frag) : R2
  | .str i, .str j, H, Q => Q (.bl (!subStr i j)) H
  | .int i, .ref p, H, Q => rIn K true (.int i) (.ref p) H Q
  | .str i, .ref p, H, Q => rIn K true (.str i) (.ref p) H Q
  | .non, .ref p, H, Q => rIn K true .non (.ref p) H Q
  | _, _, _, _ => False
theorem o_notin : OpR X (compareOp .NotIn) (uNotIn X.K) := OpRw (op_notin_str.or op_notIn_seq) fun x y H Q h => by
  unfold uNotIn at h
  split at h <;> first
    | exact .inl ⟨_, _, rfl, rfl, h⟩
    | exact .inr h
    | exact h.elim

/-! ### tests -/
def uTru (K : Frag) : V → Hp → (Bool → Prop) → Prop
  | .non, _, k => k false
  | .bl b, _, k => k b
  | .int i, _, k => k (i != 0)
  | .str y, _, k => y.length ≤ sizeLine ∧ k ((y.length : Int) != 0)
  | .ref p, H, k => ∃ b, TruV K (.ref p) H b ∧ k b
  | _, _, _ => False
def uTest (K : Frag) (t : TE) : TT := fun σ H Q => t σ H fun x H1 => uTru K x H1 fun b => Q b H1
theorem kt {e : Expr} {t : TE} (h : PE X e t) (he : ∀ whole, isTrue e X.env whole = (do let v ← whole; standAt e.pos; holding [v] (truthy v)) := by intro _; rfl) : PT X e (uTest X.K t) := by
  refine ⟨fun pins s σ H Q I hq => ?_⟩
  refine isTrue_plain (thn (h.run pins s σ H _ I hq) fun v s1 ⟨x, H1, I1, r1, q1⟩ => tru_ok pins s1 σ H1 x v Q I1 r1 ?_) (he _)
  cases x with
  | non => exact ⟨false, rfl, q1⟩
  | bl b => exact ⟨b, rfl, q1⟩
  | int i => exact ⟨_, rfl, q1⟩
  | str y => exact ⟨_, ⟨q1.1, rfl⟩, q1.2⟩
  | ref p => exact q1
  | _ => exact False.elim q1

/-! ### subscripts -/
def uIx (K : Frag) : R2
  | .ref p, .int i, H, Q => ∃ xs v, (SqL K H p xs ∨ SqT K H p xs) ∧ atI xs i = some v ∧ Q v H
  | .str z, .int i, H, Q => z.length ≤ sizeLine ∧ ∃ c, atI z.cps.toList i = some c ∧ Q (.str (S [c])) H
  | _, _, _, _ => False
theorem o_ix : IxR X (uIx X.K) := IxRw ix_seq fun x y H Q h => by
  unfold uIx at h
  split at h
  · obtain ⟨xs, v, hs | hs, e, q⟩ := h
    · exact .inl ⟨_, xs, _, v, rfl, rfl, hs, e, q⟩
    · exact .inr (.inl ⟨_, xs, _, v, rfl, rfl, hs, e, q⟩)
  · obtain ⟨hz, c, e, q⟩ := h
    exact .inr (.inr ⟨_, _, c, rfl, rfl, hz, e, q⟩)
  · exact h.elim
def uSl (K : Frag) : V → Option Int → Option Int → Hp → VK → Prop
  | .ref a, lo, hi, H, Q => rSlL K (.ref a) lo hi H Q ∨ rSlT K (.ref a) lo hi H Q
  | .str z, lo, hi, H, Q => z.length ≤ sizeLine ∧ Q (.str (cutS z lo hi)) H
  | _, _, _, _, _ => False
theorem o_sl : SlR X (uSl X.K) := SlRw (sl_list.or (sl_tup.or sl_str)) fun x lo hi H Q h => by
  unfold uSl at h
  split at h
  · exact h.elim .inl fun z => .inr (.inl z)
  · exact .inr (.inr ⟨_, rfl, h.1, h.2⟩)
  · exact h.elim
theorem S_len (a : List Nat) : (S a).length = a.length := SX.S_len a
theorem S_nil : (S []).length = 0 := rfl
theorem S_tl (x : Str) : S x.cps.toList = x := SX.S_tl x
theorem cps_S (a : List Nat) : (S a).cps.toList = a := rfl
theorem S_cat (a b : List Nat) : S a ++ S b = S (a ++ b) := SX.S_cat a b
theorem S_inj {a b : List Nat} : S a = S b ↔ a = b := ⟨SX.S_inj, fun h => congrArg S h⟩
theorem cutS_S (a : List Nat) (i j : Nat) : cutS (S a) (some (i : Int)) (some (j : Int)) = S ((a.drop i).take (j - i)) := by
  unfold cutS
  rw [HT.sIx_nat, HT.sIx_nat, cps_S]
  have e : (S a).length = a.length := S_len a
  rw [e]
  refine congrArg S ?_
  rw [show a.drop (min i a.length) = a.drop i by
    by_cases h : i ≤ a.length
    · rw [Nat.min_eq_left h]
    · rw [Nat.min_eq_right (by omega), List.drop_length, List.drop_eq_nil_of_le (by omega)]]
  refine List.take_eq_take_iff.mpr ?_
  rw [List.length_drop]
  omega

/-! ### calls of built-ins -/
def uLen (K : Frag) : List V → Hp → VK → Prop
  | [.str y], H, Q => y.length ≤ sizeLine ∧ Q (.int y.length) H
  | [.ref p], H, Q => ∃ xs, (SqL K H p xs ∨ SqT K H p xs) ∧ Q (.int xs.length) H
  | _, _, _ => False
theorem c_len : CallR X (.builtin "len") (uLen X.K) := CallRw call_len fun xs H Q h => by
  unfold uLen at h
  split at h
  · exact ⟨_, _, rfl, ⟨h.1, rfl⟩, h.2⟩
  · obtain ⟨xs, hs | hs, q⟩ := h
    · exact ⟨_, _, rfl, .inl ⟨xs, hs, rfl⟩, q⟩
    · exact ⟨_, _, rfl, .inr ⟨xs, hs, rfl⟩, q⟩
  · exact h.elim
def uAbs : List V → Hp → VK → Prop
  | [.int i], H, Q => Q (.int (if i < 0 then -i else i)) H
  | _, _, _ => False
theorem c_abs : CallR X (.builtin "abs") uAbs := CallRw call_abs fun xs H Q h => by
  unfold uAbs at h
  split at h
  · exact ⟨_, rfl, h⟩
  · exact h.elim
def uInt : List V → Hp → VK → Prop
  | [.int i], H, Q => Q (.int i) H
  | [.bl k], H, Q => Q (.int (if k then 1 else 0)) H
  | _, _, _ => False
theorem c_int : CallR X (.type "int") uInt := CallRw call_int1 fun xs H Q h => by
  unfold uInt at h
  split at h
  · exact .inl ⟨_, rfl, h⟩
  · exact .inr ⟨_, rfl, h⟩
  · exact h.elim
def uMin2 : List V → Hp → VK → Prop
  | [.int i, .int j], H, Q => Q (.int (if j < i then j else i)) H
  | _, _, _ => False
theorem c_min2 (hc : X.calm = true) : CallR X (.builtin "min") uMin2 := CallRw (call_min2 hc) fun xs H Q h => by
  unfold uMin2 at h
  split at h
  · exact ⟨_, _, rfl, h⟩
  · exact h.elim
/-- isinstance against a built-in type -/
def isK (a b : String) : Bool := match kitB a b with
  | some r => r
  | none => false
def isOk (a b : String) : Bool := (kitB a b).isSome
theorem isK_of {a b : String} (h : isOk a b = true) {K : Frag} : PySem.W.kitOne K (.type a) (.type b) = some (isK a b) := by
  refine kit_ty ?_
  unfold isOk at h
  unfold isK
  cases e : kitB a b with
  | none => rw [e] at h; cases h
  | some r => rfl
def uIsi (K : Frag) : List V → Hp → VK → Prop
  | [.non, .ty n], H, Q => isOk "NoneType" n = true ∧ Q (.bl (isK "NoneType" n)) H
  | [.bl _, .ty n], H, Q => isOk "bool" n = true ∧ Q (.bl (isK "bool" n)) H
  | [.int _, .ty n], H, Q => isOk "int" n = true ∧ Q (.bl (isK "int" n)) H
  | [.str _, .ty n], H, Q => isOk "str" n = true ∧ Q (.bl (isK "str" n)) H
  | [.ref p, .ty n], H, Q => ∃ T, TyX K H (.ref p) (.type T) ∧ isOk T n = true ∧ Q (.bl (isK T n)) H
  | _, _, _ => False
theorem c_isi : CallR X (.builtin "isinstance") (uIsi X.K) := CallRw call_isi fun xs H Q h => by
  unfold uIsi at h
  split at h
  · exact ⟨_, _, _, _, _, rfl, .ty _, .base .non, isK_of h.1, h.2⟩
  · exact ⟨_, _, _, _, _, rfl, .ty _, .base (.bl _), isK_of h.1, h.2⟩
  · exact ⟨_, _, _, _, _, rfl, .ty _, .base (.int _), isK_of h.1, h.2⟩
  · exact ⟨_, _, _, _, _, rfl, .ty _, .base (.str _), isK_of h.1, h.2⟩
  · obtain ⟨T, ty, o, q⟩ := h
    exact ⟨_, _, _, _, _, rfl, .ty _, ty, isK_of o, q⟩
  · exact h.elim
theorem isK_int_int : isK "int" "int" = true := by decide +kernel
theorem isK_int_bool : isK "int" "bool" = false := by decide +kernel
theorem isK_int_str : isK "int" "str" = false := by decide +kernel
theorem isK_int_list : isK "int" "list" = false := by decide +kernel
theorem isK_int_tuple : isK "int" "tuple" = false := by decide +kernel
theorem isK_bool_int : isK "bool" "int" = true := by decide +kernel
theorem isK_bool_bool : isK "bool" "bool" = true := by decide +kernel
theorem isK_bool_str : isK "bool" "str" = false := by decide +kernel
theorem isK_str_str : isK "str" "str" = true := by decide +kernel
theorem isK_str_int : isK "str" "int" = false := by decide +kernel
theorem isK_str_bool : isK "str" "bool" = false := by decide +kernel
theorem isK_str_tuple : isK "str" "tuple" = false := by decide +kernel
theorem isK_str_list : isK "str" "list" = false := by decide +kernel
theorem isK_list_list : isK "list" "list" = true := by decide +kernel
theorem isK_list_tuple : isK "list" "tuple" = false := by decide +kernel
theorem isK_tuple_tuple : isK "tuple" "tuple" = true := by decide +kernel
theorem isK_tuple_list : isK "tuple" "list" = false := by decide +kernel
theorem isK_dict_dict : isK "dict" "dict" = true := by decide +kernel
theorem isK_none_int : isK "NoneType" "int" = false := by decide +kernel
theorem isK_none_bool : isK "NoneType" "bool" = false := by decide +kernel
theorem isOk_int_int : isOk "int" "int" = true := by decide +kernel
theorem isOk_int_bool : isOk "int" "bool" = true := by decide +kernel
theorem isOk_int_str : isOk "int" "str" = true := by decide +kernel
theorem isOk_int_list : isOk "int" "list" = true := by decide +kernel
theorem isOk_int_tuple : isOk "int" "tuple" = true := by decide +kernel
theorem isOk_bool_int : isOk "bool" "int" = true := by decide +kernel
theorem isOk_bool_bool : isOk "bool" "bool" = true := by decide +kernel
theorem isOk_bool_str : isOk "bool" "str" = true := by decide +kernel
theorem isOk_str_str : isOk "str" "str" = true := by decide +kernel
theorem isOk_str_int : isOk "str" "int" = true := by decide +kernel
theorem isOk_str_bool : isOk "str" "bool" = true := by decide +kernel
theorem isOk_str_tuple : isOk "str" "tuple" = true := by decide +kernel
theorem isOk_str_list : isOk "str" "list" = true := by decide +kernel
theorem isOk_list_list : isOk "list" "list" = true := by decide +kernel
theorem isOk_list_tuple : isOk "list" "tuple" = true := by decide +kernel
theorem isOk_tuple_tuple : isOk "tuple" "tuple" = true := by decide +kernel
theorem isOk_tuple_list : isOk "tuple" "list" = true := by decide +kernel
theorem isOk_dict_dict : isOk "dict" "dict" = true := by decide +kernel
theorem isOk_none_int : isOk "NoneType" "int" = true := by decide +kernel
theorem isOk_none_bool : isOk "NoneType" "bool" = true := by decide +kernel
end

/-! ### loops -/
/-- the loop itself, behind the making of its iterator: not opened by simp -/
def forK (J : It) (g : TG) (tb : TS) (D : Ends) (σ : L2.St) (H : Hp) : Prop :=
  ∃ W : Nat → Nat → L2.St → Hp → Prop, (∃ m, W 0 m σ H) ∧ ∀ i m σ H, W i m σ H →
    (J.stop i H ∧ D.nx σ H) ∨ (J.go i H ∧ ∃ N : L2.St → Hp → Prop, (∀ σ' H', N σ' H' → ∃ m', m' < m ∧ W (i + 1) m' σ' H') ∧ ∀ x H', J.yld i H x H' → g x σ H' fun σ2 H2 => tb { D with nx := N, ct := N, bk := D.nx } σ2 H2)
def uFor (wi : TI) (g : TG) (tb : TS) : TS := fun D σ H => wi σ H fun J H1 => forK J g tb D σ H1
theorem for_rng {lo : Int} {n : Nat} {g : TG} {tb : TS} {D : Ends} {σ : L2.St} {H : Hp} (Pv : Nat → L2.St → Hp → Prop) (h0 : Pv 0 σ H)
    (hs : ∀ i σ H, i < n → Pv i σ H → g (.int (lo + i)) σ H fun σ2 H2 => tb { D with nx := Pv (i + 1), ct := Pv (i + 1), bk := D.nx } σ2 H2) (hd : ∀ σ H, Pv n σ H → D.nx σ H) : forK (Itr lo n) g tb D σ H := for_range Pv h0 hs hd
theorem for_lst {K : Frag} {a : Addr} {xs : List V} {g : TG} {tb : TS} {D : Ends} {σ : L2.St} {H : Hp} (Pv : Nat → L2.St → Hp → Prop) (h0 : Pv 0 σ H) (hl : ∀ i σ H, i ≤ xs.length → Pv i σ H → SqL K H a xs)
    (hs : ∀ i x σ H, xs[i]? = some x → Pv i σ H → g x σ H fun σ2 H2 => tb { D with nx := Pv (i + 1), ct := Pv (i + 1), bk := D.nx } σ2 H2) (hd : ∀ σ H, Pv xs.length σ H → D.nx σ H) : forK (Itl K a) g tb D σ H := for_list Pv h0 hl hs hd
/-- while: what holds, by a measure -/
def uWhile (c : TT) (tb : TS) : TS := fun D σ H => ∃ W : Nat → L2.St → Hp → Prop, (∃ m, W m σ H) ∧ ∀ m σ H, W m σ H →
  c σ H fun b H1 => if b = true then tb { D with nx := fun σ' H' => ∃ m', m' < m ∧ W m' σ' H', ct := fun σ' H' => ∃ m', m' < m ∧ W m' σ' H', bk := D.nx } σ H1 else D.nx σ H1
section
variable {X : Cx}
theorem k_for {tg iter : Expr} {body : List Stmt} {wi : TI} {g : TG} {tb : TS} {pos : Pos} (hp : PassesOwn (model X.prog X.w) X.A X.env X.xe) (hc : X.calm = true) (hi : PI X tg iter wi) (hg : PG X tg g) (hb : PSs X body tb)
    (hs : ∀ x, foldedSetIterable iter X.env x = pure x := by intro _; rfl) : PS X (.For tg iter body [] pos) (uFor wi g tb) := ⟨(ps_for hp hc hi hg hb hs).run⟩
theorem k_while {c : Expr} {body : List Stmt} {tc : TT} {tb : TS} {pos : Pos} (hp : PassesOwn (model X.prog X.w) X.A X.env X.xe) (hc : PT X c tc) (hb : PSs X body tb) : PS X (.While c body [] pos) (uWhile tc tb) := by
  refine ⟨fun pins s σ H D I h => ?_⟩
  obtain ⟨W, ⟨m0, w0⟩, turn⟩ := h
  refine wpAny_While (codeAny_whileLoop (fun n s' => ∃ σ' H', Inv X pins σ' H' s' ∧ W n σ' H') ?_ m0 ⟨σ, H, I, w0⟩)
  rintro n s1 ⟨σ1, H1, I1, w1⟩
  refine wpAny_passesOwn hp (thn (hc.run pins s1 σ1 H1 _ I1 (turn n σ1 H1 w1)) fun b s2 ⟨H2, I2, q2⟩ => ?_)
  cases b with
  | true =>
    rw [if_pos rfl] at q2
    rw [if_pos rfl]
    refine wpAny_passesOwn hp (thn (hb.run pins s2 σ1 H2 _ I2 q2) fun f s3 q3 => ?_)
    cases f with
    | next =>
      obtain ⟨σ3, H3, I3, m', hm, w3⟩ := q3
      exact ⟨m', hm, σ3, H3, I3, w3⟩
    | cont =>
      obtain ⟨σ3, H3, I3, m', hm, w3⟩ := q3
      exact ⟨m', hm, σ3, H3, I3, w3⟩
    | brk => exact q3
    | ret v => exact q3
  | false =>
    rw [if_neg Bool.false_ne_true] at q2
    rw [if_neg Bool.false_ne_true]
    exact wpAny_execs_nil ⟨σ1, H2, I2, q2⟩

/-! ### defs of the text, called by their names -/
/-- the def x of the module keeps the promise sp, at level k; ps its parameters, dvs the defaults that a call leaves open -/
structure Cal (P : Program) (w : World) (K : Frag) (mg : Str → Option Value) (base : Heap) (k : Nat) (x : Str) (sp : Sp) : Prop where
  ex : ∃ (f : Addr) (fd : FuncData) (ps : List Str), mg x = some (.ref f) ∧ PySem.W.keepIn K (.ref f) = true ∧ Binds K fd ps [] ∧ FnOk P w K mg base (L2N.CX P w) k f fd ps sp
def uCall (sp : Sp) (t : TA) : TE := fun σ H Q => t σ H fun vs H1 => sp vs H1 Q E0
theorem passAt0 {σ : L2.St} : PassesAt (L2N.CX X.prog X.w) X σ E0 := fun _ _ _ _ _ _ h => by
  obtain ⟨_, _, _, _, _, _, _, _, _, _, _, _, z⟩ := h
  exact z.elim
section
variable {k : Nat} {x : Str} {sp : Sp} {p pos : Pos} {e : Expr} {es : List Expr} {t : TA}
/-- f(e, ..), f a def that raises nothing here -/
theorem kc (c : Cal X.prog X.w X.K X.mg X.base k x sp) (hr : Room k X.A) (ha : PA X (e :: es) t) (hg : Gl X x := by rfl) (hdb : (x == ("__debug__" : Str)) = false := by decide)
    (he : starEach (e :: es) X.env = (false, eval e X.env) :: starEach es X.env := by rfl) (hpl : (backTo pos (starEach es X.env)).any (·.1) = false := by rfl) : PE X (.Call (.Name x p) (e :: es) [] pos) (uCall sp t) := by
  obtain ⟨f, fd, ps, hm, hk, hb, F⟩ := c.ex
  exact pe_callS F hr hg hm hk hb (fun _ => passAt0) ha hdb he hpl
theorem kc0 (c : Cal X.prog X.w X.K X.mg X.base k x sp) (hr : Room k X.A) (hg : Gl X x := by rfl) (hdb : (x == ("__debug__" : Str)) = false := by decide) : PE X (.Call (.Name x p) [] [] pos) (uCall sp tNil) := by
  obtain ⟨f, fd, ps, hm, hk, hb, F⟩ := c.ex
  refine ⟨fun pins s σ H Q I h => ?_⟩
  refine wpAny_Call_Name_kw (ld_glob I hg hm ?_ hdb)
  exact PySem.W.callWith_K0 I.kIn hk (run_fnS (E := fun _ => E0) F hr hb passAt0 I .nil h)
/-- f(e, ..), f a def that may raise: W is what is wanted of it -/
theorem kcX {W : WX} (tk : L2N.Takes X W) (c : Cal X.prog X.w X.K X.mg X.base k x sp) (hr : Room k X.A) (ha : PA X (e :: es) t) (hg : Gl X x := by rfl) (hdb : (x == ("__debug__" : Str)) = false := by decide)
    (he : starEach (e :: es) X.env = (false, eval e X.env) :: starEach es X.env := by rfl) (hpl : (backTo pos (starEach es X.env)).any (·.1) = false := by rfl) : PE X (.Call (.Name x p) (e :: es) [] pos) (tCallS sp (WE W) t) := by
  obtain ⟨f, fd, ps, hm, hk, hb, F⟩ := c.ex
  exact pe_callS F hr hg hm hk hb (fun σ => L2N.passAt tk σ) ha hdb he hpl
end
end
/-- a def of the text, with what binds its arguments -/
structure DefAt (K : Frag) (mg : Str → Option Value) (x qual : Str) (st : Stmt) (ps : List Str) : Prop where
  ex : ∃ (f : Addr) (fd : FuncData), mg x = some (.ref f) ∧ Fun K x qual st f fd ∧ Binds K fd ps []
section
variable {P : Program} {w : World} {K : Frag} {mg : Str → Option Value} {base : Heap}
theorem DefAt.ok {x qual : Str} {st : Stmt} {N ps : List Str} {k : Nat} {sp : Sp} (D : DefAt K mg x qual st ps) (S : FnScope N ps (defScope st)) (len : ∀ vs H Q E, sp vs H Q E → vs.length = ps.length)
    (hbody : ∀ (f : Addr) (cdv : Value) (A : Around) (outer : List Env) (s : Shared) (H : Hp) (vs : List V) (Q : VK) (E : XK), Room k (A.deeper (envOfC qual (defScope st) s.heap.objs.size f cdv)) → sp vs H Q E →
      ∃ t, PSs (cxOf (L2N.CX P w) P w K mg base N qual (defScope st) f cdv A outer s H E) (defBody st) t ∧ t { nx := fun _ H' => Q .non H', rt := Q } (start N vs) H) : Cal P w K mg base (k + 1) x sp := by
  obtain ⟨f, fd, hm, F, hb⟩ := D.ex
  refine ⟨f, fd, ps, hm, F.kp, hb, ?_⟩
  obtain ⟨oc, od, kV, doc, pm, an, cdv, ct, osl, rfl, lk, hcd⟩ := F.ex
  exact fn_of lk hcd S len fun A outer s H vs Q E hr hsp => hbody f cdv A outer s H vs Q E hr hsp
theorem Cal.mono {j k : Nat} {x : Str} {sp : Sp} (c : Cal P w K mg base j x sp) (h : j ≤ k) : Cal P w K mg base k x sp := by
  obtain ⟨f, fd, ps, hm, hk, hb, F⟩ := c.ex
  exact ⟨f, fd, ps, hm, hk, hb, F.mono h⟩
end
end KW
namespace KW
open PySem PySem.Spec PyProof.Rows L2
/-- the module's name x holds the constant v -/
def GV (mg : Str → Option Value) (x : Str) (v : V) : Prop := ∃ u, mg x = some u ∧ RelV v u
theorem k_g {X : Cx} {x : Str} {v : V} {pos : Pos} (h : GV X.mg x v) (hg : Gl X x := by rfl) (hd : (x == ("__debug__" : Str)) = false := by decide) : PE X (.Name x pos) (tC v) := by
  obtain ⟨u, hm, r⟩ := h
  exact pe_glob hg hm r hd
/-- an object that stands by itself may be changed while all else stands -/
def But (a : Addr) (H H' : Hp) : Prop := ∀ b o, b ≠ a → H b = some o → H' b = some o
theorem But.refl {a : Addr} (H : Hp) : But a H H := fun _ _ _ h => h
theorem But.trans {a : Addr} {H H1 H2 : Hp} (x : But a H H1) (y : But a H1 H2) : But a H H2 := fun b o n h => y b o n (x b o n h)
theorem But.upd {a : Addr} {H : Hp} {o : HO} : But a H (upd H a o) := fun b _ n h => by rw [upd_ne n]; exact h
theorem But.seq {a b : Addr} {K : Frag} {H H' : Hp} {xs : List V} (e : But a H H') (n : b ≠ a) (h : SqL K H b xs) : SqL K H' b xs := by
  rcases h with (h | ⟨o, h⟩) | h
  · exact .inl (.inl (e _ _ n h))
  · exact .inl (.inr ⟨o, e _ _ n h⟩)
  · exact .inr h
end KW
namespace KW
open PySem PySem.Spec PyProof.Rows L2
/-! ### reads and stores of lists and tuples: by lemmas, not by simp -/
section
variable {K : Frag} {H : Hp} {p : Addr} {xs : List V} {i : Int} {v : V} {Q : VK}
theorem ix_l (h : H p = some (.lst xs)) (e : atI xs i = some v) (q : Q v H) : uIx K (.ref p) (.int i) H Q := ⟨xs, v, .inl (.of h), e, q⟩
theorem ix_t (h : H p = some (.tup xs)) (e : atI xs i = some v) (q : Q v H) : uIx K (.ref p) (.int i) H Q := ⟨xs, v, .inr (.of h), e, q⟩
theorem ix_sl (h : SqL K H p xs) (e : atI xs i = some v) (q : Q v H) : uIx K (.ref p) (.int i) H Q := ⟨xs, v, .inl h, e, q⟩
theorem ix_st (h : SqT K H p xs) (e : atI xs i = some v) (q : Q v H) : uIx K (.ref p) (.int i) H Q := ⟨xs, v, .inr h, e, q⟩
theorem len_l (h : H p = some (.lst xs)) (q : Q (.int xs.length) H) : uLen K [.ref p] H Q := ⟨xs, .inl (.of h), q⟩
theorem len_t (h : H p = some (.tup xs)) (q : Q (.int xs.length) H) : uLen K [.ref p] H Q := ⟨xs, .inr (.of h), q⟩
theorem len_sl (h : SqL K H p xs) (q : Q (.int xs.length) H) : uLen K [.ref p] H Q := ⟨xs, .inl h, q⟩
theorem len_st (h : SqT K H p xs) (q : Q (.int xs.length) H) : uLen K [.ref p] H Q := ⟨xs, .inr h, q⟩
end
/-- o[i] = v -/
def uSet : TSet
  | .ref p, .int k, v, H, Q => ∃ xs j, H p = some (.lst xs) ∧ ixN xs.length k = some j ∧ Q (upd H p (.lst (xs.set j v)))
  | _, _, _, _, _ => False
theorem s_set {X : Cx} : PSet X uSet := fun pins s σ H o i v ov iv u Q I ro ri rv h => by
  unfold uSet at h
  split at h
  · obtain ⟨xs, j, h1, h2, q⟩ := h
    exact set_list pins s σ H _ _ _ ov iv u Q I ro ri rv ⟨_, xs, _, j, rfl, rfl, h1, h2, q⟩
  · exact h.elim
theorem set_l {H : Hp} {p : Addr} {xs : List V} {k : Int} {j : Nat} {v : V} {Q : Hp → Prop} (h : H p = some (.lst xs)) (e : ixN xs.length k = some j) (q : Q (upd H p (.lst (xs.set j v)))) : uSet (.ref p) (.int k) v H Q := ⟨xs, j, h, e, q⟩
end KW
namespace KW
open PySem PySem.Spec PyProof.Rows L2
theorem le_line {n : Nat} (h : n ≤ 16000000) : n ≤ sizeLine := by rw [sizeLine_eq]; omega
theorem lt_line {n : Nat} (h : n ≤ 16000000) : n < sizeLine := by rw [sizeLine_eq]; omega
theorem mul_l {i j : Int} (h : -18446744073709551616 < i ∧ i < 18446744073709551616) : CMul i j ∨ CMulW i j := .inl (.inl ⟨by omega, by omega⟩)
theorem mul_r {i j : Int} (h : -18446744073709551616 < j ∧ j < 18446744073709551616) : CMul i j ∨ CMulW i j := .inl (.inr ⟨by omega, by omega⟩)
theorem div_s {i j : Int} (h : 0 < j ∧ j < 1073741824) : CDiv i j ∨ CDivW i j := .inl h
theorem pow_s {i j : Int} (h : 0 ≤ j ∧ j ≤ 1000000 ∧ -18446744073709551616 < i ∧ i < 18446744073709551616) : CPow i j := ⟨h.1, h.2.1, by omega⟩
end KW
namespace KW
open PySem PySem.Spec PyProof.Rows L2
theorem But.new {st p : Addr} {H : Hp} {o : HO} (h : H p = none) : But st H (L2.upd H p o) := fun b u _ e => by rw [upd_ne (ne_of_none e h)]; exact e
theorem SqL.new {K : Frag} {H : Hp} {sc p : Addr} {o : HO} {xs : List V} (h : H p = none) (hS : SqL K H sc xs) : SqL K (upd H p o) sc xs := by
  rcases hS with (q | ⟨o, q⟩) | q
  · exact .inl (.inl (by rw [upd_ne (ne_of_none q h)]; exact q))
  · exact .inl (.inr ⟨o, by rw [upd_ne (ne_of_none q h)]; exact q⟩)
  · exact .inr q
theorem atI_int {α : Type} {xs : List α} {r : Int} (h0 : 0 ≤ r) (h1 : r < xs.length) : ∃ v, xs[r.toNat]? = some v ∧ atI xs r = some v := by
  obtain ⟨j, rfl⟩ := Int.eq_ofNat_of_zero_le h0
  have h : j < xs.length := by omega
  exact ⟨xs[j], List.getElem?_eq_getElem h, atI_nat (List.getElem?_eq_getElem h)⟩
end KW
namespace KW
open PySem PySem.Spec PyProof.Rows L2
theorem tup_l {K : Frag} {n : Nat} {t : TGs} {a : Addr} {xs : List V} {σ : L2.St} {H : Hp} {Q : L2.St → Hp → Prop} (h : H a = some (.tup xs)) (hn : xs.length = n) (q : t xs σ H Q) : gTup K n t (.ref a) σ H Q := ⟨a, xs, rfl, .of h, hn, q⟩
theorem tup_s {K : Frag} {n : Nat} {t : TGs} {a : Addr} {xs : List V} {σ : L2.St} {H : Hp} {Q : L2.St → Hp → Prop} (h : SqT K H a xs) (hn : xs.length = n) (q : t xs σ H Q) : gTup K n t (.ref a) σ H Q := ⟨a, xs, rfl, h, hn, q⟩
end KW
namespace KW
open PySem PySem.Spec PyProof.Rows L2
section
variable {P : Program} {w : World} {K : Frag} {mg : Str → Option Value} {base : Heap}
theorem DefAt.fn {x qual : Str} {st : Stmt} {N ps : List Str} {k : Nat} {sp : Sp} (S : FnScope N ps (defScope st)) (len : ∀ vs H Q E, sp vs H Q E → vs.length = ps.length)
    (hbody : ∀ (f : Addr) (cdv : Value) (A : Around) (outer : List Env) (s : Shared) (H : Hp) (vs : List V) (Q : VK) (E : XK), Room k (A.deeper (envOfC qual (defScope st) s.heap.objs.size f cdv)) → sp vs H Q E →
      ∃ t, PSs (cxOf (L2N.CX P w) P w K mg base N qual (defScope st) f cdv A outer s H E) (defBody st) t ∧ t { nx := fun _ H' => Q .non H', rt := Q } (start N vs) H) :
    ∀ f fd, Fun K x qual st f fd → FnOk P w K mg base (L2N.CX P w) (k + 1) f fd ps sp := by
  intro f fd F
  obtain ⟨oc, od, kV, doc, pm, an, cdv, ct, osl, rfl, lk, hcd⟩ := F.ex
  exact fn_of lk hcd S len fun A outer s H vs Q E hr hsp => hbody f cdv A outer s H vs Q E hr hsp
theorem defAt_mk {x qual : Str} {st : Stmt} {ps : List Str} {h : Heap} {f : Addr} {oc : Value} {od an : Option Addr} {osl : Array (Option Value)} {kV doc pm cdv ct : Value}
    (X : K.In h) (G : h.Ns mainGlobals mg) (a : PySem.W.nsIn K mainGlobals x = some (some (.ref f)))
    (l : K.lookup f = some ⟨oc, od, .func (PySem.W.fnOf x qual (defArgs st) (defBody st) (defScope st) .none kV doc pm an cdv ct), osl⟩) (c : PySem.W.codeIn K cdv qual = true) (k : PySem.W.keepIn K (.ref f) = true)
    (hb : ∀ (kV doc pm : Value) (an : Option Addr) (cdv ct : Value) (us : List Value), us.length = ps.length → bindArgs (PySem.W.fnOf x qual (defArgs st) (defBody st) (defScope st) .none kV doc pm an cdv ct) ⟨us, []⟩ = pure (ps.zip us)) : DefAt K mg x qual st ps := by
  have F := fun_mk (st := st) l c k
  exact ⟨f, _, PySem.W.mg_of X G a, F, F.binds hb⟩
theorem gv_mk {x : Str} {v : V} {u : Value} {h : Heap} (X : K.In h) (G : h.Ns mainGlobals mg) (a : PySem.W.nsIn K mainGlobals x = some (some u)) (r : RelV v u) : GV mg x v := ⟨u, PySem.W.mg_of X G a, r⟩
/-- the law's promise: True for every list of at most 63 ints -/
def sp_law63 (K : Frag) : Sp := fun vs H Q _ => ∃ (sc : Addr) (ns : List Int), vs = [.ref sc] ∧ SqL K H sc (ns.map .int) ∧ ns.length ≤ 63 ∧ ∀ H', Q (.bl true) H'
end
theorem CX_none {P : Program} {w : World} {l : List Env} {H : Hp} {s : Shared} {e : Value} {s' : Shared} (h : L2N.CX P w l H s (fun _ _ _ => False) e s') : False := by
  obtain ⟨_, _, _, _, _, _, _, _, _, _, _, _, z⟩ := h
  exact z.elim
theorem walk63 {l : PySem.W.OpenLaw} {k : Nat} {st : Stmt} {q : Program} {loose : List Str} {XP : (Str → Option Value) → Heap → Prop} {YP : World → Heap → Prop} {d : DefRec} {K : Params → PySem.W.Frag} (hn : l.most = some 63) (hdf : d.params.defaults = []) (hd : d.name = "law") (hr : Room k callerA)
    (hY : ∀ (w : World) (h : Heap), YP w h → (K w.params).In h)
    (hb : ∀ (kV doc pm : Value) (an : Option Addr) (cdv ct : Value) (us : List Value), us.length = ["script"].length → bindArgs (PySem.W.fnOf "law" "law" (defArgs st) (defBody st) (defScope st) .none kV doc pm an cdv ct) ⟨us, []⟩ = pure ((["script"] : List Str).zip us))
    (F : ∀ (w : World) (mg : Str → Option Value) (h : Heap), (K w.params).In h → h.Ns mainGlobals mg →
      DefAt (K w.params) mg "law" "law" st ["script"] ∧ ∀ base f fd, Fun (K w.params) "law" "law" st f fd → FnOk l.prog w (K w.params) mg base (L2N.CX l.prog w) k f fd ["script"] (sp_law63 (K w.params))) :
    PySem.W.WalkO q loose XP YP l.row.toRowW d [] (fun f vs => PySem.call f vs) := by
  refine L2.walk_of (n := 63) (k := k) (x := "script") (CX := fun w => L2N.CX l.prog w) (sp := fun w => sp_law63 (K w.params)) hn (by decide) hdf hr hY ?_ (fun _ _ a ns hl _ hS => ⟨a, ns, rfl, hS, hl, fun _ => rfl⟩) fun _ _ _ _ _ h => CX_none h
  intro w mg fa h KX G hmg
  obtain ⟨D, ok⟩ := F w mg h KX G
  obtain ⟨f, fd, hm, Fu, _⟩ := D.ex
  rw [hd, hm] at hmg
  cases hmg
  have Fu' := Fu
  obtain ⟨oc, od, kV, doc, pm, an, cdv, ct, osl, rfl, lk, hcd⟩ := Fu.ex
  exact ⟨_, fun s u => .of_eq (hb kV doc pm an cdv ct [u] rfl), fun base _ _ => ok base _ _ Fu'⟩
end KW
/-! ### case lemmas -/
namespace KW
open PySem PySem.Spec PyProof.Rows L2
theorem uAdd_e1 {K : Frag} {i : Int} {j : Int} {H : Hp} {Q : VK} : uAdd K (.int i) (.int j) H Q = (Q (.int (i + j)) H) := rfl
theorem uAdd_e2 {K : Frag} {i : Str} {j : Str} {H : Hp} {Q : VK} : uAdd K (.str i) (.str j) H Q = (i.length + j.length ≤ sizeLine ∧ Q (.str (i ++ j)) H) := rfl
theorem uAdd_e3 {K : Frag} {a : Addr} {b : Addr} {H : Hp} {Q : VK} : uAdd K (.ref a) (.ref b) H Q = (rCat (.ref a) (.ref b) H Q ∨ rCatT K (.ref a) (.ref b) H Q) := rfl
theorem uSub_e1 {i : Int} {j : Int} {H : Hp} {Q : VK} : uSub (.int i) (.int j) H Q = (Q (.int (i - j)) H) := rfl
theorem uMul_e1 {i : Int} {j : Int} {H : Hp} {Q : VK} : uMul (.int i) (.int j) H Q = ((CMul i j ∨ CMulW i j) ∧ Q (.int (i * j)) H) := rfl
theorem uMul_e2 {l : Addr} {k : Int} {H : Hp} {Q : VK} : uMul (.ref l) (.int k) H Q = (rRep (.ref l) (.int k) H Q) := rfl
theorem uMod_e1 {i : Int} {j : Int} {H : Hp} {Q : VK} : uMod (.int i) (.int j) H Q = (0 < j ∧ Q (.int (i % j)) H) := rfl
theorem uDiv_e1 {i : Int} {j : Int} {H : Hp} {Q : VK} : uDiv (.int i) (.int j) H Q = ((CDiv i j ∨ CDivW i j) ∧ Q (.int (i / j)) H) := rfl
theorem uPow_e1 {i : Int} {j : Int} {H : Hp} {Q : VK} : uPow (.int i) (.int j) H Q = (CPow i j ∧ Q (.int (i ^ j.toNat)) H) := rfl
theorem uShl_e1 {i : Int} {j : Int} {H : Hp} {Q : VK} : uShl (.int i) (.int j) H Q = (CPow i j ∧ Q (.int (i * 2 ^ j.toNat)) H) := rfl
theorem uNeg_e1 {i : Int} {H : Hp} {Q : VK} : uNeg (.int i) H Q = (Q (.int (-i)) H) := rfl
theorem uIAdd_e1 {i : Int} {j : Int} {H : Hp} {Q : VK} : uIAdd (.int i) (.int j) H Q = (Q (.int (i + j)) H) := rfl
theorem uIAdd_e2 {i : Str} {j : Str} {H : Hp} {Q : VK} : uIAdd (.str i) (.str j) H Q = (i.length + j.length ≤ sizeLine ∧ Q (.str (i ++ j)) H) := rfl
theorem uIAdd_e3 {a : Addr} {b : Addr} {H : Hp} {Q : VK} : uIAdd (.ref a) (.ref b) H Q = (rExt2 (.ref a) (.ref b) H Q) := rfl
theorem uISub_e1 {i : Int} {j : Int} {H : Hp} {Q : VK} : uISub (.int i) (.int j) H Q = (Q (.int (i - j)) H) := rfl
theorem uLt_e1 {i : Int} {j : Int} {H : Hp} {Q : VK} : uLt (.int i) (.int j) H Q = (Q (.bl (decide (i < j))) H) := rfl
theorem uLt_e2 {i : Str} {j : Str} {H : Hp} {Q : VK} : uLt (.str i) (.str j) H Q = (Q (.bl (decide (i.cps.toList < j.cps.toList))) H) := rfl
theorem uLe_e1 {i : Int} {j : Int} {H : Hp} {Q : VK} : uLe (.int i) (.int j) H Q = (Q (.bl (decide (i ≤ j))) H) := rfl
theorem uGt_e1 {i : Int} {j : Int} {H : Hp} {Q : VK} : uGt (.int i) (.int j) H Q = (Q (.bl (decide (j < i))) H) := rfl
theorem uGe_e1 {i : Int} {j : Int} {H : Hp} {Q : VK} : uGe (.int i) (.int j) H Q = (Q (.bl (decide (j ≤ i))) H) := rfl
theorem uEq_e1 {K : Frag} {i : Int} {j : Int} {H : Hp} {Q : VK} : uEq K (.int i) (.int j) H Q = (Q (.bl (decide (i = j))) H) := rfl
theorem uEq_e2 {K : Frag} {i : Str} {j : Str} {H : Hp} {Q : VK} : uEq K (.str i) (.str j) H Q = (Q (.bl (decide (i = j))) H) := rfl
theorem uEq_e3 {K : Frag} {i : Bool} {j : Bool} {H : Hp} {Q : VK} : uEq K (.bl i) (.bl j) H Q = (Q (.bl (decide (i = j))) H) := rfl
theorem uEq_e4 {K : Frag} {H : Hp} {Q : VK} : uEq K (.non) (.non) H Q = (Q (.bl true) H) := rfl
theorem uEq_e5 {K : Frag} {w1 : Int} {w2 : Str} {H : Hp} {Q : VK} : uEq K (.int w1) (.str w2) H Q = (Q (.bl false) H) := rfl
theorem uEq_e6 {K : Frag} {w1 : Str} {w2 : Int} {H : Hp} {Q : VK} : uEq K (.str w1) (.int w2) H Q = (Q (.bl false) H) := rfl
theorem uEq_e7 {K : Frag} {w1 : Int} {H : Hp} {Q : VK} : uEq K (.int w1) (.non) H Q = (Q (.bl false) H) := rfl
theorem uEq_e8 {K : Frag} {w1 : Int} {H : Hp} {Q : VK} : uEq K (.non) (.int w1) H Q = (Q (.bl false) H) := rfl
theorem uEq_e9 {K : Frag} {w1 : Str} {H : Hp} {Q : VK} : uEq K (.str w1) (.non) H Q = (Q (.bl false) H) := rfl
theorem uEq_e10 {K : Frag} {w1 : Str} {H : Hp} {Q : VK} : uEq K (.non) (.str w1) H Q = (Q (.bl false) H) := rfl
theorem uEq_e11 {K : Frag} {a : Addr} {b : Addr} {H : Hp} {Q : VK} : uEq K (.ref a) (.ref b) H Q = (rEqD K (.ref a) (.ref b) H Q) := rfl
theorem uNe_e1 {K : Frag} {i : Int} {j : Int} {H : Hp} {Q : VK} : uNe K (.int i) (.int j) H Q = (Q (.bl (!decide (i = j))) H) := rfl
theorem uNe_e2 {K : Frag} {i : Str} {j : Str} {H : Hp} {Q : VK} : uNe K (.str i) (.str j) H Q = (Q (.bl (!decide (i = j))) H) := rfl
theorem uNe_e3 {K : Frag} {i : Bool} {j : Bool} {H : Hp} {Q : VK} : uNe K (.bl i) (.bl j) H Q = (Q (.bl (!decide (i = j))) H) := rfl
theorem uNe_e4 {K : Frag} {H : Hp} {Q : VK} : uNe K (.non) (.non) H Q = (Q (.bl false) H) := rfl
theorem uNe_e5 {K : Frag} {w1 : Int} {w2 : Str} {H : Hp} {Q : VK} : uNe K (.int w1) (.str w2) H Q = (Q (.bl true) H) := rfl
theorem uNe_e6 {K : Frag} {w1 : Str} {w2 : Int} {H : Hp} {Q : VK} : uNe K (.str w1) (.int w2) H Q = (Q (.bl true) H) := rfl
theorem uNe_e7 {K : Frag} {w1 : Int} {H : Hp} {Q : VK} : uNe K (.int w1) (.non) H Q = (Q (.bl true) H) := rfl
theorem uNe_e8 {K : Frag} {w1 : Int} {H : Hp} {Q : VK} : uNe K (.non) (.int w1) H Q = (Q (.bl true) H) := rfl
theorem uNe_e9 {K : Frag} {w1 : Str} {H : Hp} {Q : VK} : uNe K (.str w1) (.non) H Q = (Q (.bl true) H) := rfl
theorem uNe_e10 {K : Frag} {w1 : Str} {H : Hp} {Q : VK} : uNe K (.non) (.str w1) H Q = (Q (.bl true) H) := rfl
theorem uNe_e11 {K : Frag} {a : Addr} {b : Addr} {H : Hp} {Q : VK} : uNe K (.ref a) (.ref b) H Q = (rNeD K (.ref a) (.ref b) H Q) := rfl
theorem uIs_e1 {H : Hp} {Q : VK} : uIs (.non) (.non) H Q = (Q (.bl true) H) := rfl
theorem uIs_e2 {w1 : Int} {H : Hp} {Q : VK} : uIs (.int w1) (.non) H Q = (Q (.bl false) H) := rfl
theorem uIs_e3 {w1 : Str} {H : Hp} {Q : VK} : uIs (.str w1) (.non) H Q = (Q (.bl false) H) := rfl
theorem uIs_e4 {w1 : Addr} {H : Hp} {Q : VK} : uIs (.ref w1) (.non) H Q = (Q (.bl false) H) := rfl
theorem uIs_e5 {w1 : Bool} {H : Hp} {Q : VK} : uIs (.bl w1) (.non) H Q = (Q (.bl false) H) := rfl
theorem uIs_e6 {a : Bool} {b : Bool} {H : Hp} {Q : VK} : uIs (.bl a) (.bl b) H Q = (Q (.bl (decide (a = b))) H) := rfl
theorem uIs_e7 {a : Int} {b : Bool} {H : Hp} {Q : VK} : uIs (.int a) (.bl b) H Q = (Q (.bl false) H) := rfl
theorem uNotIs_e1 {H : Hp} {Q : VK} : uNotIs (.non) (.non) H Q = (Q (.bl false) H) := rfl
theorem uNotIs_e2 {w1 : Int} {H : Hp} {Q : VK} : uNotIs (.int w1) (.non) H Q = (Q (.bl true) H) := rfl
theorem uNotIs_e3 {w1 : Str} {H : Hp} {Q : VK} : uNotIs (.str w1) (.non) H Q = (Q (.bl true) H) := rfl
theorem uNotIs_e4 {w1 : Addr} {H : Hp} {Q : VK} : uNotIs (.ref w1) (.non) H Q = (Q (.bl true) H) := rfl
theorem uNotIs_e5 {w1 : Bool} {H : Hp} {Q : VK} : uNotIs (.bl w1) (.non) H Q = (Q (.bl true) H) := rfl
theorem uNotIs_e6 {a : Bool} {b : Bool} {H : Hp} {Q : VK} : uNotIs (.bl a) (.bl b) H Q = (Q (.bl (!decide (a = b))) H) := rfl
theorem uIn_e1 {K : Frag} {i : Str} {j : Str} {H : Hp} {Q : VK} : uIn K (.str i) (.str j) H Q = (Q (.bl (subStr i j)) H) := rfl
theorem uIn_e2 {K : Frag} {i : Int} {p : Addr} {H : Hp} {Q : VK} : uIn K (.int i) (.ref p) H Q = (rIn K false (.int i) (.ref p) H Q) := rfl
theorem uIn_e3 {K : Frag} {i : Str} {p : Addr} {H : Hp} {Q : VK} : uIn K (.str i) (.ref p) H Q = (rIn K false (.str i) (.ref p) H Q) := rfl
theorem uIn_e4 {K : Frag} {p : Addr} {H : Hp} {Q : VK} : uIn K (.non) (.ref p) H Q = (rIn K false .non (.ref p) H Q) := rfl
theorem uNotIn_e1 {K : Frag} {i : Str} {j : Str} {H : Hp} {Q : VK} : uNotIn K (.str i) (.str j) H Q = (Q (.bl (!subStr i j)) H) := rfl
theorem uNotIn_e2 {K : Frag} {i : Int} {p : Addr} {H : Hp} {Q : VK} : uNotIn K (.int i) (.ref p) H Q = (rIn K true (.int i) (.ref p) H Q) := rfl
theorem uNotIn_e3 {K : Frag} {i : Str} {p : Addr} {H : Hp} {Q : VK} : uNotIn K (.str i) (.ref p) H Q = (rIn K true (.str i) (.ref p) H Q) := rfl
theorem uNotIn_e4 {K : Frag} {p : Addr} {H : Hp} {Q : VK} : uNotIn K (.non) (.ref p) H Q = (rIn K true .non (.ref p) H Q) := rfl
theorem uTru_e1 {K : Frag} {w1 : Hp} {k : Bool → Prop} : uTru K (.non) w1 k = (k false) := rfl
theorem uTru_e2 {K : Frag} {b : Bool} {w1 : Hp} {k : Bool → Prop} : uTru K (.bl b) w1 k = (k b) := rfl
theorem uTru_e3 {K : Frag} {i : Int} {w1 : Hp} {k : Bool → Prop} : uTru K (.int i) w1 k = (k (i != 0)) := rfl
theorem uTru_e4 {K : Frag} {y : Str} {w1 : Hp} {k : Bool → Prop} : uTru K (.str y) w1 k = (y.length ≤ sizeLine ∧ k ((y.length : Int) != 0)) := rfl
theorem uTru_e5 {K : Frag} {p : Addr} {H : Hp} {k : Bool → Prop} : uTru K (.ref p) H k = (∃ b, TruV K (.ref p) H b ∧ k b) := rfl
theorem uIx_e1 {K : Frag} {p : Addr} {i : Int} {H : Hp} {Q : VK} : uIx K (.ref p) (.int i) H Q = (∃ xs v, (SqL K H p xs ∨ SqT K H p xs) ∧ atI xs i = some v ∧ Q v H) := rfl
theorem uIx_e2 {K : Frag} {z : Str} {i : Int} {H : Hp} {Q : VK} : uIx K (.str z) (.int i) H Q = (z.length ≤ sizeLine ∧ ∃ c, atI z.cps.toList i = some c ∧ Q (.str (S [c])) H) := rfl
theorem uSl_e1 {K : Frag} {a : Addr} {lo : Option Int} {hi : Option Int} {H : Hp} {Q : VK} : uSl K (.ref a) lo hi H Q = (rSlL K (.ref a) lo hi H Q ∨ rSlT K (.ref a) lo hi H Q) := rfl
theorem uSl_e2 {K : Frag} {z : Str} {lo : Option Int} {hi : Option Int} {H : Hp} {Q : VK} : uSl K (.str z) lo hi H Q = (z.length ≤ sizeLine ∧ Q (.str (cutS z lo hi)) H) := rfl
theorem uLen_e1 {K : Frag} {y : Str} {H : Hp} {Q : VK} : uLen K [.str y] H Q = (y.length ≤ sizeLine ∧ Q (.int y.length) H) := rfl
theorem uLen_e2 {K : Frag} {p : Addr} {H : Hp} {Q : VK} : uLen K [.ref p] H Q = (∃ xs, (SqL K H p xs ∨ SqT K H p xs) ∧ Q (.int xs.length) H) := rfl
theorem uAbs_e1 {i : Int} {H : Hp} {Q : VK} : uAbs [.int i] H Q = (Q (.int (if i < 0 then -i else i)) H) := rfl
theorem uInt_e1 {i : Int} {H : Hp} {Q : VK} : uInt [.int i] H Q = (Q (.int i) H) := rfl
theorem uInt_e2 {k : Bool} {H : Hp} {Q : VK} : uInt [.bl k] H Q = (Q (.int (if k then 1 else 0)) H) := rfl
theorem uMin2_e1 {i : Int} {j : Int} {H : Hp} {Q : VK} : uMin2 [.int i, .int j] H Q = (Q (.int (if j < i then j else i)) H) := rfl
theorem uIsi_e1 {K : Frag} {n : String} {H : Hp} {Q : VK} : uIsi K [.non, .ty n] H Q = (isOk "NoneType" n = true ∧ Q (.bl (isK "NoneType" n)) H) := rfl
theorem uIsi_e2 {K : Frag} {w1 : Bool} {n : String} {H : Hp} {Q : VK} : uIsi K [.bl w1, .ty n] H Q = (isOk "bool" n = true ∧ Q (.bl (isK "bool" n)) H) := rfl
theorem uIsi_e3 {K : Frag} {w1 : Int} {n : String} {H : Hp} {Q : VK} : uIsi K [.int w1, .ty n] H Q = (isOk "int" n = true ∧ Q (.bl (isK "int" n)) H) := rfl
theorem uIsi_e4 {K : Frag} {w1 : Str} {n : String} {H : Hp} {Q : VK} : uIsi K [.str w1, .ty n] H Q = (isOk "str" n = true ∧ Q (.bl (isK "str" n)) H) := rfl
theorem uIsi_e5 {K : Frag} {p : Addr} {n : String} {H : Hp} {Q : VK} : uIsi K [.ref p, .ty n] H Q = (∃ T, TyX K H (.ref p) (.type T) ∧ isOk T n = true ∧ Q (.bl (isK T n)) H) := rfl
theorem cx_K {CX : CXT} {P : Program} {w : World} {K : Frag} {mg : Str → Option Value} {base : Heap} {N : List Str} {qual : Str} {scope : Scope} {f : Addr} {cd : Value} {A : Around} {outer : List Env} {s : Shared} {H : Hp} {E : XK} : (cxOf CX P w K mg base N qual scope f cd A outer s H E).K = K := rfl
theorem uVar_s {i : Nat} {σ : L2.St} {H : Hp} {Q : VK} {v : V} (h : σ[i]? = some (some v)) : uVar i σ H Q = Q v H := by unfold uVar; rw [h]
theorem uVar_0 {a : V} {l : L2.St} {H : Hp} {Q : VK} : uVar 0 (some a :: l) H Q = Q a H := rfl
theorem uVar_n {i : Nat} {a : Option V} {l : L2.St} {H : Hp} {Q : VK} : uVar (i + 1) (a :: l) H Q = uVar i l H Q := rfl
end KW

set_option Elab.async false
set_option linter.all false
set_option maxRecDepth 100000
set_option maxHeartbeats 4000000
/-! KErr: own exception classes whose __init__(self, f) says super().__init__(str(f)); self.f = f -/
namespace PySem
namespace KErr
open PySem.W PySem.Calls PyProof.Rows PySem.HandSPX
/-- str(v) is made: some text -/
def StrOk (prog : Program) (w : World) (v : Value) : Prop := ∀ (A : Around) (s : Shared) (Q : Value → Shared → Prop) (E : Value → Shared → Prop), A.handled = none → s.heap.NoDigits → (∀ txt tk k, Q (.str txt tk) { s with toks := k }) → wpAny (model prog w) A (call (.type "str") [v]) Q E s
theorem strOk_int {prog : Program} {w : World} {n : Int} {t : Tok} (h : n.natAbs < 10 ^ 4300) : StrOk prog w (.int n t) := fun A s Q E hh hn q => str_of_int_or hh hn (fun _ => q _ _ _) fun z => absurd h (Nat.not_lt.mpr z)
theorem one_size (v : Value) : [v].length ≤ sizeLine := by
  rw [sizeLine_eq]
  exact (by decide : 1 ≤ 16777216)
theorem kept_but {K : Frag} {h h' : Heap} {x : Addr} (X : K.In h) (hx : K.lookup x = none) (k : ∀ b o, b ≠ x → h.get? b = some o → h'.get? b = some o) : K.In h' := fun a o e =>
  k a o (fun z => by rw [z, hx] at e; cases e) (X a o e)
structure InitEnd (h h' : Heap) (x C dx t1 : Addr) (f : Str) (v : Value) : Prop where
  keep : ∀ b o, b ≠ x → h.get? b = some o → h'.get? b = some o
  obj : h'.get? x = some { cls := .ref C, dict := some dx, data := .fields #[.ref t1, .none, .none, .none, .bool false, .none] }
  dbig : h.objs.size ≤ dx
  dne : dx ≠ x
  ns : h'.Ns1 dx (fun y => if y = f then some v else none)
section
variable {prog : Program} {w : World} {A : Around} {E : Value → Shared → Prop} {h : Heap} {g : Array GenState} {d : Drawn} {t : Nat} {os : OsState}
variable {nm q : Str} {C N : Addr} {bs bm : List Value} {hdct : Bool} {sn : List Str} {sub : List Value} {ab : Bool} {col : Option Bool} {dd : Option Addr} {k0 k1 k2 k3 k5 : Option Value}
theorem init_call {u e t0 : Addr} {rest : List Value} {Q : Value → Shared → Prop}
    (hC : h.get? C = some (excClassObj nm q C N bs bm hdct sn sub ab col dd k0 k1 k2 k3 k5 "ValueError.__new__")) (he : h.get? e = some (excO C t0)) (hu : h.get? u = some (kxs_mw "ValueError.__init__" e)) (hrest : rest.length ≤ sizeLine)
    (hq : ∀ h' t1, (∀ b o, b ≠ e → h.get? b = some o → h'.get? b = some o) → h'.get? e = some (excO C t1) → Q .none ⟨h', g, d, t, os⟩) :
    wpAny (model prog w) A (call (.ref u) rest) Q E ⟨h, g, d, t, os⟩ := by
  have FB := F.excBase_ValueError
  refine wpAny_call (codeAny_of_tree ?_)
  show wpAny _ A.in1 (callAny (.ref u) ⟨rest, []⟩) _ _ _
  simp only [callAny]
  refine wpAny_bind (wpAny_load hu ?_)
  simp only [kxs_mw, show (Value.type "method-wrapper" == Value.type "method" || Value.type "method-wrapper" == Value.type "builtin_function_or_method" || Value.type "method-wrapper" == Value.type "method-wrapper") = true by decide, if_true]
  refine KFB.if_so (by decide) ?_
  refine wpAny_bind (check_bound_init FB.toExcCallFacts hC he rfl ?_)
  refine wpAny_bind (wpAny_pure (wpAny_pure ?_))
  refine ⟨plainId_quiet FB.init.plain _, codeAny_builtin FB.initEntry ?_⟩
  rw [Around.under_plainId FB.init.plain _]
  exact exc_init_tree (cls := .ref C) (t0 := t0) (dv := none) (c2 := .none) (c3 := .none) (b4 := .bool false) he hrest (fun h' k e' _ => hq h' _ k e')
end
/-- a made own error -/
structure OwnMade (h h' : Heap) (e C d : Addr) (fs : List (Str × Value)) : Prop where
  keep : ∀ b o, h.get? b = some o → h'.get? b = some o
  new : h.objs.size ≤ e
  obj : ∃ oe vs, h'.get? e = some oe ∧ oe.cls = .ref C ∧ oe.dict = some d ∧ oe.data = .fields vs ∧ vs[1]? = some .none ∧ vs[2]? = some .none
  dbig : h.objs.size ≤ d
  dne : d ≠ e
  ns : h'.Ns1 d (fun y => fs.lookup y)
/-- C(us): made, where us are the values of vs and ok vs -/
def Mkd (prog : Program) (w : World) (K : Frag) (mg : Str → Option Value) (C : Addr) (ns : List Str) (ok : List L2.V → Prop) : Prop :=
  ∀ {A : Around} {s : Shared} {R : Result → Shared → Prop} {vs : List L2.V} {us : List Value}, L2.Vals vs us → ok vs → K.In s.heap → s.heap.NoLimit → s.heap.Ns mainGlobals mg → (∃ mb, s.heap.Ns builtinsNs mb ∧ ∀ x : Str, x ≠ "__name__" → mb x = bootBuiltins x) → A.handled = none → A.depth + 1 < recursionLimit →
    (∀ h' tk e d, OwnMade s.heap h' e C d (ns.zip us) → R (.ok (.ret (.ref e))) { s with heap := h', toks := tk }) → codeAny (model prog w) A (.call (.ref C) ⟨us, []⟩) R s
/-- str of the value is some text -/
def okS : L2.V → Prop
  | .int n => n.natAbs < 10 ^ 4300
  | .str _ => True
  | _ => False
theorem strOk_str {prog : Program} {w : World} {x : Str} {t : Tok} : StrOk prog w (.str x t) := fun _ _ _ _ _ _ q => PySem.P.str_of_str (q _ _ _)
theorem okS_ok {prog : Program} {w : World} {v : L2.V} {u : Value} (r : L2.RelV v u) (h : okS v) : StrOk prog w u := by
  cases v <;> simp only [okS] at h
  · obtain ⟨t, rfl⟩ := r
    exact strOk_int h
  · obtain ⟨t, rfl⟩ := r
    exact strOk_str
end KErr
end PySem

set_option Elab.async false
set_option linter.all false
set_option maxRecDepth 100000
set_option maxHeartbeats 4000000
/-! Kw2a: errors at the readings' level: made, raised, caught, asked -/
namespace PySem.W
open PySem PySem.Spec PySem.Calls PyProof.Rows
section
variable {prog : Program} {w : World} {A : Around} {E : Value → Shared → Prop} {s : Shared} {K : Frag} {x D : Addr} {ox : Obj} {od : Option Obj}
theorem kw_findCls {C : Addr} {name : Str} {a g : Value} (hc : (clsIn K C).isSome = true) (ha : findIn K (.ref C) name = some (some a)) (hg : specialIn K a "__get__" = some (some g)) (ht : takesIn K a = some true) : findObj K C od name = some (.bind g a) := by
  obtain ⟨cd, hc⟩ := Option.isSome_iff_exists.mp hc
  unfold findObj
  rw [hc, Option.bind_some, ha, Option.bind_some]
  simp [hg, ht]
/-- the class of an own error, asked by __class__, whatever its own dict holds -/
theorem kw_class {Q : Option Value → Shared → Prop} (C : L2.ExcC K D) (X : K.In s.heap) (I : InstAt s.heap x ox D od) (h : Q (some (.ref D)) { s with toks := s.toks + 1 }) : wpAny (model prog w) A (getAttr? (.ref x) "__class__") Q E s := by
  have hf : findObj K D od "__class__" = some (.bind (.builtin "getset_descriptor.__get__") (.builtin "object.__class__")) := kw_findCls (by obtain ⟨cd, hc, _⟩ := any_some C.hd; rw [hc]; rfl) C.ha C.hn C.ht
  obtain ⟨hp, g, d, t, os⟩ := s
  have L0 := I.type (M := model prog w)
  have L1 := looks_findIn (M := model prog w) X C.hg
  have L2 := looks_findIn (M := model prog w) X C.hk
  have L3 := looks_find (M := model prog w) X I hf
  have sub : Looks (model prog w) hp (isInstance (.ref x) (.type "BaseException")) true := L0.andThen (looks_subIn X C.hs)
  have hx2 : (Value.builtin "BaseException.__getattribute__" == Value.builtin "object.__getattribute__") = false := by decide +kernel
  have hx1 : (onTheHeap (Value.ref D) && Value.builtin "BaseException.__getattribute__" == Value.builtin "object.__getattribute__") = false := by rw [hx2]; rfl
  have hx0 : (false && onTheHeap (Value.builtin "BaseException.__getattribute__")) = false := rfl
  unfold getAttr? getAttrBy? getAttrBy
  refine wpAny_bind (wpAny_mkText (wpAny_bind (wpAny_attempt (wpAny_holding (wpAny_bind (L0.at (wpAny_bind (L1.at ?_))))))))
  show wpAny _ _ (if (onTheHeap (Value.ref D) && Value.builtin "BaseException.__getattribute__" == Value.builtin "object.__getattribute__") = true then _ else _) _ _ _
  rw [hx1, if_neg Bool.false_ne_true]
  unfold getAttrByItsOwn hookBefore
  refine wpAny_bind ?_
  rw [if_pos (show onTheHeap (Value.ref D) = true from rfl)]
  refine L2.at ?_
  refine wpAny_bind (wpAny_attempt (wpAny_holding ?_))
  unfold callGetattribute
  rw [hx0, if_neg Bool.false_ne_true]
  unfold boundAndCalled
  rw [PySem.F.excAttr_ValueError.ga.bind (.ref x)]
  refine wpAny_bind (wpAny_pure ?_)
  refine wpAny_call (codeAny_call_builtin PySem.F.excAttr_ValueError.ga.plain PySem.F.entry_bexc_ga ?_)
  refine @check_slot (model prog w) _ _ ⟨hp, g, d, t + 1, os⟩ "BaseException.__getattribute__" "BaseException" "__getattribute__" (.ref x) [.str "__class__" t] [] _ (by decide +kernel) (by decide +kernel) sub (PySem.F.args_bexc_ga (.ref x) (.str "__class__" t)) ?_
  unfold Builtin.«object.__getattribute__»
  refine wpAny_bind (wpAny_of_eq (a := ((Value.ref x : Value), [Value.str "__class__" t])) (by first | rfl | (simp only [slotArgs]; rfl)) ?_)
  refine wpAny_bind (wpAny_pure (wpAny_bind (L0.at (wpAny_bind (L3.at ?_)))))
  refine wpAny_bind (wpAny_holding (wpAny_call (class_get (s := ⟨hp, g, d, t + 1, os⟩) (ox := ox) (od := od) X I C.hm ?_)))
  refine wpAny_pure ?_
  show wpAny _ _ (handedOut (.ref D)) _ _ _
  rw [handedOut_of (v := .ref D) rfl]
  first
    | exact wpAny_pure (wpAny_pure h)
    | exact wpAny_pure h
    | exact wpAny_pure (wpAny_bind (wpAny_pure (wpAny_pure h)))
theorem kw_kitx (C : L2.ExcC K D) : KitX K (.ref x) (.ref D) (fun h => InstAt h x ox D od) where
  ty := fun _ _ _ I => I.type
  it := fun _ _ X _ => by
    obtain ⟨cdD, hcD, _⟩ := any_some C.hd
    unfold clsIn at hcD
    split at hcD
    · rename_i c' d' cd' sl' ho
      intro A' Q' E' s' k q
      unfold isType loadHead
      exact wpAny_bind (wpAny_loadPart (k _ _ (X _ _ ho)) (wpAny_pure q))
    · cases hcD
  ne := fun h tp dd its n sl X htp => by
    obtain ⟨cdD, hcD, _⟩ := any_some C.hd
    refine Bool.eq_false_iff.mpr fun q => ?_
    have e : D = tp := Value.ref.inj (beq_iff_eq.mp q)
    subst e
    unfold clsIn at hcD
    split at hcD
    · rename_i c' d' cd' sl' ho
      have z := (X _ _ ho).symm.trans htp
      cases z
    · cases hcD
  ca := fun X I k => kw_class C X I k
end
end PySem.W
namespace KW
open PySem PySem.Spec PyProof.Rows L2
/-- an own error class of the text: x its name, C its place, ns its fields, ok what its arguments must be -/
structure ErrC (P : Program) (w : World) (K : Frag) (mg : Str → Option Value) (x : Str) (C : Addr) (ns : List Str) (ok : List V → Prop) : Prop where
  gC : mg x = some (.ref C)
  made : PySem.KErr.Mkd P w K mg C ns ok
  kC : PySem.W.keepIn K (.ref C) = true
  exC : PySem.W.subIn K (.ref C) (.type "BaseException") = some true
  tyC : PySem.W.typeIn K (.ref C) = some (.type "type")
  xf : XfC K C
  is : ExcC K C
  no : ∀ f ∈ ns, PySem.W.findIn K (.ref C) f = some none
section
variable {X : Cx} {x : Str} {C : Addr} {ns : List Str} {ok : List V → Prop}
theorem relO_zip : ∀ {ns : List Str} {vs : List V} {us : List Value}, Vals vs us → ∀ f, RelO (List.lookup f (ns.zip vs)) (List.lookup f (ns.zip us))
  | [], _, _, _, f => by simp [List.lookup, RelO]
  | n :: ns, _, _, .nil, f => by simp [List.lookup, RelO]
  | n :: ns, _, _, .cons r rs, f => by
    rw [List.zip_cons_cons, List.zip_cons_cons]
    by_cases h : f = n
    · subst h
      simp only [List.lookup, beq_self_eq_true]
      exact r
    · have q : (f == n) = false := by simpa using h
      simp only [List.lookup, q]
      exact relO_zip rs f
/-- x(args): the error made -/
def uMk (C : Addr) (ns : List Str) (ok : List V → Prop) (t : TA) : L2.St → Hp → XK → Prop := fun σ H Q => t σ H fun vs H1 => ok vs ∧ ∀ d, H1 d = none → Q (.ref C) (some d) (upd H1 d (.xd (ns.zip vs)))
theorem k_mk {e : Expr} {es : List Expr} {t : TA} {p pos : Pos} {k : Nat} (T : ErrC X.prog X.w X.K X.mg x C ns ok) (hr : Room k X.A) (ha : PA X (e :: es) t) (hg : Gl X x := by rfl) (hdb : (x == ("__debug__" : Str)) = false := by decide)
    (he : starEach (e :: es) X.env = (false, eval e X.env) :: starEach es X.env := by rfl) (hpl : (backTo pos (starEach es X.env)).any (·.1) = false := by rfl) : L2N.PMk X (.Call (.Name x p) (e :: es) [] pos) (uMk C ns ok t) := by
  intro pins s σ H Q I h
  refine wpAny_Call_Name_kw (ld_glob I hg T.gC ?_ hdb)
  refine PySem.W.callWith_K (h₀ := X.base) I.ok.mod.kin T.kC (thn (ha.run pos pins s σ H _ I h) fun us s1 hh => ?_) he hpl
  obtain ⟨vs, H1, I1, r1, okv, q1⟩ := hh
  refine ⟨I1.kIn, ?_⟩
  show wpAny _ _ (call (.ref C) us) _ _ _
  have hlim := I1.nolimit
  have G := I1.mod.glob.keeps I1.bk
  have B : ∃ mb, s1.heap.Ns builtinsNs mb ∧ ∀ x : Str, x ≠ "__name__" → mb x = bootBuiltins x := by
    obtain ⟨mb, h1, h2⟩ := I1.mod.blt
    exact ⟨mb, h1.keeps I1.bk, h2⟩
  obtain ⟨hp, g, dr, tk, os⟩ := s1
  refine wpAny_call (T.made r1 okv I1.kIn hlim G B (by exact hr.hd) (by show X.A.depth + 1 < _; have := hr.dp; omega) fun h' tk' e d M => ?_)
  show L2N.MkP X pins σ Q (.ref e) ⟨h', g, dr, tk', os⟩
  obtain ⟨oe, fv, hoe, hc, hd, hdat, h1, h2⟩ := M.obj
  have hns := M.ns
  obtain ⟨G', g1, g2⟩ := restrict h' fun b => decide (b ≠ e)
  have gk : ∀ b, b ≠ e → G'.get? b = h'.get? b := fun b hb => g1 b (decide_eq_true hb)
  have ge : G'.get? e = none := g2 e (by simp)
  have old : ∀ b o, hp.get? b = some o → G'.get? b = some o := fun b o q => (gk b (Nat.ne_of_lt (Nat.lt_of_lt_of_le (Heap.lt_size q) M.new))).trans (M.keep b o q)
  have ob : ObjOk X.prog X.w (upd H1 d (.xd (ns.zip vs))) G' d (.xd (ns.zip vs)) := ⟨_, hns.at (fun o q => (gk d M.dne).trans q), fun f => relO_zip r1 f⟩
  have J : Inv X pins σ (upd H1 d (.xd (ns.zip vs))) ⟨G', g, dr, tk', os⟩ := I1.laid (t' := tk') old M.dbig ob
  refine ⟨e, oe, fv, ⟨G', g, dr, tk', os⟩, _, .ref C, some d, rfl, J, fun b o q => ?_, ge, hoe, ⟨hc, hd, fun vs' e' => by rw [hdat] at e'; cases e'; exact h2⟩, hdat, h1, ?_, rfl, I1.bare, raises_own T.exC T.tyC, q1 d (I1.hok.fresh M.dbig)⟩
  · by_cases hb : b = e
    · have q' : G'.get? b = some o := q
      rw [hb, ge] at q'; cases q'
    · exact (gk b hb).symm.trans q
  · rw [upd_ne (Ne.symm M.dne)]
    exact I1.hok.fresh M.new
/-- raise x(..) -/
def uRaise (W : WX) (t : L2.St → Hp → XK → Prop) : TS := fun _ σ H => t σ H fun cls d H' => W cls d σ H'
theorem k_raise {W : WX} {e : Expr} {t : L2.St → Hp → XK → Prop} {pos : Pos} (tk : L2N.Takes X W) (he : L2N.PMk X e t) (hc : X.calm = true := by rfl) : PS X (.Raise (some e) none pos) (uRaise W t) := L2N.ps_raise hc tk he
/-- what does not come about -/
def uDead : TE := fun _ _ _ => False
def sDead : TS := fun _ _ _ => False
theorem k_dead {e : Expr} : PE X e uDead := ⟨fun _ _ _ _ _ _ h => h.elim⟩
theorem k_deadS {st : Stmt} : PS X st sDead := ⟨fun _ _ _ _ _ _ h => h.elim⟩
/-- e.f in the suite that holds e -/
def uEf (K : Frag) (a : Addr) (cls : Value) (d : Option Addr) (i : Nat) (f : Str) : TE := fun σ H Q => ∃ (C dd : Addr) (fs : List (Str × V)) (v : V), σ[i]? = some (some (.ref a)) ∧ cls = .ref C ∧ XfC K C ∧ PySem.W.findIn K (.ref C) f = some none ∧ d = some dd ∧ H dd = some (.xd fs) ∧ fs.lookup f = some v ∧ Q v H
theorem k_ef (i : Nat) {a : Addr} {oe : Obj} {cls : Value} {d : Option Addr} {pn : List (Addr × Obj)} {n f : Str} {p pos : Pos} (hz : Zc cls d oe) (hf : ∃ vs, oe.data = .fields vs) (hN : X.N[i]? = some n := by rfl)
    (hv : Vis X.env.scope n := by first | exact Or.inl rfl | exact Or.inr (Or.inl rfl) | exact Or.inr (Or.inr rfl)) (hd : (n == ("__debug__" : Str)) = false := by decide) (hcd : (n == ("__classdict__" : Str)) = false := by decide)
    (hb : attributeBase (.Name n p) f X.env (eval (.Name n p) X.env) = eval (.Name n p) X.env := by rfl) : PE (X.suite a ((a, oe) :: pn)) (.Attribute (.Name n p) f pos) (uEf X.K a cls d i f) := by
  refine ⟨fun pins s σ H Q I h => ?_⟩
  obtain ⟨C, dd, fs, v, e0, e1, xf, no, e2, e3, e4, q⟩ := h
  exact (pe_xf (X := X) xf no hz hf (pe_var (X := X.suite a ((a, oe) :: pn)) hN hv hd hcd) hb).run pins s σ H Q I ⟨.ref a, e0, rfl, e1, dd, fs, v, e2, e3, e4, q⟩
/-- isinstance(e, c) in the suite that holds e -/
def uIsE (K : Frag) (a : Addr) (cls : Value) (d : Option Addr) : List V → Hp → VK → Prop
  | [.ref b, .ref c], H, Q => ∃ (D dd : Addr) (fs : List (Str × V)) (r : Bool), b = a ∧ cls = .ref D ∧ ExcC K D ∧ d = some dd ∧ H dd = some (.xd fs) ∧ PySem.W.kitOne K (.ref D) (.ref c) = some r ∧ Q (.bl r) H
  | [.ref b, .ty T], H, Q => ∃ (D dd : Addr) (fs : List (Str × V)) (r : Bool), b = a ∧ cls = .ref D ∧ ExcC K D ∧ d = some dd ∧ H dd = some (.xd fs) ∧ PySem.W.kitOne K (.ref D) (.type T) = some r ∧ Q (.bl r) H
  | _, _, _ => False
theorem c_isE {a : Addr} {oe : Obj} {cls : Value} {d : Option Addr} {pn : List (Addr × Obj)} (hz : Zc cls d oe) (hf : ∃ vs, oe.data = .fields vs) : CallR (X.suite a ((a, oe) :: pn)) (.builtin "isinstance") (uIsE X.K a cls d) := by
  intro pins s σ H xs us Q I r h
  have key : ∀ {D dd : Addr} {fs : List (Str × V)} {cv : Value} {b : Bool}, cls = .ref D → ExcC X.K D → d = some dd → H dd = some (.xd fs) → PySem.W.kitOne X.K (.ref D) cv = some b → Q (.bl b) H →
      wpAny (model X.prog X.w) (X.A.mark (some (.ref a))) (call (.builtin "isinstance") [.ref a, cv]) (EP (X.suite a ((a, oe) :: pn)) pins σ Q) (fun _ _ => False) s := fun {D dd fs cv b} e1 C e2 e3 e4 q => by
    subst e1 e2
    obtain ⟨hget, _⟩ := I.pin (a, oe) (List.mem_append.mpr (.inl List.mem_cons_self))
    obtain ⟨vs, hv⟩ := hf
    obtain ⟨mA, hns, hr⟩ := (show ObjOk X.prog X.w H s.heap dd (.xd fs) from I.hok dd _ e3)
    obtain ⟨od, ho, hl⟩ := lookIn_ns hns
    have J : PySem.W.InstAt s.heap a oe D (some od) := by
      refine ⟨hget, hz.1, by unfold PySem.W.notCls; rw [hv] <;> rfl, ?_⟩
      rw [hz.2]
      exact ho
    exact PySem.W.kia_one (PySem.W.kw_kitx C) I.kIn J e4 (fun z => nomatch z) fun tk => ⟨.bl b, H, I.kept (t' := tk) fun _ _ z => z, rfl, q⟩
  unfold uIsE at h
  split at h
  · obtain ⟨D, dd, fs, b, rfl, e1, C, e2, e3, e4, q⟩ := h
    cases r with
    | cons rx rr =>
      cases rr with
      | cons rt rr =>
        cases rr
        cases rx
        cases rt
        exact key e1 C e2 e3 e4 q
  · obtain ⟨D, dd, fs, b, rfl, e1, C, e2, e3, e4, q⟩ := h
    cases r with
    | cons rx rr =>
      cases rr with
      | cons rt rr =>
        cases rr
        cases rx
        cases rt
        exact key e1 C e2 e3 e4 q
  · exact h.elim
theorem k_isE {a : Addr} {oe : Obj} {cls : Value} {d : Option Addr} {pn : List (Addr × Obj)} {e : Expr} {es : List Expr} {t : TA} {p pos : Pos} (hz : Zc cls d oe) (hf : ∃ vs, oe.data = .fields vs) (hm : X.mg "isinstance" = none) (ha : PA (X.suite a ((a, oe) :: pn)) (e :: es) t) (hg : Gl X "isinstance" := by rfl)
    (he : starEach (e :: es) X.env = (false, eval e X.env) :: starEach es X.env := by rfl) (hpl : (backTo pos (starEach es X.env)).any (·.1) = false := by rfl) : PE (X.suite a ((a, oe) :: pn)) (.Call (.Name "isinstance" p) (e :: es) [] pos) (tCB (uIsE X.K a cls d) t) :=
  pe_callB (c_isE hz hf) hg hm (by decide +kernel) ha (by decide) (by decide) he hpl
end
end KW

set_option Elab.async false
set_option linter.all false
set_option maxRecDepth 100000
set_option maxHeartbeats 4000000
/-! Kw2b: instances of plain classes: made, their fields and methods -/
namespace KW
open PySem PySem.Spec PyProof.Rows L2
/-- a plain class of the text and the names of its fields -/
structure ClsA (K : Frag) (mg : Str → Option Value) (x : Str) (C : Addr) (ns : List Str) : Prop where
  gC : mg x = some (.ref C)
  cls : Cls K C
  no : ∀ f ∈ ns, NoAttr K C f
/-- e.f -/
def uGet (K : Frag) (f : Str) : V → Hp → VK → Prop
  | .ref a, H, Q => ∃ C dx fs v, H a = some (.ins C dx fs) ∧ Cls K C ∧ NoAttr K C f ∧ fs.lookup f = some v ∧ Q v H
  | _, _, _ => False
def uFld (K : Frag) (t : TE) (f : Str) : TE := fun σ H Q => t σ H fun x H1 => uGet K f x H1 Q
section
variable {X : Cx}
theorem k_fld {e : Expr} {t : TE} {f : Str} {pos : Pos} (he : PE X e t) (hb : attributeBase e f X.env (eval e X.env) = eval e X.env) : PE X (.Attribute e f pos) (uFld X.K t f) := by
  refine PEw (pe_fld (PEw he (t' := fun σ H Q => t σ H Q) fun _ _ _ h => h) hb) fun σ H Q h => ?_
  unfold uFld at h
  unfold tFld
  have e : (fun x H1 => uGet X.K f x H1 Q) = fun x H1 => ∃ a C dx fs v, x = .ref a ∧ H1 a = some (.ins C dx fs) ∧ Cls X.K C ∧ NoAttr X.K C f ∧ fs.lookup f = some v ∧ Q v H1 := by
    funext x H1
    cases x <;> simp only [uGet, eq_iff_iff] <;> first
      | exact ⟨False.elim, fun ⟨_, _, _, _, _, z, _⟩ => nomatch z⟩
      | (rename_i p
         exact ⟨fun ⟨C, dx, fs, v, h⟩ => ⟨p, C, dx, fs, v, rfl, h⟩, fun ⟨a, C, dx, fs, v, z, h⟩ => by cases z; exact ⟨C, dx, fs, v, h⟩⟩)
  rw [e] at h
  exact h
/-- o.f = v -/
def uPut (K : Frag) (f : Str) : V → V → Hp → (Hp → Prop) → Prop
  | .ref a, y, H, Q => ∃ C dx fs, H a = some (.ins C dx fs) ∧ Cls K C ∧ NoAttr K C f ∧ fs.length < 1000 ∧ Q (upd H a (.ins C dx (putF f y fs)))
  | _, _, _, _ => False
def uSFld (K : Frag) (ta tv : TE) (f : Str) : TS := fun D σ H => tv σ H fun y H1 => ta σ H1 fun x H2 => uPut K f x y H2 fun H3 => D.nx σ H3
theorem k_sfld {o value : Expr} {ta tv : TE} {f : Str} {pos' pos : Pos} (ha : PE X o ta) (hv : PE X value tv) (hs : swapsWith value (some (.Attribute o f pos')) pos.line X.env = pure false) : PS X (.Assign [.Attribute o f pos'] value pos) (uSFld X.K ta tv f) := by
  refine PSw (ps_fld ha hv hs) fun D σ H h => ?_
  unfold uSFld at h
  unfold sFld
  have e : (fun (y : V) (H1 : Hp) => ta σ H1 fun x H2 => uPut X.K f x y H2 fun H3 => D.nx σ H3) = fun y H1 => ta σ H1 fun x H2 => ∃ a C dx fs, x = .ref a ∧ H2 a = some (.ins C dx fs) ∧ Cls X.K C ∧ NoAttr X.K C f ∧ fs.length < 1000 ∧ D.nx σ (upd H2 a (.ins C dx (putF f y fs))) := by
    funext y H1
    refine congrArg (ta σ H1) ?_
    funext x H2
    cases x <;> simp only [uPut, eq_iff_iff] <;> first
      | exact ⟨False.elim, fun ⟨_, _, _, _, z, _⟩ => nomatch z⟩
      | (rename_i p
         exact ⟨fun ⟨C, dx, fs, h⟩ => ⟨p, C, dx, fs, rfl, h⟩, fun ⟨a, C, dx, fs, z, h⟩ => by cases z; exact ⟨C, dx, fs, h⟩⟩)
  rw [e] at h
  exact h
end
section
variable {K : Frag} {mg : Str → Option Value} {x f : Str} {C a dx : Addr} {ns : List Str} {fs fs' : List (Str × V)} {v y : V} {H : Hp}
theorem get_l {Q : VK} (h : H a = some (.ins C dx fs)) (c : ClsA K mg x C ns) (m : f ∈ ns) (l : fs.lookup f = some v) (q : Q v H) : uGet K f (.ref a) H Q := ⟨C, dx, fs, v, h, c.cls, c.no f m, l, q⟩
theorem put_l {Q : Hp → Prop} (h : H a = some (.ins C dx fs)) (c : ClsA K mg x C ns) (m : f ∈ ns) (z : fs.length < 1000) (q : Q (upd H a (.ins C dx (putF f y fs)))) : uPut K f (.ref a) y H Q := ⟨C, dx, fs, h, c.cls, c.no f m, z, q⟩
end
/-! ### methods -/
/-- a def at f: ps its parameters, dvs its defaults -/
structure DfnAt (K : Frag) (x qual : Str) (st : Stmt) (ps : List Str) (dvs : List V) (f : Addr) : Prop where
  ex : ∃ fd, FunD K x qual (defArgs st) (defBody st) (defScope st) dvs [] f fd ∧ ∀ j, j ≤ dvs.length → ∃ ds, Vals (dvs.drop j) ds ∧ Binds K fd ps ds
/-- the method m of the class C -/
structure MetAt (K : Frag) (C : Addr) (m qual : Str) (st : Stmt) (ps : List Str) : Prop where
  ex : ∃ f, Meth K C m f ∧ DfnAt K m qual st ps [] f
/-- the __init__ of the class x at C -/
structure IniAt (K : Frag) (C : Addr) (qual : Str) (st : Stmt) (ps : List Str) (dvs : List V) : Prop where
  ex : ∃ f, Mk K C f ∧ DfnAt K "__init__" qual st ps dvs f
structure CalM (P : Program) (w : World) (K : Frag) (mg : Str → Option Value) (base : Heap) (k : Nat) (C : Addr) (m : Str) (sp : Sp) : Prop where
  cls : Cls K C
  ex : ∃ (f : Addr) (fd : FuncData) (ps : List Str), Meth K C m f ∧ Binds K fd ps [] ∧ FnOk P w K mg base (L2N.CX P w) k f fd ps sp
structure CalI (P : Program) (w : World) (K : Frag) (mg : Str → Option Value) (base : Heap) (k : Nat) (x : Str) (C : Addr) (dvs : List V) (sp : Sp) : Prop where
  ex : mg x = some (.ref C) ∧ ∃ (f : Addr) (fd : FuncData) (ps : List Str), Mk K C f ∧ FnOk P w K mg base (L2N.CX P w) k f fd ps sp ∧ ∀ j, j ≤ dvs.length → ∃ ds, Vals (dvs.drop j) ds ∧ Binds K fd ps ds
section
variable {P : Program} {w : World} {K : Frag} {mg : Str → Option Value} {base : Heap}
theorem DfnAt.fn {x qual : Str} {st : Stmt} {N ps : List Str} {dvs : List V} {f : Addr} {k : Nat} {sp : Sp} (D : DfnAt K x qual st ps dvs f) (S : FnScope N ps (defScope st)) (len : ∀ vs H Q E, sp vs H Q E → vs.length = ps.length)
    (hbody : ∀ (f : Addr) (cdv : Value) (A : Around) (outer : List Env) (s : Shared) (H : Hp) (vs : List V) (Q : VK) (E : XK), Room k (A.deeper (envOfC qual (defScope st) s.heap.objs.size f cdv)) → sp vs H Q E →
      ∃ t, PSs (cxOf (L2N.CX P w) P w K mg base N qual (defScope st) f cdv A outer s H E) (defBody st) t ∧ t { nx := fun _ H' => Q .non H', rt := Q } (start N vs) H) :
    ∃ fd, FnOk P w K mg base (L2N.CX P w) (k + 1) f fd ps sp ∧ ∀ j, j ≤ dvs.length → ∃ ds, Vals (dvs.drop j) ds ∧ Binds K fd ps ds := by
  obtain ⟨fd, F, hb⟩ := D.ex
  exact ⟨fd, F.ok S len fun cdv A outer s H vs Q E hr hsp => hbody f cdv A outer s H vs Q E hr hsp, hb⟩
theorem MetAt.ok {C : Addr} {m qual : Str} {st : Stmt} {N ps : List Str} {k : Nat} {sp : Sp} (D : MetAt K C m qual st ps) (c : Cls K C) (S : FnScope N ps (defScope st)) (len : ∀ vs H Q E, sp vs H Q E → vs.length = ps.length)
    (hbody : ∀ (f : Addr) (cdv : Value) (A : Around) (outer : List Env) (s : Shared) (H : Hp) (vs : List V) (Q : VK) (E : XK), Room k (A.deeper (envOfC qual (defScope st) s.heap.objs.size f cdv)) → sp vs H Q E →
      ∃ t, PSs (cxOf (L2N.CX P w) P w K mg base N qual (defScope st) f cdv A outer s H E) (defBody st) t ∧ t { nx := fun _ H' => Q .non H', rt := Q } (start N vs) H) : CalM P w K mg base (k + 1) C m sp := by
  obtain ⟨f, M, D⟩ := D.ex
  obtain ⟨fd, F, hb⟩ := D.fn S len hbody
  obtain ⟨ds, hd, b⟩ := hb 0 (Nat.le_refl _)
  cases hd
  exact ⟨c, f, fd, ps, M, b, F⟩
theorem IniAt.ok {x : Str} {C : Addr} {qual : Str} {st : Stmt} {N ps : List Str} {dvs : List V} {k : Nat} {sp : Sp} (D : IniAt K C qual st ps dvs) (g : mg x = some (.ref C)) (S : FnScope N ps (defScope st)) (len : ∀ vs H Q E, sp vs H Q E → vs.length = ps.length)
    (hbody : ∀ (f : Addr) (cdv : Value) (A : Around) (outer : List Env) (s : Shared) (H : Hp) (vs : List V) (Q : VK) (E : XK), Room k (A.deeper (envOfC qual (defScope st) s.heap.objs.size f cdv)) → sp vs H Q E →
      ∃ t, PSs (cxOf (L2N.CX P w) P w K mg base N qual (defScope st) f cdv A outer s H E) (defBody st) t ∧ t { nx := fun _ H' => Q .non H', rt := Q } (start N vs) H) : CalI P w K mg base (k + 1) x C dvs sp := by
  obtain ⟨f, M, D⟩ := D.ex
  obtain ⟨fd, F, hb⟩ := D.fn S len hbody
  exact ⟨g, f, fd, ps, M, F, hb⟩
end
/-- o.m(args): what it may let out is taken at the slots as they stand -/
def uMet (C : Addr) (m : Str) (sp : Sp) (E : L2.St → XK) (ta : TE) (t : TA) : TE := fun σ H Q => ta σ H fun x H1 => uMt C m sp (E σ) t σ x H1 Q
where uMt (C : Addr) (m : Str) (sp : Sp) (E : XK) (t : TA) (σ : L2.St) : V → Hp → VK → Prop
  | .ref a, H1, Q => ∃ dx fs, H1 a = some (.ins C dx fs) ∧ fs.lookup m = none ∧ t σ H1 fun vs H2 => sp (.ref a :: vs) H2 Q E
  | _, _, _ => False
section
variable {X : Cx} {k : Nat} {C : Addr} {m x : Str} {sp : Sp} {o e : Expr} {es : List Expr} {ta : TE} {t : TA} {apos p pos : Pos} {pl : Sem Bool}
theorem uMt_of {E : XK} {σ : L2.St} {x : V} {H : Hp} {Q : VK} (h : uMet.uMt C m sp E t σ x H Q) : ∃ a dx fs, x = .ref a ∧ H a = some (.ins C dx fs) ∧ fs.lookup m = none ∧ t σ H fun vs H2 => sp (.ref a :: vs) H2 Q E := by
  cases x with
  | ref a => obtain ⟨dx, fs, h⟩ := h; exact ⟨a, dx, fs, rfl, h⟩
  | _ => exact False.elim h
theorem km_of {E : L2.St → XK} (hx : ∀ σ, PassesAt (L2N.CX X.prog X.w) X σ (E σ)) (c : CalM X.prog X.w X.K X.mg X.base k C m sp) (hr : Room k X.A) (he : PE X o ta) (ha : PA X (e :: es) t)
    (hst : starEach (e :: es) X.env = (false, eval e X.env) :: starEach es X.env) (hpl : (backTo pos (starEach es X.env)).any (·.1) = false)
    (ht : eval (.Call (.Attribute o m apos) (e :: es) [] pos) X.env = (do
      let ov ← eval o X.env
      standAt apos.atName
      let (f, first) ← holding [ov] (getMethod ov m pl)
      callWith pos f first (backTo pos (starEach (e :: es) X.env)) (backToKw pos (keywordEach [] X.env)))) :
    PE X (.Call (.Attribute o m apos) (e :: es) [] pos) (uMet C m sp E ta t) := by
  obtain ⟨cl, f, fd, ps, hm, hb, F⟩ := c
  refine ⟨fun pins s σ H Q I h => ?_⟩
  refine PySem.W.methodCall_KW (pl := pl) (thn (he.run pins s σ H _ I h) fun u s1 ⟨x, H1, I1, rx, hu⟩ => ?_) ht
  obtain ⟨a, dx, fs, ex, ea, l, q⟩ := uMt_of hu
  subst ex
  obtain rfl : u = Value.ref a := rx
  refine getmeth_ok I1 ea cl hm l ?_
  refine PySem.W.callWith_K (h₀ := X.base) I.ok.mod.kin hm.kp (thn (ha.run pos pins s1 σ H1 _ I1 q) fun us s2 ⟨vs, H2, I2, r, q2⟩ => ⟨I2.kIn, ?_⟩) hst hpl
  exact run_fnS (us := .ref a :: us) (vs := .ref a :: vs) F hr hb (hx σ) I2 (.cons rfl r) q2
theorem km0_of {E : L2.St → XK} (hx : ∀ σ, PassesAt (L2N.CX X.prog X.w) X σ (E σ)) (c : CalM X.prog X.w X.K X.mg X.base k C m sp) (hr : Room k X.A) (he : PE X o ta)
    (ht : eval (.Call (.Attribute o m apos) [] [] pos) X.env = (do
      let ov ← eval o X.env
      standAt apos.atName
      let (f, first) ← holding [ov] (getMethod ov m pl)
      callWith pos f first (backTo pos (starEach [] X.env)) (backToKw pos (keywordEach [] X.env)))) :
    PE X (.Call (.Attribute o m apos) [] [] pos) (uMet C m sp E ta tNil) := by
  obtain ⟨cl, f, fd, ps, hm, hb, F⟩ := c
  refine ⟨fun pins s σ H Q I h => ?_⟩
  refine PySem.W.methodCall_KW (pl := pl) (thn (he.run pins s σ H _ I h) fun u s1 ⟨x, H1, I1, rx, hu⟩ => ?_) ht
  obtain ⟨a, dx, fs, ex, ea, l, q⟩ := uMt_of hu
  subst ex
  obtain rfl : u = Value.ref a := rx
  refine getmeth_ok I1 ea cl hm l ?_
  exact PySem.W.callWith_K0 (first := [.ref a]) I1.kIn hm.kp (run_fnS (us := [.ref a]) (vs := [.ref a]) F hr hb (hx σ) I1 (.cons rfl .nil) q)
theorem km (c : CalM X.prog X.w X.K X.mg X.base k C m sp) (hr : Room k X.A) (he : PE X o ta) (ha : PA X (e :: es) t)
    (hst : starEach (e :: es) X.env = (false, eval e X.env) :: starEach es X.env := by rfl) (hpl : (backTo pos (starEach es X.env)).any (·.1) = false := by rfl)
    (ht : eval (.Call (.Attribute o m apos) (e :: es) [] pos) X.env = (do
      let ov ← eval o X.env
      standAt apos.atName
      let (f, first) ← holding [ov] (getMethod ov m pl)
      callWith pos f first (backTo pos (starEach (e :: es) X.env)) (backToKw pos (keywordEach [] X.env))) := by rfl) :
    PE X (.Call (.Attribute o m apos) (e :: es) [] pos) (uMet C m sp (fun _ => E0) ta t) := km_of (fun _ => passAt0) c hr he ha hst hpl ht
theorem km0 (c : CalM X.prog X.w X.K X.mg X.base k C m sp) (hr : Room k X.A) (he : PE X o ta)
    (ht : eval (.Call (.Attribute o m apos) [] [] pos) X.env = (do
      let ov ← eval o X.env
      standAt apos.atName
      let (f, first) ← holding [ov] (getMethod ov m pl)
      callWith pos f first (backTo pos (starEach [] X.env)) (backToKw pos (keywordEach [] X.env))) := by rfl) :
    PE X (.Call (.Attribute o m apos) [] [] pos) (uMet C m sp (fun _ => E0) ta tNil) := km0_of (fun _ => passAt0) c hr he ht
theorem kmX {W : WX} (tk : L2N.Takes X W) (c : CalM X.prog X.w X.K X.mg X.base k C m sp) (hr : Room k X.A) (he : PE X o ta) (ha : PA X (e :: es) t)
    (hst : starEach (e :: es) X.env = (false, eval e X.env) :: starEach es X.env := by rfl) (hpl : (backTo pos (starEach es X.env)).any (·.1) = false := by rfl)
    (ht : eval (.Call (.Attribute o m apos) (e :: es) [] pos) X.env = (do
      let ov ← eval o X.env
      standAt apos.atName
      let (f, first) ← holding [ov] (getMethod ov m pl)
      callWith pos f first (backTo pos (starEach (e :: es) X.env)) (backToKw pos (keywordEach [] X.env))) := by rfl) :
    PE X (.Call (.Attribute o m apos) (e :: es) [] pos) (uMet C m sp (WE W) ta t) := km_of (fun σ => L2N.passAt tk σ) c hr he ha hst hpl ht
theorem kmX0 {W : WX} (tk : L2N.Takes X W) (c : CalM X.prog X.w X.K X.mg X.base k C m sp) (hr : Room k X.A) (he : PE X o ta)
    (ht : eval (.Call (.Attribute o m apos) [] [] pos) X.env = (do
      let ov ← eval o X.env
      standAt apos.atName
      let (f, first) ← holding [ov] (getMethod ov m pl)
      callWith pos f first (backTo pos (starEach [] X.env)) (backToKw pos (keywordEach [] X.env))) := by rfl) :
    PE X (.Call (.Attribute o m apos) [] [] pos) (uMet C m sp (WE W) ta tNil) := km0_of (fun σ => L2N.passAt tk σ) c hr he ht
theorem met_l {E : XK} {a dx : Addr} {fs : List (Str × V)} {σ : L2.St} {H : Hp} {Q : VK} (h : H a = some (.ins C dx fs)) (l : fs.lookup m = none) (q : t σ H fun vs H2 => sp (.ref a :: vs) H2 Q E) : uMet.uMt C m sp E t σ (.ref a) H Q := ⟨dx, fs, h, l, q⟩
/-- x(args): an instance made; the last defaults fill up -/
def uMake (C : Addr) (sp : Sp) (dvs : List V) (t : TA) : TE := fun σ H Q => t σ H fun vs H1 => ∀ x dx, H1 x = none → H1 dx = none → dx ≠ x → sp (.ref x :: (vs ++ dvs)) (upd (upd H1 dx (.own x)) x (.ins C dx [])) (fun v H2 => v = .non ∧ Q (.ref x) H2) E0
theorem pass0 : Passes (L2N.CX X.prog X.w) X E0 := fun _ _ _ _ _ _ _ h => by
  obtain ⟨_, _, _, _, _, _, _, _, _, _, _, _, z⟩ := h
  exact z.elim
theorem kmk {dvs : List V} (j : Nat) (c : CalI X.prog X.w X.K X.mg X.base k x C dvs sp) (hr : Room (k + 1) X.A) (ha : PA X (e :: es) t) (hj : j ≤ dvs.length := by decide) (hg : Gl X x := by rfl) (hdb : (x == ("__debug__" : Str)) = false := by decide)
    (he : starEach (e :: es) X.env = (false, eval e X.env) :: starEach es X.env := by rfl) (hpl : (backTo pos (starEach es X.env)).any (·.1) = false := by rfl) : PE X (.Call (.Name x p) (e :: es) [] pos) (uMake C sp (dvs.drop j) t) := by
  obtain ⟨hm, f, fd, ps, M, F, hb⟩ := c
  obtain ⟨ds, hd, b⟩ := hb j hj
  exact pe_make M F hr hg hm b hd pass0 ha hdb he hpl
theorem kmk0 {dvs : List V} (c : CalI X.prog X.w X.K X.mg X.base k x C dvs sp) (hr : Room (k + 1) X.A) (hg : Gl X x := by rfl) (hdb : (x == ("__debug__" : Str)) = false := by decide) : PE X (.Call (.Name x p) [] [] pos) (uMake C sp dvs tNil) := by
  obtain ⟨hm, f, fd, ps, M, F, hb⟩ := c
  obtain ⟨ds, hd, b⟩ := hb 0 (Nat.zero_le _)
  exact pe_make0 M F hr hg hm b hd pass0 hdb
end
end KW

set_option Elab.async false
set_option linter.all false
set_option maxRecDepth 100000
set_option maxHeartbeats 4000000
/-! Kw2c: del xs[a:] of a list -/
namespace KW
open PySem PySem.Spec PyProof.Rows L2
theorem fm_take {α : Type} (p : Nat → Bool) (a : Nat) : ∀ (l : List α) (j : Nat), (∀ k, j ≤ k → k < j + l.length → p k = decide (a ≤ k)) → (l.zipIdx j).filterMap (fun x => if p x.2 = true then none else some x.1) = l.take (a - j)
  | [], j, _ => by simp
  | x :: l, j, h => by
    have h0 := h j (Nat.le_refl _) (by simp)
    have ih := fm_take p a l (j + 1) fun k h1 h2 => h k (by omega) (by simp only [List.length_cons]; omega)
    rw [List.zipIdx_cons, List.filterMap_cons]
    by_cases c : a ≤ j
    · simp only [h0, c, decide_true, if_true]
      rw [ih, show a - j = 0 by omega, show a - (j + 1) = 0 by omega]
      simp
    · simp only [h0, c, decide_false, Bool.false_eq_true, if_false]
      rw [ih, show a - j = (a - (j + 1)) + 1 by omega]
      rfl
section
variable {prog : Program} {w : World} {A : Around} {E : Value → Shared → Prop} {s : Shared}
theorem bounds_from (a n : Nat) : sliceBounds (some (a : Int)) none none n = (((min a n : Nat) : Int), (n : Int), 1) := by
  simp only [sliceBounds, Option.getD_none]
  have h1 : ¬ ((a : Int) < 0) := by omega
  simp only [h1, if_false, show (1 : Int) > 0 by decide, if_true]
  congr 1
  omega
theorem delItem_cut {l sl : Addr} {items : Array Value} {n : Nat} {vl : Value} {a : Nat} {Q : Unit → Shared → Prop}
    (e : s.heap.get? l = some { cls := .type "list", data := .seq items n })
    (hs : s.heap.IsSliceOf sl vl .none .none) (pl : IsPart vl (some (a : Int)))
    (hsz : items.size ≤ sizeLine) (h : ∀ F : Array Value → Array Value, F items = (items.toList.take a).toArray → Q () { s with heap := s.heap.update l (Obj.mapSeq F) }) :
    wpAny (model prog w) A (delItem (.ref l) (.ref sl)) Q E s := by
  have hl : s.heap.IsList l items := PySem.IsL.isList e
  obtain ⟨os, hos, hcs, hds⟩ := id hs
  have hTs : s.TypeIs (.ref sl) "slice" := ⟨os, hos, hcs⟩
  have hstep : ¬ ((rawPart none == rawInt 0) = true) := Bool.false_ne_true
  refine wpAny_delItem_slot hl.typeIs (by decide) PySem.F.slot_list_delitem ?_
  refine wpAny_call_entry PySem.F.slot_list_delitem hl.typeIs PySem.F.entry_list_delitem ?_ (PySem.F.args_list_delitem_2 _ _)
  show wpAny _ _ (Builtin.List.listSubscript? (.ref sl) >>= _) _ _ s
  refine wpAny_bind ?_
  unfold Builtin.List.listSubscript?
  refine wpAny_bind (wpAny_specialOf hTs slice_no_index ?_)
  simp only [Option.isNone_none, if_true]
  refine wpAny_pure ?_
  show wpAny _ _ (typeOf (.ref sl) >>= _) _ _ s
  refine wpAny_bind (wpAny_typeOf hTs ?_)
  first
    | rw [if_neg (by decide)]
    | refine PySem.W.KFB.if_not (by decide) ?_
  rw [listSliceParts_eq]
  refine wpAny_bind (wpAny_bind (wpAny_field hos hds (x := .none) rfl (wpAny_bind (wpAny_listPart .none ?_))))
  rw [if_neg hstep]
  refine wpAny_bind (wpAny_field hos hds (x := vl) rfl (wpAny_bind (wpAny_listPart pl ?_)))
  refine wpAny_bind (wpAny_field hos hds (x := .none) rfl (wpAny_bind (wpAny_listPart .none (wpAny_pure ?_))))
  unfold Builtin.List.listItems
  refine wpAny_bind (wpAny_bind (wpAny_seqItems e rfl (wpAny_pure ?_)))
  refine wpAny_bind (wpAny_of_eq ((sliceIndices_raw (some (a : Int)) none none items.size (by simp)).trans (congrArg (pure : Int × Int × Int → Sem (Int × Int × Int)) (bounds_from a items.size))) ?_)
  refine wpAny_bind (wpAny_rule ?_)
  have key : ∀ (p : Nat → Bool), (∀ k, k < items.size → p k = decide (a ≤ k)) → (List.filterMap (fun x : Value × Nat => if p x.2 = true then none else some x.1) items.toList.zipIdx).toArray = (items.toList.take a).toArray := fun p hp => by
    rw [fm_take p a items.toList 0 fun k _ h2 => hp k (by rw [Array.length_toList] at h2; omega)]
    rfl
  refine wpAny_bind (m := Builtin.List.listUpdate (.ref l) _) ?_
  show wpAny _ _ (updateSeq l _) _ _ _
  have kk : ∀ k, k < items.size → (if (1 : Int) > 0 then decide (((min a items.size : Nat) : Int) ≤ (k : Int)) && decide ((k : Int) < (items.size : Int)) && (((k : Int) - ((min a items.size : Nat) : Int)) % 1 == 0) else false) = decide (a ≤ k) := fun k hk => by
    rw [if_pos (by decide)]
    have e1 : (((k : Int) - ((min a items.size : Nat) : Int)) % 1 == 0) = true := by rw [Int.emod_one]; rfl
    rw [e1, Bool.and_true]
    by_cases c : a ≤ k
    · rw [decide_eq_true c, decide_eq_true (by omega), decide_eq_true (by omega)]
      rfl
    · rw [decide_eq_false c, decide_eq_false (by omega)]
      rfl
  refine wpAny_updateSeq (hz := hsz) (_hz' := ?z) e rfl ?_
  case z =>
    refine Nat.le_trans (Nat.le_of_eq (congrArg Array.size (key _ ?_))) ?_
    · exact fun k hk => (kk k hk)
    · rw [List.size_toArray, List.length_take, Array.length_toList]
      omega
  refine wpAny_bind (wpAny_letGo ?_)
  refine wpAny_pure ⟨.none, rfl, h _ (key _ ?_)⟩
  exact fun k hk => (kk k hk)
end
section
variable {X : Cx}
/-- del xs[a:] -/
def uDelC : V → Option Int → Hp → (Hp → Prop) → Prop
  | .ref l, some a, H, Q => ∃ xs, H l = some (.lst xs) ∧ 0 ≤ a ∧ Q (upd H l (.lst (xs.take a.toNat)))
  | _, _, _, _ => False
def uDelSl (to ti : TE) : TS := fun D σ H => to σ H fun x H1 => tPart ti σ H1 fun l H2 => uDelC x l H2 fun H3 => D.nx σ H3
theorem dels_l {H : Hp} {p : Addr} {xs : List V} {a : Int} {Q : Hp → Prop} (h : H p = some (.lst xs)) (e : 0 ≤ a) (q : Q (upd H p (.lst (xs.take a.toNat)))) : uDelC (.ref p) (some a) H Q := ⟨xs, h, e, q⟩
theorem k_delsl {o i : Expr} {to ti : TE} {p2 tpos pos : Pos} (ho : PE X o to) (hi : PE X i ti) : PS X (.Delete [.Subscript o (.Slice (some i) none none p2) tpos] pos) (uDelSl to ti) := by
  refine ⟨fun pins s σ H D I h => ?_⟩
  refine wpAny_Delete (wpAny_deleteEach_cons (wpAny_delete_Subscript (thn (ho.run pins s σ H _ I h) fun u s1 ⟨x, H1, I1, rx, q1⟩ => ?_)))
  refine wpAny_Slice (thn ((po_some hi).run pins s1 σ H1 _ I1 q1) fun vl s2 ⟨l, H2, I2, pl, q2⟩ => ?_)
  rw [evalPart_none]
  refine wpAny_pure (wpAny_pure ?_)
  have I4 : Inv X pins σ H2 { s2 with heap := s2.heap.push { cls := .type "slice", data := .fields #[vl, .none, .none] } } := I2.kept (t' := s2.toks) fun b ob q => Heap.get?_push_of_some _ q
  unfold uDelC at q2
  split at q2
  · rename_i w1 p a w2
    obtain ⟨xs, hH, h0, q2⟩ := q2
    obtain rfl : u = Value.ref p := rx
    obtain ⟨a', rfl⟩ := Int.eq_ofNat_of_zero_le h0
    obtain ⟨z, its, n, r, hl, e⟩ := I4.lstM hH
    rw [Int.toNat_natCast] at q2
    refine delItem_cut (a := a') e (Heap.IsSliceOf.new ..) pl (by rw [List.size_toArray]; omega) fun F hF => wpAny_deleteEach_nil ⟨σ, _, ?_, q2⟩
    refine I4.lset (its' := its.take a') (t' := s2.toks) hH e hF (r.take _) ?_
    rw [List.length_take]
    omega
  · exact q2.elim
end
end KW

set_option Elab.async false
set_option linter.all false
set_option maxRecDepth 100000
set_option maxHeartbeats 4000000
/-! Kw2d: dicts, texts and built-ins -/
namespace KW
open PySem PySem.Spec PyProof.Rows L2
section
variable {X : Cx} {o i e value : Expr} {pos pos' tpos : Pos} {td ty tv : TE}
/-- d[y] -/
def uDGet : V → V → Hp → VK → Prop
  | .ref a, .int i, H, Q => ∃ kvs v, H a = some (.dK kvs) ∧ valV kvs (.inl i) = some v ∧ Q v H
  | .ref a, .str i, H, Q => ∃ kvs v, H a = some (.dK kvs) ∧ valV kvs (.inr i) = some v ∧ Q v H
  | _, _, _, _ => False
theorem uDGet_of {x y : V} {H2 : Hp} {Q : VK} (q : uDGet x y H2 Q) : ∃ a v, x = .ref a ∧ DGet H2 a y (some v) ∧ Q v H2 := by
  unfold uDGet at q
  split at q
  · obtain ⟨kvs, v, h1, h2, q⟩ := q
    exact ⟨_, v, rfl, by rw [← h2]; exact DGet.k (k := .inl _) h1, q⟩
  · obtain ⟨kvs, v, h1, h2, q⟩ := q
    exact ⟨_, v, rfl, by rw [← h2]; exact DGet.k (k := .inr _) h1, q⟩
  · exact q.elim
def tDG (td ty : TE) : TE := fun σ H Q => td σ H fun x H1 => ty σ H1 fun y H2 => uDGet x y H2 Q
theorem k_dget (hu : X.A.units + 1 < cLine) (ho : PE X o td) (hi : PE X i ty) (hs : NoSl i := by intro _ _; rfl) : PE X (.Subscript o i pos) (tDG td ty) := by
  refine ⟨fun pins s σ H Q I h => ?_⟩
  refine subD_of PySem.F.slot_dict_getitem.lookup hs (thn (ho.run pins s σ H _ I h) fun u s1 ⟨x, H1, I1, rx, q1⟩ => thn (hi.run pins s1 σ H1 _ I1 q1) fun iv s2 ⟨y, H2, I2, ry, q2⟩ => ?_)
  obtain ⟨a, v, ex, g, q5⟩ := uDGet_of q2
  subst ex
  obtain rfl : u = Value.ref a := rx
  exact ⟨dict_typeIs I2 g, d_getItem hu I2 g ry fun w' s3 I3 rw' => ⟨v, H2, I3, rw', q5⟩⟩
/-- y in d -/
def uDIn : V → V → Hp → (Bool → Prop) → Prop
  | .int i, .ref a, H, Q => ∃ kvs, H a = some (.dK kvs) ∧ Q (valV kvs (.inl i)).isSome
  | .str i, .ref a, H, Q => ∃ kvs, H a = some (.dK kvs) ∧ Q (valV kvs (.inr i)).isSome
  | _, _, _, _ => False
theorem uDIn_of {x y : V} {H2 : Hp} {Q : Bool → Prop} (q : uDIn y x H2 Q) : ∃ a o, x = .ref a ∧ DGet H2 a y o ∧ Q o.isSome := by
  unfold uDIn at q
  split at q
  · obtain ⟨kvs, h1, q⟩ := q
    exact ⟨_, _, rfl, DGet.k (k := .inl _) h1, q⟩
  · obtain ⟨kvs, h1, q⟩ := q
    exact ⟨_, _, rfl, DGet.k (k := .inr _) h1, q⟩
  · exact q.elim
def tDI (ty td : TE) : TE := fun σ H Q => ty σ H fun y H1 => td σ H1 fun x H2 => uDIn y x H2 fun b => Q (.bl b) H2
def tDNI (ty td : TE) : TE := fun σ H Q => ty σ H fun y H1 => td σ H1 fun x H2 => uDIn y x H2 fun b => Q (.bl (!b)) H2
theorem k_din (hu : X.A.units + 1 < cLine) (hi : PE X i ty) (ho : PE X o td) : PC X .In i o (tDI ty td) := by
  refine ⟨fun pins s σ H Q I h => ?_⟩
  refine thn (hi.run pins s σ H _ I h) fun iv s1 ⟨y, H1, I1, ry, q1⟩ => thn (ho.run pins s1 σ H1 _ I1 q1) fun u s2 ⟨x, H2, I2, rx, q2⟩ => ?_
  obtain ⟨a, ov, ex, g, q5⟩ := uDIn_of q2
  subst ex
  obtain rfl : u = Value.ref a := rx
  exact d_in hu I2 g ry fun s3 I3 => ⟨.bl ov.isSome, H2, I3, rfl, q5⟩
theorem k_dnotin (hu : X.A.units + 1 < cLine) (hi : PE X i ty) (ho : PE X o td) : PC X .NotIn i o (tDNI ty td) := by
  refine ⟨fun pins s σ H Q I h => ?_⟩
  refine thn (hi.run pins s σ H _ I h) fun iv s1 ⟨y, H1, I1, ry, q1⟩ => thn (ho.run pins s1 σ H1 _ I1 q1) fun u s2 ⟨x, H2, I2, rx, q2⟩ => ?_
  obtain ⟨a, ov, ex, g, q5⟩ := uDIn_of q2
  subst ex
  obtain rfl : u = Value.ref a := rx
  exact d_notIn hu I2 g ry fun s3 I3 => ⟨.bl (!ov.isSome), H2, I3, rfl, q5⟩
/-- d[y] = v -/
def uDPut : V → V → V → Hp → (Hp → Prop) → Prop
  | .ref a, .int i, v, H, Q => ∃ kvs, H a = some (.dK kvs) ∧ kvs.length < sizeLine ∧ Q (upd H a (.dK (putK kvs (.inl i) v)))
  | .ref a, .str i, v, H, Q => ∃ kvs, H a = some (.dK kvs) ∧ kvs.length < sizeLine ∧ Q (upd H a (.dK (putK kvs (.inr i) v)))
  | _, _, _, _, _ => False
theorem uDPut_of {x y v : V} {H : Hp} {Q : Hp → Prop} (q : uDPut x y v H Q) : ∃ a H4, x = .ref a ∧ DPut H a y v H4 ∧ Q H4 := by
  unfold uDPut at q
  split at q
  · obtain ⟨kvs, h1, h2, q⟩ := q
    exact ⟨_, _, rfl, DPut.k (k := .inl _) h1 h2, q⟩
  · obtain ⟨kvs, h1, h2, q⟩ := q
    exact ⟨_, _, rfl, DPut.k (k := .inr _) h1 h2, q⟩
  · exact q.elim
def tDP (td ty tv : TE) : TS := fun D σ H => tv σ H fun v H1 => td σ H1 fun x H2 => ty σ H2 fun y H3 => uDPut x y v H3 fun H4 => D.nx σ H4
theorem k_dput (hu : X.A.units + 1 < cLine) (ho : PE X o td) (hi : PE X i ty) (hv : PE X value tv) (hs : swapsWith value (some (.Subscript o i pos')) pos.line X.env = pure false := by rfl) :
    PS X (.Assign [.Subscript o i pos'] value pos) (tDP td ty tv) := by
  refine ⟨fun pins s σ H D I h => ?_⟩
  refine wpAny_Assign_Subscript (thn (hv.run pins s σ H _ I h) fun r s1 ⟨v, H1, I1, rv, q1⟩ => thn (ho.run pins s1 σ H1 _ I1 q1) fun u s2 ⟨x, H2, I2, rx, q2⟩ => thn (hi.run pins s2 σ H2 _ I2 q2) fun iv s3 ⟨y, H3, I3, ry, q3⟩ => ?_) hs
  obtain ⟨a, H4, ex, g, q5⟩ := uDPut_of q3
  subst ex
  obtain rfl : u = Value.ref a := rx
  exact d_setItem hu I3 g ry rv fun s4 I4 => ⟨σ, H4, I4, q5⟩
/-- del d[y] -/
def uDDel : V → V → Hp → (Hp → Prop) → Prop
  | .ref a, .int i, H, Q => ∃ kvs, H a = some (.dK kvs) ∧ (valV kvs (.inl i)).isSome = true ∧ Q (upd H a (.dK (dropK kvs (.inl i))))
  | .ref a, .str i, H, Q => ∃ kvs, H a = some (.dK kvs) ∧ (valV kvs (.inr i)).isSome = true ∧ Q (upd H a (.dK (dropK kvs (.inr i))))
  | _, _, _, _ => False
theorem uDDel_of {x y : V} {H2 : Hp} {Q : Hp → Prop} (q : uDDel x y H2 Q) : ∃ a kvs k, x = .ref a ∧ H2 a = some (.dK kvs) ∧ y = kV k ∧ (valV kvs k).isSome = true ∧ Q (upd H2 a (.dK (dropK kvs k))) := by
  unfold uDDel at q
  split at q
  · obtain ⟨kvs, h1, h2, q⟩ := q
    exact ⟨_, kvs, .inl _, rfl, h1, rfl, h2, q⟩
  · obtain ⟨kvs, h1, h2, q⟩ := q
    exact ⟨_, kvs, .inr _, rfl, h1, rfl, h2, q⟩
  · exact q.elim
def tDD (td ty : TE) : TS := fun D σ H => td σ H fun x H1 => ty σ H1 fun y H2 => uDDel x y H2 fun H3 => D.nx σ H3
theorem k_ddel (ho : PE X o td) (hi : PE X i ty) : PS X (.Delete [.Subscript o i tpos] pos) (tDD td ty) := by
  refine ⟨fun pins s σ H D I h => ?_⟩
  refine wpAny_Delete (wpAny_deleteEach_cons (wpAny_delete_Subscript (thn (ho.run pins s σ H _ I h) fun u s1 ⟨x, H1, I1, rx, q1⟩ => thn (hi.run pins s1 σ H1 _ I1 q1) fun iv s2 ⟨y, H2, I2, ry, q2⟩ => ?_)))
  obtain ⟨a, kvs, k, ex, e, ey, l, q5⟩ := uDDel_of q2
  subst ex ey
  obtain rfl : u = Value.ref a := rx
  exact d_delItem I2 e ry l fun s3 I3 => wpAny_deleteEach_nil ⟨σ, _, I3, q5⟩
end
section
variable {H : Hp} {a : Addr} {kvs : List (Key × V)} {v : V} {i : Int} {x : Str}
theorem dget_i {Q : VK} (h : H a = some (.dK kvs)) (e : valV kvs (.inl i) = some v) (q : Q v H) : uDGet (.ref a) (.int i) H Q := ⟨kvs, v, h, e, q⟩
theorem dget_s {Q : VK} (h : H a = some (.dK kvs)) (e : valV kvs (.inr x) = some v) (q : Q v H) : uDGet (.ref a) (.str x) H Q := ⟨kvs, v, h, e, q⟩
theorem din_i {Q : Bool → Prop} (h : H a = some (.dK kvs)) (q : Q (valV kvs (.inl i)).isSome) : uDIn (.int i) (.ref a) H Q := ⟨kvs, h, q⟩
theorem din_s {Q : Bool → Prop} (h : H a = some (.dK kvs)) (q : Q (valV kvs (.inr x)).isSome) : uDIn (.str x) (.ref a) H Q := ⟨kvs, h, q⟩
theorem dput_i {Q : Hp → Prop} (h : H a = some (.dK kvs)) (e : kvs.length < sizeLine) (q : Q (upd H a (.dK (putK kvs (.inl i) v)))) : uDPut (.ref a) (.int i) v H Q := ⟨kvs, h, e, q⟩
theorem dput_s {Q : Hp → Prop} (h : H a = some (.dK kvs)) (e : kvs.length < sizeLine) (q : Q (upd H a (.dK (putK kvs (.inr x) v)))) : uDPut (.ref a) (.str x) v H Q := ⟨kvs, h, e, q⟩
theorem ddel_i {Q : Hp → Prop} (h : H a = some (.dK kvs)) (e : (valV kvs (.inl i)).isSome = true) (q : Q (upd H a (.dK (dropK kvs (.inl i))))) : uDDel (.ref a) (.int i) H Q := ⟨kvs, h, e, q⟩
theorem ddel_s {Q : Hp → Prop} (h : H a = some (.dK kvs)) (e : (valV kvs (.inr x)).isSome = true) (q : Q (upd H a (.dK (dropK kvs (.inr x))))) : uDDel (.ref a) (.str x) H Q := ⟨kvs, h, e, q⟩
end
/-! ### built-ins -/
section
variable {X : Cx}
/-- list(xs): of a list or a tuple -/
def uList (K : Frag) : List V → Hp → VK → Prop
  | [.ref p], H, Q => ∃ ys, (SqL K H p ys ∨ SqT K H p ys) ∧ ∀ l, H l = none → Q (.ref l) (upd H l (.lst ys))
  | _, _, _ => False
theorem c_list : CallR X (.type "list") (uList X.K) := CallRw call_list_of fun xs H Q h => by
  unfold uList at h
  split at h
  · obtain ⟨ys, hs, q⟩ := h
    exact ⟨_, ys, rfl, hs, q⟩
  · exact h.elim
theorem list_l {K : Frag} {H : Hp} {p : Addr} {ys : List V} {Q : VK} (h : H p = some (.lst ys)) (q : ∀ l, H l = none → Q (.ref l) (upd H l (.lst ys))) : uList K [.ref p] H Q := ⟨ys, .inl (.of h), q⟩
theorem list_t {K : Frag} {H : Hp} {p : Addr} {ys : List V} {Q : VK} (h : H p = some (.tup ys)) (q : ∀ l, H l = none → Q (.ref l) (upd H l (.lst ys))) : uList K [.ref p] H Q := ⟨ys, .inr (.of h), q⟩
theorem list_sl {K : Frag} {H : Hp} {p : Addr} {ys : List V} {Q : VK} (h : SqL K H p ys) (q : ∀ l, H l = none → Q (.ref l) (upd H l (.lst ys))) : uList K [.ref p] H Q := ⟨ys, .inl h, q⟩
/-- str(x) -/
def uStr : List V → Hp → VK → Prop
  | [.int i], H, Q => i.natAbs.log2 < 1920 ∧ Q (.str (toString i)) H
  | [.str a], H, Q => Q (.str a) H
  | _, _, _ => False
theorem c_str : CallR X (.type "str") uStr := CallRw (r := fun xs H Q => (∃ i, xs = [.int i] ∧ i.natAbs.log2 < 1920 ∧ Q (.str (toString i)) H) ∨ ∃ a, xs = [.str a] ∧ Q (.str a) H) (by
  intro pins s σ H xs us Q I r h
  rcases h with h | h
  · exact call_str_int pins s σ H xs us Q I r h
  · exact SkE.call_str_str pins s σ H xs us Q I r h) fun xs H Q h => by
  unfold uStr at h
  split at h
  · exact .inl ⟨_, rfl, h.1, h.2⟩
  · exact .inr ⟨_, rfl, h⟩
  · exact h.elim
/-- text * k -/
theorem foldl_cps (a : Array Nat) : ∀ (m : Nat) (acc : Array Nat), (List.replicate m a).foldl (· ++ ·) acc = acc ++ (List.replicate m a.toList).flatten.toArray
  | 0, acc => by simp
  | m + 1, acc => by
    rw [List.replicate_succ, List.foldl_cons, foldl_cps a m, List.replicate_succ, List.flatten_cons]
    apply Array.toList_inj.mp
    simp
def repS (a : Str) (k : Nat) : Str := S (List.replicate k a.cps.toList).flatten
theorem repS_len (a : Str) (k : Nat) : (repS a k).length = a.length * k := by
  unfold repS
  rw [S_len]
  have : ∀ k, ((List.replicate k a.cps.toList).flatten).length = a.cps.toList.length * k := fun k => by
    induction k with
    | zero => simp
    | succ k ih => rw [List.replicate_succ, List.flatten_cons, List.length_append, ih, Nat.mul_succ, Nat.add_comm]
  rw [this]
  rfl
theorem op_repS : OpR X (binaryOp .Mult) (fun x y H Q => ∃ a k, x = .str a ∧ y = .int k ∧ 0 ≤ k ∧ k ≤ 1000000 ∧ a.length * k.toNat ≤ sizeLine ∧ Q (.str (repS a k.toNat)) H) := by
  intro pins s σ H x y v u Q I rx ry h
  obtain ⟨a, k, rfl, rfl, h0, h1, hz, q⟩ := h
  obtain ⟨t, rfl⟩ := rx
  obtain ⟨tu, rfl⟩ := ry
  have e1 : (decide (k < -(2 ^ 63 : Int)) || decide (k ≥ 2 ^ 63)) = false := by
    rw [decide_eq_false (by omega), decide_eq_false (by omega)]; rfl
  have hs : sizeLine = 16777216 := sizeLine_eq
  have tl : Builtin.Str.tooLong (a.length * k.toNat) = false := by
    first
      | exact decide_eq_false (by omega)
      | (unfold Builtin.Str.tooLong; exact decide_eq_false (by omega))
      | (unfold Builtin.Str.tooLong; simp; omega)
  refine PySem.P.mul_str e1 (fun h2 h3 => ?_) (fun _ _ => tl) ?_
  · have h4 : (k == 1 || a.length == 0) = false := h3
    have p : 1 ≤ k := by omega
    have hl : (a.length : Int) ≤ 16777216 := by
      have : a.length * 1 ≤ a.length * k.toNat := Nat.mul_le_mul_left _ (by omega)
      omega
    have : (16777216 : Int) ≤ (2 ^ 63 - 1) / k := by
      rw [Int.le_ediv_iff_mul_le (by omega)]
      omega
    omega
  · by_cases c : k < 1
    · rw [if_pos c]
      have e : k = 0 := by omega
      subst e
      exact ⟨by decide, ⟨.str _, H, I.tok _, ⟨_, rfl⟩, q⟩⟩
    · rw [if_neg c]
      by_cases c2 : (k == 1 || a.length == 0) = true
      · rw [if_pos c2]
        have e : repS a k.toNat = a := by
          rcases (by simpa using c2 : k = 1 ∨ a.length = 0) with e | e
          · subst e
            show S (List.replicate 1 a.cps.toList).flatten = a
            rw [show (List.replicate 1 a.cps.toList).flatten = a.cps.toList by simp, S_tl]
          · have l0 : (repS a k.toNat).length = 0 := by rw [repS_len, e, Nat.zero_mul]
            have z : ∀ x : Str, x.length = 0 → x = S [] := fun x hx => by
              rw [← S_tl x]
              have : x.cps.toList = [] := List.eq_nil_of_length_eq_zero (by have : x.cps.toList.length = x.length := rfl; omega)
              rw [this]
            rw [z _ l0, z _ e]
        rw [e] at q
        exact ⟨.str _, H, I, ⟨_, rfl⟩, q⟩
      · rw [if_neg c2]
        have e : (⟨(List.replicate k.toNat a.cps).foldl (· ++ ·) #[]⟩ : Str) = repS a k.toNat := by
          rw [foldl_cps]
          unfold repS
          show _ = Str.mk _
          congr 1
          simp
        rw [e]
        exact ⟨by rw [repS_len]; exact hz, ⟨.str _, H, I.tok _, ⟨_, rfl⟩, q⟩⟩
/-- times: ints, texts, lists -/
def uMul2 : R2
  | .int i, .int j, H, Q => (CMul i j ∨ CMulW i j ∨ CMulX i j) ∧ Q (.int (i * j)) H
  | .str a, .int k, H, Q => 0 ≤ k ∧ k ≤ 1000000 ∧ a.length * k.toNat ≤ sizeLine ∧ Q (.str (repS a k.toNat)) H
  | .ref l, .int k, H, Q => ∃ xs, H l = some (.lst xs) ∧ 0 ≤ k ∧ k ≤ 1000000 ∧ xs.length * k.toNat ≤ sizeLine ∧ ∀ p, H p = none → Q (.ref p) (upd H p (.lst (List.replicate k.toNat xs).flatten))
  | _, _, _, _ => False
theorem o_mul2 : OpR X (binaryOp .Mult) uMul2 := OpRw (op_mul.or (op_mulW.or (op_mulX.or (op_repS.or op_rep)))) fun x y H Q h => by
  unfold uMul2 at h
  split at h
  · obtain ⟨c | c | c, h⟩ := h
    · exact .inl ⟨_, _, rfl, rfl, c, h⟩
    · exact .inr (.inl ⟨_, _, rfl, rfl, c, h⟩)
    · exact .inr (.inr (.inl ⟨_, _, rfl, rfl, c, h⟩))
  · exact .inr (.inr (.inr (.inl ⟨_, _, rfl, rfl, h.1, h.2.1, h.2.2.1, h.2.2.2⟩)))
  · obtain ⟨xs, h1, h2, h3, h4, q⟩ := h
    exact .inr (.inr (.inr (.inr ⟨_, _, xs, rfl, rfl, h1, by omega, by omega, h4, q⟩)))
  · exact h.elim
theorem mul2_l {i j : Int} (h : -18446744073709551616 < i ∧ i < 18446744073709551616) : CMul i j ∨ CMulW i j ∨ CMulX i j := .inl (.inl ⟨by omega, by omega⟩)
theorem mul2_r {i j : Int} (h : -18446744073709551616 < j ∧ j < 18446744073709551616) : CMul i j ∨ CMulW i j ∨ CMulX i j := .inl (.inr ⟨by omega, by omega⟩)
theorem rep_l {H : Hp} {l : Addr} {k : Int} {xs : List V} {Q : VK} (h : H l = some (.lst xs)) (h0 : 0 ≤ k) (h1 : k ≤ 1000000) (h2 : xs.length * k.toNat ≤ sizeLine) (q : ∀ p, H p = none → Q (.ref p) (upd H p (.lst (List.replicate k.toNat xs).flatten))) : uMul2 (.ref l) (.int k) H Q := ⟨xs, h, h0, h1, h2, q⟩
end
end KW

set_option Elab.async false
set_option linter.all false
set_option maxRecDepth 100000
set_option maxHeartbeats 4000000
/-! Kw2e: what the top leaves, made; case lemmas; steps -/
namespace KW
open PySem PySem.Spec PyProof.Rows L2
section
variable {K : Frag} {mg : Str → Option Value} {h : Heap} {x m qual : Str} {C f T : Addr} {st : Stmt} {ns ps : List Str} {oc : Value} {od an : Option Addr} {osl : Array (Option Value)} {kV doc pm cdv ct : Value}
theorem clsA_mk (X : K.In h) (G : h.Ns mainGlobals mg) (a : PySem.W.nsIn K mainGlobals x = some (some (.ref C))) (pg : PySem.W.plainGet K C Str.empty = true) (hd : PySem.W.hasDictIn K C = true) (po : PySem.W.plainOver K C = true)
    (sa : PySem.W.findIn K (.ref C) "__setattr__" = some (some (.builtin "object.__setattr__"))) (no : ∀ f ∈ ns, PySem.W.findIn K (.ref C) f = some none) : ClsA K mg x C ns :=
  ⟨PySem.W.mg_of X G a, ⟨pg, hd, po, sa⟩, no⟩
theorem metAt_mk (a : PySem.W.findIn K (.ref C) m = some (some (.ref f))) (fn : PySem.W.isFn K (.ref f) = true) (kp : PySem.W.keepIn K (.ref f) = true)
    (l : K.lookup f = some ⟨oc, od, .func (PySem.W.fnOf m qual (defArgs st) (defBody st) (defScope st) .none kV doc pm an cdv ct), osl⟩) (c : PySem.W.codeIn K cdv qual = true)
    (hb : ∀ (kV doc pm : Value) (an : Option Addr) (cdv ct : Value) (us : List Value), us.length = ps.length → bindArgs (PySem.W.fnOf m qual (defArgs st) (defBody st) (defScope st) .none kV doc pm an cdv ct) ⟨us, []⟩ = pure (ps.zip us)) : MetAt K C m qual st ps := by
  have F : FunD K m qual (defArgs st) (defBody st) (defScope st) [] [] f _ := ⟨⟨oc, od, .none, kV, doc, pm, an, cdv, ct, osl, rfl, l, c, .inl ⟨rfl, rfl⟩, .inl rfl⟩, kp⟩
  exact ⟨f, ⟨a, fn, kp⟩, _, F, fun j hj => ⟨[], by simpa using Paired.nil, F.bindsN hb⟩⟩
theorem iniAt_mk (kc : PySem.W.keepIn K (.ref C) = true) (mk : PySem.W.makesIn K C = true) (a : PySem.W.findIn K (.ref C) "__init__" = some (some (.ref f))) (fn : PySem.W.isFn K (.ref f) = true) (kp : PySem.W.keepIn K (.ref f) = true)
    (l : K.lookup f = some ⟨oc, od, .func (PySem.W.fnOf "__init__" qual (defArgs st) (defBody st) (defScope st) .none kV doc pm an cdv ct), osl⟩) (c : PySem.W.codeIn K cdv qual = true)
    (hb : ∀ (kV doc pm : Value) (an : Option Addr) (cdv ct : Value) (us : List Value), us.length = ps.length → bindArgs (PySem.W.fnOf "__init__" qual (defArgs st) (defBody st) (defScope st) .none kV doc pm an cdv ct) ⟨us, []⟩ = pure (ps.zip us)) : IniAt K C qual st ps [] := by
  have F : FunD K "__init__" qual (defArgs st) (defBody st) (defScope st) [] [] f _ := ⟨⟨oc, od, .none, kV, doc, pm, an, cdv, ct, osl, rfl, l, c, .inl ⟨rfl, rfl⟩, .inl rfl⟩, kp⟩
  exact ⟨f, ⟨mk, a, fn, kc⟩, _, F, fun j hj => ⟨[], by simpa using Paired.nil, F.bindsN hb⟩⟩
theorem iniAt_mkD {dvs : List V} {its : List Value} {o : Obj} {n : Nat} (kc : PySem.W.keepIn K (.ref C) = true) (mk : PySem.W.makesIn K C = true) (a : PySem.W.findIn K (.ref C) "__init__" = some (some (.ref f))) (fn : PySem.W.isFn K (.ref f) = true) (kp : PySem.W.keepIn K (.ref f) = true)
    (l : K.lookup f = some ⟨oc, od, .func (PySem.W.fnOf "__init__" qual (defArgs st) (defBody st) (defScope st) (.ref T) kV doc pm an cdv ct), osl⟩) (c : PySem.W.codeIn K cdv qual = true)
    (lT : K.lookup T = some o) (oT : o.data = .seq its.toArray n) (r : Vals dvs its) (hd : dvs ≠ []) (hl : dvs.length ≤ ps.length)
    (hb : ∀ j, j ≤ dvs.length → ∀ (T : Addr) (kV doc pm : Value) (an : Option Addr) (cdv ct : Value) (us its : List Value), us.length = ps.length - (dvs.length - j) → its.length = dvs.length →
      ∃ k, bindArgs (PySem.W.fnOf "__init__" qual (defArgs st) (defBody st) (defScope st) (.ref T) kV doc pm an cdv ct) ⟨us, []⟩ = seqItems? (.ref T) >>= k ∧ k (some its.toArray) = pure (ps.zip (us ++ its.drop j))) : IniAt K C qual st ps dvs := by
  have F : FunD K "__init__" qual (defArgs st) (defBody st) (defScope st) dvs [] f _ := ⟨⟨oc, od, .ref T, kV, doc, pm, an, cdv, ct, osl, rfl, l, c, .inr ⟨hd, T, o, its, n, rfl, lT, oT, r⟩, .inl rfl⟩, kp⟩
  exact ⟨f, ⟨mk, a, fn, kc⟩, _, F, fun j hj => F.binds1 (ps.length - (dvs.length - j)) j hd (by omega) (hb j hj)⟩
end
/-! ### case lemmas -/
theorem uStr_e1 {i : Int} {H : Hp} {Q : VK} : uStr [.int i] H Q = (i.natAbs.log2 < 1920 ∧ Q (.str (toString i)) H) := rfl
theorem uStr_e2 {a : Str} {H : Hp} {Q : VK} : uStr [.str a] H Q = Q (.str a) H := rfl
theorem uMul2_e1 {i j : Int} {H : Hp} {Q : VK} : uMul2 (.int i) (.int j) H Q = ((CMul i j ∨ CMulW i j ∨ CMulX i j) ∧ Q (.int (i * j)) H) := rfl
theorem uMul2_e2 {a : Str} {k : Int} {H : Hp} {Q : VK} : uMul2 (.str a) (.int k) H Q = (0 ≤ k ∧ k ≤ 1000000 ∧ a.length * k.toNat ≤ sizeLine ∧ Q (.str (repS a k.toNat)) H) := rfl
theorem okS_i {n : Int} : PySem.KErr.okS (.int n) = (n.natAbs < 10 ^ 4300) := rfl
theorem okS_s {x : Str} : PySem.KErr.okS (.str x) = True := rfl
theorem small4300 {n : Int} (h : -100000000000000000000000000000000000000000000000000000000000000000000000000000000 < n ∧ n < 100000000000000000000000000000000000000000000000000000000000000000000000000000000) : n.natAbs < 10 ^ 4300 := by
  refine Nat.lt_of_lt_of_le (show n.natAbs < 10 ^ 80 by omega) (Nat.pow_le_pow_right (by decide) (by decide))
theorem WE_e {W : WX} {σ : L2.St} {c : Value} {d : Option Addr} {H : Hp} : WE W σ c d H = W c d σ H := rfl
/-! ### errors caught or let through -/
section
variable {K : Frag} {c cls : Value} {d : Option Addr} {i : Nat} {ts : Addr → Value → Option Addr → TS} {W : WX} {D : Ends} {σ : L2.St} {H : Hp}
theorem as_yes (h : PySem.W.exmOne K cls c = some true) (q : ∀ a, H a = none → ts a cls d { nx := fun σ' H' => D.nx (σ'.set i none) H', rt := D.rt, bk := fun σ' H' => D.bk (σ'.set i none) H', ct := fun σ' H' => D.ct (σ'.set i none) H' } (σ.set i (some (.ref a))) H) : wAs K c i ts W D cls d σ H :=
  ⟨true, h, ⟨fun _ => q, fun z => absurd z.symm Bool.false_ne_true⟩⟩
theorem as_no (h : PySem.W.exmOne K cls c = some false) (q : W cls d σ H) : wAs K c i ts W D cls d σ H := ⟨false, h, ⟨fun z => absurd z Bool.false_ne_true, fun _ => q⟩⟩
variable {a C dd : Addr} {fs : List (Str × V)} {v : V} {f : Str} {Q : VK} {P : Program} {w : World} {mg : Str → Option Value} {x : Str} {ns : List Str} {ok : List V → Prop}
theorem ef_l (c : ErrC P w K mg x C ns ok) (m : f ∈ ns) (e : σ[i]? = some (some (.ref a))) (h : H dd = some (.xd fs)) (l : fs.lookup f = some v) (q : Q v H) : uEf K a (.ref C) (some dd) i f σ H Q := ⟨C, dd, fs, v, e, rfl, c.xf, c.no f m, rfl, h, l, q⟩
theorem isE_r {b : Addr} {r : Bool} (c : ErrC P w K mg x C ns ok) (h : H dd = some (.xd fs)) (k : PySem.W.kitOne K (.ref C) (.ref b) = some r) (q : Q (.bl r) H) : uIsE K a (.ref C) (some dd) [.ref a, .ref b] H Q := ⟨C, dd, fs, r, rfl, rfl, c.is, rfl, h, k, q⟩
theorem isE_t {T : String} {r : Bool} (c : ErrC P w K mg x C ns ok) (h : H dd = some (.xd fs)) (k : PySem.W.kitOne K (.ref C) (.type T) = some r) (q : Q (.bl r) H) : uIsE K a (.ref C) (some dd) [.ref a, .ty T] H Q := ⟨C, dd, fs, r, rfl, rfl, c.is, rfl, h, k, q⟩
end
section
variable {H : Hp} {a b p : Addr} {o : HO}
theorem upd_none : upd H a o p = none ↔ p ≠ a ∧ H p = none := by
  by_cases h : p = a
  · subst h; rw [upd_same]; simp
  · rw [upd_ne h]; simp [h]
theorem ne_ud (h : upd H a o p = none) : p ≠ a := (upd_none.mp h).1
theorem ne_un (h : upd H a o p = none) : H p = none := (upd_none.mp h).2
theorem ne_n (h2 : H b = some o) (h : H p = none) : p ≠ b := fun e => by subst e; rw [h] at h2; cases h2
theorem ne_m (h : H p = none) (h2 : H b = some o) : p ≠ b := ne_n h2 h
theorem putF_nil {f : Str} {v : V} : putF f v [] = [(f, v)] := rfl
theorem putF_cons {f g : Str} {v x : V} {r : List (Str × V)} : putF f v ((g, x) :: r) = if g = f then (g, v) :: r else (g, x) :: putF f v r := rfl
end
end KW

set_option Elab.async false
set_option linter.all false
set_option maxRecDepth 100000
set_option maxHeartbeats 4000000
/-! Kw2f: methods of lists, stepwise; lists of texts and of ints -/
namespace KW
open PySem PySem.Spec PyProof.Rows L2
section
variable {K : Frag} {H : Hp} {l b p : Addr} {xs zs : List V} {y v : V} {Q : VK}
theorem app_l (h : H l = some (.lst xs)) (z : xs.length < sizeLine) (q : Q .non (upd H l (.lst (xs ++ [y])))) : rAppend (.ref l) [y] H Q := ⟨l, xs, y, rfl, rfl, h, z, q⟩
theorem ext_l (h : H l = some (.lst xs)) (h2 : H b = some (.lst zs)) (z : xs.length + zs.length ≤ sizeLine) (q : Q .non (upd H l (.lst (xs ++ zs)))) : rExtend (.ref l) [.ref b] H Q := ⟨l, b, xs, zs, rfl, rfl, h, h2, z, q⟩
theorem pop_l (h : H l = some (.lst xs)) (e : xs[xs.length - 1]? = some y) (q : Q y (upd H l (.lst xs.dropLast))) : rPop (.ref l) [] H Q := ⟨l, xs, y, rfl, rfl, h, e, q⟩
theorem pops_l {y : V} (h : H l = some (.lst (xs ++ [y]))) (q : Q y (upd H l (.lst xs))) : rPop (.ref l) [] H Q := ⟨l, _, y, rfl, rfl, h, by simp, by rw [List.dropLast_concat]; exact q⟩
theorem rev_l (h : H l = some (.lst xs)) (q : Q .non (upd H l (.lst xs.reverse))) : rReverse (.ref l) [] H Q := ⟨l, xs, rfl, rfl, h, q⟩
theorem clr_l (h : H l = some (.lst xs)) (q : Q .non (upd H l (.lst []))) : rClear (.ref l) [] H Q := ⟨l, xs, rfl, rfl, h, q⟩
theorem cat_l (h : H l = some (.lst xs)) (h2 : H b = some (.lst zs)) (z : xs.length + zs.length ≤ sizeLine) (q : ∀ p, H p = none → Q (.ref p) (upd H p (.lst (xs ++ zs)))) : rCat (.ref l) (.ref b) H Q := ⟨l, b, xs, zs, rfl, rfl, h, h2, z, q⟩
theorem sll_l {lo hi : Option Int} (h : H l = some (.lst xs)) (q : ∀ p, H p = none → Q (.ref p) (upd H p (.lst (cutV xs lo hi)))) : rSlL K (.ref l) lo hi H Q := ⟨l, xs, rfl, .of h, q⟩
theorem usl_l {lo hi : Option Int} (h : H l = some (.lst xs)) (q : ∀ p, H p = none → Q (.ref p) (upd H p (.lst (cutV xs lo hi)))) : uSl K (.ref l) lo hi H Q := .inl (sll_l h q)
theorem ucat_l (h : H l = some (.lst xs)) (h2 : H b = some (.lst zs)) (z : xs.length + zs.length ≤ sizeLine) (q : ∀ p, H p = none → Q (.ref p) (upd H p (.lst (xs ++ zs)))) : uAdd K (.ref l) (.ref b) H Q := .inl (cat_l h h2 z q)
theorem tru_l {k : Bool → Prop} (h : H l = some (.lst xs)) (q : k (!xs.isEmpty)) : uTru K (.ref l) H k := ⟨_, .inl ⟨xs, .of h, rfl⟩, q⟩
theorem tru_sl {k : Bool → Prop} (h : SqL K H l xs) (q : k (!xs.isEmpty)) : uTru K (.ref l) H k := ⟨_, .inl ⟨xs, h, rfl⟩, q⟩
theorem tru_t {k : Bool → Prop} (h : H l = some (.tup xs)) (q : k (!xs.isEmpty)) : uTru K (.ref l) H k := ⟨_, .inr (.inl ⟨xs, .of h, rfl⟩), q⟩
theorem tru_d {k : Bool → Prop} {kvs : List (Key × V)} (h : H l = some (.dK kvs)) (q : k (!kvs.isEmpty)) : uTru K (.ref l) H k := ⟨_, .inr (.inr ⟨kvs, h, rfl⟩), q⟩
end
section
variable {K : Frag} {H : Hp} {p : Addr} {xs : List V} {Q : VK} {n : String}
theorem isi_l (h : H p = some (.lst xs)) (o : isOk "list" n = true) (q : Q (.bl (isK "list" n)) H) : uIsi K [.ref p, .ty n] H Q := ⟨"list", .base (.lst h), o, q⟩
theorem isi_t (h : H p = some (.tup xs)) (o : isOk "tuple" n = true) (q : Q (.bl (isK "tuple" n)) H) : uIsi K [.ref p, .ty n] H Q := ⟨"tuple", .base (.tup h), o, q⟩
theorem isi_d {kvs : List (Key × V)} (h : H p = some (.dK kvs)) (o : isOk "dict" n = true) (q : Q (.bl (isK "dict" n)) H) : uIsi K [.ref p, .ty n] H Q := ⟨"dict", .base (.dK h), o, q⟩
end
/-! ### lists of texts, of ints -/
section
variable {K : Frag} {H : Hp} {l : Addr} {Q : VK}
theorem flat_strs (xs : List Str) : (xs.map V.str).all flatV = true := by simp [flatV]
theorem flat_ints (xs : List Int) : (xs.map V.int).all flatV = true := by simp [flatV]
theorem inV_strs (x : Str) : ∀ xs : List Str, inV (.str x) (xs.map V.str) = decide (x ∈ xs)
  | [] => rfl
  | a :: r => by
    show ((a == x) || inV (.str x) (r.map V.str)) = decide (x ∈ a :: r)
    rw [inV_strs x r]
    by_cases e : a = x
    · subst e; simp
    · have e2 : ¬ x = a := fun z => e z.symm
      have e3 : (a == x) = false := by simpa using e
      simp [e2, e3]
theorem inV_ints (x : Int) : ∀ xs : List Int, inV (.int x) (xs.map V.int) = decide (x ∈ xs)
  | [] => rfl
  | a :: r => by
    show ((a == x) || inV (.int x) (r.map V.int)) = decide (x ∈ a :: r)
    rw [inV_ints x r]
    by_cases e : a = x
    · subst e; simp
    · have e2 : ¬ x = a := fun z => e z.symm
      have e3 : (a == x) = false := by simpa using e
      simp [e2, e3]
theorem in_s {x : Str} {xs : List Str} (h : H l = some (.lst (xs.map V.str))) (q : Q (.bl (decide (x ∈ xs))) H) : rIn K false (.str x) (.ref l) H Q := ⟨l, _, rfl, .inl (.of h), rfl, flat_strs xs, by rw [inV_strs]; exact q⟩
theorem nin_s {x : Str} {xs : List Str} (h : H l = some (.lst (xs.map V.str))) (q : Q (.bl (!decide (x ∈ xs))) H) : rIn K true (.str x) (.ref l) H Q := ⟨l, _, rfl, .inl (.of h), rfl, flat_strs xs, by rw [inV_strs]; exact q⟩
theorem in_i {x : Int} {xs : List Int} (h : H l = some (.lst (xs.map V.int))) (q : Q (.bl (decide (x ∈ xs))) H) : rIn K false (.int x) (.ref l) H Q := ⟨l, _, rfl, .inl (.of h), rfl, flat_ints xs, by rw [inV_ints]; exact q⟩
theorem nin_i {x : Int} {xs : List Int} (h : H l = some (.lst (xs.map V.int))) (q : Q (.bl (!decide (x ∈ xs))) H) : rIn K true (.int x) (.ref l) H Q := ⟨l, _, rfl, .inl (.of h), rfl, flat_ints xs, by rw [inV_ints]; exact q⟩
theorem idxOf_get {α : Type} [BEq α] [LawfulBEq α] {x : α} : ∀ {xs : List α}, x ∈ xs → xs[xs.idxOf x]? = some x ∧ ∀ m z, m < xs.idxOf x → xs[m]? = some z → z ≠ x
  | [], h => by cases h
  | a :: r, h => by
    by_cases e : a = x
    · subst e
      rw [List.idxOf_cons_self]
      exact ⟨rfl, fun m z hm => absurd hm (Nat.not_lt_zero _)⟩
    · have hm : x ∈ r := by
        rcases List.mem_cons.mp h with q | q
        · exact absurd q.symm e
        · exact q
      obtain ⟨h1, h2⟩ := idxOf_get hm
      have hi : (a :: r).idxOf x = r.idxOf x + 1 := by
        rw [List.idxOf_cons]
        have : (a == x) = false := by simpa using e
        rw [this]
        rfl
      rw [hi]
      refine ⟨h1, fun m z hm hz => ?_⟩
      cases m with
      | zero => simp at hz; rw [← hz]; exact e
      | succ m => exact h2 m z (by omega) hz
theorem idx_s {x : Str} {xs : List Str} (h : H l = some (.lst (xs.map V.str))) (m : x ∈ xs) (q : Q (.int (xs.idxOf x : Nat)) H) : rIndex K (.ref l) [.str x] H Q := by
  obtain ⟨h1, h2⟩ := idxOf_get m
  refine ⟨l, _, .str x, xs.idxOf x, .str x, rfl, rfl, .of h, rfl, flat_strs xs, ?_, by simp [eqV], fun m z hm hz => ?_, q⟩
  · rw [List.getElem?_map, h1]; rfl
  · rw [List.getElem?_map] at hz
    cases e : xs[m]? with
    | none => rw [e] at hz; cases hz
    | some w =>
      rw [e] at hz
      cases hz
      simpa [eqV] using h2 m w hm e
theorem idx_i {x : Int} {xs : List Int} (h : H l = some (.lst (xs.map V.int))) (m : x ∈ xs) (q : Q (.int (xs.idxOf x : Nat)) H) : rIndex K (.ref l) [.int x] H Q := by
  obtain ⟨h1, h2⟩ := idxOf_get m
  refine ⟨l, _, .int x, xs.idxOf x, .int x, rfl, rfl, .of h, rfl, flat_ints xs, ?_, by simp [eqV], fun m z hm hz => ?_, q⟩
  · rw [List.getElem?_map, h1]; rfl
  · rw [List.getElem?_map] at hz
    cases e : xs[m]? with
    | none => rw [e] at hz; cases hz
    | some w =>
      rw [e] at hz
      cases hz
      simpa [eqV] using h2 m w hm e
theorem atI_map {α β : Type} {f : α → β} {xs : List α} {i : Nat} {x : α} (h : xs[i]? = some x) : atI (xs.map f) (i : Int) = some (f x) := atI_nat (by rw [List.getElem?_map, h]; rfl)
end
theorem cutV_from (xs : List V) (n : Nat) : cutV xs (some (n : Int)) none = xs.drop n := by
  unfold cutV
  rw [HT.sIx_nat]
  show (xs.drop (min n xs.length)).take (xs.length - min n xs.length) = xs.drop n
  by_cases h : n ≤ xs.length
  · rw [Nat.min_eq_left h, List.take_of_length_le (by rw [List.length_drop]; omega)]
  · rw [Nat.min_eq_right (by omega), List.drop_length, List.drop_eq_nil_of_le (by omega)]
    simp
theorem cutV_nat (xs : List V) (i j : Nat) : cutV xs (some (i : Int)) (some (j : Int)) = (xs.drop i).take (j - i) := by
  unfold cutV
  rw [HT.sIx_nat, HT.sIx_nat]
  have e : xs.drop (min i xs.length) = xs.drop i := by
    by_cases h : i ≤ xs.length
    · rw [Nat.min_eq_left h]
    · rw [Nat.min_eq_right (by omega), List.drop_length, List.drop_eq_nil_of_le (by omega)]
  rw [e]
  refine List.take_eq_take_iff.mpr ?_
  rw [List.length_drop]
  omega
theorem valV_drop (kvs : List (Key × V)) (k j : Key) : valV (dropK kvs k) j = if j = k then none else valV kvs j := by
  unfold valV dropK
  rw [List.find?_filter]
  by_cases e : j = k
  · subst e
    rw [if_pos rfl]
    have : (kvs.find? fun a => decide (a.1 ≠ j) && decide (a.1 = j)) = none := by
      rw [List.find?_eq_none]
      intro a _
      simp
    simp [this]
  · rw [if_neg e]
    congr 1
    congr 1
    funext a
    by_cases c : a.1 = j
    · have : ¬ a.1 = k := fun z => e (c.symm.trans z)
      simp [c, this, e]
    · simp [c]
/-! ### places in a text -/
def nthS (l : List Stmt) (i : Nat) : Stmt := l.getD i (.Pass ⟨0, 0, 0, 0⟩)
def ifB : Stmt → List Stmt | .If _ b _ _ => b | _ => []
def ifE : Stmt → List Stmt | .If _ _ b _ => b | _ => []
def whB : Stmt → List Stmt | .While _ b _ _ => b | _ => []
def forB : Stmt → List Stmt | .For _ _ b _ _ => b | _ => []
def tryB : Stmt → List Stmt | .Try b _ _ _ _ => b | _ => []
def suB : Stmt → List Stmt | .Try _ [.ExceptHandler _ _ b _] _ _ _ => b | _ => []
/-! ### all but some stands -/
def Fr (l : List Addr) (H H' : Hp) : Prop := ∀ b o, b ∉ l → H b = some o → H' b = some o
theorem Fr.refl {l : List Addr} (H : Hp) : Fr l H H := fun _ _ _ h => h
theorem Fr.trans {l : List Addr} {H H1 H2 : Hp} (x : Fr l H H1) (y : Fr l H1 H2) : Fr l H H2 := fun b o n h => y b o n (x b o n h)
theorem Fr.mono {l m : List Addr} {H H1 : Hp} (x : Fr l H H1) (y : ∀ b, b ∈ l → b ∈ m) : Fr m H H1 := fun b o n h => x b o (fun z => n (y b z)) h
theorem Fr.upd {l : List Addr} {a : Addr} {H : Hp} {o : HO} (h : a ∈ l) : Fr l H (L2.upd H a o) := fun b _ n e => by rw [upd_ne (fun z => n (by rw [z]; exact h))]; exact e
theorem Fr.new {l : List Addr} {p : Addr} {H : Hp} {o : HO} (h : H p = none) : Fr l H (L2.upd H p o) := fun b u _ e => by rw [upd_ne (ne_of_none e h)]; exact e
theorem Fr.lst {l : List Addr} {H H' : Hp} {b : Addr} {o : HO} (x : Fr l H H') (h : H b = some o) (n : b ∉ l) : H' b = some o := x b o n h
theorem Fr.seq {l : List Addr} {b : Addr} {K : Frag} {H H' : Hp} {xs : List V} (e : Fr l H H') (n : b ∉ l) (h : SqL K H b xs) : SqL K H' b xs := by
  rcases h with (h | ⟨o, h⟩) | h
  · exact .inl (.inl (e _ _ n h))
  · exact .inl (.inr ⟨o, e _ _ n h⟩)
  · exact .inr h
end KW

set_option Elab.async false
set_option linter.all false
set_option maxRecDepth 100000
set_option maxHeartbeats 4000000
/-! Kw2g: list comprehensions -/
namespace KW
open PySem PySem.Spec PyProof.Rows L2
/-- the loop of a comprehension, behind the making of its iterator: not opened by simp -/
def lcK (J : It) (g : TG) (tt : TT) (te : TE) (vs : List Nat) (σ : L2.St) (H1 : Hp) (Q : VK) : Prop := ∀ D, H1 D = none → ∃ W : Nat → Nat → Hp → Prop, (∃ m, W 0 m (upd H1 D (.lst []))) ∧ ∀ i m H, W i m H →
  (J.stop i H ∧ Q (.ref D) H) ∨ (J.go i H ∧ ∃ Nx : Hp → Prop, (∀ H', Nx H' → ∃ m', m' < m ∧ W (i + 1) m' H') ∧ ∀ x H', J.yld i H x H' → g x (wipe σ vs) H' fun σ2 H2 => wipe σ2 vs = wipe σ vs ∧ tt σ2 H2 fun b H3 =>
    if b = true then te σ2 H3 fun y H4 => ∃ acc, H4 D = some (.lst acc) ∧ acc.length < sizeLine ∧ Nx (upd H4 D (.lst (acc ++ [y]))) else Nx H3)
def uLc (wi : TI) (g : TG) (tt : TT) (te : TE) (vs : List Nat) : TE := fun σ H Q => wi σ H fun J H1 => lcK J g tt te vs σ H1 Q
section
variable {X : Cx}
theorem k_lc {elt tg iter : Expr} {ifs : List Expr} {scope : Scope} {own : List (Str × Nat)} {pos : Pos} {wi : TI} {g : TG} {tt : TT} {te : TE} (hc : X.calm = true) (hN : X.N.Nodup) (hi : PI X tg iter wi) (ok : BlkOk X.N X.env.scope scope own)
    (hg : ∀ (s : Shared) (H : Hp) (C : Addr) (cl : List (Str × Addr)) (fp : List Addr), PG (X.blk s H scope (compEnvC scope cl C X.env) fp) tg g) (ht : ∀ (s : Shared) (H : Hp) (C : Addr) (cl : List (Str × Addr)) (fp : List Addr), PTs (X.blk s H scope (compEnvC scope cl C X.env) fp) ifs tt)
    (he : ∀ (s : Shared) (H : Hp) (C : Addr) (cl : List (Str × Addr)) (fp : List Addr), PE (X.blk s H scope (compEnvC scope cl C X.env) fp) elt te) (hs : ∀ x, foldedSetIterable iter X.env x = pure x := by intro _; rfl) :
    PE X (.ListComp elt [⟨tg, iter, ifs, 0⟩] scope pos) (uLc wi g tt te (own.map (·.2))) := ⟨(pe_lc hc hN hi ok hg ht he hs).run⟩
theorem k_setLc {i : Nat} {y : Str} {py : Pos} {elt tg iter : Expr} {ifs : List Expr} {scope : Scope} {own : List (Str × Nat)} {pos spos : Pos} {wi : TI} {g : TG} {tt : TT} {te : TE} (hc : X.calm = true) (hN : X.N.Nodup) (hy : X.N[i]? = some y) (hyl : X.env.scope.names.lookup y = some .local)
    (hsw : swapsWith (.ListComp elt [⟨tg, iter, ifs, 0⟩] scope pos) (some (.Name y py)) spos.line X.env = pure true) (hi : PI X tg iter wi) (ok : BlkOk X.N X.env.scope scope own)
    (hg : ∀ (s : Shared) (H : Hp) (C : Addr) (cl : List (Str × Addr)) (fp : List Addr), PG (X.blk s H scope (compEnvC scope cl C X.env) fp) tg g) (ht : ∀ (s : Shared) (H : Hp) (C : Addr) (cl : List (Str × Addr)) (fp : List Addr), PTs (X.blk s H scope (compEnvC scope cl C X.env) fp) ifs tt)
    (he : ∀ (s : Shared) (H : Hp) (C : Addr) (cl : List (Str × Addr)) (fp : List Addr), PE (X.blk s H scope (compEnvC scope cl C X.env) fp) elt te) (hs : ∀ x, foldedSetIterable iter X.env x = pure x := by intro _; rfl) :
    PS X (.Assign [.Name y py] (.ListComp elt [⟨tg, iter, ifs, 0⟩] scope pos) spos) (tAsg (uLc wi g tt te (own.map (·.2))) (gName i)) := ⟨(ps_setLc hc hN hy hyl hsw hi ok hg ht he hs).run⟩
end
/-- over a list, where the items are made without a change of the heap: f tells what each gives -/
theorem lc_pl {K : Frag} {a : Addr} {xs : List V} {g : TG} {tt : TT} {te : TE} {vs : List Nat} {σ : L2.St} {H : Hp} {Q : VK} (f : V → Option V) (hS : SqL K H a xs) (hz : xs.length < sizeLine)
    (hs : ∀ (i : Nat) (x : V) (D : Addr) (acc : List V) (Cy : V → Hp → Prop) (Cn : Hp → Prop), xs[i]? = some x → H D = none → (∀ y, f x = some y → Cy y (upd H D (.lst acc))) → (f x = none → Cn (upd H D (.lst acc))) →
      g x (wipe σ vs) (upd H D (.lst acc)) fun σ2 H2 => wipe σ2 vs = wipe σ vs ∧ tt σ2 H2 fun b H3 => if b = true then te σ2 H3 fun y H4 => Cy y H4 else Cn H3)
    (hq : ∀ D, H D = none → Q (.ref D) (upd H D (.lst (xs.filterMap f)))) : lcK (Itl K a) g tt te vs σ H Q := by
  intro D hD
  refine ⟨fun i m H' => m = xs.length - i ∧ i ≤ xs.length ∧ H' = upd H D (.lst ((xs.take i).filterMap f)), ⟨xs.length, by simp⟩, ?_⟩
  rintro i m H' ⟨rfl, hi, rfl⟩
  have q := SqL.new (o := .lst ((xs.take i).filterMap f)) hD hS
  by_cases hlt : i < xs.length
  · refine .inr ⟨⟨xs, xs[i], q, by simp [hlt]⟩, fun H'' => H'' = upd H D (.lst ((xs.take (i + 1)).filterMap f)), fun H'' e => ⟨xs.length - (i + 1), by omega, rfl, hlt, e⟩, fun x H' y => ?_⟩
    obtain ⟨e, y⟩ := y
    subst e
    have hx := y xs q
    have et : xs.take (i + 1) = xs.take i ++ [x] := by
      rw [List.take_add_one, hx]; rfl
    refine hs i x D _ _ _ hx hD (fun y hy => ⟨_, upd_same, ?_, ?_⟩) fun hn => ?_
    · have h1 : ((xs.take i).filterMap f).length ≤ (xs.take i).length := List.length_filterMap_le _ _
      have h2 : (xs.take i).length ≤ xs.length := by rw [List.length_take]; omega
      omega
    · rw [upd_upd, et, List.filterMap_append]
      simp [hy]
    · rw [et, List.filterMap_append]
      simp [hn]
  · have e : i = xs.length := by omega
    subst e
    refine .inl ⟨⟨xs, q, Nat.le_refl _⟩, ?_⟩
    rw [List.take_length]
    exact hq D hD
theorem lc_pr {lo : Int} {n : Nat} {g : TG} {tt : TT} {te : TE} {vs : List Nat} {σ : L2.St} {H : Hp} {Q : VK} (f : Nat → Option V) (hz : n < sizeLine)
    (hs : ∀ (i : Nat) (D : Addr) (acc : List V) (Cy : V → Hp → Prop) (Cn : Hp → Prop), i < n → H D = none → (∀ y, f i = some y → Cy y (upd H D (.lst acc))) → (f i = none → Cn (upd H D (.lst acc))) →
      g (.int (lo + i)) (wipe σ vs) (upd H D (.lst acc)) fun σ2 H2 => wipe σ2 vs = wipe σ vs ∧ tt σ2 H2 fun b H3 => if b = true then te σ2 H3 fun y H4 => Cy y H4 else Cn H3)
    (hq : ∀ D, H D = none → Q (.ref D) (upd H D (.lst ((List.range n).filterMap f)))) : lcK (Itr lo n) g tt te vs σ H Q := by
  intro D hD
  refine ⟨fun i m H' => m = n - i ∧ i ≤ n ∧ H' = upd H D (.lst ((List.range i).filterMap f)), ⟨n, by simp⟩, ?_⟩
  rintro i m H' ⟨rfl, hi, rfl⟩
  by_cases hlt : i < n
  · refine .inr ⟨hlt, fun H'' => H'' = upd H D (.lst ((List.range (i + 1)).filterMap f)), fun H'' e => ⟨n - (i + 1), by omega, rfl, hlt, e⟩, fun x H' y => ?_⟩
    obtain ⟨e, rfl⟩ := y
    subst e
    refine hs i D _ _ _ hlt hD (fun y hy => ⟨_, upd_same, ?_, ?_⟩) fun hn => ?_
    · have h1 : ((List.range i).filterMap f).length ≤ (List.range i).length := List.length_filterMap_le _ _
      rw [List.length_range] at h1
      omega
    · rw [upd_upd, List.range_succ, List.filterMap_append]
      simp [hy]
    · rw [List.range_succ, List.filterMap_append]
      simp [hn]
  · have e : i = n := by omega
    subst e
    exact .inl ⟨Nat.le_refl _, hq D hD⟩
end KW

set_option Elab.async false
set_option linter.all false
set_option maxRecDepth 100000
set_option maxHeartbeats 4000000
/-! Kw2h: sorted, sum, walks over dicts -/
namespace KW
open PySem PySem.Spec PyProof.Rows L2
section
variable {X : Cx}
theorem pe_or {e : Expr} {t t' : TE} (h : PE X e t) (h' : PE X e t') : PE X e (fun σ H Q => t σ H Q ∨ t' σ H Q) := ⟨fun pins s σ H Q I q => q.elim (h.run pins s σ H Q I) (h'.run pins s σ H Q I)⟩
theorem ps_or {e : Stmt} {t t' : TS} (h : PS X e t) (h' : PS X e t') : PS X e (fun D σ H => t D σ H ∨ t' D σ H) := ⟨fun pins s σ H D I q => q.elim (h.run pins s σ H D I) (h'.run pins s σ H D I)⟩
/-- sorted(d) of a dict whose keys are ints -/
theorem call_sortedDN (hcalm : X.calm = true) : CallR X (.builtin "sorted") (fun xs H Q => ∃ (a : Addr) (kvs : List (Key × V)) (ks : List Int), xs = [.ref a] ∧ Rd H a (.dK kvs) ∧ kvs.map (·.1) = ks.map Sum.inl ∧ ks.length ≤ sizeLine ∧
    ∀ (ys : List Int) (p : Addr), ys.Perm ks → ys.Pairwise (· ≤ ·) → H p = none → Q (.ref p) (upd H p (.lst (ys.map V.int)))) := by
  intro pins s σ H xs us Q I r q
  obtain ⟨a, kvs, ks, ex, hd, hks, h64, q⟩ := q
  subst ex
  obtain ⟨u, eu, rx⟩ := vals1 r
  subst eu
  cases rx
  obtain ⟨z, lo, vs, rel, dd⟩ := dk_rd I.hok hd
  obtain ⟨ep, hat⟩ := dd.dictAt
  have hkeys : vs.map (·.1) = ks.map Sum.inl := rel.keys.symm.trans hks
  have hl : vs.length = ks.length := by
    have e := congrArg List.length hkeys
    rw [List.length_map, List.length_map] at e
    exact e
  have h16 : vs.length ≤ sizeLine := by rw [hl]; exact h64
  refine Calls.call_function_entry PyProof.Rows.kind_sorted PyProof.Rows.plain_sorted PyProof.Rows.entry_sorted (PyProof.Rows.args_sorted1 _) ?_
  unfold Builtin.«sorted»
  refine wpAny_bind (m := checkCount "sorted" 1 1 _) (wpAny_pure ?_)
  refine wpAny_bind (PySem.W.kdu_collect (A := X.A.in1) (PySem.W.kdl_dict (knd := mixKind X.prog X.w) (kvs := vs) (ep := ep) lo) (I.ok.hd hcalm) hat h16 fun h' tk acc hk hacc => ?_)
  have hal : acc.toList.length = ks.length := by rw [Array.length_toList, hacc.1, hl]
  have hS : IntsAre acc.toList ks := ints_each hal fun j v e => by
    obtain ⟨k, x, e1, e2⟩ := hacc.2 j v (by rw [← Array.getElem?_toList]; exact e)
    have e3 : (vs.map (·.1))[j]? = some k := by rw [List.getElem?_map, e1]; rfl
    rw [hkeys, List.getElem?_map] at e3
    cases e4 : ks[j]? with
    | none => rw [e4] at e3; cases e3
    | some y =>
      rw [e4] at e3
      have e5 : Sum.inl y = k := Option.some.inj e3
      subst e5
      rcases keyIs_shape (show keyIs (Sum.inl y) v = true from e2) with ⟨i, t, ek, ev⟩ | ⟨z, t, ek, ev⟩
      · cases ek
        exact ⟨y, t, rfl, ev⟩
      · cases ek
  have I1 : Inv X pins σ H { s with heap := h', toks := tk } := I.kept hk
  refine wpAny_bind (wpAny_newList ?_ (by rw [hal]; exact h64))
  have hoL : (h'.push (seqObj "list" acc.toList.toArray 0)).get? h'.objs.size = some (seqObj "list" acc.toList.toArray 0) := Heap.get?_push_size _ rfl
  show wpAny _ _ _ _ _ { s with heap := h'.push (seqObj "list" acc.toList.toArray 0), toks := tk }
  refine wpAny_bind (wpAny_holding (wpAny_call_entry PyProof.Rows.slot_list_sort ⟨_, hoL, rfl⟩ PyProof.Rows.entry_list_sort
    (SrtO.list_sort_ord (s := { s with heap := h'.push (seqObj "list" acc.toList.toArray 0), toks := tk }) SrtO.swo_int hoL (by rw [hal]; exact h64) (fun h2 => SrtO.ints_sortable hS h2) fun out hs hb => ⟨_, rfl, ?_⟩) (PyProof.Rows.args_list_sort _)))
  obtain ⟨g1, g2, g3⟩ := SrtO.ints_out hS hs hb
  obtain ⟨e', he'⟩ := PyProof.Rows.sortedHeap_at (vs := acc.toList) (out := out.toArray) hoL
  have hlen : ((out.map SrtO.iv).map V.int).length ≤ sizeLine := by
    rw [List.length_map, g2.length_eq]
    exact h64
  refine wpAny_pure ⟨_, rfl, .ref h'.objs.size, upd H h'.objs.size (.lst ((out.map SrtO.iv).map V.int)), I1.laid (t' := tk) (fun b u e => ?_) (Nat.le_refl _)
    (show ObjOk X.prog X.w _ _ _ (.lst ((out.map SrtO.iv).map V.int)) from ⟨hlen, out, e', vals_of_ints g1, he'⟩), rfl, q _ _ g2 g3 (I1.hok.fresh (Nat.le_refl _))⟩
  have hb : b < h'.objs.size := Heap.lt_size e
  rw [PyProof.Rows.sortedHeap_old (Nat.ne_of_lt hb) (by rw [size_push']; exact Nat.lt_succ_of_lt hb)]
  exact Heap.get?_push_of_some _ e
/-- sorted(x): a list of ints, a dict with ints as keys -/
def uSorted (K : Frag) : List V → Hp → VK → Prop := fun xs H Q => (∃ (a : Addr) (ns : List Int), xs = [V.ref a] ∧ SqL K H a (ns.map V.int) ∧ ∀ (ys : List Int) (p : Addr), ys.Perm ns → ys.Pairwise (· ≤ ·) → H p = none → Q (.ref p) (upd H p (.lst (ys.map V.int)))) ∨
  (∃ (a : Addr) (kvs : List (Key × V)) (ks : List Int), xs = [.ref a] ∧ Rd H a (.dK kvs) ∧ kvs.map (·.1) = ks.map Sum.inl ∧ ks.length ≤ sizeLine ∧ ∀ (ys : List Int) (p : Addr), ys.Perm ks → ys.Pairwise (· ≤ ·) → H p = none → Q (.ref p) (upd H p (.lst (ys.map V.int))))
theorem c_sorted (hcalm : X.calm = true) : CallR X (.builtin "sorted") (uSorted X.K) := fun pins s σ H xs us Q I r h => by
  rcases h with h | h
  · exact cr_sortedI pins s σ H xs us Q I r h
  · exact call_sortedDN hcalm pins s σ H xs us Q I r h
theorem srt_l {K : Frag} {H : Hp} {a : Addr} {ns : List Int} {Q : VK} (h : H a = some (.lst (ns.map V.int))) (q : ∀ (ys : List Int) (p : Addr), ys.Perm ns → ys.Pairwise (· ≤ ·) → H p = none → Q (.ref p) (upd H p (.lst (ys.map V.int)))) : uSorted K [.ref a] H Q := .inl ⟨a, ns, rfl, .of h, q⟩
theorem srt_d {K : Frag} {H : Hp} {a : Addr} {kvs : List (Key × V)} {ks : List Int} {Q : VK} (h : H a = some (.dK kvs)) (e : kvs.map (·.1) = ks.map Sum.inl) (z : ks.length ≤ sizeLine) (q : ∀ (ys : List Int) (p : Addr), ys.Perm ks → ys.Pairwise (· ≤ ·) → H p = none → Q (.ref p) (upd H p (.lst (ys.map V.int)))) : uSorted K [.ref a] H Q := .inr ⟨a, kvs, ks, rfl, .inl h, e, z, q⟩
/-- sum(xs), ints -/
def uSum (K : Frag) : List V → Hp → VK → Prop := rSum K
theorem c_sum (hc : X.calm = true) : CallR X (.builtin "sum") (uSum X.K) := cr_sum hc
theorem sum_l {K : Frag} {H : Hp} {a : Addr} {ns : List Int} {Q : VK} (h : H a = some (.lst (ns.map V.int))) (q : Q (.int ns.sum) H) : uSum K [.ref a] H Q := ⟨a, ns, rfl, .of h, q⟩
end
/-- a comprehension over a locked dict's keys (ints), where the items are made without a change of the heap -/
theorem lc_pk {d : Addr} {o : Obj} {kvs : List (Key × V)} {ks : List Int} {g : TG} {tt : TT} {te : TE} {vs : List Nat} {σ : L2.St} {H : Hp} {Q : VK} (f : Int → Option V) (hS : H d = some (.frz o (.dK kvs))) (hk : kvs.map (·.1) = ks.map Sum.inl) (hz : ks.length < sizeLine)
    (hs : ∀ (i : Nat) (x : Int) (D : Addr) (acc : List V) (Cy : V → Hp → Prop) (Cn : Hp → Prop), ks[i]? = some x → H D = none → (∀ y, f x = some y → Cy y (upd H D (.lst acc))) → (f x = none → Cn (upd H D (.lst acc))) →
      g (.int x) (wipe σ vs) (upd H D (.lst acc)) fun σ2 H2 => wipe σ2 vs = wipe σ vs ∧ tt σ2 H2 fun b H3 => if b = true then te σ2 H3 fun y H4 => Cy y H4 else Cn H3)
    (hq : ∀ D, H D = none → Q (.ref D) (upd H D (.lst (ks.filterMap f)))) : lcK (Itk d o kvs) g tt te vs σ H Q := by
  intro D hD
  have hl : kvs.length = ks.length := by
    have := congrArg List.length hk
    rw [List.length_map, List.length_map] at this
    exact this
  refine ⟨fun i m H' => m = ks.length - i ∧ i ≤ ks.length ∧ H' = upd H D (.lst ((ks.take i).filterMap f)), ⟨ks.length, by simp⟩, ?_⟩
  rintro i m H' ⟨rfl, hi, rfl⟩
  have hne : d ≠ D := ne_of_none hS hD
  have q : upd H D (.lst ((ks.take i).filterMap f)) d = some (.frz o (.dK kvs)) := by rw [upd_ne hne]; exact hS
  by_cases hlt : i < ks.length
  · refine .inr ⟨⟨q, by omega⟩, fun H'' => H'' = upd H D (.lst ((ks.take (i + 1)).filterMap f)), fun H'' e => ⟨ks.length - (i + 1), by omega, rfl, hlt, e⟩, fun x H' y => ?_⟩
    obtain ⟨e, k, v, hkv, rfl⟩ := y
    subst e
    have e3 : (kvs.map (·.1))[i]? = some k := by rw [List.getElem?_map, hkv]; rfl
    rw [hk, List.getElem?_map] at e3
    obtain ⟨x, hx⟩ : ∃ x, ks[i]? = some x := ⟨_, List.getElem?_eq_getElem hlt⟩
    rw [hx] at e3
    have e5 : Sum.inl x = k := Option.some.inj e3
    subst e5
    have et : ks.take (i + 1) = ks.take i ++ [x] := by
      rw [List.take_add_one, hx]; rfl
    refine hs i x D _ _ _ hx hD (fun y hy => ⟨_, upd_same, ?_, ?_⟩) fun hn => ?_
    · have h1 : ((ks.take i).filterMap f).length ≤ (ks.take i).length := List.length_filterMap_le _ _
      have h2 : (ks.take i).length ≤ ks.length := by rw [List.length_take]; omega
      omega
    · rw [upd_upd, et, List.filterMap_append]
      simp [hy]
    · rw [et, List.filterMap_append]
      simp [hn]
  · have e : i = ks.length := by omega
    subst e
    refine .inl ⟨⟨q, by omega⟩, ?_⟩
    rw [List.take_length]
    exact hq D hD
end KW

set_option Elab.async false
set_option linter.all false
set_option maxRecDepth 100000
set_option maxHeartbeats 4000000
/-! Kw2i: the rules with the frag told (within comprehensions) -/
namespace KW
theorem isEmpty_app {α : Type} (xs ys : List α) : (xs ++ ys).isEmpty = (xs.isEmpty && ys.isEmpty) := by cases xs <;> simp
open PySem PySem.Spec PyProof.Rows L2
section
variable {X : Cx} (K : Frag)
theorem ktK {e : Expr} {t : TE} (h : PE X e t) (he : ∀ whole, isTrue e X.env whole = (do let v ← whole; standAt e.pos; holding [v] (truthy v)) := by intro _; rfl) (hK : X.K = K := by rfl) : PT X e (uTest K t) := hK ▸ kt h he
theorem o_addK (hK : X.K = K := by rfl) : OpR X (binaryOp .Add) (uAdd K) := hK ▸ o_add
theorem o_eqK (hu : X.A.units + 64 < cLine) (hK : X.K = K := by rfl) : OpR X (compareOp .Eq) (uEq K) := hK ▸ o_eq hu
theorem o_neK (hu : X.A.units + 64 < cLine) (hK : X.K = K := by rfl) : OpR X (compareOp .NotEq) (uNe K) := hK ▸ o_ne hu
theorem o_inK (hK : X.K = K := by rfl) : OpR X (compareOp .In) (uIn K) := hK ▸ o_in
theorem o_notinK (hK : X.K = K := by rfl) : OpR X (compareOp .NotIn) (uNotIn K) := hK ▸ o_notin
theorem o_ixK (hK : X.K = K := by rfl) : IxR X (uIx K) := hK ▸ o_ix
theorem o_slK (hK : X.K = K := by rfl) : SlR X (uSl K) := hK ▸ o_sl
theorem c_lenK (hK : X.K = K := by rfl) : CallR X (.builtin "len") (uLen K) := hK ▸ c_len
theorem c_isiK (hK : X.K = K := by rfl) : CallR X (.builtin "isinstance") (uIsi K) := hK ▸ c_isi
theorem c_listK (hK : X.K = K := by rfl) : CallR X (.type "list") (uList K) := hK ▸ c_list
theorem c_sortedK (hc : X.calm = true) (hK : X.K = K := by rfl) : CallR X (.builtin "sorted") (uSorted K) := hK ▸ c_sorted hc
theorem c_sumK (hc : X.calm = true) (hK : X.K = K := by rfl) : CallR X (.builtin "sum") (uSum K) := hK ▸ c_sum hc
theorem k_fldK {e : Expr} {t : TE} {f : Str} {pos : Pos} (he : PE X e t) (hb : attributeBase e f X.env (eval e X.env) = eval e X.env) (hK : X.K = K := by rfl) : PE X (.Attribute e f pos) (uFld K t f) := hK ▸ k_fld he hb
theorem mt_indexK (hK : X.K = K := by rfl) : MtR X "list.index" (rIndex K) := hK ▸ mt_index
theorem pi_listK {tg l : Expr} {tl : TE} (hl : PE X l tl) (hK : X.K = K := by rfl) : PI X tg l (iList K tl) := hK ▸ pi_list hl
end
/-- of a list of ints, ints again -/
theorem lc_ii {K : Frag} {a : Addr} {xs : List Int} {g : TG} {tt : TT} {te : TE} {vs : List Nat} {σ : L2.St} {H : Hp} {Q : VK} (f : Int → Option Int) (hS : SqL K H a (xs.map V.int)) (hz : xs.length < sizeLine)
    (hs : ∀ (i : Nat) (x : Int) (D : Addr) (acc : List V) (Cy : V → Hp → Prop) (Cn : Hp → Prop), xs[i]? = some x → H D = none → (∀ y, f x = some y → Cy (.int y) (upd H D (.lst acc))) → (f x = none → Cn (upd H D (.lst acc))) →
      g (.int x) (wipe σ vs) (upd H D (.lst acc)) fun σ2 H2 => wipe σ2 vs = wipe σ vs ∧ tt σ2 H2 fun b H3 => if b = true then te σ2 H3 fun y H4 => Cy y H4 else Cn H3)
    (hq : ∀ D, H D = none → Q (.ref D) (upd H D (.lst ((xs.filterMap f).map V.int)))) : lcK (Itl K a) g tt te vs σ H Q := by
  refine lc_pl (fun v => match v with | .int i => (f i).map V.int | _ => none) hS (by rw [List.length_map]; exact hz) (fun i x D acc Cy Cn hx hD h1 h2 => ?_) fun D hD => ?_
  · rw [List.getElem?_map] at hx
    cases e : xs[i]? with
    | none => rw [e] at hx; cases hx
    | some z =>
      rw [e] at hx
      cases hx
      exact hs i z D acc Cy Cn e hD (fun y hy => h1 _ (by simp [hy])) fun hn => h2 (by simp [hn])
  · have e : (xs.map V.int).filterMap (fun v => match v with | .int i => (f i).map V.int | _ => none) = (xs.filterMap f).map V.int := by
      rw [List.filterMap_map, List.map_filterMap]; rfl
    rw [e]
    exact hq D hD
/-- over a list of anything told by F -/
theorem lc_f {α : Type} {K : Frag} {a : Addr} {xs : List α} {F : α → V} {g : TG} {tt : TT} {te : TE} {vs : List Nat} {σ : L2.St} {H : Hp} {Q : VK} (f : α → Option V) (hS : SqL K H a (xs.map F)) (hz : xs.length < sizeLine)
    (hs : ∀ (i : Nat) (x : α) (D : Addr) (acc : List V) (Cy : V → Hp → Prop) (Cn : Hp → Prop), xs[i]? = some x → H D = none → (∀ y, f x = some y → Cy y (upd H D (.lst acc))) → (f x = none → Cn (upd H D (.lst acc))) →
      g (F x) (wipe σ vs) (upd H D (.lst acc)) fun σ2 H2 => wipe σ2 vs = wipe σ vs ∧ tt σ2 H2 fun b H3 => if b = true then te σ2 H3 fun y H4 => Cy y H4 else Cn H3)
    (hq : ∀ D, H D = none → Q (.ref D) (upd H D (.lst (xs.filterMap f)))) : lcK (Itl K a) g tt te vs σ H Q := by
  intro D hD
  refine ⟨fun i m H' => m = xs.length - i ∧ i ≤ xs.length ∧ H' = upd H D (.lst ((xs.take i).filterMap f)), ⟨xs.length, by simp⟩, ?_⟩
  rintro i m H' ⟨rfl, hi, rfl⟩
  have q := SqL.new (o := .lst ((xs.take i).filterMap f)) hD hS
  by_cases hlt : i < xs.length
  · refine .inr ⟨⟨_, F xs[i], q, by simp [hlt]⟩, fun H'' => H'' = upd H D (.lst ((xs.take (i + 1)).filterMap f)), fun H'' e => ⟨xs.length - (i + 1), by omega, rfl, hlt, e⟩, fun x H' y => ?_⟩
    obtain ⟨e, y⟩ := y
    subst e
    have hx := y _ q
    obtain ⟨z, hz1⟩ : ∃ z, xs[i]? = some z := ⟨_, List.getElem?_eq_getElem hlt⟩
    rw [List.getElem?_map, hz1] at hx
    cases hx
    have et : xs.take (i + 1) = xs.take i ++ [z] := by
      rw [List.take_add_one, hz1]; rfl
    refine hs i z D _ _ _ hz1 hD (fun y hy => ⟨_, upd_same, ?_, ?_⟩) fun hn => ?_
    · have h1 : ((xs.take i).filterMap f).length ≤ (xs.take i).length := List.length_filterMap_le _ _
      have h2 : (xs.take i).length ≤ xs.length := by rw [List.length_take]; omega
      omega
    · rw [upd_upd, et, List.filterMap_append]
      simp [hy]
    · rw [et, List.filterMap_append]
      simp [hn]
  · have e : i = xs.length := by omega
    subst e
    refine .inl ⟨⟨_, q, by simp⟩, ?_⟩
    rw [List.take_length]
    exact hq D hD
/-- over a range, any answers, the heap may change: Pv tells the list made so far (at D) and the heap -/
theorem lc_rG {lo : Int} {n : Nat} {g : TG} {tt : TT} {te : TE} {vs : List Nat} {σ : L2.St} {H : Hp} {Q : VK} (Pv : Nat → Addr → List V → Hp → Prop) (h0 : ∀ D, H D = none → Pv 0 D [] (upd H D (.lst [])))
    (hs : ∀ (i : Nat) (D : Addr) (acc : List V) (H' : Hp) (Nx : Hp → Prop), i < n → H D = none → Pv i D acc H' → (∀ acc H'', Pv (i + 1) D acc H'' → Nx H'') → g (.int (lo + i)) (wipe σ vs) H' fun σ2 H2 => wipe σ2 vs = wipe σ vs ∧ tt σ2 H2 fun b H3 => if b = true then te σ2 H3 fun y H4 => ∃ acc, H4 D = some (.lst acc) ∧ acc.length < sizeLine ∧ Nx (upd H4 D (.lst (acc ++ [y]))) else Nx H3)
    (hq : ∀ D acc H', H D = none → Pv n D acc H' → Q (.ref D) H') : lcK (Itr lo n) g tt te vs σ H Q := by
  intro D hD
  refine ⟨fun i m H' => m = n - i ∧ i ≤ n ∧ ∃ acc, Pv i D acc H', ⟨n, rfl, Nat.zero_le _, [], h0 D hD⟩, ?_⟩
  rintro i m H' ⟨rfl, hi, acc, hP⟩
  by_cases hlt : i < n
  · refine .inr ⟨hlt, fun H'' => ∃ acc, Pv (i + 1) D acc H'', fun H'' e => ⟨n - (i + 1), by omega, rfl, hlt, e⟩, fun x H2 y => ?_⟩
    obtain ⟨e, rfl⟩ := y
    subst e
    exact hs i D acc _ _ hlt hD hP fun acc H'' h => ⟨acc, h⟩
  · have e : i = n := by omega
    subst e
    exact .inl ⟨Nat.le_refl _, hq D acc H' hD hP⟩
/-- over a list -/
theorem lc_lG {α : Type} {K : Frag} {a : Addr} {xs : List α} {F : α → V} {g : TG} {tt : TT} {te : TE} {vs : List Nat} {σ : L2.St} {H : Hp} {Q : VK} (Pv : Nat → Addr → List V → Hp → Prop) (h0 : ∀ D, H D = none → Pv 0 D [] (upd H D (.lst [])))
    (hl : ∀ i D acc H', Pv i D acc H' → SqL K H' a (xs.map F))
    (hs : ∀ (i : Nat) (x : α) (D : Addr) (acc : List V) (H' : Hp) (Nx : Hp → Prop), xs[i]? = some x → H D = none → Pv i D acc H' → (∀ acc H'', Pv (i + 1) D acc H'' → Nx H'') → g (F x) (wipe σ vs) H' fun σ2 H2 => wipe σ2 vs = wipe σ vs ∧ tt σ2 H2 fun b H3 => if b = true then te σ2 H3 fun y H4 => ∃ acc, H4 D = some (.lst acc) ∧ acc.length < sizeLine ∧ Nx (upd H4 D (.lst (acc ++ [y]))) else Nx H3)
    (hq : ∀ D acc H', H D = none → Pv xs.length D acc H' → Q (.ref D) H') : lcK (Itl K a) g tt te vs σ H Q := by
  intro D hD
  refine ⟨fun i m H' => m = xs.length - i ∧ i ≤ xs.length ∧ ∃ acc, Pv i D acc H', ⟨xs.length, rfl, Nat.zero_le _, [], h0 D hD⟩, ?_⟩
  rintro i m H' ⟨rfl, hi, acc, hP⟩
  have q := hl i D acc H' hP
  by_cases hlt : i < xs.length
  · refine .inr ⟨⟨_, F xs[i], q, by simp [hlt]⟩, fun H'' => ∃ acc, Pv (i + 1) D acc H'', fun H'' e => ⟨xs.length - (i + 1), by omega, rfl, hlt, e⟩, fun x H2 y => ?_⟩
    obtain ⟨e, y⟩ := y
    subst e
    have hx := y _ q
    obtain ⟨z, hz1⟩ : ∃ z, xs[i]? = some z := ⟨_, List.getElem?_eq_getElem hlt⟩
    rw [List.getElem?_map, hz1] at hx
    cases hx
    exact hs i z D acc _ _ hz1 hD hP fun acc H'' h => ⟨acc, h⟩
  · have e : i = xs.length := by omega
    subst e
    exact .inl ⟨⟨_, q, by simp⟩, hq D acc H' hD hP⟩
/-- over reversed(xs) -/
theorem for_rev {K : Frag} {a : Addr} {xs : List V} {g : TG} {tb : TS} {D : Ends} {σ : L2.St} {H : Hp} (Pv : Nat → L2.St → Hp → Prop) (h0 : Pv 0 σ H) (hl : ∀ i σ H, i ≤ xs.length → Pv i σ H → SqL K H a xs)
    (hs : ∀ i x σ H, i < xs.length → xs[xs.length - 1 - i]? = some x → Pv i σ H → g x σ H fun σ2 H2 => tb { D with nx := Pv (i + 1), ct := Pv (i + 1), bk := D.nx } σ2 H2) (hd : ∀ σ H, Pv xs.length σ H → D.nx σ H) : forK (Itv K a xs.length) g tb D σ H := by
  refine ⟨fun i m σ H => m = xs.length - i ∧ i ≤ xs.length ∧ Pv i σ H, ⟨xs.length, rfl, Nat.zero_le _, h0⟩, ?_⟩
  rintro i m σ H ⟨rfl, hi, p⟩
  have q := hl i σ H hi p
  by_cases hlt : i < xs.length
  · refine .inr ⟨⟨hlt, xs, xs[xs.length - 1 - i], q, by rw [List.getElem?_eq_getElem]⟩, Pv (i + 1), fun σ' H' p' => ⟨xs.length - (i + 1), by omega, rfl, hlt, p'⟩, fun x H' y => ?_⟩
    obtain ⟨e, y⟩ := y
    subst e
    exact hs i x σ _ hlt (y xs q) p
  · have e : i = xs.length := by omega
    subst e
    exact .inl ⟨Nat.le_refl _, hd σ H p⟩
end KW
namespace KW
open PySem PySem.Spec PyProof.Rows L2
/-- dict(d): a copy -/
def uDict : List V → Hp → VK → Prop
  | [.ref a], H, Q => ∃ kvs, H a = some (.dK kvs) ∧ ∀ p, H p = none → Q (.ref p) (upd H p (.dK kvs))
  | _, _, _ => False
theorem c_dict {X : Cx} : CallR X (.type "dict") uDict := CallRw call_dictD fun xs H Q h => by
  unfold uDict at h
  split at h
  · obtain ⟨kvs, hs, q⟩ := h
    exact ⟨_, kvs, rfl, .of hs, q⟩
  · exact h.elim
theorem dict_d {H : Hp} {a : Addr} {kvs : List (Key × V)} {Q : VK} (h : H a = some (.dK kvs)) (q : ∀ p, H p = none → Q (.ref p) (upd H p (.dK kvs))) : uDict [.ref a] H Q := ⟨kvs, h, q⟩
end KW

set_option Elab.async false
set_option linter.all false
set_option maxRecDepth 100000
/-! StT: stores of blocks, in plain Lean -/
namespace ST
structure Blk where
  n : Int
  k : Int
  s : List Int
  al : Bool
def Blk.ws (e : Blk) : List Int := e.n :: (e.s.length : Int) :: e.k :: e.s
theorem Blk.ws_len (e : Blk) : e.ws.length = e.s.length + 3 := by simp [Blk.ws]
def flat (B : List Blk) : List Int := B.flatMap Blk.ws
theorem flat_nil : flat [] = [] := rfl
theorem flat_cons (e : Blk) (B : List Blk) : flat (e :: B) = e.ws ++ flat B := by simp [flat]
theorem flat_app (B C : List Blk) : flat (B ++ C) = flat B ++ flat C := by simp [flat]
def off (B : List Blk) (i : Nat) : Nat := (flat (B.take i)).length
def lv (B : List Blk) (n : Int) : Bool := B.any fun e => e.al && decide (e.n = n)
theorem lv_iff {B : List Blk} {n : Int} : lv B n = true ↔ ∃ (i : Nat) (e : Blk), B[i]? = some e ∧ e.al = true ∧ e.n = n := by
  simp only [lv, List.any_eq_true, Bool.and_eq_true, decide_eq_true_eq]
  constructor
  · rintro ⟨e, he, h1, h2⟩
    obtain ⟨i, hi⟩ := List.getElem?_of_mem he
    exact ⟨i, e, hi, h1, h2⟩
  · rintro ⟨i, e, hi, h1, h2⟩
    exact ⟨e, List.mem_of_getElem? hi, h1, h2⟩
/-- living blocks have different numbers -/
def Nd (B : List Blk) : Prop := ∀ (i j : Nat) (e f : Blk), B[i]? = some e → B[j]? = some f → e.al = true → f.al = true → e.n = f.n → i = j
theorem split_at {B : List Blk} {i : Nat} {e : Blk} (h : B[i]? = some e) : B = B.take i ++ e :: B.drop (i + 1) := by
  obtain ⟨h1, h2⟩ := List.getElem?_eq_some_iff.mp h
  conv => lhs; rw [← List.take_append_drop i B]
  rw [List.drop_eq_getElem_cons h1, h2]
theorem flat_at {B : List Blk} {i : Nat} {e : Blk} (h : B[i]? = some e) : flat B = flat (B.take i) ++ (e.ws ++ flat (B.drop (i + 1))) := by
  conv => lhs; rw [split_at h]
  rw [flat_app, flat_cons]
theorem set_at {B : List Blk} {i : Nat} {e f : Blk} (h : B[i]? = some e) : B.set i f = B.take i ++ f :: B.drop (i + 1) := by
  obtain ⟨h1, h2⟩ := List.getElem?_eq_some_iff.mp h
  rw [List.set_eq_take_append_cons_drop, if_pos h1]
theorem flat_set {B : List Blk} {i : Nat} {e f : Blk} (h : B[i]? = some e) : flat (B.set i f) = flat (B.take i) ++ (f.ws ++ flat (B.drop (i + 1))) := by
  rw [set_at h, flat_app, flat_cons]
theorem off_add {B : List Blk} {i : Nat} {e : Blk} (h : B[i]? = some e) : off B i + (e.s.length + 3) ≤ (flat B).length := by
  rw [flat_at h]
  simp only [List.length_append, Blk.ws_len, off]
  omega
theorem off_get {B : List Blk} {i j : Nat} {e : Blk} (h : B[i]? = some e) (hj : j < e.s.length + 3) : (flat B)[off B i + j]? = e.ws[j]? := by
  rw [flat_at h, List.getElem?_append_right (by simp only [off]; omega), List.getElem?_append_left (by rw [Blk.ws_len]; simp only [off]; omega)]
  simp [off]
theorem get_num {B : List Blk} {i : Nat} {e : Blk} (h : B[i]? = some e) : (flat B)[off B i]? = some e.n := by
  have := off_get (j := 0) h (by omega); simpa [Blk.ws] using this
theorem get_size {B : List Blk} {i : Nat} {e : Blk} (h : B[i]? = some e) : (flat B)[off B i + 1]? = some (e.s.length : Int) := by
  have := off_get (j := 1) h (by omega); simpa [Blk.ws] using this
theorem get_kind {B : List Blk} {i : Nat} {e : Blk} (h : B[i]? = some e) : (flat B)[off B i + 2]? = some e.k := by
  have := off_get (j := 2) h (by omega); simpa [Blk.ws] using this
theorem get_slot {B : List Blk} {i j : Nat} {e : Blk} (h : B[i]? = some e) (hj : j < e.s.length) : (flat B)[off B i + 3 + j]? = e.s[j]? := by
  have := off_get (j := 3 + j) h (by omega)
  rw [Nat.add_assoc, this, Nat.add_comm 3 j]
  simp [Blk.ws]
theorem get_slots {B : List Blk} {i : Nat} {e : Blk} (h : B[i]? = some e) : ((flat B).drop (off B i + 3)).take e.s.length = e.s := by
  rw [flat_at h, List.drop_append, List.drop_eq_nil_of_le (by simp only [off]; omega), List.nil_append]
  have : off B i + 3 - (flat (B.take i)).length = 3 := by simp only [off]; omega
  rw [this]
  simp [Blk.ws]
theorem set_ws {B : List Blk} {i j : Nat} {e f : Blk} {z : Int} (h : B[i]? = some e) (hj : j < e.s.length + 3) (hf : e.ws.set j z = f.ws) : (flat B).set (off B i + j) z = flat (B.set i f) := by
  rw [flat_set h, flat_at h, List.set_append_right _ _ (by simp only [off]; omega)]
  congr 1
  rw [List.set_append_left _ _ (by rw [Blk.ws_len]; simp only [off]; omega)]
  have : off B i + j - (flat (B.take i)).length = j := by simp only [off]; omega
  rw [this, hf]
theorem set_num {B : List Blk} {i : Nat} {e : Blk} {z : Int} (h : B[i]? = some e) : (flat B).set (off B i) z = flat (B.set i { e with n := z }) := set_ws (j := 0) h (by omega) (by simp [Blk.ws])
theorem set_kind {B : List Blk} {i : Nat} {e : Blk} {z : Int} (h : B[i]? = some e) : (flat B).set (off B i + 2) z = flat (B.set i { e with k := z }) := set_ws h (by omega) (by simp [Blk.ws])
theorem set_slot {B : List Blk} {i j : Nat} {e : Blk} {z : Int} (h : B[i]? = some e) (hj : j < e.s.length) : (flat B).set (off B i + 3 + j) z = flat (B.set i { e with s := e.s.set j z }) := by
  rw [Nat.add_assoc]
  exact set_ws h (by omega) (by rw [Nat.add_comm 3 j]; simp [Blk.ws])
theorem flat_al {B : List Blk} {i : Nat} {e : Blk} {b : Bool} (h : B[i]? = some e) : flat (B.set i { e with al := b }) = flat B := by
  rw [flat_set h, flat_at h]; rfl
/-! ### where blocks begin -/
theorem off_set {B : List Blk} {i j : Nat} {e f : Blk} (h : B[i]? = some e) (hl : f.s.length = e.s.length) : off (B.set i f) j = off B j := by
  unfold off
  rw [List.take_set]
  by_cases c : i < j
  · have ht : (B.take j)[i]? = some e := by rw [List.getElem?_take_of_lt c]; exact h
    rw [flat_set ht, flat_at ht]
    simp only [List.length_append, Blk.ws_len, hl]
  · rw [List.set_eq_of_length_le (by rw [List.length_take]; omega)]
theorem off_app {B C : List Blk} {j : Nat} (h : j ≤ B.length) : off (B ++ C) j = off B j := by
  unfold off
  rw [List.take_append_of_le_length h]
theorem off_len (B : List Blk) : off B B.length = (flat B).length := by unfold off; rw [List.take_length]
theorem off_lt {B : List Blk} {i j : Nat} {e : Blk} (h : B[i]? = some e) (hij : i < j) : off B i + 3 ≤ off B j := by
  have ht : (B.take j)[i]? = some e := by rw [List.getElem?_take_of_lt hij]; exact h
  have := off_add ht
  have e1 : off (B.take j) i = off B i := by unfold off; rw [List.take_take, Nat.min_eq_left (Nat.le_of_lt hij)]
  have e2 : (flat (B.take j)).length = off B j := rfl
  omega
theorem off_inj {B : List Blk} {i j : Nat} {e f : Blk} (h : B[i]? = some e) (h2 : B[j]? = some f) (ho : off B i = off B j) : i = j := by
  rcases Nat.lt_trichotomy i j with c | c | c
  · have := off_lt h c; omega
  · exact c
  · have := off_lt h2 c; omega
/-! ### living numbers -/
theorem lv_set {B : List Blk} {i : Nat} {e f : Blk} (h : B[i]? = some e) (h1 : f.al = e.al) (h2 : f.n = e.n) (n : Int) : lv (B.set i f) n = lv B n := by
  unfold lv
  rw [set_at h]
  conv => rhs; rw [split_at h]
  simp [h1, h2]
theorem lv_app (B C : List Blk) (n : Int) : lv (B ++ C) n = (lv B n || lv C n) := by simp [lv]
theorem lv_at {B : List Blk} {i : Nat} {e : Blk} (h : B[i]? = some e) (ha : e.al = true) : lv B e.n = true := lv_iff.mpr ⟨i, e, h, ha, rfl⟩
theorem get_set {B : List Blk} {i j : Nat} {e f : Blk} (h : B[i]? = some e) : (B.set i f)[j]? = if j = i then some f else B[j]? := by
  rw [List.getElem?_set]
  have := (List.getElem?_eq_some_iff.mp h).1
  by_cases c : i = j
  · subst c; simp [this]
  · rw [if_neg c, if_neg (fun z => c z.symm)]
theorem Nd.set {B : List Blk} {i : Nat} {e f : Blk} (nd : Nd B) (h : B[i]? = some e) (h1 : f.al = e.al) (h2 : f.n = e.n) : Nd (B.set i f) := by
  intro a b u v ha hb ua va uv
  rw [get_set h] at ha hb
  split at ha <;> split at hb
  · omega
  · rename_i c1 c2; cases ha; exact c1.trans (nd i b e v h hb (h1 ▸ ua) va (h2 ▸ uv))
  · rename_i c1 c2; cases hb; exact (nd a i u e ha h ua (h1 ▸ va) (h2 ▸ uv)).trans c2.symm
  · exact nd a b u v ha hb ua va uv
theorem Nd.drop {B : List Blk} {i : Nat} {e : Blk} (nd : Nd B) (h : B[i]? = some e) : Nd (B.set i { e with al := false }) := by
  intro a b u v ha hb ua va uv
  rw [get_set h] at ha hb
  split at ha
  · cases ha; cases ua
  · split at hb
    · cases hb; cases va
    · exact nd a b u v ha hb ua va uv
theorem lv_drop {B : List Blk} {i : Nat} {e : Blk} (nd : Nd B) (h : B[i]? = some e) (ha : e.al = true) (n : Int) : lv (B.set i { e with al := false }) n = (lv B n && !decide (n = e.n)) := by
  by_cases c : n = e.n
  · subst c
    rw [decide_eq_true rfl, Bool.not_true, Bool.and_false]
    apply Bool.eq_false_iff.mpr
    intro z
    obtain ⟨j, f, hj, fa, fn⟩ := lv_iff.mp z
    rw [get_set h] at hj
    split at hj
    · cases hj; cases fa
    · rename_i c; exact c (nd j i f e hj h fa ha fn)
  · rw [decide_eq_false c, Bool.not_false, Bool.and_true]
    apply Bool.eq_iff_iff.mpr
    rw [lv_iff, lv_iff]
    constructor
    · rintro ⟨j, f, hj, fa, fn⟩
      rw [get_set h] at hj
      split at hj
      · cases hj; cases fa
      · exact ⟨j, f, hj, fa, fn⟩
    · rintro ⟨j, f, hj, fa, fn⟩
      refine ⟨j, f, ?_, fa, fn⟩
      rw [get_set h, if_neg]
      · exact hj
      · rintro rfl; rw [h] at hj; cases hj; exact c fn.symm
theorem Nd.app {B : List Blk} {e : Blk} (nd : Nd B) (h : e.al = true → lv B e.n = false) : Nd (B ++ [e]) := by
  intro a b u v ha hb ua va uv
  have key : ∀ c w, (B ++ [e])[c]? = some w → (B[c]? = some w ∧ c < B.length) ∨ (c = B.length ∧ w = e) := fun c w hc => by
    rw [List.getElem?_append] at hc
    split at hc
    · rename_i z; exact .inl ⟨hc, z⟩
    · rename_i z
      have hx : c - B.length = 0 := by
        have := (List.getElem?_eq_some_iff.mp hc).1
        simpa using this
      rw [hx] at hc
      exact .inr ⟨by omega, by simpa using hc.symm⟩
  have no : ∀ (c : Nat) (w : Blk), B[c]? = some w → w.al = true → e.al = true → w.n ≠ e.n := fun c w hc wa ea z => by
    have := h ea
    rw [← z, lv_at hc wa] at this
    cases this
  rcases key a u ha with ⟨h1, _⟩ | ⟨h1, rfl⟩ <;> rcases key b v hb with ⟨h2, _⟩ | ⟨h2, rfl⟩
  · exact nd a b u v h1 h2 ua va uv
  · exact absurd uv (no a u h1 ua va)
  · exact absurd uv.symm (no b v h2 va ua)
  · omega
/-- two blocks exchange their numbers -/
def exch (B : List Blk) (i j : Nat) (e f : Blk) : List Blk := (B.set i { e with n := f.n }).set j { f with n := e.n }
theorem get_mid {B : List Blk} {i j : Nat} {e f : Blk} (h : B[i]? = some e) (h2 : B[j]? = some f) : ∃ g, (B.set i { e with n := f.n })[j]? = some g ∧ g.s.length = f.s.length ∧ (i = j → g = { f with n := f.n }) ∧ (i ≠ j → g = f) := by
  rw [get_set h]
  by_cases c : j = i
  · subst c; rw [h] at h2; cases h2
    exact ⟨_, if_pos rfl, rfl, fun _ => rfl, fun z => absurd rfl z⟩
  · rw [if_neg c, h2]
    exact ⟨_, rfl, rfl, fun z => absurd z.symm c, fun _ => rfl⟩
theorem get_exch {B : List Blk} {i j : Nat} {e f : Blk} (h : B[i]? = some e) (h2 : B[j]? = some f) (a : Nat) : (exch B i j e f)[a]? = if a = j then some { f with n := e.n } else if a = i then some { e with n := f.n } else B[a]? := by
  obtain ⟨g, hg, _⟩ := get_mid h h2
  unfold exch
  rw [get_set hg, get_set h]
theorem off_exch {B : List Blk} {i j a : Nat} {e f : Blk} (h : B[i]? = some e) (h2 : B[j]? = some f) : off (exch B i j e f) a = off B a := by
  obtain ⟨g, hg, hl, _⟩ := get_mid h h2
  unfold exch
  rw [off_set (f := { f with n := e.n }) hg hl.symm, off_set (f := { e with n := f.n }) h rfl]
theorem flat_exch {B : List Blk} {i j : Nat} {e f : Blk} (h : B[i]? = some e) (h2 : B[j]? = some f) : flat (exch B i j e f) = ((flat B).set (off B i) f.n).set (off B j) e.n := by
  obtain ⟨g, hg, hl, hg1, hg2⟩ := get_mid h h2
  unfold exch
  rw [set_num h]
  have := set_num (z := e.n) hg
  rw [off_set (f := { e with n := f.n }) h rfl] at this
  rw [this]
  by_cases c : i = j
  · rw [hg1 c]
  · rw [hg2 c]
theorem Nd.exch {B : List Blk} {i j : Nat} {e f : Blk} (nd : Nd B) (h : B[i]? = some e) (h2 : B[j]? = some f) (ea : e.al = true) (fa : f.al = true) : Nd (exch B i j e f) := by
  have key : ∀ a u, (ST.exch B i j e f)[a]? = some u → u.al = true → (a = j ∧ u.n = e.n) ∨ (a ≠ j ∧ a = i ∧ u.n = f.n) ∨ (a ≠ j ∧ a ≠ i ∧ B[a]? = some u) := fun a u ha ua => by
    rw [get_exch h h2] at ha
    split at ha
    · rename_i c; cases ha; exact .inl ⟨c, rfl⟩
    · split at ha
      · rename_i c d; cases ha; exact .inr (.inl ⟨c, d, rfl⟩)
      · rename_i c d; exact .inr (.inr ⟨c, d, ha⟩)
  intro a b u v ha hb ua va uv
  rcases key a u ha ua with ⟨h3, h4⟩ | ⟨h3, h4, h5⟩ | ⟨h3, h4, h5⟩ <;> rcases key b v hb va with ⟨k3, k4⟩ | ⟨k3, k4, k5⟩ | ⟨k3, k4, k5⟩
  · omega
  · have := nd i j e f h h2 ea fa (by omega); omega
  · have := nd i b e v h k5 ea va (by omega); omega
  · have := nd i j e f h h2 ea fa (by omega); omega
  · omega
  · have := nd j b f v h2 k5 fa va (by omega); omega
  · have := nd a i u e h5 h ua ea (by omega); omega
  · have := nd a j u f h5 h2 ua fa (by omega); omega
  · exact nd a b u v h5 k5 ua va uv
theorem lv_exch {B : List Blk} {i j : Nat} {e f : Blk} (h : B[i]? = some e) (h2 : B[j]? = some f) (ea : e.al = true) (fa : f.al = true) (n : Int) : lv (exch B i j e f) n = lv B n := by
  apply Bool.eq_iff_iff.mpr
  rw [lv_iff, lv_iff]
  constructor
  · rintro ⟨a, u, ha, ua, un⟩
    rw [get_exch h h2] at ha
    split at ha
    · cases ha; exact ⟨i, e, h, ea, un⟩
    · split at ha
      · cases ha; exact ⟨j, f, h2, fa, un⟩
      · exact ⟨a, u, ha, ua, un⟩
  · rintro ⟨a, u, ha, ua, un⟩
    by_cases c : a = i
    · subst c; rw [h] at ha; cases ha
      exact ⟨j, { f with n := e.n }, by rw [get_exch h h2, if_pos rfl], fa, un⟩
    · by_cases d : a = j
      · subst d; rw [h2] at ha; cases ha
        exact ⟨i, { e with n := f.n }, by rw [get_exch h h2, if_neg (fun z => c z.symm), if_pos rfl], ea, un⟩
      · exact ⟨a, u, by rw [get_exch h h2, if_neg d, if_neg c]; exact ha, ua, un⟩
theorem flat_len_app (B : List Blk) (e : Blk) : (flat (B ++ [e])).length = (flat B).length + (e.s.length + 3) := by
  rw [flat_app, List.length_append, flat_cons, List.length_append, Blk.ws_len]; rfl
/-! ### the least free number -/
structure Free (B : List Blk) (f : Int) : Prop where
  pos : 0 ≤ f
  no : lv B f = false
  all : ∀ i, 0 ≤ i → i < f → lv B i = true
theorem Free.uniq {B : List Blk} {f g : Int} (a : Free B f) (b : Free B g) : f = g := by
  rcases Int.lt_trichotomy f g with c | c | c
  · have := b.all f a.pos c; rw [a.no] at this; cases this
  · exact c
  · have := a.all g b.pos c; rw [b.no] at this; cases this
/-- the numbers of the living blocks, in the order in which they lie -/
def nums (B : List Blk) : List Int := (B.filter fun e => e.al).map fun e => e.n
theorem mem_nums {B : List Blk} {n : Int} : n ∈ nums B ↔ lv B n = true := by
  simp only [nums, List.mem_map, List.mem_filter, lv, List.any_eq_true, Bool.and_eq_true, decide_eq_true_eq]
  exact ⟨fun ⟨e, ⟨h1, h2⟩, h3⟩ => ⟨e, h1, h2, h3⟩, fun ⟨e, h1, h2, h3⟩ => ⟨e, ⟨h1, h2⟩, h3⟩⟩
theorem nums_len (B : List Blk) : (nums B).length ≤ B.length := by unfold nums; rw [List.length_map]; exact List.length_filter_le _ _
theorem full_len {B : List Blk} {m : Nat} (h : ∀ i : Int, 0 ≤ i → i < m → lv B i = true) : m ≤ (nums B).length := by
  have hn : ((List.range m).map fun i : Nat => (i : Int)).Nodup := by
    rw [List.Nodup, List.pairwise_map]
    exact List.nodup_range.imp fun {a b} h z => h (Int.ofNat.inj z)
  have := List.Nodup.length_le_of_subset hn (l₂ := nums B) fun x hx => by
    obtain ⟨i, hi, rfl⟩ := List.mem_map.mp hx
    exact mem_nums.mpr (h i (by omega) (by have := List.mem_range.mp hi; omega))
  simpa using this
theorem free_ex (B : List Blk) : ∃ f, Free B f ∧ f ≤ (nums B).length := by
  have key : ∀ k : Nat, (∀ i : Int, 0 ≤ i → i < k → lv B i = true) ∨ ∃ f : Int, Free B f ∧ f < k := by
    intro k
    induction k with
    | zero => exact .inl fun i h0 h1 => by omega
    | succ k ih =>
      rcases ih with h | ⟨f, h, l⟩
      · cases c : lv B (k : Int) with
        | false => exact .inr ⟨k, ⟨by omega, c, h⟩, by omega⟩
        | true =>
          refine .inl fun i h0 h1 => ?_
          by_cases d : i = k
          · rw [d]; exact c
          · exact h i h0 (by omega)
      · exact .inr ⟨f, h, by omega⟩
  rcases key ((nums B).length + 1) with h | ⟨f, h, l⟩
  · have := full_len h; omega
  · exact ⟨f, h, by omega⟩
theorem Free.le {B : List Blk} {f : Int} (h : Free B f) : f ≤ (nums B).length := by
  obtain ⟨g, hg, l⟩ := free_ex B
  rw [h.uniq hg]; exact l
theorem nums_nodup {B : List Blk} (nd : Nd B) : (nums B).Nodup := by
  unfold nums
  rw [List.Nodup, List.pairwise_map, List.pairwise_filter]
  rw [List.pairwise_iff_getElem]
  intro i j hi hj hij h1 h2 h3
  exact absurd (nd i j _ _ (List.getElem?_eq_getElem hi) (List.getElem?_eq_getElem hj) h1 h2 h3) (by omega)
end ST
namespace ST
/-! ### what roots reach -/
inductive Rch (B : List Blk) (R : List Int) : Int → Prop
  | root (w : Int) : w ∈ R → w % 2 = 0 → lv B (w / 2) = true → Rch B R (w / 2)
  | step (i : Nat) (e : Blk) (w : Int) : B[i]? = some e → e.al = true → Rch B R e.n → w ∈ e.k :: e.s → w % 2 = 0 → lv B (w / 2) = true → Rch B R (w / 2)
theorem Rch.lv {B : List Blk} {R : List Int} {n : Int} (h : Rch B R n) : ST.lv B n = true := by cases h <;> assumption
/-- the references among some words -/
def refs (l : List Int) : List Int := l.filterMap fun w => if w % 2 = 0 then some (w / 2) else none
theorem mem_refs {l : List Int} {n : Int} : n ∈ refs l ↔ ∃ w, w ∈ l ∧ w % 2 = 0 ∧ w / 2 = n := by
  simp only [refs, List.mem_filterMap]
  constructor
  · rintro ⟨w, h1, h2⟩
    split at h2
    · cases h2; exact ⟨w, h1, by assumption, rfl⟩
    · cases h2
  · rintro ⟨w, h1, h2, h3⟩
    exact ⟨w, h1, by rw [if_pos h2, h3]⟩
theorem refs_len (l : List Int) : (refs l).length ≤ l.length := List.length_filterMap_le _ _
structure DI (B : List Blk) (R F W : List Int) : Prop where
  sF : ∀ n ∈ F, Rch B R n
  sW : ∀ n ∈ W, lv B n = true → Rch B R n
  ro : ∀ w ∈ R, w % 2 = 0 → lv B (w / 2) = true → w / 2 ∈ F ∨ w / 2 ∈ W
  cl : ∀ (i : Nat) (e : Blk), B[i]? = some e → e.al = true → e.n ∈ F → ∀ w ∈ e.k :: e.s, w % 2 = 0 → lv B (w / 2) = true → w / 2 ∈ F ∨ w / 2 ∈ W
  nd : F.Nodup
theorem DI.init (B : List Blk) (R : List Int) : DI B R [] (refs R) where
  sF := fun n h => by cases h
  sW := fun n h l => by
    obtain ⟨w, h1, h2, rfl⟩ := mem_refs.mp h
    exact .root w h1 h2 l
  ro := fun w h1 h2 _ => .inr (mem_refs.mpr ⟨w, h1, h2, rfl⟩)
  cl := fun i e _ _ h => by cases h
  nd := List.nodup_nil
theorem DI.skip {B : List Blk} {R F W : List Int} {n : Int} (d : DI B R F (W ++ [n])) (h : n ∈ F ∨ lv B n = false) : DI B R F W where
  sF := d.sF
  sW := fun m hm l => d.sW m (by simp [hm]) l
  ro := fun w h1 h2 h3 => by
    rcases d.ro w h1 h2 h3 with q | q
    · exact .inl q
    · rcases List.mem_append.mp q with q | q
      · exact .inr q
      · have e : w / 2 = n := by simpa using q
        rcases h with h | h
        · exact .inl (e ▸ h)
        · rw [e, h] at h3; cases h3
  cl := fun i e h1 h2 h3 w h4 h5 h6 => by
    rcases d.cl i e h1 h2 h3 w h4 h5 h6 with q | q
    · exact .inl q
    · rcases List.mem_append.mp q with q | q
      · exact .inr q
      · have e : w / 2 = n := by simpa using q
        rcases h with h | h
        · exact .inl (e ▸ h)
        · rw [e, h] at h6; cases h6
  nd := d.nd
/-- taken: the block i is found; X are its references that are put on the waiting ones, at least all that are not found yet -/
theorem DI.take {B : List Blk} {R F W X : List Int} {i : Nat} {e : Blk} (d : DI B R F (W ++ [e.n])) (N : Nd B) (h : B[i]? = some e) (ha : e.al = true) (hn : e.n ∉ F) (x1 : ∀ m ∈ X, m ∈ refs (e.k :: e.s)) (x2 : ∀ m ∈ refs (e.k :: e.s), m ∈ F ++ [e.n] ∨ m ∈ X) : DI B R (F ++ [e.n]) (W ++ X) := by
  have re : Rch B R e.n := d.sW e.n (by simp) (lv_at h ha)
  refine ⟨fun n hm => ?_, fun n hm l => ?_, fun w h1 h2 h3 => ?_, fun j f h1 h2 h3 w h4 h5 h6 => ?_, ?_⟩
  · rcases List.mem_append.mp hm with q | q
    · exact d.sF n q
    · have : n = e.n := by simpa using q
      rw [this]; exact re
  · rcases List.mem_append.mp hm with q | q
    · exact d.sW n (by simp [q]) l
    · obtain ⟨w, h1, h2, rfl⟩ := mem_refs.mp (x1 n q)
      exact .step i e w h ha re h1 h2 l
  · rcases d.ro w h1 h2 h3 with q | q
    · exact .inl (by simp [q])
    · rcases List.mem_append.mp q with q | q
      · exact .inr (by simp [q])
      · exact .inl (by simp at q; simp [q])
  · by_cases c : f.n ∈ F
    · rcases d.cl j f h1 h2 c w h4 h5 h6 with q | q
      · exact .inl (by simp [q])
      · rcases List.mem_append.mp q with q | q
        · exact .inr (by simp [q])
        · exact .inl (by simp at q; simp [q])
    · have en : f.n = e.n := by
        rcases List.mem_append.mp h3 with q | q
        · exact absurd q c
        · simpa using q
      have := N j i f e h1 h h2 ha en
      subst this
      rw [h] at h1; cases h1
      rcases x2 (w / 2) (mem_refs.mpr ⟨w, h4, h5, rfl⟩) with q | q
      · exact .inl q
      · exact .inr (by simp [q])
  · exact List.nodup_append.mpr ⟨d.nd, by simp, fun a ha b hb => by simp at hb; subst hb; exact fun z => hn (z ▸ ha)⟩
theorem DI.done {B : List Blk} {R F : List Int} (d : DI B R F []) (N : Nd B) : ∀ n, n ∈ F ↔ Rch B R n := fun n => by
  refine ⟨d.sF n, fun h => ?_⟩
  induction h with
  | root w h1 h2 h3 => exact (d.ro w h1 h2 h3).elim id fun z => by cases z
  | step i e w h1 h2 h3 h4 h5 h6 ih => exact (d.cl i e h1 h2 ih w h4 h5 h6).elim id fun z => by cases z
/-- how much may still be found -/
def pot (F : List Int) : List Blk → Nat
  | [] => 0
  | e :: B => (if e.al = true ∧ e.n ∉ F then e.s.length + 2 else 0) + pot F B
theorem pot_le (F : List Int) (n : Int) : ∀ B, pot (F ++ [n]) B ≤ pot F B
  | [] => Nat.le_refl _
  | e :: B => by
    have := pot_le F n B
    unfold pot
    by_cases c : e.al = true ∧ e.n ∉ F ++ [n]
    · rw [if_pos c, if_pos ⟨c.1, fun z => c.2 (by simp [z])⟩]; omega
    · rw [if_neg c]; omega
theorem pot_lt {F : List Int} {e : Blk} : ∀ {B : List Blk} {i : Nat}, B[i]? = some e → e.al = true → e.n ∉ F → pot (F ++ [e.n]) B + (e.s.length + 2) ≤ pot F B
  | [], i, h, _, _ => by simp at h
  | f :: B, 0, h, ha, hn => by
    have := pot_le F e.n B
    have : f = e := by simpa using h
    subst this
    have e1 : pot F (f :: B) = (f.s.length + 2) + pot F B := by conv => lhs; unfold pot; rw [if_pos ⟨ha, hn⟩]
    have e2 : pot (F ++ [f.n]) (f :: B) = 0 + pot (F ++ [f.n]) B := by conv => lhs; unfold pot; rw [if_neg (fun z => z.2 (by simp))]
    omega
  | f :: B, i + 1, h, ha, hn => by
    have ih := pot_lt (F := F) (e := e) (B := B) (i := i) (by simpa using h) ha hn
    unfold pot
    by_cases c : f.al = true ∧ f.n ∉ F ++ [e.n]
    · rw [if_pos c, if_pos ⟨c.1, fun z => c.2 (by simp [z])⟩]; omega
    · rw [if_neg c]; omega
theorem pot_flat (F : List Int) : ∀ B, pot F B ≤ (flat B).length
  | [] => Nat.le_refl _
  | e :: B => by
    have := pot_flat F B
    rw [flat_cons, List.length_append, Blk.ws_len]
    unfold pot
    split <;> omega
/-! ### sorted lists -/
theorem srt_uniq {a b : List Int} (h : ∀ x, x ∈ a ↔ x ∈ b) (na : a.Nodup) (nb : b.Nodup) {a' b' : List Int} (pa : a'.Perm a) (pb : b'.Perm b) (sa : a'.Pairwise (· ≤ ·)) (sb : b'.Pairwise (· ≤ ·)) : a' = b' := by
  have p : a.Perm b := (List.perm_ext_iff_of_nodup na nb).mpr h
  exact List.Perm.eq_of_pairwise (le := (· ≤ ·)) (fun x y _ _ h1 h2 => Int.le_antisymm h1 h2) sa sb (pa.trans (p.trans pb.symm))
theorem perm_sum {a b : List Int} (p : a.Perm b) : a.sum = b.sum := by
  induction p with
  | nil => rfl
  | cons x _ ih => rw [List.sum_cons, List.sum_cons, ih]
  | swap x y l => rw [List.sum_cons, List.sum_cons, List.sum_cons, List.sum_cons]; omega
  | trans _ _ h1 h2 => exact h1.trans h2
theorem fm_if {α β : Type} (p : α → Bool) (f : α → β) : ∀ l : List α, l.filterMap (fun r => if p r = true then some (f r) else none) = (l.filter p).map f
  | [] => rfl
  | x :: l => by
    rw [List.filterMap_cons, List.filter_cons, fm_if p f l]
    cases p x <;> rfl
end ST

set_option Elab.async false
set_option linter.all false
set_option maxRecDepth 100000
set_option maxHeartbeats 4000000
/-! StH: a store in the heap; its promises -/
namespace KW
open PySem PySem.Spec PyProof.Rows L2
/-- from H to H' at most the things of f changed; the things of g are of f or new -/
def Stp (f g : List Addr) (H H' : Hp) : Prop := KW.Fr f H H' ∧ ∀ x ∈ g, x ∈ f ∨ H x = none
theorem Fr.none {l : List Addr} {H H' : Hp} (f : KW.Fr l H H') {b : Addr} (n : b ∉ l) (h : H' b = none) : H b = none := by
  cases e : H b with
  | none => rfl
  | some o => have := f b o n e; rw [h] at this; cases this
theorem Stp.refl {f : List Addr} (H : Hp) : Stp f f H H := ⟨Fr.refl H, fun _ h => .inl h⟩
theorem Stp.of {f : List Addr} {H H' : Hp} (h : KW.Fr f H H') : Stp f f H H' := ⟨h, fun _ h => .inl h⟩
theorem Stp.trans {f g k : List Addr} {H H1 H2 : Hp} (a : Stp f g H H1) (b : Stp g k H1 H2) : Stp f k H H2 := by
  refine ⟨fun x o n h => ?_, fun x hx => ?_⟩
  · have h1 := a.1 x o n h
    refine b.1 x o (fun z => ?_) h1
    rcases a.2 x z with q | q
    · exact n q
    · rw [h] at q; cases q
  · by_cases hf : x ∈ f
    · exact .inl hf
    · rcases b.2 x hx with q | q
      · exact a.2 x q
      · exact .inr (a.1.none hf q)
theorem Stp.out {f g : List Addr} {H H' : Hp} (a : Stp f g H H') {x : Addr} {o : HO} (n : x ∉ f) (h : H x = some o) : H' x = some o ∧ x ∉ g := by
  refine ⟨a.1 x o n h, fun z => ?_⟩
  rcases a.2 x z with q | q
  · exact n q
  · rw [h] at q; cases q
theorem Fr.stp {l f g : List Addr} {H H' H2 : Hp} (a : KW.Fr l H H') (n : ∀ x ∈ l, x ∈ f) (b : Stp f g H' H2) : Stp f g H H2 := (Stp.of (a.mono n)).trans b
/-- a tuple, a list of ints, a thing that stands -/
abbrev IL (H : Hp) (p : Addr) (xs : List Int) : Prop := H p = some (.lst (xs.map V.int))
theorem notin_of {l : List Addr} {H : Hp} {p : Addr} (h : H p = none) (k : ∀ x ∈ l, ∃ o, H x = some o) : p ∉ l := fun z => by
  obtain ⟨o, e⟩ := k p z
  rw [h] at e; cases e
end KW
namespace ST
open PySem PySem.Spec PyProof.Rows L2 KW
abbrev KVs := List (Key × V)
structure PlOk (kvs : KVs) (B : List Blk) : Prop where
  at_ : ∀ (i : Nat) (e : Blk), B[i]? = some e → e.al = true → valV kvs (.inl e.n) = some (.int (off B i : Nat))
  ks : ∃ ns : List Int, kvs.map (·.1) = ns.map Sum.inl ∧ ns.Nodup ∧ ∀ n, n ∈ ns ↔ lv B n = true
theorem valV_some {kvs : KVs} {k : Key} : (valV kvs k).isSome = true ↔ k ∈ kvs.map (·.1) := by
  rw [← valV_any, List.any_eq_true]
  constructor
  · rintro ⟨a, ha, h⟩
    have : a.1 = k := by simpa using h
    exact List.mem_map.mpr ⟨a, ha, this⟩
  · intro h
    obtain ⟨a, ha, rfl⟩ := List.mem_map.mp h
    exact ⟨a, ha, by simp⟩
theorem PlOk.isS {kvs : KVs} {B : List Blk} (h : PlOk kvs B) (n : Int) : (valV kvs (.inl n)).isSome = lv B n := by
  obtain ⟨ns, e, _, m⟩ := h.ks
  apply Bool.eq_iff_iff.mpr
  rw [valV_some, e, ← m n, List.mem_map]
  exact ⟨fun ⟨a, ha, z⟩ => by cases z; exact ha, fun ha => ⟨n, ha, rfl⟩⟩
theorem PlOk.isN {kvs : KVs} {B : List Blk} (h : PlOk kvs B) {n : Int} (l : lv B n = false) : valV kvs (.inl n) = none := by
  have := h.isS n
  rw [l] at this
  cases e : valV kvs (.inl n) with
  | none => rfl
  | some v => rw [e] at this; cases this
theorem PlOk.len {kvs : KVs} {B : List Blk} (h : PlOk kvs B) : kvs.length ≤ B.length := by
  obtain ⟨ns, e, nd, m⟩ := h.ks
  have e1 := congrArg List.length e
  rw [List.length_map, List.length_map] at e1
  have := nd.length_le_of_subset (l₂ := nums B) fun x hx => mem_nums.mpr ((m x).mp hx)
  have := nums_len B
  omega
theorem PlOk.nil : PlOk [] [] := ⟨fun i e h => by simp at h, [], rfl, List.nodup_nil, fun n => by simp [lv]⟩
theorem PlOk.congr {kvs : KVs} {B C : List Blk} (h : PlOk kvs B) (h1 : ∀ (i : Nat) (e : Blk), C[i]? = some e → e.al = true → ∃ (e' : Blk), B[i]? = some e' ∧ e'.al = true ∧ e'.n = e.n ∧ off B i = off C i) (h2 : ∀ n, lv C n = lv B n) : PlOk kvs C := by
  obtain ⟨ns, e, nd, m⟩ := h.ks
  refine ⟨fun i e hi ha => ?_, ns, e, nd, fun n => by rw [h2]; exact m n⟩
  obtain ⟨e', q1, q2, q3, q4⟩ := h1 i e hi ha
  rw [← q3, ← q4]; exact h.at_ i e' q1 q2
theorem PlOk.same {kvs : KVs} {B : List Blk} {i : Nat} {e f : Blk} (h : PlOk kvs B) (hi : B[i]? = some e) (h1 : f.al = e.al) (h2 : f.n = e.n) (h3 : f.s.length = e.s.length) : PlOk kvs (B.set i f) := by
  refine h.congr (fun j u hj ua => ?_) (lv_set hi h1 h2)
  rw [get_set hi] at hj
  rw [off_set hi h3]
  split at hj
  · rename_i c; subst c; cases hj; exact ⟨e, hi, h1 ▸ ua, h2.symm, rfl⟩
  · exact ⟨u, hj, ua, rfl, rfl⟩
theorem putK_new {kvs : KVs} {k : Key} {v : V} (h : valV kvs k = none) : (putK kvs k v).map (·.1) = kvs.map (·.1) ++ [k] := by
  unfold putK
  rw [if_neg (by rw [valV_any, h]; simp), List.map_append]; rfl
theorem putK_old {kvs : KVs} {k : Key} {v : V} (h : (valV kvs k).isSome = true) : (putK kvs k v).map (·.1) = kvs.map (·.1) := by
  unfold putK
  rw [if_pos (by rw [valV_any]; exact h), List.map_map]
  apply List.map_congr_left
  rintro ⟨a, b⟩ _
  simp only [Function.comp]
  split
  · rename_i c; simp_all
  · rfl
theorem valV_putI {kvs : KVs} {n m : Int} {v : V} : valV (putK kvs (.inl n) v) (.inl m) = if m = n then some v else valV kvs (.inl m) := by
  rw [valV_put]
  by_cases c : m = n
  · subst c; rw [if_pos rfl, if_pos rfl]
  · rw [if_neg (fun z => c (by cases z; rfl)), if_neg c]
theorem valV_dropI {kvs : KVs} {n m : Int} : valV (dropK kvs (.inl n)) (.inl m) = if m = n then none else valV kvs (.inl m) := by
  rw [valV_drop]
  by_cases c : m = n
  · subst c; rw [if_pos rfl, if_pos rfl]
  · rw [if_neg (fun z => c (by cases z; rfl)), if_neg c]
theorem inl_eq {u v : Int} : ((Sum.inl u : Key) = .inl v) = (u = v) := propext ⟨fun z => by cases z; rfl, fun z => by rw [z]⟩
theorem PlOk.app {kvs : KVs} {B : List Blk} {e : Blk} (h : PlOk kvs B) (ha : e.al = true) (hn : lv B e.n = false) : PlOk (putK kvs (.inl e.n) (.int ((flat B).length : Nat))) (B ++ [e]) := by
  have nn := h.isN hn
  obtain ⟨ns, ek, nd, m⟩ := h.ks
  refine ⟨fun i u hi ua => ?_, ns ++ [e.n], by rw [putK_new nn, ek]; simp, ?_, fun n => ?_⟩
  · rw [valV_putI]
    rw [List.getElem?_append] at hi
    split at hi
    · rename_i c
      rw [off_app (by omega), if_neg (fun z => ?_)]
      · exact h.at_ i u hi ua
      · rw [← z, lv_at hi ua] at hn; cases hn
    · rename_i c
      have hx : i - B.length = 0 := by
        have := (List.getElem?_eq_some_iff.mp hi).1
        simpa using this
      rw [hx] at hi
      have : u = e := by simpa using hi.symm
      subst this
      have hi2 : i = B.length := by omega
      subst hi2
      rw [if_pos rfl, off_app (Nat.le_refl _), off_len]
  · rw [List.nodup_append]
    refine ⟨nd, by simp, fun a ha b hb => ?_⟩
    simp at hb; subst hb
    intro z; subst z
    rw [(m _).mp ha] at hn; cases hn
  · rw [List.mem_append, m n, lv_app]
    have : lv [e] n = decide (e.n = n) := by simp [lv, ha]
    rw [this, Bool.or_eq_true, decide_eq_true_eq, List.mem_singleton]
    exact ⟨fun z => z.elim .inl fun q => .inr q.symm, fun z => z.elim .inl fun q => .inr q.symm⟩
theorem PlOk.drop {kvs : KVs} {B : List Blk} {i : Nat} {e : Blk} (h : PlOk kvs B) (N : Nd B) (hi : B[i]? = some e) (ha : e.al = true) : PlOk (dropK kvs (.inl e.n)) (B.set i { e with al := false }) := by
  obtain ⟨ns, ek, nd, m⟩ := h.ks
  refine ⟨fun j u hj ua => ?_, ns.filter (fun n => decide (n ≠ e.n)), ?_, nd.sublist List.filter_sublist, fun n => ?_⟩
  · rw [valV_dropI, off_set (f := { e with al := false }) hi rfl]
    rw [get_set hi] at hj
    split at hj
    · cases hj; cases ua
    · rename_i c
      rw [if_neg (fun z => c (N j i u e hj hi ua ha z))]
      exact h.at_ j u hj ua
  · unfold dropK
    have : ∀ (l : KVs) (ns : List Int), l.map (·.1) = ns.map Sum.inl → (l.filter fun a => decide (a.1 ≠ .inl e.n)).map (·.1) = (ns.filter fun n => decide (n ≠ e.n)).map Sum.inl := by
      intro l
      induction l with
      | nil => intro ns h; cases ns with | nil => rfl | cons _ _ => cases h
      | cons a l ih =>
        intro ns h
        cases ns with
        | nil => cases h
        | cons n ns =>
          simp only [List.map_cons, List.cons.injEq] at h
          have e1 := ih ns h.2
          rw [List.filter_cons, List.filter_cons]
          by_cases c : n = e.n
          · rw [if_neg (by simp [h.1, c]), if_neg (by simp [c])]; exact e1
          · rw [if_pos (by simp [h.1, c]), if_pos (by simp [c]), List.map_cons, List.map_cons, e1, h.1]
    exact this kvs ns ek
  · rw [List.mem_filter, m n, lv_drop N hi ha]
    simp
theorem PlOk.exch {kvs : KVs} {B : List Blk} {i j : Nat} {e f : Blk} (h : PlOk kvs B) (N : Nd B) (hi : B[i]? = some e) (hj : B[j]? = some f) (ea : e.al = true) (fa : f.al = true) :
    PlOk (putK (putK kvs (.inl e.n) (.int (off B j : Nat))) (.inl f.n) (.int (off B i : Nat))) (exch B i j e f) := by
  obtain ⟨ns, ek, nd, m⟩ := h.ks
  have l1 : (valV kvs (.inl e.n)).isSome = true := by rw [h.isS]; exact lv_at hi ea
  have l2 : (valV (putK kvs (.inl e.n) (.int (off B j : Nat))) (.inl f.n)).isSome = true := by
    rw [valV_putI]
    split
    · rfl
    · rw [h.isS]; exact lv_at hj fa
  refine ⟨fun a u ha ua => ?_, ns, by rw [putK_old l2, putK_old l1]; exact ek, nd, fun n => by rw [lv_exch hi hj ea fa]; exact m n⟩
  rw [off_exch hi hj, valV_putI, valV_putI]
  rw [get_exch hi hj] at ha
  split at ha
  · rename_i c; subst c; cases ha
    dsimp only
    by_cases d : e.n = f.n
    · have := N i a e f hi hj ea fa d
      subst this
      rw [if_pos d]
    · rw [if_neg d, if_pos rfl]
  · split at ha
    · rename_i c d; subst d; cases ha
      rw [if_pos rfl]
    · rename_i c d
      rw [if_neg (fun z => c (N a j u f ha hj ua fa z)), if_neg (fun z => d (N a i u e ha hi ua ea z))]
      exact h.at_ a u ha ua
/-- a store at st: its words at wd, its places at pl -/
structure Sto (C : Addr) (H : Hp) (st wd pl : Addr) (rm en : Int) (B : List Blk) : Prop where
  ob : ∃ dx lo, H st = some (.ins C dx [("room", .int rm), ("entries", .int en), ("words", .ref wd), ("_places", .ref pl), ("_least", .int lo)]) ∧ 0 ≤ lo ∧ ∀ i, 0 ≤ i → i < lo → lv B i = true
  wo : H wd = some (.lst ((flat B).map V.int))
  pa : ∃ kvs, H pl = some (.dK kvs) ∧ PlOk kvs B
  nd : Nd B
  nn : ∀ (i : Nat) (e : Blk), B[i]? = some e → e.al = true → 0 ≤ e.n
  wp : wd ≠ pl
  sw : st ≠ wd
  sp : st ≠ pl
abbrev fpS (st wd pl : Addr) : List Addr := [st, wd, pl]
theorem Sto.fr {C : Addr} {H H' : Hp} {st wd pl : Addr} {rm en : Int} {B : List Blk} {l : List Addr} (s : Sto C H st wd pl rm en B) (f : KW.Fr l H H') (h1 : st ∉ l) (h2 : wd ∉ l) (h3 : pl ∉ l) : Sto C H' st wd pl rm en B := by
  obtain ⟨⟨dx, lo, ob, l1⟩, wo, ⟨kvs, pa, ok⟩, nd, nn, wp, sw, sp⟩ := s
  exact ⟨⟨dx, lo, f _ _ h1 ob, l1⟩, f _ _ h2 wo, ⟨kvs, f _ _ h3 pa, ok⟩, nd, nn, wp, sw, sp⟩
theorem Sto.new {C : Addr} {H : Hp} {st wd pl t : Addr} {rm en : Int} {B : List Blk} {o : HO} (s : Sto C H st wd pl rm en B) (h : H t = none) : Sto C (upd H t o) st wd pl rm en B := s.fr (l := []) (Fr.new h) (by simp) (by simp) (by simp)
theorem Sto.fr0 {C : Addr} {H H' : Hp} {st wd pl : Addr} {rm en : Int} {B : List Blk} (s : Sto C H st wd pl rm en B) (f : KW.Fr [] H H') : Sto C H' st wd pl rm en B := s.fr f (by simp) (by simp) (by simp)
theorem Sto.there {C : Addr} {H : Hp} {st wd pl : Addr} {rm en : Int} {B : List Blk} (s : Sto C H st wd pl rm en B) : ∀ x ∈ fpS st wd pl, ∃ o, H x = some o := by
  obtain ⟨⟨dx, lo, ob, l1⟩, wo, ⟨kvs, pa, ok⟩, nd, nn, wp, sw, sp⟩ := s
  intro x hx
  simp only [List.mem_cons, List.not_mem_nil, or_false] at hx
  rcases hx with rfl | rfl | rfl
  · exact ⟨_, ob⟩
  · exact ⟨_, wo⟩
  · exact ⟨_, pa⟩
/-! ### promises of its methods -/
def spInit (C : Addr) : Sp := fun vs H Q _ => ∃ (st dx : Addr) (rm en : Int), vs = [.ref st, .int rm, .int en] ∧ H st = some (.ins C dx []) ∧ ∀ H' wd pl, Sto C H' st wd pl rm en [] → KW.Fr [st] H H' → H wd = none → H pl = none → Q .non H'
def spUsed (C : Addr) : Sp := fun vs H Q _ => ∃ (st wd pl : Addr) (rm en : Int) (B : List Blk), vs = [.ref st] ∧ Sto C H st wd pl rm en B ∧ Q (.int (flat B).length) H
def spExists (C : Addr) : Sp := fun vs H Q _ => ∃ (st wd pl : Addr) (rm en : Int) (B : List Blk) (n : Int), vs = [.ref st, .int n] ∧ Sto C H st wd pl rm en B ∧ Q (.bl (lv B n)) H
def spNumbers (C : Addr) : Sp := fun vs H Q _ => ∃ (st wd pl : Addr) (rm en : Int) (B : List Blk), vs = [.ref st] ∧ Sto C H st wd pl rm en B ∧ B.length ≤ 1000000 ∧ ∀ (ys : List Int) (l : Addr), ys.Perm (nums B) → ys.Pairwise (· ≤ ·) → H l = none → Q (.ref l) (upd H l (.lst (ys.map V.int)))
def spSize (C : Addr) : Sp := fun vs H Q _ => ∃ (st wd pl : Addr) (rm en : Int) (B : List Blk) (n : Int) (i : Nat) (e : Blk), vs = [.ref st, .int n] ∧ Sto C H st wd pl rm en B ∧ B[i]? = some e ∧ e.al = true ∧ e.n = n ∧ Q (.int e.s.length) H
def spKind (C : Addr) : Sp := fun vs H Q _ => ∃ (st wd pl : Addr) (rm en : Int) (B : List Blk) (n : Int) (i : Nat) (e : Blk), vs = [.ref st, .int n] ∧ Sto C H st wd pl rm en B ∧ B[i]? = some e ∧ e.al = true ∧ e.n = n ∧ Q (.int e.k) H
def spGet (C : Addr) : Sp := fun vs H Q _ => ∃ (st wd pl : Addr) (rm en : Int) (B : List Blk) (n : Int) (i j : Nat) (e : Blk) (z : Int), vs = [.ref st, .int n, .int j] ∧ Sto C H st wd pl rm en B ∧ B[i]? = some e ∧ e.al = true ∧ e.n = n ∧ e.s[j]? = some z ∧ Q (.int z) H
def spSlots (C : Addr) : Sp := fun vs H Q _ => ∃ (st wd pl : Addr) (rm en : Int) (B : List Blk) (n : Int) (i : Nat) (e : Blk), vs = [.ref st, .int n] ∧ Sto C H st wd pl rm en B ∧ B[i]? = some e ∧ e.al = true ∧ e.n = n ∧ ∀ l, H l = none → Q (.ref l) (upd H l (.lst (e.s.map V.int)))
def spSetKind (C : Addr) : Sp := fun vs H Q _ => ∃ (st wd pl : Addr) (rm en : Int) (B : List Blk) (n z : Int) (i : Nat) (e : Blk), vs = [.ref st, .int n, .int z] ∧ Sto C H st wd pl rm en B ∧ B[i]? = some e ∧ e.al = true ∧ e.n = n ∧ ∀ H', Sto C H' st wd pl rm en (B.set i { e with k := z }) → KW.Fr [wd] H H' → Q .non H'
def spPut (C : Addr) : Sp := fun vs H Q _ => ∃ (st wd pl : Addr) (rm en : Int) (B : List Blk) (n z : Int) (i j : Nat) (e : Blk), vs = [.ref st, .int n, .int j, .int z] ∧ Sto C H st wd pl rm en B ∧ B[i]? = some e ∧ e.al = true ∧ e.n = n ∧ j < e.s.length ∧ ∀ H', Sto C H' st wd pl rm en (B.set i { e with s := e.s.set j z }) → KW.Fr [wd] H H' → Q .non H'
def spDrop (C : Addr) : Sp := fun vs H Q _ => ∃ (st wd pl : Addr) (rm en : Int) (B : List Blk) (n : Int) (i : Nat) (e : Blk), vs = [.ref st, .int n] ∧ Sto C H st wd pl rm en B ∧ B[i]? = some e ∧ e.al = true ∧ e.n = n ∧ ∀ H', Sto C H' st wd pl rm en (B.set i { e with al := false }) → KW.Fr [st, pl] H H' → Q .non H'
def spExchange (C : Addr) : Sp := fun vs H Q _ => ∃ (st wd pl : Addr) (rm en : Int) (B : List Blk) (m n : Int) (i j : Nat) (e f : Blk), vs = [.ref st, .int m, .int n] ∧ Sto C H st wd pl rm en B ∧ B.length ≤ 1000000 ∧ B[i]? = some e ∧ e.al = true ∧ e.n = m ∧ B[j]? = some f ∧ f.al = true ∧ f.n = n ∧
  ∀ H', Sto C H' st wd pl rm en (exch B i j e f) → KW.Fr [wd, pl] H H' → Q .non H'
def spFree (C NN : Addr) : Sp := fun vs H Q E => ∃ (st wd pl : Addr) (rm en : Int) (B : List Blk), vs = [.ref st] ∧ Sto C H st wd pl rm en B ∧ 0 ≤ en ∧ en ≤ 1000000 ∧ ∀ f, Free B f →
  (f < en → ∀ H', Sto C H' st wd pl rm en B → KW.Fr [st] H H' → Q (.int f) H') ∧
  (en ≤ f → ∀ H', Sto C H' st wd pl rm en B → KW.Fr [st] H H' → ∀ d, H' d = none → E (.ref NN) (some d) (upd H' d (.xd [("limit", .int en)])))
def spAllocate (C NR NN : Addr) : Sp := fun vs H Q E => ∃ (st wd pl : Addr) (rm en : Int) (B : List Blk) (kd : Int) (n : Nat), vs = [.ref st, .int kd, .int n] ∧ Sto C H st wd pl rm en B ∧ 0 ≤ en ∧ en ≤ 1000000 ∧ rm ≤ 1000000 ∧ n ≤ 1000000 ∧
  (rm < ((flat B).length : Int) + 3 + n → ∀ d, H d = none → E (.ref NR) (some d) (upd H d (.xd [("need", .int (3 + n))]))) ∧
  (((flat B).length : Int) + 3 + n ≤ rm → ∀ f, Free B f →
    (f < en → ∀ H', Sto C H' st wd pl rm en (B ++ [⟨f, kd, List.replicate n 0, true⟩]) → KW.Fr [st, wd, pl] H H' → Q (.int f) H') ∧
    (en ≤ f → ∀ H', Sto C H' st wd pl rm en B → KW.Fr [st] H H' → ∀ d, H' d = none → E (.ref NN) (some d) (upd H' d (.xd [("limit", .int en)]))))
theorem len_flat (B : List Blk) : 3 * B.length ≤ (flat B).length := by
  induction B with
  | nil => simp
  | cons e B ih => rw [flat_cons, List.length_append, Blk.ws_len, List.length_cons]; omega
end ST
namespace ST
open PySem PySem.Spec PyProof.Rows L2 KW
/-- a dict of found numbers -/
structure Fnd (kvs : KVs) (F : List Int) : Prop where
  ks : kvs.map (·.1) = F.map Sum.inl
  tr : ∀ n ∈ F, valV kvs (.inl n) = some (.bl true)
theorem Fnd.nil : Fnd [] [] := ⟨rfl, fun n h => by cases h⟩
theorem Fnd.mem {kvs : KVs} {F : List Int} (h : Fnd kvs F) (n : Int) : (valV kvs (.inl n)).isSome = decide (n ∈ F) := by
  apply Bool.eq_iff_iff.mpr
  rw [valV_some, h.ks, List.mem_map, decide_eq_true_eq]
  exact ⟨fun ⟨a, ha, z⟩ => by cases z; exact ha, fun ha => ⟨n, ha, rfl⟩⟩
theorem Fnd.put {kvs : KVs} {F : List Int} {n : Int} (h : Fnd kvs F) (hn : n ∉ F) : Fnd (putK kvs (.inl n) (.bl true)) (F ++ [n]) := by
  have e : valV kvs (.inl n) = none := by
    have := h.mem n
    rw [decide_eq_false hn] at this
    cases q : valV kvs (.inl n) with
    | none => rfl
    | some v => rw [q] at this; cases this
  refine ⟨by rw [putK_new e, h.ks, List.map_append]; rfl, fun m hm => ?_⟩
  rw [valV_putI]
  split
  · rfl
  · rename_i c
    refine h.tr m ?_
    rcases List.mem_append.mp hm with q | q
    · exact q
    · exact absurd (by simpa using q) c
theorem Fnd.len {kvs : KVs} {F : List Int} (h : Fnd kvs F) : kvs.length = F.length := by
  have := congrArg List.length h.ks
  rwa [List.length_map, List.length_map] at this
theorem rch_len {B : List Blk} {R F : List Int} (nd : F.Nodup) (h : ∀ n ∈ F, Rch B R n) : F.length ≤ B.length :=
  Nat.le_trans (nd.length_le_of_subset (l₂ := nums B) fun x hx => mem_nums.mpr (h x hx).lv) (nums_len B)
/-- reached(store, roots) -/
def spReached (C : Addr) : Sp := fun vs H Q _ => ∃ (st wd pl rt : Addr) (rm en : Int) (B : List Blk) (R : List Int), vs = [.ref st, .ref rt] ∧ Sto C H st wd pl rm en B ∧ IL H rt R ∧ (flat B).length ≤ 2000000 ∧ R.length ≤ 1000000 ∧
  ∀ (p : Addr) (F : List Int) (kvs : KVs) (H' : Hp), H p = none → KW.Fr [] H H' → H' p = some (.dK kvs) → Fnd kvs F → F.Nodup → (∀ n, n ∈ F ↔ Rch B R n) → Q (.ref p) H'
/-- words_of(store, numbers): a list, or a dict of found ones -/
def blkAt (B : List Blk) (n : Int) : Option Blk := B.find? fun e => e.al && decide (e.n = n)
theorem blkAt_ex {B : List Blk} {n : Int} (h : lv B n = true) : ∃ (i : Nat) (e : Blk), blkAt B n = some e ∧ B[i]? = some e ∧ e.al = true ∧ e.n = n := by
  unfold blkAt
  cases q : B.find? fun e => e.al && decide (e.n = n) with
  | none =>
    rw [List.find?_eq_none] at q
    obtain ⟨i, e, h1, h2, h3⟩ := lv_iff.mp h
    exact absurd (by simp [h2, h3]) (q e (List.mem_of_getElem? h1))
  | some e =>
    have h1 := List.find?_some q
    obtain ⟨i, hi⟩ := List.getElem?_of_mem (List.mem_of_find?_eq_some q)
    simp at h1
    exact ⟨i, e, rfl, hi, h1.1, h1.2⟩
theorem blkAt_eq {B : List Blk} (N : Nd B) {i : Nat} {e : Blk} (h : B[i]? = some e) (ha : e.al = true) : blkAt B e.n = some e := by
  obtain ⟨j, f, h1, h2, h3, h4⟩ := blkAt_ex (lv_at h ha)
  have := N i j e f h h2 ha h3 h4.symm
  subst this
  rw [h] at h2; cases h2; exact h1
/-- the words that the block n takes -/
def wof (B : List Blk) (n : Int) : Int := 3 + ((blkAt B n).map fun e => (e.s.length : Int)).getD 0
theorem wof_eq {B : List Blk} (N : Nd B) {i : Nat} {e : Blk} (h : B[i]? = some e) (ha : e.al = true) : wof B e.n = 3 + (e.s.length : Int) := by unfold wof; rw [blkAt_eq N h ha]; rfl
def spWordsOf (C : Addr) : Sp := fun vs H Q _ => ∃ (st wd pl nu : Addr) (rm en : Int) (B : List Blk) (F : List Int), vs = [.ref st, .ref nu] ∧ Sto C H st wd pl rm en B ∧ (IL H nu F ∨ nu ≠ pl ∧ ∃ kvs, H nu = some (.dK kvs) ∧ Fnd kvs F) ∧ F.length ≤ 1000000 ∧ (∀ n ∈ F, lv B n = true) ∧
  ∀ H', KW.Fr [] H H' → Q (.int (F.map (wof B)).sum) H'
end ST
namespace ST
open PySem PySem.Spec PyProof.Rows L2 KW
section
variable {C : Addr} {H : Hp} {st wd pl : Addr} {rm en : Int} {B : List Blk} {Q : VK} {E : XK} {m : Str} {sp : Sp} {t : TA} {σ : L2.St}
theorem met_s (S : Sto C H st wd pl rm en B) (l : (["room", "entries", "words", "_places", "_least"] : List Str).contains m = false) (q : t σ H fun vs H2 => sp (.ref st :: vs) H2 Q E) : uMet.uMt C m sp E t σ (.ref st) H Q := by
  obtain ⟨dx, lo, ob, _⟩ := S.ob
  refine ⟨dx, _, ob, ?_, q⟩
  simp only [List.contains_cons, List.contains_nil, Bool.or_eq_false_iff, Bool.or_false] at l
  simp only [List.lookup, l]
theorem words_s {Q : VK} {K : Frag} {mg : Str → Option Value} {x : Str} {ns : List Str} (S : Sto C H st wd pl rm en B) (c : ClsA K mg x C ns) (h : (PySem.Str.ofString "words" : Str) ∈ ns) (q : Q (.ref wd) H) : uGet K "words" (.ref st) H Q := by
  obtain ⟨dx, lo, ob, _⟩ := S.ob
  exact get_l ob c h (by rfl) q
theorem exists_s {n : Int} (S : Sto C H st wd pl rm en B) (q : Q (.bl (lv B n)) H) : spExists C [.ref st, .int n] H Q E := ⟨st, wd, pl, rm, en, B, n, rfl, S, q⟩
theorem used_s (S : Sto C H st wd pl rm en B) (q : Q (.int (flat B).length) H) : spUsed C [.ref st] H Q E := ⟨st, wd, pl, rm, en, B, rfl, S, q⟩
theorem numbers_s (S : Sto C H st wd pl rm en B) (hB : B.length ≤ 1000000) (q : ∀ (ys : List Int) (l : Addr), ys.Perm (nums B) → ys.Pairwise (· ≤ ·) → H l = none → Q (.ref l) (upd H l (.lst (ys.map V.int)))) : spNumbers C [.ref st] H Q E := ⟨st, wd, pl, rm, en, B, rfl, S, hB, q⟩
variable {n z : Int} {i j : Nat} {e f : Blk}
theorem size_s (S : Sto C H st wd pl rm en B) (hi : B[i]? = some e) (ha : e.al = true) (hn : e.n = n) (q : Q (.int e.s.length) H) : spSize C [.ref st, .int n] H Q E := ⟨st, wd, pl, rm, en, B, n, i, e, rfl, S, hi, ha, hn, q⟩
theorem kind_s (S : Sto C H st wd pl rm en B) (hi : B[i]? = some e) (ha : e.al = true) (hn : e.n = n) (q : Q (.int e.k) H) : spKind C [.ref st, .int n] H Q E := ⟨st, wd, pl, rm, en, B, n, i, e, rfl, S, hi, ha, hn, q⟩
theorem get_s (S : Sto C H st wd pl rm en B) (hi : B[i]? = some e) (ha : e.al = true) (hn : e.n = n) (hz : e.s[j]? = some z) (q : Q (.int z) H) : spGet C [.ref st, .int n, .int j] H Q E := ⟨st, wd, pl, rm, en, B, n, i, j, e, z, rfl, S, hi, ha, hn, hz, q⟩
theorem slots_s (S : Sto C H st wd pl rm en B) (hi : B[i]? = some e) (ha : e.al = true) (hn : e.n = n) (q : ∀ l, H l = none → Q (.ref l) (upd H l (.lst (e.s.map V.int)))) : spSlots C [.ref st, .int n] H Q E := ⟨st, wd, pl, rm, en, B, n, i, e, rfl, S, hi, ha, hn, q⟩
theorem setKind_s (S : Sto C H st wd pl rm en B) (hi : B[i]? = some e) (ha : e.al = true) (hn : e.n = n) (q : ∀ H', Sto C H' st wd pl rm en (B.set i { e with k := z }) → KW.Fr [wd] H H' → Q .non H') : spSetKind C [.ref st, .int n, .int z] H Q E := ⟨st, wd, pl, rm, en, B, n, z, i, e, rfl, S, hi, ha, hn, q⟩
theorem put_s (S : Sto C H st wd pl rm en B) (hi : B[i]? = some e) (ha : e.al = true) (hn : e.n = n) (hj : j < e.s.length) (q : ∀ H', Sto C H' st wd pl rm en (B.set i { e with s := e.s.set j z }) → KW.Fr [wd] H H' → Q .non H') : spPut C [.ref st, .int n, .int j, .int z] H Q E := ⟨st, wd, pl, rm, en, B, n, z, i, j, e, rfl, S, hi, ha, hn, hj, q⟩
theorem drop_s (S : Sto C H st wd pl rm en B) (hi : B[i]? = some e) (ha : e.al = true) (hn : e.n = n) (q : ∀ H', Sto C H' st wd pl rm en (B.set i { e with al := false }) → KW.Fr [st, pl] H H' → Q .non H') : spDrop C [.ref st, .int n] H Q E := ⟨st, wd, pl, rm, en, B, n, i, e, rfl, S, hi, ha, hn, q⟩
theorem exchange_s {k : Int} (S : Sto C H st wd pl rm en B) (hB : B.length ≤ 1000000) (hi : B[i]? = some e) (ha : e.al = true) (hn : e.n = n) (hj : B[j]? = some f) (fa : f.al = true) (fn : f.n = k) (q : ∀ H', Sto C H' st wd pl rm en (exch B i j e f) → KW.Fr [wd, pl] H H' → Q .non H') : spExchange C [.ref st, .int n, .int k] H Q E := ⟨st, wd, pl, rm, en, B, n, k, i, j, e, f, rfl, S, hB, hi, ha, hn, hj, fa, fn, q⟩
theorem reached_s {rt : Addr} {R : List Int} (S : Sto C H st wd pl rm en B) (hR : IL H rt R) (hB : (flat B).length ≤ 2000000) (hl : R.length ≤ 1000000) (q : ∀ (p : Addr) (F : List Int) (kvs : KVs) (H' : Hp), H p = none → KW.Fr [] H H' → H' p = some (.dK kvs) → Fnd kvs F → F.Nodup → (∀ n, n ∈ F ↔ Rch B R n) → Q (.ref p) H') : spReached C [.ref st, .ref rt] H Q E := ⟨st, wd, pl, rt, rm, en, B, R, rfl, S, hR, hB, hl, q⟩
theorem wordsOf_s {nu : Addr} {F : List Int} (S : Sto C H st wd pl rm en B) (h : IL H nu F ∨ nu ≠ pl ∧ ∃ kvs, H nu = some (.dK kvs) ∧ Fnd kvs F) (hl : F.length ≤ 1000000) (hF : ∀ n ∈ F, lv B n = true) (q : ∀ H', KW.Fr [] H H' → Q (.int (F.map (wof B)).sum) H') : spWordsOf C [.ref st, .ref nu] H Q E := ⟨st, wd, pl, nu, rm, en, B, F, rfl, S, h, hl, hF, q⟩
end
end ST

set_option Elab.async false
set_option linter.all false
set_option maxRecDepth 100000
set_option maxHeartbeats 4000000
namespace PySem
namespace KErr_need
open PySem.W PySem.Calls PyProof.Rows PySem.HandSPX PySem.KErr
def eA (p1 p2 : Pos) : Arguments := { posonlyargs := [], args := [{ arg := "self", annotation := none, pos := p1 }, { arg := "need", annotation := none, pos := p2 }], vararg := none, kwonlyargs := [], kw_defaults := [], kwarg := none, defaults := [] }
def eB (q : Nat → Pos) : List Stmt := [
  .Expr (.Call (.Attribute (.Call (.Name "super" (q 0)) [] [] (q 1)) "__init__" (q 2)) [.Call (.Name "str" (q 3)) [.Name "need" (q 4)] [] (q 5)] [] (q 6)) (q 7),
  .Assign [.Attribute (.Name "self" (q 8)) "need" (q 9)] (.Name "need" (q 10)) (q 11)]
def eS : Scope := { kind := .function, names := [(PySem.Str.ofString "self", .local), (PySem.Str.ofString "need", .local), (PySem.Str.ofString "__class__", .free), (PySem.Str.ofString "super", .globalImplicit), (PySem.Str.ofString "str", .globalImplicit)], isGenerator := false, isCoroutine := false, more := [] }
def MC (q : Nat → Pos) : Prop := ∀ env : Env, ∃ pl : Sem Bool, eval (.Call (.Attribute (.Call (.Name "super" (q 0)) [] [] (q 1)) "__init__" (q 2)) [.Call (.Name "str" (q 3)) [.Name "need" (q 4)] [] (q 5)] [] (q 6)) env = (do
      let ov ← attributeBase (.Call (.Name "super" (q 0)) [] [] (q 1)) "__init__" env (eval (.Call (.Name "super" (q 0)) [] [] (q 1)) env)
      standAt (q 2).atName
      let (f, first) ← holding [ov] (getMethod ov "__init__" pl)
      callWith (q 6) f first (backTo (q 6) (starEach [.Call (.Name "str" (q 3)) [.Name "need" (q 4)] [] (q 5)] env)) [])
def AC (q : Nat → Pos) : Prop := ∀ env : Env, swapsWith (.Name "need" (q 10)) (some (.Attribute (.Name "self" (q 8)) "need" (q 9))) (q 11).line env = pure false
/-- what the top leaves of the class x with the one field -/
structure ErrTxt (prog : Program) (K : Frag) (mg : Str → Option Value) (x qual : Str) (C fI cc cda : Addr) : Prop where
  gC : mg x = some (.ref C)
  cls : ∃ nm q N bs bm sn sub ab col dd k0 k1 k2 k3 k5, K.lookup C = some (excClassObj nm q C N bs bm true sn sub ab col dd k0 k1 k2 k3 k5 "ValueError.__new__") ∧ refsVE bm = true
  sup : ks_superIn K C C "__init__" = some (some (.builtin "ValueError.__init__"))
  sa : findIn K (.ref C) "__setattr__" = some (some (.builtin "object.__setattr__"))
  noN : findIn K (.ref C) "need" = some none
  iC : findIn K (.ref C) "__init__" = some (some (.ref fI))
  tC : typeIn K (.ref fI) = some (.type "function")
  kC : keepIn K (.ref C) = true
  exC : subIn K (.ref C) (.type "BaseException") = some true
  veC : subIn K (.ref C) (.type "ValueError") = some true
  tyC : typeIn K (.ref C) = some (.type "type")
  own : mroIn K C (.ref C) = some true
  tp : nsIn K cStatics "thirdparty.any" = some none
  dg : nsIn K cStatics "sys.int_max_str_digits" = some none
  nsup : mg "super" = none
  nstr : mg "str" = none
  fn : ∃ (oc : Value) (od : Option Addr) (doc pm : Value) (an : Option Addr) (ct : Value) (osl : Array (Option Value)) (p1 p2 : Pos) (q : Nat → Pos),
    K.lookup fI = some ⟨oc, od, .func (ksFn "__init__" qual (eA p1 p2) (eB q) eS .none .none doc pm an (.ref cda) ct cc), osl⟩ ∧ codeIn K (.ref cda) qual = true ∧ MC q ∧ AC q
  cell : ∃ cl cld csl, K.lookup cc = some ⟨cl, cld, .cell (some (.ref C)), csl⟩
  code : ∃ ccl cdd vs ccs file tf, K.lookup cda = some ⟨ccl, cdd, .fields vs, ccs⟩ ∧ vs[2]? = some (.str file tf) ∧ ((prog.main.file : Str) == file) = true
  top : (prog.main.scope.names.lookup ("super" : Str)).isSome = false
section
variable {prog : Program} {w : World} {A : Around} {E : Value → Shared → Prop} {R : Result → Shared → Prop} {s : Shared} {K : Frag} {mg : Str → Option Value} {x qual : Str} {C fI cc cda : Addr}
theorem err_init (T : ErrTxt prog K mg x qual C fI cc cda) {e t0 : Addr} {v : Value} (X : K.In s.heap) (hlim : s.heap.NoLimit) (G : s.heap.Ns mainGlobals mg) (B : ∃ mb, s.heap.Ns builtinsNs mb ∧ ∀ x : Str, x ≠ "__name__" → mb x = bootBuiltins x)
    (hx : s.heap.get? e = some (excO C t0)) (hnx : K.lookup e = none) (hh : A.handled = none) (hroom : A.depth < recursionLimit) (hv : StrOk prog w v)
    (hq : ∀ h' tk dx t1, InitEnd s.heap h' e C dx t1 "need" v → R (.ok (.ret .none)) { s with heap := h', toks := tk }) :
    codeAny (model prog w) A (.call (.ref fI) ⟨[.ref e, v], []⟩) R s := by
  obtain ⟨oc, od, doc, pm, an, ct, osl, p1, p2, q, ho, hcd, hMC, hAC⟩ := T.fn
  obtain ⟨nm, qn, N, bs, bm, sn, sub, ab, col, dd, k0, k1, k2, k3, k5, hC, hbm⟩ := T.cls
  obtain ⟨cl, cld, csl, hcell⟩ := T.cell
  obtain ⟨ccl, cdd, vs, ccs, file, tf, hcode, hvs, hfile⟩ := T.code
  obtain ⟨mb, Bn, Bb⟩ := B
  have hcl : clsIn K C = some { name := nm, bases := bs, mro := .ref C :: bm, ns := N, qualname := qn, hasDict := true, slotNames := sn, subclasses := sub, abstract := ab, collection := col, hasDel := false } := by unfold clsIn; rw [hC] <;> rfl
  refine ks_codeAny_call_defAt (fd := ksFn "__init__" qual (eA p1 p2) (eB q) eS .none .none doc pm an (.ref cda) ct cc) (body := eB q) (binds := [("self", .ref e), ("need", v)]) hroom (X _ _ ho) rfl hlim (codeRec_of X hcd) rfl ?b ?c ?l (fun h₁ hns k₁ => ?_)
  case b => exact BindsTo.of_eq (by first | rfl | with_unfolding_all rfl)
  case c => show ∀ x ∈ eS.names, x.2 ≠ .cell; decide
  case l => exact locs rfl
  obtain ⟨sh, sg, sd, st, sos⟩ := s
  have X₁ : K.In h₁ := X.keeps k₁
  have hx₁ := k₁ _ _ hx
  have hC₁ := X₁ _ _ hC
  show _root_.PySem.wpAt (model prog w) _ (.func (eB q) (ksEnv qual eS sh.objs.size fI (.ref cda) cc)) (execs (eB q) (ksEnv qual eS sh.objs.size fI (.ref cda) cc)) _ _ _
  obtain ⟨pl, hpl⟩ := hMC (ksEnv qual eS sh.objs.size fI (.ref cda) cc)
  refine ks_wpAt_execs_cons (ks_wpAt_Expr_any (ks_wpAt_MethodCall ?_ hpl))
  refine ks_wpAt_super_base (env := ksEnv qual eS sh.objs.size fI (.ref cda) cc) (ar := { arg := "self", annotation := none, pos := p1 }) rfl rfl (by decide) rfl (X₁ _ _ ho) rfl rfl rfl (X₁ _ _ hcode) rfl hvs hfile T.top ?_
  refine ks_loadName_global rfl rfl (loadGlobal_builtin (env := ksEnv qual eS sh.objs.size fI (.ref cda) cc) (G.keeps k₁) T.nsup (Bn.keeps k₁) ((Bb _ (by decide +kernel)).trans (by first | boot_by_name | rfl | kernel_rfl)) ⟨rfl, ?_⟩)
  refine wpAny_loadName_free rfl rfl rfl ⟨_, X₁ _ _ hcell, rfl⟩ ?_
  refine wpAny_loadName_local rfl rfl hns (by first | rfl | with_unfolding_all rfl | kernel_rfl) ?_
  refine ks_wpAny_isType_cls hC₁ rfl ⟨rfl, ?_⟩
  refine ks_wpAny_call_super hC₁ rfl hx₁ rfl (fun c z => by cases z) (looks_mroIn X₁ T.own) (fun h₂ e2 k2 => ?_)
  have X₂ : K.In h₂ := X₁.keeps k2
  have hC₂ := k2 _ _ hC₁
  have hx₂ := k2 _ _ hx₁
  have I₂ : InstAt h₂ e (excO C t0) C none := ⟨hx₂, rfl, rfl, trivial⟩
  have hxC : e ≠ C := ks_ne X₂ I₂ hcl
  have hsup := T.sup
  unfold ks_superIn at hsup
  rw [hcl] at hsup
  refine kxs_getMethod kxs_ValueError e2 (looks_opaque X₂ T.tp) (l₀ := .ref C :: bm) (fun A Q E s k q => wpAny_bind ((looks_clsIn X₂ hcl) A _ E s k (wpAny_pure q))) rfl X₂ hsup (I₂.type.andThen (looks_subIn X₂ T.veC)) hxC rfl ?_
  refine kxs_callWith (i := "ValueError.__init__") (x := e) rfl ?_
  refine Calls.evalArgs_plain (Calls.spliced_cons ?_)
  have k3 : ∀ b o, h₂.get? b = some o → (h₂.push (kxs_mw "ValueError.__init__" e)).get? b = some o := fun b o z => Heap.get?_push_of_some _ z
  have X₃ := X₂.keeps k3
  have G₃ := ((G.keeps k₁).keeps k2).keeps k3
  have B₃ := ((Bn.keeps k₁).keeps k2).keeps k3
  have hns₃ := (hns.keeps k2).keeps k3
  have hu : (h₂.push (kxs_mw "ValueError.__init__" e)).get? h₂.objs.size = some (kxs_mw "ValueError.__init__" e) := by heap_get
  have hdg : (h₂.push (kxs_mw "ValueError.__init__" e)).NoDigits := let ⟨mc, a, _⟩ := ((hlim.keeps k₁).keeps k2).keeps k3; ⟨mc, a, ns_none_of X₃ a T.dg⟩
  generalize h₂.push (kxs_mw "ValueError.__init__" e) = h₃ at *
  refine wpAny_Call_NameR (wpAny_Name (ks_loadName_global rfl rfl (loadGlobal_builtin (env := ksEnv qual eS sh.objs.size fI (.ref cda) cc) G₃ T.nstr B₃ ((Bb _ (by decide +kernel)).trans (by first | boot_by_name | rfl | kernel_rfl)) ?_)) rfl)
  refine callWith_type1 ?_
  show wpAny _ _ (eval (.Name "need" (q 4)) _) _ _ _
  refine wpAny_Name (wpAny_loadName_local rfl rfl hns₃ (by first | rfl | with_unfolding_all rfl | kernel_rfl) ?_) (by decide)
  refine hv _ _ _ _ hh hdg (fun txt tk tk' => ?_)
  refine Calls.spliced_nil ⟨hu, ?_⟩
  refine init_call (hC := k3 _ _ hC₂) (he := k3 _ _ hx₂) (hu := hu) (one_size _) (fun h₄ t1 k4 hx₄ => ?_)
  have hLe : sh.objs.size ≠ e := Nat.ne_of_gt (Heap.lt_size hx)
  have hns₄ : h₄.Ns sh.objs.size (fun x => List.lookup x [((PySem.Str.ofString "self" : Str), Value.ref e), ((PySem.Str.ofString "need" : Str), v)].reverse) := by
    obtain ⟨oL, es, ep, hL, r⟩ := hns₃
    exact ⟨oL, es, ep, k4 _ _ hLe hL, r⟩
  have X₄ : K.In h₄ := kept_but X₃ hnx k4
  show wpAt _ _ _ (execs _ _) _ _ _
  refine ks_wpAt_execs_cons (ks_wpAt_Assign_Attr (wpAt_of_wpAny (wpAny_Name (wpAny_loadName_local rfl rfl hns₄ (by first | rfl | with_unfolding_all rfl | kernel_rfl) ?_) (by decide))) (hAC _))
  refine wpAny_Name (wpAny_loadName_local rfl rfl hns₄ (by first | rfl | with_unfolding_all rfl | kernel_rfl) ?_) (by decide)
  refine set_plain X₄ (ox := excO C t1) (od := none) ⟨hx₄, rfl, rfl, trivial⟩ T.sa ?_
  refine exc_osa X₄ hx₄ hcl (show refsVE (.ref C :: bm) = true from hbm) rfl T.noN (fun h₅ tk₅ dx k₅ dn dne hx₅ hn₅ => ?_)
  show wpAt _ _ _ (execs _ _) _ _ _
  have z : sh.objs.size < h₄.objs.size := hns₄.lt
  refine wpAt_of_wpAny (wpAny_execs_nil (hq h₅ tk₅ dx t1 ⟨fun b o hb e => k₅ b o hb (k4 b o hb (k3 _ _ (k2 _ _ (k₁ b o e)))), hx₅, Nat.le_of_lt (Nat.lt_of_lt_of_le z dn), dne, hn₅⟩))
theorem err_made (T : ErrTxt prog K mg x qual C fI cc cda) : Mkd prog w K mg C ["need"] (fun vs => ∃ v, vs = [v] ∧ okS v) := by
  intro A s R vs us rl hok X hlim G B hh hroom hq
  obtain ⟨v, rfl, ov⟩ := hok
  cases rl with
  | cons rv rn =>
  rename_i u us'
  cases rn
  obtain ⟨nm, q, N, bs, bm, sn, sub, ab, col, dd, k0, k1, k2, k3, k5, hC, hbm⟩ := T.cls
  obtain ⟨hp, g, dr, tk, os⟩ := s
  have k : ∀ b o, hp.get? b = some o → ((hp.push (kdv_tup [u])).push (excO C hp.objs.size)).get? b = some o := fun b o e => Heap.get?_push_of_some _ (Heap.get?_push_of_some _ e)
  have hget : ((hp.push (kdv_tup [u])).push (excO C hp.objs.size)).get? (hp.objs.size + 1) = some (excO C hp.objs.size) := by heap_get
  have hnx : K.lookup (hp.objs.size + 1) = none := by
    cases e : K.lookup (hp.objs.size + 1) with
    | none => rfl
    | some o =>
      have z : hp.get? (hp.objs.size + 1) = some o := X _ _ e
      exact absurd (Nat.lt_of_succ_lt (Heap.lt_size z)) (Nat.lt_irrefl _)
  refine call_own F.excBase_ValueError (fun X => refsVE_contains X bm hbm) (X _ _ hC) (looks_findIn X T.iC) (fun self => bind_fn X self T.tC) (one_size u) ?_
  obtain ⟨mb, B1, B2⟩ := B
  refine err_init (s := ⟨(hp.push (kdv_tup [u])).push (excO C hp.objs.size), g, dr, tk, os⟩) T (X.keeps k) (hlim.keeps k) (G.keeps k) ⟨mb, B1.keeps k, B2⟩ hget hnx ?_ ?_ (okS_ok rv ov) fun h' tk' dx t1 ⟨k', hx, dn, dne, hns⟩ => ?_
  · exact hh
  · show A.depth + 1 < recursionLimit
    exact hroom
  · have old : ∀ b o, hp.get? b = some o → h'.get? b = some o := fun b o e => k' b o (Nat.ne_of_lt (Nat.lt_succ_of_lt (Heap.lt_size e))) (k b o e)
    have z : hp.objs.size + 1 + 1 ≤ dx := by
      first
        | (simpa only [Heap.size_push] using dn)
        | exact dn
        | (have q := dn; rw [Heap.size_push, Heap.size_push] at q; exact q)
    refine ⟨rfl, hq h' tk' (hp.objs.size + 1) dx ⟨old, Nat.le_succ _, ⟨_, _, hx, rfl, rfl, rfl, rfl, rfl⟩, Nat.le_trans (Nat.le_trans (Nat.le_succ _) (Nat.le_succ _)) z, dne, ?_⟩⟩
    have ef : (fun y : Str => List.lookup y ([(PySem.Str.ofString "need" : Str)].zip [u])) = fun y => if y = PySem.Str.ofString "need" then some u else none := by
      funext y
      by_cases h : y = PySem.Str.ofString "need"
      · simp [List.lookup, h]
      · have h2 : (y == PySem.Str.ofString "need") = false := by simpa using h
        simp [List.lookup, h, h2]
    rw [ef]
    exact hns
def p1Of (st : Stmt) : Pos := match (L2.defArgs st).args with | [a, _] => a.pos | _ => ⟨0, 0, 0, 0⟩
def p2Of (st : Stmt) : Pos := match (L2.defArgs st).args with | [_, a] => a.pos | _ => ⟨0, 0, 0, 0⟩
def qOf (st : Stmt) : Nat → Pos := match L2.defBody st with
  | [.Expr (.Call (.Attribute (.Call (.Name _ q0) _ _ q1) _ q2) [.Call (.Name _ q3) [.Name _ q4] _ q5] _ q6) q7, .Assign [.Attribute (.Name _ q8) _ q9] (.Name _ q10) q11] =>
    fun n => [q0, q1, q2, q3, q4, q5, q6, q7, q8, q9, q10, q11].getD n ⟨0, 0, 0, 0⟩
  | _ => fun _ => ⟨0, 0, 0, 0⟩
theorem err_mk (st : Stmt) {h : Heap} {nm q : Str} {N : Addr} {bs bm : List Value} {sn : List Str} {sub : List Value} {ab : Bool} {col : Option Bool} {dd : Option Addr} {k0 k1 k2 k3 k5 : Option Value} {oc : Value} {od : Option Addr} {doc pm : Value} {an : Option Addr} {ct : Value} {osl : Array (Option Value)}
    {cl : Value} {cld : Option Addr} {csl : Array (Option Value)} {ccl : Value} {cdd : Option Addr} {vs : Array Value} {ccs : Array (Option Value)} {file : Str} {tf : Tok}
    (X : K.In h) (G : h.Ns mainGlobals mg) (aC : nsIn K mainGlobals x = some (some (.ref C))) (xL : K.lookup C = some (excClassObj nm q C N bs bm true sn sub ab col dd k0 k1 k2 k3 k5 "ValueError.__new__")) (bmv : refsVE bm = true)
    (sup : ks_superIn K C C "__init__" = some (some (.builtin "ValueError.__init__"))) (sa : findIn K (.ref C) "__setattr__" = some (some (.builtin "object.__setattr__"))) (no : findIn K (.ref C) "need" = some none)
    (a1 : findIn K (.ref C) "__init__" = some (some (.ref fI))) (t1 : typeIn K (.ref fI) = some (.type "function")) (kC : keepIn K (.ref C) = true) (eC : subIn K (.ref C) (.type "BaseException") = some true) (vC : subIn K (.ref C) (.type "ValueError") = some true)
    (tC : typeIn K (.ref C) = some (.type "type")) (own : mroIn K C (.ref C) = some true) (tp : nsIn K cStatics "thirdparty.any" = some none) (dg : nsIn K cStatics "sys.int_max_str_digits" = some none) (nsup : nsIn K mainGlobals "super" = some none) (nstr : nsIn K mainGlobals "str" = some none)
    (hst : L2.defArgs st = eA (p1Of st) (p2Of st) ∧ L2.defBody st = eB (qOf st) ∧ L2.defScope st = eS)
    (l1 : K.lookup fI = some ⟨oc, od, .func (ksFn "__init__" qual (L2.defArgs st) (L2.defBody st) (L2.defScope st) .none .none doc pm an (.ref cda) ct cc), osl⟩) (c1 : codeIn K (.ref cda) qual = true) (mc : MC (qOf st)) (ac : AC (qOf st))
    (ce : K.lookup cc = some ⟨cl, cld, .cell (some (.ref C)), csl⟩) (co : K.lookup cda = some ⟨ccl, cdd, .fields vs, ccs⟩) (cf : vs[2]? = some (.str file tf)) (cg : ((prog.main.file : Str) == file) = true) (top : (prog.main.scope.names.lookup ("super" : Str)).isSome = false)
    (hg : findIn K (.ref C) "__getattribute__" = some (some (.builtin "BaseException.__getattribute__"))) (hk : findIn K (.ref C) "__getattr__" = some none) (hd : hasDictIn K C = true) (ha : findIn K (.ref C) "__class__" = some (some (.builtin "object.__class__")))
    (hn : specialIn K (.builtin "object.__class__") "__get__" = some (some (.builtin "getset_descriptor.__get__"))) (ht : takesIn K (.builtin "object.__class__") = some true) (hm : mroIn K C (.type "object") = some true) :
    KW.ErrC prog w K mg x C ["need"] (fun vs => ∃ v, vs = [v] ∧ okS v) := by
  have T : ErrTxt prog K mg x qual C fI cc cda :=
    { gC := mg_of X G aC, cls := ⟨nm, q, N, bs, bm, sn, sub, ab, col, dd, k0, k1, k2, k3, k5, xL, bmv⟩, sup := sup, sa := sa, noN := no, iC := a1, tC := t1, kC := kC, exC := eC, veC := vC, tyC := tC, own := own, tp := tp, dg := dg,
      nsup := mg_none_of X G nsup, nstr := mg_none_of X G nstr,
      fn := ⟨oc, od, doc, pm, an, ct, osl, p1Of st, p2Of st, qOf st, by rw [← hst.1, ← hst.2.1, ← hst.2.2]; exact l1, c1, mc, ac⟩,
      cell := ⟨cl, cld, csl, ce⟩, code := ⟨ccl, cdd, vs, ccs, file, tf, co, cf, cg⟩, top := top }
  exact ⟨T.gC, err_made T, kC, eC, tC, ⟨hg, hk, eC, hd⟩, ⟨hg, hk, eC, hd, ha, hn, ht, hm⟩, fun f hf => by cases hf with | head => exact no | tail _ z => cases z⟩
end
end KErr_need
end PySem

set_option Elab.async false
set_option linter.all false
set_option maxRecDepth 100000
set_option maxHeartbeats 4000000
namespace PySem
namespace KErr_word
open PySem.W PySem.Calls PyProof.Rows PySem.HandSPX PySem.KErr
def eA (p1 p2 : Pos) : Arguments := { posonlyargs := [], args := [{ arg := "self", annotation := none, pos := p1 }, { arg := "word", annotation := none, pos := p2 }], vararg := none, kwonlyargs := [], kw_defaults := [], kwarg := none, defaults := [] }
def eB (q : Nat → Pos) : List Stmt := [
  .Expr (.Call (.Attribute (.Call (.Name "super" (q 0)) [] [] (q 1)) "__init__" (q 2)) [.Call (.Name "str" (q 3)) [.Name "word" (q 4)] [] (q 5)] [] (q 6)) (q 7),
  .Assign [.Attribute (.Name "self" (q 8)) "word" (q 9)] (.Name "word" (q 10)) (q 11)]
def eS : Scope := { kind := .function, names := [(PySem.Str.ofString "self", .local), (PySem.Str.ofString "word", .local), (PySem.Str.ofString "__class__", .free), (PySem.Str.ofString "super", .globalImplicit), (PySem.Str.ofString "str", .globalImplicit)], isGenerator := false, isCoroutine := false, more := [] }
def MC (q : Nat → Pos) : Prop := ∀ env : Env, ∃ pl : Sem Bool, eval (.Call (.Attribute (.Call (.Name "super" (q 0)) [] [] (q 1)) "__init__" (q 2)) [.Call (.Name "str" (q 3)) [.Name "word" (q 4)] [] (q 5)] [] (q 6)) env = (do
      let ov ← attributeBase (.Call (.Name "super" (q 0)) [] [] (q 1)) "__init__" env (eval (.Call (.Name "super" (q 0)) [] [] (q 1)) env)
      standAt (q 2).atName
      let (f, first) ← holding [ov] (getMethod ov "__init__" pl)
      callWith (q 6) f first (backTo (q 6) (starEach [.Call (.Name "str" (q 3)) [.Name "word" (q 4)] [] (q 5)] env)) [])
def AC (q : Nat → Pos) : Prop := ∀ env : Env, swapsWith (.Name "word" (q 10)) (some (.Attribute (.Name "self" (q 8)) "word" (q 9))) (q 11).line env = pure false
/-- what the top leaves of the class x with the one field -/
structure ErrTxt (prog : Program) (K : Frag) (mg : Str → Option Value) (x qual : Str) (C fI cc cda : Addr) : Prop where
  gC : mg x = some (.ref C)
  cls : ∃ nm q N bs bm sn sub ab col dd k0 k1 k2 k3 k5, K.lookup C = some (excClassObj nm q C N bs bm true sn sub ab col dd k0 k1 k2 k3 k5 "ValueError.__new__") ∧ refsVE bm = true
  sup : ks_superIn K C C "__init__" = some (some (.builtin "ValueError.__init__"))
  sa : findIn K (.ref C) "__setattr__" = some (some (.builtin "object.__setattr__"))
  noN : findIn K (.ref C) "word" = some none
  iC : findIn K (.ref C) "__init__" = some (some (.ref fI))
  tC : typeIn K (.ref fI) = some (.type "function")
  kC : keepIn K (.ref C) = true
  exC : subIn K (.ref C) (.type "BaseException") = some true
  veC : subIn K (.ref C) (.type "ValueError") = some true
  tyC : typeIn K (.ref C) = some (.type "type")
  own : mroIn K C (.ref C) = some true
  tp : nsIn K cStatics "thirdparty.any" = some none
  dg : nsIn K cStatics "sys.int_max_str_digits" = some none
  nsup : mg "super" = none
  nstr : mg "str" = none
  fn : ∃ (oc : Value) (od : Option Addr) (doc pm : Value) (an : Option Addr) (ct : Value) (osl : Array (Option Value)) (p1 p2 : Pos) (q : Nat → Pos),
    K.lookup fI = some ⟨oc, od, .func (ksFn "__init__" qual (eA p1 p2) (eB q) eS .none .none doc pm an (.ref cda) ct cc), osl⟩ ∧ codeIn K (.ref cda) qual = true ∧ MC q ∧ AC q
  cell : ∃ cl cld csl, K.lookup cc = some ⟨cl, cld, .cell (some (.ref C)), csl⟩
  code : ∃ ccl cdd vs ccs file tf, K.lookup cda = some ⟨ccl, cdd, .fields vs, ccs⟩ ∧ vs[2]? = some (.str file tf) ∧ ((prog.main.file : Str) == file) = true
  top : (prog.main.scope.names.lookup ("super" : Str)).isSome = false
section
variable {prog : Program} {w : World} {A : Around} {E : Value → Shared → Prop} {R : Result → Shared → Prop} {s : Shared} {K : Frag} {mg : Str → Option Value} {x qual : Str} {C fI cc cda : Addr}
theorem err_init (T : ErrTxt prog K mg x qual C fI cc cda) {e t0 : Addr} {v : Value} (X : K.In s.heap) (hlim : s.heap.NoLimit) (G : s.heap.Ns mainGlobals mg) (B : ∃ mb, s.heap.Ns builtinsNs mb ∧ ∀ x : Str, x ≠ "__name__" → mb x = bootBuiltins x)
    (hx : s.heap.get? e = some (excO C t0)) (hnx : K.lookup e = none) (hh : A.handled = none) (hroom : A.depth < recursionLimit) (hv : StrOk prog w v)
    (hq : ∀ h' tk dx t1, InitEnd s.heap h' e C dx t1 "word" v → R (.ok (.ret .none)) { s with heap := h', toks := tk }) :
    codeAny (model prog w) A (.call (.ref fI) ⟨[.ref e, v], []⟩) R s := by
  obtain ⟨oc, od, doc, pm, an, ct, osl, p1, p2, q, ho, hcd, hMC, hAC⟩ := T.fn
  obtain ⟨nm, qn, N, bs, bm, sn, sub, ab, col, dd, k0, k1, k2, k3, k5, hC, hbm⟩ := T.cls
  obtain ⟨cl, cld, csl, hcell⟩ := T.cell
  obtain ⟨ccl, cdd, vs, ccs, file, tf, hcode, hvs, hfile⟩ := T.code
  obtain ⟨mb, Bn, Bb⟩ := B
  have hcl : clsIn K C = some { name := nm, bases := bs, mro := .ref C :: bm, ns := N, qualname := qn, hasDict := true, slotNames := sn, subclasses := sub, abstract := ab, collection := col, hasDel := false } := by unfold clsIn; rw [hC] <;> rfl
  refine ks_codeAny_call_defAt (fd := ksFn "__init__" qual (eA p1 p2) (eB q) eS .none .none doc pm an (.ref cda) ct cc) (body := eB q) (binds := [("self", .ref e), ("word", v)]) hroom (X _ _ ho) rfl hlim (codeRec_of X hcd) rfl ?b ?c ?l (fun h₁ hns k₁ => ?_)
  case b => exact BindsTo.of_eq (by first | rfl | with_unfolding_all rfl)
  case c => show ∀ x ∈ eS.names, x.2 ≠ .cell; decide
  case l => exact locs rfl
  obtain ⟨sh, sg, sd, st, sos⟩ := s
  have X₁ : K.In h₁ := X.keeps k₁
  have hx₁ := k₁ _ _ hx
  have hC₁ := X₁ _ _ hC
  show _root_.PySem.wpAt (model prog w) _ (.func (eB q) (ksEnv qual eS sh.objs.size fI (.ref cda) cc)) (execs (eB q) (ksEnv qual eS sh.objs.size fI (.ref cda) cc)) _ _ _
  obtain ⟨pl, hpl⟩ := hMC (ksEnv qual eS sh.objs.size fI (.ref cda) cc)
  refine ks_wpAt_execs_cons (ks_wpAt_Expr_any (ks_wpAt_MethodCall ?_ hpl))
  refine ks_wpAt_super_base (env := ksEnv qual eS sh.objs.size fI (.ref cda) cc) (ar := { arg := "self", annotation := none, pos := p1 }) rfl rfl (by decide) rfl (X₁ _ _ ho) rfl rfl rfl (X₁ _ _ hcode) rfl hvs hfile T.top ?_
  refine ks_loadName_global rfl rfl (loadGlobal_builtin (env := ksEnv qual eS sh.objs.size fI (.ref cda) cc) (G.keeps k₁) T.nsup (Bn.keeps k₁) ((Bb _ (by decide +kernel)).trans (by first | boot_by_name | rfl | kernel_rfl)) ⟨rfl, ?_⟩)
  refine wpAny_loadName_free rfl rfl rfl ⟨_, X₁ _ _ hcell, rfl⟩ ?_
  refine wpAny_loadName_local rfl rfl hns (by first | rfl | with_unfolding_all rfl | kernel_rfl) ?_
  refine ks_wpAny_isType_cls hC₁ rfl ⟨rfl, ?_⟩
  refine ks_wpAny_call_super hC₁ rfl hx₁ rfl (fun c z => by cases z) (looks_mroIn X₁ T.own) (fun h₂ e2 k2 => ?_)
  have X₂ : K.In h₂ := X₁.keeps k2
  have hC₂ := k2 _ _ hC₁
  have hx₂ := k2 _ _ hx₁
  have I₂ : InstAt h₂ e (excO C t0) C none := ⟨hx₂, rfl, rfl, trivial⟩
  have hxC : e ≠ C := ks_ne X₂ I₂ hcl
  have hsup := T.sup
  unfold ks_superIn at hsup
  rw [hcl] at hsup
  refine kxs_getMethod kxs_ValueError e2 (looks_opaque X₂ T.tp) (l₀ := .ref C :: bm) (fun A Q E s k q => wpAny_bind ((looks_clsIn X₂ hcl) A _ E s k (wpAny_pure q))) rfl X₂ hsup (I₂.type.andThen (looks_subIn X₂ T.veC)) hxC rfl ?_
  refine kxs_callWith (i := "ValueError.__init__") (x := e) rfl ?_
  refine Calls.evalArgs_plain (Calls.spliced_cons ?_)
  have k3 : ∀ b o, h₂.get? b = some o → (h₂.push (kxs_mw "ValueError.__init__" e)).get? b = some o := fun b o z => Heap.get?_push_of_some _ z
  have X₃ := X₂.keeps k3
  have G₃ := ((G.keeps k₁).keeps k2).keeps k3
  have B₃ := ((Bn.keeps k₁).keeps k2).keeps k3
  have hns₃ := (hns.keeps k2).keeps k3
  have hu : (h₂.push (kxs_mw "ValueError.__init__" e)).get? h₂.objs.size = some (kxs_mw "ValueError.__init__" e) := by heap_get
  have hdg : (h₂.push (kxs_mw "ValueError.__init__" e)).NoDigits := let ⟨mc, a, _⟩ := ((hlim.keeps k₁).keeps k2).keeps k3; ⟨mc, a, ns_none_of X₃ a T.dg⟩
  generalize h₂.push (kxs_mw "ValueError.__init__" e) = h₃ at *
  refine wpAny_Call_NameR (wpAny_Name (ks_loadName_global rfl rfl (loadGlobal_builtin (env := ksEnv qual eS sh.objs.size fI (.ref cda) cc) G₃ T.nstr B₃ ((Bb _ (by decide +kernel)).trans (by first | boot_by_name | rfl | kernel_rfl)) ?_)) rfl)
  refine callWith_type1 ?_
  show wpAny _ _ (eval (.Name "word" (q 4)) _) _ _ _
  refine wpAny_Name (wpAny_loadName_local rfl rfl hns₃ (by first | rfl | with_unfolding_all rfl | kernel_rfl) ?_) (by decide)
  refine hv _ _ _ _ hh hdg (fun txt tk tk' => ?_)
  refine Calls.spliced_nil ⟨hu, ?_⟩
  refine init_call (hC := k3 _ _ hC₂) (he := k3 _ _ hx₂) (hu := hu) (one_size _) (fun h₄ t1 k4 hx₄ => ?_)
  have hLe : sh.objs.size ≠ e := Nat.ne_of_gt (Heap.lt_size hx)
  have hns₄ : h₄.Ns sh.objs.size (fun x => List.lookup x [((PySem.Str.ofString "self" : Str), Value.ref e), ((PySem.Str.ofString "word" : Str), v)].reverse) := by
    obtain ⟨oL, es, ep, hL, r⟩ := hns₃
    exact ⟨oL, es, ep, k4 _ _ hLe hL, r⟩
  have X₄ : K.In h₄ := kept_but X₃ hnx k4
  show wpAt _ _ _ (execs _ _) _ _ _
  refine ks_wpAt_execs_cons (ks_wpAt_Assign_Attr (wpAt_of_wpAny (wpAny_Name (wpAny_loadName_local rfl rfl hns₄ (by first | rfl | with_unfolding_all rfl | kernel_rfl) ?_) (by decide))) (hAC _))
  refine wpAny_Name (wpAny_loadName_local rfl rfl hns₄ (by first | rfl | with_unfolding_all rfl | kernel_rfl) ?_) (by decide)
  refine set_plain X₄ (ox := excO C t1) (od := none) ⟨hx₄, rfl, rfl, trivial⟩ T.sa ?_
  refine exc_osa X₄ hx₄ hcl (show refsVE (.ref C :: bm) = true from hbm) rfl T.noN (fun h₅ tk₅ dx k₅ dn dne hx₅ hn₅ => ?_)
  show wpAt _ _ _ (execs _ _) _ _ _
  have z : sh.objs.size < h₄.objs.size := hns₄.lt
  refine wpAt_of_wpAny (wpAny_execs_nil (hq h₅ tk₅ dx t1 ⟨fun b o hb e => k₅ b o hb (k4 b o hb (k3 _ _ (k2 _ _ (k₁ b o e)))), hx₅, Nat.le_of_lt (Nat.lt_of_lt_of_le z dn), dne, hn₅⟩))
theorem err_made (T : ErrTxt prog K mg x qual C fI cc cda) : Mkd prog w K mg C ["word"] (fun vs => ∃ v, vs = [v] ∧ okS v) := by
  intro A s R vs us rl hok X hlim G B hh hroom hq
  obtain ⟨v, rfl, ov⟩ := hok
  cases rl with
  | cons rv rn =>
  rename_i u us'
  cases rn
  obtain ⟨nm, q, N, bs, bm, sn, sub, ab, col, dd, k0, k1, k2, k3, k5, hC, hbm⟩ := T.cls
  obtain ⟨hp, g, dr, tk, os⟩ := s
  have k : ∀ b o, hp.get? b = some o → ((hp.push (kdv_tup [u])).push (excO C hp.objs.size)).get? b = some o := fun b o e => Heap.get?_push_of_some _ (Heap.get?_push_of_some _ e)
  have hget : ((hp.push (kdv_tup [u])).push (excO C hp.objs.size)).get? (hp.objs.size + 1) = some (excO C hp.objs.size) := by heap_get
  have hnx : K.lookup (hp.objs.size + 1) = none := by
    cases e : K.lookup (hp.objs.size + 1) with
    | none => rfl
    | some o =>
      have z : hp.get? (hp.objs.size + 1) = some o := X _ _ e
      exact absurd (Nat.lt_of_succ_lt (Heap.lt_size z)) (Nat.lt_irrefl _)
  refine call_own F.excBase_ValueError (fun X => refsVE_contains X bm hbm) (X _ _ hC) (looks_findIn X T.iC) (fun self => bind_fn X self T.tC) (one_size u) ?_
  obtain ⟨mb, B1, B2⟩ := B
  refine err_init (s := ⟨(hp.push (kdv_tup [u])).push (excO C hp.objs.size), g, dr, tk, os⟩) T (X.keeps k) (hlim.keeps k) (G.keeps k) ⟨mb, B1.keeps k, B2⟩ hget hnx ?_ ?_ (okS_ok rv ov) fun h' tk' dx t1 ⟨k', hx, dn, dne, hns⟩ => ?_
  · exact hh
  · show A.depth + 1 < recursionLimit
    exact hroom
  · have old : ∀ b o, hp.get? b = some o → h'.get? b = some o := fun b o e => k' b o (Nat.ne_of_lt (Nat.lt_succ_of_lt (Heap.lt_size e))) (k b o e)
    have z : hp.objs.size + 1 + 1 ≤ dx := by
      first
        | (simpa only [Heap.size_push] using dn)
        | exact dn
        | (have q := dn; rw [Heap.size_push, Heap.size_push] at q; exact q)
    refine ⟨rfl, hq h' tk' (hp.objs.size + 1) dx ⟨old, Nat.le_succ _, ⟨_, _, hx, rfl, rfl, rfl, rfl, rfl⟩, Nat.le_trans (Nat.le_trans (Nat.le_succ _) (Nat.le_succ _)) z, dne, ?_⟩⟩
    have ef : (fun y : Str => List.lookup y ([(PySem.Str.ofString "word" : Str)].zip [u])) = fun y => if y = PySem.Str.ofString "word" then some u else none := by
      funext y
      by_cases h : y = PySem.Str.ofString "word"
      · simp [List.lookup, h]
      · have h2 : (y == PySem.Str.ofString "word") = false := by simpa using h
        simp [List.lookup, h, h2]
    rw [ef]
    exact hns
def p1Of (st : Stmt) : Pos := match (L2.defArgs st).args with | [a, _] => a.pos | _ => ⟨0, 0, 0, 0⟩
def p2Of (st : Stmt) : Pos := match (L2.defArgs st).args with | [_, a] => a.pos | _ => ⟨0, 0, 0, 0⟩
def qOf (st : Stmt) : Nat → Pos := match L2.defBody st with
  | [.Expr (.Call (.Attribute (.Call (.Name _ q0) _ _ q1) _ q2) [.Call (.Name _ q3) [.Name _ q4] _ q5] _ q6) q7, .Assign [.Attribute (.Name _ q8) _ q9] (.Name _ q10) q11] =>
    fun n => [q0, q1, q2, q3, q4, q5, q6, q7, q8, q9, q10, q11].getD n ⟨0, 0, 0, 0⟩
  | _ => fun _ => ⟨0, 0, 0, 0⟩
theorem err_mk (st : Stmt) {h : Heap} {nm q : Str} {N : Addr} {bs bm : List Value} {sn : List Str} {sub : List Value} {ab : Bool} {col : Option Bool} {dd : Option Addr} {k0 k1 k2 k3 k5 : Option Value} {oc : Value} {od : Option Addr} {doc pm : Value} {an : Option Addr} {ct : Value} {osl : Array (Option Value)}
    {cl : Value} {cld : Option Addr} {csl : Array (Option Value)} {ccl : Value} {cdd : Option Addr} {vs : Array Value} {ccs : Array (Option Value)} {file : Str} {tf : Tok}
    (X : K.In h) (G : h.Ns mainGlobals mg) (aC : nsIn K mainGlobals x = some (some (.ref C))) (xL : K.lookup C = some (excClassObj nm q C N bs bm true sn sub ab col dd k0 k1 k2 k3 k5 "ValueError.__new__")) (bmv : refsVE bm = true)
    (sup : ks_superIn K C C "__init__" = some (some (.builtin "ValueError.__init__"))) (sa : findIn K (.ref C) "__setattr__" = some (some (.builtin "object.__setattr__"))) (no : findIn K (.ref C) "word" = some none)
    (a1 : findIn K (.ref C) "__init__" = some (some (.ref fI))) (t1 : typeIn K (.ref fI) = some (.type "function")) (kC : keepIn K (.ref C) = true) (eC : subIn K (.ref C) (.type "BaseException") = some true) (vC : subIn K (.ref C) (.type "ValueError") = some true)
    (tC : typeIn K (.ref C) = some (.type "type")) (own : mroIn K C (.ref C) = some true) (tp : nsIn K cStatics "thirdparty.any" = some none) (dg : nsIn K cStatics "sys.int_max_str_digits" = some none) (nsup : nsIn K mainGlobals "super" = some none) (nstr : nsIn K mainGlobals "str" = some none)
    (hst : L2.defArgs st = eA (p1Of st) (p2Of st) ∧ L2.defBody st = eB (qOf st) ∧ L2.defScope st = eS)
    (l1 : K.lookup fI = some ⟨oc, od, .func (ksFn "__init__" qual (L2.defArgs st) (L2.defBody st) (L2.defScope st) .none .none doc pm an (.ref cda) ct cc), osl⟩) (c1 : codeIn K (.ref cda) qual = true) (mc : MC (qOf st)) (ac : AC (qOf st))
    (ce : K.lookup cc = some ⟨cl, cld, .cell (some (.ref C)), csl⟩) (co : K.lookup cda = some ⟨ccl, cdd, .fields vs, ccs⟩) (cf : vs[2]? = some (.str file tf)) (cg : ((prog.main.file : Str) == file) = true) (top : (prog.main.scope.names.lookup ("super" : Str)).isSome = false)
    (hg : findIn K (.ref C) "__getattribute__" = some (some (.builtin "BaseException.__getattribute__"))) (hk : findIn K (.ref C) "__getattr__" = some none) (hd : hasDictIn K C = true) (ha : findIn K (.ref C) "__class__" = some (some (.builtin "object.__class__")))
    (hn : specialIn K (.builtin "object.__class__") "__get__" = some (some (.builtin "getset_descriptor.__get__"))) (ht : takesIn K (.builtin "object.__class__") = some true) (hm : mroIn K C (.type "object") = some true) :
    KW.ErrC prog w K mg x C ["word"] (fun vs => ∃ v, vs = [v] ∧ okS v) := by
  have T : ErrTxt prog K mg x qual C fI cc cda :=
    { gC := mg_of X G aC, cls := ⟨nm, q, N, bs, bm, sn, sub, ab, col, dd, k0, k1, k2, k3, k5, xL, bmv⟩, sup := sup, sa := sa, noN := no, iC := a1, tC := t1, kC := kC, exC := eC, veC := vC, tyC := tC, own := own, tp := tp, dg := dg,
      nsup := mg_none_of X G nsup, nstr := mg_none_of X G nstr,
      fn := ⟨oc, od, doc, pm, an, ct, osl, p1Of st, p2Of st, qOf st, by rw [← hst.1, ← hst.2.1, ← hst.2.2]; exact l1, c1, mc, ac⟩,
      cell := ⟨cl, cld, csl, ce⟩, code := ⟨ccl, cdd, vs, ccs, file, tf, co, cf, cg⟩, top := top }
  exact ⟨T.gC, err_made T, kC, eC, tC, ⟨hg, hk, eC, hd⟩, ⟨hg, hk, eC, hd, ha, hn, ht, hm⟩, fun f hf => by cases hf with | head => exact no | tail _ z => cases z⟩
end
end KErr_word
end PySem

set_option Elab.async false
set_option linter.all false
set_option maxRecDepth 100000
set_option maxHeartbeats 4000000
namespace K00
open PySem PySem.Spec PyProof.Rows L2 KW
def topS (i : Nat) : Stmt := PySem.Challenge.pw_kilnwarden_k00_words_back_and_forth.main.body.getD i (.Pass ⟨0, 0, 0, 0⟩)

theorem lit_0 : (PySem.Str.ofString "1") = S [49] := by decide +kernel
theorem lit_1 : (PySem.Str.ofString "0") = S [48] := by decide +kernel
abbrev s_BadWord_init : Stmt := inClass (topS 2) 0
abbrev s_NoRoom_init : Stmt := inClass (topS 3) 0
abbrev s_fits : Stmt := topS 9
abbrev N_fits : List Str := ["number"]
theorem sc_fits : FnScope N_fits ["number"] (defScope s_fits) := ⟨rfl, rfl, rfl, by decide +kernel, rfl, by decide +kernel, by decide +kernel⟩
abbrev s_of_int : Stmt := topS 10
abbrev N_of_int : List Str := ["number"]
theorem sc_of_int : FnScope N_of_int ["number"] (defScope s_of_int) := ⟨rfl, rfl, rfl, by decide +kernel, rfl, by decide +kernel, by decide +kernel⟩
abbrev s_of_symbol : Stmt := topS 11
abbrev N_of_symbol : List Str := ["number"]
theorem sc_of_symbol : FnScope N_of_symbol ["number"] (defScope s_of_symbol) := ⟨rfl, rfl, rfl, by decide +kernel, rfl, by decide +kernel, by decide +kernel⟩
abbrev s_of_ref : Stmt := topS 12
abbrev N_of_ref : List Str := ["number"]
theorem sc_of_ref : FnScope N_of_ref ["number"] (defScope s_of_ref) := ⟨rfl, rfl, rfl, by decide +kernel, rfl, by decide +kernel, by decide +kernel⟩
abbrev s_is_int : Stmt := topS 13
abbrev N_is_int : List Str := ["word"]
theorem sc_is_int : FnScope N_is_int ["word"] (defScope s_is_int) := ⟨rfl, rfl, rfl, by decide +kernel, rfl, by decide +kernel, by decide +kernel⟩
abbrev s_is_symbol : Stmt := topS 14
abbrev N_is_symbol : List Str := ["word"]
theorem sc_is_symbol : FnScope N_is_symbol ["word"] (defScope s_is_symbol) := ⟨rfl, rfl, rfl, by decide +kernel, rfl, by decide +kernel, by decide +kernel⟩
abbrev s_is_ref : Stmt := topS 15
abbrev N_is_ref : List Str := ["word"]
theorem sc_is_ref : FnScope N_is_ref ["word"] (defScope s_is_ref) := ⟨rfl, rfl, rfl, by decide +kernel, rfl, by decide +kernel, by decide +kernel⟩
abbrev s_int_of : Stmt := topS 16
abbrev N_int_of : List Str := ["word"]
theorem sc_int_of : FnScope N_int_of ["word"] (defScope s_int_of) := ⟨rfl, rfl, rfl, by decide +kernel, rfl, by decide +kernel, by decide +kernel⟩
abbrev s_symbol_of : Stmt := topS 17
abbrev N_symbol_of : List Str := ["word"]
theorem sc_symbol_of : FnScope N_symbol_of ["word"] (defScope s_symbol_of) := ⟨rfl, rfl, rfl, by decide +kernel, rfl, by decide +kernel, by decide +kernel⟩
abbrev s_ref_of : Stmt := topS 18
abbrev N_ref_of : List Str := ["word"]
theorem sc_ref_of : FnScope N_ref_of ["word"] (defScope s_ref_of) := ⟨rfl, rfl, rfl, by decide +kernel, rfl, by decide +kernel, by decide +kernel⟩
abbrev s_is_word : Stmt := topS 19
abbrev N_is_word : List Str := ["word"]
theorem sc_is_word : FnScope N_is_word ["word"] (defScope s_is_word) := ⟨rfl, rfl, rfl, by decide +kernel, rfl, by decide +kernel, by decide +kernel⟩
abbrev s__law_integer : Stmt := topS 21
abbrev N__law_integer : List Str := ["cell", "bases", "base"]
theorem sc__law_integer : FnScope N__law_integer ["cell"] (defScope s__law_integer) := ⟨rfl, rfl, rfl, by decide +kernel, rfl, by decide +kernel, by decide +kernel⟩
abbrev s__law_is : Stmt := topS 22
abbrev N__law_is : List Str := ["actual", "due"]
theorem sc__law_is : FnScope N__law_is ["actual", "due"] (defScope s__law_is) := ⟨rfl, rfl, rfl, by decide +kernel, rfl, by decide +kernel, by decide +kernel⟩
abbrev s__law_error : Stmt := topS 23
abbrev N__law_error : List Str := ["e", "number"]
theorem sc__law_error : FnScope N__law_error ["e", "number"] (defScope s__law_error) := ⟨rfl, rfl, rfl, by decide +kernel, rfl, by decide +kernel, by decide +kernel⟩
abbrev s__law_made : Stmt := topS 24
abbrev N__law_made : List Str := ["number", "due", "told", "k", "e"]
theorem sc__law_made : FnScope N__law_made ["number"] (defScope s__law_made) := ⟨rfl, rfl, rfl, by decide +kernel, rfl, by decide +kernel, by decide +kernel⟩
abbrev s__law_read : Stmt := topS 25
abbrev N__law_read : List Str := ["word", "rest", "due", "told", "k", "e"]
theorem sc__law_read : FnScope N__law_read ["word"] (defScope s__law_read) := ⟨rfl, rfl, rfl, by decide +kernel, rfl, by decide +kernel, by decide +kernel⟩
abbrev s__law_is_word : Stmt := topS 26
abbrev N__law_is_word : List Str := ["word", "rest"]
theorem sc__law_is_word : FnScope N__law_is_word ["word"] (defScope s__law_is_word) := ⟨rfl, rfl, rfl, by decide +kernel, rfl, by decide +kernel, by decide +kernel⟩
abbrev s_law : Stmt := topS 27
abbrev N_law : List Str := ["script", "cells", "cell", "number"]
theorem sc_law : FnScope N_law ["script"] (defScope s_law) := ⟨rfl, rfl, rfl, by decide +kernel, rfl, by decide +kernel, by decide +kernel⟩
structure Ads where
  KilnwardenError : Addr
  BadWord : Addr
  NoRoom : Addr
structure Txt (P : Program) (w : World) (K : Frag) (mg : Str → Option Value) (a : Ads) : Prop where
  g_KilnwardenError : mg "KilnwardenError" = some (.ref a.KilnwardenError)
  g_BadWord : mg "BadWord" = some (.ref a.BadWord)
  g_NoRoom : mg "NoRoom" = some (.ref a.NoRoom)
  e_BadWord : ErrC P w K mg "BadWord" a.BadWord ["word"] (fun vs => ∃ v, vs = [v] ∧ PySem.KErr.okS v)
  x_BadWord_BadWord : PySem.W.exmOne K (.ref a.BadWord) (.ref a.BadWord) = some true
  i_BadWord_KilnwardenError : PySem.W.kitOne K (.ref a.BadWord) (.ref a.KilnwardenError) = some true
  i_BadWord_NoRoom : PySem.W.kitOne K (.ref a.BadWord) (.ref a.NoRoom) = some false
  i_BadWord_ValueError : PySem.W.kitOne K (.ref a.BadWord) (.type "ValueError") = some true
  e_NoRoom : ErrC P w K mg "NoRoom" a.NoRoom ["need"] (fun vs => ∃ v, vs = [v] ∧ PySem.KErr.okS v)
  x_NoRoom_BadWord : PySem.W.exmOne K (.ref a.NoRoom) (.ref a.BadWord) = some false
  i_NoRoom_KilnwardenError : PySem.W.kitOne K (.ref a.NoRoom) (.ref a.KilnwardenError) = some true
  i_NoRoom_NoRoom : PySem.W.kitOne K (.ref a.NoRoom) (.ref a.NoRoom) = some true
  i_NoRoom_ValueError : PySem.W.kitOne K (.ref a.NoRoom) (.type "ValueError") = some true
  dg : PySem.W.nsIn K cStatics "sys.int_max_str_digits" = some none
  n_ValueError : mg "ValueError" = none
  n_bool : mg "bool" = none
  n_int : mg "int" = none
  n_isinstance : mg "isinstance" = none
  n_range : mg "range" = none
  g_NIL : GV mg "NIL" (.int (0))
  g_LEAST : GV mg "LEAST" (.int (-268435456))
  g_GREATEST : GV mg "GREATEST" (.int (268435455))
  g_MOST : GV mg "MOST" (.int (100000))
  d_fits : DefAt K mg "fits" "fits" s_fits ["number"]
  d_of_int : DefAt K mg "of_int" "of_int" s_of_int ["number"]
  d_of_symbol : DefAt K mg "of_symbol" "of_symbol" s_of_symbol ["number"]
  d_of_ref : DefAt K mg "of_ref" "of_ref" s_of_ref ["number"]
  d_is_int : DefAt K mg "is_int" "is_int" s_is_int ["word"]
  d_is_symbol : DefAt K mg "is_symbol" "is_symbol" s_is_symbol ["word"]
  d_is_ref : DefAt K mg "is_ref" "is_ref" s_is_ref ["word"]
  d_int_of : DefAt K mg "int_of" "int_of" s_int_of ["word"]
  d_symbol_of : DefAt K mg "symbol_of" "symbol_of" s_symbol_of ["word"]
  d_ref_of : DefAt K mg "ref_of" "ref_of" s_ref_of ["word"]
  d_is_word : DefAt K mg "is_word" "is_word" s_is_word ["word"]
  d__law_integer : DefAt K mg "_law_integer" "_law_integer" s__law_integer ["cell"]
  d__law_is : DefAt K mg "_law_is" "_law_is" s__law_is ["actual", "due"]
  d__law_error : DefAt K mg "_law_error" "_law_error" s__law_error ["e", "number"]
  d__law_made : DefAt K mg "_law_made" "_law_made" s__law_made ["number"]
  d__law_read : DefAt K mg "_law_read" "_law_read" s__law_read ["word"]
  d__law_is_word : DefAt K mg "_law_is_word" "_law_is_word" s__law_is_word ["word"]
  d_law : DefAt K mg "law" "law" s_law ["script"]
theorem Txt.ex {P : Program} {w : World} {K : Frag} {mg : Str → Option Value} {A_KilnwardenError : Addr} {A_BadWord : Addr} {A_NoRoom : Addr} (h : Txt P w K mg ⟨A_KilnwardenError, A_BadWord, A_NoRoom⟩) : ∃ a, Txt P w K mg a := ⟨_, h⟩
end K00

set_option Elab.async false
set_option linter.all false
set_option maxRecDepth 100000
set_option maxHeartbeats 4000000
/-! Kw4: own defs called within an except suite -/
namespace KW
open PySem PySem.Spec PyProof.Rows L2
structure CalH (P : Program) (w : World) (K : Frag) (mg : Str → Option Value) (base : Heap) (k : Nat) (x : Str) (sp : Sp) : Prop where
  ex : ∃ (f : Addr) (fd : FuncData) (ps : List Str), mg x = some (.ref f) ∧ PySem.W.keepIn K (.ref f) = true ∧ Binds K fd ps [] ∧ L2H.FnH P w K mg base (L2N.CX P w) k f fd ps sp
section
variable {P : Program} {w : World} {K : Frag} {mg : Str → Option Value} {base : Heap}
theorem DefAt.okH {x qual : Str} {st : Stmt} {N ps : List Str} {k : Nat} {sp : Sp} (D : DefAt K mg x qual st ps) (S : FnScope N ps (defScope st)) (len : ∀ vs H Q E, sp vs H Q E → vs.length = ps.length)
    (hbody : ∀ (f : Addr) (cdv : Value) (A : Around) (outer : List Env) (s : Shared) (H : Hp) (vs : List V) (Q : VK) (E : XK) (pp : Addr × Obj), L2H.RoomH k (A.deeper (envOfC qual (defScope st) s.heap.objs.size f cdv)) → sp vs H Q E →
      ∃ t, PSs (L2H.cxH (L2N.CX P w) P w K mg base N qual (defScope st) f cdv A outer s H E pp) (defBody st) t ∧ t { nx := fun _ H' => Q .non H', rt := Q } (start N vs) H) : CalH P w K mg base (k + 1) x sp := by
  obtain ⟨f, fd, hm, F, hb⟩ := D.ex
  refine ⟨f, fd, ps, hm, F.kp, hb, ?_⟩
  obtain ⟨oc, od, kV, doc, pm, an, cdv, ct, osl, rfl, lk, hcd⟩ := F.ex
  exact L2H.fn_ofH lk hcd S len fun A outer s H vs Q E pp _ hr hsp => hbody f cdv A outer s H vs Q E pp hr hsp
end
section
variable {X : Cx} {k : Nat} {x : Str} {sp : Sp} {p pos : Pos} {e : Expr} {es : List Expr} {t : TA}
theorem kcH {a : Addr} {oe : Obj} {cls : Value} {d : Option Addr} {pn : List (Addr × Obj)} (hz : L2N.Zn cls d oe) (hf : ∃ vs, oe.data = .fields vs) (c : CalH X.prog X.w X.K X.mg X.base k x sp) (hr : Room k X.A) (ha : PA (X.suite a ((a, oe) :: pn)) (e :: es) t)
    (hg : Gl X x := by rfl) (hdb : (x == ("__debug__" : Str)) = false := by decide)
    (he : starEach (e :: es) X.env = (false, eval e X.env) :: starEach es X.env := by rfl) (hpl : (backTo pos (starEach es X.env)).any (·.1) = false := by rfl) : PE (X.suite a ((a, oe) :: pn)) (.Call (.Name x p) (e :: es) [] pos) (uCall sp t) := by
  obtain ⟨f, fd, ps, hm, hk, hb, F⟩ := c.ex
  obtain ⟨vs, hv⟩ := hf
  exact L2H.pe_callH (X := X.suite a ((a, oe) :: pn)) (E := fun _ => E0) F ⟨hr.dp, hr.un⟩ ⟨(a, oe), ⟨rfl, vs, hv, hz.2.2 vs hv⟩, List.mem_cons_self ..⟩ hg hm hk hb (fun _ => passAt0) ha hdb he hpl
end
end KW
namespace L2H
open PySem PySem.Spec PyProof.Rows L2
theorem RoomH.units {k : Nat} {A : Around} (r : RoomH k A) : A.units + 64 < cLine := by have := r.un; omega
end L2H

set_option Elab.async false
set_option linter.all false
set_option maxRecDepth 100000
set_option maxHeartbeats 4000000
/-! Kw5: int(text) of up to 4300 signs; a def that gets the exception of the suite -/
namespace KW
open PySem PySem.Spec PyProof.Rows L2 PySem.W PySem.NumText PySem.Calls
theorem wp_max {M : Model} {A : Around} {E : Value → Shared → Prop} {s : Shared} {Q : Nat → Shared → Prop} (hd : s.heap.NoDigits) (h : Q 4300 s) : wpAny M A Builtin.intMaxStrDigits Q E s := by
  obtain ⟨mc, hns, hnone⟩ := hd
  unfold Builtin.intMaxStrDigits
  refine wpAny_bind (wpAny_nsGet hns ?_)
  rw [hnone]
  exact wpAny_pure h
theorem wp_textL {M : Model} {A : Around} {E : Value → Shared → Prop} {s : Shared} {Q : Value → Shared → Prop} {v : Value} {text : List Nat} {n : Int} (hd : s.heap.NoDigits) (hs : ¬ (text.takeWhile (· != 0)).length ≤ 640)
    (hr : (int_private% "readNumeral") 4300 10 (text.takeWhile (· != 0)) = (int_private% "Numeral.value") n) (ha : ((text.takeWhile (· != 0)).length == text.length) = true) (h : Q (.int n s.toks) { s with toks := s.toks + 1 }) :
    wpAny M A ((int_private% "intFromText") v text 10) Q E s := by
  obtain ⟨hp, g, d, tk, os⟩ := s
  repeat (any_goals (first
    | assumption
    | (with_reducible refine wpAny_ite_false (decide_eq_false hs) ?_)
    | ((with_reducible show wpAny _ _ Builtin.intMaxStrDigits _ _ _); refine wp_max hd ?_)
    | (with_reducible refine wpAny_ite_true (decide_eq_true ha) ?_)
    | wp_step))
  all_goals (try rw [hr])
  all_goals (try dsimp only)
  repeat (any_goals (first
    | assumption
    | (with_reducible refine wpAny_ite_true (decide_eq_true ha) ?_)
    | wp_step))
structure HidL (p : Prop) : Prop where
  out : p
theorem meets_textL {x : PySem.Str} {u : Tok} {n : Int} (hl : x.length ≤ sizeLine) (hlong : ¬ (numSeenOf x).length ≤ 640) (hn : PySem.intText? x = some n) :
    Meets (Builtin.«int.__new__» ⟨[.type "int", .str x u], []⟩) (fun _ R s => s.heap.NoDigits ∧ R (.ok (.ret (.int n s.toks))) { s with toks := s.toks + 1 }) := by
  intro prog w A R s ⟨hd, h⟩
  refine wpAny_mono (Q := fun fin s' => ∃ v, fin = .done (.ret v) ∧ R (.ok (.ret v)) s') (E := fun e s' => R (.error e) s') ?_ (fun fin s' h' => by obtain ⟨v, rfl, hv⟩ := h'; exact hv) fun _ _ z => z
  obtain ⟨hp, g, d, tk, os⟩ := s
  have f1 := F.conv_sub_int
  have f2 := F.madeHere_int
  have f3 := KIN.str_int
  have f4 := KIN.str_idx
  have f5 := KIN.str_trunc
  have f6 : typeOf (.str x u) = pure (.type "str") := rfl
  have hr : (int_private% "readNumeral") 4300 10 (numSeenOf x) = (int_private% "Numeral.value") n ∧ ((numSeenOf x).length == (numTextOf x).length) = true := by
    rcases read4300 x hl with ⟨m, h1, h2, h3⟩ | ⟨h1, _⟩
    · rw [hn] at h1
      injection h1 with h1
      subst h1
      exact ⟨h3, h2⟩
    · rw [hn] at h1
      cases h1
  have hk := HidL.mk (And.intro hlong hr)
  clear hr hl hn hlong
  repeat (any_goals (first
    | assumption
    | ((with_reducible show wpAny _ _ ((int_private% "intFromText") _ _ _) _ _ _); refine wp_textL hd hk.out.1 hk.out.2.1 hk.out.2.2 ?_)
    | wp_step))
  all_goals first | exact ⟨_, rfl, h⟩ | skip
  all_goals trace_state
theorem tw_all : ∀ l : List Nat, (∀ c ∈ l, 48 ≤ c ∧ c ≤ 57) → l.takeWhile (· != 0) = l
  | [], _ => rfl
  | c :: l, h => by
    have h1 := h c List.mem_cons_self
    have e : (c != 0) = true := by simp only [bne_iff_ne, ne_eq]; omega
    rw [List.takeWhile_cons, if_pos e, tw_all l fun d hd => h d (List.mem_cons_of_mem _ hd)]
theorem seen_all {x : PySem.Str} (h : AllDigits x.cps.toList) : (numSeenOf x).length = x.length := by
  have e : x.cps.all (· < 128) = true := by
    rw [← Array.all_toList, List.all_eq_true]
    intro c hc
    have := h c hc
    simp only [decide_eq_true_eq]; omega
  have e2 : numTextOf x = x.cps.toList := by unfold numTextOf; rw [if_pos e]
  unfold numSeenOf
  rw [e2, tw_all _ h]
  exact Array.length_toList
/-- int(v) -/
def uIntL : List V → Hp → VK → Prop
  | [.int i], H, Q => Q (.int i) H
  | [.str x], H, Q => AllDigits x.cps.toList ∧ x.cps.toList ≠ [] ∧ x.length ≤ 4300 ∧ Q (.int (digitsVal x.cps.toList : Nat)) H
  | _, _, _ => False
theorem uIntL_e1 {i : Int} {H : Hp} {Q : VK} : uIntL [.int i] H Q = Q (.int i) H := rfl
theorem uIntL_e2 {x : Str} {H : Hp} {Q : VK} : uIntL [.str x] H Q = (AllDigits x.cps.toList ∧ x.cps.toList ≠ [] ∧ x.length ≤ 4300 ∧ Q (.int (digitsVal x.cps.toList : Nat)) H) := rfl
theorem c_intL {X : Cx} (hdg : nsIn X.K cStatics "sys.int_max_str_digits" = some none) : CallR X (.type "int") uIntL := by
  intro pins s σ H xs us Q I r h
  unfold uIntL at h
  split at h
  · exact c_int pins s σ H _ us Q I r h
  · rename_i x
    obtain ⟨h1, h2, h3, h⟩ := h
    cases r with
    | cons r1 rs =>
      cases rs
      obtain ⟨t, rfl⟩ := r1
      have hn := intText_digits h1 h2 h3
      have fin := (⟨.int (digitsVal x.cps.toList : Nat), H, I.tok _, ⟨_, rfl⟩, h⟩ : EP X pins σ Q (.int (digitsVal x.cps.toList : Nat) s.toks) { s with toks := s.toks + 1 })
      by_cases c : x.length ≤ 640
      · exact KIN.call_text hn c fin
      · have hd : s.heap.NoDigits := let ⟨mc, a, _⟩ := I.nolimit; ⟨mc, a, ns_none_of I.kIn a hdg⟩
        exact call_int_1 (meets_textL (by rw [sizeLine_eq]; omega) (by rw [seen_all h1]; exact c) hn) ⟨hd, rfl, fin⟩
  · exact h.elim

/-! ### a def that gets the exception of the suite as its first argument -/
structure CalE (P : Program) (w : World) (K : Frag) (mg : Str → Option Value) (base : Heap) (k : Nat) (x : Str) (sp : Addr → Value → Option Addr → Sp) : Prop where
  ex : ∃ (f : Addr) (fd : FuncData) (ps : List Str), mg x = some (.ref f) ∧ PySem.W.keepIn K (.ref f) = true ∧ Binds K fd ps [] ∧ (∀ a c d vs H Q E, sp a c d vs H Q E → vs.length = ps.length) ∧
    ∀ (A : Around) (outer : List Env) (s : Shared) (H : Hp) (args : Args) (us : List Value) (vs : List V) (Q : VK) (a : Addr) (oe : Obj) (c : Value) (d : Option Addr), L2H.RoomH k A → A.handled = some (.ref a) → L2N.Zn c d oe → (∃ fv, oe.data = .fields fv) → L2H.PinOk outer H s (a, oe) → Env0 P w K mg base A outer s H →
      BindsTo s fd args (ps.zip us) → Vals vs us → sp a c d vs H Q E0 → codeAny (model P w) A (.call (.ref f) args) (CR (L2N.CX P w) outer P w H s Q E0) s
theorem mark_self {A : Around} {env : Env} {v : Value} (h : A.handled = some v) : (A.deeper env).mark (some v) = A.deeper env := by
  obtain ⟨hd, dp, fr, gs, un⟩ := A
  simp only at h
  subst h
  rfl
section
variable {P : Program} {w : World} {K : Frag} {mg : Str → Option Value} {base : Heap}
theorem DefAt.okE {x qual : Str} {st : Stmt} {N ps : List Str} {k : Nat} {sp : Addr → Value → Option Addr → Sp} (D : DefAt K mg x qual st ps) (S : FnScope N ps (defScope st)) (len : ∀ a c d vs H Q E, sp a c d vs H Q E → vs.length = ps.length)
    (hbody : ∀ (f : Addr) (cdv : Value) (A : Around) (outer : List Env) (s : Shared) (H : Hp) (vs : List V) (Q : VK) (ea : Addr) (oe : Obj) (cls : Value) (d : Option Addr), L2H.RoomH k (A.deeper (envOfC qual (defScope st) s.heap.objs.size f cdv)) → L2N.Zn cls d oe → (∃ fv, oe.data = .fields fv) → sp ea cls d vs H Q E0 →
      ∃ t, PSs ((cxOf (L2N.CX P w) P w K mg base N qual (defScope st) f cdv A outer s H E0).suite ea ((ea, oe) :: [])) (defBody st) t ∧ t { nx := fun _ H' => Q .non H', rt := Q } (start N vs) H) : CalE P w K mg base (k + 1) x sp := by
  obtain ⟨f, fd, hm, F, hb⟩ := D.ex
  obtain ⟨oc, od, kV, doc, pm, an, cdv, ct, osl, rfl, lk, hcd⟩ := F.ex
  refine ⟨f, _, ps, hm, F.kp, hb, len, fun A outer s H args us vs Q a oe c d hr hh hz hf hpin e0 hbd hv hsp => ?_⟩
  have hlen := len _ _ _ _ _ _ _ hsp
  have up := e0.bs
  have kin : K.In s.heap := e0.mod.kin.keeps fun b o e => (up b o e).1
  have nolim : s.heap.NoLimit := e0.mod.nolimit.keeps fun b o e => (up b o e).1
  have kinds : ∀ y ∈ ps.zip us, (defScope st).names.lookup y.1 = some .local ∨ ((defScope st).names.lookup y.1 = some .cell ∧ ((cellsFrom (s.heap.objs.size + 1) (defScope st).names []).lookup y.1).isSome = true) := by
    rintro ⟨n, v⟩ hy
    cases S.par n (List.of_mem_zip hy).1 with
    | inl q => exact .inl q
    | inr q => exact .inr ⟨q, PySem.W.cellsFrom_some _ _ _ (.inl q)⟩
  refine codeAny_call_function hr.depth (kin _ _ lk) rfl S.co S.gen rfl (PySem.W.codeRec_of kin hcd) (hbd _ _ _ _ ?_)
  refine wpAny_newFunctionEnv_cells S.kind kinds fun env he s1 x => ?_
  subst he
  refine ⟨nolim.keeps x.toInCall.keep, codeAny_func ?_⟩
  obtain ⟨t, ht, hq⟩ := hbody f cdv A outer s H vs Q a oe c d (hr.deeper _) hz hf hsp
  have I0 := L2H.inv_startH (CX := L2N.CX P w) (P := P) (w := w) (K := K) (mg := mg) (base := base) (qual := qual) (f := f) (cd := cdv) (A := A) (outer := outer) (E := E0) S hpin e0 hlen hv x
  have eA := mark_self (A := A) (env := envOfC qual (defScope st) s.heap.objs.size f cdv) hh
  have eX : (cxOf (L2N.CX P w) P w K mg base N qual (defScope st) f cdv A outer s H E0).suite a ((a, oe) :: []) = (L2H.cxH (L2N.CX P w) P w K mg base N qual (defScope st) f cdv A outer s H E0 (a, oe)).wish fun _ _ => False := by
    unfold Cx.suite L2H.cxH Cx.wish cxOf
    simp only [eA]
  rw [eX] at ht
  have hrun := ht.run [] s1 (start N vs) H _ (I0.wish _) hq
  refine wpAny_mono hrun (fun fl s' hs => ?_) fun e s' hs => hs.elim
  have fin : ∀ {σ' : L2.St} {H' : Hp} {v : V} {u : Value}, Inv ((L2H.cxH (L2N.CX P w) P w K mg base N qual (defScope st) f cdv A outer s H E0 (a, oe)).wish fun _ _ => False) [] σ' H' s' → RelV v u → Q v H' → CE outer P w H s Q u s' :=
    fun {σ' H' v u} J rv q => ⟨v, H', J.os, J.bare, J.unwish.base, J.hok, rv, q⟩
  cases fl with
  | ret u => obtain ⟨v, σ', H', J, rv, q⟩ := hs; exact fin J rv q
  | next => obtain ⟨σ', H', J, q⟩ := hs; exact fin (v := V.non) (u := Value.none) J rfl q
  | brk => obtain ⟨_, _, _, q⟩ := hs; exact q.elim
  | cont => obtain ⟨_, _, _, q⟩ := hs; exact q.elim
end
section
variable {X : Cx} {k : Nat} {x : Str} {p pos : Pos} {e : Expr} {es : List Expr} {t : TA}
/-- f(e, ..) in the suite that holds e -/
theorem kcE {a : Addr} {oe : Obj} {cls : Value} {d : Option Addr} {pn : List (Addr × Obj)} {sp : Addr → Value → Option Addr → Sp} (hz : L2N.Zn cls d oe) (hf : ∃ vs, oe.data = .fields vs) (c : CalE X.prog X.w X.K X.mg X.base k x sp) (hr : Room k X.A) (ha : PA (X.suite a ((a, oe) :: pn)) (e :: es) t)
    (hg : Gl X x := by rfl) (hdb : (x == ("__debug__" : Str)) = false := by decide)
    (he : starEach (e :: es) X.env = (false, eval e X.env) :: starEach es X.env := by rfl) (hpl : (backTo pos (starEach es X.env)).any (·.1) = false := by rfl) : PE (X.suite a ((a, oe) :: pn)) (.Call (.Name x p) (e :: es) [] pos) (uCall (sp a cls d) t) := by
  obtain ⟨f, fd, ps, hm, hk, hb, hlen, run⟩ := c.ex
  refine ⟨fun pins s σ H Q I h => ?_⟩
  refine wpAny_Call_Name_kw (ld_glob (x := x) I hg hm ?_ hdb)
  refine PySem.W.callWith_K (h₀ := X.base) I.ok.mod.kin hk (thn (ha.run pos pins s σ H _ I h) fun us s1 ⟨vs, H1, I1, r, q⟩ => ⟨I1.kIn, ?_⟩) he hpl
  have hl : us.length = ps.length := by rw [← r.length]; exact hlen _ _ _ _ _ _ _ q
  have b := hb s1 us I1.kIn (by rw [List.append_nil]; exact hl)
  rw [List.append_nil] at b
  have P1 := I1.pin (a, oe) (List.mem_append_left _ List.mem_cons_self)
  have pk : L2H.PinOk (X.suite a ((a, oe) :: pn)).stack H1 s1 (a, oe) := ⟨P1.1, P1.2.1, fun z => (List.mem_cons.mp (I1.stkSub a z)).elim P1.2.2.1 P1.2.2.2.1, P1.2.2.2.2⟩
  refine wpAny_call (codeAny_mono (run (X.suite a ((a, oe) :: pn)).A (X.suite a ((a, oe) :: pn)).stack s1 H1 ⟨us, []⟩ us vs Q a oe cls d ⟨hr.dp, hr.un⟩ rfl hz hf pk I1.env0 b r q) fun r s' hq => ?_)
  cases r with
  | error e =>
    obtain ⟨_, _, _, _, _, _, _, _, _, _, _, _, z⟩ := hq
    exact z.elim
  | ok fl =>
    cases fl with
    | ret u => exact I1.after hq
    | next => exact hq.elim
    | brk => exact hq.elim
    | cont => exact hq.elim
theorem kcHh {a : Addr} {oe : Obj} {cls : Value} {d : Option Addr} {pn : List (Addr × Obj)} {sp : Sp} (hz : L2N.Zn cls d oe) (hf : ∃ vs, oe.data = .fields vs) (c : CalH X.prog X.w X.K X.mg X.base k x sp) (hr : L2H.RoomH k X.A) (ha : PA (X.suite a ((a, oe) :: pn)) (e :: es) t)
    (hg : Gl X x := by rfl) (hdb : (x == ("__debug__" : Str)) = false := by decide)
    (he : starEach (e :: es) X.env = (false, eval e X.env) :: starEach es X.env := by rfl) (hpl : (backTo pos (starEach es X.env)).any (·.1) = false := by rfl) : PE (X.suite a ((a, oe) :: pn)) (.Call (.Name x p) (e :: es) [] pos) (uCall sp t) := by
  obtain ⟨f, fd, ps, hm, hk, hb, F⟩ := c.ex
  obtain ⟨vs, hv⟩ := hf
  exact L2H.pe_callH (X := X.suite a ((a, oe) :: pn)) (E := fun _ => E0) F ⟨hr.dp, hr.un⟩ ⟨(a, oe), ⟨rfl, vs, hv, hz.2.2 vs hv⟩, List.mem_cons_self ..⟩ hg hm hk hb (fun _ => passAt0) ha hdb he hpl
end
end KW

set_option Elab.async false
set_option linter.all false
set_option maxRecDepth 100000
set_option maxHeartbeats 4000000
namespace K00
open PySem PySem.Spec PyProof.Rows L2 KW
local macro_rules | `(tactic| walk_at "kw") => `(tactic| simp only [tSeq, tNext, tIfS, tTest, tAnd, tOr, tNot, tAndV, tOrV, tNotV, tIf, tChain, tOp, tUn, tC, tAsg, gName, gSub, gCons, gNil, tRet, tRetN, tDrop, tCons, tNil, tCB, tAug, tSl, tPart, tNoPart, tLst, tTup, tBM, tBM0, uTest, uFor, iRng1, iRng2, iList, uCall, List.map_cons, List.map_nil, List.length_cons, List.length_nil, List.cons_append, List.nil_append, List.replicate, Nat.zero_add, Nat.reduceAdd, Nat.reduceSub, List.getElem?_cons_zero, List.getElem?_cons_succ, List.set_cons_zero, List.set_cons_succ, V.bl.injEq, V.int.injEq, V.str.injEq, V.ref.injEq, V.ty.injEq, List.cons.injEq, and_true, true_and, exists_eq_left', exists_eq_right, exists_eq_left, exists_and_left, exists_and_right, decide_eq_true_eq, Bool.not_eq_true', decide_eq_false_iff_not, Bool.false_eq_true, if_true, if_false, ite_true, ite_false, Bool.not_true, Bool.not_false, reduceCtorEq, decide_true, decide_false, Bool.not_not, isK_int_int, isK_int_bool, isK_int_str, isK_int_list, isK_int_tuple, isK_bool_int, isK_bool_bool, isK_bool_str, isK_str_str, isK_str_int, isK_str_bool, isK_str_tuple, isK_str_list, isK_list_list, isK_list_tuple, isK_tuple_tuple, isK_tuple_list, isOk_int_int, isOk_int_bool, isOk_int_str, isOk_int_list, isOk_int_tuple, isOk_bool_int, isOk_bool_bool, isOk_bool_str, isOk_str_str, isOk_str_int, isOk_str_bool, isOk_str_tuple, isOk_str_list, isOk_list_list, isOk_list_tuple, isOk_tuple_tuple, isOk_tuple_list, isK_dict_dict, isOk_dict_dict, isK_none_int, isK_none_bool, isOk_none_int, isOk_none_bool, tyV, S_inj, S_cat, L2.start, Nat.reduceSub, List.replicate_succ, List.replicate_zero, and_assoc, List.append_nil, Nat.reduceEqDiff, Option.some.injEq, Int.natCast_inj, upd_upd, Int.reducePow, Int.reduceToNat, Int.reduceMul, Int.reduceAdd, Int.reduceSub, Int.reduceLT, Int.reduceLE, Int.reduceNeg, Int.reduceDiv, Int.reduceMod, Nat.reducePow, Nat.reduceMul, S_len, List.length_append, List.length_map, List.length_range, not_true_eq_false, not_false_eq_true, ne_eq, uAdd_e1, uAdd_e2, uSub_e1, uMod_e1, uDiv_e1, uPow_e1, uShl_e1, uNeg_e1, uIAdd_e1, uIAdd_e2, uIAdd_e3, uISub_e1, uLt_e1, uLt_e2, uLe_e1, uGt_e1, uGe_e1, uEq_e1, uEq_e2, uEq_e3, uEq_e4, uEq_e5, uEq_e6, uEq_e7, uEq_e8, uEq_e9, uEq_e10, uEq_e11, uNe_e1, uNe_e2, uNe_e3, uNe_e4, uNe_e5, uNe_e6, uNe_e7, uNe_e8, uNe_e9, uNe_e10, uNe_e11, uIs_e1, uIs_e2, uIs_e3, uIs_e4, uIs_e5, uIs_e6, uIs_e7, uNotIs_e1, uNotIs_e2, uNotIs_e3, uNotIs_e4, uNotIs_e5, uNotIs_e6, uIn_e1, uIn_e2, uIn_e3, uIn_e4, uNotIn_e1, uNotIn_e2, uNotIn_e3, uNotIn_e4, uTru_e1, uTru_e2, uTru_e3, uTru_e4, uIx_e2, uSl_e2, uLen_e1, uAbs_e1, uInt_e1, uInt_e2, uMin2_e1, uIsi_e1, uIsi_e2, uIsi_e3, uIsi_e4, cx_K, uVar_0, uVar_n, uFld, uSFld, uMet, uMake, tDG, tDI, tDNI, tDP, tDD, uMk, uRaise, uDelSl, tCallS, L2.WE, uStr_e1, uStr_e2, uMul2_e1, uMul2_e2, okS_i, okS_s, List.zip_cons_cons, List.zip_nil_left, List.drop_zero, List.drop_succ_cons, List.drop_nil, putF_nil, putF_cons, eq_self, tDNewK, tB, Option.isSome_some, Option.isSome_none, false_and, false_or, or_false, exists_false, Int.zero_add, uLc, wipe, tYes, isEmpty_app, List.isEmpty_cons, List.isEmpty_nil, List.isEmpty_map, Bool.and_false, Bool.and_true, iRev, K00.lit_0, K00.lit_1, uIntL_e1, uIntL_e2, K00.N_fits, K00.N_of_int, K00.N_of_symbol, K00.N_of_ref, K00.N_is_int, K00.N_is_symbol, K00.N_is_ref, K00.N_int_of, K00.N_symbol_of, K00.N_ref_of, K00.N_is_word, K00.N__law_integer, K00.N__law_is, K00.N__law_error, K00.N__law_made, K00.N__law_read, K00.N__law_is_word, K00.N_law])
local macro_rules | `(tactic| walk_at "nn") => `(tactic| first | assumption | exact ne_un (by assumption) | exact ne_un (ne_un (by assumption)) | exact ne_un (ne_un (ne_un (by assumption))) | exact ne_un (ne_un (ne_un (ne_un (by assumption)))))
local macro_rules | `(tactic| walk_at "ne") => `(tactic| first | assumption | (apply Ne.symm; assumption) | exact ne_ud (by assumption) | exact Ne.symm (ne_ud (by assumption)) | exact ne_ud (ne_un (by assumption)) | exact Ne.symm (ne_ud (ne_un (by assumption))) | exact ne_ud (ne_un (ne_un (by assumption))) | exact Ne.symm (ne_ud (ne_un (ne_un (by assumption)))) | exact ne_m (by assumption) (by assumption) | exact Ne.symm (ne_m (by assumption) (by assumption)) | exact ne_n (by assumption) (by walk_at "nn") | exact Ne.symm (ne_n (by assumption) (by walk_at "nn")))
local macro_rules | `(tactic| walk_at "hp") => `(tactic| first | assumption | exact upd_same | (refine Eq.trans (upd_ne ?_) ?_; (focus walk_at "ne"); walk_at "hp"))
local macro_rules | `(tactic| walk_at "sc") => `(tactic| first | (with_reducible assumption) | omega | exact le_line (by (try simp only [List.length_map, List.length_append, List.length_cons, List.length_nil, S_len]); omega) | exact div_s (by omega) | exact mul_r (by omega) | exact mul_l (by omega) | exact pow_s (by omega) | exact mul2_r (by omega) | exact mul2_l (by omega) | exact small4300 (by omega) | exact lt_line (by (try simp only [List.length_map, List.length_append, List.length_cons, List.length_nil, S_len]); omega) | exact ⟨_, by assumption⟩ | (guard_target =~ Exists _; exact ⟨_, .of (by walk_at "hp")⟩) | (guard_target =~ _ ∨ _; exact .inl ⟨_, by assumption⟩) | (guard_target =~ _ ∨ _; exact .inl ⟨_, .of (by walk_at "hp")⟩) | (guard_target =~ _ ∨ _; exact .inr (.inr (.inl ⟨rfl, .inl ⟨_, by walk_at "hp"⟩⟩))) | decide)
local macro_rules | `(tactic| walk_at "kr") => `(tactic| first | (guard_target =~ _ ∧ _; first | refine And.intro (by walk_at "sc") ?_) | (guard_target =~ KW.uIx _ _ _ _ _; first | refine ix_l (by walk_at "hp") (by first | walk_at "hv" | rfl) ?_ | refine ix_t (by walk_at "hp") (by first | walk_at "hv" | rfl) ?_ | refine ix_sl (by assumption) (by walk_at "hv") ?_) | (guard_target =~ KW.uLen _ _ _ _; first | refine len_l (by walk_at "hp") ?_ | refine len_t (by walk_at "hp") ?_ | refine len_sl (by assumption) ?_) | (guard_target =~ KW.uSet _ _ _ _ _; first | refine set_l (by walk_at "hp") (by first | walk_at "hv" | rfl) ?_) | (guard_target =~ L2.gTup _ _ _ _ _ _ _; first | refine tup_l (by walk_at "hp") (by rfl) ?_) | (guard_target =~ KW.uGet _ _ _ _ _; first | refine get_l (by walk_at "hp") (by walk_at "hc") (by decide) (by rfl) ?_) | (guard_target =~ KW.uPut _ _ _ _ _ _; first | refine put_l (by walk_at "hp") (by walk_at "hc") (by decide) (by simp) ?_) | (guard_target =~ KW.uMet.uMt _ _ _ _ _ _ _ _ _; first | refine met_l (by walk_at "hp") (by rfl) ?_) | (guard_target =~ KW.uMet.uMt _ _ _ _ _ _ _ _ _; first | refine ST.met_s (by assumption) (by decide) ?_) | (guard_target =~ ST.spExists _ _ _ _ _; first | refine ST.exists_s (by assumption) ?_) | (guard_target =~ ST.spUsed _ _ _ _ _; first | refine ST.used_s (by assumption) ?_) | (guard_target =~ KW.uGet _ _ _ _ _; first | refine ST.words_s (by assumption) (by walk_at "hc") (by decide) ?_) | (guard_target =~ KW.uDIn _ _ _ _; first | refine din_i (by walk_at "hp") ?_ | refine din_s (by walk_at "hp") ?_) | (guard_target =~ KW.uDGet _ _ _ _; first | refine dget_i (by walk_at "hp") (by walk_at "hv") ?_ | refine dget_s (by walk_at "hp") (by walk_at "hv") ?_) | (guard_target =~ KW.uDPut _ _ _ _ _; first | refine dput_i (by walk_at "hp") (by walk_at "sc") ?_ | refine dput_s (by walk_at "hp") (by walk_at "sc") ?_) | (guard_target =~ KW.uDDel _ _ _ _; first | refine ddel_i (by walk_at "hp") (by walk_at "hv") ?_ | refine ddel_s (by walk_at "hp") (by walk_at "hv") ?_) | (guard_target =~ KW.uMul2 _ _ _ _; first | refine rep_l (by walk_at "hp") (by walk_at "sc") (by walk_at "sc") (by walk_at "sc") ?_) | (guard_target =~ L2.rAppend _ _ _ _; first | refine app_l (by walk_at "hp") (by walk_at "sc") ?_) | (guard_target =~ L2.rPop _ _ _ _; first | refine pop_l (by walk_at "hp") (by walk_at "hv") ?_ | refine pops_l (by walk_at "hp") ?_) | (guard_target =~ L2.rClear _ _ _ _; first | refine clr_l (by walk_at "hp") ?_) | (guard_target =~ L2.rReverse _ _ _ _; first | refine rev_l (by walk_at "hp") ?_) | (guard_target =~ L2.rExtend _ _ _ _; first | refine ext_l (by walk_at "hp") (by walk_at "hp") (by walk_at "sc") ?_) | (guard_target =~ KW.uAdd _ _ _ _ _; first | refine ucat_l (by walk_at "hp") (by walk_at "hp") (by walk_at "sc") ?_) | (guard_target =~ KW.uSl _ _ _ _ _ _; first | refine usl_l (by walk_at "hp") ?_) | (guard_target =~ KW.uTru _ _ _ _; first | refine tru_l (by walk_at "hp") ?_ | refine tru_t (by walk_at "hp") ?_ | refine tru_d (by walk_at "hp") ?_ | refine tru_sl (by assumption) ?_) | (guard_target =~ L2.rIndex _ _ _ _ _; first | refine idx_s (by walk_at "hp") (by assumption) ?_ | refine idx_i (by walk_at "hp") (by assumption) ?_) | (guard_target =~ L2.rIn _ _ _ _ _ _; first | refine in_s (by walk_at "hp") ?_ | refine nin_s (by walk_at "hp") ?_ | refine in_i (by walk_at "hp") ?_ | refine nin_i (by walk_at "hp") ?_) | (guard_target =~ KW.uIsi _ _ _ _; first | refine isi_l (by walk_at "hp") (by decide +kernel) ?_ | refine isi_t (by walk_at "hp") (by decide +kernel) ?_ | refine isi_d (by walk_at "hp") (by decide +kernel) ?_) | (guard_target =~ KW.uList _ _ _ _; first | refine list_l (by walk_at "hp") ?_ | refine list_t (by walk_at "hp") ?_ | refine list_sl (by assumption) ?_) | (guard_target =~ KW.uDict _ _ _; first | refine dict_d (by walk_at "hp") ?_) | (guard_target =~ KW.uSorted _ _ _ _; first | refine srt_l (by walk_at "hp") ?_) | (guard_target =~ KW.uSum _ _ _ _; first | refine sum_l (by walk_at "hp") ?_) | (guard_target =~ KW.uDelC _ _ _ _; first | refine dels_l (by walk_at "hp") (by walk_at "sc") ?_) | (guard_target =~ L2.wAs _ _ _ _ _ _ _ _ _ _; first | refine as_yes (by walk_at "hx") ?_ | refine as_no (by walk_at "hx") ?_) | (guard_target =~ KW.uEf _ _ _ _ _ _ _ _ _; first | refine ef_l (by walk_at "he") (by decide) (by rfl) (by walk_at "hp") (by rfl) ?_) | (guard_target =~ KW.uIsE _ _ _ _ _ _ _; first | refine isE_r (by walk_at "he") (by walk_at "hp") (by walk_at "hk") ?_ | refine isE_t (by walk_at "he") (by walk_at "hp") (by walk_at "hk") ?_))
local macro_rules | `(tactic| walk_at "hv") => `(tactic| first | assumption)
local macro_rules | `(tactic| walk_at "kk") => `(tactic| repeat (first | walk_at "kw" | walk_at "kr"))
local macro_rules | `(tactic| walk_at "hc") => `(tactic| first | fail)
local macro_rules | `(tactic| walk_at "he") => `(tactic| first | exact K00.Txt.e_BadWord (by assumption) | exact K00.Txt.e_NoRoom (by assumption))
local macro_rules | `(tactic| walk_at "hx") => `(tactic| first | exact K00.Txt.x_BadWord_BadWord (by assumption) | exact K00.Txt.x_NoRoom_BadWord (by assumption))
local macro_rules | `(tactic| walk_at "hk") => `(tactic| first | exact K00.Txt.i_BadWord_KilnwardenError (by assumption) | exact K00.Txt.i_BadWord_NoRoom (by assumption) | exact K00.Txt.i_BadWord_ValueError (by assumption) | exact K00.Txt.i_NoRoom_KilnwardenError (by assumption) | exact K00.Txt.i_NoRoom_NoRoom (by assumption) | exact K00.Txt.i_NoRoom_ValueError (by assumption))

open PySem.KErr (okS)
def spPr (p : Int → Bool) : Sp := fun vs H Q _ => ∃ x : Int, vs = [.int x] ∧ Q (.bl (p x)) H
def spRd (BW : Addr) (ok : Int → Bool) (f : Int → Int) : Sp := fun vs H Q E => ∃ x : Int, vs = [.int x] ∧ okS (.int x) ∧ (ok x = true → Q (.int (f x)) H) ∧ (ok x = false → ∀ d, H d = none → E (.ref BW) (some d) (upd H d (.xd [("word", .int x)])))
def spIs2 : Sp := fun vs H Q _ => (∃ x y : Int, vs = [.int x, .int y] ∧ Q (.bl (decide (x = y))) H) ∨ (∃ x y : Bool, vs = [.bl x, .bl y] ∧ Q (.bl (x == y)) H)
def pFits (x : Int) : Bool := decide (-268435456 ≤ x ∧ x ≤ 268435455)
def pSym (x : Int) : Bool := decide (0 ≤ x ∧ x < 100000)
def pI (x : Int) : Bool := decide (x % 4 = 1)
def pS (x : Int) : Bool := decide (x % 4 = 3)
def pR (x : Int) : Bool := decide (x % 2 = 0)
def pW (x : Int) : Bool := if x % 4 = 1 then pFits (x / 4) else if x % 4 = 3 then pSym (x / 4) else pSym (x / 2)
section
variable {P : Program} {w : World} {K : Frag} {mg : Str → Option Value} {base : Heap} {a : Ads}
theorem two {q : Prop} {p1 p2 : Prop} [Decidable p1] [Decidable p2] {Q : VK} {H : Hp} (h : Q (.bl (decide (p1 ∧ p2))) H) : if p1 then Q (.bl (decide p2)) H else Q (.bl false) H := by
  by_cases c : p1
  · rw [if_pos c]; simpa [c] using h
  · rw [if_neg c]; simpa [c] using h
theorem ok_fits (T : Txt P w K mg a) : Cal P w K mg base 1 "fits" (spPr pFits) := by
  refine T.d_fits.ok sc_fits (fun vs H Q E h => ?_) (fun f cdv A outer s H vs Q E hr h => ⟨_, (pss_one (ps_ret (pe_chain o_le o_le (k_g T.g_LEAST) (kv 0) (k_g T.g_GREATEST)))), ?_⟩)
  · obtain ⟨_, rfl, _⟩ := h; rfl
  · obtain ⟨x, rfl, h⟩ := h
    unfold pFits at h
    walk_at "kk"
    exact two (q := True) h
theorem ok_is_int (T : Txt P w K mg a) : Cal P w K mg base 1 "is_int" (spPr pI) := by
  refine T.d_is_int.ok sc_is_int (fun vs H Q E h => ?_) (fun f cdv A outer s H vs Q E hr h => ⟨_, (pss_one (ps_ret (pe_cmpR (o_eq hr.units) (pe_op o_mod (kv 0) pe_int) pe_int (nomark _)))), ?_⟩)
  · obtain ⟨_, rfl, _⟩ := h; rfl
  · obtain ⟨x, rfl, h⟩ := h
    unfold pI at h
    walk_at "kk"
    exact h
theorem ok_is_symbol (T : Txt P w K mg a) : Cal P w K mg base 1 "is_symbol" (spPr pS) := by
  refine T.d_is_symbol.ok sc_is_symbol (fun vs H Q E h => ?_) (fun f cdv A outer s H vs Q E hr h => ⟨_, (pss_one (ps_ret (pe_cmpR (o_eq hr.units) (pe_op o_mod (kv 0) pe_int) pe_int (nomark _)))), ?_⟩)
  · obtain ⟨_, rfl, _⟩ := h; rfl
  · obtain ⟨x, rfl, h⟩ := h
    unfold pS at h
    walk_at "kk"
    exact h
theorem ok_is_ref (T : Txt P w K mg a) : Cal P w K mg base 1 "is_ref" (spPr pR) := by
  refine T.d_is_ref.ok sc_is_ref (fun vs H Q E h => ?_) (fun f cdv A outer s H vs Q E hr h => ⟨_, (pss_one (ps_ret (pe_cmpR (o_eq hr.units) (pe_op o_mod (kv 0) pe_int) pe_int (nomark _)))), ?_⟩)
  · obtain ⟨_, rfl, _⟩ := h; rfl
  · obtain ⟨x, rfl, h⟩ := h
    unfold pR at h
    walk_at "kk"
    exact h
theorem ok_of_int (T : Txt P w K mg a) : Cal P w K mg base 2 "of_int" (spRd a.BadWord pFits fun x => 4 * x + 1) := by
  have C_fits := ok_fits (P := P) (w := w) (base := base) T
  refine T.d_of_int.ok sc_of_int (fun vs H Q E h => ?_) (fun f cdv A outer s H vs Q E hr h => ⟨_, (pss_cons (ps_if (pt_not (kt (kc C_fits (hr.mono (by decide)) (pa_cons (kv 0) pa_nil))))
      (pss_one (k_raise (L2N.takes_of rfl rfl rfl rfl) (k_mk T.e_BadWord hr (pa_cons (kv 0) pa_nil))))
      pss_nil)
      (pss_one (ps_ret (pe_op o_add (pe_op o_mul2 pe_int (kv 0)) pe_int)))), ?_⟩)
  · obtain ⟨_, rfl, _⟩ := h; rfl
  · obtain ⟨x, rfl, hx, h1, h2⟩ := h
    walk_at "kk"
    refine ⟨x, rfl, ?_⟩
    cases c : pFits x with
    | true => walk_at "kk"; exact h1 c
    | false => walk_at "kk"; exact ⟨hx, h2 c⟩
theorem ok_of_symbol (T : Txt P w K mg a) : Cal P w K mg base 2 "of_symbol" (spRd a.BadWord pSym fun x => 4 * x + 3) := by
  refine T.d_of_symbol.ok sc_of_symbol (fun vs H Q E h => ?_) (fun f cdv A outer s H vs Q E hr h => ⟨_, (pss_cons (ps_if (pt_not (pt_chain o_le o_lt pe_int (kv 0) (k_g T.g_MOST)))
      (pss_one (k_raise (L2N.takes_of rfl rfl rfl rfl) (k_mk T.e_BadWord hr (pa_cons (kv 0) pa_nil))))
      pss_nil)
      (pss_one (ps_ret (pe_op o_add (pe_op o_mul2 pe_int (kv 0)) pe_int)))), ?_⟩)
  · obtain ⟨_, rfl, _⟩ := h; rfl
  · obtain ⟨x, rfl, hx, h1, h2⟩ := h
    walk_at "kk"
    unfold pSym at h1 h2
    split
    · split
      · exact ⟨hx, h2 (decide_eq_false (by omega))⟩
      · exact ⟨mul2_l (by omega), h1 (decide_eq_true (by omega))⟩
    · exact ⟨hx, h2 (decide_eq_false (by omega))⟩
theorem ok_of_ref (T : Txt P w K mg a) : Cal P w K mg base 2 "of_ref" (spRd a.BadWord pSym fun x => 2 * x) := by
  refine T.d_of_ref.ok sc_of_ref (fun vs H Q E h => ?_) (fun f cdv A outer s H vs Q E hr h => ⟨_, (pss_cons (ps_if (pt_not (pt_chain o_le o_lt pe_int (kv 0) (k_g T.g_MOST)))
      (pss_one (k_raise (L2N.takes_of rfl rfl rfl rfl) (k_mk T.e_BadWord hr (pa_cons (kv 0) pa_nil))))
      pss_nil)
      (pss_one (ps_ret (pe_op o_mul2 pe_int (kv 0))))), ?_⟩)
  · obtain ⟨_, rfl, _⟩ := h; rfl
  · obtain ⟨x, rfl, hx, h1, h2⟩ := h
    walk_at "kk"
    unfold pSym at h1 h2
    split
    · split
      · exact ⟨hx, h2 (decide_eq_false (by omega))⟩
      · exact ⟨mul2_l (by omega), h1 (decide_eq_true (by omega))⟩
    · exact ⟨hx, h2 (decide_eq_false (by omega))⟩
theorem ok_int_of (T : Txt P w K mg a) : Cal P w K mg base 2 "int_of" (spRd a.BadWord pI fun x => x / 4) := by
  have C_is_int := ok_is_int (P := P) (w := w) (base := base) T
  refine T.d_int_of.ok sc_int_of (fun vs H Q E h => ?_) (fun f cdv A outer s H vs Q E hr h => ⟨_, (pss_cons (ps_if (pt_not (kt (kc C_is_int (hr.mono (by decide)) (pa_cons (kv 0) pa_nil))))
      (pss_one (k_raise (L2N.takes_of rfl rfl rfl rfl) (k_mk T.e_BadWord hr (pa_cons (kv 0) pa_nil))))
      pss_nil)
      (pss_one (ps_ret (pe_op o_fdiv (kv 0) pe_int)))), ?_⟩)
  · obtain ⟨_, rfl, _⟩ := h; rfl
  · obtain ⟨x, rfl, hx, h1, h2⟩ := h
    walk_at "kk"
    refine ⟨x, rfl, ?_⟩
    cases c : pI x with
    | true => walk_at "kk"; exact h1 c
    | false => walk_at "kk"; exact ⟨hx, h2 c⟩
theorem ok_symbol_of (T : Txt P w K mg a) : Cal P w K mg base 2 "symbol_of" (spRd a.BadWord pS fun x => x / 4) := by
  have C_is_symbol := ok_is_symbol (P := P) (w := w) (base := base) T
  refine T.d_symbol_of.ok sc_symbol_of (fun vs H Q E h => ?_) (fun f cdv A outer s H vs Q E hr h => ⟨_, (pss_cons (ps_if (pt_not (kt (kc C_is_symbol (hr.mono (by decide)) (pa_cons (kv 0) pa_nil))))
      (pss_one (k_raise (L2N.takes_of rfl rfl rfl rfl) (k_mk T.e_BadWord hr (pa_cons (kv 0) pa_nil))))
      pss_nil)
      (pss_one (ps_ret (pe_op o_fdiv (kv 0) pe_int)))), ?_⟩)
  · obtain ⟨_, rfl, _⟩ := h; rfl
  · obtain ⟨x, rfl, hx, h1, h2⟩ := h
    walk_at "kk"
    refine ⟨x, rfl, ?_⟩
    cases c : pS x with
    | true => walk_at "kk"; exact h1 c
    | false => walk_at "kk"; exact ⟨hx, h2 c⟩
theorem ok_ref_of (T : Txt P w K mg a) : Cal P w K mg base 2 "ref_of" (spRd a.BadWord pR fun x => x / 2) := by
  have C_is_ref := ok_is_ref (P := P) (w := w) (base := base) T
  refine T.d_ref_of.ok sc_ref_of (fun vs H Q E h => ?_) (fun f cdv A outer s H vs Q E hr h => ⟨_, (pss_cons (ps_if (pt_not (kt (kc C_is_ref (hr.mono (by decide)) (pa_cons (kv 0) pa_nil))))
      (pss_one (k_raise (L2N.takes_of rfl rfl rfl rfl) (k_mk T.e_BadWord hr (pa_cons (kv 0) pa_nil))))
      pss_nil)
      (pss_one (ps_ret (pe_op o_fdiv (kv 0) pe_int)))), ?_⟩)
  · obtain ⟨_, rfl, _⟩ := h; rfl
  · obtain ⟨x, rfl, hx, h1, h2⟩ := h
    walk_at "kk"
    refine ⟨x, rfl, ?_⟩
    cases c : pR x with
    | true => walk_at "kk"; exact h1 c
    | false => walk_at "kk"; exact ⟨hx, h2 c⟩
theorem ok_is_word (T : Txt P w K mg a) : Cal P w K mg base 2 "is_word" (spPr pW) := by
  have C_is_int := ok_is_int (P := P) (w := w) (base := base) T
  have C_is_symbol := ok_is_symbol (P := P) (w := w) (base := base) T
  have C_fits := ok_fits (P := P) (w := w) (base := base) T
  refine T.d_is_word.ok sc_is_word (fun vs H Q E h => ?_) (fun f cdv A outer s H vs Q E hr h => ⟨_, (pss_cons (ps_if (kt (kc C_is_int (hr.mono (by decide)) (pa_cons (kv 0) pa_nil)))
      (pss_one (ps_ret (kc C_fits (hr.mono (by decide)) (pa_cons (pe_op o_fdiv (kv 0) pe_int) pa_nil))))
      pss_nil)
      (pss_cons (ps_if (kt (kc C_is_symbol (hr.mono (by decide)) (pa_cons (kv 0) pa_nil)))
      (pss_one (ps_ret (pe_chain o_le o_lt pe_int (pe_op o_fdiv (kv 0) pe_int) (k_g T.g_MOST))))
      pss_nil)
      (pss_one (ps_ret (pe_chain o_le o_lt pe_int (pe_op o_fdiv (kv 0) pe_int) (k_g T.g_MOST)))))), ?_⟩)
  · obtain ⟨_, rfl, _⟩ := h; rfl
  · obtain ⟨x, rfl, h⟩ := h
    unfold pW at h
    walk_at "kk"
    refine ⟨x, rfl, ?_⟩
    by_cases c1 : x % 4 = 1
    · rw [if_pos c1] at h
      unfold pI; rw [decide_eq_true c1]
      walk_at "kk"
      exact ⟨_, rfl, h⟩
    · rw [if_neg c1] at h
      unfold pI; rw [decide_eq_false c1]
      walk_at "kk"
      refine ⟨x, rfl, ?_⟩
      by_cases c2 : x % 4 = 3
      · rw [if_pos c2] at h
        unfold pS; rw [decide_eq_true c2]
        walk_at "kk"
        exact two (q := True) h
      · rw [if_neg c2] at h
        unfold pS; rw [decide_eq_false c2]
        walk_at "kk"
        exact two (q := True) h
theorem ok__law_is_word (T : Txt P w K mg a) : Cal P w K mg base 1 "_law_is_word" (spPr pW) := by
  refine T.d__law_is_word.ok sc__law_is_word (fun vs H Q E h => ?_) (fun f cdv A outer s H vs Q E hr h => ⟨_, (pss_cons (ps_set (i := 1) sc__law_is_word.nd rfl (Or.inl rfl) (pe_op o_mod (pe_callTy (c_intL T.dg) (by rfl) T.n_int (by decide +kernel) (pa_cons (kv 0) pa_nil)) pe_int))
      (pss_cons (ps_if (pt_cmpR (o_eq hr.units) (kv 1) pe_int (nomark _))
      (pss_one (ps_ret (pe_chain o_le o_lt (pe_un o_neg pe_int) (pe_op o_fdiv (kv 0) pe_int) pe_int)))
      pss_nil)
      (pss_cons (ps_if (pt_cmpR (o_eq hr.units) (kv 1) pe_int (nomark _))
      (pss_one (ps_ret (pe_chain o_le o_lt pe_int (pe_op o_fdiv (kv 0) pe_int) pe_int)))
      pss_nil)
      (pss_one (ps_ret (pe_chain o_le o_lt pe_int (pe_op o_fdiv (kv 0) pe_int) pe_int)))))), ?_⟩)
  · obtain ⟨_, rfl, _⟩ := h; rfl
  · obtain ⟨x, rfl, h⟩ := h
    unfold pW at h
    walk_at "kk"
    split
    · rename_i c1
      rw [if_pos c1] at h
      have e : pFits (x / 4) = decide (-268435456 ≤ x / 4 ∧ x / 4 < 268435456) := by unfold pFits; exact decide_eq_decide.mpr (by omega)
      rw [e] at h
      exact ⟨div_s (by omega), two (q := True) h⟩
    · rename_i c1
      rw [if_neg c1] at h
      split
      · rename_i c2
        rw [if_pos c2] at h
        exact ⟨div_s (by omega), two (q := True) h⟩
      · rename_i c2
        rw [if_neg c2] at h
        exact ⟨div_s (by omega), two (q := True) h⟩
theorem ok__law_is (T : Txt P w K mg a) : Cal P w K mg base 1 "_law_is" spIs2 := by
  refine T.d__law_is.ok sc__law_is (fun vs H Q E h => ?_) (fun f cdv A outer s H vs Q E hr h => ⟨_, (pss_cons (ps_if (PW.pt (pw_or (pt_cmpR o_is (kv 1) pe_bl (nomark _)) (pw_or1 (pt_cmpR o_is (kv 1) pe_bl (nomark _)))))
      (pss_one (ps_ret (pe_and (pe_callB c_isi (by rfl) T.n_isinstance (by decide +kernel) (pa_cons (kv 0) (pa_cons (pe_bltn (v := .ty "bool") (by rfl) T.n_bool (by decide +kernel) rfl) pa_nil))) (pe_one (pe_cmpR (o_eq hr.units) (kv 0) (kv 1) (nomark _))))))
      pss_nil)
      (pss_one (ps_ret (pe_and (pe_callB c_isi (by rfl) T.n_isinstance (by decide +kernel) (pa_cons (kv 0) (pa_cons (pe_bltn (v := .ty "int") (by rfl) T.n_int (by decide +kernel) rfl) pa_nil))) (pe_and (pe_not (pe_callB c_isi (by rfl) T.n_isinstance (by decide +kernel) (pa_cons (kv 0) (pa_cons (pe_bltn (v := .ty "bool") (by rfl) T.n_bool (by decide +kernel) rfl) pa_nil)))) (pe_one (pe_cmpR (o_eq hr.units) (kv 0) (kv 1) (nomark _)))))))), ?_⟩)
  · rcases h with ⟨_, _, rfl, _⟩ | ⟨_, _, rfl, _⟩ <;> rfl
  · rcases h with ⟨x, y, rfl, h⟩ | ⟨x, y, rfl, h⟩
    · walk_at "kk"
      exact h
    · cases x <;> cases y <;> (walk_at "kk"; exact h)
theorem okH__law_is (T : Txt P w K mg a) : CalH P w K mg base 1 "_law_is" spIs2 := by
  refine T.d__law_is.okH sc__law_is (fun vs H Q E h => ?_) (fun f cdv A outer s H vs Q E pp hr h => ⟨_, (pss_cons (ps_if (PW.pt (pw_or (pt_cmpR o_is (kv 1) pe_bl (nomark _)) (pw_or1 (pt_cmpR o_is (kv 1) pe_bl (nomark _)))))
      (pss_one (ps_ret (pe_and (pe_callB c_isi (by rfl) T.n_isinstance (by decide +kernel) (pa_cons (kv 0) (pa_cons (pe_bltn (v := .ty "bool") (by rfl) T.n_bool (by decide +kernel) rfl) pa_nil))) (pe_one (pe_cmpR (o_eq hr.units) (kv 0) (kv 1) (nomark _))))))
      pss_nil)
      (pss_one (ps_ret (pe_and (pe_callB c_isi (by rfl) T.n_isinstance (by decide +kernel) (pa_cons (kv 0) (pa_cons (pe_bltn (v := .ty "int") (by rfl) T.n_int (by decide +kernel) rfl) pa_nil))) (pe_and (pe_not (pe_callB c_isi (by rfl) T.n_isinstance (by decide +kernel) (pa_cons (kv 0) (pa_cons (pe_bltn (v := .ty "bool") (by rfl) T.n_bool (by decide +kernel) rfl) pa_nil)))) (pe_one (pe_cmpR (o_eq hr.units) (kv 0) (kv 1) (nomark _)))))))), ?_⟩)
  · rcases h with ⟨_, _, rfl, _⟩ | ⟨_, _, rfl, _⟩ <;> rfl
  · rcases h with ⟨x, y, rfl, h⟩ | ⟨x, y, rfl, h⟩
    · walk_at "kk"
      exact h
    · cases x <;> cases y <;> (walk_at "kk"; exact h)
def spErr (BW : Addr) : Addr → Value → Option Addr → Sp := fun ea cls d vs H Q _ => ∃ (x : Int) (dd : Addr), vs = [.ref ea, .int x] ∧ cls = .ref BW ∧ d = some dd ∧ H dd = some (.xd [("word", .int x)]) ∧ Q (.bl true) H
theorem okE__law_error (T : Txt P w K mg a) : CalE P w K mg base 2 "_law_error" (spErr a.BadWord) := by
  have CH__law_is := okH__law_is (P := P) (w := w) (base := base) T
  refine T.d__law_error.okE sc__law_error (fun _ _ _ vs H Q E h => ?_) (fun f cdv A outer s H vs Q ea oe cls d hr hzn hf h => ⟨_, (by have hz := hzn.zc; exact (pss_one (ps_ret (pe_and (kcHh (X := (cxOf (L2N.CX P w) P w K mg base N__law_error "_law_error" (defScope s__law_error) f cdv A outer s H E0)) hzn hf CH__law_is (hr.mono (by decide)) (pa_cons (k_ef 0 hz hf) (pa_cons (kv 1) pa_nil))) (pe_and (k_isE hz hf T.n_isinstance (pa_cons (kv 0) (pa_cons (pe_glob (v := .ref a.KilnwardenError) (by rfl) T.g_KilnwardenError rfl) pa_nil))) (pe_and (k_isE hz hf T.n_isinstance (pa_cons (kv 0) (pa_cons (pe_bltn (v := .ty "ValueError") (by rfl) T.n_ValueError (by decide +kernel) rfl) pa_nil))) (pe_one (pe_not (k_isE hz hf T.n_isinstance (pa_cons (kv 0) (pa_cons (pe_glob (v := .ref a.NoRoom) (by rfl) T.g_NoRoom rfl) pa_nil))))))))))), ?_⟩)
  · obtain ⟨_, _, rfl, _⟩ := h; rfl
  · obtain ⟨x, dd, rfl, rfl, rfl, hd, h⟩ := h
    walk_at "kk"
    refine .inl ⟨x, x, rfl, ?_⟩
    rw [decide_eq_true rfl]
    walk_at "kk"
    exact h
end
end K00

set_option Elab.async false
set_option linter.all false
set_option maxRecDepth 100000
set_option maxHeartbeats 4000000
namespace K00
open PySem PySem.Spec PyProof.Rows L2 KW
local macro_rules | `(tactic| walk_at "kw") => `(tactic| simp only [tSeq, tNext, tIfS, tTest, tAnd, tOr, tNot, tAndV, tOrV, tNotV, tIf, tChain, tOp, tUn, tC, tAsg, gName, gSub, gCons, gNil, tRet, tRetN, tDrop, tCons, tNil, tCB, tAug, tSl, tPart, tNoPart, tLst, tTup, tBM, tBM0, uTest, uFor, iRng1, iRng2, iList, uCall, List.map_cons, List.map_nil, List.length_cons, List.length_nil, List.cons_append, List.nil_append, List.replicate, Nat.zero_add, Nat.reduceAdd, Nat.reduceSub, List.getElem?_cons_zero, List.getElem?_cons_succ, List.set_cons_zero, List.set_cons_succ, V.bl.injEq, V.int.injEq, V.str.injEq, V.ref.injEq, V.ty.injEq, List.cons.injEq, and_true, true_and, exists_eq_left', exists_eq_right, exists_eq_left, exists_and_left, exists_and_right, decide_eq_true_eq, Bool.not_eq_true', decide_eq_false_iff_not, Bool.false_eq_true, if_true, if_false, ite_true, ite_false, Bool.not_true, Bool.not_false, reduceCtorEq, decide_true, decide_false, Bool.not_not, isK_int_int, isK_int_bool, isK_int_str, isK_int_list, isK_int_tuple, isK_bool_int, isK_bool_bool, isK_bool_str, isK_str_str, isK_str_int, isK_str_bool, isK_str_tuple, isK_str_list, isK_list_list, isK_list_tuple, isK_tuple_tuple, isK_tuple_list, isOk_int_int, isOk_int_bool, isOk_int_str, isOk_int_list, isOk_int_tuple, isOk_bool_int, isOk_bool_bool, isOk_bool_str, isOk_str_str, isOk_str_int, isOk_str_bool, isOk_str_tuple, isOk_str_list, isOk_list_list, isOk_list_tuple, isOk_tuple_tuple, isOk_tuple_list, isK_dict_dict, isOk_dict_dict, isK_none_int, isK_none_bool, isOk_none_int, isOk_none_bool, tyV, S_inj, S_cat, L2.start, Nat.reduceSub, List.replicate_succ, List.replicate_zero, and_assoc, List.append_nil, Nat.reduceEqDiff, Option.some.injEq, Int.natCast_inj, upd_upd, Int.reducePow, Int.reduceToNat, Int.reduceMul, Int.reduceAdd, Int.reduceSub, Int.reduceLT, Int.reduceLE, Int.reduceNeg, Int.reduceDiv, Int.reduceMod, Nat.reducePow, Nat.reduceMul, S_len, List.length_append, List.length_map, List.length_range, not_true_eq_false, not_false_eq_true, ne_eq, uAdd_e1, uAdd_e2, uSub_e1, uMod_e1, uDiv_e1, uPow_e1, uShl_e1, uNeg_e1, uIAdd_e1, uIAdd_e2, uIAdd_e3, uISub_e1, uLt_e1, uLt_e2, uLe_e1, uGt_e1, uGe_e1, uEq_e1, uEq_e2, uEq_e3, uEq_e4, uEq_e5, uEq_e6, uEq_e7, uEq_e8, uEq_e9, uEq_e10, uEq_e11, uNe_e1, uNe_e2, uNe_e3, uNe_e4, uNe_e5, uNe_e6, uNe_e7, uNe_e8, uNe_e9, uNe_e10, uNe_e11, uIs_e1, uIs_e2, uIs_e3, uIs_e4, uIs_e5, uIs_e6, uIs_e7, uNotIs_e1, uNotIs_e2, uNotIs_e3, uNotIs_e4, uNotIs_e5, uNotIs_e6, uIn_e1, uIn_e2, uIn_e3, uIn_e4, uNotIn_e1, uNotIn_e2, uNotIn_e3, uNotIn_e4, uTru_e1, uTru_e2, uTru_e3, uTru_e4, uIx_e2, uSl_e2, uLen_e1, uAbs_e1, uInt_e1, uInt_e2, uMin2_e1, uIsi_e1, uIsi_e2, uIsi_e3, uIsi_e4, cx_K, uVar_0, uVar_n, uFld, uSFld, uMet, uMake, tDG, tDI, tDNI, tDP, tDD, uMk, uRaise, uDelSl, tCallS, L2.WE, uStr_e1, uStr_e2, uMul2_e1, uMul2_e2, okS_i, okS_s, List.zip_cons_cons, List.zip_nil_left, List.drop_zero, List.drop_succ_cons, List.drop_nil, putF_nil, putF_cons, eq_self, tDNewK, tB, Option.isSome_some, Option.isSome_none, false_and, false_or, or_false, exists_false, Int.zero_add, uLc, wipe, tYes, isEmpty_app, List.isEmpty_cons, List.isEmpty_nil, List.isEmpty_map, Bool.and_false, Bool.and_true, iRev, K00.lit_0, K00.lit_1, uIntL_e1, uIntL_e2, K00.N_fits, K00.N_of_int, K00.N_of_symbol, K00.N_of_ref, K00.N_is_int, K00.N_is_symbol, K00.N_is_ref, K00.N_int_of, K00.N_symbol_of, K00.N_ref_of, K00.N_is_word, K00.N__law_integer, K00.N__law_is, K00.N__law_error, K00.N__law_made, K00.N__law_read, K00.N__law_is_word, K00.N_law])
local macro_rules | `(tactic| walk_at "nn") => `(tactic| first | assumption | exact ne_un (by assumption) | exact ne_un (ne_un (by assumption)) | exact ne_un (ne_un (ne_un (by assumption))) | exact ne_un (ne_un (ne_un (ne_un (by assumption)))))
local macro_rules | `(tactic| walk_at "ne") => `(tactic| first | assumption | (apply Ne.symm; assumption) | exact ne_ud (by assumption) | exact Ne.symm (ne_ud (by assumption)) | exact ne_ud (ne_un (by assumption)) | exact Ne.symm (ne_ud (ne_un (by assumption))) | exact ne_ud (ne_un (ne_un (by assumption))) | exact Ne.symm (ne_ud (ne_un (ne_un (by assumption)))) | exact ne_m (by assumption) (by assumption) | exact Ne.symm (ne_m (by assumption) (by assumption)) | exact ne_n (by assumption) (by walk_at "nn") | exact Ne.symm (ne_n (by assumption) (by walk_at "nn")))
local macro_rules | `(tactic| walk_at "hp") => `(tactic| first | assumption | exact upd_same | (refine Eq.trans (upd_ne ?_) ?_; (focus walk_at "ne"); walk_at "hp"))
local macro_rules | `(tactic| walk_at "sc") => `(tactic| first | (with_reducible assumption) | omega | exact le_line (by (try simp only [List.length_map, List.length_append, List.length_cons, List.length_nil, S_len]); omega) | exact div_s (by omega) | exact mul_r (by omega) | exact mul_l (by omega) | exact pow_s (by omega) | exact mul2_r (by omega) | exact mul2_l (by omega) | exact small4300 (by omega) | exact lt_line (by (try simp only [List.length_map, List.length_append, List.length_cons, List.length_nil, S_len]); omega) | exact ⟨_, by assumption⟩ | (guard_target =~ Exists _; exact ⟨_, .of (by walk_at "hp")⟩) | (guard_target =~ _ ∨ _; exact .inl ⟨_, by assumption⟩) | (guard_target =~ _ ∨ _; exact .inl ⟨_, .of (by walk_at "hp")⟩) | (guard_target =~ _ ∨ _; exact .inr (.inr (.inl ⟨rfl, .inl ⟨_, by walk_at "hp"⟩⟩))) | decide)
local macro_rules | `(tactic| walk_at "kr") => `(tactic| first | (guard_target =~ _ ∧ _; first | refine And.intro (by walk_at "sc") ?_) | (guard_target =~ KW.uIx _ _ _ _ _; first | refine ix_l (by walk_at "hp") (by first | walk_at "hv" | rfl) ?_ | refine ix_t (by walk_at "hp") (by first | walk_at "hv" | rfl) ?_ | refine ix_sl (by assumption) (by walk_at "hv") ?_) | (guard_target =~ KW.uLen _ _ _ _; first | refine len_l (by walk_at "hp") ?_ | refine len_t (by walk_at "hp") ?_ | refine len_sl (by assumption) ?_) | (guard_target =~ KW.uSet _ _ _ _ _; first | refine set_l (by walk_at "hp") (by first | walk_at "hv" | rfl) ?_) | (guard_target =~ L2.gTup _ _ _ _ _ _ _; first | refine tup_l (by walk_at "hp") (by rfl) ?_) | (guard_target =~ KW.uGet _ _ _ _ _; first | refine get_l (by walk_at "hp") (by walk_at "hc") (by decide) (by rfl) ?_) | (guard_target =~ KW.uPut _ _ _ _ _ _; first | refine put_l (by walk_at "hp") (by walk_at "hc") (by decide) (by simp) ?_) | (guard_target =~ KW.uMet.uMt _ _ _ _ _ _ _ _ _; first | refine met_l (by walk_at "hp") (by rfl) ?_) | (guard_target =~ KW.uMet.uMt _ _ _ _ _ _ _ _ _; first | refine ST.met_s (by assumption) (by decide) ?_) | (guard_target =~ ST.spExists _ _ _ _ _; first | refine ST.exists_s (by assumption) ?_) | (guard_target =~ ST.spUsed _ _ _ _ _; first | refine ST.used_s (by assumption) ?_) | (guard_target =~ KW.uGet _ _ _ _ _; first | refine ST.words_s (by assumption) (by walk_at "hc") (by decide) ?_) | (guard_target =~ KW.uDIn _ _ _ _; first | refine din_i (by walk_at "hp") ?_ | refine din_s (by walk_at "hp") ?_) | (guard_target =~ KW.uDGet _ _ _ _; first | refine dget_i (by walk_at "hp") (by walk_at "hv") ?_ | refine dget_s (by walk_at "hp") (by walk_at "hv") ?_) | (guard_target =~ KW.uDPut _ _ _ _ _; first | refine dput_i (by walk_at "hp") (by walk_at "sc") ?_ | refine dput_s (by walk_at "hp") (by walk_at "sc") ?_) | (guard_target =~ KW.uDDel _ _ _ _; first | refine ddel_i (by walk_at "hp") (by walk_at "hv") ?_ | refine ddel_s (by walk_at "hp") (by walk_at "hv") ?_) | (guard_target =~ KW.uMul2 _ _ _ _; first | refine rep_l (by walk_at "hp") (by walk_at "sc") (by walk_at "sc") (by walk_at "sc") ?_) | (guard_target =~ L2.rAppend _ _ _ _; first | refine app_l (by walk_at "hp") (by walk_at "sc") ?_) | (guard_target =~ L2.rPop _ _ _ _; first | refine pop_l (by walk_at "hp") (by walk_at "hv") ?_ | refine pops_l (by walk_at "hp") ?_) | (guard_target =~ L2.rClear _ _ _ _; first | refine clr_l (by walk_at "hp") ?_) | (guard_target =~ L2.rReverse _ _ _ _; first | refine rev_l (by walk_at "hp") ?_) | (guard_target =~ L2.rExtend _ _ _ _; first | refine ext_l (by walk_at "hp") (by walk_at "hp") (by walk_at "sc") ?_) | (guard_target =~ KW.uAdd _ _ _ _ _; first | refine ucat_l (by walk_at "hp") (by walk_at "hp") (by walk_at "sc") ?_) | (guard_target =~ KW.uSl _ _ _ _ _ _; first | refine usl_l (by walk_at "hp") ?_) | (guard_target =~ KW.uTru _ _ _ _; first | refine tru_l (by walk_at "hp") ?_ | refine tru_t (by walk_at "hp") ?_ | refine tru_d (by walk_at "hp") ?_ | refine tru_sl (by assumption) ?_) | (guard_target =~ L2.rIndex _ _ _ _ _; first | refine idx_s (by walk_at "hp") (by assumption) ?_ | refine idx_i (by walk_at "hp") (by assumption) ?_) | (guard_target =~ L2.rIn _ _ _ _ _ _; first | refine in_s (by walk_at "hp") ?_ | refine nin_s (by walk_at "hp") ?_ | refine in_i (by walk_at "hp") ?_ | refine nin_i (by walk_at "hp") ?_) | (guard_target =~ KW.uIsi _ _ _ _; first | refine isi_l (by walk_at "hp") (by decide +kernel) ?_ | refine isi_t (by walk_at "hp") (by decide +kernel) ?_ | refine isi_d (by walk_at "hp") (by decide +kernel) ?_) | (guard_target =~ KW.uList _ _ _ _; first | refine list_l (by walk_at "hp") ?_ | refine list_t (by walk_at "hp") ?_ | refine list_sl (by assumption) ?_) | (guard_target =~ KW.uDict _ _ _; first | refine dict_d (by walk_at "hp") ?_) | (guard_target =~ KW.uSorted _ _ _ _; first | refine srt_l (by walk_at "hp") ?_) | (guard_target =~ KW.uSum _ _ _ _; first | refine sum_l (by walk_at "hp") ?_) | (guard_target =~ KW.uDelC _ _ _ _; first | refine dels_l (by walk_at "hp") (by walk_at "sc") ?_) | (guard_target =~ L2.wAs _ _ _ _ _ _ _ _ _ _; first | refine as_yes (by walk_at "hx") ?_ | refine as_no (by walk_at "hx") ?_) | (guard_target =~ KW.uEf _ _ _ _ _ _ _ _ _; first | refine ef_l (by walk_at "he") (by decide) (by rfl) (by walk_at "hp") (by rfl) ?_) | (guard_target =~ KW.uIsE _ _ _ _ _ _ _; first | refine isE_r (by walk_at "he") (by walk_at "hp") (by walk_at "hk") ?_ | refine isE_t (by walk_at "he") (by walk_at "hp") (by walk_at "hk") ?_))
local macro_rules | `(tactic| walk_at "hv") => `(tactic| first | assumption)
local macro_rules | `(tactic| walk_at "kk") => `(tactic| repeat (first | walk_at "kw" | walk_at "kr"))
local macro_rules | `(tactic| walk_at "hc") => `(tactic| first | fail)
local macro_rules | `(tactic| walk_at "he") => `(tactic| first | exact K00.Txt.e_BadWord (by assumption) | exact K00.Txt.e_NoRoom (by assumption))
local macro_rules | `(tactic| walk_at "hx") => `(tactic| first | exact K00.Txt.x_BadWord_BadWord (by assumption) | exact K00.Txt.x_NoRoom_BadWord (by assumption))
local macro_rules | `(tactic| walk_at "hk") => `(tactic| first | exact K00.Txt.i_BadWord_KilnwardenError (by assumption) | exact K00.Txt.i_BadWord_NoRoom (by assumption) | exact K00.Txt.i_BadWord_ValueError (by assumption) | exact K00.Txt.i_NoRoom_KilnwardenError (by assumption) | exact K00.Txt.i_NoRoom_NoRoom (by assumption) | exact K00.Txt.i_NoRoom_ValueError (by assumption))

open PySem.KErr (okS)
def spInt : Sp := fun vs H Q _ => ∃ c : Int, vs = [.int c] ∧ ∀ n H', okS (.int n) → KW.Fr [] H H' → Q (.int n) H'
section
variable {P : Program} {w : World} {K : Frag} {mg : Str → Option Value} {base : Heap} {a : Ads}
theorem sml {n : Int} (h : -10000000000000000000000000000000000000000 ≤ n ∧ n ≤ 10000000000000000000000000000000000000000) : okS (.int n) := by
  show n.natAbs < 10 ^ 4300
  exact Nat.lt_of_le_of_lt (show n.natAbs ≤ 10000000000000000000000000000000000000000 by omega) (by decide +kernel)
theorem codes10 (n : Nat) : (S [49] ++ repS (S [48]) n).cps.toList = 49 :: List.replicate n 48 := by
  have e : ∀ k, (List.replicate k [48]).flatten = List.replicate k 48 := fun k => List.flatten_replicate_singleton
  show (S [49] ++ S (List.replicate n [48]).flatten).cps.toList = _
  rw [e]
  show ((S [49]).cps ++ (S (List.replicate n 48)).cps).toList = _
  rw [Array.toList_append]
  rfl
theorem val10 (n : Nat) : NumText.digitsVal (49 :: List.replicate n 48) = 10 ^ n := by
  induction n with
  | zero => rfl
  | succ n ih =>
    rw [List.replicate_succ', ← List.cons_append, NumText.digitsVal_snoc, ih, Nat.pow_succ]
    exact Nat.add_zero _
theorem big10 {n : Nat} {sg r : Int} (h : n ≤ 3998) (hs : sg = 1 ∨ sg = -1) (r0 : -40 ≤ r) (r1 : r ≤ 40) : okS (.int (sg * ((10 ^ n : Nat) : Int) + r)) := by
  show (sg * ((10 ^ n : Nat) : Int) + r).natAbs < 10 ^ 4300
  have hN : 10 ^ n ≤ 10 ^ 3998 := Nat.pow_le_pow_right (by decide) h
  have hb : 10 ^ 3998 + 40 < 10 ^ 4300 := by decide +kernel
  generalize 10 ^ n = N at hN ⊢
  refine Nat.lt_of_le_of_lt ?_ (Nat.lt_of_le_of_lt (Nat.add_le_add_right hN 40) hb)
  rcases hs with rfl | rfl <;> omega
theorem ok__law_integer (T : Txt P w K mg a) : Cal P w K mg base 1 "_law_integer" spInt := by
  refine T.d__law_integer.ok sc__law_integer (fun vs H Q E h => ?_) (fun f cdv A outer s H vs Q E hr h => ⟨_, (C8.pss_cut (ps_set (i := 1) sc__law_integer.nd rfl (Or.inl rfl) (pe_lst (pa_cons pe_int (pa_cons pe_int (pa_cons pe_int (pa_cons pe_int (pa_cons pe_int (pa_cons pe_int (pa_cons (pe_op o_pow pe_int pe_int) (pa_cons (pe_op o_pow pe_int pe_int) pa_nil))))))))))
      (C8.pss_cut (ps_set (i := 2) sc__law_integer.nd rfl (Or.inl rfl) (pe_ix o_ix (kv 1) (pe_op o_mod (pe_callTy (c_intL T.dg) (by rfl) T.n_int (by decide +kernel) (pa_cons (kv 0) pa_nil)) pe_int) (fun _ _ => rfl)))
      (C8.pss_cut (ps_if (pt_cmpR (o_eq hr.units) (pe_op o_mod (pe_op o_fdiv (kv 0) pe_int) pe_int) pe_int (nomark _))
      (pss_one (ps_set (i := 2) sc__law_integer.nd rfl (Or.inl rfl) (pe_un o_neg (kv 2))))
      pss_nil)
      (pss_cons (ps_if (pt_cmpR (o_eq hr.units) (pe_op o_mod (pe_op o_fdiv (kv 0) pe_int) pe_int) pe_int (nomark _))
      (pss_one (ps_ret (pe_op o_sub (pe_op o_mod (pe_op o_fdiv (kv 0) pe_int) pe_int) pe_int)))
      pss_nil)
      (pss_cons (ps_if (PW.pt (pw_and (pt_cmpR (o_eq hr.units) (pe_op o_mod (pe_op o_fdiv (kv 0) pe_int) pe_int) pe_int (nomark _)) (pw_and1 (pt_cmpR (o_eq hr.units) (pe_op o_mod (pe_op o_fdiv (kv 0) pe_int) pe_int) pe_int (nomark _)))))
      (pss_one (ps_ret (pe_op o_sub (pe_op o_add (pe_op o_mul2 (pe_ix o_ix (pe_lst (pa_cons pe_int (pa_cons (pe_un o_neg pe_int) pa_nil))) (pe_op o_mod (pe_callTy (c_intL T.dg) (by rfl) T.n_int (by decide +kernel) (pa_cons (pe_op o_fdiv (kv 0) pe_int) pa_nil)) pe_int) (fun _ _ => rfl)) (pe_callTy (c_intL T.dg) (by rfl) T.n_int (by decide +kernel) (pa_cons (pe_op o_add pe_str (pe_op o_mul2 pe_str (pe_op o_mod (pe_callTy (c_intL T.dg) (by rfl) T.n_int (by decide +kernel) (pa_cons (pe_op o_fdiv (kv 0) pe_int) pa_nil)) pe_int))) pa_nil))) (pe_op o_mod (pe_op o_fdiv (kv 0) pe_int) pe_int)) pe_int)))
      pss_nil)
      (pss_one (ps_ret (pe_op o_sub (pe_op o_add (kv 2) (pe_op o_mod (pe_op o_fdiv (kv 0) pe_int) pe_int)) pe_int)))))))), ?_⟩)
  · obtain ⟨_, rfl, _⟩ := h; rfl
  · obtain ⟨c, rfl, h⟩ := h
    walk_at "kk"
    refine ⟨fun σ H' => ∃ b, σ = [some (.int c), some (.ref b), none] ∧ H' b = some (.lst [.int 0, .int 268435456, .int 1073741824, .int 100000, .int 200000, .int 400000, .int 1000000000, .int 1000000000000000000000000000000]) ∧ KW.Fr [] H H', ?_, ?_⟩
    · walk_at "kk"
      exact fun p hp => ⟨upd_same, Fr.new hp⟩
    rintro σ H1 ⟨b, rfl, hb, f1⟩
    obtain ⟨bv, ab, b0, b1⟩ : ∃ bv, atI [V.int 0, .int 268435456, .int 1073741824, .int 100000, .int 200000, .int 400000, .int 1000000000, .int 1000000000000000000000000000000] (c % 8) = some (.int bv) ∧ -1000000000000000000000000000000 ≤ bv ∧ bv ≤ 1000000000000000000000000000000 := by
      have e : c % 8 = 0 ∨ c % 8 = 1 ∨ c % 8 = 2 ∨ c % 8 = 3 ∨ c % 8 = 4 ∨ c % 8 = 5 ∨ c % 8 = 6 ∨ c % 8 = 7 := by omega
      rcases e with e | e | e | e | e | e | e | e <;> rw [e] <;> exact ⟨_, rfl, by decide, by decide⟩
    refine ⟨fun σ H' => σ = [some (.int c), some (.ref b), some (.int bv)] ∧ H' = H1, ?_, ?_⟩
    · walk_at "kk"
    rintro σ H2 ⟨rfl, rfl⟩
    refine ⟨fun σ H' => ∃ bv : Int, σ = [some (.int c), some (.ref b), some (.int bv)] ∧ -1000000000000000000000000000000 ≤ bv ∧ bv ≤ 1000000000000000000000000000000 ∧ H' = H2, ?_, ?_⟩
    · walk_at "kk"
      split <;> omega
    clear b0 b1 ab
    rintro σ H3 ⟨bv, rfl, b0, b1, rfl⟩
    walk_at "kk"
    split
    · exact ⟨div_s (by omega), h _ _ (sml (by omega)) f1⟩
    · refine ⟨div_s (by omega), ?_⟩
      split
      · refine ⟨div_s (by omega), ?_⟩
        split
        · refine ⟨by decide, fun p hp => ⟨div_s (by omega), ?_⟩⟩
          obtain ⟨sg, as, hs⟩ : ∃ sg, atI [V.int 1, V.int (-1)] (c / 8 % 2) = some (.int sg) ∧ (sg = 1 ∨ sg = -1) := by
            have e : c / 8 % 2 = 0 ∨ c / 8 % 2 = 1 := by omega
            rcases e with e | e <;> rw [e]
            · exact ⟨1, rfl, .inl rfl⟩
            · exact ⟨-1, rfl, .inr rfl⟩
          have hpg : upd H3 p (.lst [.int 1, .int (-1)]) p = some (.lst [.int 1, .int (-1)]) := upd_same
          have f2 : KW.Fr [] H (upd H3 p (.lst [.int 1, .int (-1)])) := f1.trans (Fr.new hp)
          revert hpg f2
          generalize upd H3 p (.lst [.int 1, .int (-1)]) = H4
          intro hpg f2
          walk_at "kk"
          obtain ⟨n, hn⟩ := Int.eq_ofNat_of_zero_le (show 0 ≤ c / 4000 % 3999 by omega)
          have hn2 : n ≤ 3998 := by omega
          refine ⟨le_line (by rw [repS_len, S_len]; simp; omega), ?_⟩
          rw [hn]
          rw [Int.toNat_natCast, codes10, val10]
          refine ⟨fun d hd => ?_, by simp, ?_, mul2_l (by omega), div_s (by omega), ?_⟩
          · rcases List.mem_cons.mp hd with rfl | hd
            · decide
            · rw [List.eq_of_mem_replicate hd]; decide
          · have := congrArg List.length (codes10 n)
            rw [List.length_cons, List.length_replicate] at this
            have e2 : (S [49] ++ repS (S [48]) n).cps.toList.length = (S [49] ++ repS (S [48]) n).length := Array.length_toList
            omega
          · have e : sg * ((10 ^ n : Nat) : Int) + c / 48 % 41 - 20 = sg * ((10 ^ n : Nat) : Int) + (c / 48 % 41 - 20) := by rw [Int.add_sub_assoc]
            rw [e]
            exact h _ _ (big10 hn2 hs (by omega) (by omega)) f2
        · exact ⟨div_s (by omega), h _ _ (sml (by omega)) f1⟩
      · exact ⟨div_s (by omega), h _ _ (sml (by omega)) f1⟩
def tvM (x : Int) : Nat → V
  | 0 => if pFits x then .int (4 * x + 1) else .non
  | 1 => if pSym x then .int (4 * x + 3) else .non
  | _ => if pSym x then .int (2 * x) else .non
theorem ic {c : Bool} {n : Int} : (∃ m, (if c = true then V.int n else .non) = .int m) ∨ (if c = true then V.int n else .non) = .non := by
  cases c
  · exact .inr rfl
  · exact .inl ⟨_, rfl⟩
theorem tvM_c (x : Int) (i : Nat) : (∃ n, tvM x i = .int n) ∨ tvM x i = .non := match i with
  | 0 => ic
  | 1 => ic
  | _ + 2 => ic
theorem ok__law_made (T : Txt P w K mg a) : Cal P w K mg base 3 "_law_made" (fun vs H Q _ => ∃ x : Int, vs = [.int x] ∧ okS (.int x) ∧ ∀ H', KW.Fr [] H H' → Q (.bl true) H') := by
  have C_of_int := ok_of_int (P := P) (w := w) (base := base) T
  have C_of_symbol := ok_of_symbol (P := P) (w := w) (base := base) T
  have C_of_ref := ok_of_ref (P := P) (w := w) (base := base) T
  have C__law_is := ok__law_is (P := P) (w := w) (base := base) T
  have CE__law_error := okE__law_error (P := P) (w := w) (base := base) T
  refine T.d__law_made.ok sc__law_made (fun vs H Q E h => ?_) (fun f cdv A outer s H vs Q E hr h => ⟨_, (pss_cons (ps_set (i := 1) sc__law_made.nd rfl (Or.inl rfl) (pe_lst pa_nil))
      (pss_cons (ps_set (i := 2) sc__law_made.nd rfl (Or.inl rfl) (pe_lst pa_nil))
      (C8.pss_cut (k_for (passes_of rfl) rfl (pi_range1 (by rfl) T.n_range (pa_cons pe_int pa_nil)) (pg_name (i := 3) sc__law_made.nd rfl (Or.inl rfl))
      (pss_one (L2N.ps_try_as (X := (cxOf (L2N.CX P w) P w K mg base N__law_made "_law_made" (defScope s__law_made) f cdv A outer s H E)) (i := 4) rfl rfl sc__law_made.nd rfl rfl ⟨by rfl, by decide, .inl T.g_BadWord⟩ (L2N.takes_of rfl rfl rfl rfl) (fun W pn xe tk po => by
        have hbd : PSs (Cx.tr (cxOf (L2N.CX P w) P w K mg base N__law_made "_law_made" (defScope s__law_made) f cdv A outer s H E) pn xe) (tryB (nthS (forB (nthS (defBody s__law_made) 2)) 0)) _ := (pss_one (ps_if (pt_cmpR (o_eq hr.units) (kv 3) pe_int (nomark _))
      (pss_one (ps_expr (pe_bm PySem.F.plainAttrs_list PySem.F.slot_list_append PySem.F.type_list_append mt_append (kv 2) (pa_cons (kcX tk C_of_int (hr.mono (by decide)) (pa_cons (kv 0) pa_nil)) pa_nil))))
      (pss_one (ps_if (pt_cmpR (o_eq hr.units) (kv 3) pe_int (nomark _))
      (pss_one (ps_expr (pe_bm PySem.F.plainAttrs_list PySem.F.slot_list_append PySem.F.type_list_append mt_append (kv 2) (pa_cons (kcX tk C_of_symbol (hr.mono (by decide)) (pa_cons (kv 0) pa_nil)) pa_nil))))
      (pss_one (ps_expr (pe_bm PySem.F.plainAttrs_list PySem.F.slot_list_append PySem.F.type_list_append mt_append (kv 2) (pa_cons (kcX tk C_of_ref (hr.mono (by decide)) (pa_cons (kv 0) pa_nil)) pa_nil))))))))
        dsimp only [Cx.tr] at hbd
        exact hbd)
      (fun ea oe cls d pn hzn hf => by
        have hz := hzn.zc
        have hsu : PSs (Cx.suite (cxOf (L2N.CX P w) P w K mg base N__law_made "_law_made" (defScope s__law_made) f cdv A outer s H E) ea ((ea, oe) :: pn)) (suB (nthS (forB (nthS (defBody s__law_made) 2)) 0)) _ := (pss_cons (ps_if (pt_not (kt (kcE (X := (cxOf (L2N.CX P w) P w K mg base N__law_made "_law_made" (defScope s__law_made) f cdv A outer s H E)) hzn hf CE__law_error (hr.mono (by decide)) (pa_cons (kv 4) (pa_cons (kv 0) pa_nil)))))
      (pss_one (ps_ret pe_bl))
      pss_nil)
      (pss_one (ps_expr (pe_bm PySem.F.plainAttrs_list PySem.F.slot_list_append PySem.F.type_list_append mt_append (kv 2) (pa_cons pe_non pa_nil)))))
        dsimp only [Cx.suite] at hsu
        exact hsu))))
      (C8.pss_cut (ps_expr (pe_bm PySem.F.plainAttrs_list PySem.F.slot_list_append PySem.F.type_list_append mt_append (kv 1) (pa_cons (pe_ifExp (pt_chain o_le o_lt (pe_un o_neg pe_int) (kv 0) pe_int) (pe_op o_add (pe_op o_mul2 pe_int (kv 0)) pe_int) pe_non) pa_nil)))
      (C8.pss_cut (ps_expr (pe_bm PySem.F.plainAttrs_list PySem.F.slot_list_append PySem.F.type_list_append mt_append (kv 1) (pa_cons (pe_ifExp (pt_chain o_le o_lt pe_int (kv 0) pe_int) (pe_op o_add (pe_op o_mul2 pe_int (kv 0)) pe_int) pe_non) pa_nil)))
      (C8.pss_cut (ps_expr (pe_bm PySem.F.plainAttrs_list PySem.F.slot_list_append PySem.F.type_list_append mt_append (kv 1) (pa_cons (pe_ifExp (pt_chain o_le o_lt pe_int (kv 0) pe_int) (pe_op o_mul2 pe_int (kv 0)) pe_non) pa_nil)))
      (pss_cons (k_for (passes_of rfl) rfl (pi_range1 (by rfl) T.n_range (pa_cons pe_int pa_nil)) (pg_name (i := 3) sc__law_made.nd rfl (Or.inl rfl))
      (pss_one (ps_if (PW.pt (pw_or (PW.pt (pw_and (pt_cmpR o_is (pe_ix o_ix (kv 1) (kv 3) (fun _ _ => rfl)) pe_non (nomark _)) (pw_and1 (pt_cmpR o_isnot (pe_ix o_ix (kv 2) (kv 3) (fun _ _ => rfl)) pe_non (nomark _))))) (pw_or1 (PW.pt (pw_and (pt_cmpR o_isnot (pe_ix o_ix (kv 1) (kv 3) (fun _ _ => rfl)) pe_non (nomark _)) (pw_and1 (pt_not (kt (kc C__law_is (hr.mono (by decide)) (pa_cons (pe_ix o_ix (kv 2) (kv 3) (fun _ _ => rfl)) (pa_cons (pe_ix o_ix (kv 1) (kv 3) (fun _ _ => rfl)) pa_nil)))))))))))
      (pss_one (ps_ret pe_bl))
      pss_nil)))
      (pss_one (ps_ret pe_bl))))))))), ?_⟩)
  · obtain ⟨_, rfl, _⟩ := h; rfl
  · obtain ⟨x, rfl, hx, h⟩ := h
    walk_at "kk"
    intro p hp
    refine ⟨by decide, fun q hq => ?_⟩
    have npq : p ≠ q := ne_of_none upd_same hq
    have f1 : KW.Fr [] H (upd (upd H p (.lst [])) q (.lst [])) := (Fr.new hp).trans (Fr.new hq)
    have gp : upd (upd H p (.lst [])) q (.lst []) p = some (.lst []) := by walk_at "hp"
    have gq : upd (upd H p (.lst [])) q (.lst []) q = some (.lst []) := upd_same
    have hq' : H q = none := by walk_at "nn"
    revert f1 gp gq
    generalize upd (upd H p (.lst [])) q (.lst []) = H1
    intro f1 gp gq
    refine ⟨fun σ H' => (∃ v3, σ = [some (.int x), some (.ref p), some (.ref q), v3, none]) ∧ H' p = some (.lst []) ∧ H' q = some (.lst [tvM x 0, tvM x 1, tvM x 2]) ∧ KW.Fr [] H H', ?_, ?_⟩
    · have fq : ∀ H2 o, KW.Fr [] H H2 → KW.Fr [] H (upd H2 q o) := fun H2 o f b ob _ hb => by rw [upd_ne (ne_of_none hb hq')]; exact f b ob (by simp) hb
      obtain ⟨Pv, hPv⟩ : ∃ Pv : Nat → L2.St → Hp → Prop, Pv = fun i σ H' => (∃ v3, σ = [some (.int x), some (.ref p), some (.ref q), v3, none]) ∧ H' p = some (.lst []) ∧ H' q = some (.lst ((List.range i).map (tvM x))) ∧ KW.Fr [] H H' := ⟨_, rfl⟩
      walk_at "kk"
      refine for_rng Pv (by rw [hPv]; exact ⟨⟨_, rfl⟩, gp, gq, f1⟩) ?_ ?_
      · intro i σ H2 hi hP
        rw [hPv] at hP
        obtain ⟨⟨v3, rfl⟩, g1, g2, f2⟩ := hP
        obtain rfl | rfl | rfl : i = 0 ∨ i = 1 ∨ i = 2 := by omega
        · replace g2 : H2 q = some (.lst []) := g2
          walk_at "kk"
          refine ⟨x, rfl, hx, fun c => ?_, fun c d hd => ?_⟩
          · refine app_l g2 (lt_line (by simp)) ?_
            rw [hPv]
            refine ⟨⟨_, rfl⟩, by rw [upd_ne npq]; exact g1, ?_, fq _ _ f2⟩
            rw [upd_same, show (List.range 1).map (tvM x) = [] ++ [tvM x 0] from rfl, show tvM x 0 = .int (4 * x + 1) from if_pos c]
          · have f3 : KW.Fr [] H (upd H2 d (.xd [("word", .int x)])) := f2.trans (Fr.new hd)
            have g3 : upd H2 d (.xd [("word", .int x)]) p = some (.lst []) := by walk_at "hp"
            have g4 : upd H2 d (.xd [("word", .int x)]) q = some (.lst []) := by walk_at "hp"
            have g5 : upd H2 d (.xd [("word", .int x)]) d = some (.xd [("word", .int x)]) := upd_same
            revert f3 g3 g4 g5
            generalize upd H2 d (.xd [("word", .int x)]) = H3
            intro f3 g3 g4 g5
            walk_at "kk"
            intro ea hea
            refine ⟨x, d, rfl, rfl, rfl, g5, ?_⟩
            walk_at "kk"
            rw [hPv]
            refine ⟨⟨_, rfl⟩, by rw [upd_ne npq]; exact g3, ?_, fq _ _ f3⟩
            rw [upd_same]
            show _ = some (HO.lst [tvM x 0])
            rw [show tvM x 0 = .non from if_neg (by rw [c]; exact Bool.false_ne_true)]
        · replace g2 : H2 q = some (.lst [tvM x 0]) := g2
          walk_at "kk"
          refine ⟨x, rfl, hx, fun c => ?_, fun c d hd => ?_⟩
          · refine app_l g2 (lt_line (by simp)) ?_
            rw [hPv]
            refine ⟨⟨_, rfl⟩, by rw [upd_ne npq]; exact g1, ?_, fq _ _ f2⟩
            rw [upd_same, show (List.range 2).map (tvM x) = [tvM x 0] ++ [tvM x 1] from rfl, show tvM x 1 = .int (4 * x + 3) from if_pos c]
          · have f3 : KW.Fr [] H (upd H2 d (.xd [("word", .int x)])) := f2.trans (Fr.new hd)
            have g3 : upd H2 d (.xd [("word", .int x)]) p = some (.lst []) := by walk_at "hp"
            have g4 : upd H2 d (.xd [("word", .int x)]) q = some (.lst [tvM x 0]) := by walk_at "hp"
            have g5 : upd H2 d (.xd [("word", .int x)]) d = some (.xd [("word", .int x)]) := upd_same
            revert f3 g3 g4 g5
            generalize upd H2 d (.xd [("word", .int x)]) = H3
            intro f3 g3 g4 g5
            walk_at "kk"
            intro ea hea
            refine ⟨x, d, rfl, rfl, rfl, g5, ?_⟩
            walk_at "kk"
            rw [hPv]
            refine ⟨⟨_, rfl⟩, by rw [upd_ne npq]; exact g3, ?_, fq _ _ f3⟩
            rw [upd_same]
            show _ = some (HO.lst [tvM x 0, tvM x 1])
            rw [show tvM x 1 = .non from if_neg (by rw [c]; exact Bool.false_ne_true)]
        · replace g2 : H2 q = some (.lst [tvM x 0, tvM x 1]) := g2
          walk_at "kk"
          refine ⟨x, rfl, hx, fun c => ?_, fun c d hd => ?_⟩
          · refine app_l g2 (lt_line (by simp)) ?_
            rw [hPv]
            refine ⟨⟨_, rfl⟩, by rw [upd_ne npq]; exact g1, ?_, fq _ _ f2⟩
            rw [upd_same, show (List.range 3).map (tvM x) = [tvM x 0, tvM x 1] ++ [tvM x 2] from rfl, show tvM x 2 = .int (2 * x) from if_pos c]
          · have f3 : KW.Fr [] H (upd H2 d (.xd [("word", .int x)])) := f2.trans (Fr.new hd)
            have g3 : upd H2 d (.xd [("word", .int x)]) p = some (.lst []) := by walk_at "hp"
            have g4 : upd H2 d (.xd [("word", .int x)]) q = some (.lst [tvM x 0, tvM x 1]) := by walk_at "hp"
            have g5 : upd H2 d (.xd [("word", .int x)]) d = some (.xd [("word", .int x)]) := upd_same
            revert f3 g3 g4 g5
            generalize upd H2 d (.xd [("word", .int x)]) = H3
            intro f3 g3 g4 g5
            walk_at "kk"
            intro ea hea
            refine ⟨x, d, rfl, rfl, rfl, g5, ?_⟩
            walk_at "kk"
            rw [hPv]
            refine ⟨⟨_, rfl⟩, by rw [upd_ne npq]; exact g3, ?_, fq _ _ f3⟩
            rw [upd_same]
            show _ = some (HO.lst [tvM x 0, tvM x 1, tvM x 2])
            rw [show tvM x 2 = .non from if_neg (by rw [c]; exact Bool.false_ne_true)]
      · intro σ H2 hP
        rw [hPv] at hP
        obtain ⟨⟨v3, rfl⟩, g1, g2, f2⟩ := hP
        walk_at "kk"
        exact ⟨⟨_, rfl⟩, g1, g2, f2⟩
    rintro σ H2 ⟨⟨v3, rfl⟩, g1, g2, f2⟩
    walk_at "kk"
    refine ⟨fun σ H' => σ = [some (.int x), some (.ref p), some (.ref q), v3, none] ∧ H' p = some (.lst [tvM x 0]) ∧ H' q = some (.lst [tvM x 0, tvM x 1, tvM x 2]) ∧ KW.Fr [] H H', ?_, ?_⟩
    · have fp : ∀ o, KW.Fr [] H (upd H2 p o) := fun o b ob _ hb => by rw [upd_ne (ne_of_none hb hp)]; exact f2 b ob (by simp) hb
      have key : ∀ v, tvM x 0 = v → rAppend (V.ref p) [v] H2 fun _ H1 => H1 p = some (.lst [tvM x 0]) ∧ H1 q = some (.lst [tvM x 0, tvM x 1, tvM x 2]) ∧ KW.Fr [] H H1 := fun v e => by
        rw [← e]
        exact app_l g1 (lt_line (by simp)) ⟨upd_same, by rw [upd_ne npq.symm]; exact g2, fp _⟩
      walk_at "kk"
      split
      · split
        · exact ⟨mul2_l (by omega), key _ (if_pos (show pFits x = true by unfold pFits; exact decide_eq_true (by omega)))⟩
        · exact key _ (if_neg (show ¬ pFits x = true by unfold pFits; rw [decide_eq_true_eq]; omega))
      · exact key _ (if_neg (show ¬ pFits x = true by unfold pFits; rw [decide_eq_true_eq]; omega))
    clear g1 g2 f2
    rintro σ H2 ⟨rfl, g1, g2, f2⟩
    refine ⟨fun σ H' => σ = [some (.int x), some (.ref p), some (.ref q), v3, none] ∧ H' p = some (.lst [tvM x 0, tvM x 1]) ∧ H' q = some (.lst [tvM x 0, tvM x 1, tvM x 2]) ∧ KW.Fr [] H H', ?_, ?_⟩
    · have fp : ∀ o, KW.Fr [] H (upd H2 p o) := fun o b ob _ hb => by rw [upd_ne (ne_of_none hb hp)]; exact f2 b ob (by simp) hb
      have key : ∀ v, tvM x 1 = v → rAppend (V.ref p) [v] H2 fun _ H1 => H1 p = some (.lst [tvM x 0, tvM x 1]) ∧ H1 q = some (.lst [tvM x 0, tvM x 1, tvM x 2]) ∧ KW.Fr [] H H1 := fun v e => by
        rw [← e]
        exact app_l g1 (lt_line (by simp)) ⟨upd_same, by rw [upd_ne npq.symm]; exact g2, fp _⟩
      walk_at "kk"
      split
      · split
        · exact ⟨mul2_l (by omega), key _ (if_pos (show pSym x = true by unfold pSym; exact decide_eq_true (by omega)))⟩
        · exact key _ (if_neg (show ¬ pSym x = true by unfold pSym; rw [decide_eq_true_eq]; omega))
      · exact key _ (if_neg (show ¬ pSym x = true by unfold pSym; rw [decide_eq_true_eq]; omega))
    clear g1 g2 f2
    rintro σ H2 ⟨rfl, g1, g2, f2⟩
    refine ⟨fun σ H' => σ = [some (.int x), some (.ref p), some (.ref q), v3, none] ∧ H' p = some (.lst [tvM x 0, tvM x 1, tvM x 2]) ∧ H' q = some (.lst [tvM x 0, tvM x 1, tvM x 2]) ∧ KW.Fr [] H H', ?_, ?_⟩
    · have fp : ∀ o, KW.Fr [] H (upd H2 p o) := fun o b ob _ hb => by rw [upd_ne (ne_of_none hb hp)]; exact f2 b ob (by simp) hb
      have key : ∀ v, tvM x 2 = v → rAppend (V.ref p) [v] H2 fun _ H1 => H1 p = some (.lst [tvM x 0, tvM x 1, tvM x 2]) ∧ H1 q = some (.lst [tvM x 0, tvM x 1, tvM x 2]) ∧ KW.Fr [] H H1 := fun v e => by
        rw [← e]
        exact app_l g1 (lt_line (by simp)) ⟨upd_same, by rw [upd_ne npq.symm]; exact g2, fp _⟩
      walk_at "kk"
      split
      · split
        · exact ⟨mul2_l (by omega), key _ (if_pos (show pSym x = true by unfold pSym; exact decide_eq_true (by omega)))⟩
        · exact key _ (if_neg (show ¬ pSym x = true by unfold pSym; rw [decide_eq_true_eq]; omega))
      · exact key _ (if_neg (show ¬ pSym x = true by unfold pSym; rw [decide_eq_true_eq]; omega))
    clear g1 g2 f2
    rintro σ H2 ⟨rfl, g1, g2, f2⟩
    walk_at "kk"
    refine for_rng (fun i σ H' => (∃ v3, σ = [some (.int x), some (.ref p), some (.ref q), v3, none]) ∧ H' = H2) ⟨⟨_, rfl⟩, rfl⟩ ?_ ?_
    · rintro i σ H3 hi ⟨⟨v3, rfl⟩, rfl⟩
      have ai : atI [tvM x 0, tvM x 1, tvM x 2] (i : Int) = some (tvM x i) := by
        obtain rfl | rfl | rfl : i = 0 ∨ i = 1 ∨ i = 2 := by omega
        all_goals rfl
      have hc := tvM_c x i
      generalize tvM x i = t at ai hc
      rcases hc with ⟨n, rfl⟩ | rfl
      · walk_at "kk"
        refine .inl ⟨n, n, rfl, ?_⟩
        rw [decide_eq_true rfl]
        walk_at "kk"
        exact ⟨_, rfl⟩
      · walk_at "kk"
        exact ⟨_, rfl⟩
    · rintro σ H3 ⟨⟨v3, rfl⟩, rfl⟩
      walk_at "kk"
      exact h _ f2
def rvM (x : Int) : Nat → V
  | 0 => if pI x then .int (x / 4) else .non
  | 1 => if pS x then .int (x / 4) else .non
  | _ => if pR x then .int (x / 2) else .non
theorem rvM_c (x : Int) (i : Nat) : (∃ n, rvM x i = .int n) ∨ rvM x i = .non := match i with
  | 0 => ic
  | 1 => ic
  | _ + 2 => ic
theorem ok__law_read (T : Txt P w K mg a) : Cal P w K mg base 3 "_law_read" (fun vs H Q _ => ∃ x : Int, vs = [.int x] ∧ okS (.int x) ∧ ∀ H', KW.Fr [] H H' → Q (.bl true) H') := by
  have C_int_of := ok_int_of (P := P) (w := w) (base := base) T
  have C_symbol_of := ok_symbol_of (P := P) (w := w) (base := base) T
  have C_ref_of := ok_ref_of (P := P) (w := w) (base := base) T
  have C_is_int := ok_is_int (P := P) (w := w) (base := base) T
  have C_is_symbol := ok_is_symbol (P := P) (w := w) (base := base) T
  have C_is_ref := ok_is_ref (P := P) (w := w) (base := base) T
  have C__law_is := ok__law_is (P := P) (w := w) (base := base) T
  have CE__law_error := okE__law_error (P := P) (w := w) (base := base) T
  refine T.d__law_read.ok sc__law_read (fun vs H Q E h => ?_) (fun f cdv A outer s H vs Q E hr h => ⟨_, (pss_cons (ps_set (i := 1) sc__law_read.nd rfl (Or.inl rfl) (pe_op o_mod (pe_callTy (c_intL T.dg) (by rfl) T.n_int (by decide +kernel) (pa_cons (kv 0) pa_nil)) pe_int))
      (pss_cons (ps_set (i := 2) sc__law_read.nd rfl (Or.inl rfl) (pe_lst (pa_cons pe_non (pa_cons pe_non (pa_cons pe_non pa_nil)))))
      (C8.pss_cut (ps_if (pt_cmpR (o_eq hr.units) (kv 1) pe_int (nomark _))
      (pss_one (ps_asg (pe_op o_fdiv (kv 0) pe_int) (pg_sub (kv 2) pe_int s_set)))
      (pss_one (ps_if (pt_cmpR (o_eq hr.units) (kv 1) pe_int (nomark _))
      (pss_one (ps_asg (pe_op o_fdiv (kv 0) pe_int) (pg_sub (kv 2) pe_int s_set)))
      (pss_one (ps_asg (pe_op o_fdiv (kv 0) pe_int) (pg_sub (kv 2) pe_int s_set))))))
      (pss_cons (ps_set (i := 3) sc__law_read.nd rfl (Or.inl rfl) (pe_lst pa_nil))
      (C8.pss_cut (k_for (passes_of rfl) rfl (pi_range1 (by rfl) T.n_range (pa_cons pe_int pa_nil)) (pg_name (i := 4) sc__law_read.nd rfl (Or.inl rfl))
      (pss_one (L2N.ps_try_as (X := (cxOf (L2N.CX P w) P w K mg base N__law_read "_law_read" (defScope s__law_read) f cdv A outer s H E)) (i := 5) rfl rfl sc__law_read.nd rfl rfl ⟨by rfl, by decide, .inl T.g_BadWord⟩ (L2N.takes_of rfl rfl rfl rfl) (fun W pn xe tk po => by
        have hbd : PSs (Cx.tr (cxOf (L2N.CX P w) P w K mg base N__law_read "_law_read" (defScope s__law_read) f cdv A outer s H E) pn xe) (tryB (nthS (forB (nthS (defBody s__law_read) 4)) 0)) _ := (pss_one (ps_if (pt_cmpR (o_eq hr.units) (kv 4) pe_int (nomark _))
      (pss_one (ps_expr (pe_bm PySem.F.plainAttrs_list PySem.F.slot_list_append PySem.F.type_list_append mt_append (kv 3) (pa_cons (kcX tk C_int_of (hr.mono (by decide)) (pa_cons (kv 0) pa_nil)) pa_nil))))
      (pss_one (ps_if (pt_cmpR (o_eq hr.units) (kv 4) pe_int (nomark _))
      (pss_one (ps_expr (pe_bm PySem.F.plainAttrs_list PySem.F.slot_list_append PySem.F.type_list_append mt_append (kv 3) (pa_cons (kcX tk C_symbol_of (hr.mono (by decide)) (pa_cons (kv 0) pa_nil)) pa_nil))))
      (pss_one (ps_expr (pe_bm PySem.F.plainAttrs_list PySem.F.slot_list_append PySem.F.type_list_append mt_append (kv 3) (pa_cons (kcX tk C_ref_of (hr.mono (by decide)) (pa_cons (kv 0) pa_nil)) pa_nil))))))))
        dsimp only [Cx.tr] at hbd
        exact hbd)
      (fun ea oe cls d pn hzn hf => by
        have hz := hzn.zc
        have hsu : PSs (Cx.suite (cxOf (L2N.CX P w) P w K mg base N__law_read "_law_read" (defScope s__law_read) f cdv A outer s H E) ea ((ea, oe) :: pn)) (suB (nthS (forB (nthS (defBody s__law_read) 4)) 0)) _ := (pss_cons (ps_if (pt_not (kt (kcE (X := (cxOf (L2N.CX P w) P w K mg base N__law_read "_law_read" (defScope s__law_read) f cdv A outer s H E)) hzn hf CE__law_error (hr.mono (by decide)) (pa_cons (kv 5) (pa_cons (kv 0) pa_nil)))))
      (pss_one (ps_ret pe_bl))
      pss_nil)
      (pss_one (ps_expr (pe_bm PySem.F.plainAttrs_list PySem.F.slot_list_append PySem.F.type_list_append mt_append (kv 3) (pa_cons pe_non pa_nil)))))
        dsimp only [Cx.suite] at hsu
        exact hsu))))
      (pss_cons (k_for (passes_of rfl) rfl (pi_range1 (by rfl) T.n_range (pa_cons pe_int pa_nil)) (pg_name (i := 4) sc__law_read.nd rfl (Or.inl rfl))
      (pss_one (ps_if (PW.pt (pw_or (PW.pt (pw_and (pt_cmpR o_is (pe_ix o_ix (kv 2) (kv 4) (fun _ _ => rfl)) pe_non (nomark _)) (pw_and1 (pt_cmpR o_isnot (pe_ix o_ix (kv 3) (kv 4) (fun _ _ => rfl)) pe_non (nomark _))))) (pw_or1 (PW.pt (pw_and (pt_cmpR o_isnot (pe_ix o_ix (kv 2) (kv 4) (fun _ _ => rfl)) pe_non (nomark _)) (pw_and1 (pt_not (kt (kc C__law_is (hr.mono (by decide)) (pa_cons (pe_ix o_ix (kv 3) (kv 4) (fun _ _ => rfl)) (pa_cons (pe_ix o_ix (kv 2) (kv 4) (fun _ _ => rfl)) pa_nil)))))))))))
      (pss_one (ps_ret pe_bl))
      pss_nil)))
      (pss_one (ps_ret (pe_and (kc C__law_is (hr.mono (by decide)) (pa_cons (kc C_is_int (hr.mono (by decide)) (pa_cons (kv 0) pa_nil)) (pa_cons (pe_cmpR (o_eq hr.units) (kv 1) pe_int (nomark _)) pa_nil))) (pe_and (kc C__law_is (hr.mono (by decide)) (pa_cons (kc C_is_symbol (hr.mono (by decide)) (pa_cons (kv 0) pa_nil)) (pa_cons (pe_cmpR (o_eq hr.units) (kv 1) pe_int (nomark _)) pa_nil))) (pe_one (kc C__law_is (hr.mono (by decide)) (pa_cons (kc C_is_ref (hr.mono (by decide)) (pa_cons (kv 0) pa_nil)) (pa_cons (pe_cmpR (o_eq hr.units) (pe_op o_mod (pe_callTy (c_intL T.dg) (by rfl) T.n_int (by decide +kernel) (pa_cons (kv 1) pa_nil)) pe_int) pe_int (nomark _)) pa_nil)))))))))))))), ?_⟩)
  · obtain ⟨_, rfl, _⟩ := h; rfl
  · obtain ⟨x, rfl, hx, h⟩ := h
    walk_at "kk"
    intro p hp
    have gp0 : upd H p (.lst [.non, .non, .non]) p = some (.lst [.non, .non, .non]) := upd_same
    have f0 : KW.Fr [] H (upd H p (.lst [.non, .non, .non])) := Fr.new hp
    revert gp0 f0
    generalize upd H p (.lst [.non, .non, .non]) = H0
    intro gp0 f0
    have fp : ∀ H2 o, KW.Fr [] H H2 → KW.Fr [] H (upd H2 p o) := fun H2 o f b ob _ hb => by rw [upd_ne (ne_of_none hb hp)]; exact f b ob (by simp) hb
    refine ⟨fun σ H' => σ = [some (.int x), some (.int (x % 4)), some (.ref p), none, none, none] ∧ H' p = some (.lst [rvM x 0, rvM x 1, rvM x 2]) ∧ KW.Fr [] H H', ?_, ?_⟩
    · have i0 : ixN [V.non, V.non, V.non].length 0 = some 0 := rfl
      have i1 : ixN [V.non, V.non, V.non].length 1 = some 1 := rfl
      have i2 : ixN [V.non, V.non, V.non].length 2 = some 2 := rfl
      have n0 : x % 4 ≠ 1 → rvM x 0 = .non := fun c => if_neg (show ¬ pI x = true by unfold pI; rw [decide_eq_true_eq]; exact c)
      have n1 : x % 4 ≠ 3 → rvM x 1 = .non := fun c => if_neg (show ¬ pS x = true by unfold pS; rw [decide_eq_true_eq]; exact c)
      have n2 : x % 2 ≠ 0 → rvM x 2 = .non := fun c => if_neg (show ¬ pR x = true by unfold pR; rw [decide_eq_true_eq]; exact c)
      have y0 : x % 4 = 1 → rvM x 0 = .int (x / 4) := fun c => if_pos (show pI x = true by unfold pI; rw [decide_eq_true_eq]; exact c)
      have y1 : x % 4 = 3 → rvM x 1 = .int (x / 4) := fun c => if_pos (show pS x = true by unfold pS; rw [decide_eq_true_eq]; exact c)
      have y2 : x % 2 = 0 → rvM x 2 = .int (x / 2) := fun c => if_pos (show pR x = true by unfold pR; rw [decide_eq_true_eq]; exact c)
      walk_at "kk"
      split
      · rw [y0 (by omega), n1 (by omega), n2 (by omega)]
        refine ⟨div_s (by omega), ?_⟩
        walk_at "kk"
        exact ⟨upd_same, fp _ _ f0⟩
      · split
        · rw [n0 (by omega), y1 (by omega), n2 (by omega)]
          refine ⟨div_s (by omega), ?_⟩
          walk_at "kk"
          exact ⟨upd_same, fp _ _ f0⟩
        · rw [n0 (by omega), n1 (by omega), y2 (by omega)]
          refine ⟨div_s (by omega), ?_⟩
          walk_at "kk"
          exact ⟨upd_same, fp _ _ f0⟩
    clear gp0 f0
    rintro σ H0 ⟨rfl, gp0, f0⟩
    walk_at "kk"
    intro q hq0
    have npq : p ≠ q := ne_of_none gp0 hq0
    have f1 : KW.Fr [] H (upd H0 q (.lst [])) := f0.trans (Fr.new hq0)
    have gp : upd H0 q (.lst []) p = some (.lst [rvM x 0, rvM x 1, rvM x 2]) := by walk_at "hp"
    have gq : upd H0 q (.lst []) q = some (.lst []) := upd_same
    have hq' : H q = none := f0.none (by simp) hq0
    revert f1 gp gq
    generalize upd H0 q (.lst []) = H1
    intro f1 gp gq
    refine ⟨fun σ H' => (∃ v3, σ = [some (.int x), some (.int (x % 4)), some (.ref p), some (.ref q), v3, none]) ∧ H' p = some (.lst [rvM x 0, rvM x 1, rvM x 2]) ∧ H' q = some (.lst [rvM x 0, rvM x 1, rvM x 2]) ∧ KW.Fr [] H H', ?_, ?_⟩
    · have fq : ∀ H2 o, KW.Fr [] H H2 → KW.Fr [] H (upd H2 q o) := fun H2 o f b ob _ hb => by rw [upd_ne (ne_of_none hb hq')]; exact f b ob (by simp) hb
      obtain ⟨Pv, hPv⟩ : ∃ Pv : Nat → L2.St → Hp → Prop, Pv = fun i σ H' => (∃ v3, σ = [some (.int x), some (.int (x % 4)), some (.ref p), some (.ref q), v3, none]) ∧ H' p = some (.lst [rvM x 0, rvM x 1, rvM x 2]) ∧ H' q = some (.lst ((List.range i).map (rvM x))) ∧ KW.Fr [] H H' := ⟨_, rfl⟩
      walk_at "kk"
      refine for_rng Pv (by rw [hPv]; exact ⟨⟨_, rfl⟩, gp, gq, f1⟩) ?_ ?_
      · intro i σ H2 hi hP
        rw [hPv] at hP
        obtain ⟨⟨v3, rfl⟩, g1, g2, f2⟩ := hP
        obtain rfl | rfl | rfl : i = 0 ∨ i = 1 ∨ i = 2 := by omega
        · replace g2 : H2 q = some (.lst []) := g2
          walk_at "kk"
          refine ⟨x, rfl, hx, fun c => ?_, fun c d hd => ?_⟩
          · refine app_l g2 (lt_line (by simp)) ?_
            rw [hPv]
            refine ⟨⟨_, rfl⟩, by rw [upd_ne npq]; exact g1, ?_, fq _ _ f2⟩
            rw [upd_same, show (List.range 1).map (rvM x) = [] ++ [rvM x 0] from rfl, show rvM x 0 = .int (x / 4) from if_pos c]
          · have f3 : KW.Fr [] H (upd H2 d (.xd [("word", .int x)])) := f2.trans (Fr.new hd)
            have g3 : upd H2 d (.xd [("word", .int x)]) p = some (.lst [rvM x 0, rvM x 1, rvM x 2]) := by walk_at "hp"
            have g4 : upd H2 d (.xd [("word", .int x)]) q = some (.lst []) := by walk_at "hp"
            have g5 : upd H2 d (.xd [("word", .int x)]) d = some (.xd [("word", .int x)]) := upd_same
            revert f3 g3 g4 g5
            generalize upd H2 d (.xd [("word", .int x)]) = H3
            intro f3 g3 g4 g5
            walk_at "kk"
            intro ea hea
            refine ⟨x, d, rfl, rfl, rfl, g5, ?_⟩
            walk_at "kk"
            rw [hPv]
            refine ⟨⟨_, rfl⟩, by rw [upd_ne npq]; exact g3, ?_, fq _ _ f3⟩
            rw [upd_same]
            show _ = some (HO.lst [rvM x 0])
            rw [show rvM x 0 = .non from if_neg (by rw [c]; exact Bool.false_ne_true)]
        · replace g2 : H2 q = some (.lst [rvM x 0]) := g2
          walk_at "kk"
          refine ⟨x, rfl, hx, fun c => ?_, fun c d hd => ?_⟩
          · refine app_l g2 (lt_line (by simp)) ?_
            rw [hPv]
            refine ⟨⟨_, rfl⟩, by rw [upd_ne npq]; exact g1, ?_, fq _ _ f2⟩
            rw [upd_same, show (List.range 2).map (rvM x) = [rvM x 0] ++ [rvM x 1] from rfl, show rvM x 1 = .int (x / 4) from if_pos c]
          · have f3 : KW.Fr [] H (upd H2 d (.xd [("word", .int x)])) := f2.trans (Fr.new hd)
            have g3 : upd H2 d (.xd [("word", .int x)]) p = some (.lst [rvM x 0, rvM x 1, rvM x 2]) := by walk_at "hp"
            have g4 : upd H2 d (.xd [("word", .int x)]) q = some (.lst [rvM x 0]) := by walk_at "hp"
            have g5 : upd H2 d (.xd [("word", .int x)]) d = some (.xd [("word", .int x)]) := upd_same
            revert f3 g3 g4 g5
            generalize upd H2 d (.xd [("word", .int x)]) = H3
            intro f3 g3 g4 g5
            walk_at "kk"
            intro ea hea
            refine ⟨x, d, rfl, rfl, rfl, g5, ?_⟩
            walk_at "kk"
            rw [hPv]
            refine ⟨⟨_, rfl⟩, by rw [upd_ne npq]; exact g3, ?_, fq _ _ f3⟩
            rw [upd_same]
            show _ = some (HO.lst [rvM x 0, rvM x 1])
            rw [show rvM x 1 = .non from if_neg (by rw [c]; exact Bool.false_ne_true)]
        · replace g2 : H2 q = some (.lst [rvM x 0, rvM x 1]) := g2
          walk_at "kk"
          refine ⟨x, rfl, hx, fun c => ?_, fun c d hd => ?_⟩
          · refine app_l g2 (lt_line (by simp)) ?_
            rw [hPv]
            refine ⟨⟨_, rfl⟩, by rw [upd_ne npq]; exact g1, ?_, fq _ _ f2⟩
            rw [upd_same, show (List.range 3).map (rvM x) = [rvM x 0, rvM x 1] ++ [rvM x 2] from rfl, show rvM x 2 = .int (x / 2) from if_pos c]
          · have f3 : KW.Fr [] H (upd H2 d (.xd [("word", .int x)])) := f2.trans (Fr.new hd)
            have g3 : upd H2 d (.xd [("word", .int x)]) p = some (.lst [rvM x 0, rvM x 1, rvM x 2]) := by walk_at "hp"
            have g4 : upd H2 d (.xd [("word", .int x)]) q = some (.lst [rvM x 0, rvM x 1]) := by walk_at "hp"
            have g5 : upd H2 d (.xd [("word", .int x)]) d = some (.xd [("word", .int x)]) := upd_same
            revert f3 g3 g4 g5
            generalize upd H2 d (.xd [("word", .int x)]) = H3
            intro f3 g3 g4 g5
            walk_at "kk"
            intro ea hea
            refine ⟨x, d, rfl, rfl, rfl, g5, ?_⟩
            walk_at "kk"
            rw [hPv]
            refine ⟨⟨_, rfl⟩, by rw [upd_ne npq]; exact g3, ?_, fq _ _ f3⟩
            rw [upd_same]
            show _ = some (HO.lst [rvM x 0, rvM x 1, rvM x 2])
            rw [show rvM x 2 = .non from if_neg (by rw [c]; exact Bool.false_ne_true)]
      · intro σ H2 hP
        rw [hPv] at hP
        obtain ⟨⟨v3, rfl⟩, g1, g2, f2⟩ := hP
        walk_at "kk"
        exact ⟨⟨_, rfl⟩, g1, g2, f2⟩
    rintro σ H2 ⟨⟨v3, rfl⟩, g1, g2, f2⟩
    walk_at "kk"
    refine for_rng (fun i σ H' => (∃ v3, σ = [some (.int x), some (.int (x % 4)), some (.ref p), some (.ref q), v3, none]) ∧ H' = H2) ⟨⟨_, rfl⟩, rfl⟩ ?_ ?_
    · rintro i σ H3 hi ⟨⟨v3, rfl⟩, rfl⟩
      have ai : atI [rvM x 0, rvM x 1, rvM x 2] (i : Int) = some (rvM x i) := by
        obtain rfl | rfl | rfl : i = 0 ∨ i = 1 ∨ i = 2 := by omega
        all_goals rfl
      have hc := rvM_c x i
      generalize rvM x i = t at ai hc
      rcases hc with ⟨n, rfl⟩ | rfl
      · walk_at "kk"
        refine .inl ⟨n, n, rfl, ?_⟩
        rw [decide_eq_true rfl]
        walk_at "kk"
        exact ⟨_, rfl⟩
      · walk_at "kk"
        exact ⟨_, rfl⟩
    · rintro σ H3 ⟨⟨v3, rfl⟩, rfl⟩
      walk_at "kk"
      refine ⟨x, rfl, .inr ⟨_, _, rfl, ?_⟩⟩
      rw [show (pI x == decide (x % 4 = 1)) = true from beq_self_eq_true _]
      walk_at "kk"
      refine ⟨x, rfl, .inr ⟨_, _, rfl, ?_⟩⟩
      rw [show (pS x == decide (x % 4 = 3)) = true from beq_self_eq_true _]
      walk_at "kk"
      refine ⟨x, rfl, .inr ⟨_, _, rfl, ?_⟩⟩
      rw [show (pR x == decide (x % 4 % 2 = 0)) = true by rw [beq_iff_eq]; unfold pR; exact decide_eq_decide.mpr (by omega)]
      exact h _ f2
end
end K00

set_option Elab.async false
set_option linter.all false
set_option maxRecDepth 100000
set_option maxHeartbeats 4000000
namespace K00
open PySem PySem.Spec PyProof.Rows L2 KW
local macro_rules | `(tactic| walk_at "kw") => `(tactic| simp only [tSeq, tNext, tIfS, tTest, tAnd, tOr, tNot, tAndV, tOrV, tNotV, tIf, tChain, tOp, tUn, tC, tAsg, gName, gSub, gCons, gNil, tRet, tRetN, tDrop, tCons, tNil, tCB, tAug, tSl, tPart, tNoPart, tLst, tTup, tBM, tBM0, uTest, uFor, iRng1, iRng2, iList, uCall, List.map_cons, List.map_nil, List.length_cons, List.length_nil, List.cons_append, List.nil_append, List.replicate, Nat.zero_add, Nat.reduceAdd, Nat.reduceSub, List.getElem?_cons_zero, List.getElem?_cons_succ, List.set_cons_zero, List.set_cons_succ, V.bl.injEq, V.int.injEq, V.str.injEq, V.ref.injEq, V.ty.injEq, List.cons.injEq, and_true, true_and, exists_eq_left', exists_eq_right, exists_eq_left, exists_and_left, exists_and_right, decide_eq_true_eq, Bool.not_eq_true', decide_eq_false_iff_not, Bool.false_eq_true, if_true, if_false, ite_true, ite_false, Bool.not_true, Bool.not_false, reduceCtorEq, decide_true, decide_false, Bool.not_not, isK_int_int, isK_int_bool, isK_int_str, isK_int_list, isK_int_tuple, isK_bool_int, isK_bool_bool, isK_bool_str, isK_str_str, isK_str_int, isK_str_bool, isK_str_tuple, isK_str_list, isK_list_list, isK_list_tuple, isK_tuple_tuple, isK_tuple_list, isOk_int_int, isOk_int_bool, isOk_int_str, isOk_int_list, isOk_int_tuple, isOk_bool_int, isOk_bool_bool, isOk_bool_str, isOk_str_str, isOk_str_int, isOk_str_bool, isOk_str_tuple, isOk_str_list, isOk_list_list, isOk_list_tuple, isOk_tuple_tuple, isOk_tuple_list, isK_dict_dict, isOk_dict_dict, isK_none_int, isK_none_bool, isOk_none_int, isOk_none_bool, tyV, S_inj, S_cat, L2.start, Nat.reduceSub, List.replicate_succ, List.replicate_zero, and_assoc, List.append_nil, Nat.reduceEqDiff, Option.some.injEq, Int.natCast_inj, upd_upd, Int.reducePow, Int.reduceToNat, Int.reduceMul, Int.reduceAdd, Int.reduceSub, Int.reduceLT, Int.reduceLE, Int.reduceNeg, Int.reduceDiv, Int.reduceMod, Nat.reducePow, Nat.reduceMul, S_len, List.length_append, List.length_map, List.length_range, not_true_eq_false, not_false_eq_true, ne_eq, uAdd_e1, uAdd_e2, uSub_e1, uMod_e1, uDiv_e1, uPow_e1, uShl_e1, uNeg_e1, uIAdd_e1, uIAdd_e2, uIAdd_e3, uISub_e1, uLt_e1, uLt_e2, uLe_e1, uGt_e1, uGe_e1, uEq_e1, uEq_e2, uEq_e3, uEq_e4, uEq_e5, uEq_e6, uEq_e7, uEq_e8, uEq_e9, uEq_e10, uEq_e11, uNe_e1, uNe_e2, uNe_e3, uNe_e4, uNe_e5, uNe_e6, uNe_e7, uNe_e8, uNe_e9, uNe_e10, uNe_e11, uIs_e1, uIs_e2, uIs_e3, uIs_e4, uIs_e5, uIs_e6, uIs_e7, uNotIs_e1, uNotIs_e2, uNotIs_e3, uNotIs_e4, uNotIs_e5, uNotIs_e6, uIn_e1, uIn_e2, uIn_e3, uIn_e4, uNotIn_e1, uNotIn_e2, uNotIn_e3, uNotIn_e4, uTru_e1, uTru_e2, uTru_e3, uTru_e4, uIx_e2, uSl_e2, uLen_e1, uAbs_e1, uInt_e1, uInt_e2, uMin2_e1, uIsi_e1, uIsi_e2, uIsi_e3, uIsi_e4, cx_K, uVar_0, uVar_n, uFld, uSFld, uMet, uMake, tDG, tDI, tDNI, tDP, tDD, uMk, uRaise, uDelSl, tCallS, L2.WE, uStr_e1, uStr_e2, uMul2_e1, uMul2_e2, okS_i, okS_s, List.zip_cons_cons, List.zip_nil_left, List.drop_zero, List.drop_succ_cons, List.drop_nil, putF_nil, putF_cons, eq_self, tDNewK, tB, Option.isSome_some, Option.isSome_none, false_and, false_or, or_false, exists_false, Int.zero_add, uLc, wipe, tYes, isEmpty_app, List.isEmpty_cons, List.isEmpty_nil, List.isEmpty_map, Bool.and_false, Bool.and_true, iRev, K00.lit_0, K00.lit_1, uIntL_e1, uIntL_e2, K00.N_fits, K00.N_of_int, K00.N_of_symbol, K00.N_of_ref, K00.N_is_int, K00.N_is_symbol, K00.N_is_ref, K00.N_int_of, K00.N_symbol_of, K00.N_ref_of, K00.N_is_word, K00.N__law_integer, K00.N__law_is, K00.N__law_error, K00.N__law_made, K00.N__law_read, K00.N__law_is_word, K00.N_law])
local macro_rules | `(tactic| walk_at "nn") => `(tactic| first | assumption | exact ne_un (by assumption) | exact ne_un (ne_un (by assumption)) | exact ne_un (ne_un (ne_un (by assumption))) | exact ne_un (ne_un (ne_un (ne_un (by assumption)))))
local macro_rules | `(tactic| walk_at "ne") => `(tactic| first | assumption | (apply Ne.symm; assumption) | exact ne_ud (by assumption) | exact Ne.symm (ne_ud (by assumption)) | exact ne_ud (ne_un (by assumption)) | exact Ne.symm (ne_ud (ne_un (by assumption))) | exact ne_ud (ne_un (ne_un (by assumption))) | exact Ne.symm (ne_ud (ne_un (ne_un (by assumption)))) | exact ne_m (by assumption) (by assumption) | exact Ne.symm (ne_m (by assumption) (by assumption)) | exact ne_n (by assumption) (by walk_at "nn") | exact Ne.symm (ne_n (by assumption) (by walk_at "nn")))
local macro_rules | `(tactic| walk_at "hp") => `(tactic| first | assumption | exact upd_same | (refine Eq.trans (upd_ne ?_) ?_; (focus walk_at "ne"); walk_at "hp"))
local macro_rules | `(tactic| walk_at "sc") => `(tactic| first | (with_reducible assumption) | omega | exact le_line (by (try simp only [List.length_map, List.length_append, List.length_cons, List.length_nil, S_len]); omega) | exact div_s (by omega) | exact mul_r (by omega) | exact mul_l (by omega) | exact pow_s (by omega) | exact mul2_r (by omega) | exact mul2_l (by omega) | exact small4300 (by omega) | exact lt_line (by (try simp only [List.length_map, List.length_append, List.length_cons, List.length_nil, S_len]); omega) | exact ⟨_, by assumption⟩ | (guard_target =~ Exists _; exact ⟨_, .of (by walk_at "hp")⟩) | (guard_target =~ _ ∨ _; exact .inl ⟨_, by assumption⟩) | (guard_target =~ _ ∨ _; exact .inl ⟨_, .of (by walk_at "hp")⟩) | (guard_target =~ _ ∨ _; exact .inr (.inr (.inl ⟨rfl, .inl ⟨_, by walk_at "hp"⟩⟩))) | decide)
local macro_rules | `(tactic| walk_at "kr") => `(tactic| first | (guard_target =~ _ ∧ _; first | refine And.intro (by walk_at "sc") ?_) | (guard_target =~ KW.uIx _ _ _ _ _; first | refine ix_l (by walk_at "hp") (by first | walk_at "hv" | rfl) ?_ | refine ix_t (by walk_at "hp") (by first | walk_at "hv" | rfl) ?_ | refine ix_sl (by assumption) (by walk_at "hv") ?_) | (guard_target =~ KW.uLen _ _ _ _; first | refine len_l (by walk_at "hp") ?_ | refine len_t (by walk_at "hp") ?_ | refine len_sl (by assumption) ?_) | (guard_target =~ KW.uSet _ _ _ _ _; first | refine set_l (by walk_at "hp") (by first | walk_at "hv" | rfl) ?_) | (guard_target =~ L2.gTup _ _ _ _ _ _ _; first | refine tup_l (by walk_at "hp") (by rfl) ?_) | (guard_target =~ KW.uGet _ _ _ _ _; first | refine get_l (by walk_at "hp") (by walk_at "hc") (by decide) (by rfl) ?_) | (guard_target =~ KW.uPut _ _ _ _ _ _; first | refine put_l (by walk_at "hp") (by walk_at "hc") (by decide) (by simp) ?_) | (guard_target =~ KW.uMet.uMt _ _ _ _ _ _ _ _ _; first | refine met_l (by walk_at "hp") (by rfl) ?_) | (guard_target =~ KW.uMet.uMt _ _ _ _ _ _ _ _ _; first | refine ST.met_s (by assumption) (by decide) ?_) | (guard_target =~ ST.spExists _ _ _ _ _; first | refine ST.exists_s (by assumption) ?_) | (guard_target =~ ST.spUsed _ _ _ _ _; first | refine ST.used_s (by assumption) ?_) | (guard_target =~ KW.uGet _ _ _ _ _; first | refine ST.words_s (by assumption) (by walk_at "hc") (by decide) ?_) | (guard_target =~ KW.uDIn _ _ _ _; first | refine din_i (by walk_at "hp") ?_ | refine din_s (by walk_at "hp") ?_) | (guard_target =~ KW.uDGet _ _ _ _; first | refine dget_i (by walk_at "hp") (by walk_at "hv") ?_ | refine dget_s (by walk_at "hp") (by walk_at "hv") ?_) | (guard_target =~ KW.uDPut _ _ _ _ _; first | refine dput_i (by walk_at "hp") (by walk_at "sc") ?_ | refine dput_s (by walk_at "hp") (by walk_at "sc") ?_) | (guard_target =~ KW.uDDel _ _ _ _; first | refine ddel_i (by walk_at "hp") (by walk_at "hv") ?_ | refine ddel_s (by walk_at "hp") (by walk_at "hv") ?_) | (guard_target =~ KW.uMul2 _ _ _ _; first | refine rep_l (by walk_at "hp") (by walk_at "sc") (by walk_at "sc") (by walk_at "sc") ?_) | (guard_target =~ L2.rAppend _ _ _ _; first | refine app_l (by walk_at "hp") (by walk_at "sc") ?_) | (guard_target =~ L2.rPop _ _ _ _; first | refine pop_l (by walk_at "hp") (by walk_at "hv") ?_ | refine pops_l (by walk_at "hp") ?_) | (guard_target =~ L2.rClear _ _ _ _; first | refine clr_l (by walk_at "hp") ?_) | (guard_target =~ L2.rReverse _ _ _ _; first | refine rev_l (by walk_at "hp") ?_) | (guard_target =~ L2.rExtend _ _ _ _; first | refine ext_l (by walk_at "hp") (by walk_at "hp") (by walk_at "sc") ?_) | (guard_target =~ KW.uAdd _ _ _ _ _; first | refine ucat_l (by walk_at "hp") (by walk_at "hp") (by walk_at "sc") ?_) | (guard_target =~ KW.uSl _ _ _ _ _ _; first | refine usl_l (by walk_at "hp") ?_) | (guard_target =~ KW.uTru _ _ _ _; first | refine tru_l (by walk_at "hp") ?_ | refine tru_t (by walk_at "hp") ?_ | refine tru_d (by walk_at "hp") ?_ | refine tru_sl (by assumption) ?_) | (guard_target =~ L2.rIndex _ _ _ _ _; first | refine idx_s (by walk_at "hp") (by assumption) ?_ | refine idx_i (by walk_at "hp") (by assumption) ?_) | (guard_target =~ L2.rIn _ _ _ _ _ _; first | refine in_s (by walk_at "hp") ?_ | refine nin_s (by walk_at "hp") ?_ | refine in_i (by walk_at "hp") ?_ | refine nin_i (by walk_at "hp") ?_) | (guard_target =~ KW.uIsi _ _ _ _; first | refine isi_l (by walk_at "hp") (by decide +kernel) ?_ | refine isi_t (by walk_at "hp") (by decide +kernel) ?_ | refine isi_d (by walk_at "hp") (by decide +kernel) ?_) | (guard_target =~ KW.uList _ _ _ _; first | refine list_l (by walk_at "hp") ?_ | refine list_t (by walk_at "hp") ?_ | refine list_sl (by assumption) ?_) | (guard_target =~ KW.uDict _ _ _; first | refine dict_d (by walk_at "hp") ?_) | (guard_target =~ KW.uSorted _ _ _ _; first | refine srt_l (by walk_at "hp") ?_) | (guard_target =~ KW.uSum _ _ _ _; first | refine sum_l (by walk_at "hp") ?_) | (guard_target =~ KW.uDelC _ _ _ _; first | refine dels_l (by walk_at "hp") (by walk_at "sc") ?_) | (guard_target =~ L2.wAs _ _ _ _ _ _ _ _ _ _; first | refine as_yes (by walk_at "hx") ?_ | refine as_no (by walk_at "hx") ?_) | (guard_target =~ KW.uEf _ _ _ _ _ _ _ _ _; first | refine ef_l (by walk_at "he") (by decide) (by rfl) (by walk_at "hp") (by rfl) ?_) | (guard_target =~ KW.uIsE _ _ _ _ _ _ _; first | refine isE_r (by walk_at "he") (by walk_at "hp") (by walk_at "hk") ?_ | refine isE_t (by walk_at "he") (by walk_at "hp") (by walk_at "hk") ?_))
local macro_rules | `(tactic| walk_at "hv") => `(tactic| first | assumption)
local macro_rules | `(tactic| walk_at "kk") => `(tactic| repeat (first | walk_at "kw" | walk_at "kr"))
local macro_rules | `(tactic| walk_at "hc") => `(tactic| first | fail)
local macro_rules | `(tactic| walk_at "he") => `(tactic| first | exact K00.Txt.e_BadWord (by assumption) | exact K00.Txt.e_NoRoom (by assumption))
local macro_rules | `(tactic| walk_at "hx") => `(tactic| first | exact K00.Txt.x_BadWord_BadWord (by assumption) | exact K00.Txt.x_NoRoom_BadWord (by assumption))
local macro_rules | `(tactic| walk_at "hk") => `(tactic| first | exact K00.Txt.i_BadWord_KilnwardenError (by assumption) | exact K00.Txt.i_BadWord_NoRoom (by assumption) | exact K00.Txt.i_BadWord_ValueError (by assumption) | exact K00.Txt.i_NoRoom_KilnwardenError (by assumption) | exact K00.Txt.i_NoRoom_NoRoom (by assumption) | exact K00.Txt.i_NoRoom_ValueError (by assumption))

open PySem.KErr (okS)
section
variable {P : Program} {w : World} {K : Frag} {mg : Str → Option Value} {base : Heap} {a : Ads}
theorem isI_s {x : Int} {H : Hp} {Q : VK} {E : XK} (q : Q (.bl true) H) : spIs2 [.int x, .int x] H Q E := .inl ⟨x, x, rfl, by rw [decide_eq_true rfl]; exact q⟩
theorem isB_s {b c : Bool} {H : Hp} {Q : VK} {E : XK} (e : b = c) (q : Q (.bl true) H) : spIs2 [.bl b, .bl c] H Q E := .inr ⟨b, c, rfl, by rw [e, beq_self_eq_true]; exact q⟩
theorem ok_law (T : Txt P w K mg a) : ∀ f fd, Fun K "law" "law" s_law f fd → FnOk P w K mg base (L2N.CX P w) 4 f fd ["script"] (sp_law63 K) := by
  have C__law_is := ok__law_is (P := P) (w := w) (base := base) T
  have C__law_integer := ok__law_integer (P := P) (w := w) (base := base) T
  have C_fits := ok_fits (P := P) (w := w) (base := base) T
  have C_is_word := ok_is_word (P := P) (w := w) (base := base) T
  have C__law_is_word := ok__law_is_word (P := P) (w := w) (base := base) T
  have C__law_made := ok__law_made (P := P) (w := w) (base := base) T
  have C__law_read := ok__law_read (P := P) (w := w) (base := base) T
  refine DefAt.fn sc_law (fun vs H Q E h => ?_) (fun f cdv A outer s H vs Q E hr h => ⟨_, (pss_cons (ps_if (PW.pt (pw_or (pt_not (kt (kc C__law_is (hr.mono (by decide)) (pa_cons (k_g T.g_NIL) (pa_cons pe_int pa_nil))))) (pw_or (pt_not (kt (kc C__law_is (hr.mono (by decide)) (pa_cons (k_g T.g_LEAST) (pa_cons (pe_un o_neg pe_int) pa_nil))))) (pw_or1 (pt_not (kt (kc C__law_is (hr.mono (by decide)) (pa_cons (k_g T.g_GREATEST) (pa_cons pe_int pa_nil)))))))))
      (pss_one (ps_ret pe_bl))
      pss_nil)
      (pss_cons (ps_if (pt_not (kt (kc C__law_is (hr.mono (by decide)) (pa_cons (k_g T.g_MOST) (pa_cons pe_int pa_nil)))))
      (pss_one (ps_ret pe_bl))
      pss_nil)
      (C8.pss_cut (k_setLc (i := 1) (own := [("cell", 2)]) (g := gName 2) (by rfl) sc_law.nd rfl rfl (sw_true rfl rfl rfl (by decide +kernel)) (pi_list (kv 0)) (blkOk_by (own := [("cell", 2)]) (N := ["script", "cells", "cell", "number"]) (sc := defScope s_law) (by decide +kernel)) (fun _ _ _ _ _ => pg_name (i := 2) sc_law.nd rfl (Or.inl rfl)) (fun _ _ _ _ _ => pts_nil) (fun _ _ _ _ _ => by exact (pe_callTy (c_intL T.dg) (by rfl) T.n_int (by decide +kernel) (pa_cons (kv 2) pa_nil))))
      (C8.pss_cut (ps_if (pt_not (kt (kv 1)))
      (pss_one (ps_set (i := 1) sc_law.nd rfl (Or.inl rfl) (pe_lst (pa_cons pe_int pa_nil))))
      pss_nil)
      (pss_cons (k_for (passes_of rfl) rfl (pi_list (kv 1)) (pg_name (i := 2) sc_law.nd rfl (Or.inl rfl))
      (pss_cons (ps_set (i := 3) sc_law.nd rfl (Or.inl rfl) (kc C__law_integer (hr.mono (by decide)) (pa_cons (kv 2) pa_nil)))
      (pss_cons (ps_if (pt_not (kt (kc C__law_is (hr.mono (by decide)) (pa_cons (kc C_fits (hr.mono (by decide)) (pa_cons (kv 3) pa_nil)) (pa_cons (pe_chain o_le o_lt (pe_un o_neg pe_int) (kv 3) pe_int) pa_nil)))))
      (pss_one (ps_ret pe_bl))
      pss_nil)
      (pss_cons (ps_if (pt_not (kt (kc C__law_is (hr.mono (by decide)) (pa_cons (kc C_is_word (hr.mono (by decide)) (pa_cons (kv 3) pa_nil)) (pa_cons (kc C__law_is_word (hr.mono (by decide)) (pa_cons (kv 3) pa_nil)) pa_nil)))))
      (pss_one (ps_ret pe_bl))
      pss_nil)
      (pss_one (ps_if (PW.pt (pw_or (pt_not (kt (kc C__law_made (hr.mono (by decide)) (pa_cons (kv 3) pa_nil)))) (pw_or1 (pt_not (kt (kc C__law_read (hr.mono (by decide)) (pa_cons (kv 3) pa_nil)))))))
      (pss_one (ps_ret pe_bl))
      pss_nil))))))
      (pss_one (ps_ret pe_bl))))))), ?_⟩)
  · obtain ⟨sc, ns, rfl, _⟩ := h; rfl
  · obtain ⟨sc, ns, rfl, hS, hn, h⟩ := h
    walk_at "kk"
    refine isI_s ?_
    walk_at "kk"
    refine isI_s ?_
    walk_at "kk"
    refine isI_s ?_
    walk_at "kk"
    refine isI_s ?_
    walk_at "kk"
    refine ⟨fun σ H' => ∃ (ce : Addr) (cs : List Int), σ = [some (.ref sc), some (.ref ce), none, none] ∧ H' ce = some (.lst (cs.map V.int)) ∧ cs.length ≤ 63, ?_, ?_⟩
    · walk_at "kw"
      refine ⟨⟨_, hS⟩, ?_⟩
      refine lc_ii (fun n => some n) hS (lt_line (by omega)) ?_ ?_
      · intro i x D acc Cy Cn hx hD h1 h2
        walk_at "kk"
        exact h1 _ rfl
      intro D hD
      walk_at "kw"
      exact ⟨ns, by rw [List.filterMap_some]; exact upd_same, hn⟩
    rintro σ H0 ⟨ce, cs, rfl, h0, hl0⟩
    walk_at "kk"
    refine ⟨fun σ H' => ∃ (ce : Addr) (cs : List Int), σ = [some (.ref sc), some (.ref ce), none, none] ∧ H' ce = some (.lst (cs.map V.int)) ∧ cs.length ≤ 63, ?_, ?_⟩
    · walk_at "kk"
      split
      · walk_at "kk"
        intro ce2 hce2
        exact ⟨[976], upd_same, by simp⟩
      · walk_at "kk"
        exact ⟨cs, h0, hl0⟩
    rintro σ H1 ⟨ce, cs, rfl, h1, hl1⟩
    walk_at "kk"
    generalize hDD : ({ nx := _, rt := Q } : Ends) = DD
    obtain ⟨Pv, hPv⟩ : ∃ Pv : Nat → L2.St → Hp → Prop, Pv = fun i σ H' => (∃ v2 v3, σ = [some (.ref sc), some (.ref ce), v2, v3]) ∧ H' ce = some (.lst (cs.map V.int)) := ⟨_, rfl⟩
    refine for_lst (xs := cs.map V.int) Pv (by rw [hPv]; exact ⟨⟨_, _, rfl⟩, h1⟩) ?_ ?_ ?_
    · intro i σ H' _ hp
      rw [hPv] at hp
      exact .of hp.2
    · intro i v σ H2 hx hp
      rw [hPv] at hp
      obtain ⟨⟨v2, v3, rfl⟩, h2⟩ := hp
      rw [List.getElem?_map] at hx
      obtain ⟨c, hc, rfl⟩ := Option.map_eq_some_iff.mp hx
      subst hDD
      walk_at "kk"
      refine ⟨c, rfl, fun n H3 hb f3 => ?_⟩
      have h3 := f3 _ _ (by simp) h2
      walk_at "kk"
      refine ⟨n, rfl, ?_⟩
      split
      · refine isB_s (by unfold pFits; exact decide_eq_decide.mpr (by omega)) ?_
        walk_at "kk"
        refine ⟨n, rfl, n, rfl, isB_s rfl ?_⟩
        walk_at "kk"
        refine ⟨hb, fun H4 f4 => ⟨hb, fun H5 f5 => ?_⟩⟩
        rw [hPv]
        exact ⟨⟨_, _, rfl⟩, f5 _ _ (by simp) (f4 _ _ (by simp) h3)⟩
      · refine isB_s (by unfold pFits; exact decide_eq_false (by omega)) ?_
        walk_at "kk"
        refine ⟨n, rfl, n, rfl, isB_s rfl ?_⟩
        walk_at "kk"
        refine ⟨hb, fun H4 f4 => ⟨hb, fun H5 f5 => ?_⟩⟩
        rw [hPv]
        exact ⟨⟨_, _, rfl⟩, f5 _ _ (by simp) (f4 _ _ (by simp) h3)⟩
    · intro σ H2 hp
      rw [hPv] at hp
      obtain ⟨⟨v2, v3, rfl⟩, h2⟩ := hp
      subst hDD
      walk_at "kk"
      exact h _
end
end K00

set_option Elab.async false
set_option linter.all false
set_option maxRecDepth 100000
namespace K00
end K00
open PySem PySem.W PyProof.Rows
set_option maxRecDepth 100000 in
set_option maxHeartbeats 0 in
theorem PySem.Challenge.cw_kilnwarden_k00_words_back_and_forth_holds : PySem.Challenge.rw_kilnwarden_k00_words_back_and_forth.Holds := by
  w_on; o_law; k_head; (case hw => w_witness2)
  k_fill
  refine KW.walk63 (k := 4) (l := PySem.Challenge.rw_kilnwarden_k00_words_back_and_forth) (st := K00.s_law) rfl rfl rfl ⟨rfl, by decide, by decide⟩ (fun w h Y => PySem.W.kIn_of Y) (fun _ _ _ _ _ _ us hl => match us, hl with | [_], _ => rfl) ?F
  case F =>
    intro w mg h KX G
    have T : ∃ a : K00.Ads, K00.Txt PySem.Challenge.rw_kilnwarden_k00_words_back_and_forth.prog w (L2.KOf KX) mg a := by
      delta L2.KOf
      refine' K00.Txt.ex ?T
      case T =>
        constructor
        all_goals (try dsimp only)
        case g_KilnwardenError => refine' PySem.W.mg_of KX G ?za; (case za => k_is)
        case g_BadWord => refine' PySem.W.mg_of KX G ?za; (case za => k_is)
        case g_NoRoom => refine' PySem.W.mg_of KX G ?za; (case za => k_is)
        case e_BadWord =>
          refine' PySem.KErr_word.err_mk K00.s_BadWord_init KX G ?zaC ?zxL ?zbmv ?zsup ?zsa ?zno ?za1 ?zt1 ?zkC ?zeC ?zvC ?ztC ?zown ?ztp ?zdg ?znsup ?znstr ?zhst ?zl1 ?zc1 ?zmc ?zac ?zce ?zco ?zcf ?zcg ?ztop ?zhg ?zhk ?zhd ?zha ?zhn ?zht ?zhm
          (case zaC => k_is)
          (case zxL => k_is)
          (case zbmv => first | rfl | decide +kernel)
          (case zsup => ks_is)
          (case zsa => k_is)
          (case zno => k_is)
          (case za1 => k_is)
          (case zt1 => k_is)
          (case zkC => k_is)
          (case zeC => k_is)
          (case zvC => k_is)
          (case ztC => k_is)
          (case zown => k_is)
          (case ztp => k_is)
          (case zdg => k_is)
          (case znsup => k_is)
          (case znstr => k_is)
          (case zhst => exact ⟨rfl, rfl, rfl⟩)
          (case zl1 => k_is)
          (case zc1 => k_is)
          (case zmc => exact fun env => ⟨_, rfl⟩)
          (case zac => exact fun env => rfl)
          (case zce => k_is)
          (case zco => k_is)
          (case zcf => first | rfl | k_is)
          (case zcg => first | decide +kernel | k_is)
          (case ztop => first | decide +kernel | k_is)
          (case zhg => k_is)
          (case zhk => k_is)
          (case zhd => k_is)
          (case zha => k_is)
          (case zhn => k_is)
          (case zht => k_is)
          (case zhm => k_is)
        case x_BadWord_BadWord => refine' PySem.W.exm_ref ?za ?zb ?zc ?zd; (case za => k_is); (case zb => k_is); (case zc => k_is); (case zd => k_is)
        case i_BadWord_KilnwardenError => kit_is
        case i_BadWord_NoRoom => kit_is
        case i_BadWord_ValueError => kit_is
        case e_NoRoom =>
          refine' PySem.KErr_need.err_mk K00.s_NoRoom_init KX G ?zaC ?zxL ?zbmv ?zsup ?zsa ?zno ?za1 ?zt1 ?zkC ?zeC ?zvC ?ztC ?zown ?ztp ?zdg ?znsup ?znstr ?zhst ?zl1 ?zc1 ?zmc ?zac ?zce ?zco ?zcf ?zcg ?ztop ?zhg ?zhk ?zhd ?zha ?zhn ?zht ?zhm
          (case zaC => k_is)
          (case zxL => k_is)
          (case zbmv => first | rfl | decide +kernel)
          (case zsup => ks_is)
          (case zsa => k_is)
          (case zno => k_is)
          (case za1 => k_is)
          (case zt1 => k_is)
          (case zkC => k_is)
          (case zeC => k_is)
          (case zvC => k_is)
          (case ztC => k_is)
          (case zown => k_is)
          (case ztp => k_is)
          (case zdg => k_is)
          (case znsup => k_is)
          (case znstr => k_is)
          (case zhst => exact ⟨rfl, rfl, rfl⟩)
          (case zl1 => k_is)
          (case zc1 => k_is)
          (case zmc => exact fun env => ⟨_, rfl⟩)
          (case zac => exact fun env => rfl)
          (case zce => k_is)
          (case zco => k_is)
          (case zcf => first | rfl | k_is)
          (case zcg => first | decide +kernel | k_is)
          (case ztop => first | decide +kernel | k_is)
          (case zhg => k_is)
          (case zhk => k_is)
          (case zhd => k_is)
          (case zha => k_is)
          (case zhn => k_is)
          (case zht => k_is)
          (case zhm => k_is)
        case x_NoRoom_BadWord => refine' PySem.W.exm_ref ?za ?zb ?zc ?zd; (case za => k_is); (case zb => k_is); (case zc => k_is); (case zd => k_is)
        case i_NoRoom_KilnwardenError => kit_is
        case i_NoRoom_NoRoom => kit_is
        case i_NoRoom_ValueError => kit_is
        case dg => k_is
        case n_ValueError => exact PySem.W.mg_none_of KX G (by k_is)
        case n_bool => exact PySem.W.mg_none_of KX G (by k_is)
        case n_int => exact PySem.W.mg_none_of KX G (by k_is)
        case n_isinstance => exact PySem.W.mg_none_of KX G (by k_is)
        case n_range => exact PySem.W.mg_none_of KX G (by k_is)
        case g_NIL => refine' KW.gv_mk KX G ?za ?zr; (case za => k_is); (case zr => exact ⟨_, rfl⟩)
        case g_LEAST => refine' KW.gv_mk KX G ?za ?zr; (case za => k_is); (case zr => exact ⟨_, rfl⟩)
        case g_GREATEST => refine' KW.gv_mk KX G ?za ?zr; (case za => k_is); (case zr => exact ⟨_, rfl⟩)
        case g_MOST => refine' KW.gv_mk KX G ?za ?zr; (case za => k_is); (case zr => exact ⟨_, rfl⟩)
        case d_fits => refine' KW.defAt_mk KX G ?za ?zl ?zc ?zk ?zb; (case za => k_is); (case zl => k_is); (case zc => k_is); (case zk => k_is); (case zb => exact fun _ _ _ _ _ _ us hl => match us, hl with | [_], _ => rfl)
        case d_of_int => refine' KW.defAt_mk KX G ?za ?zl ?zc ?zk ?zb; (case za => k_is); (case zl => k_is); (case zc => k_is); (case zk => k_is); (case zb => exact fun _ _ _ _ _ _ us hl => match us, hl with | [_], _ => rfl)
        case d_of_symbol => refine' KW.defAt_mk KX G ?za ?zl ?zc ?zk ?zb; (case za => k_is); (case zl => k_is); (case zc => k_is); (case zk => k_is); (case zb => exact fun _ _ _ _ _ _ us hl => match us, hl with | [_], _ => rfl)
        case d_of_ref => refine' KW.defAt_mk KX G ?za ?zl ?zc ?zk ?zb; (case za => k_is); (case zl => k_is); (case zc => k_is); (case zk => k_is); (case zb => exact fun _ _ _ _ _ _ us hl => match us, hl with | [_], _ => rfl)
        case d_is_int => refine' KW.defAt_mk KX G ?za ?zl ?zc ?zk ?zb; (case za => k_is); (case zl => k_is); (case zc => k_is); (case zk => k_is); (case zb => exact fun _ _ _ _ _ _ us hl => match us, hl with | [_], _ => rfl)
        case d_is_symbol => refine' KW.defAt_mk KX G ?za ?zl ?zc ?zk ?zb; (case za => k_is); (case zl => k_is); (case zc => k_is); (case zk => k_is); (case zb => exact fun _ _ _ _ _ _ us hl => match us, hl with | [_], _ => rfl)
        case d_is_ref => refine' KW.defAt_mk KX G ?za ?zl ?zc ?zk ?zb; (case za => k_is); (case zl => k_is); (case zc => k_is); (case zk => k_is); (case zb => exact fun _ _ _ _ _ _ us hl => match us, hl with | [_], _ => rfl)
        case d_int_of => refine' KW.defAt_mk KX G ?za ?zl ?zc ?zk ?zb; (case za => k_is); (case zl => k_is); (case zc => k_is); (case zk => k_is); (case zb => exact fun _ _ _ _ _ _ us hl => match us, hl with | [_], _ => rfl)
        case d_symbol_of => refine' KW.defAt_mk KX G ?za ?zl ?zc ?zk ?zb; (case za => k_is); (case zl => k_is); (case zc => k_is); (case zk => k_is); (case zb => exact fun _ _ _ _ _ _ us hl => match us, hl with | [_], _ => rfl)
        case d_ref_of => refine' KW.defAt_mk KX G ?za ?zl ?zc ?zk ?zb; (case za => k_is); (case zl => k_is); (case zc => k_is); (case zk => k_is); (case zb => exact fun _ _ _ _ _ _ us hl => match us, hl with | [_], _ => rfl)
        case d_is_word => refine' KW.defAt_mk KX G ?za ?zl ?zc ?zk ?zb; (case za => k_is); (case zl => k_is); (case zc => k_is); (case zk => k_is); (case zb => exact fun _ _ _ _ _ _ us hl => match us, hl with | [_], _ => rfl)
        case d__law_integer => refine' KW.defAt_mk KX G ?za ?zl ?zc ?zk ?zb; (case za => k_is); (case zl => k_is); (case zc => k_is); (case zk => k_is); (case zb => exact fun _ _ _ _ _ _ us hl => match us, hl with | [_], _ => rfl)
        case d__law_is => refine' KW.defAt_mk KX G ?za ?zl ?zc ?zk ?zb; (case za => k_is); (case zl => k_is); (case zc => k_is); (case zk => k_is); (case zb => exact fun _ _ _ _ _ _ us hl => match us, hl with | [_, _], _ => rfl)
        case d__law_error => refine' KW.defAt_mk KX G ?za ?zl ?zc ?zk ?zb; (case za => k_is); (case zl => k_is); (case zc => k_is); (case zk => k_is); (case zb => exact fun _ _ _ _ _ _ us hl => match us, hl with | [_, _], _ => rfl)
        case d__law_made => refine' KW.defAt_mk KX G ?za ?zl ?zc ?zk ?zb; (case za => k_is); (case zl => k_is); (case zc => k_is); (case zk => k_is); (case zb => exact fun _ _ _ _ _ _ us hl => match us, hl with | [_], _ => rfl)
        case d__law_read => refine' KW.defAt_mk KX G ?za ?zl ?zc ?zk ?zb; (case za => k_is); (case zl => k_is); (case zc => k_is); (case zk => k_is); (case zb => exact fun _ _ _ _ _ _ us hl => match us, hl with | [_], _ => rfl)
        case d__law_is_word => refine' KW.defAt_mk KX G ?za ?zl ?zc ?zk ?zb; (case za => k_is); (case zl => k_is); (case zc => k_is); (case zk => k_is); (case zb => exact fun _ _ _ _ _ _ us hl => match us, hl with | [_], _ => rfl)
        case d_law => refine' KW.defAt_mk KX G ?za ?zl ?zc ?zk ?zb; (case za => k_is); (case zl => k_is); (case zc => k_is); (case zk => k_is); (case zb => exact fun _ _ _ _ _ _ us hl => match us, hl with | [_], _ => rfl)
    obtain ⟨a, T⟩ := T
    exact ⟨T.d_law, fun base f fd F => K00.ok_law T f fd F⟩
#print axioms PySem.Challenge.cw_kilnwarden_k00_words_back_and_forth_holds
