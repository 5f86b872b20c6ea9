import PyProof.Rows.All
import Wide.All
import OpenK.AllK
import HandS.ExcCtx
import HandS.HotCalls
import Wide.FinOn
import HandS.Call
import HandS.List
import HandS.Ends
import HandS.Words
import HandS.Exc
import HandS.ExcOwn
import HandS.TryOnly
import HandS.Text
import HandS.Codes
import HandS.Style
import HandS.IsInst
import HandS.Wide
import KE.KExcSuper
import HandS.ExcField
import HandS.ExcIs
import HandS.TryMany
import HandS.Defaults
import HandS.Dict
import HandS.BoundDict
import HandS.NoneIn
import HandS.Flow
import HandS.WideBits
import HandS.Conv
import HandS.SortInts
import HandS.RaiseMore
import KE.RegKIsAll
import HandS.Comp
import HandS.More
import HandS.Iter
import HandS.TupAny
import HandS.Flt
import HandS.WordsDict
import HandS.ExcInit
import PySem.Challenge.RW_kilnwarden_k17_many_locals
set_option Elab.async false
set_option linter.all false
set_option maxRecDepth 100000
set_option maxHeartbeats 2000000
/-! Kw: universal readings over HandS: one rule a construct, whatever the kinds of its parts are; the readings go by cases of the values and so reduce by simp. -/
namespace KW
open PySem PySem.Spec PyProof.Rows L2
abbrev Frag := PySem.W.Frag
abbrev S (l : List Nat) : Str := SX.S l

section
variable {X : Cx}
theorem PEw {e : Expr} {t t' : TE} (h : PE X e t) (w : ∀ σ H Q, t' σ H Q → t σ H Q) : PE X e t' := ⟨fun pins s σ H Q I q => h.run pins s σ H Q I (w σ H Q q)⟩
theorem PTw {e : Expr} {t t' : TT} (h : PT X e t) (w : ∀ σ H Q, t' σ H Q → t σ H Q) : PT X e t' := ⟨fun pins s σ H Q I q => h.run pins s σ H Q I (w σ H Q q)⟩
theorem PSw {st : Stmt} {t t' : TS} (h : PS X st t) (w : ∀ D σ H, t' D σ H → t D σ H) : PS X st t' := ⟨fun pins s σ H D I q => h.run pins s σ H D I (w D σ H q)⟩
theorem OpRw {f : Value → Value → Sem Value} {r r' : R2} (h : OpR X f r) (w : ∀ x y H Q, r' x y H Q → r x y H Q) : OpR X f r' := fun pins s σ H x y v u Q I rx ry q => h pins s σ H x y v u Q I rx ry (w _ _ _ _ q)
theorem UnRw {f : Value → Sem Value} {r r' : V → Hp → VK → Prop} (h : UnR X f r) (w : ∀ x H Q, r' x H Q → r x H Q) : UnR X f r' := fun pins s σ H x v Q I rx q => h pins s σ H x v Q I rx (w _ _ _ q)
theorem CallRw {f : Value} {r r' : List V → Hp → VK → Prop} (h : CallR X f r) (w : ∀ xs H Q, r' xs H Q → r xs H Q) : CallR X f r' := fun pins s σ H xs us Q I rx q => h pins s σ H xs us Q I rx (w _ _ _ q)
theorem IxRw {r r' : R2} (h : IxR X r) (w : ∀ x y H Q, r' x y H Q → r x y H Q) : IxR X r' := fun a b pins s σ H x y v u Q I rx ry q => h a b pins s σ H x y v u Q I rx ry (w _ _ _ _ q)
theorem SlRw {r r' : V → Option Int → Option Int → Hp → VK → Prop} (h : SlR X r) (w : ∀ x l u H Q, r' x l u H Q → r x l u H Q) : SlR X r' := fun pins s σ H x v vl vu lo hi sl Q I rx a b c q => h pins s σ H x v vl vu lo hi sl Q I rx a b c (w _ _ _ _ _ q)

/-! ### names -/
def uVar (i : Nat) : TE := fun σ H Q => match σ[i]? with
  | some (some v) => Q v H
  | _ => False
theorem kv (i : Nat) {x : Str} {pos : Pos} (hN : X.N[i]? = some x := by rfl) (hv : Vis X.env.scope x := by first | exact Or.inl rfl | exact Or.inr (Or.inl rfl) | exact Or.inr (Or.inr rfl)) (hd : (x == ("__debug__" : Str)) = false := by decide)
    (hcd : (x == ("__classdict__" : Str)) = false := by decide) : PE X (.Name x pos) (uVar i) := PEw (pe_var hN hv hd hcd) fun σ H Q h => by
  unfold uVar at h
  split at h
  · rename_i v e
    exact ⟨v, e, h⟩
  · exact h.elim

/-! ### operators -/
def uAdd (K : Frag) : R2
  | .int i, .int j, H, Q => Q (.int (i + j)) H
  | .str i, .str j, H, Q => i.length + j.length ≤ sizeLine ∧ Q (.str (i ++ j)) H
  | .ref a, .ref b, H, Q => rCat (.ref a) (.ref b) H Q ∨ rCatT K (.ref a) (.ref b) H Q
  | _, _, _, _ => False
theorem o_add : OpR X (binaryOp .Add) (uAdd X.K) := OpRw (op_add.or (op_add_str.or (op_cat.or op_catT))) fun x y H Q h => by
  unfold uAdd at h
  split at h
  · exact .inl ⟨_, _, rfl, rfl, h⟩
  · exact .inr (.inl ⟨_, _, rfl, rfl, h⟩)
  · exact .inr (.inr h)
  · exact h.elim
def uSub : R2
  | .int i, .int j, H, Q => Q (.int (i - j)) H
  | _, _, _, _ => False
theorem o_sub : OpR X (binaryOp .Sub) uSub := OpRw op_sub fun x y H Q h => by
  unfold uSub at h
  split at h
  · exact ⟨_, _, rfl, rfl, h⟩
  · exact h.elim
def uMul : R2
  | .int i, .int j, H, Q => (CMul i j ∨ CMulW i j) ∧ Q (.int (i * j)) H
  | .ref l, .int k, H, Q => rRep (.ref l) (.int k) H Q
  | _, _, _, _ => False
theorem o_mul : OpR X (binaryOp .Mult) uMul := OpRw (op_mul.or (op_mulW.or op_rep)) fun x y H Q h => by
  unfold uMul at h
  split at h
  · obtain ⟨c | c, h⟩ := h
    · exact .inl ⟨_, _, rfl, rfl, c, h⟩
    · exact .inr (.inl ⟨_, _, rfl, rfl, c, h⟩)
  · exact .inr (.inr h)
  · exact h.elim
def uMod : R2
  | .int i, .int j, H, Q => 0 < j ∧ Q (.int (i % j)) H
  | _, _, _, _ => False
theorem o_mod : OpR X (binaryOp .Mod) uMod := OpRw op_mod fun x y H Q h => by
  unfold uMod at h
  split at h
  · exact ⟨_, _, rfl, rfl, h⟩
  · exact h.elim
def uDiv : R2
  | .int i, .int j, H, Q => (CDiv i j ∨ CDivW i j) ∧ Q (.int (i / j)) H
  | _, _, _, _ => False
theorem o_fdiv : OpR X (binaryOp .FloorDiv) uDiv := OpRw (op_fdiv.or op_fdivW) fun x y H Q h => by
  unfold uDiv at h
  split at h
  · obtain ⟨c | c, h⟩ := h
    · exact .inl ⟨_, _, rfl, rfl, c, h⟩
    · exact .inr ⟨_, _, rfl, rfl, c, h⟩
  · exact h.elim
def uPow : R2
  | .int i, .int j, H, Q => CPow i j ∧ Q (.int (i ^ j.toNat)) H
  | _, _, _, _ => False
theorem o_pow : OpR X (binaryOp .Pow) uPow := OpRw op_pow fun x y H Q h => by
  unfold uPow at h
  split at h
  · exact ⟨_, _, rfl, rfl, h⟩
  · exact h.elim
def uShl : R2
  | .int i, .int j, H, Q => CPow i j ∧ Q (.int (i * 2 ^ j.toNat)) H
  | _, _, _, _ => False
theorem o_shl : OpR X (binaryOp .LShift) uShl := OpRw op_shl fun x y H Q h => by
  unfold uShl at h
  split at h
  · exact ⟨_, _, rfl, rfl, h⟩
  · exact h.elim
def uNeg : V → Hp → VK → Prop
  | .int i, H, Q => Q (.int (-i)) H
  | _, _, _ => False
theorem o_neg : UnR X (unaryOp .USub) uNeg := UnRw un_neg fun x H Q h => by
  unfold uNeg at h
  split at h
  · exact ⟨_, rfl, h⟩
  · exact h.elim
/-- in place: ints and texts; a list is lengthened -/
def uIAdd : R2
  | .int i, .int j, H, Q => Q (.int (i + j)) H
  | .str i, .str j, H, Q => i.length + j.length ≤ sizeLine ∧ Q (.str (i ++ j)) H
  | .ref a, .ref b, H, Q => rExt2 (.ref a) (.ref b) H Q
  | _, _, _, _ => False
theorem o_iadd : OpR X (inplaceOp .Add) uIAdd := OpRw (iop_add.or (iop_add_str.or iop_ext)) fun x y H Q h => by
  unfold uIAdd at h
  split at h
  · exact .inl ⟨_, _, rfl, rfl, h⟩
  · exact .inr (.inl ⟨_, _, rfl, rfl, h⟩)
  · exact .inr (.inr h)
  · exact h.elim
def uISub : R2
  | .int i, .int j, H, Q => Q (.int (i - j)) H
  | _, _, _, _ => False
theorem o_isub : OpR X (inplaceOp .Sub) uISub := OpRw iop_sub fun x y H Q h => by
  unfold uISub at h
  split at h
  · exact ⟨_, _, rfl, rfl, h⟩
  · exact h.elim

/-! ### comparisons -/
def uLt : R2
  | .int i, .int j, H, Q => Q (.bl (decide (i < j))) H
  | .str i, .str j, H, Q => Q (.bl (decide (i.cps.toList < j.cps.toList))) H
  | _, _, _, _ => False
theorem o_lt : OpR X (compareOp .Lt) uLt := OpRw (op_lt.or op_lt_str) fun x y H Q h => by
  unfold uLt at h
  split at h
  · exact .inl ⟨_, _, rfl, rfl, h⟩
  · exact .inr ⟨_, _, rfl, rfl, h⟩
  · exact h.elim
def uLe : R2
  | .int i, .int j, H, Q => Q (.bl (decide (i ≤ j))) H
  | _, _, _, _ => False
theorem o_le : OpR X (compareOp .LtE) uLe := OpRw op_le fun x y H Q h => by
  unfold uLe at h
  split at h
  · exact ⟨_, _, rfl, rfl, h⟩
  · exact h.elim
def uGt : R2
  | .int i, .int j, H, Q => Q (.bl (decide (j < i))) H
  | _, _, _, _ => False
theorem o_gt : OpR X (compareOp .Gt) uGt := OpRw op_gt fun x y H Q h => by
  unfold uGt at h
  split at h
  · exact ⟨_, _, rfl, rfl, h⟩
  · exact h.elim
def uGe : R2
  | .int i, .int j, H, Q => Q (.bl (decide (j ≤ i))) H
  | _, _, _, _ => False
theorem o_ge : OpR X (compareOp .GtE) uGe := OpRw op_ge fun x y H Q h => by
  unfold uGe at h
  split at h
  · exact ⟨_, _, rfl, rfl, h⟩
  · exact h.elim
def uEq (K : Frag) : R2
  | .int i, .int j, H, Q => Q (.bl (decide (i = j))) H
  | .str i, .str j, H, Q => Q (.bl (decide (i = j))) H
  | .bl i, .bl j, H, Q => Q (.bl (decide (i = j))) H
  | .non, .non, H, Q => Q (.bl true) H
  | .int _, .str _, H, Q => Q (.bl false) H
  | .str _, .int _, H, Q => Q (.bl false) H
  | .int _, .non, H, Q => Q (.bl false) H
  | .non, .int _, H, Q => Q (.bl false) H
  | .str _, .non, H, Q => Q (.bl false) H
  | .non, .str _, H, Q => Q (.bl false) H
  | .ref a, .ref b, H, Q => rEqD K (.ref a) (.ref b) H Q
  | _, _, _, _ => False
theorem o_eq (hu : X.A.units + 64 < cLine) : OpR X (compareOp .Eq) (uEq X.K) := OpRw (op_eq.or (op_eqD hu)) fun x y H Q h => by
  unfold uEq at h
  split at h <;> first
    | exact .inl ⟨rfl, by simpa using h⟩
    | exact .inr h
    | exact h.elim
def uNe (K : Frag) : R2
  | .int i, .int j, H, Q => Q (.bl (!decide (i = j))) H
  | .str i, .str j, H, Q => Q (.bl (!decide (i = j))) H
  | .bl i, .bl j, H, Q => Q (.bl (!decide (i = j))) H
  | .non, .non, H, Q => Q (.bl false) H
  | .int _, .str _, H, Q => Q (.bl true) H
  | .str _, .int _, H, Q => Q (.bl true) H
  | .int _, .non, H, Q => Q (.bl true) H
  | .non, .int _, H, Q => Q (.bl true) H
  | .str _, .non, H, Q => Q (.bl true) H
  | .non, .str _, H, Q => Q (.bl true) H
  | .ref a, .ref b, H, Q => rNeD K (.ref a) (.ref b) H Q
  | _, _, _, _ => False
theorem o_ne (hu : X.A.units + 64 < cLine) : OpR X (compareOp .NotEq) (uNe X.K) := OpRw (op_ne.or (op_neD hu)) fun x y H Q h => by
  unfold uNe at h
  split at h <;> first
    | exact .inl ⟨rfl, by simpa using h⟩
    | exact .inr h
    | exact h.elim
/-- is, is not: None and bools on the right -/
theorem op_isIB : OpR X (compareOp .Is) (fun x y H Q => (∃ i b, x = V.int i ∧ y = V.bl b) ∧ Q (.bl false) H) := by
  intro pins s σ H x y v u Q I rx ry h
  obtain ⟨⟨i, b, rfl, rfl⟩, q⟩ := h
  obtain ⟨t, rfl⟩ := rx
  cases (show u = Value.bool b from ry)
  exact wpAny_is_other rfl (fun z => nomatch z) ⟨.bl false, H, I, rfl, q⟩
def uIs : R2
  | .non, .non, H, Q => Q (.bl true) H
  | .int _, .non, H, Q => Q (.bl false) H
  | .str _, .non, H, Q => Q (.bl false) H
  | .ref _, .non, H, Q => Q (.bl false) H
  | .bl _, .non, H, Q => Q (.bl false) H
  | .bl a, .bl b, H, Q => Q (.bl (decide (a = b))) H
  | .int _, .bl _, H, Q => Q (.bl false) H
  | _, _, _, _ => False
theorem o_is : OpR X (compareOp .Is) uIs := OpRw (op_isN.or (op_isBl.or op_isIB)) fun x y H Q h => by
  unfold uIs at h
  split at h <;> first
    | exact .inl ⟨rfl, by simpa using h⟩
    | exact .inr (.inl ⟨_, _, rfl, rfl, h⟩)
    | exact .inr (.inr ⟨⟨_, _, rfl, rfl⟩, h⟩)
    | exact h.elim
def uNotIs : R2
  | .non, .non, H, Q => Q (.bl false) H
  | .int _, .non, H, Q => Q (.bl true) H
  | .str _, .non, H, Q => Q (.bl true) H
  | .ref _, .non, H, Q => Q (.bl true) H
  | .bl _, .non, H, Q => Q (.bl true) H
  | .bl a, .bl b, H, Q => Q (.bl (!decide (a = b))) H
  | _, _, _, _ => False
theorem o_isnot : OpR X (compareOp .IsNot) uNotIs := OpRw (op_notN.or op_notBl) fun x y H Q h => by
  unfold uNotIs at h
  split at h <;> first
    | exact .inl ⟨rfl, by simpa using h⟩
    | exact .inr ⟨_, _, rfl, rfl, h⟩
    | exact h.elim
/-- one text within another -/
def subStr (i j : Str) : Bool := !(Builtin.Str.occurrences j i 0 j.length 1).isEmpty
theorem subStr_one (c : Nat) (a : List Nat) : subStr (S [c]) (S a) = decide (c ∈ a) := SX.in_one a c
def uIn (K : Frag) : R2
  | .str i, .str j, H, Q => Q (.bl (subStr i j)) H
  | .int i, .ref p, H, Q => rIn K false (.int i) (.ref p) H Q
  | .str i, .ref p, H, Q => rIn K false (.str i) (.ref p) H Q
  | .non, .ref p, H, Q => rIn K false .non (.ref p) H Q
  | _, _, _, _ => False
theorem o_in : OpR X (compareOp .In) (uIn X.K) := OpRw (op_in_str.or op_in_seq) fun x y H Q h => by
  unfold uIn at h
  split at h <;> first
    | exact .inl ⟨_, _, rfl, rfl, h⟩
    | exact .inr h
    | exact h.elim
def uNotIn (K : Frag) : R2
  | .str i, .str j, H, Q => Q (.bl (!subStr i j)) H
  | .int i, .ref p, H, Q => rIn K true (.int i) (.ref p) H Q
  | .str i, .ref p, H, Q => rIn K true (.str i) (.ref p) H Q
  | .non, .ref p, H, Q => rIn K true .non (.ref p) H Q
  | _, _, _, _ => False
theorem o_notin : OpR X (compareOp .NotIn) (uNotIn X.K) := OpRw (op_notin_str.or op_notIn_seq) fun x y H Q h => by
  unfold uNotIn at h
  split at h <;> first
    | exact .inl ⟨_, _, rfl, rfl, h⟩
    | exact .inr h
    | exact h.elim

/-! ### tests -/
def uTru (K : Frag) : V → Hp → (Bool → Prop) → Prop
  | .non, _, k => k false
  | .bl b, _, k => k b
  | .int i, _, k => k (i != 0)
  | .str y, _, k => y.length ≤ sizeLine ∧ k ((y.length : Int) != 0)
  | .ref p, H, k => ∃ b, TruV K (.ref p) H b ∧ k b
  | _, _, _ => False
def uTest (K : Frag) (t : TE) : TT := fun σ H Q => t σ H fun x H1 => uTru K x H1 fun b => Q b H1
theorem kt {e : Expr} {t : TE} (h : PE X e t) (he : ∀ whole, isTrue e X.env whole = (do let v ← whole; standAt e.pos; holding [v] (truthy v)) := by intro _; rfl) : PT X e (uTest X.K t) := by
  refine ⟨fun pins s σ H Q I hq => ?_⟩
  refine isTrue_plain (thn (h.run pins s σ H _ I hq) fun v s1 ⟨x, H1, I1, r1, q1⟩ => tru_ok pins s1 σ H1 x v Q I1 r1 ?_) (he _)
  cases x with
  | non => exact ⟨false, rfl, q1⟩
  | bl b => exact ⟨b, rfl, q1⟩
  | int i => exact ⟨_, rfl, q1⟩
  | str y => exact ⟨_, ⟨q1.1, rfl⟩, q1.2⟩
  | ref p => exact q1
  | _ => exact False.elim q1

/-! ### subscripts -/
def uIx (K : Frag) : R2
  | .ref p, .int i, H, Q => ∃ xs v, (SqL K H p xs ∨ SqT K H p xs) ∧ atI xs i = some v ∧ Q v H
  | .str z, .int i, H, Q => z.length ≤ sizeLine ∧ ∃ c, atI z.cps.toList i = some c ∧ Q (.str (S [c])) H
  | _, _, _, _ => False
theorem o_ix : IxR X (uIx X.K) := IxRw ix_seq fun x y H Q h => by
  unfold uIx at h
  split at h
  · obtain ⟨xs, v, hs | hs, e, q⟩ := h
    · exact .inl ⟨_, xs, _, v, rfl, rfl, hs, e, q⟩
    · exact .inr (.inl ⟨_, xs, _, v, rfl, rfl, hs, e, q⟩)
  · obtain ⟨hz, c, e, q⟩ := h
    exact .inr (.inr ⟨_, _, c, rfl, rfl, hz, e, q⟩)
  · exact h.elim
def uSl (K : Frag) : V → Option Int → Option Int → Hp → VK → Prop
  | .ref a, lo, hi, H, Q => rSlL K (.ref a) lo hi H Q ∨ rSlT K (.ref a) lo hi H Q
  | .str z, lo, hi, H, Q => z.length ≤ sizeLine ∧ Q (.str (cutS z lo hi)) H
  | _, _, _, _, _ => False
theorem o_sl : SlR X (uSl X.K) := SlRw (sl_list.or (sl_tup.or sl_str)) fun x lo hi H Q h => by
  unfold uSl at h
  split at h
  · exact h.elim .inl fun z => .inr (.inl z)
  · exact .inr (.inr ⟨_, rfl, h.1, h.2⟩)
  · exact h.elim
theorem S_len (a : List Nat) : (S a).length = a.length := SX.S_len a
theorem S_nil : (S []).length = 0 := rfl
theorem S_tl (x : Str) : S x.cps.toList = x := SX.S_tl x
theorem cps_S (a : List Nat) : (S a).cps.toList = a := rfl
theorem S_cat (a b : List Nat) : S a ++ S b = S (a ++ b) := SX.S_cat a b
theorem S_inj {a b : List Nat} : S a = S b ↔ a = b := ⟨SX.S_inj, fun h => congrArg S h⟩
theorem cutS_S (a : List Nat) (i j : Nat) : cutS (S a) (some (i : Int)) (some (j : Int)) = S ((a.drop i).take (j - i)) := by
  unfold cutS
  rw [HT.sIx_nat, HT.sIx_nat, cps_S]
  have e : (S a).length = a.length := S_len a
  rw [e]
  refine congrArg S ?_
  rw [show a.drop (min i a.length) = a.drop i by
    by_cases h : i ≤ a.length
    · rw [Nat.min_eq_left h]
    · rw [Nat.min_eq_right (by omega), List.drop_length, List.drop_eq_nil_of_le (by omega)]]
  refine List.take_eq_take_iff.mpr ?_
  rw [List.length_drop]
  omega

/-! ### calls of built-ins -/
def uLen (K : Frag) : List V → Hp → VK → Prop
  | [.str y], H, Q => y.length ≤ sizeLine ∧ Q (.int y.length) H
  | [.ref p], H, Q => ∃ xs, (SqL K H p xs ∨ SqT K H p xs) ∧ Q (.int xs.length) H
  | _, _, _ => False
theorem c_len : CallR X (.builtin "len") (uLen X.K) := CallRw call_len fun xs H Q h => by
  unfold uLen at h
  split at h
  · exact ⟨_, _, rfl, ⟨h.1, rfl⟩, h.2⟩
  · obtain ⟨xs, hs | hs, q⟩ := h
    · exact ⟨_, _, rfl, .inl ⟨xs, hs, rfl⟩, q⟩
    · exact ⟨_, _, rfl, .inr ⟨xs, hs, rfl⟩, q⟩
  · exact h.elim
def uAbs : List V → Hp → VK → Prop
  | [.int i], H, Q => Q (.int (if i < 0 then -i else i)) H
  | _, _, _ => False
theorem c_abs : CallR X (.builtin "abs") uAbs := CallRw call_abs fun xs H Q h => by
  unfold uAbs at h
  split at h
  · exact ⟨_, rfl, h⟩
  · exact h.elim
def uInt : List V → Hp → VK → Prop
  | [.int i], H, Q => Q (.int i) H
  | [.bl k], H, Q => Q (.int (if k then 1 else 0)) H
  | _, _, _ => False
theorem c_int : CallR X (.type "int") uInt := CallRw call_int1 fun xs H Q h => by
  unfold uInt at h
  split at h
  · exact .inl ⟨_, rfl, h⟩
  · exact .inr ⟨_, rfl, h⟩
  · exact h.elim
def uMin2 : List V → Hp → VK → Prop
  | [.int i, .int j], H, Q => Q (.int (if j < i then j else i)) H
  | _, _, _ => False
theorem c_min2 (hc : X.calm = true) : CallR X (.builtin "min") uMin2 := CallRw (call_min2 hc) fun xs H Q h => by
  unfold uMin2 at h
  split at h
  · exact ⟨_, _, rfl, h⟩
  · exact h.elim
/-- isinstance against a built-in type -/
def isK (a b : String) : Bool := match kitB a b with
  | some r => r
  | none => false
def isOk (a b : String) : Bool := (kitB a b).isSome
theorem isK_of {a b : String} (h : isOk a b = true) {K : Frag} : PySem.W.kitOne K (.type a) (.type b) = some (isK a b) := by
  refine kit_ty ?_
  unfold isOk at h
  unfold isK
  cases e : kitB a b with
  | none => rw [e] at h; cases h
  | some r => rfl
def uIsi (K : Frag) : List V → Hp → VK → Prop
  | [.non, .ty n], H, Q => isOk "NoneType" n = true ∧ Q (.bl (isK "NoneType" n)) H
  | [.bl _, .ty n], H, Q => isOk "bool" n = true ∧ Q (.bl (isK "bool" n)) H
  | [.int _, .ty n], H, Q => isOk "int" n = true ∧ Q (.bl (isK "int" n)) H
  | [.str _, .ty n], H, Q => isOk "str" n = true ∧ Q (.bl (isK "str" n)) H
  | [.ref p, .ty n], H, Q => ∃ T, TyX K H (.ref p) (.type T) ∧ isOk T n = true ∧ Q (.bl (isK T n)) H
  | _, _, _ => False
theorem c_isi : CallR X (.builtin "isinstance") (uIsi X.K) := CallRw call_isi fun xs H Q h => by
  unfold uIsi at h
  split at h
  · exact ⟨_, _, _, _, _, rfl, .ty _, .base .non, isK_of h.1, h.2⟩
  · exact ⟨_, _, _, _, _, rfl, .ty _, .base (.bl _), isK_of h.1, h.2⟩
  · exact ⟨_, _, _, _, _, rfl, .ty _, .base (.int _), isK_of h.1, h.2⟩
  · exact ⟨_, _, _, _, _, rfl, .ty _, .base (.str _), isK_of h.1, h.2⟩
  · obtain ⟨T, ty, o, q⟩ := h
    exact ⟨_, _, _, _, _, rfl, .ty _, ty, isK_of o, q⟩
  · exact h.elim
theorem isK_int_int : isK "int" "int" = true := by decide +kernel
theorem isK_int_bool : isK "int" "bool" = false := by decide +kernel
theorem isK_int_str : isK "int" "str" = false := by decide +kernel
theorem isK_int_list : isK "int" "list" = false := by decide +kernel
theorem isK_int_tuple : isK "int" "tuple" = false := by decide +kernel
theorem isK_bool_int : isK "bool" "int" = true := by decide +kernel
theorem isK_bool_bool : isK "bool" "bool" = true := by decide +kernel
theorem isK_bool_str : isK "bool" "str" = false := by decide +kernel
theorem isK_str_str : isK "str" "str" = true := by decide +kernel
theorem isK_str_int : isK "str" "int" = false := by decide +kernel
theorem isK_str_bool : isK "str" "bool" = false := by decide +kernel
theorem isK_str_tuple : isK "str" "tuple" = false := by decide +kernel
theorem isK_str_list : isK "str" "list" = false := by decide +kernel
theorem isK_list_list : isK "list" "list" = true := by decide +kernel
theorem isK_list_tuple : isK "list" "tuple" = false := by decide +kernel
theorem isK_tuple_tuple : isK "tuple" "tuple" = true := by decide +kernel
theorem isK_tuple_list : isK "tuple" "list" = false := by decide +kernel
theorem isK_dict_dict : isK "dict" "dict" = true := by decide +kernel
theorem isK_none_int : isK "NoneType" "int" = false := by decide +kernel
theorem isK_none_bool : isK "NoneType" "bool" = false := by decide +kernel
theorem isOk_int_int : isOk "int" "int" = true := by decide +kernel
theorem isOk_int_bool : isOk "int" "bool" = true := by decide +kernel
theorem isOk_int_str : isOk "int" "str" = true := by decide +kernel
theorem isOk_int_list : isOk "int" "list" = true := by decide +kernel
theorem isOk_int_tuple : isOk "int" "tuple" = true := by decide +kernel
theorem isOk_bool_int : isOk "bool" "int" = true := by decide +kernel
theorem isOk_bool_bool : isOk "bool" "bool" = true := by decide +kernel
theorem isOk_bool_str : isOk "bool" "str" = true := by decide +kernel
theorem isOk_str_str : isOk "str" "str" = true := by decide +kernel
theorem isOk_str_int : isOk "str" "int" = true := by decide +kernel
theorem isOk_str_bool : isOk "str" "bool" = true := by decide +kernel
theorem isOk_str_tuple : isOk "str" "tuple" = true := by decide +kernel
theorem isOk_str_list : isOk "str" "list" = true := by decide +kernel
theorem isOk_list_list : isOk "list" "list" = true := by decide +kernel
theorem isOk_list_tuple : isOk "list" "tuple" = true := by decide +kernel
theorem isOk_tuple_tuple : isOk "tuple" "tuple" = true := by decide +kernel
theorem isOk_tuple_list : isOk "tuple" "list" = true := by decide +kernel
theorem isOk_dict_dict : isOk "dict" "dict" = true := by decide +kernel
theorem isOk_none_int : isOk "NoneType" "int" = true := by decide +kernel
theorem isOk_none_bool : isOk "NoneType" "bool" = true := by decide +kernel
end

/-! ### loops -/
/-- the loop itself, behind the making of its iterator: not opened by simp -/
def forK (J : It) (g : TG) (tb : TS) (D : Ends) (σ : L2.St) (H : Hp) : Prop :=
  ∃ W : Nat → Nat → L2.St → Hp → Prop, (∃ m, W 0 m σ H) ∧ ∀ i m σ H, W i m σ H →
    (J.stop i H ∧ D.nx σ H) ∨ (J.go i H ∧ ∃ N : L2.St → Hp → Prop, (∀ σ' H', N σ' H' → ∃ m', m' < m ∧ W (i + 1) m' σ' H') ∧ ∀ x H', J.yld i H x H' → g x σ H' fun σ2 H2 => tb { D with nx := N, ct := N, bk := D.nx } σ2 H2)
def uFor (wi : TI) (g : TG) (tb : TS) : TS := fun D σ H => wi σ H fun J H1 => forK J g tb D σ H1
theorem for_rng {lo : Int} {n : Nat} {g : TG} {tb : TS} {D : Ends} {σ : L2.St} {H : Hp} (Pv : Nat → L2.St → Hp → Prop) (h0 : Pv 0 σ H)
    (hs : ∀ i σ H, i < n → Pv i σ H → g (.int (lo + i)) σ H fun σ2 H2 => tb { D with nx := Pv (i + 1), ct := Pv (i + 1), bk := D.nx } σ2 H2) (hd : ∀ σ H, Pv n σ H → D.nx σ H) : forK (Itr lo n) g tb D σ H := for_range Pv h0 hs hd
theorem for_lst {K : Frag} {a : Addr} {xs : List V} {g : TG} {tb : TS} {D : Ends} {σ : L2.St} {H : Hp} (Pv : Nat → L2.St → Hp → Prop) (h0 : Pv 0 σ H) (hl : ∀ i σ H, i ≤ xs.length → Pv i σ H → SqL K H a xs)
    (hs : ∀ i x σ H, xs[i]? = some x → Pv i σ H → g x σ H fun σ2 H2 => tb { D with nx := Pv (i + 1), ct := Pv (i + 1), bk := D.nx } σ2 H2) (hd : ∀ σ H, Pv xs.length σ H → D.nx σ H) : forK (Itl K a) g tb D σ H := for_list Pv h0 hl hs hd
/-- while: what holds, by a measure -/
def uWhile (c : TT) (tb : TS) : TS := fun D σ H => ∃ W : Nat → L2.St → Hp → Prop, (∃ m, W m σ H) ∧ ∀ m σ H, W m σ H →
  c σ H fun b H1 => if b = true then tb { D with nx := fun σ' H' => ∃ m', m' < m ∧ W m' σ' H', ct := fun σ' H' => ∃ m', m' < m ∧ W m' σ' H', bk := D.nx } σ H1 else D.nx σ H1
section
variable {X : Cx}
theorem k_for {tg iter : Expr} {body : List Stmt} {wi : TI} {g : TG} {tb : TS} {pos : Pos} (hp : PassesOwn (model X.prog X.w) X.A X.env X.xe) (hc : X.calm = true) (hi : PI X tg iter wi) (hg : PG X tg g) (hb : PSs X body tb)
    (hs : ∀ x, foldedSetIterable iter X.env x = pure x := by intro _; rfl) : PS X (.For tg iter body [] pos) (uFor wi g tb) := ⟨(ps_for hp hc hi hg hb hs).run⟩
theorem k_while {c : Expr} {body : List Stmt} {tc : TT} {tb : TS} {pos : Pos} (hp : PassesOwn (model X.prog X.w) X.A X.env X.xe) (hc : PT X c tc) (hb : PSs X body tb) : PS X (.While c body [] pos) (uWhile tc tb) := by
  refine ⟨fun pins s σ H D I h => ?_⟩
  obtain ⟨W, ⟨m0, w0⟩, turn⟩ := h
  refine wpAny_While (codeAny_whileLoop (fun n s' => ∃ σ' H', Inv X pins σ' H' s' ∧ W n σ' H') ?_ m0 ⟨σ, H, I, w0⟩)
  rintro n s1 ⟨σ1, H1, I1, w1⟩
  refine wpAny_passesOwn hp (thn (hc.run pins s1 σ1 H1 _ I1 (turn n σ1 H1 w1)) fun b s2 ⟨H2, I2, q2⟩ => ?_)
  cases b with
  | true =>
    rw [if_pos rfl] at q2
    rw [if_pos rfl]
    refine wpAny_passesOwn hp (thn (hb.run pins s2 σ1 H2 _ I2 q2) fun f s3 q3 => ?_)
    cases f with
    | next =>
      obtain ⟨σ3, H3, I3, m', hm, w3⟩ := q3
      exact ⟨m', hm, σ3, H3, I3, w3⟩
    | cont =>
      obtain ⟨σ3, H3, I3, m', hm, w3⟩ := q3
      exact ⟨m', hm, σ3, H3, I3, w3⟩
    | brk => exact q3
    | ret v => exact q3
  | false =>
    rw [if_neg Bool.false_ne_true] at q2
    rw [if_neg Bool.false_ne_true]
    exact wpAny_execs_nil ⟨σ1, H2, I2, q2⟩

/-! ### defs of the text, called by their names -/
/-- the def x of the module keeps the promise sp, at level k; ps its parameters, dvs the defaults that a call leaves open -/
structure Cal (P : Program) (w : World) (K : Frag) (mg : Str → Option Value) (base : Heap) (k : Nat) (x : Str) (sp : Sp) : Prop where
  ex : ∃ (f : Addr) (fd : FuncData) (ps : List Str), mg x = some (.ref f) ∧ PySem.W.keepIn K (.ref f) = true ∧ Binds K fd ps [] ∧ FnOk P w K mg base (L2N.CX P w) k f fd ps sp
def uCall (sp : Sp) (t : TA) : TE := fun σ H Q => t σ H fun vs H1 => sp vs H1 Q E0
theorem passAt0 {σ : L2.St} : PassesAt (L2N.CX X.prog X.w) X σ E0 := fun _ _ _ _ _ _ h => by
  obtain ⟨_, _, _, _, _, _, _, _, _, _, _, _, z⟩ := h
  exact z.elim
section
variable {k : Nat} {x : Str} {sp : Sp} {p pos : Pos} {e : Expr} {es : List Expr} {t : TA}
/-- f(e, ..), f a def that raises nothing here -/
theorem kc (c : Cal X.prog X.w X.K X.mg X.base k x sp) (hr : Room k X.A) (ha : PA X (e :: es) t) (hg : Gl X x := by rfl) (hdb : (x == ("__debug__" : Str)) = false := by decide)
    (he : starEach (e :: es) X.env = (false, eval e X.env) :: starEach es X.env := by rfl) (hpl : (backTo pos (starEach es X.env)).any (·.1) = false := by rfl) : PE X (.Call (.Name x p) (e :: es) [] pos) (uCall sp t) := by
  obtain ⟨f, fd, ps, hm, hk, hb, F⟩ := c.ex
  exact pe_callS F hr hg hm hk hb (fun _ => passAt0) ha hdb he hpl
theorem kc0 (c : Cal X.prog X.w X.K X.mg X.base k x sp) (hr : Room k X.A) (hg : Gl X x := by rfl) (hdb : (x == ("__debug__" : Str)) = false := by decide) : PE X (.Call (.Name x p) [] [] pos) (uCall sp tNil) := by
  obtain ⟨f, fd, ps, hm, hk, hb, F⟩ := c.ex
  refine ⟨fun pins s σ H Q I h => ?_⟩
  refine wpAny_Call_Name_kw (ld_glob I hg hm ?_ hdb)
  exact PySem.W.callWith_K0 I.kIn hk (run_fnS (E := fun _ => E0) F hr hb passAt0 I .nil h)
/-- f(e, ..), f a def that may raise: W is what is wanted of it -/
theorem kcX {W : WX} (tk : L2N.Takes X W) (c : Cal X.prog X.w X.K X.mg X.base k x sp) (hr : Room k X.A) (ha : PA X (e :: es) t) (hg : Gl X x := by rfl) (hdb : (x == ("__debug__" : Str)) = false := by decide)
    (he : starEach (e :: es) X.env = (false, eval e X.env) :: starEach es X.env := by rfl) (hpl : (backTo pos (starEach es X.env)).any (·.1) = false := by rfl) : PE X (.Call (.Name x p) (e :: es) [] pos) (tCallS sp (WE W) t) := by
  obtain ⟨f, fd, ps, hm, hk, hb, F⟩ := c.ex
  exact pe_callS F hr hg hm hk hb (fun σ => L2N.passAt tk σ) ha hdb he hpl
end
end
/-- a def of the text, with what binds its arguments -/
structure DefAt (K : Frag) (mg : Str → Option Value) (x qual : Str) (st : Stmt) (ps : List Str) : Prop where
  ex : ∃ (f : Addr) (fd : FuncData), mg x = some (.ref f) ∧ Fun K x qual st f fd ∧ Binds K fd ps []
section
variable {P : Program} {w : World} {K : Frag} {mg : Str → Option Value} {base : Heap}
theorem DefAt.ok {x qual : Str} {st : Stmt} {N ps : List Str} {k : Nat} {sp : Sp} (D : DefAt K mg x qual st ps) (S : FnScope N ps (defScope st)) (len : ∀ vs H Q E, sp vs H Q E → vs.length = ps.length)
    (hbody : ∀ (f : Addr) (cdv : Value) (A : Around) (outer : List Env) (s : Shared) (H : Hp) (vs : List V) (Q : VK) (E : XK), Room k (A.deeper (envOfC qual (defScope st) s.heap.objs.size f cdv)) → sp vs H Q E →
      ∃ t, PSs (cxOf (L2N.CX P w) P w K mg base N qual (defScope st) f cdv A outer s H E) (defBody st) t ∧ t { nx := fun _ H' => Q .non H', rt := Q } (start N vs) H) : Cal P w K mg base (k + 1) x sp := by
  obtain ⟨f, fd, hm, F, hb⟩ := D.ex
  refine ⟨f, fd, ps, hm, F.kp, hb, ?_⟩
  obtain ⟨oc, od, kV, doc, pm, an, cdv, ct, osl, rfl, lk, hcd⟩ := F.ex
  exact fn_of lk hcd S len fun A outer s H vs Q E hr hsp => hbody f cdv A outer s H vs Q E hr hsp
theorem Cal.mono {j k : Nat} {x : Str} {sp : Sp} (c : Cal P w K mg base j x sp) (h : j ≤ k) : Cal P w K mg base k x sp := by
  obtain ⟨f, fd, ps, hm, hk, hb, F⟩ := c.ex
  exact ⟨f, fd, ps, hm, hk, hb, F.mono h⟩
end
end KW
namespace KW
open PySem PySem.Spec PyProof.Rows L2
/-- the module's name x holds the constant v -/
def GV (mg : Str → Option Value) (x : Str) (v : V) : Prop := ∃ u, mg x = some u ∧ RelV v u
theorem k_g {X : Cx} {x : Str} {v : V} {pos : Pos} (h : GV X.mg x v) (hg : Gl X x := by rfl) (hd : (x == ("__debug__" : Str)) = false := by decide) : PE X (.Name x pos) (tC v) := by
  obtain ⟨u, hm, r⟩ := h
  exact pe_glob hg hm r hd
/-- an object that stands by itself may be changed while all else stands -/
def But (a : Addr) (H H' : Hp) : Prop := ∀ b o, b ≠ a → H b = some o → H' b = some o
theorem But.refl {a : Addr} (H : Hp) : But a H H := fun _ _ _ h => h
theorem But.trans {a : Addr} {H H1 H2 : Hp} (x : But a H H1) (y : But a H1 H2) : But a H H2 := fun b o n h => y b o n (x b o n h)
theorem But.upd {a : Addr} {H : Hp} {o : HO} : But a H (upd H a o) := fun b _ n h => by rw [upd_ne n]; exact h
theorem But.seq {a b : Addr} {K : Frag} {H H' : Hp} {xs : List V} (e : But a H H') (n : b ≠ a) (h : SqL K H b xs) : SqL K H' b xs := by
  rcases h with (h | ⟨o, h⟩) | h
  · exact .inl (.inl (e _ _ n h))
  · exact .inl (.inr ⟨o, e _ _ n h⟩)
  · exact .inr h
end KW
namespace KW
open PySem PySem.Spec PyProof.Rows L2
/-! ### reads and stores of lists and tuples: by lemmas, not by simp -/
section
variable {K : Frag} {H : Hp} {p : Addr} {xs : List V} {i : Int} {v : V} {Q : VK}
theorem ix_l (h : H p = some (.lst xs)) (e : atI xs i = some v) (q : Q v H) : uIx K (.ref p) (.int i) H Q := ⟨xs, v, .inl (.of h), e, q⟩
theorem ix_t (h : H p = some (.tup xs)) (e : atI xs i = some v) (q : Q v H) : uIx K (.ref p) (.int i) H Q := ⟨xs, v, .inr (.of h), e, q⟩
theorem ix_sl (h : SqL K H p xs) (e : atI xs i = some v) (q : Q v H) : uIx K (.ref p) (.int i) H Q := ⟨xs, v, .inl h, e, q⟩
theorem ix_st (h : SqT K H p xs) (e : atI xs i = some v) (q : Q v H) : uIx K (.ref p) (.int i) H Q := ⟨xs, v, .inr h, e, q⟩
theorem len_l (h : H p = some (.lst xs)) (q : Q (.int xs.length) H) : uLen K [.ref p] H Q := ⟨xs, .inl (.of h), q⟩
theorem len_t (h : H p = some (.tup xs)) (q : Q (.int xs.length) H) : uLen K [.ref p] H Q := ⟨xs, .inr (.of h), q⟩
theorem len_sl (h : SqL K H p xs) (q : Q (.int xs.length) H) : uLen K [.ref p] H Q := ⟨xs, .inl h, q⟩
theorem len_st (h : SqT K H p xs) (q : Q (.int xs.length) H) : uLen K [.ref p] H Q := ⟨xs, .inr h, q⟩
end
/-- o[i] = v -/
def uSet : TSet
  | .ref p, .int k, v, H, Q => ∃ xs j, H p = some (.lst xs) ∧ ixN xs.length k = some j ∧ Q (upd H p (.lst (xs.set j v)))
  | _, _, _, _, _ => False
theorem s_set {X : Cx} : PSet X uSet := fun pins s σ H o i v ov iv u Q I ro ri rv h => by
  unfold uSet at h
  split at h
  · obtain ⟨xs, j, h1, h2, q⟩ := h
    exact set_list pins s σ H _ _ _ ov iv u Q I ro ri rv ⟨_, xs, _, j, rfl, rfl, h1, h2, q⟩
  · exact h.elim
theorem set_l {H : Hp} {p : Addr} {xs : List V} {k : Int} {j : Nat} {v : V} {Q : Hp → Prop} (h : H p = some (.lst xs)) (e : ixN xs.length k = some j) (q : Q (upd H p (.lst (xs.set j v)))) : uSet (.ref p) (.int k) v H Q := ⟨xs, j, h, e, q⟩
end KW
namespace KW
open PySem PySem.Spec PyProof.Rows L2
theorem le_line {n : Nat} (h : n ≤ 16000000) : n ≤ sizeLine := by rw [sizeLine_eq]; omega
theorem lt_line {n : Nat} (h : n ≤ 16000000) : n < sizeLine := by rw [sizeLine_eq]; omega
theorem mul_l {i j : Int} (h : -18446744073709551616 < i ∧ i < 18446744073709551616) : CMul i j ∨ CMulW i j := .inl (.inl ⟨by omega, by omega⟩)
theorem mul_r {i j : Int} (h : -18446744073709551616 < j ∧ j < 18446744073709551616) : CMul i j ∨ CMulW i j := .inl (.inr ⟨by omega, by omega⟩)
theorem div_s {i j : Int} (h : 0 < j ∧ j < 1073741824) : CDiv i j ∨ CDivW i j := .inl h
theorem pow_s {i j : Int} (h : 0 ≤ j ∧ j ≤ 1000000 ∧ -18446744073709551616 < i ∧ i < 18446744073709551616) : CPow i j := ⟨h.1, h.2.1, by omega⟩
end KW
namespace KW
open PySem PySem.Spec PyProof.Rows L2
theorem But.new {st p : Addr} {H : Hp} {o : HO} (h : H p = none) : But st H (L2.upd H p o) := fun b u _ e => by rw [upd_ne (ne_of_none e h)]; exact e
theorem SqL.new {K : Frag} {H : Hp} {sc p : Addr} {o : HO} {xs : List V} (h : H p = none) (hS : SqL K H sc xs) : SqL K (upd H p o) sc xs := by
  rcases hS with (q | ⟨o, q⟩) | q
  · exact .inl (.inl (by rw [upd_ne (ne_of_none q h)]; exact q))
  · exact .inl (.inr ⟨o, by rw [upd_ne (ne_of_none q h)]; exact q⟩)
  · exact .inr q
theorem atI_int {α : Type} {xs : List α} {r : Int} (h0 : 0 ≤ r) (h1 : r < xs.length) : ∃ v, xs[r.toNat]? = some v ∧ atI xs r = some v := by
  obtain ⟨j, rfl⟩ := Int.eq_ofNat_of_zero_le h0
  have h : j < xs.length := by omega
  exact ⟨xs[j], List.getElem?_eq_getElem h, atI_nat (List.getElem?_eq_getElem h)⟩
end KW
namespace KW
open PySem PySem.Spec PyProof.Rows L2
theorem tup_l {K : Frag} {n : Nat} {t : TGs} {a : Addr} {xs : List V} {σ : L2.St} {H : Hp} {Q : L2.St → Hp → Prop} (h : H a = some (.tup xs)) (hn : xs.length = n) (q : t xs σ H Q) : gTup K n t (.ref a) σ H Q := ⟨a, xs, rfl, .of h, hn, q⟩
theorem tup_s {K : Frag} {n : Nat} {t : TGs} {a : Addr} {xs : List V} {σ : L2.St} {H : Hp} {Q : L2.St → Hp → Prop} (h : SqT K H a xs) (hn : xs.length = n) (q : t xs σ H Q) : gTup K n t (.ref a) σ H Q := ⟨a, xs, rfl, h, hn, q⟩
end KW
namespace KW
open PySem PySem.Spec PyProof.Rows L2
section
variable {P : Program} {w : World} {K : Frag} {mg : Str → Option Value} {base : Heap}
theorem DefAt.fn {x qual : Str} {st : Stmt} {N ps : List Str} {k : Nat} {sp : Sp} (S : FnScope N ps (defScope st)) (len : ∀ vs H Q E, sp vs H Q E → vs.length = ps.length)
    (hbody : ∀ (f : Addr) (cdv : Value) (A : Around) (outer : List Env) (s : Shared) (H : Hp) (vs : List V) (Q : VK) (E : XK), Room k (A.deeper (envOfC qual (defScope st) s.heap.objs.size f cdv)) → sp vs H Q E →
      ∃ t, PSs (cxOf (L2N.CX P w) P w K mg base N qual (defScope st) f cdv A outer s H E) (defBody st) t ∧ t { nx := fun _ H' => Q .non H', rt := Q } (start N vs) H) :
    ∀ f fd, Fun K x qual st f fd → FnOk P w K mg base (L2N.CX P w) (k + 1) f fd ps sp := by
  intro f fd F
  obtain ⟨oc, od, kV, doc, pm, an, cdv, ct, osl, rfl, lk, hcd⟩ := F.ex
  exact fn_of lk hcd S len fun A outer s H vs Q E hr hsp => hbody f cdv A outer s H vs Q E hr hsp
theorem defAt_mk {x qual : Str} {st : Stmt} {ps : List Str} {h : Heap} {f : Addr} {oc : Value} {od an : Option Addr} {osl : Array (Option Value)} {kV doc pm cdv ct : Value}
    (X : K.In h) (G : h.Ns mainGlobals mg) (a : PySem.W.nsIn K mainGlobals x = some (some (.ref f)))
    (l : K.lookup f = some ⟨oc, od, .func (PySem.W.fnOf x qual (defArgs st) (defBody st) (defScope st) .none kV doc pm an cdv ct), osl⟩) (c : PySem.W.codeIn K cdv qual = true) (k : PySem.W.keepIn K (.ref f) = true)
    (hb : ∀ (kV doc pm : Value) (an : Option Addr) (cdv ct : Value) (us : List Value), us.length = ps.length → bindArgs (PySem.W.fnOf x qual (defArgs st) (defBody st) (defScope st) .none kV doc pm an cdv ct) ⟨us, []⟩ = pure (ps.zip us)) : DefAt K mg x qual st ps := by
  have F := fun_mk (st := st) l c k
  exact ⟨f, _, PySem.W.mg_of X G a, F, F.binds hb⟩
theorem gv_mk {x : Str} {v : V} {u : Value} {h : Heap} (X : K.In h) (G : h.Ns mainGlobals mg) (a : PySem.W.nsIn K mainGlobals x = some (some u)) (r : RelV v u) : GV mg x v := ⟨u, PySem.W.mg_of X G a, r⟩
/-- the law's promise: True for every list of at most 63 ints -/
def sp_law63 (K : Frag) : Sp := fun vs H Q _ => ∃ (sc : Addr) (ns : List Int), vs = [.ref sc] ∧ SqL K H sc (ns.map .int) ∧ ns.length ≤ 63 ∧ ∀ H', Q (.bl true) H'
end
theorem CX_none {P : Program} {w : World} {l : List Env} {H : Hp} {s : Shared} {e : Value} {s' : Shared} (h : L2N.CX P w l H s (fun _ _ _ => False) e s') : False := by
  obtain ⟨_, _, _, _, _, _, _, _, _, _, _, _, z⟩ := h
  exact z.elim
theorem walk63 {l : PySem.W.OpenLaw} {k : Nat} {st : Stmt} {q : Program} {loose : List Str} {XP : (Str → Option Value) → Heap → Prop} {YP : World → Heap → Prop} {d : DefRec} {K : Params → PySem.W.Frag} (hn : l.most = some 63) (hdf : d.params.defaults = []) (hd : d.name = "law") (hr : Room k callerA)
    (hY : ∀ (w : World) (h : Heap), YP w h → (K w.params).In h)
    (hb : ∀ (kV doc pm : Value) (an : Option Addr) (cdv ct : Value) (us : List Value), us.length = ["script"].length → bindArgs (PySem.W.fnOf "law" "law" (defArgs st) (defBody st) (defScope st) .none kV doc pm an cdv ct) ⟨us, []⟩ = pure ((["script"] : List Str).zip us))
    (F : ∀ (w : World) (mg : Str → Option Value) (h : Heap), (K w.params).In h → h.Ns mainGlobals mg →
      DefAt (K w.params) mg "law" "law" st ["script"] ∧ ∀ base f fd, Fun (K w.params) "law" "law" st f fd → FnOk l.prog w (K w.params) mg base (L2N.CX l.prog w) k f fd ["script"] (sp_law63 (K w.params))) :
    PySem.W.WalkO q loose XP YP l.row.toRowW d [] (fun f vs => PySem.call f vs) := by
  refine L2.walk_of (n := 63) (k := k) (x := "script") (CX := fun w => L2N.CX l.prog w) (sp := fun w => sp_law63 (K w.params)) hn (by decide) hdf hr hY ?_ (fun _ _ a ns hl _ hS => ⟨a, ns, rfl, hS, hl, fun _ => rfl⟩) fun _ _ _ _ _ h => CX_none h
  intro w mg fa h KX G hmg
  obtain ⟨D, ok⟩ := F w mg h KX G
  obtain ⟨f, fd, hm, Fu, _⟩ := D.ex
  rw [hd, hm] at hmg
  cases hmg
  have Fu' := Fu
  obtain ⟨oc, od, kV, doc, pm, an, cdv, ct, osl, rfl, lk, hcd⟩ := Fu.ex
  exact ⟨_, fun s u => .of_eq (hb kV doc pm an cdv ct [u] rfl), fun base _ _ => ok base _ _ Fu'⟩
end KW
/-! ### case lemmas -/
namespace KW
open PySem PySem.Spec PyProof.Rows L2
theorem uAdd_e1 {K : Frag} {i : Int} {j : Int} {H : Hp} {Q : VK} : uAdd K (.int i) (.int j) H Q = (Q (.int (i + j)) H) := rfl
theorem uAdd_e2 {K : Frag} {i : Str} {j : Str} {H : Hp} {Q : VK} : uAdd K (.str i) (.str j) H Q = (i.length + j.length ≤ sizeLine ∧ Q (.str (i ++ j)) H) := rfl
theorem uAdd_e3 {K : Frag} {a : Addr} {b : Addr} {H : Hp} {Q : VK} : uAdd K (.ref a) (.ref b) H Q = (rCat (.ref a) (.ref b) H Q ∨ rCatT K (.ref a) (.ref b) H Q) := rfl
theorem uSub_e1 {i : Int} {j : Int} {H : Hp} {Q : VK} : uSub (.int i) (.int j) H Q = (Q (.int (i - j)) H) := rfl
theorem uMul_e1 {i : Int} {j : Int} {H : Hp} {Q : VK} : uMul (.int i) (.int j) H Q = ((CMul i j ∨ CMulW i j) ∧ Q (.int (i * j)) H) := rfl
theorem uMul_e2 {l : Addr} {k : Int} {H : Hp} {Q : VK} : uMul (.ref l) (.int k) H Q = (rRep (.ref l) (.int k) H Q) := rfl
theorem uMod_e1 {i : Int} {j : Int} {H : Hp} {Q : VK} : uMod (.int i) (.int j) H Q = (0 < j ∧ Q (.int (i % j)) H) := rfl
theorem uDiv_e1 {i : Int} {j : Int} {H : Hp} {Q : VK} : uDiv (.int i) (.int j) H Q = ((CDiv i j ∨ CDivW i j) ∧ Q (.int (i / j)) H) := rfl
theorem uPow_e1 {i : Int} {j : Int} {H : Hp} {Q : VK} : uPow (.int i) (.int j) H Q = (CPow i j ∧ Q (.int (i ^ j.toNat)) H) := rfl
theorem uShl_e1 {i : Int} {j : Int} {H : Hp} {Q : VK} : uShl (.int i) (.int j) H Q = (CPow i j ∧ Q (.int (i * 2 ^ j.toNat)) H) := rfl
theorem uNeg_e1 {i : Int} {H : Hp} {Q : VK} : uNeg (.int i) H Q = (Q (.int (-i)) H) := rfl
theorem uIAdd_e1 {i : Int} {j : Int} {H : Hp} {Q : VK} : uIAdd (.int i) (.int j) H Q = (Q (.int (i + j)) H) := rfl
theorem uIAdd_e2 {i : Str} {j : Str} {H : Hp} {Q : VK} : uIAdd (.str i) (.str j) H Q = (i.length + j.length ≤ sizeLine ∧ Q (.str (i ++ j)) H) := rfl
theorem uIAdd_e3 {a : Addr} {b : Addr} {H : Hp} {Q : VK} : uIAdd (.ref a) (.ref b) H Q = (rExt2 (.ref a) (.ref b) H Q) := rfl
theorem uISub_e1 {i : Int} {j : Int} {H : Hp} {Q : VK} : uISub (.int i) (.int j) H Q = (Q (.int (i - j)) H) := rfl
theorem uLt_e1 {i : Int} {j : Int} {H : Hp} {Q : VK} : uLt (.int i) (.int j) H Q = (Q (.bl (decide (i < j))) H) := rfl
theorem uLt_e2 {i : Str} {j : Str} {H : Hp} {Q : VK} : uLt (.str i) (.str j) H Q = (Q (.bl (decide (i.cps.toList < j.cps.toList))) H) := rfl
theorem uLe_e1 {i : Int} {j : Int} {H : Hp} {Q : VK} : uLe (.int i) (.int j) H Q = (Q (.bl (decide (i ≤ j))) H) := rfl
theorem uGt_e1 {i : Int} {j : Int} {H : Hp} {Q : VK} : uGt (.int i) (.int j) H Q = (Q (.bl (decide (j < i))) H) := rfl
theorem uGe_e1 {i : Int} {j : Int} {H : Hp} {Q : VK} : uGe (.int i) (.int j) H Q = (Q (.bl (decide (j ≤ i))) H) := rfl
theorem uEq_e1 {K : Frag} {i : Int} {j : Int} {H : Hp} {Q : VK} : uEq K (.int i) (.int j) H Q = (Q (.bl (decide (i = j))) H) := rfl
theorem uEq_e2 {K : Frag} {i : Str} {j : Str} {H : Hp} {Q : VK} : uEq K (.str i) (.str j) H Q = (Q (.bl (decide (i = j))) H) := rfl
theorem uEq_e3 {K : Frag} {i : Bool} {j : Bool} {H : Hp} {Q : VK} : uEq K (.bl i) (.bl j) H Q = (Q (.bl (decide (i = j))) H) := rfl
theorem uEq_e4 {K : Frag} {H : Hp} {Q : VK} : uEq K (.non) (.non) H Q = (Q (.bl true) H) := rfl
theorem uEq_e5 {K : Frag} {w1 : Int} {w2 : Str} {H : Hp} {Q : VK} : uEq K (.int w1) (.str w2) H Q = (Q (.bl false) H) := rfl
theorem uEq_e6 {K : Frag} {w1 : Str} {w2 : Int} {H : Hp} {Q : VK} : uEq K (.str w1) (.int w2) H Q = (Q (.bl false) H) := rfl
theorem uEq_e7 {K : Frag} {w1 : Int} {H : Hp} {Q : VK} : uEq K (.int w1) (.non) H Q = (Q (.bl false) H) := rfl
theorem uEq_e8 {K : Frag} {w1 : Int} {H : Hp} {Q : VK} : uEq K (.non) (.int w1) H Q = (Q (.bl false) H) := rfl
theorem uEq_e9 {K : Frag} {w1 : Str} {H : Hp} {Q : VK} : uEq K (.str w1) (.non) H Q = (Q (.bl false) H) := rfl
theorem uEq_e10 {K : Frag} {w1 : Str} {H : Hp} {Q : VK} : uEq K (.non) (.str w1) H Q = (Q (.bl false) H) := rfl
theorem uEq_e11 {K : Frag} {a : Addr} {b : Addr} {H : Hp} {Q : VK} : uEq K (.ref a) (.ref b) H Q = (rEqD K (.ref a) (.ref b) H Q) := rfl
theorem uNe_e1 {K : Frag} {i : Int} {j : Int} {H : Hp} {Q : VK} : uNe K (.int i) (.int j) H Q = (Q (.bl (!decide (i = j))) H) := rfl
theorem uNe_e2 {K : Frag} {i : Str} {j : Str} {H : Hp} {Q : VK} : uNe K (.str i) (.str j) H Q = (Q (.bl (!decide (i = j))) H) := rfl
theorem uNe_e3 {K : Frag} {i : Bool} {j : Bool} {H : Hp} {Q : VK} : uNe K (.bl i) (.bl j) H Q = (Q (.bl (!decide (i = j))) H) := rfl
theorem uNe_e4 {K : Frag} {H : Hp} {Q : VK} : uNe K (.non) (.non) H Q = (Q (.bl false) H) := rfl
theorem uNe_e5 {K : Frag} {w1 : Int} {w2 : Str} {H : Hp} {Q : VK} : uNe K (.int w1) (.str w2) H Q = (Q (.bl true) H) := rfl
theorem uNe_e6 {K : Frag} {w1 : Str} {w2 : Int} {H : Hp} {Q : VK} : uNe K (.str w1) (.int w2) H Q = (Q (.bl true) H) := rfl
theorem uNe_e7 {K : Frag} {w1 : Int} {H : Hp} {Q : VK} : uNe K (.int w1) (.non) H Q = (Q (.bl true) H) := rfl
theorem uNe_e8 {K : Frag} {w1 : Int} {H : Hp} {Q : VK} : uNe K (.non) (.int w1) H Q = (Q (.bl true) H) := rfl
theorem uNe_e9 {K : Frag} {w1 : Str} {H : Hp} {Q : VK} : uNe K (.str w1) (.non) H Q = (Q (.bl true) H) := rfl
theorem uNe_e10 {K : Frag} {w1 : Str} {H : Hp} {Q : VK} : uNe K (.non) (.str w1) H Q = (Q (.bl true) H) := rfl
theorem uNe_e11 {K : Frag} {a : Addr} {b : Addr} {H : Hp} {Q : VK} : uNe K (.ref a) (.ref b) H Q = (rNeD K (.ref a) (.ref b) H Q) := rfl
theorem uIs_e1 {H : Hp} {Q : VK} : uIs (.non) (.non) H Q = (Q (.bl true) H) := rfl
theorem uIs_e2 {w1 : Int} {H : Hp} {Q : VK} : uIs (.int w1) (.non) H Q = (Q (.bl false) H) := rfl
theorem uIs_e3 {w1 : Str} {H : Hp} {Q : VK} : uIs (.str w1) (.non) H Q = (Q (.bl false) H) := rfl
theorem uIs_e4 {w1 : Addr} {H : Hp} {Q : VK} : uIs (.ref w1) (.non) H Q = (Q (.bl false) H) := rfl
theorem uIs_e5 {w1 : Bool} {H : Hp} {Q : VK} : uIs (.bl w1) (.non) H Q = (Q (.bl false) H) := rfl
theorem uIs_e6 {a : Bool} {b : Bool} {H : Hp} {Q : VK} : uIs (.bl a) (.bl b) H Q = (Q (.bl (decide (a = b))) H) := rfl
theorem uIs_e7 {a : Int} {b : Bool} {H : Hp} {Q : VK} : uIs (.int a) (.bl b) H Q = (Q (.bl false) H) := rfl
theorem uNotIs_e1 {H : Hp} {Q : VK} : uNotIs (.non) (.non) H Q = (Q (.bl false) H) := rfl
theorem uNotIs_e2 {w1 : Int} {H : Hp} {Q : VK} : uNotIs (.int w1) (.non) H Q = (Q (.bl true) H) := rfl
theorem uNotIs_e3 {w1 : Str} {H : Hp} {Q : VK} : uNotIs (.str w1) (.non) H Q = (Q (.bl true) H) := rfl
theorem uNotIs_e4 {w1 : Addr} {H : Hp} {Q : VK} : uNotIs (.ref w1) (.non) H Q = (Q (.bl true) H) := rfl
theorem uNotIs_e5 {w1 : Bool} {H : Hp} {Q : VK} : uNotIs (.bl w1) (.non) H Q = (Q (.bl true) H) := rfl
theorem uNotIs_e6 {a : Bool} {b : Bool} {H : Hp} {Q : VK} : uNotIs (.bl a) (.bl b) H Q = (Q (.bl (!decide (a = b))) H) := rfl
theorem uIn_e1 {K : Frag} {i : Str} {j : Str} {H : Hp} {Q : VK} : uIn K (.str i) (.str j) H Q = (Q (.bl (subStr i j)) H) := rfl
theorem uIn_e2 {K : Frag} {i : Int} {p : Addr} {H : Hp} {Q : VK} : uIn K (.int i) (.ref p) H Q = (rIn K false (.int i) (.ref p) H Q) := rfl
theorem uIn_e3 {K : Frag} {i : Str} {p : Addr} {H : Hp} {Q : VK} : uIn K (.str i) (.ref p) H Q = (rIn K false (.str i) (.ref p) H Q) := rfl
theorem uIn_e4 {K : Frag} {p : Addr} {H : Hp} {Q : VK} : uIn K (.non) (.ref p) H Q = (rIn K false .non (.ref p) H Q) := rfl
theorem uNotIn_e1 {K : Frag} {i : Str} {j : Str} {H : Hp} {Q : VK} : uNotIn K (.str i) (.str j) H Q = (Q (.bl (!subStr i j)) H) := rfl
theorem uNotIn_e2 {K : Frag} {i : Int} {p : Addr} {H : Hp} {Q : VK} : uNotIn K (.int i) (.ref p) H Q = (rIn K true (.int i) (.ref p) H Q) := rfl
theorem uNotIn_e3 {K : Frag} {i : Str} {p : Addr} {H : Hp} {Q : VK} : uNotIn K (.str i) (.ref p) H Q = (rIn K true (.str i) (.ref p) H Q) := rfl
theorem uNotIn_e4 {K : Frag} {p : Addr} {H : Hp} {Q : VK} : uNotIn K (.non) (.ref p) H Q = (rIn K true .non (.ref p) H Q) := rfl
theorem uTru_e1 {K : Frag} {w1 : Hp} {k : Bool → Prop} : uTru K (.non) w1 k = (k false) := rfl
theorem uTru_e2 {K : Frag} {b : Bool} {w1 : Hp} {k : Bool → Prop} : uTru K (.bl b) w1 k = (k b) := rfl
theorem uTru_e3 {K : Frag} {i : Int} {w1 : Hp} {k : Bool → Prop} : uTru K (.int i) w1 k = (k (i != 0)) := rfl
theorem uTru_e4 {K : Frag} {y : Str} {w1 : Hp} {k : Bool → Prop} : uTru K (.str y) w1 k = (y.length ≤ sizeLine ∧ k ((y.length : Int) != 0)) := rfl
theorem uTru_e5 {K : Frag} {p : Addr} {H : Hp} {k : Bool → Prop} : uTru K (.ref p) H k = (∃ b, TruV K (.ref p) H b ∧ k b) := rfl
theorem uIx_e1 {K : Frag} {p : Addr} {i : Int} {H : Hp} {Q : VK} : uIx K (.ref p) (.int i) H Q = (∃ xs v, (SqL K H p xs ∨ SqT K H p xs) ∧ atI xs i = some v ∧ Q v H) := rfl
theorem uIx_e2 {K : Frag} {z : Str} {i : Int} {H : Hp} {Q : VK} : uIx K (.str z) (.int i) H Q = (z.length ≤ sizeLine ∧ ∃ c, atI z.cps.toList i = some c ∧ Q (.str (S [c])) H) := rfl
theorem uSl_e1 {K : Frag} {a : Addr} {lo : Option Int} {hi : Option Int} {H : Hp} {Q : VK} : uSl K (.ref a) lo hi H Q = (rSlL K (.ref a) lo hi H Q ∨ rSlT K (.ref a) lo hi H Q) := rfl
theorem uSl_e2 {K : Frag} {z : Str} {lo : Option Int} {hi : Option Int} {H : Hp} {Q : VK} : uSl K (.str z) lo hi H Q = (z.length ≤ sizeLine ∧ Q (.str (cutS z lo hi)) H) := rfl
theorem uLen_e1 {K : Frag} {y : Str} {H : Hp} {Q : VK} : uLen K [.str y] H Q = (y.length ≤ sizeLine ∧ Q (.int y.length) H) := rfl
theorem uLen_e2 {K : Frag} {p : Addr} {H : Hp} {Q : VK} : uLen K [.ref p] H Q = (∃ xs, (SqL K H p xs ∨ SqT K H p xs) ∧ Q (.int xs.length) H) := rfl
theorem uAbs_e1 {i : Int} {H : Hp} {Q : VK} : uAbs [.int i] H Q = (Q (.int (if i < 0 then -i else i)) H) := rfl
theorem uInt_e1 {i : Int} {H : Hp} {Q : VK} : uInt [.int i] H Q = (Q (.int i) H) := rfl
theorem uInt_e2 {k : Bool} {H : Hp} {Q : VK} : uInt [.bl k] H Q = (Q (.int (if k then 1 else 0)) H) := rfl
theorem uMin2_e1 {i : Int} {j : Int} {H : Hp} {Q : VK} : uMin2 [.int i, .int j] H Q = (Q (.int (if j < i then j else i)) H) := rfl
theorem uIsi_e1 {K : Frag} {n : String} {H : Hp} {Q : VK} : uIsi K [.non, .ty n] H Q = (isOk "NoneType" n = true ∧ Q (.bl (isK "NoneType" n)) H) := rfl
theorem uIsi_e2 {K : Frag} {w1 : Bool} {n : String} {H : Hp} {Q : VK} : uIsi K [.bl w1, .ty n] H Q = (isOk "bool" n = true ∧ Q (.bl (isK "bool" n)) H) := rfl
theorem uIsi_e3 {K : Frag} {w1 : Int} {n : String} {H : Hp} {Q : VK} : uIsi K [.int w1, .ty n] H Q = (isOk "int" n = true ∧ Q (.bl (isK "int" n)) H) := rfl
theorem uIsi_e4 {K : Frag} {w1 : Str} {n : String} {H : Hp} {Q : VK} : uIsi K [.str w1, .ty n] H Q = (isOk "str" n = true ∧ Q (.bl (isK "str" n)) H) := rfl
theorem uIsi_e5 {K : Frag} {p : Addr} {n : String} {H : Hp} {Q : VK} : uIsi K [.ref p, .ty n] H Q = (∃ T, TyX K H (.ref p) (.type T) ∧ isOk T n = true ∧ Q (.bl (isK T n)) H) := rfl
theorem cx_K {CX : CXT} {P : Program} {w : World} {K : Frag} {mg : Str → Option Value} {base : Heap} {N : List Str} {qual : Str} {scope : Scope} {f : Addr} {cd : Value} {A : Around} {outer : List Env} {s : Shared} {H : Hp} {E : XK} : (cxOf CX P w K mg base N qual scope f cd A outer s H E).K = K := rfl
theorem uVar_s {i : Nat} {σ : L2.St} {H : Hp} {Q : VK} {v : V} (h : σ[i]? = some (some v)) : uVar i σ H Q = Q v H := by unfold uVar; rw [h]
theorem uVar_0 {a : V} {l : L2.St} {H : Hp} {Q : VK} : uVar 0 (some a :: l) H Q = Q a H := rfl
theorem uVar_n {i : Nat} {a : Option V} {l : L2.St} {H : Hp} {Q : VK} : uVar (i + 1) (a :: l) H Q = uVar i l H Q := rfl
end KW

set_option Elab.async false
set_option linter.all false
set_option maxRecDepth 100000
set_option maxHeartbeats 4000000
/-! KErr: own exception classes whose __init__(self, f) says super().__init__(str(f)); self.f = f -/
namespace PySem
namespace KErr
open PySem.W PySem.Calls PyProof.Rows PySem.HandSPX
/-- str(v) is made: some text -/
def StrOk (prog : Program) (w : World) (v : Value) : Prop := ∀ (A : Around) (s : Shared) (Q : Value → Shared → Prop) (E : Value → Shared → Prop), A.handled = none → s.heap.NoDigits → (∀ txt tk k, Q (.str txt tk) { s with toks := k }) → wpAny (model prog w) A (call (.type "str") [v]) Q E s
theorem strOk_int {prog : Program} {w : World} {n : Int} {t : Tok} (h : n.natAbs < 10 ^ 4300) : StrOk prog w (.int n t) := fun A s Q E hh hn q => str_of_int_or hh hn (fun _ => q _ _ _) fun z => absurd h (Nat.not_lt.mpr z)
theorem one_size (v : Value) : [v].length ≤ sizeLine := by
  rw [sizeLine_eq]
  exact (by decide : 1 ≤ 16777216)
theorem kept_but {K : Frag} {h h' : Heap} {x : Addr} (X : K.In h) (hx : K.lookup x = none) (k : ∀ b o, b ≠ x → h.get? b = some o → h'.get? b = some o) : K.In h' := fun a o e =>
  k a o (fun z => by rw [z, hx] at e; cases e) (X a o e)
structure InitEnd (h h' : Heap) (x C dx t1 : Addr) (f : Str) (v : Value) : Prop where
  keep : ∀ b o, b ≠ x → h.get? b = some o → h'.get? b = some o
  obj : h'.get? x = some { cls := .ref C, dict := some dx, data := .fields #[.ref t1, .none, .none, .none, .bool false, .none] }
  dbig : h.objs.size ≤ dx
  dne : dx ≠ x
  ns : h'.Ns1 dx (fun y => if y = f then some v else none)
section
variable {prog : Program} {w : World} {A : Around} {E : Value → Shared → Prop} {h : Heap} {g : Array GenState} {d : Drawn} {t : Nat} {os : OsState}
variable {nm q : Str} {C N : Addr} {bs bm : List Value} {hdct : Bool} {sn : List Str} {sub : List Value} {ab : Bool} {col : Option Bool} {dd : Option Addr} {k0 k1 k2 k3 k5 : Option Value}
theorem init_call {u e t0 : Addr} {rest : List Value} {Q : Value → Shared → Prop}
    (hC : h.get? C = some (excClassObj nm q C N bs bm hdct sn sub ab col dd k0 k1 k2 k3 k5 "ValueError.__new__")) (he : h.get? e = some (excO C t0)) (hu : h.get? u = some (kxs_mw "ValueError.__init__" e)) (hrest : rest.length ≤ sizeLine)
    (hq : ∀ h' t1, (∀ b o, b ≠ e → h.get? b = some o → h'.get? b = some o) → h'.get? e = some (excO C t1) → Q .none ⟨h', g, d, t, os⟩) :
    wpAny (model prog w) A (call (.ref u) rest) Q E ⟨h, g, d, t, os⟩ := by
  have FB := F.excBase_ValueError
  refine wpAny_call (codeAny_of_tree ?_)
  show wpAny _ A.in1 (callAny (.ref u) ⟨rest, []⟩) _ _ _
  simp only [callAny]
  refine wpAny_bind (wpAny_load hu ?_)
  simp only [kxs_mw, show (Value.type "method-wrapper" == Value.type "method" || Value.type "method-wrapper" == Value.type "builtin_function_or_method" || Value.type "method-wrapper" == Value.type "method-wrapper") = true by decide, if_true]
  refine KFB.if_so (by decide) ?_
  refine wpAny_bind (check_bound_init FB.toExcCallFacts hC he rfl ?_)
  refine wpAny_bind (wpAny_pure (wpAny_pure ?_))
  refine ⟨plainId_quiet FB.init.plain _, codeAny_builtin FB.initEntry ?_⟩
  rw [Around.under_plainId FB.init.plain _]
  exact exc_init_tree (cls := .ref C) (t0 := t0) (dv := none) (c2 := .none) (c3 := .none) (b4 := .bool false) he hrest (fun h' k e' _ => hq h' _ k e')
end
/-- a made own error -/
structure OwnMade (h h' : Heap) (e C d : Addr) (fs : List (Str × Value)) : Prop where
  keep : ∀ b o, h.get? b = some o → h'.get? b = some o
  new : h.objs.size ≤ e
  obj : ∃ oe vs, h'.get? e = some oe ∧ oe.cls = .ref C ∧ oe.dict = some d ∧ oe.data = .fields vs ∧ vs[1]? = some .none ∧ vs[2]? = some .none
  dbig : h.objs.size ≤ d
  dne : d ≠ e
  ns : h'.Ns1 d (fun y => fs.lookup y)
/-- C(us): made, where us are the values of vs and ok vs -/
def Mkd (prog : Program) (w : World) (K : Frag) (mg : Str → Option Value) (C : Addr) (ns : List Str) (ok : List L2.V → Prop) : Prop :=
  ∀ {A : Around} {s : Shared} {R : Result → Shared → Prop} {vs : List L2.V} {us : List Value}, L2.Vals vs us → ok vs → K.In s.heap → s.heap.NoLimit → s.heap.Ns mainGlobals mg → (∃ mb, s.heap.Ns builtinsNs mb ∧ ∀ x : Str, x ≠ "__name__" → mb x = bootBuiltins x) → A.handled = none → A.depth + 1 < recursionLimit →
    (∀ h' tk e d, OwnMade s.heap h' e C d (ns.zip us) → R (.ok (.ret (.ref e))) { s with heap := h', toks := tk }) → codeAny (model prog w) A (.call (.ref C) ⟨us, []⟩) R s
/-- str of the value is some text -/
def okS : L2.V → Prop
  | .int n => n.natAbs < 10 ^ 4300
  | .str _ => True
  | _ => False
theorem strOk_str {prog : Program} {w : World} {x : Str} {t : Tok} : StrOk prog w (.str x t) := fun _ _ _ _ _ _ q => PySem.P.str_of_str (q _ _ _)
theorem okS_ok {prog : Program} {w : World} {v : L2.V} {u : Value} (r : L2.RelV v u) (h : okS v) : StrOk prog w u := by
  cases v <;> simp only [okS] at h
  · obtain ⟨t, rfl⟩ := r
    exact strOk_int h
  · obtain ⟨t, rfl⟩ := r
    exact strOk_str
end KErr
end PySem

set_option Elab.async false
set_option linter.all false
set_option maxRecDepth 100000
set_option maxHeartbeats 4000000
/-! Kw2a: errors at the readings' level: made, raised, caught, asked -/
namespace PySem.W
open PySem PySem.Spec PySem.Calls PyProof.Rows
section
variable {prog : Program} {w : World} {A : Around} {E : Value → Shared → Prop} {s : Shared} {K : Frag} {x D : Addr} {ox : Obj} {od : Option Obj}
theorem kw_findCls {C : Addr} {name : Str} {a g : Value} (hc : (clsIn K C).isSome = true) (ha : findIn K (.ref C) name = some (some a)) (hg : specialIn K a "__get__" = some (some g)) (ht : takesIn K a = some true) : findObj K C od name = some (.bind g a) := by
  obtain ⟨cd, hc⟩ := Option.isSome_iff_exists.mp hc
  unfold findObj
  rw [hc, Option.bind_some, ha, Option.bind_some]
  simp [hg, ht]
/-- the class of an own error, asked by __class__, whatever its own dict holds -/
theorem kw_class {Q : Option Value → Shared → Prop} (C : L2.ExcC K D) (X : K.In s.heap) (I : InstAt s.heap x ox D od) (h : Q (some (.ref D)) { s with toks := s.toks + 1 }) : wpAny (model prog w) A (getAttr? (.ref x) "__class__") Q E s := by
  have hf : findObj K D od "__class__" = some (.bind (.builtin "getset_descriptor.__get__") (.builtin "object.__class__")) := kw_findCls (by obtain ⟨cd, hc, _⟩ := any_some C.hd; rw [hc]; rfl) C.ha C.hn C.ht
  obtain ⟨hp, g, d, t, os⟩ := s
  have L0 := I.type (M := model prog w)
  have L1 := looks_findIn (M := model prog w) X C.hg
  have L2 := looks_findIn (M := model prog w) X C.hk
  have L3 := looks_find (M := model prog w) X I hf
  have sub : Looks (model prog w) hp (isInstance (.ref x) (.type "BaseException")) true := L0.andThen (looks_subIn X C.hs)
  have hx2 : (Value.builtin "BaseException.__getattribute__" == Value.builtin "object.__getattribute__") = false := by decide +kernel
  have hx1 : (onTheHeap (Value.ref D) && Value.builtin "BaseException.__getattribute__" == Value.builtin "object.__getattribute__") = false := by rw [hx2]; rfl
  have hx0 : (false && onTheHeap (Value.builtin "BaseException.__getattribute__")) = false := rfl
  unfold getAttr? getAttrBy? getAttrBy
  refine wpAny_bind (wpAny_mkText (wpAny_bind (wpAny_attempt (wpAny_holding (wpAny_bind (L0.at (wpAny_bind (L1.at ?_))))))))
  show wpAny _ _ (if (onTheHeap (Value.ref D) && Value.builtin "BaseException.__getattribute__" == Value.builtin "object.__getattribute__") = true then _ else _) _ _ _
  rw [hx1, if_neg Bool.false_ne_true]
  unfold getAttrByItsOwn hookBefore
  refine wpAny_bind ?_
  rw [if_pos (show onTheHeap (Value.ref D) = true from rfl)]
  refine L2.at ?_
  refine wpAny_bind (wpAny_attempt (wpAny_holding ?_))
  unfold callGetattribute
  rw [hx0, if_neg Bool.false_ne_true]
  unfold boundAndCalled
  rw [PySem.F.excAttr_ValueError.ga.bind (.ref x)]
  refine wpAny_bind (wpAny_pure ?_)
  refine wpAny_call (codeAny_call_builtin PySem.F.excAttr_ValueError.ga.plain PySem.F.entry_bexc_ga ?_)
  refine @check_slot (model prog w) _ _ ⟨hp, g, d, t + 1, os⟩ "BaseException.__getattribute__" "BaseException" "__getattribute__" (.ref x) [.str "__class__" t] [] _ (by decide +kernel) (by decide +kernel) sub (PySem.F.args_bexc_ga (.ref x) (.str "__class__" t)) ?_
  unfold Builtin.«object.__getattribute__»
  refine wpAny_bind (wpAny_of_eq (a := ((Value.ref x : Value), [Value.str "__class__" t])) (by first | rfl | (simp only [slotArgs]; rfl)) ?_)
  refine wpAny_bind (wpAny_pure (wpAny_bind (L0.at (wpAny_bind (L3.at ?_)))))
  refine wpAny_bind (wpAny_holding (wpAny_call (class_get (s := ⟨hp, g, d, t + 1, os⟩) (ox := ox) (od := od) X I C.hm ?_)))
  refine wpAny_pure ?_
  show wpAny _ _ (handedOut (.ref D)) _ _ _
  rw [handedOut_of (v := .ref D) rfl]
  first
    | exact wpAny_pure (wpAny_pure h)
    | exact wpAny_pure h
    | exact wpAny_pure (wpAny_bind (wpAny_pure (wpAny_pure h)))
theorem kw_kitx (C : L2.ExcC K D) : KitX K (.ref x) (.ref D) (fun h => InstAt h x ox D od) where
  ty := fun _ _ _ I => I.type
  it := fun _ _ X _ => by
    obtain ⟨cdD, hcD, _⟩ := any_some C.hd
    unfold clsIn at hcD
    split at hcD
    · rename_i c' d' cd' sl' ho
      intro A' Q' E' s' k q
      unfold isType loadHead
      exact wpAny_bind (wpAny_loadPart (k _ _ (X _ _ ho)) (wpAny_pure q))
    · cases hcD
  ne := fun h tp dd its n sl X htp => by
    obtain ⟨cdD, hcD, _⟩ := any_some C.hd
    refine Bool.eq_false_iff.mpr fun q => ?_
    have e : D = tp := Value.ref.inj (beq_iff_eq.mp q)
    subst e
    unfold clsIn at hcD
    split at hcD
    · rename_i c' d' cd' sl' ho
      have z := (X _ _ ho).symm.trans htp
      cases z
    · cases hcD
  ca := fun X I k => kw_class C X I k
end
end PySem.W
namespace KW
open PySem PySem.Spec PyProof.Rows L2
/-- an own error class of the text: x its name, C its place, ns its fields, ok what its arguments must be -/
structure ErrC (P : Program) (w : World) (K : Frag) (mg : Str → Option Value) (x : Str) (C : Addr) (ns : List Str) (ok : List V → Prop) : Prop where
  gC : mg x = some (.ref C)
  made : PySem.KErr.Mkd P w K mg C ns ok
  kC : PySem.W.keepIn K (.ref C) = true
  exC : PySem.W.subIn K (.ref C) (.type "BaseException") = some true
  tyC : PySem.W.typeIn K (.ref C) = some (.type "type")
  xf : XfC K C
  is : ExcC K C
  no : ∀ f ∈ ns, PySem.W.findIn K (.ref C) f = some none
section
variable {X : Cx} {x : Str} {C : Addr} {ns : List Str} {ok : List V → Prop}
theorem relO_zip : ∀ {ns : List Str} {vs : List V} {us : List Value}, Vals vs us → ∀ f, RelO (List.lookup f (ns.zip vs)) (List.lookup f (ns.zip us))
  | [], _, _, _, f => by simp [List.lookup, RelO]
  | n :: ns, _, _, .nil, f => by simp [List.lookup, RelO]
  | n :: ns, _, _, .cons r rs, f => by
    rw [List.zip_cons_cons, List.zip_cons_cons]
    by_cases h : f = n
    · subst h
      simp only [List.lookup, beq_self_eq_true]
      exact r
    · have q : (f == n) = false := by simpa using h
      simp only [List.lookup, q]
      exact relO_zip rs f
/-- x(args): the error made -/
def uMk (C : Addr) (ns : List Str) (ok : List V → Prop) (t : TA) : L2.St → Hp → XK → Prop := fun σ H Q => t σ H fun vs H1 => ok vs ∧ ∀ d, H1 d = none → Q (.ref C) (some d) (upd H1 d (.xd (ns.zip vs)))
theorem k_mk {e : Expr} {es : List Expr} {t : TA} {p pos : Pos} {k : Nat} (T : ErrC X.prog X.w X.K X.mg x C ns ok) (hr : Room k X.A) (ha : PA X (e :: es) t) (hg : Gl X x := by rfl) (hdb : (x == ("__debug__" : Str)) = false := by decide)
    (he : starEach (e :: es) X.env = (false, eval e X.env) :: starEach es X.env := by rfl) (hpl : (backTo pos (starEach es X.env)).any (·.1) = false := by rfl) : L2N.PMk X (.Call (.Name x p) (e :: es) [] pos) (uMk C ns ok t) := by
  intro pins s σ H Q I h
  refine wpAny_Call_Name_kw (ld_glob I hg T.gC ?_ hdb)
  refine PySem.W.callWith_K (h₀ := X.base) I.ok.mod.kin T.kC (thn (ha.run pos pins s σ H _ I h) fun us s1 hh => ?_) he hpl
  obtain ⟨vs, H1, I1, r1, okv, q1⟩ := hh
  refine ⟨I1.kIn, ?_⟩
  show wpAny _ _ (call (.ref C) us) _ _ _
  have hlim := I1.nolimit
  have G := I1.mod.glob.keeps I1.bk
  have B : ∃ mb, s1.heap.Ns builtinsNs mb ∧ ∀ x : Str, x ≠ "__name__" → mb x = bootBuiltins x := by
    obtain ⟨mb, h1, h2⟩ := I1.mod.blt
    exact ⟨mb, h1.keeps I1.bk, h2⟩
  obtain ⟨hp, g, dr, tk, os⟩ := s1
  refine wpAny_call (T.made r1 okv I1.kIn hlim G B (by exact hr.hd) (by show X.A.depth + 1 < _; have := hr.dp; omega) fun h' tk' e d M => ?_)
  show L2N.MkP X pins σ Q (.ref e) ⟨h', g, dr, tk', os⟩
  obtain ⟨oe, fv, hoe, hc, hd, hdat, h1, h2⟩ := M.obj
  have hns := M.ns
  obtain ⟨G', g1, g2⟩ := restrict h' fun b => decide (b ≠ e)
  have gk : ∀ b, b ≠ e → G'.get? b = h'.get? b := fun b hb => g1 b (decide_eq_true hb)
  have ge : G'.get? e = none := g2 e (by simp)
  have old : ∀ b o, hp.get? b = some o → G'.get? b = some o := fun b o q => (gk b (Nat.ne_of_lt (Nat.lt_of_lt_of_le (Heap.lt_size q) M.new))).trans (M.keep b o q)
  have ob : ObjOk X.prog X.w (upd H1 d (.xd (ns.zip vs))) G' d (.xd (ns.zip vs)) := ⟨_, hns.at (fun o q => (gk d M.dne).trans q), fun f => relO_zip r1 f⟩
  have J : Inv X pins σ (upd H1 d (.xd (ns.zip vs))) ⟨G', g, dr, tk', os⟩ := I1.laid (t' := tk') old M.dbig ob
  refine ⟨e, oe, fv, ⟨G', g, dr, tk', os⟩, _, .ref C, some d, rfl, J, fun b o q => ?_, ge, hoe, ⟨hc, hd, fun vs' e' => by rw [hdat] at e'; cases e'; exact h2⟩, hdat, h1, ?_, rfl, I1.bare, raises_own T.exC T.tyC, q1 d (I1.hok.fresh M.dbig)⟩
  · by_cases hb : b = e
    · have q' : G'.get? b = some o := q
      rw [hb, ge] at q'; cases q'
    · exact (gk b hb).symm.trans q
  · rw [upd_ne (Ne.symm M.dne)]
    exact I1.hok.fresh M.new
/-- raise x(..) -/
def uRaise (W : WX) (t : L2.St → Hp → XK → Prop) : TS := fun _ σ H => t σ H fun cls d H' => W cls d σ H'
theorem k_raise {W : WX} {e : Expr} {t : L2.St → Hp → XK → Prop} {pos : Pos} (tk : L2N.Takes X W) (he : L2N.PMk X e t) (hc : X.calm = true := by rfl) : PS X (.Raise (some e) none pos) (uRaise W t) := L2N.ps_raise hc tk he
/-- what does not come about -/
def uDead : TE := fun _ _ _ => False
def sDead : TS := fun _ _ _ => False
theorem k_dead {e : Expr} : PE X e uDead := ⟨fun _ _ _ _ _ _ h => h.elim⟩
theorem k_deadS {st : Stmt} : PS X st sDead := ⟨fun _ _ _ _ _ _ h => h.elim⟩
/-- e.f in the suite that holds e -/
def uEf (K : Frag) (a : Addr) (cls : Value) (d : Option Addr) (i : Nat) (f : Str) : TE := fun σ H Q => ∃ (C dd : Addr) (fs : List (Str × V)) (v : V), σ[i]? = some (some (.ref a)) ∧ cls = .ref C ∧ XfC K C ∧ PySem.W.findIn K (.ref C) f = some none ∧ d = some dd ∧ H dd = some (.xd fs) ∧ fs.lookup f = some v ∧ Q v H
theorem k_ef (i : Nat) {a : Addr} {oe : Obj} {cls : Value} {d : Option Addr} {pn : List (Addr × Obj)} {n f : Str} {p pos : Pos} (hz : Zc cls d oe) (hf : ∃ vs, oe.data = .fields vs) (hN : X.N[i]? = some n := by rfl)
    (hv : Vis X.env.scope n := by first | exact Or.inl rfl | exact Or.inr (Or.inl rfl) | exact Or.inr (Or.inr rfl)) (hd : (n == ("__debug__" : Str)) = false := by decide) (hcd : (n == ("__classdict__" : Str)) = false := by decide)
    (hb : attributeBase (.Name n p) f X.env (eval (.Name n p) X.env) = eval (.Name n p) X.env := by rfl) : PE (X.suite a ((a, oe) :: pn)) (.Attribute (.Name n p) f pos) (uEf X.K a cls d i f) := by
  refine ⟨fun pins s σ H Q I h => ?_⟩
  obtain ⟨C, dd, fs, v, e0, e1, xf, no, e2, e3, e4, q⟩ := h
  exact (pe_xf (X := X) xf no hz hf (pe_var (X := X.suite a ((a, oe) :: pn)) hN hv hd hcd) hb).run pins s σ H Q I ⟨.ref a, e0, rfl, e1, dd, fs, v, e2, e3, e4, q⟩
/-- isinstance(e, c) in the suite that holds e -/
def uIsE (K : Frag) (a : Addr) (cls : Value) (d : Option Addr) : List V → Hp → VK → Prop
  | [.ref b, .ref c], H, Q => ∃ (D dd : Addr) (fs : List (Str × V)) (r : Bool), b = a ∧ cls = .ref D ∧ ExcC K D ∧ d = some dd ∧ H dd = some (.xd fs) ∧ PySem.W.kitOne K (.ref D) (.ref c) = some r ∧ Q (.bl r) H
  | [.ref b, .ty T], H, Q => ∃ (D dd : Addr) (fs : List (Str × V)) (r : Bool), b = a ∧ cls = .ref D ∧ ExcC K D ∧ d = some dd ∧ H dd = some (.xd fs) ∧ PySem.W.kitOne K (.ref D) (.type T) = some r ∧ Q (.bl r) H
  | _, _, _ => False
theorem c_isE {a : Addr} {oe : Obj} {cls : Value} {d : Option Addr} {pn : List (Addr × Obj)} (hz : Zc cls d oe) (hf : ∃ vs, oe.data = .fields vs) : CallR (X.suite a ((a, oe) :: pn)) (.builtin "isinstance") (uIsE X.K a cls d) := by
  intro pins s σ H xs us Q I r h
  have key : ∀ {D dd : Addr} {fs : List (Str × V)} {cv : Value} {b : Bool}, cls = .ref D → ExcC X.K D → d = some dd → H dd = some (.xd fs) → PySem.W.kitOne X.K (.ref D) cv = some b → Q (.bl b) H →
      wpAny (model X.prog X.w) (X.A.mark (some (.ref a))) (call (.builtin "isinstance") [.ref a, cv]) (EP (X.suite a ((a, oe) :: pn)) pins σ Q) (fun _ _ => False) s := fun {D dd fs cv b} e1 C e2 e3 e4 q => by
    subst e1 e2
    obtain ⟨hget, _⟩ := I.pin (a, oe) (List.mem_append.mpr (.inl List.mem_cons_self))
    obtain ⟨vs, hv⟩ := hf
    obtain ⟨mA, hns, hr⟩ := (show ObjOk X.prog X.w H s.heap dd (.xd fs) from I.hok dd _ e3)
    obtain ⟨od, ho, hl⟩ := lookIn_ns hns
    have J : PySem.W.InstAt s.heap a oe D (some od) := by
      refine ⟨hget, hz.1, by unfold PySem.W.notCls; rw [hv] <;> rfl, ?_⟩
      rw [hz.2]
      exact ho
    exact PySem.W.kia_one (PySem.W.kw_kitx C) I.kIn J e4 (fun z => nomatch z) fun tk => ⟨.bl b, H, I.kept (t' := tk) fun _ _ z => z, rfl, q⟩
  unfold uIsE at h
  split at h
  · obtain ⟨D, dd, fs, b, rfl, e1, C, e2, e3, e4, q⟩ := h
    cases r with
    | cons rx rr =>
      cases rr with
      | cons rt rr =>
        cases rr
        cases rx
        cases rt
        exact key e1 C e2 e3 e4 q
  · obtain ⟨D, dd, fs, b, rfl, e1, C, e2, e3, e4, q⟩ := h
    cases r with
    | cons rx rr =>
      cases rr with
      | cons rt rr =>
        cases rr
        cases rx
        cases rt
        exact key e1 C e2 e3 e4 q
  · exact h.elim
theorem k_isE {a : Addr} {oe : Obj} {cls : Value} {d : Option Addr} {pn : List (Addr × Obj)} {e : Expr} {es : List Expr} {t : TA} {p pos : Pos} (hz : Zc cls d oe) (hf : ∃ vs, oe.data = .fields vs) (hm : X.mg "isinstance" = none) (ha : PA (X.suite a ((a, oe) :: pn)) (e :: es) t) (hg : Gl X "isinstance" := by rfl)
    (he : starEach (e :: es) X.env = (false, eval e X.env) :: starEach es X.env := by rfl) (hpl : (backTo pos (starEach es X.env)).any (·.1) = false := by rfl) : PE (X.suite a ((a, oe) :: pn)) (.Call (.Name "isinstance" p) (e :: es) [] pos) (tCB (uIsE X.K a cls d) t) :=
  pe_callB (c_isE hz hf) hg hm (by decide +kernel) ha (by decide) (by decide) he hpl
end
end KW

set_option Elab.async false
set_option linter.all false
set_option maxRecDepth 100000
set_option maxHeartbeats 4000000
/-! Kw2b: instances of plain classes: made, their fields and methods -/
namespace KW
open PySem PySem.Spec PyProof.Rows L2
/-- a plain class of the text and the names of its fields -/
structure ClsA (K : Frag) (mg : Str → Option Value) (x : Str) (C : Addr) (ns : List Str) : Prop where
  gC : mg x = some (.ref C)
  cls : Cls K C
  no : ∀ f ∈ ns, NoAttr K C f
/-- e.f -/
def uGet (K : Frag) (f : Str) : V → Hp → VK → Prop
  | .ref a, H, Q => ∃ C dx fs v, H a = some (.ins C dx fs) ∧ Cls K C ∧ NoAttr K C f ∧ fs.lookup f = some v ∧ Q v H
  | _, _, _ => False
def uFld (K : Frag) (t : TE) (f : Str) : TE := fun σ H Q => t σ H fun x H1 => uGet K f x H1 Q
section
variable {X : Cx}
theorem k_fld {e : Expr} {t : TE} {f : Str} {pos : Pos} (he : PE X e t) (hb : attributeBase e f X.env (eval e X.env) = eval e X.env) : PE X (.Attribute e f pos) (uFld X.K t f) := by
  refine PEw (pe_fld (PEw he (t' := fun σ H Q => t σ H Q) fun _ _ _ h => h) hb) fun σ H Q h => ?_
  unfold uFld at h
  unfold tFld
  have e : (fun x H1 => uGet X.K f x H1 Q) = fun x H1 => ∃ a C dx fs v, x = .ref a ∧ H1 a = some (.ins C dx fs) ∧ Cls X.K C ∧ NoAttr X.K C f ∧ fs.lookup f = some v ∧ Q v H1 := by
    funext x H1
    cases x <;> simp only [uGet, eq_iff_iff] <;> first
      | exact ⟨False.elim, fun ⟨_, _, _, _, _, z, _⟩ => nomatch z⟩
      | (rename_i p
         exact ⟨fun ⟨C, dx, fs, v, h⟩ => ⟨p, C, dx, fs, v, rfl, h⟩, fun ⟨a, C, dx, fs, v, z, h⟩ => by cases z; exact ⟨C, dx, fs, v, h⟩⟩)
  rw [e] at h
  exact h
/-- o.f = v -/
def uPut (K : Frag) (f : Str) : V → V → Hp → (Hp → Prop) → Prop
  | .ref a, y, H, Q => ∃ C dx fs, H a = some (.ins C dx fs) ∧ Cls K C ∧ NoAttr K C f ∧ fs.length < 1000 ∧ Q (upd H a (.ins C dx (putF f y fs)))
  | _, _, _, _ => False
def uSFld (K : Frag) (ta tv : TE) (f : Str) : TS := fun D σ H => tv σ H fun y H1 => ta σ H1 fun x H2 => uPut K f x y H2 fun H3 => D.nx σ H3
theorem k_sfld {o value : Expr} {ta tv : TE} {f : Str} {pos' pos : Pos} (ha : PE X o ta) (hv : PE X value tv) (hs : swapsWith value (some (.Attribute o f pos')) pos.line X.env = pure false) : PS X (.Assign [.Attribute o f pos'] value pos) (uSFld X.K ta tv f) := by
  refine PSw (ps_fld ha hv hs) fun D σ H h => ?_
  unfold uSFld at h
  unfold sFld
  have e : (fun (y : V) (H1 : Hp) => ta σ H1 fun x H2 => uPut X.K f x y H2 fun H3 => D.nx σ H3) = fun y H1 => ta σ H1 fun x H2 => ∃ a C dx fs, x = .ref a ∧ H2 a = some (.ins C dx fs) ∧ Cls X.K C ∧ NoAttr X.K C f ∧ fs.length < 1000 ∧ D.nx σ (upd H2 a (.ins C dx (putF f y fs))) := by
    funext y H1
    refine congrArg (ta σ H1) ?_
    funext x H2
    cases x <;> simp only [uPut, eq_iff_iff] <;> first
      | exact ⟨False.elim, fun ⟨_, _, _, _, z, _⟩ => nomatch z⟩
      | (rename_i p
         exact ⟨fun ⟨C, dx, fs, h⟩ => ⟨p, C, dx, fs, rfl, h⟩, fun ⟨a, C, dx, fs, z, h⟩ => by cases z; exact ⟨C, dx, fs, h⟩⟩)
  rw [e] at h
  exact h
end
section
variable {K : Frag} {mg : Str → Option Value} {x f : Str} {C a dx : Addr} {ns : List Str} {fs fs' : List (Str × V)} {v y : V} {H : Hp}
theorem get_l {Q : VK} (h : H a = some (.ins C dx fs)) (c : ClsA K mg x C ns) (m : f ∈ ns) (l : fs.lookup f = some v) (q : Q v H) : uGet K f (.ref a) H Q := ⟨C, dx, fs, v, h, c.cls, c.no f m, l, q⟩
theorem put_l {Q : Hp → Prop} (h : H a = some (.ins C dx fs)) (c : ClsA K mg x C ns) (m : f ∈ ns) (z : fs.length < 1000) (q : Q (upd H a (.ins C dx (putF f y fs)))) : uPut K f (.ref a) y H Q := ⟨C, dx, fs, h, c.cls, c.no f m, z, q⟩
end
/-! ### methods -/
/-- a def at f: ps its parameters, dvs its defaults -/
structure DfnAt (K : Frag) (x qual : Str) (st : Stmt) (ps : List Str) (dvs : List V) (f : Addr) : Prop where
  ex : ∃ fd, FunD K x qual (defArgs st) (defBody st) (defScope st) dvs [] f fd ∧ ∀ j, j ≤ dvs.length → ∃ ds, Vals (dvs.drop j) ds ∧ Binds K fd ps ds
/-- the method m of the class C -/
structure MetAt (K : Frag) (C : Addr) (m qual : Str) (st : Stmt) (ps : List Str) : Prop where
  ex : ∃ f, Meth K C m f ∧ DfnAt K m qual st ps [] f
/-- the __init__ of the class x at C -/
structure IniAt (K : Frag) (C : Addr) (qual : Str) (st : Stmt) (ps : List Str) (dvs : List V) : Prop where
  ex : ∃ f, Mk K C f ∧ DfnAt K "__init__" qual st ps dvs f
structure CalM (P : Program) (w : World) (K : Frag) (mg : Str → Option Value) (base : Heap) (k : Nat) (C : Addr) (m : Str) (sp : Sp) : Prop where
  cls : Cls K C
  ex : ∃ (f : Addr) (fd : FuncData) (ps : List Str), Meth K C m f ∧ Binds K fd ps [] ∧ FnOk P w K mg base (L2N.CX P w) k f fd ps sp
structure CalI (P : Program) (w : World) (K : Frag) (mg : Str → Option Value) (base : Heap) (k : Nat) (x : Str) (C : Addr) (dvs : List V) (sp : Sp) : Prop where
  ex : mg x = some (.ref C) ∧ ∃ (f : Addr) (fd : FuncData) (ps : List Str), Mk K C f ∧ FnOk P w K mg base (L2N.CX P w) k f fd ps sp ∧ ∀ j, j ≤ dvs.length → ∃ ds, Vals (dvs.drop j) ds ∧ Binds K fd ps ds
section
variable {P : Program} {w : World} {K : Frag} {mg : Str → Option Value} {base : Heap}
theorem DfnAt.fn {x qual : Str} {st : Stmt} {N ps : List Str} {dvs : List V} {f : Addr} {k : Nat} {sp : Sp} (D : DfnAt K x qual st ps dvs f) (S : FnScope N ps (defScope st)) (len : ∀ vs H Q E, sp vs H Q E → vs.length = ps.length)
    (hbody : ∀ (f : Addr) (cdv : Value) (A : Around) (outer : List Env) (s : Shared) (H : Hp) (vs : List V) (Q : VK) (E : XK), Room k (A.deeper (envOfC qual (defScope st) s.heap.objs.size f cdv)) → sp vs H Q E →
      ∃ t, PSs (cxOf (L2N.CX P w) P w K mg base N qual (defScope st) f cdv A outer s H E) (defBody st) t ∧ t { nx := fun _ H' => Q .non H', rt := Q } (start N vs) H) :
    ∃ fd, FnOk P w K mg base (L2N.CX P w) (k + 1) f fd ps sp ∧ ∀ j, j ≤ dvs.length → ∃ ds, Vals (dvs.drop j) ds ∧ Binds K fd ps ds := by
  obtain ⟨fd, F, hb⟩ := D.ex
  exact ⟨fd, F.ok S len fun cdv A outer s H vs Q E hr hsp => hbody f cdv A outer s H vs Q E hr hsp, hb⟩
theorem MetAt.ok {C : Addr} {m qual : Str} {st : Stmt} {N ps : List Str} {k : Nat} {sp : Sp} (D : MetAt K C m qual st ps) (c : Cls K C) (S : FnScope N ps (defScope st)) (len : ∀ vs H Q E, sp vs H Q E → vs.length = ps.length)
    (hbody : ∀ (f : Addr) (cdv : Value) (A : Around) (outer : List Env) (s : Shared) (H : Hp) (vs : List V) (Q : VK) (E : XK), Room k (A.deeper (envOfC qual (defScope st) s.heap.objs.size f cdv)) → sp vs H Q E →
      ∃ t, PSs (cxOf (L2N.CX P w) P w K mg base N qual (defScope st) f cdv A outer s H E) (defBody st) t ∧ t { nx := fun _ H' => Q .non H', rt := Q } (start N vs) H) : CalM P w K mg base (k + 1) C m sp := by
  obtain ⟨f, M, D⟩ := D.ex
  obtain ⟨fd, F, hb⟩ := D.fn S len hbody
  obtain ⟨ds, hd, b⟩ := hb 0 (Nat.le_refl _)
  cases hd
  exact ⟨c, f, fd, ps, M, b, F⟩
theorem IniAt.ok {x : Str} {C : Addr} {qual : Str} {st : Stmt} {N ps : List Str} {dvs : List V} {k : Nat} {sp : Sp} (D : IniAt K C qual st ps dvs) (g : mg x = some (.ref C)) (S : FnScope N ps (defScope st)) (len : ∀ vs H Q E, sp vs H Q E → vs.length = ps.length)
    (hbody : ∀ (f : Addr) (cdv : Value) (A : Around) (outer : List Env) (s : Shared) (H : Hp) (vs : List V) (Q : VK) (E : XK), Room k (A.deeper (envOfC qual (defScope st) s.heap.objs.size f cdv)) → sp vs H Q E →
      ∃ t, PSs (cxOf (L2N.CX P w) P w K mg base N qual (defScope st) f cdv A outer s H E) (defBody st) t ∧ t { nx := fun _ H' => Q .non H', rt := Q } (start N vs) H) : CalI P w K mg base (k + 1) x C dvs sp := by
  obtain ⟨f, M, D⟩ := D.ex
  obtain ⟨fd, F, hb⟩ := D.fn S len hbody
  exact ⟨g, f, fd, ps, M, F, hb⟩
end
/-- o.m(args): what it may let out is taken at the slots as they stand -/
def uMet (C : Addr) (m : Str) (sp : Sp) (E : L2.St → XK) (ta : TE) (t : TA) : TE := fun σ H Q => ta σ H fun x H1 => uMt C m sp (E σ) t σ x H1 Q
where uMt (C : Addr) (m : Str) (sp : Sp) (E : XK) (t : TA) (σ : L2.St) : V → Hp → VK → Prop
  | .ref a, H1, Q => ∃ dx fs, H1 a = some (.ins C dx fs) ∧ fs.lookup m = none ∧ t σ H1 fun vs H2 => sp (.ref a :: vs) H2 Q E
  | _, _, _ => False
section
variable {X : Cx} {k : Nat} {C : Addr} {m x : Str} {sp : Sp} {o e : Expr} {es : List Expr} {ta : TE} {t : TA} {apos p pos : Pos} {pl : Sem Bool}
theorem uMt_of {E : XK} {σ : L2.St} {x : V} {H : Hp} {Q : VK} (h : uMet.uMt C m sp E t σ x H Q) : ∃ a dx fs, x = .ref a ∧ H a = some (.ins C dx fs) ∧ fs.lookup m = none ∧ t σ H fun vs H2 => sp (.ref a :: vs) H2 Q E := by
  cases x with
  | ref a => obtain ⟨dx, fs, h⟩ := h; exact ⟨a, dx, fs, rfl, h⟩
  | _ => exact False.elim h
theorem km_of {E : L2.St → XK} (hx : ∀ σ, PassesAt (L2N.CX X.prog X.w) X σ (E σ)) (c : CalM X.prog X.w X.K X.mg X.base k C m sp) (hr : Room k X.A) (he : PE X o ta) (ha : PA X (e :: es) t)
    (hst : starEach (e :: es) X.env = (false, eval e X.env) :: starEach es X.env) (hpl : (backTo pos (starEach es X.env)).any (·.1) = false)
    (ht : eval (.Call (.Attribute o m apos) (e :: es) [] pos) X.env = (do
      let ov ← eval o X.env
      standAt apos.atName
      let (f, first) ← holding [ov] (getMethod ov m pl)
      callWith pos f first (backTo pos (starEach (e :: es) X.env)) (backToKw pos (keywordEach [] X.env)))) :
    PE X (.Call (.Attribute o m apos) (e :: es) [] pos) (uMet C m sp E ta t) := by
  obtain ⟨cl, f, fd, ps, hm, hb, F⟩ := c
  refine ⟨fun pins s σ H Q I h => ?_⟩
  refine PySem.W.methodCall_KW (pl := pl) (thn (he.run pins s σ H _ I h) fun u s1 ⟨x, H1, I1, rx, hu⟩ => ?_) ht
  obtain ⟨a, dx, fs, ex, ea, l, q⟩ := uMt_of hu
  subst ex
  obtain rfl : u = Value.ref a := rx
  refine getmeth_ok I1 ea cl hm l ?_
  refine PySem.W.callWith_K (h₀ := X.base) I.ok.mod.kin hm.kp (thn (ha.run pos pins s1 σ H1 _ I1 q) fun us s2 ⟨vs, H2, I2, r, q2⟩ => ⟨I2.kIn, ?_⟩) hst hpl
  exact run_fnS (us := .ref a :: us) (vs := .ref a :: vs) F hr hb (hx σ) I2 (.cons rfl r) q2
theorem km0_of {E : L2.St → XK} (hx : ∀ σ, PassesAt (L2N.CX X.prog X.w) X σ (E σ)) (c : CalM X.prog X.w X.K X.mg X.base k C m sp) (hr : Room k X.A) (he : PE X o ta)
    (ht : eval (.Call (.Attribute o m apos) [] [] pos) X.env = (do
      let ov ← eval o X.env
      standAt apos.atName
      let (f, first) ← holding [ov] (getMethod ov m pl)
      callWith pos f first (backTo pos (starEach [] X.env)) (backToKw pos (keywordEach [] X.env)))) :
    PE X (.Call (.Attribute o m apos) [] [] pos) (uMet C m sp E ta tNil) := by
  obtain ⟨cl, f, fd, ps, hm, hb, F⟩ := c
  refine ⟨fun pins s σ H Q I h => ?_⟩
  refine PySem.W.methodCall_KW (pl := pl) (thn (he.run pins s σ H _ I h) fun u s1 ⟨x, H1, I1, rx, hu⟩ => ?_) ht
  obtain ⟨a, dx, fs, ex, ea, l, q⟩ := uMt_of hu
  subst ex
  obtain rfl : u = Value.ref a := rx
  refine getmeth_ok I1 ea cl hm l ?_
  exact PySem.W.callWith_K0 (first := [.ref a]) I1.kIn hm.kp (run_fnS (us := [.ref a]) (vs := [.ref a]) F hr hb (hx σ) I1 (.cons rfl .nil) q)
theorem km (c : CalM X.prog X.w X.K X.mg X.base k C m sp) (hr : Room k X.A) (he : PE X o ta) (ha : PA X (e :: es) t)
    (hst : starEach (e :: es) X.env = (false, eval e X.env) :: starEach es X.env := by rfl) (hpl : (backTo pos (starEach es X.env)).any (·.1) = false := by rfl)
    (ht : eval (.Call (.Attribute o m apos) (e :: es) [] pos) X.env = (do
      let ov ← eval o X.env
      standAt apos.atName
      let (f, first) ← holding [ov] (getMethod ov m pl)
      callWith pos f first (backTo pos (starEach (e :: es) X.env)) (backToKw pos (keywordEach [] X.env))) := by rfl) :
    PE X (.Call (.Attribute o m apos) (e :: es) [] pos) (uMet C m sp (fun _ => E0) ta t) := km_of (fun _ => passAt0) c hr he ha hst hpl ht
theorem km0 (c : CalM X.prog X.w X.K X.mg X.base k C m sp) (hr : Room k X.A) (he : PE X o ta)
    (ht : eval (.Call (.Attribute o m apos) [] [] pos) X.env = (do
      let ov ← eval o X.env
      standAt apos.atName
      let (f, first) ← holding [ov] (getMethod ov m pl)
      callWith pos f first (backTo pos (starEach [] X.env)) (backToKw pos (keywordEach [] X.env))) := by rfl) :
    PE X (.Call (.Attribute o m apos) [] [] pos) (uMet C m sp (fun _ => E0) ta tNil) := km0_of (fun _ => passAt0) c hr he ht
theorem kmX {W : WX} (tk : L2N.Takes X W) (c : CalM X.prog X.w X.K X.mg X.base k C m sp) (hr : Room k X.A) (he : PE X o ta) (ha : PA X (e :: es) t)
    (hst : starEach (e :: es) X.env = (false, eval e X.env) :: starEach es X.env := by rfl) (hpl : (backTo pos (starEach es X.env)).any (·.1) = false := by rfl)
    (ht : eval (.Call (.Attribute o m apos) (e :: es) [] pos) X.env = (do
      let ov ← eval o X.env
      standAt apos.atName
      let (f, first) ← holding [ov] (getMethod ov m pl)
      callWith pos f first (backTo pos (starEach (e :: es) X.env)) (backToKw pos (keywordEach [] X.env))) := by rfl) :
    PE X (.Call (.Attribute o m apos) (e :: es) [] pos) (uMet C m sp (WE W) ta t) := km_of (fun σ => L2N.passAt tk σ) c hr he ha hst hpl ht
theorem kmX0 {W : WX} (tk : L2N.Takes X W) (c : CalM X.prog X.w X.K X.mg X.base k C m sp) (hr : Room k X.A) (he : PE X o ta)
    (ht : eval (.Call (.Attribute o m apos) [] [] pos) X.env = (do
      let ov ← eval o X.env
      standAt apos.atName
      let (f, first) ← holding [ov] (getMethod ov m pl)
      callWith pos f first (backTo pos (starEach [] X.env)) (backToKw pos (keywordEach [] X.env))) := by rfl) :
    PE X (.Call (.Attribute o m apos) [] [] pos) (uMet C m sp (WE W) ta tNil) := km0_of (fun σ => L2N.passAt tk σ) c hr he ht
theorem met_l {E : XK} {a dx : Addr} {fs : List (Str × V)} {σ : L2.St} {H : Hp} {Q : VK} (h : H a = some (.ins C dx fs)) (l : fs.lookup m = none) (q : t σ H fun vs H2 => sp (.ref a :: vs) H2 Q E) : uMet.uMt C m sp E t σ (.ref a) H Q := ⟨dx, fs, h, l, q⟩
/-- x(args): an instance made; the last defaults fill up -/
def uMake (C : Addr) (sp : Sp) (dvs : List V) (t : TA) : TE := fun σ H Q => t σ H fun vs H1 => ∀ x dx, H1 x = none → H1 dx = none → dx ≠ x → sp (.ref x :: (vs ++ dvs)) (upd (upd H1 dx (.own x)) x (.ins C dx [])) (fun v H2 => v = .non ∧ Q (.ref x) H2) E0
theorem pass0 : Passes (L2N.CX X.prog X.w) X E0 := fun _ _ _ _ _ _ _ h => by
  obtain ⟨_, _, _, _, _, _, _, _, _, _, _, _, z⟩ := h
  exact z.elim
theorem kmk {dvs : List V} (j : Nat) (c : CalI X.prog X.w X.K X.mg X.base k x C dvs sp) (hr : Room (k + 1) X.A) (ha : PA X (e :: es) t) (hj : j ≤ dvs.length := by decide) (hg : Gl X x := by rfl) (hdb : (x == ("__debug__" : Str)) = false := by decide)
    (he : starEach (e :: es) X.env = (false, eval e X.env) :: starEach es X.env := by rfl) (hpl : (backTo pos (starEach es X.env)).any (·.1) = false := by rfl) : PE X (.Call (.Name x p) (e :: es) [] pos) (uMake C sp (dvs.drop j) t) := by
  obtain ⟨hm, f, fd, ps, M, F, hb⟩ := c
  obtain ⟨ds, hd, b⟩ := hb j hj
  exact pe_make M F hr hg hm b hd pass0 ha hdb he hpl
theorem kmk0 {dvs : List V} (c : CalI X.prog X.w X.K X.mg X.base k x C dvs sp) (hr : Room (k + 1) X.A) (hg : Gl X x := by rfl) (hdb : (x == ("__debug__" : Str)) = false := by decide) : PE X (.Call (.Name x p) [] [] pos) (uMake C sp dvs tNil) := by
  obtain ⟨hm, f, fd, ps, M, F, hb⟩ := c
  obtain ⟨ds, hd, b⟩ := hb 0 (Nat.zero_le _)
  exact pe_make0 M F hr hg hm b hd pass0 hdb
end
end KW

set_option Elab.async false
set_option linter.all false
set_option maxRecDepth 100000
set_option maxHeartbeats 4000000
/-! Kw2c: del xs[a:] of a list -/
namespace KW
open PySem PySem.Spec PyProof.Rows L2
theorem fm_take {α : Type} (p : Nat → Bool) (a : Nat) : ∀ (l : List α) (j : Nat), (∀ k, j ≤ k → k < j + l.length → p k = decide (a ≤ k)) → (l.zipIdx j).filterMap (fun x => if p x.2 = true then none else some x.1) = l.take (a - j)
  | [], j, _ => by simp
  | x :: l, j, h => by
    have h0 := h j (Nat.le_refl _) (by simp)
    have ih := fm_take p a l (j + 1) fun k h1 h2 => h k (by omega) (by simp only [List.length_cons]; omega)
    rw [List.zipIdx_cons, List.filterMap_cons]
    by_cases c : a ≤ j
    · simp only [h0, c, decide_true, if_true]
      rw [ih, show a - j = 0 by omega, show a - (j + 1) = 0 by omega]
      simp
    · simp only [h0, c, decide_false, Bool.false_eq_true, if_false]
      rw [ih, show a - j = (a - (j + 1)) + 1 by omega]
      rfl
section
variable {prog : Program} {w : World} {A : Around} {E : Value → Shared → Prop} {s : Shared}
theorem bounds_from (a n : Nat) : sliceBounds (some (a : Int)) none none n = (((min a n : Nat) : Int), (n : Int), 1) := by
  simp only [sliceBounds, Option.getD_none]
  have h1 : ¬ ((a : Int) < 0) := by omega
  simp only [h1, if_false, show (1 : Int) > 0 by decide, if_true]
  congr 1
  omega
theorem delItem_cut {l sl : Addr} {items : Array Value} {n : Nat} {vl : Value} {a : Nat} {Q : Unit → Shared → Prop}
    (e : s.heap.get? l = some { cls := .type "list", data := .seq items n })
    (hs : s.heap.IsSliceOf sl vl .none .none) (pl : IsPart vl (some (a : Int)))
    (hsz : items.size ≤ sizeLine) (h : ∀ F : Array Value → Array Value, F items = (items.toList.take a).toArray → Q () { s with heap := s.heap.update l (Obj.mapSeq F) }) :
    wpAny (model prog w) A (delItem (.ref l) (.ref sl)) Q E s := by
  have hl : s.heap.IsList l items := PySem.IsL.isList e
  obtain ⟨os, hos, hcs, hds⟩ := id hs
  have hTs : s.TypeIs (.ref sl) "slice" := ⟨os, hos, hcs⟩
  have hstep : ¬ ((rawPart none == rawInt 0) = true) := Bool.false_ne_true
  refine wpAny_delItem_slot hl.typeIs (by decide) PySem.F.slot_list_delitem ?_
  refine wpAny_call_entry PySem.F.slot_list_delitem hl.typeIs PySem.F.entry_list_delitem ?_ (PySem.F.args_list_delitem_2 _ _)
  show wpAny _ _ (Builtin.List.listSubscript? (.ref sl) >>= _) _ _ s
  refine wpAny_bind ?_
  unfold Builtin.List.listSubscript?
  refine wpAny_bind (wpAny_specialOf hTs slice_no_index ?_)
  simp only [Option.isNone_none, if_true]
  refine wpAny_pure ?_
  show wpAny _ _ (typeOf (.ref sl) >>= _) _ _ s
  refine wpAny_bind (wpAny_typeOf hTs ?_)
  first
    | rw [if_neg (by decide)]
    | refine PySem.W.KFB.if_not (by decide) ?_
  rw [listSliceParts_eq]
  refine wpAny_bind (wpAny_bind (wpAny_field hos hds (x := .none) rfl (wpAny_bind (wpAny_listPart .none ?_))))
  rw [if_neg hstep]
  refine wpAny_bind (wpAny_field hos hds (x := vl) rfl (wpAny_bind (wpAny_listPart pl ?_)))
  refine wpAny_bind (wpAny_field hos hds (x := .none) rfl (wpAny_bind (wpAny_listPart .none (wpAny_pure ?_))))
  unfold Builtin.List.listItems
  refine wpAny_bind (wpAny_bind (wpAny_seqItems e rfl (wpAny_pure ?_)))
  refine wpAny_bind (wpAny_of_eq ((sliceIndices_raw (some (a : Int)) none none items.size (by simp)).trans (congrArg (pure : Int × Int × Int → Sem (Int × Int × Int)) (bounds_from a items.size))) ?_)
  refine wpAny_bind (wpAny_rule ?_)
  have key : ∀ (p : Nat → Bool), (∀ k, k < items.size → p k = decide (a ≤ k)) → (List.filterMap (fun x : Value × Nat => if p x.2 = true then none else some x.1) items.toList.zipIdx).toArray = (items.toList.take a).toArray := fun p hp => by
    rw [fm_take p a items.toList 0 fun k _ h2 => hp k (by rw [Array.length_toList] at h2; omega)]
    rfl
  refine wpAny_bind (m := Builtin.List.listUpdate (.ref l) _) ?_
  show wpAny _ _ (updateSeq l _) _ _ _
  have kk : ∀ k, k < items.size → (if (1 : Int) > 0 then decide (((min a items.size : Nat) : Int) ≤ (k : Int)) && decide ((k : Int) < (items.size : Int)) && (((k : Int) - ((min a items.size : Nat) : Int)) % 1 == 0) else false) = decide (a ≤ k) := fun k hk => by
    rw [if_pos (by decide)]
    have e1 : (((k : Int) - ((min a items.size : Nat) : Int)) % 1 == 0) = true := by rw [Int.emod_one]; rfl
    rw [e1, Bool.and_true]
    by_cases c : a ≤ k
    · rw [decide_eq_true c, decide_eq_true (by omega), decide_eq_true (by omega)]
      rfl
    · rw [decide_eq_false c, decide_eq_false (by omega)]
      rfl
  refine wpAny_updateSeq (hz := hsz) (_hz' := ?z) e rfl ?_
  case z =>
    refine Nat.le_trans (Nat.le_of_eq (congrArg Array.size (key _ ?_))) ?_
    · exact fun k hk => (kk k hk)
    · rw [List.size_toArray, List.length_take, Array.length_toList]
      omega
  refine wpAny_bind (wpAny_letGo ?_)
  refine wpAny_pure ⟨.none, rfl, h _ (key _ ?_)⟩
  exact fun k hk => (kk k hk)
end
section
variable {X : Cx}
/-- del xs[a:] -/
def uDelC : V → Option Int → Hp → (Hp → Prop) → Prop
  | .ref l, some a, H, Q => ∃ xs, H l = some (.lst xs) ∧ 0 ≤ a ∧ Q (upd H l (.lst (xs.take a.toNat)))
  | _, _, _, _ => False
def uDelSl (to ti : TE) : TS := fun D σ H => to σ H fun x H1 => tPart ti σ H1 fun l H2 => uDelC x l H2 fun H3 => D.nx σ H3
theorem dels_l {H : Hp} {p : Addr} {xs : List V} {a : Int} {Q : Hp → Prop} (h : H p = some (.lst xs)) (e : 0 ≤ a) (q : Q (upd H p (.lst (xs.take a.toNat)))) : uDelC (.ref p) (some a) H Q := ⟨xs, h, e, q⟩
theorem k_delsl {o i : Expr} {to ti : TE} {p2 tpos pos : Pos} (ho : PE X o to) (hi : PE X i ti) : PS X (.Delete [.Subscript o (.Slice (some i) none none p2) tpos] pos) (uDelSl to ti) := by
  refine ⟨fun pins s σ H D I h => ?_⟩
  refine wpAny_Delete (wpAny_deleteEach_cons (wpAny_delete_Subscript (thn (ho.run pins s σ H _ I h) fun u s1 ⟨x, H1, I1, rx, q1⟩ => ?_)))
  refine wpAny_Slice (thn ((po_some hi).run pins s1 σ H1 _ I1 q1) fun vl s2 ⟨l, H2, I2, pl, q2⟩ => ?_)
  rw [evalPart_none]
  refine wpAny_pure (wpAny_pure ?_)
  have I4 : Inv X pins σ H2 { s2 with heap := s2.heap.push { cls := .type "slice", data := .fields #[vl, .none, .none] } } := I2.kept (t' := s2.toks) fun b ob q => Heap.get?_push_of_some _ q
  unfold uDelC at q2
  split at q2
  · rename_i w1 p a w2
    obtain ⟨xs, hH, h0, q2⟩ := q2
    obtain rfl : u = Value.ref p := rx
    obtain ⟨a', rfl⟩ := Int.eq_ofNat_of_zero_le h0
    obtain ⟨z, its, n, r, hl, e⟩ := I4.lstM hH
    rw [Int.toNat_natCast] at q2
    refine delItem_cut (a := a') e (Heap.IsSliceOf.new ..) pl (by rw [List.size_toArray]; omega) fun F hF => wpAny_deleteEach_nil ⟨σ, _, ?_, q2⟩
    refine I4.lset (its' := its.take a') (t' := s2.toks) hH e hF (r.take _) ?_
    rw [List.length_take]
    omega
  · exact q2.elim
end
end KW

set_option Elab.async false
set_option linter.all false
set_option maxRecDepth 100000
set_option maxHeartbeats 4000000
/-! Kw2d: dicts, texts and built-ins -/
namespace KW
open PySem PySem.Spec PyProof.Rows L2
section
variable {X : Cx} {o i e value : Expr} {pos pos' tpos : Pos} {td ty tv : TE}
/-- d[y] -/
def uDGet : V → V → Hp → VK → Prop
  | .ref a, .int i, H, Q => ∃ kvs v, H a = some (.dK kvs) ∧ valV kvs (.inl i) = some v ∧ Q v H
  | .ref a, .str i, H, Q => ∃ kvs v, H a = some (.dK kvs) ∧ valV kvs (.inr i) = some v ∧ Q v H
  | _, _, _, _ => False
theorem uDGet_of {x y : V} {H2 : Hp} {Q : VK} (q : uDGet x y H2 Q) : ∃ a v, x = .ref a ∧ DGet H2 a y (some v) ∧ Q v H2 := by
  unfold uDGet at q
  split at q
  · obtain ⟨kvs, v, h1, h2, q⟩ := q
    exact ⟨_, v, rfl, by rw [← h2]; exact DGet.k (k := .inl _) h1, q⟩
  · obtain ⟨kvs, v, h1, h2, q⟩ := q
    exact ⟨_, v, rfl, by rw [← h2]; exact DGet.k (k := .inr _) h1, q⟩
  · exact q.elim
def tDG (td ty : TE) : TE := fun σ H Q => td σ H fun x H1 => ty σ H1 fun y H2 => uDGet x y H2 Q
theorem k_dget (hu : X.A.units + 1 < cLine) (ho : PE X o td) (hi : PE X i ty) (hs : NoSl i := by intro _ _; rfl) : PE X (.Subscript o i pos) (tDG td ty) := by
  refine ⟨fun pins s σ H Q I h => ?_⟩
  refine subD_of PySem.F.slot_dict_getitem.lookup hs (thn (ho.run pins s σ H _ I h) fun u s1 ⟨x, H1, I1, rx, q1⟩ => thn (hi.run pins s1 σ H1 _ I1 q1) fun iv s2 ⟨y, H2, I2, ry, q2⟩ => ?_)
  obtain ⟨a, v, ex, g, q5⟩ := uDGet_of q2
  subst ex
  obtain rfl : u = Value.ref a := rx
  exact ⟨dict_typeIs I2 g, d_getItem hu I2 g ry fun w' s3 I3 rw' => ⟨v, H2, I3, rw', q5⟩⟩
/-- y in d -/
def uDIn : V → V → Hp → (Bool → Prop) → Prop
  | .int i, .ref a, H, Q => ∃ kvs, H a = some (.dK kvs) ∧ Q (valV kvs (.inl i)).isSome
  | .str i, .ref a, H, Q => ∃ kvs, H a = some (.dK kvs) ∧ Q (valV kvs (.inr i)).isSome
  | _, _, _, _ => False
theorem uDIn_of {x y : V} {H2 : Hp} {Q : Bool → Prop} (q : uDIn y x H2 Q) : ∃ a o, x = .ref a ∧ DGet H2 a y o ∧ Q o.isSome := by
  unfold uDIn at q
  split at q
  · obtain ⟨kvs, h1, q⟩ := q
    exact ⟨_, _, rfl, DGet.k (k := .inl _) h1, q⟩
  · obtain ⟨kvs, h1, q⟩ := q
    exact ⟨_, _, rfl, DGet.k (k := .inr _) h1, q⟩
  · exact q.elim
def tDI (ty td : TE) : TE := fun σ H Q => ty σ H fun y H1 => td σ H1 fun x H2 => uDIn y x H2 fun b => Q (.bl b) H2
def tDNI (ty td : TE) : TE := fun σ H Q => ty σ H fun y H1 => td σ H1 fun x H2 => uDIn y x H2 fun b => Q (.bl (!b)) H2
theorem k_din (hu : X.A.units + 1 < cLine) (hi : PE X i ty) (ho : PE X o td) : PC X .In i o (tDI ty td) := by
  refine ⟨fun pins s σ H Q I h => ?_⟩
  refine thn (hi.run pins s σ H _ I h) fun iv s1 ⟨y, H1, I1, ry, q1⟩ => thn (ho.run pins s1 σ H1 _ I1 q1) fun u s2 ⟨x, H2, I2, rx, q2⟩ => ?_
  obtain ⟨a, ov, ex, g, q5⟩ := uDIn_of q2
  subst ex
  obtain rfl : u = Value.ref a := rx
  exact d_in hu I2 g ry fun s3 I3 => ⟨.bl ov.isSome, H2, I3, rfl, q5⟩
theorem k_dnotin (hu : X.A.units + 1 < cLine) (hi : PE X i ty) (ho : PE X o td) : PC X .NotIn i o (tDNI ty td) := by
  refine ⟨fun pins s σ H Q I h => ?_⟩
  refine thn (hi.run pins s σ H _ I h) fun iv s1 ⟨y, H1, I1, ry, q1⟩ => thn (ho.run pins s1 σ H1 _ I1 q1) fun u s2 ⟨x, H2, I2, rx, q2⟩ => ?_
  obtain ⟨a, ov, ex, g, q5⟩ := uDIn_of q2
  subst ex
  obtain rfl : u = Value.ref a := rx
  exact d_notIn hu I2 g ry fun s3 I3 => ⟨.bl (!ov.isSome), H2, I3, rfl, q5⟩
/-- d[y] = v -/
def uDPut : V → V → V → Hp → (Hp → Prop) → Prop
  | .ref a, .int i, v, H, Q => ∃ kvs, H a = some (.dK kvs) ∧ kvs.length < sizeLine ∧ Q (upd H a (.dK (putK kvs (.inl i) v)))
  | .ref a, .str i, v, H, Q => ∃ kvs, H a = some (.dK kvs) ∧ kvs.length < sizeLine ∧ Q (upd H a (.dK (putK kvs (.inr i) v)))
  | _, _, _, _, _ => False
theorem uDPut_of {x y v : V} {H : Hp} {Q : Hp → Prop} (q : uDPut x y v H Q) : ∃ a H4, x = .ref a ∧ DPut H a y v H4 ∧ Q H4 := by
  unfold uDPut at q
  split at q
  · obtain ⟨kvs, h1, h2, q⟩ := q
    exact ⟨_, _, rfl, DPut.k (k := .inl _) h1 h2, q⟩
  · obtain ⟨kvs, h1, h2, q⟩ := q
    exact ⟨_, _, rfl, DPut.k (k := .inr _) h1 h2, q⟩
  · exact q.elim
def tDP (td ty tv : TE) : TS := fun D σ H => tv σ H fun v H1 => td σ H1 fun x H2 => ty σ H2 fun y H3 => uDPut x y v H3 fun H4 => D.nx σ H4
theorem k_dput (hu : X.A.units + 1 < cLine) (ho : PE X o td) (hi : PE X i ty) (hv : PE X value tv) (hs : swapsWith value (some (.Subscript o i pos')) pos.line X.env = pure false := by rfl) :
    PS X (.Assign [.Subscript o i pos'] value pos) (tDP td ty tv) := by
  refine ⟨fun pins s σ H D I h => ?_⟩
  refine wpAny_Assign_Subscript (thn (hv.run pins s σ H _ I h) fun r s1 ⟨v, H1, I1, rv, q1⟩ => thn (ho.run pins s1 σ H1 _ I1 q1) fun u s2 ⟨x, H2, I2, rx, q2⟩ => thn (hi.run pins s2 σ H2 _ I2 q2) fun iv s3 ⟨y, H3, I3, ry, q3⟩ => ?_) hs
  obtain ⟨a, H4, ex, g, q5⟩ := uDPut_of q3
  subst ex
  obtain rfl : u = Value.ref a := rx
  exact d_setItem hu I3 g ry rv fun s4 I4 => ⟨σ, H4, I4, q5⟩
/-- del d[y] -/
def uDDel : V → V → Hp → (Hp → Prop) → Prop
  | .ref a, .int i, H, Q => ∃ kvs, H a = some (.dK kvs) ∧ (valV kvs (.inl i)).isSome = true ∧ Q (upd H a (.dK (dropK kvs (.inl i))))
  | .ref a, .str i, H, Q => ∃ kvs, H a = some (.dK kvs) ∧ (valV kvs (.inr i)).isSome = true ∧ Q (upd H a (.dK (dropK kvs (.inr i))))
  | _, _, _, _ => False
theorem uDDel_of {x y : V} {H2 : Hp} {Q : Hp → Prop} (q : uDDel x y H2 Q) : ∃ a kvs k, x = .ref a ∧ H2 a = some (.dK kvs) ∧ y = kV k ∧ (valV kvs k).isSome = true ∧ Q (upd H2 a (.dK (dropK kvs k))) := by
  unfold uDDel at q
  split at q
  · obtain ⟨kvs, h1, h2, q⟩ := q
    exact ⟨_, kvs, .inl _, rfl, h1, rfl, h2, q⟩
  · obtain ⟨kvs, h1, h2, q⟩ := q
    exact ⟨_, kvs, .inr _, rfl, h1, rfl, h2, q⟩
  · exact q.elim
def tDD (td ty : TE) : TS := fun D σ H => td σ H fun x H1 => ty σ H1 fun y H2 => uDDel x y H2 fun H3 => D.nx σ H3
theorem k_ddel (ho : PE X o td) (hi : PE X i ty) : PS X (.Delete [.Subscript o i tpos] pos) (tDD td ty) := by
  refine ⟨fun pins s σ H D I h => ?_⟩
  refine wpAny_Delete (wpAny_deleteEach_cons (wpAny_delete_Subscript (thn (ho.run pins s σ H _ I h) fun u s1 ⟨x, H1, I1, rx, q1⟩ => thn (hi.run pins s1 σ H1 _ I1 q1) fun iv s2 ⟨y, H2, I2, ry, q2⟩ => ?_)))
  obtain ⟨a, kvs, k, ex, e, ey, l, q5⟩ := uDDel_of q2
  subst ex ey
  obtain rfl : u = Value.ref a := rx
  exact d_delItem I2 e ry l fun s3 I3 => wpAny_deleteEach_nil ⟨σ, _, I3, q5⟩
end
section
variable {H : Hp} {a : Addr} {kvs : List (Key × V)} {v : V} {i : Int} {x : Str}
theorem dget_i {Q : VK} (h : H a = some (.dK kvs)) (e : valV kvs (.inl i) = some v) (q : Q v H) : uDGet (.ref a) (.int i) H Q := ⟨kvs, v, h, e, q⟩
theorem dget_s {Q : VK} (h : H a = some (.dK kvs)) (e : valV kvs (.inr x) = some v) (q : Q v H) : uDGet (.ref a) (.str x) H Q := ⟨kvs, v, h, e, q⟩
theorem din_i {Q : Bool → Prop} (h : H a = some (.dK kvs)) (q : Q (valV kvs (.inl i)).isSome) : uDIn (.int i) (.ref a) H Q := ⟨kvs, h, q⟩
theorem din_s {Q : Bool → Prop} (h : H a = some (.dK kvs)) (q : Q (valV kvs (.inr x)).isSome) : uDIn (.str x) (.ref a) H Q := ⟨kvs, h, q⟩
theorem dput_i {Q : Hp → Prop} (h : H a = some (.dK kvs)) (e : kvs.length < sizeLine) (q : Q (upd H a (.dK (putK kvs (.inl i) v)))) : uDPut (.ref a) (.int i) v H Q := ⟨kvs, h, e, q⟩
theorem dput_s {Q : Hp → Prop} (h : H a = some (.dK kvs)) (e : kvs.length < sizeLine) (q : Q (upd H a (.dK (putK kvs (.inr x) v)))) : uDPut (.ref a) (.str x) v H Q := ⟨kvs, h, e, q⟩
theorem ddel_i {Q : Hp → Prop} (h : H a = some (.dK kvs)) (e : (valV kvs (.inl i)).isSome = true) (q : Q (upd H a (.dK (dropK kvs (.inl i))))) : uDDel (.ref a) (.int i) H Q := ⟨kvs, h, e, q⟩
theorem ddel_s {Q : Hp → Prop} (h : H a = some (.dK kvs)) (e : (valV kvs (.inr x)).isSome = true) (q : Q (upd H a (.dK (dropK kvs (.inr x))))) : uDDel (.ref a) (.str x) H Q := ⟨kvs, h, e, q⟩
end
/-! ### built-ins -/
section
variable {X : Cx}
/-- list(xs): of a list or a tuple -/
def uList (K : Frag) : List V → Hp → VK → Prop
  | [.ref p], H, Q => ∃ ys, (SqL K H p ys ∨ SqT K H p ys) ∧ ∀ l, H l = none → Q (.ref l) (upd H l (.lst ys))
  | _, _, _ => False
theorem c_list : CallR X (.type "list") (uList X.K) := CallRw call_list_of fun xs H Q h => by
  unfold uList at h
  split at h
  · obtain ⟨ys, hs, q⟩ := h
    exact ⟨_, ys, rfl, hs, q⟩
  · exact h.elim
theorem list_l {K : Frag} {H : Hp} {p : Addr} {ys : List V} {Q : VK} (h : H p = some (.lst ys)) (q : ∀ l, H l = none → Q (.ref l) (upd H l (.lst ys))) : uList K [.ref p] H Q := ⟨ys, .inl (.of h), q⟩
theorem list_t {K : Frag} {H : Hp} {p : Addr} {ys : List V} {Q : VK} (h : H p = some (.tup ys)) (q : ∀ l, H l = none → Q (.ref l) (upd H l (.lst ys))) : uList K [.ref p] H Q := ⟨ys, .inr (.of h), q⟩
theorem list_sl {K : Frag} {H : Hp} {p : Addr} {ys : List V} {Q : VK} (h : SqL K H p ys) (q : ∀ l, H l = none → Q (.ref l) (upd H l (.lst ys))) : uList K [.ref p] H Q := ⟨ys, .inl h, q⟩
/-- str(x) -/
def uStr : List V → Hp → VK → Prop
  | [.int i], H, Q => i.natAbs.log2 < 1920 ∧ Q (.str (toString i)) H
  | [.str a], H, Q => Q (.str a) H
  | _, _, _ => False
theorem c_str : CallR X (.type "str") uStr := CallRw (r := fun xs H Q => (∃ i, xs = [.int i] ∧ i.natAbs.log2 < 1920 ∧ Q (.str (toString i)) H) ∨ ∃ a, xs = [.str a] ∧ Q (.str a) H) (by
  intro pins s σ H xs us Q I r h
  rcases h with h | h
  · exact call_str_int pins s σ H xs us Q I r h
  · exact SkE.call_str_str pins s σ H xs us Q I r h) fun xs H Q h => by
  unfold uStr at h
  split at h
  · exact .inl ⟨_, rfl, h.1, h.2⟩
  · exact .inr ⟨_, rfl, h⟩
  · exact h.elim
/-- text * k -/
theorem foldl_cps (a : Array Nat) : ∀ (m : Nat) (acc : Array Nat), (List.replicate m a).foldl (· ++ ·) acc = acc ++ (List.replicate m a.toList).flatten.toArray
  | 0, acc => by simp
  | m + 1, acc => by
    rw [List.replicate_succ, List.foldl_cons, foldl_cps a m, List.replicate_succ, List.flatten_cons]
    apply Array.toList_inj.mp
    simp
def repS (a : Str) (k : Nat) : Str := S (List.replicate k a.cps.toList).flatten
theorem repS_len (a : Str) (k : Nat) : (repS a k).length = a.length * k := by
  unfold repS
  rw [S_len]
  have : ∀ k, ((List.replicate k a.cps.toList).flatten).length = a.cps.toList.length * k := fun k => by
    induction k with
    | zero => simp
    | succ k ih => rw [List.replicate_succ, List.flatten_cons, List.length_append, ih, Nat.mul_succ, Nat.add_comm]
  rw [this]
  rfl
theorem op_repS : OpR X (binaryOp .Mult) (fun x y H Q => ∃ a k, x = .str a ∧ y = .int k ∧ 0 ≤ k ∧ k ≤ 1000000 ∧ a.length * k.toNat ≤ sizeLine ∧ Q (.str (repS a k.toNat)) H) := by
  intro pins s σ H x y v u Q I rx ry h
  obtain ⟨a, k, rfl, rfl, h0, h1, hz, q⟩ := h
  obtain ⟨t, rfl⟩ := rx
  obtain ⟨tu, rfl⟩ := ry
  have e1 : (decide (k < -(2 ^ 63 : Int)) || decide (k ≥ 2 ^ 63)) = false := by
    rw [decide_eq_false (by omega), decide_eq_false (by omega)]; rfl
  have hs : sizeLine = 16777216 := sizeLine_eq
  have tl : Builtin.Str.tooLong (a.length * k.toNat) = false := by
    first
      | exact decide_eq_false (by omega)
      | (unfold Builtin.Str.tooLong; exact decide_eq_false (by omega))
      | (unfold Builtin.Str.tooLong; simp; omega)
  refine PySem.P.mul_str e1 (fun h2 h3 => ?_) (fun _ _ => tl) ?_
  · have h4 : (k == 1 || a.length == 0) = false := h3
    have p : 1 ≤ k := by omega
    have hl : (a.length : Int) ≤ 16777216 := by
      have : a.length * 1 ≤ a.length * k.toNat := Nat.mul_le_mul_left _ (by omega)
      omega
    have : (16777216 : Int) ≤ (2 ^ 63 - 1) / k := by
      rw [Int.le_ediv_iff_mul_le (by omega)]
      omega
    omega
  · by_cases c : k < 1
    · rw [if_pos c]
      have e : k = 0 := by omega
      subst e
      exact ⟨by decide, ⟨.str _, H, I.tok _, ⟨_, rfl⟩, q⟩⟩
    · rw [if_neg c]
      by_cases c2 : (k == 1 || a.length == 0) = true
      · rw [if_pos c2]
        have e : repS a k.toNat = a := by
          rcases (by simpa using c2 : k = 1 ∨ a.length = 0) with e | e
          · subst e
            show S (List.replicate 1 a.cps.toList).flatten = a
            rw [show (List.replicate 1 a.cps.toList).flatten = a.cps.toList by simp, S_tl]
          · have l0 : (repS a k.toNat).length = 0 := by rw [repS_len, e, Nat.zero_mul]
            have z : ∀ x : Str, x.length = 0 → x = S [] := fun x hx => by
              rw [← S_tl x]
              have : x.cps.toList = [] := List.eq_nil_of_length_eq_zero (by have : x.cps.toList.length = x.length := rfl; omega)
              rw [this]
            rw [z _ l0, z _ e]
        rw [e] at q
        exact ⟨.str _, H, I, ⟨_, rfl⟩, q⟩
      · rw [if_neg c2]
        have e : (⟨(List.replicate k.toNat a.cps).foldl (· ++ ·) #[]⟩ : Str) = repS a k.toNat := by
          rw [foldl_cps]
          unfold repS
          show _ = Str.mk _
          congr 1
          simp
        rw [e]
        exact ⟨by rw [repS_len]; exact hz, ⟨.str _, H, I.tok _, ⟨_, rfl⟩, q⟩⟩
/-- times: ints, texts, lists -/
def uMul2 : R2
  | .int i, .int j, H, Q => (CMul i j ∨ CMulW i j ∨ CMulX i j) ∧ Q (.int (i * j)) H
  | .str a, .int k, H, Q => 0 ≤ k ∧ k ≤ 1000000 ∧ a.length * k.toNat ≤ sizeLine ∧ Q (.str (repS a k.toNat)) H
  | .ref l, .int k, H, Q => ∃ xs, H l = some (.lst xs) ∧ 0 ≤ k ∧ k ≤ 1000000 ∧ xs.length * k.toNat ≤ sizeLine ∧ ∀ p, H p = none → Q (.ref p) (upd H p (.lst (List.replicate k.toNat xs).flatten))
  | _, _, _, _ => False
theorem o_mul2 : OpR X (binaryOp .Mult) uMul2 := OpRw (op_mul.or (op_mulW.or (op_mulX.or (op_repS.or op_rep)))) fun x y H Q h => by
  unfold uMul2 at h
  split at h
  · obtain ⟨c | c | c, h⟩ := h
    · exact .inl ⟨_, _, rfl, rfl, c, h⟩
    · exact .inr (.inl ⟨_, _, rfl, rfl, c, h⟩)
    · exact .inr (.inr (.inl ⟨_, _, rfl, rfl, c, h⟩))
  · exact .inr (.inr (.inr (.inl ⟨_, _, rfl, rfl, h.1, h.2.1, h.2.2.1, h.2.2.2⟩)))
  · obtain ⟨xs, h1, h2, h3, h4, q⟩ := h
    exact .inr (.inr (.inr (.inr ⟨_, _, xs, rfl, rfl, h1, by omega, by omega, h4, q⟩)))
  · exact h.elim
theorem mul2_l {i j : Int} (h : -18446744073709551616 < i ∧ i < 18446744073709551616) : CMul i j ∨ CMulW i j ∨ CMulX i j := .inl (.inl ⟨by omega, by omega⟩)
theorem mul2_r {i j : Int} (h : -18446744073709551616 < j ∧ j < 18446744073709551616) : CMul i j ∨ CMulW i j ∨ CMulX i j := .inl (.inr ⟨by omega, by omega⟩)
theorem rep_l {H : Hp} {l : Addr} {k : Int} {xs : List V} {Q : VK} (h : H l = some (.lst xs)) (h0 : 0 ≤ k) (h1 : k ≤ 1000000) (h2 : xs.length * k.toNat ≤ sizeLine) (q : ∀ p, H p = none → Q (.ref p) (upd H p (.lst (List.replicate k.toNat xs).flatten))) : uMul2 (.ref l) (.int k) H Q := ⟨xs, h, h0, h1, h2, q⟩
end
end KW

set_option Elab.async false
set_option linter.all false
set_option maxRecDepth 100000
set_option maxHeartbeats 4000000
/-! Kw2e: what the top leaves, made; case lemmas; steps -/
namespace KW
open PySem PySem.Spec PyProof.Rows L2
section
variable {K : Frag} {mg : Str → Option Value} {h : Heap} {x m qual : Str} {C f T : Addr} {st : Stmt} {ns ps : List Str} {oc : Value} {od an : Option Addr} {osl : Array (Option Value)} {kV doc pm cdv ct : Value}
theorem clsA_mk (X : K.In h) (G : h.Ns mainGlobals mg) (a : PySem.W.nsIn K mainGlobals x = some (some (.ref C))) (pg : PySem.W.plainGet K C Str.empty = true) (hd : PySem.W.hasDictIn K C = true) (po : PySem.W.plainOver K C = true)
    (sa : PySem.W.findIn K (.ref C) "__setattr__" = some (some (.builtin "object.__setattr__"))) (no : ∀ f ∈ ns, PySem.W.findIn K (.ref C) f = some none) : ClsA K mg x C ns :=
  ⟨PySem.W.mg_of X G a, ⟨pg, hd, po, sa⟩, no⟩
theorem metAt_mk (a : PySem.W.findIn K (.ref C) m = some (some (.ref f))) (fn : PySem.W.isFn K (.ref f) = true) (kp : PySem.W.keepIn K (.ref f) = true)
    (l : K.lookup f = some ⟨oc, od, .func (PySem.W.fnOf m qual (defArgs st) (defBody st) (defScope st) .none kV doc pm an cdv ct), osl⟩) (c : PySem.W.codeIn K cdv qual = true)
    (hb : ∀ (kV doc pm : Value) (an : Option Addr) (cdv ct : Value) (us : List Value), us.length = ps.length → bindArgs (PySem.W.fnOf m qual (defArgs st) (defBody st) (defScope st) .none kV doc pm an cdv ct) ⟨us, []⟩ = pure (ps.zip us)) : MetAt K C m qual st ps := by
  have F : FunD K m qual (defArgs st) (defBody st) (defScope st) [] [] f _ := ⟨⟨oc, od, .none, kV, doc, pm, an, cdv, ct, osl, rfl, l, c, .inl ⟨rfl, rfl⟩, .inl rfl⟩, kp⟩
  exact ⟨f, ⟨a, fn, kp⟩, _, F, fun j hj => ⟨[], by simpa using Paired.nil, F.bindsN hb⟩⟩
theorem iniAt_mk (kc : PySem.W.keepIn K (.ref C) = true) (mk : PySem.W.makesIn K C = true) (a : PySem.W.findIn K (.ref C) "__init__" = some (some (.ref f))) (fn : PySem.W.isFn K (.ref f) = true) (kp : PySem.W.keepIn K (.ref f) = true)
    (l : K.lookup f = some ⟨oc, od, .func (PySem.W.fnOf "__init__" qual (defArgs st) (defBody st) (defScope st) .none kV doc pm an cdv ct), osl⟩) (c : PySem.W.codeIn K cdv qual = true)
    (hb : ∀ (kV doc pm : Value) (an : Option Addr) (cdv ct : Value) (us : List Value), us.length = ps.length → bindArgs (PySem.W.fnOf "__init__" qual (defArgs st) (defBody st) (defScope st) .none kV doc pm an cdv ct) ⟨us, []⟩ = pure (ps.zip us)) : IniAt K C qual st ps [] := by
  have F : FunD K "__init__" qual (defArgs st) (defBody st) (defScope st) [] [] f _ := ⟨⟨oc, od, .none, kV, doc, pm, an, cdv, ct, osl, rfl, l, c, .inl ⟨rfl, rfl⟩, .inl rfl⟩, kp⟩
  exact ⟨f, ⟨mk, a, fn, kc⟩, _, F, fun j hj => ⟨[], by simpa using Paired.nil, F.bindsN hb⟩⟩
theorem iniAt_mkD {dvs : List V} {its : List Value} {o : Obj} {n : Nat} (kc : PySem.W.keepIn K (.ref C) = true) (mk : PySem.W.makesIn K C = true) (a : PySem.W.findIn K (.ref C) "__init__" = some (some (.ref f))) (fn : PySem.W.isFn K (.ref f) = true) (kp : PySem.W.keepIn K (.ref f) = true)
    (l : K.lookup f = some ⟨oc, od, .func (PySem.W.fnOf "__init__" qual (defArgs st) (defBody st) (defScope st) (.ref T) kV doc pm an cdv ct), osl⟩) (c : PySem.W.codeIn K cdv qual = true)
    (lT : K.lookup T = some o) (oT : o.data = .seq its.toArray n) (r : Vals dvs its) (hd : dvs ≠ []) (hl : dvs.length ≤ ps.length)
    (hb : ∀ j, j ≤ dvs.length → ∀ (T : Addr) (kV doc pm : Value) (an : Option Addr) (cdv ct : Value) (us its : List Value), us.length = ps.length - (dvs.length - j) → its.length = dvs.length →
      ∃ k, bindArgs (PySem.W.fnOf "__init__" qual (defArgs st) (defBody st) (defScope st) (.ref T) kV doc pm an cdv ct) ⟨us, []⟩ = seqItems? (.ref T) >>= k ∧ k (some its.toArray) = pure (ps.zip (us ++ its.drop j))) : IniAt K C qual st ps dvs := by
  have F : FunD K "__init__" qual (defArgs st) (defBody st) (defScope st) dvs [] f _ := ⟨⟨oc, od, .ref T, kV, doc, pm, an, cdv, ct, osl, rfl, l, c, .inr ⟨hd, T, o, its, n, rfl, lT, oT, r⟩, .inl rfl⟩, kp⟩
  exact ⟨f, ⟨mk, a, fn, kc⟩, _, F, fun j hj => F.binds1 (ps.length - (dvs.length - j)) j hd (by omega) (hb j hj)⟩
end
/-! ### case lemmas -/
theorem uStr_e1 {i : Int} {H : Hp} {Q : VK} : uStr [.int i] H Q = (i.natAbs.log2 < 1920 ∧ Q (.str (toString i)) H) := rfl
theorem uStr_e2 {a : Str} {H : Hp} {Q : VK} : uStr [.str a] H Q = Q (.str a) H := rfl
theorem uMul2_e1 {i j : Int} {H : Hp} {Q : VK} : uMul2 (.int i) (.int j) H Q = ((CMul i j ∨ CMulW i j ∨ CMulX i j) ∧ Q (.int (i * j)) H) := rfl
theorem uMul2_e2 {a : Str} {k : Int} {H : Hp} {Q : VK} : uMul2 (.str a) (.int k) H Q = (0 ≤ k ∧ k ≤ 1000000 ∧ a.length * k.toNat ≤ sizeLine ∧ Q (.str (repS a k.toNat)) H) := rfl
theorem okS_i {n : Int} : PySem.KErr.okS (.int n) = (n.natAbs < 10 ^ 4300) := rfl
theorem okS_s {x : Str} : PySem.KErr.okS (.str x) = True := rfl
theorem small4300 {n : Int} (h : -100000000000000000000000000000000000000000000000000000000000000000000000000000000 < n ∧ n < 100000000000000000000000000000000000000000000000000000000000000000000000000000000) : n.natAbs < 10 ^ 4300 := by
  refine Nat.lt_of_lt_of_le (show n.natAbs < 10 ^ 80 by omega) (Nat.pow_le_pow_right (by decide) (by decide))
theorem WE_e {W : WX} {σ : L2.St} {c : Value} {d : Option Addr} {H : Hp} : WE W σ c d H = W c d σ H := rfl
/-! ### errors caught or let through -/
section
variable {K : Frag} {c cls : Value} {d : Option Addr} {i : Nat} {ts : Addr → Value → Option Addr → TS} {W : WX} {D : Ends} {σ : L2.St} {H : Hp}
theorem as_yes (h : PySem.W.exmOne K cls c = some true) (q : ∀ a, H a = none → ts a cls d { nx := fun σ' H' => D.nx (σ'.set i none) H', rt := D.rt, bk := fun σ' H' => D.bk (σ'.set i none) H', ct := fun σ' H' => D.ct (σ'.set i none) H' } (σ.set i (some (.ref a))) H) : wAs K c i ts W D cls d σ H :=
  ⟨true, h, ⟨fun _ => q, fun z => absurd z.symm Bool.false_ne_true⟩⟩
theorem as_no (h : PySem.W.exmOne K cls c = some false) (q : W cls d σ H) : wAs K c i ts W D cls d σ H := ⟨false, h, ⟨fun z => absurd z Bool.false_ne_true, fun _ => q⟩⟩
variable {a C dd : Addr} {fs : List (Str × V)} {v : V} {f : Str} {Q : VK} {P : Program} {w : World} {mg : Str → Option Value} {x : Str} {ns : List Str} {ok : List V → Prop}
theorem ef_l (c : ErrC P w K mg x C ns ok) (m : f ∈ ns) (e : σ[i]? = some (some (.ref a))) (h : H dd = some (.xd fs)) (l : fs.lookup f = some v) (q : Q v H) : uEf K a (.ref C) (some dd) i f σ H Q := ⟨C, dd, fs, v, e, rfl, c.xf, c.no f m, rfl, h, l, q⟩
theorem isE_r {b : Addr} {r : Bool} (c : ErrC P w K mg x C ns ok) (h : H dd = some (.xd fs)) (k : PySem.W.kitOne K (.ref C) (.ref b) = some r) (q : Q (.bl r) H) : uIsE K a (.ref C) (some dd) [.ref a, .ref b] H Q := ⟨C, dd, fs, r, rfl, rfl, c.is, rfl, h, k, q⟩
theorem isE_t {T : String} {r : Bool} (c : ErrC P w K mg x C ns ok) (h : H dd = some (.xd fs)) (k : PySem.W.kitOne K (.ref C) (.type T) = some r) (q : Q (.bl r) H) : uIsE K a (.ref C) (some dd) [.ref a, .ty T] H Q := ⟨C, dd, fs, r, rfl, rfl, c.is, rfl, h, k, q⟩
end
section
variable {H : Hp} {a b p : Addr} {o : HO}
theorem upd_none : upd H a o p = none ↔ p ≠ a ∧ H p = none := by
  by_cases h : p = a
  · subst h; rw [upd_same]; simp
  · rw [upd_ne h]; simp [h]
theorem ne_ud (h : upd H a o p = none) : p ≠ a := (upd_none.mp h).1
theorem ne_un (h : upd H a o p = none) : H p = none := (upd_none.mp h).2
theorem ne_n (h2 : H b = some o) (h : H p = none) : p ≠ b := fun e => by subst e; rw [h] at h2; cases h2
theorem ne_m (h : H p = none) (h2 : H b = some o) : p ≠ b := ne_n h2 h
theorem putF_nil {f : Str} {v : V} : putF f v [] = [(f, v)] := rfl
theorem putF_cons {f g : Str} {v x : V} {r : List (Str × V)} : putF f v ((g, x) :: r) = if g = f then (g, v) :: r else (g, x) :: putF f v r := rfl
end
end KW

set_option Elab.async false
set_option linter.all false
set_option maxRecDepth 100000
set_option maxHeartbeats 4000000
/-! Kw2f: methods of lists, stepwise; lists of texts and of ints -/
namespace KW
open PySem PySem.Spec PyProof.Rows L2
section
variable {K : Frag} {H : Hp} {l b p : Addr} {xs zs : List V} {y v : V} {Q : VK}
theorem app_l (h : H l = some (.lst xs)) (z : xs.length < sizeLine) (q : Q .non (upd H l (.lst (xs ++ [y])))) : rAppend (.ref l) [y] H Q := ⟨l, xs, y, rfl, rfl, h, z, q⟩
theorem ext_l (h : H l = some (.lst xs)) (h2 : H b = some (.lst zs)) (z : xs.length + zs.length ≤ sizeLine) (q : Q .non (upd H l (.lst (xs ++ zs)))) : rExtend (.ref l) [.ref b] H Q := ⟨l, b, xs, zs, rfl, rfl, h, h2, z, q⟩
theorem pop_l (h : H l = some (.lst xs)) (e : xs[xs.length - 1]? = some y) (q : Q y (upd H l (.lst xs.dropLast))) : rPop (.ref l) [] H Q := ⟨l, xs, y, rfl, rfl, h, e, q⟩
theorem pops_l {y : V} (h : H l = some (.lst (xs ++ [y]))) (q : Q y (upd H l (.lst xs))) : rPop (.ref l) [] H Q := ⟨l, _, y, rfl, rfl, h, by simp, by rw [List.dropLast_concat]; exact q⟩
theorem rev_l (h : H l = some (.lst xs)) (q : Q .non (upd H l (.lst xs.reverse))) : rReverse (.ref l) [] H Q := ⟨l, xs, rfl, rfl, h, q⟩
theorem clr_l (h : H l = some (.lst xs)) (q : Q .non (upd H l (.lst []))) : rClear (.ref l) [] H Q := ⟨l, xs, rfl, rfl, h, q⟩
theorem cat_l (h : H l = some (.lst xs)) (h2 : H b = some (.lst zs)) (z : xs.length + zs.length ≤ sizeLine) (q : ∀ p, H p = none → Q (.ref p) (upd H p (.lst (xs ++ zs)))) : rCat (.ref l) (.ref b) H Q := ⟨l, b, xs, zs, rfl, rfl, h, h2, z, q⟩
theorem sll_l {lo hi : Option Int} (h : H l = some (.lst xs)) (q : ∀ p, H p = none → Q (.ref p) (upd H p (.lst (cutV xs lo hi)))) : rSlL K (.ref l) lo hi H Q := ⟨l, xs, rfl, .of h, q⟩
theorem usl_l {lo hi : Option Int} (h : H l = some (.lst xs)) (q : ∀ p, H p = none → Q (.ref p) (upd H p (.lst (cutV xs lo hi)))) : uSl K (.ref l) lo hi H Q := .inl (sll_l h q)
theorem ucat_l (h : H l = some (.lst xs)) (h2 : H b = some (.lst zs)) (z : xs.length + zs.length ≤ sizeLine) (q : ∀ p, H p = none → Q (.ref p) (upd H p (.lst (xs ++ zs)))) : uAdd K (.ref l) (.ref b) H Q := .inl (cat_l h h2 z q)
theorem tru_l {k : Bool → Prop} (h : H l = some (.lst xs)) (q : k (!xs.isEmpty)) : uTru K (.ref l) H k := ⟨_, .inl ⟨xs, .of h, rfl⟩, q⟩
theorem tru_sl {k : Bool → Prop} (h : SqL K H l xs) (q : k (!xs.isEmpty)) : uTru K (.ref l) H k := ⟨_, .inl ⟨xs, h, rfl⟩, q⟩
theorem tru_t {k : Bool → Prop} (h : H l = some (.tup xs)) (q : k (!xs.isEmpty)) : uTru K (.ref l) H k := ⟨_, .inr (.inl ⟨xs, .of h, rfl⟩), q⟩
theorem tru_d {k : Bool → Prop} {kvs : List (Key × V)} (h : H l = some (.dK kvs)) (q : k (!kvs.isEmpty)) : uTru K (.ref l) H k := ⟨_, .inr (.inr ⟨kvs, h, rfl⟩), q⟩
end
section
variable {K : Frag} {H : Hp} {p : Addr} {xs : List V} {Q : VK} {n : String}
theorem isi_l (h : H p = some (.lst xs)) (o : isOk "list" n = true) (q : Q (.bl (isK "list" n)) H) : uIsi K [.ref p, .ty n] H Q := ⟨"list", .base (.lst h), o, q⟩
theorem isi_t (h : H p = some (.tup xs)) (o : isOk "tuple" n = true) (q : Q (.bl (isK "tuple" n)) H) : uIsi K [.ref p, .ty n] H Q := ⟨"tuple", .base (.tup h), o, q⟩
theorem isi_d {kvs : List (Key × V)} (h : H p = some (.dK kvs)) (o : isOk "dict" n = true) (q : Q (.bl (isK "dict" n)) H) : uIsi K [.ref p, .ty n] H Q := ⟨"dict", .base (.dK h), o, q⟩
end
/-! ### lists of texts, of ints -/
section
variable {K : Frag} {H : Hp} {l : Addr} {Q : VK}
theorem flat_strs (xs : List Str) : (xs.map V.str).all flatV = true := by simp [flatV]
theorem flat_ints (xs : List Int) : (xs.map V.int).all flatV = true := by simp [flatV]
theorem inV_strs (x : Str) : ∀ xs : List Str, inV (.str x) (xs.map V.str) = decide (x ∈ xs)
  | [] => rfl
  | a :: r => by
    show ((a == x) || inV (.str x) (r.map V.str)) = decide (x ∈ a :: r)
    rw [inV_strs x r]
    by_cases e : a = x
    · subst e; simp
    · have e2 : ¬ x = a := fun z => e z.symm
      have e3 : (a == x) = false := by simpa using e
      simp [e2, e3]
theorem inV_ints (x : Int) : ∀ xs : List Int, inV (.int x) (xs.map V.int) = decide (x ∈ xs)
  | [] => rfl
  | a :: r => by
    show ((a == x) || inV (.int x) (r.map V.int)) = decide (x ∈ a :: r)
    rw [inV_ints x r]
    by_cases e : a = x
    · subst e; simp
    · have e2 : ¬ x = a := fun z => e z.symm
      have e3 : (a == x) = false := by simpa using e
      simp [e2, e3]
theorem in_s {x : Str} {xs : List Str} (h : H l = some (.lst (xs.map V.str))) (q : Q (.bl (decide (x ∈ xs))) H) : rIn K false (.str x) (.ref l) H Q := ⟨l, _, rfl, .inl (.of h), rfl, flat_strs xs, by rw [inV_strs]; exact q⟩
theorem nin_s {x : Str} {xs : List Str} (h : H l = some (.lst (xs.map V.str))) (q : Q (.bl (!decide (x ∈ xs))) H) : rIn K true (.str x) (.ref l) H Q := ⟨l, _, rfl, .inl (.of h), rfl, flat_strs xs, by rw [inV_strs]; exact q⟩
theorem in_i {x : Int} {xs : List Int} (h : H l = some (.lst (xs.map V.int))) (q : Q (.bl (decide (x ∈ xs))) H) : rIn K false (.int x) (.ref l) H Q := ⟨l, _, rfl, .inl (.of h), rfl, flat_ints xs, by rw [inV_ints]; exact q⟩
theorem nin_i {x : Int} {xs : List Int} (h : H l = some (.lst (xs.map V.int))) (q : Q (.bl (!decide (x ∈ xs))) H) : rIn K true (.int x) (.ref l) H Q := ⟨l, _, rfl, .inl (.of h), rfl, flat_ints xs, by rw [inV_ints]; exact q⟩
theorem idxOf_get {α : Type} [BEq α] [LawfulBEq α] {x : α} : ∀ {xs : List α}, x ∈ xs → xs[xs.idxOf x]? = some x ∧ ∀ m z, m < xs.idxOf x → xs[m]? = some z → z ≠ x
  | [], h => by cases h
  | a :: r, h => by
    by_cases e : a = x
    · subst e
      rw [List.idxOf_cons_self]
      exact ⟨rfl, fun m z hm => absurd hm (Nat.not_lt_zero _)⟩
    · have hm : x ∈ r := by
        rcases List.mem_cons.mp h with q | q
        · exact absurd q.symm e
        · exact q
      obtain ⟨h1, h2⟩ := idxOf_get hm
      have hi : (a :: r).idxOf x = r.idxOf x + 1 := by
        rw [List.idxOf_cons]
        have : (a == x) = false := by simpa using e
        rw [this]
        rfl
      rw [hi]
      refine ⟨h1, fun m z hm hz => ?_⟩
      cases m with
      | zero => simp at hz; rw [← hz]; exact e
      | succ m => exact h2 m z (by omega) hz
theorem idx_s {x : Str} {xs : List Str} (h : H l = some (.lst (xs.map V.str))) (m : x ∈ xs) (q : Q (.int (xs.idxOf x : Nat)) H) : rIndex K (.ref l) [.str x] H Q := by
  obtain ⟨h1, h2⟩ := idxOf_get m
  refine ⟨l, _, .str x, xs.idxOf x, .str x, rfl, rfl, .of h, rfl, flat_strs xs, ?_, by simp [eqV], fun m z hm hz => ?_, q⟩
  · rw [List.getElem?_map, h1]; rfl
  · rw [List.getElem?_map] at hz
    cases e : xs[m]? with
    | none => rw [e] at hz; cases hz
    | some w =>
      rw [e] at hz
      cases hz
      simpa [eqV] using h2 m w hm e
theorem idx_i {x : Int} {xs : List Int} (h : H l = some (.lst (xs.map V.int))) (m : x ∈ xs) (q : Q (.int (xs.idxOf x : Nat)) H) : rIndex K (.ref l) [.int x] H Q := by
  obtain ⟨h1, h2⟩ := idxOf_get m
  refine ⟨l, _, .int x, xs.idxOf x, .int x, rfl, rfl, .of h, rfl, flat_ints xs, ?_, by simp [eqV], fun m z hm hz => ?_, q⟩
  · rw [List.getElem?_map, h1]; rfl
  · rw [List.getElem?_map] at hz
    cases e : xs[m]? with
    | none => rw [e] at hz; cases hz
    | some w =>
      rw [e] at hz
      cases hz
      simpa [eqV] using h2 m w hm e
theorem atI_map {α β : Type} {f : α → β} {xs : List α} {i : Nat} {x : α} (h : xs[i]? = some x) : atI (xs.map f) (i : Int) = some (f x) := atI_nat (by rw [List.getElem?_map, h]; rfl)
end
theorem cutV_from (xs : List V) (n : Nat) : cutV xs (some (n : Int)) none = xs.drop n := by
  unfold cutV
  rw [HT.sIx_nat]
  show (xs.drop (min n xs.length)).take (xs.length - min n xs.length) = xs.drop n
  by_cases h : n ≤ xs.length
  · rw [Nat.min_eq_left h, List.take_of_length_le (by rw [List.length_drop]; omega)]
  · rw [Nat.min_eq_right (by omega), List.drop_length, List.drop_eq_nil_of_le (by omega)]
    simp
theorem cutV_nat (xs : List V) (i j : Nat) : cutV xs (some (i : Int)) (some (j : Int)) = (xs.drop i).take (j - i) := by
  unfold cutV
  rw [HT.sIx_nat, HT.sIx_nat]
  have e : xs.drop (min i xs.length) = xs.drop i := by
    by_cases h : i ≤ xs.length
    · rw [Nat.min_eq_left h]
    · rw [Nat.min_eq_right (by omega), List.drop_length, List.drop_eq_nil_of_le (by omega)]
  rw [e]
  refine List.take_eq_take_iff.mpr ?_
  rw [List.length_drop]
  omega
theorem valV_drop (kvs : List (Key × V)) (k j : Key) : valV (dropK kvs k) j = if j = k then none else valV kvs j := by
  unfold valV dropK
  rw [List.find?_filter]
  by_cases e : j = k
  · subst e
    rw [if_pos rfl]
    have : (kvs.find? fun a => decide (a.1 ≠ j) && decide (a.1 = j)) = none := by
      rw [List.find?_eq_none]
      intro a _
      simp
    simp [this]
  · rw [if_neg e]
    congr 1
    congr 1
    funext a
    by_cases c : a.1 = j
    · have : ¬ a.1 = k := fun z => e (c.symm.trans z)
      simp [c, this, e]
    · simp [c]
/-! ### places in a text -/
def nthS (l : List Stmt) (i : Nat) : Stmt := l.getD i (.Pass ⟨0, 0, 0, 0⟩)
def ifB : Stmt → List Stmt | .If _ b _ _ => b | _ => []
def ifE : Stmt → List Stmt | .If _ _ b _ => b | _ => []
def whB : Stmt → List Stmt | .While _ b _ _ => b | _ => []
def forB : Stmt → List Stmt | .For _ _ b _ _ => b | _ => []
def tryB : Stmt → List Stmt | .Try b _ _ _ _ => b | _ => []
def suB : Stmt → List Stmt | .Try _ [.ExceptHandler _ _ b _] _ _ _ => b | _ => []
/-! ### all but some stands -/
def Fr (l : List Addr) (H H' : Hp) : Prop := ∀ b o, b ∉ l → H b = some o → H' b = some o
theorem Fr.refl {l : List Addr} (H : Hp) : Fr l H H := fun _ _ _ h => h
theorem Fr.trans {l : List Addr} {H H1 H2 : Hp} (x : Fr l H H1) (y : Fr l H1 H2) : Fr l H H2 := fun b o n h => y b o n (x b o n h)
theorem Fr.mono {l m : List Addr} {H H1 : Hp} (x : Fr l H H1) (y : ∀ b, b ∈ l → b ∈ m) : Fr m H H1 := fun b o n h => x b o (fun z => n (y b z)) h
theorem Fr.upd {l : List Addr} {a : Addr} {H : Hp} {o : HO} (h : a ∈ l) : Fr l H (L2.upd H a o) := fun b _ n e => by rw [upd_ne (fun z => n (by rw [z]; exact h))]; exact e
theorem Fr.new {l : List Addr} {p : Addr} {H : Hp} {o : HO} (h : H p = none) : Fr l H (L2.upd H p o) := fun b u _ e => by rw [upd_ne (ne_of_none e h)]; exact e
theorem Fr.lst {l : List Addr} {H H' : Hp} {b : Addr} {o : HO} (x : Fr l H H') (h : H b = some o) (n : b ∉ l) : H' b = some o := x b o n h
theorem Fr.seq {l : List Addr} {b : Addr} {K : Frag} {H H' : Hp} {xs : List V} (e : Fr l H H') (n : b ∉ l) (h : SqL K H b xs) : SqL K H' b xs := by
  rcases h with (h | ⟨o, h⟩) | h
  · exact .inl (.inl (e _ _ n h))
  · exact .inl (.inr ⟨o, e _ _ n h⟩)
  · exact .inr h
end KW

set_option Elab.async false
set_option linter.all false
set_option maxRecDepth 100000
set_option maxHeartbeats 4000000
/-! Kw2g: list comprehensions -/
namespace KW
open PySem PySem.Spec PyProof.Rows L2
/-- the loop of a comprehension, behind the making of its iterator: not opened by simp -/
def lcK (J : It) (g : TG) (tt : TT) (te : TE) (vs : List Nat) (σ : L2.St) (H1 : Hp) (Q : VK) : Prop := ∀ D, H1 D = none → ∃ W : Nat → Nat → Hp → Prop, (∃ m, W 0 m (upd H1 D (.lst []))) ∧ ∀ i m H, W i m H →
  (J.stop i H ∧ Q (.ref D) H) ∨ (J.go i H ∧ ∃ Nx : Hp → Prop, (∀ H', Nx H' → ∃ m', m' < m ∧ W (i + 1) m' H') ∧ ∀ x H', J.yld i H x H' → g x (wipe σ vs) H' fun σ2 H2 => wipe σ2 vs = wipe σ vs ∧ tt σ2 H2 fun b H3 =>
    if b = true then te σ2 H3 fun y H4 => ∃ acc, H4 D = some (.lst acc) ∧ acc.length < sizeLine ∧ Nx (upd H4 D (.lst (acc ++ [y]))) else Nx H3)
def uLc (wi : TI) (g : TG) (tt : TT) (te : TE) (vs : List Nat) : TE := fun σ H Q => wi σ H fun J H1 => lcK J g tt te vs σ H1 Q
section
variable {X : Cx}
theorem k_lc {elt tg iter : Expr} {ifs : List Expr} {scope : Scope} {own : List (Str × Nat)} {pos : Pos} {wi : TI} {g : TG} {tt : TT} {te : TE} (hc : X.calm = true) (hN : X.N.Nodup) (hi : PI X tg iter wi) (ok : BlkOk X.N X.env.scope scope own)
    (hg : ∀ (s : Shared) (H : Hp) (C : Addr) (cl : List (Str × Addr)) (fp : List Addr), PG (X.blk s H scope (compEnvC scope cl C X.env) fp) tg g) (ht : ∀ (s : Shared) (H : Hp) (C : Addr) (cl : List (Str × Addr)) (fp : List Addr), PTs (X.blk s H scope (compEnvC scope cl C X.env) fp) ifs tt)
    (he : ∀ (s : Shared) (H : Hp) (C : Addr) (cl : List (Str × Addr)) (fp : List Addr), PE (X.blk s H scope (compEnvC scope cl C X.env) fp) elt te) (hs : ∀ x, foldedSetIterable iter X.env x = pure x := by intro _; rfl) :
    PE X (.ListComp elt [⟨tg, iter, ifs, 0⟩] scope pos) (uLc wi g tt te (own.map (·.2))) := ⟨(pe_lc hc hN hi ok hg ht he hs).run⟩
theorem k_setLc {i : Nat} {y : Str} {py : Pos} {elt tg iter : Expr} {ifs : List Expr} {scope : Scope} {own : List (Str × Nat)} {pos spos : Pos} {wi : TI} {g : TG} {tt : TT} {te : TE} (hc : X.calm = true) (hN : X.N.Nodup) (hy : X.N[i]? = some y) (hyl : X.env.scope.names.lookup y = some .local)
    (hsw : swapsWith (.ListComp elt [⟨tg, iter, ifs, 0⟩] scope pos) (some (.Name y py)) spos.line X.env = pure true) (hi : PI X tg iter wi) (ok : BlkOk X.N X.env.scope scope own)
    (hg : ∀ (s : Shared) (H : Hp) (C : Addr) (cl : List (Str × Addr)) (fp : List Addr), PG (X.blk s H scope (compEnvC scope cl C X.env) fp) tg g) (ht : ∀ (s : Shared) (H : Hp) (C : Addr) (cl : List (Str × Addr)) (fp : List Addr), PTs (X.blk s H scope (compEnvC scope cl C X.env) fp) ifs tt)
    (he : ∀ (s : Shared) (H : Hp) (C : Addr) (cl : List (Str × Addr)) (fp : List Addr), PE (X.blk s H scope (compEnvC scope cl C X.env) fp) elt te) (hs : ∀ x, foldedSetIterable iter X.env x = pure x := by intro _; rfl) :
    PS X (.Assign [.Name y py] (.ListComp elt [⟨tg, iter, ifs, 0⟩] scope pos) spos) (tAsg (uLc wi g tt te (own.map (·.2))) (gName i)) := ⟨(ps_setLc hc hN hy hyl hsw hi ok hg ht he hs).run⟩
end
/-- over a list, where the items are made without a change of the heap: f tells what each gives -/
theorem lc_pl {K : Frag} {a : Addr} {xs : List V} {g : TG} {tt : TT} {te : TE} {vs : List Nat} {σ : L2.St} {H : Hp} {Q : VK} (f : V → Option V) (hS : SqL K H a xs) (hz : xs.length < sizeLine)
    (hs : ∀ (i : Nat) (x : V) (D : Addr) (acc : List V) (Cy : V → Hp → Prop) (Cn : Hp → Prop), xs[i]? = some x → H D = none → (∀ y, f x = some y → Cy y (upd H D (.lst acc))) → (f x = none → Cn (upd H D (.lst acc))) →
      g x (wipe σ vs) (upd H D (.lst acc)) fun σ2 H2 => wipe σ2 vs = wipe σ vs ∧ tt σ2 H2 fun b H3 => if b = true then te σ2 H3 fun y H4 => Cy y H4 else Cn H3)
    (hq : ∀ D, H D = none → Q (.ref D) (upd H D (.lst (xs.filterMap f)))) : lcK (Itl K a) g tt te vs σ H Q := by
  intro D hD
  refine ⟨fun i m H' => m = xs.length - i ∧ i ≤ xs.length ∧ H' = upd H D (.lst ((xs.take i).filterMap f)), ⟨xs.length, by simp⟩, ?_⟩
  rintro i m H' ⟨rfl, hi, rfl⟩
  have q := SqL.new (o := .lst ((xs.take i).filterMap f)) hD hS
  by_cases hlt : i < xs.length
  · refine .inr ⟨⟨xs, xs[i], q, by simp [hlt]⟩, fun H'' => H'' = upd H D (.lst ((xs.take (i + 1)).filterMap f)), fun H'' e => ⟨xs.length - (i + 1), by omega, rfl, hlt, e⟩, fun x H' y => ?_⟩
    obtain ⟨e, y⟩ := y
    subst e
    have hx := y xs q
    have et : xs.take (i + 1) = xs.take i ++ [x] := by
      rw [List.take_add_one, hx]; rfl
    refine hs i x D _ _ _ hx hD (fun y hy => ⟨_, upd_same, ?_, ?_⟩) fun hn => ?_
    · have h1 : ((xs.take i).filterMap f).length ≤ (xs.take i).length := List.length_filterMap_le _ _
      have h2 : (xs.take i).length ≤ xs.length := by rw [List.length_take]; omega
      omega
    · rw [upd_upd, et, List.filterMap_append]
      simp [hy]
    · rw [et, List.filterMap_append]
      simp [hn]
  · have e : i = xs.length := by omega
    subst e
    refine .inl ⟨⟨xs, q, Nat.le_refl _⟩, ?_⟩
    rw [List.take_length]
    exact hq D hD
theorem lc_pr {lo : Int} {n : Nat} {g : TG} {tt : TT} {te : TE} {vs : List Nat} {σ : L2.St} {H : Hp} {Q : VK} (f : Nat → Option V) (hz : n < sizeLine)
    (hs : ∀ (i : Nat) (D : Addr) (acc : List V) (Cy : V → Hp → Prop) (Cn : Hp → Prop), i < n → H D = none → (∀ y, f i = some y → Cy y (upd H D (.lst acc))) → (f i = none → Cn (upd H D (.lst acc))) →
      g (.int (lo + i)) (wipe σ vs) (upd H D (.lst acc)) fun σ2 H2 => wipe σ2 vs = wipe σ vs ∧ tt σ2 H2 fun b H3 => if b = true then te σ2 H3 fun y H4 => Cy y H4 else Cn H3)
    (hq : ∀ D, H D = none → Q (.ref D) (upd H D (.lst ((List.range n).filterMap f)))) : lcK (Itr lo n) g tt te vs σ H Q := by
  intro D hD
  refine ⟨fun i m H' => m = n - i ∧ i ≤ n ∧ H' = upd H D (.lst ((List.range i).filterMap f)), ⟨n, by simp⟩, ?_⟩
  rintro i m H' ⟨rfl, hi, rfl⟩
  by_cases hlt : i < n
  · refine .inr ⟨hlt, fun H'' => H'' = upd H D (.lst ((List.range (i + 1)).filterMap f)), fun H'' e => ⟨n - (i + 1), by omega, rfl, hlt, e⟩, fun x H' y => ?_⟩
    obtain ⟨e, rfl⟩ := y
    subst e
    refine hs i D _ _ _ hlt hD (fun y hy => ⟨_, upd_same, ?_, ?_⟩) fun hn => ?_
    · have h1 : ((List.range i).filterMap f).length ≤ (List.range i).length := List.length_filterMap_le _ _
      rw [List.length_range] at h1
      omega
    · rw [upd_upd, List.range_succ, List.filterMap_append]
      simp [hy]
    · rw [List.range_succ, List.filterMap_append]
      simp [hn]
  · have e : i = n := by omega
    subst e
    exact .inl ⟨Nat.le_refl _, hq D hD⟩
end KW

set_option Elab.async false
set_option linter.all false
set_option maxRecDepth 100000
set_option maxHeartbeats 4000000
/-! Kw2h: sorted, sum, walks over dicts -/
namespace KW
open PySem PySem.Spec PyProof.Rows L2
section
variable {X : Cx}
theorem pe_or {e : Expr} {t t' : TE} (h : PE X e t) (h' : PE X e t') : PE X e (fun σ H Q => t σ H Q ∨ t' σ H Q) := ⟨fun pins s σ H Q I q => q.elim (h.run pins s σ H Q I) (h'.run pins s σ H Q I)⟩
theorem ps_or {e : Stmt} {t t' : TS} (h : PS X e t) (h' : PS X e t') : PS X e (fun D σ H => t D σ H ∨ t' D σ H) := ⟨fun pins s σ H D I q => q.elim (h.run pins s σ H D I) (h'.run pins s σ H D I)⟩
/-- sorted(d) of a dict whose keys are ints -/
theorem call_sortedDN (hcalm : X.calm = true) : CallR X (.builtin "sorted") (fun xs H Q => ∃ (a : Addr) (kvs : List (Key × V)) (ks : List Int), xs = [.ref a] ∧ Rd H a (.dK kvs) ∧ kvs.map (·.1) = ks.map Sum.inl ∧ ks.length ≤ sizeLine ∧
    ∀ (ys : List Int) (p : Addr), ys.Perm ks → ys.Pairwise (· ≤ ·) → H p = none → Q (.ref p) (upd H p (.lst (ys.map V.int)))) := by
  intro pins s σ H xs us Q I r q
  obtain ⟨a, kvs, ks, ex, hd, hks, h64, q⟩ := q
  subst ex
  obtain ⟨u, eu, rx⟩ := vals1 r
  subst eu
  cases rx
  obtain ⟨z, lo, vs, rel, dd⟩ := dk_rd I.hok hd
  obtain ⟨ep, hat⟩ := dd.dictAt
  have hkeys : vs.map (·.1) = ks.map Sum.inl := rel.keys.symm.trans hks
  have hl : vs.length = ks.length := by
    have e := congrArg List.length hkeys
    rw [List.length_map, List.length_map] at e
    exact e
  have h16 : vs.length ≤ sizeLine := by rw [hl]; exact h64
  refine Calls.call_function_entry PyProof.Rows.kind_sorted PyProof.Rows.plain_sorted PyProof.Rows.entry_sorted (PyProof.Rows.args_sorted1 _) ?_
  unfold Builtin.«sorted»
  refine wpAny_bind (m := checkCount "sorted" 1 1 _) (wpAny_pure ?_)
  refine wpAny_bind (PySem.W.kdu_collect (A := X.A.in1) (PySem.W.kdl_dict (knd := mixKind X.prog X.w) (kvs := vs) (ep := ep) lo) (I.ok.hd hcalm) hat h16 fun h' tk acc hk hacc => ?_)
  have hal : acc.toList.length = ks.length := by rw [Array.length_toList, hacc.1, hl]
  have hS : IntsAre acc.toList ks := ints_each hal fun j v e => by
    obtain ⟨k, x, e1, e2⟩ := hacc.2 j v (by rw [← Array.getElem?_toList]; exact e)
    have e3 : (vs.map (·.1))[j]? = some k := by rw [List.getElem?_map, e1]; rfl
    rw [hkeys, List.getElem?_map] at e3
    cases e4 : ks[j]? with
    | none => rw [e4] at e3; cases e3
    | some y =>
      rw [e4] at e3
      have e5 : Sum.inl y = k := Option.some.inj e3
      subst e5
      rcases keyIs_shape (show keyIs (Sum.inl y) v = true from e2) with ⟨i, t, ek, ev⟩ | ⟨z, t, ek, ev⟩
      · cases ek
        exact ⟨y, t, rfl, ev⟩
      · cases ek
  have I1 : Inv X pins σ H { s with heap := h', toks := tk } := I.kept hk
  refine wpAny_bind (wpAny_newList ?_ (by rw [hal]; exact h64))
  have hoL : (h'.push (seqObj "list" acc.toList.toArray 0)).get? h'.objs.size = some (seqObj "list" acc.toList.toArray 0) := Heap.get?_push_size _ rfl
  show wpAny _ _ _ _ _ { s with heap := h'.push (seqObj "list" acc.toList.toArray 0), toks := tk }
  refine wpAny_bind (wpAny_holding (wpAny_call_entry PyProof.Rows.slot_list_sort ⟨_, hoL, rfl⟩ PyProof.Rows.entry_list_sort
    (SrtO.list_sort_ord (s := { s with heap := h'.push (seqObj "list" acc.toList.toArray 0), toks := tk }) SrtO.swo_int hoL (by rw [hal]; exact h64) (fun h2 => SrtO.ints_sortable hS h2) fun out hs hb => ⟨_, rfl, ?_⟩) (PyProof.Rows.args_list_sort _)))
  obtain ⟨g1, g2, g3⟩ := SrtO.ints_out hS hs hb
  obtain ⟨e', he'⟩ := PyProof.Rows.sortedHeap_at (vs := acc.toList) (out := out.toArray) hoL
  have hlen : ((out.map SrtO.iv).map V.int).length ≤ sizeLine := by
    rw [List.length_map, g2.length_eq]
    exact h64
  refine wpAny_pure ⟨_, rfl, .ref h'.objs.size, upd H h'.objs.size (.lst ((out.map SrtO.iv).map V.int)), I1.laid (t' := tk) (fun b u e => ?_) (Nat.le_refl _)
    (show ObjOk X.prog X.w _ _ _ (.lst ((out.map SrtO.iv).map V.int)) from ⟨hlen, out, e', vals_of_ints g1, he'⟩), rfl, q _ _ g2 g3 (I1.hok.fresh (Nat.le_refl _))⟩
  have hb : b < h'.objs.size := Heap.lt_size e
  rw [PyProof.Rows.sortedHeap_old (Nat.ne_of_lt hb) (by rw [size_push']; exact Nat.lt_succ_of_lt hb)]
  exact Heap.get?_push_of_some _ e
/-- sorted(x): a list of ints, a dict with ints as keys -/
def uSorted (K : Frag) : List V → Hp → VK → Prop := fun xs H Q => (∃ (a : Addr) (ns : List Int), xs = [V.ref a] ∧ SqL K H a (ns.map V.int) ∧ ∀ (ys : List Int) (p : Addr), ys.Perm ns → ys.Pairwise (· ≤ ·) → H p = none → Q (.ref p) (upd H p (.lst (ys.map V.int)))) ∨
  (∃ (a : Addr) (kvs : List (Key × V)) (ks : List Int), xs = [.ref a] ∧ Rd H a (.dK kvs) ∧ kvs.map (·.1) = ks.map Sum.inl ∧ ks.length ≤ sizeLine ∧ ∀ (ys : List Int) (p : Addr), ys.Perm ks → ys.Pairwise (· ≤ ·) → H p = none → Q (.ref p) (upd H p (.lst (ys.map V.int))))
theorem c_sorted (hcalm : X.calm = true) : CallR X (.builtin "sorted") (uSorted X.K) := fun pins s σ H xs us Q I r h => by
  rcases h with h | h
  · exact cr_sortedI pins s σ H xs us Q I r h
  · exact call_sortedDN hcalm pins s σ H xs us Q I r h
theorem srt_l {K : Frag} {H : Hp} {a : Addr} {ns : List Int} {Q : VK} (h : H a = some (.lst (ns.map V.int))) (q : ∀ (ys : List Int) (p : Addr), ys.Perm ns → ys.Pairwise (· ≤ ·) → H p = none → Q (.ref p) (upd H p (.lst (ys.map V.int)))) : uSorted K [.ref a] H Q := .inl ⟨a, ns, rfl, .of h, q⟩
theorem srt_d {K : Frag} {H : Hp} {a : Addr} {kvs : List (Key × V)} {ks : List Int} {Q : VK} (h : H a = some (.dK kvs)) (e : kvs.map (·.1) = ks.map Sum.inl) (z : ks.length ≤ sizeLine) (q : ∀ (ys : List Int) (p : Addr), ys.Perm ks → ys.Pairwise (· ≤ ·) → H p = none → Q (.ref p) (upd H p (.lst (ys.map V.int)))) : uSorted K [.ref a] H Q := .inr ⟨a, kvs, ks, rfl, .inl h, e, z, q⟩
/-- sum(xs), ints -/
def uSum (K : Frag) : List V → Hp → VK → Prop := rSum K
theorem c_sum (hc : X.calm = true) : CallR X (.builtin "sum") (uSum X.K) := cr_sum hc
theorem sum_l {K : Frag} {H : Hp} {a : Addr} {ns : List Int} {Q : VK} (h : H a = some (.lst (ns.map V.int))) (q : Q (.int ns.sum) H) : uSum K [.ref a] H Q := ⟨a, ns, rfl, .of h, q⟩
end
/-- a comprehension over a locked dict's keys (ints), where the items are made without a change of the heap -/
theorem lc_pk {d : Addr} {o : Obj} {kvs : List (Key × V)} {ks : List Int} {g : TG} {tt : TT} {te : TE} {vs : List Nat} {σ : L2.St} {H : Hp} {Q : VK} (f : Int → Option V) (hS : H d = some (.frz o (.dK kvs))) (hk : kvs.map (·.1) = ks.map Sum.inl) (hz : ks.length < sizeLine)
    (hs : ∀ (i : Nat) (x : Int) (D : Addr) (acc : List V) (Cy : V → Hp → Prop) (Cn : Hp → Prop), ks[i]? = some x → H D = none → (∀ y, f x = some y → Cy y (upd H D (.lst acc))) → (f x = none → Cn (upd H D (.lst acc))) →
      g (.int x) (wipe σ vs) (upd H D (.lst acc)) fun σ2 H2 => wipe σ2 vs = wipe σ vs ∧ tt σ2 H2 fun b H3 => if b = true then te σ2 H3 fun y H4 => Cy y H4 else Cn H3)
    (hq : ∀ D, H D = none → Q (.ref D) (upd H D (.lst (ks.filterMap f)))) : lcK (Itk d o kvs) g tt te vs σ H Q := by
  intro D hD
  have hl : kvs.length = ks.length := by
    have := congrArg List.length hk
    rw [List.length_map, List.length_map] at this
    exact this
  refine ⟨fun i m H' => m = ks.length - i ∧ i ≤ ks.length ∧ H' = upd H D (.lst ((ks.take i).filterMap f)), ⟨ks.length, by simp⟩, ?_⟩
  rintro i m H' ⟨rfl, hi, rfl⟩
  have hne : d ≠ D := ne_of_none hS hD
  have q : upd H D (.lst ((ks.take i).filterMap f)) d = some (.frz o (.dK kvs)) := by rw [upd_ne hne]; exact hS
  by_cases hlt : i < ks.length
  · refine .inr ⟨⟨q, by omega⟩, fun H'' => H'' = upd H D (.lst ((ks.take (i + 1)).filterMap f)), fun H'' e => ⟨ks.length - (i + 1), by omega, rfl, hlt, e⟩, fun x H' y => ?_⟩
    obtain ⟨e, k, v, hkv, rfl⟩ := y
    subst e
    have e3 : (kvs.map (·.1))[i]? = some k := by rw [List.getElem?_map, hkv]; rfl
    rw [hk, List.getElem?_map] at e3
    obtain ⟨x, hx⟩ : ∃ x, ks[i]? = some x := ⟨_, List.getElem?_eq_getElem hlt⟩
    rw [hx] at e3
    have e5 : Sum.inl x = k := Option.some.inj e3
    subst e5
    have et : ks.take (i + 1) = ks.take i ++ [x] := by
      rw [List.take_add_one, hx]; rfl
    refine hs i x D _ _ _ hx hD (fun y hy => ⟨_, upd_same, ?_, ?_⟩) fun hn => ?_
    · have h1 : ((ks.take i).filterMap f).length ≤ (ks.take i).length := List.length_filterMap_le _ _
      have h2 : (ks.take i).length ≤ ks.length := by rw [List.length_take]; omega
      omega
    · rw [upd_upd, et, List.filterMap_append]
      simp [hy]
    · rw [et, List.filterMap_append]
      simp [hn]
  · have e : i = ks.length := by omega
    subst e
    refine .inl ⟨⟨q, by omega⟩, ?_⟩
    rw [List.take_length]
    exact hq D hD
end KW

set_option Elab.async false
set_option linter.all false
set_option maxRecDepth 100000
set_option maxHeartbeats 4000000
/-! Kw2i: the rules with the frag told (within comprehensions) -/
namespace KW
theorem isEmpty_app {α : Type} (xs ys : List α) : (xs ++ ys).isEmpty = (xs.isEmpty && ys.isEmpty) := by cases xs <;> simp
open PySem PySem.Spec PyProof.Rows L2
section
variable {X : Cx} (K : Frag)
theorem ktK {e : Expr} {t : TE} (h : PE X e t) (he : ∀ whole, isTrue e X.env whole = (do let v ← whole; standAt e.pos; holding [v] (truthy v)) := by intro _; rfl) (hK : X.K = K := by rfl) : PT X e (uTest K t) := hK ▸ kt h he
theorem o_addK (hK : X.K = K := by rfl) : OpR X (binaryOp .Add) (uAdd K) := hK ▸ o_add
theorem o_eqK (hu : X.A.units + 64 < cLine) (hK : X.K = K := by rfl) : OpR X (compareOp .Eq) (uEq K) := hK ▸ o_eq hu
theorem o_neK (hu : X.A.units + 64 < cLine) (hK : X.K = K := by rfl) : OpR X (compareOp .NotEq) (uNe K) := hK ▸ o_ne hu
theorem o_inK (hK : X.K = K := by rfl) : OpR X (compareOp .In) (uIn K) := hK ▸ o_in
theorem o_notinK (hK : X.K = K := by rfl) : OpR X (compareOp .NotIn) (uNotIn K) := hK ▸ o_notin
theorem o_ixK (hK : X.K = K := by rfl) : IxR X (uIx K) := hK ▸ o_ix
theorem o_slK (hK : X.K = K := by rfl) : SlR X (uSl K) := hK ▸ o_sl
theorem c_lenK (hK : X.K = K := by rfl) : CallR X (.builtin "len") (uLen K) := hK ▸ c_len
theorem c_isiK (hK : X.K = K := by rfl) : CallR X (.builtin "isinstance") (uIsi K) := hK ▸ c_isi
theorem c_listK (hK : X.K = K := by rfl) : CallR X (.type "list") (uList K) := hK ▸ c_list
theorem c_sortedK (hc : X.calm = true) (hK : X.K = K := by rfl) : CallR X (.builtin "sorted") (uSorted K) := hK ▸ c_sorted hc
theorem c_sumK (hc : X.calm = true) (hK : X.K = K := by rfl) : CallR X (.builtin "sum") (uSum K) := hK ▸ c_sum hc
theorem k_fldK {e : Expr} {t : TE} {f : Str} {pos : Pos} (he : PE X e t) (hb : attributeBase e f X.env (eval e X.env) = eval e X.env) (hK : X.K = K := by rfl) : PE X (.Attribute e f pos) (uFld K t f) := hK ▸ k_fld he hb
theorem mt_indexK (hK : X.K = K := by rfl) : MtR X "list.index" (rIndex K) := hK ▸ mt_index
theorem pi_listK {tg l : Expr} {tl : TE} (hl : PE X l tl) (hK : X.K = K := by rfl) : PI X tg l (iList K tl) := hK ▸ pi_list hl
end
/-- of a list of ints, ints again -/
theorem lc_ii {K : Frag} {a : Addr} {xs : List Int} {g : TG} {tt : TT} {te : TE} {vs : List Nat} {σ : L2.St} {H : Hp} {Q : VK} (f : Int → Option Int) (hS : SqL K H a (xs.map V.int)) (hz : xs.length < sizeLine)
    (hs : ∀ (i : Nat) (x : Int) (D : Addr) (acc : List V) (Cy : V → Hp → Prop) (Cn : Hp → Prop), xs[i]? = some x → H D = none → (∀ y, f x = some y → Cy (.int y) (upd H D (.lst acc))) → (f x = none → Cn (upd H D (.lst acc))) →
      g (.int x) (wipe σ vs) (upd H D (.lst acc)) fun σ2 H2 => wipe σ2 vs = wipe σ vs ∧ tt σ2 H2 fun b H3 => if b = true then te σ2 H3 fun y H4 => Cy y H4 else Cn H3)
    (hq : ∀ D, H D = none → Q (.ref D) (upd H D (.lst ((xs.filterMap f).map V.int)))) : lcK (Itl K a) g tt te vs σ H Q := by
  refine lc_pl (fun v => match v with | .int i => (f i).map V.int | _ => none) hS (by rw [List.length_map]; exact hz) (fun i x D acc Cy Cn hx hD h1 h2 => ?_) fun D hD => ?_
  · rw [List.getElem?_map] at hx
    cases e : xs[i]? with
    | none => rw [e] at hx; cases hx
    | some z =>
      rw [e] at hx
      cases hx
      exact hs i z D acc Cy Cn e hD (fun y hy => h1 _ (by simp [hy])) fun hn => h2 (by simp [hn])
  · have e : (xs.map V.int).filterMap (fun v => match v with | .int i => (f i).map V.int | _ => none) = (xs.filterMap f).map V.int := by
      rw [List.filterMap_map, List.map_filterMap]; rfl
    rw [e]
    exact hq D hD
/-- over a list of anything told by F -/
theorem lc_f {α : Type} {K : Frag} {a : Addr} {xs : List α} {F : α → V} {g : TG} {tt : TT} {te : TE} {vs : List Nat} {σ : L2.St} {H : Hp} {Q : VK} (f : α → Option V) (hS : SqL K H a (xs.map F)) (hz : xs.length < sizeLine)
    (hs : ∀ (i : Nat) (x : α) (D : Addr) (acc : List V) (Cy : V → Hp → Prop) (Cn : Hp → Prop), xs[i]? = some x → H D = none → (∀ y, f x = some y → Cy y (upd H D (.lst acc))) → (f x = none → Cn (upd H D (.lst acc))) →
      g (F x) (wipe σ vs) (upd H D (.lst acc)) fun σ2 H2 => wipe σ2 vs = wipe σ vs ∧ tt σ2 H2 fun b H3 => if b = true then te σ2 H3 fun y H4 => Cy y H4 else Cn H3)
    (hq : ∀ D, H D = none → Q (.ref D) (upd H D (.lst (xs.filterMap f)))) : lcK (Itl K a) g tt te vs σ H Q := by
  intro D hD
  refine ⟨fun i m H' => m = xs.length - i ∧ i ≤ xs.length ∧ H' = upd H D (.lst ((xs.take i).filterMap f)), ⟨xs.length, by simp⟩, ?_⟩
  rintro i m H' ⟨rfl, hi, rfl⟩
  have q := SqL.new (o := .lst ((xs.take i).filterMap f)) hD hS
  by_cases hlt : i < xs.length
  · refine .inr ⟨⟨_, F xs[i], q, by simp [hlt]⟩, fun H'' => H'' = upd H D (.lst ((xs.take (i + 1)).filterMap f)), fun H'' e => ⟨xs.length - (i + 1), by omega, rfl, hlt, e⟩, fun x H' y => ?_⟩
    obtain ⟨e, y⟩ := y
    subst e
    have hx := y _ q
    obtain ⟨z, hz1⟩ : ∃ z, xs[i]? = some z := ⟨_, List.getElem?_eq_getElem hlt⟩
    rw [List.getElem?_map, hz1] at hx
    cases hx
    have et : xs.take (i + 1) = xs.take i ++ [z] := by
      rw [List.take_add_one, hz1]; rfl
    refine hs i z D _ _ _ hz1 hD (fun y hy => ⟨_, upd_same, ?_, ?_⟩) fun hn => ?_
    · have h1 : ((xs.take i).filterMap f).length ≤ (xs.take i).length := List.length_filterMap_le _ _
      have h2 : (xs.take i).length ≤ xs.length := by rw [List.length_take]; omega
      omega
    · rw [upd_upd, et, List.filterMap_append]
      simp [hy]
    · rw [et, List.filterMap_append]
      simp [hn]
  · have e : i = xs.length := by omega
    subst e
    refine .inl ⟨⟨_, q, by simp⟩, ?_⟩
    rw [List.take_length]
    exact hq D hD
/-- over a range, any answers, the heap may change: Pv tells the list made so far (at D) and the heap -/
theorem lc_rG {lo : Int} {n : Nat} {g : TG} {tt : TT} {te : TE} {vs : List Nat} {σ : L2.St} {H : Hp} {Q : VK} (Pv : Nat → Addr → List V → Hp → Prop) (h0 : ∀ D, H D = none → Pv 0 D [] (upd H D (.lst [])))
    (hs : ∀ (i : Nat) (D : Addr) (acc : List V) (H' : Hp) (Nx : Hp → Prop), i < n → H D = none → Pv i D acc H' → (∀ acc H'', Pv (i + 1) D acc H'' → Nx H'') → g (.int (lo + i)) (wipe σ vs) H' fun σ2 H2 => wipe σ2 vs = wipe σ vs ∧ tt σ2 H2 fun b H3 => if b = true then te σ2 H3 fun y H4 => ∃ acc, H4 D = some (.lst acc) ∧ acc.length < sizeLine ∧ Nx (upd H4 D (.lst (acc ++ [y]))) else Nx H3)
    (hq : ∀ D acc H', H D = none → Pv n D acc H' → Q (.ref D) H') : lcK (Itr lo n) g tt te vs σ H Q := by
  intro D hD
  refine ⟨fun i m H' => m = n - i ∧ i ≤ n ∧ ∃ acc, Pv i D acc H', ⟨n, rfl, Nat.zero_le _, [], h0 D hD⟩, ?_⟩
  rintro i m H' ⟨rfl, hi, acc, hP⟩
  by_cases hlt : i < n
  · refine .inr ⟨hlt, fun H'' => ∃ acc, Pv (i + 1) D acc H'', fun H'' e => ⟨n - (i + 1), by omega, rfl, hlt, e⟩, fun x H2 y => ?_⟩
    obtain ⟨e, rfl⟩ := y
    subst e
    exact hs i D acc _ _ hlt hD hP fun acc H'' h => ⟨acc, h⟩
  · have e : i = n := by omega
    subst e
    exact .inl ⟨Nat.le_refl _, hq D acc H' hD hP⟩
/-- over a list -/
theorem lc_lG {α : Type} {K : Frag} {a : Addr} {xs : List α} {F : α → V} {g : TG} {tt : TT} {te : TE} {vs : List Nat} {σ : L2.St} {H : Hp} {Q : VK} (Pv : Nat → Addr → List V → Hp → Prop) (h0 : ∀ D, H D = none → Pv 0 D [] (upd H D (.lst [])))
    (hl : ∀ i D acc H', Pv i D acc H' → SqL K H' a (xs.map F))
    (hs : ∀ (i : Nat) (x : α) (D : Addr) (acc : List V) (H' : Hp) (Nx : Hp → Prop), xs[i]? = some x → H D = none → Pv i D acc H' → (∀ acc H'', Pv (i + 1) D acc H'' → Nx H'') → g (F x) (wipe σ vs) H' fun σ2 H2 => wipe σ2 vs = wipe σ vs ∧ tt σ2 H2 fun b H3 => if b = true then te σ2 H3 fun y H4 => ∃ acc, H4 D = some (.lst acc) ∧ acc.length < sizeLine ∧ Nx (upd H4 D (.lst (acc ++ [y]))) else Nx H3)
    (hq : ∀ D acc H', H D = none → Pv xs.length D acc H' → Q (.ref D) H') : lcK (Itl K a) g tt te vs σ H Q := by
  intro D hD
  refine ⟨fun i m H' => m = xs.length - i ∧ i ≤ xs.length ∧ ∃ acc, Pv i D acc H', ⟨xs.length, rfl, Nat.zero_le _, [], h0 D hD⟩, ?_⟩
  rintro i m H' ⟨rfl, hi, acc, hP⟩
  have q := hl i D acc H' hP
  by_cases hlt : i < xs.length
  · refine .inr ⟨⟨_, F xs[i], q, by simp [hlt]⟩, fun H'' => ∃ acc, Pv (i + 1) D acc H'', fun H'' e => ⟨xs.length - (i + 1), by omega, rfl, hlt, e⟩, fun x H2 y => ?_⟩
    obtain ⟨e, y⟩ := y
    subst e
    have hx := y _ q
    obtain ⟨z, hz1⟩ : ∃ z, xs[i]? = some z := ⟨_, List.getElem?_eq_getElem hlt⟩
    rw [List.getElem?_map, hz1] at hx
    cases hx
    exact hs i z D acc _ _ hz1 hD hP fun acc H'' h => ⟨acc, h⟩
  · have e : i = xs.length := by omega
    subst e
    exact .inl ⟨⟨_, q, by simp⟩, hq D acc H' hD hP⟩
/-- over reversed(xs) -/
theorem for_rev {K : Frag} {a : Addr} {xs : List V} {g : TG} {tb : TS} {D : Ends} {σ : L2.St} {H : Hp} (Pv : Nat → L2.St → Hp → Prop) (h0 : Pv 0 σ H) (hl : ∀ i σ H, i ≤ xs.length → Pv i σ H → SqL K H a xs)
    (hs : ∀ i x σ H, i < xs.length → xs[xs.length - 1 - i]? = some x → Pv i σ H → g x σ H fun σ2 H2 => tb { D with nx := Pv (i + 1), ct := Pv (i + 1), bk := D.nx } σ2 H2) (hd : ∀ σ H, Pv xs.length σ H → D.nx σ H) : forK (Itv K a xs.length) g tb D σ H := by
  refine ⟨fun i m σ H => m = xs.length - i ∧ i ≤ xs.length ∧ Pv i σ H, ⟨xs.length, rfl, Nat.zero_le _, h0⟩, ?_⟩
  rintro i m σ H ⟨rfl, hi, p⟩
  have q := hl i σ H hi p
  by_cases hlt : i < xs.length
  · refine .inr ⟨⟨hlt, xs, xs[xs.length - 1 - i], q, by rw [List.getElem?_eq_getElem]⟩, Pv (i + 1), fun σ' H' p' => ⟨xs.length - (i + 1), by omega, rfl, hlt, p'⟩, fun x H' y => ?_⟩
    obtain ⟨e, y⟩ := y
    subst e
    exact hs i x σ _ hlt (y xs q) p
  · have e : i = xs.length := by omega
    subst e
    exact .inl ⟨Nat.le_refl _, hd σ H p⟩
end KW
namespace KW
open PySem PySem.Spec PyProof.Rows L2
/-- dict(d): a copy -/
def uDict : List V → Hp → VK → Prop
  | [.ref a], H, Q => ∃ kvs, H a = some (.dK kvs) ∧ ∀ p, H p = none → Q (.ref p) (upd H p (.dK kvs))
  | _, _, _ => False
theorem c_dict {X : Cx} : CallR X (.type "dict") uDict := CallRw call_dictD fun xs H Q h => by
  unfold uDict at h
  split at h
  · obtain ⟨kvs, hs, q⟩ := h
    exact ⟨_, kvs, rfl, .of hs, q⟩
  · exact h.elim
theorem dict_d {H : Hp} {a : Addr} {kvs : List (Key × V)} {Q : VK} (h : H a = some (.dK kvs)) (q : ∀ p, H p = none → Q (.ref p) (upd H p (.dK kvs))) : uDict [.ref a] H Q := ⟨kvs, h, q⟩
end KW

set_option Elab.async false
set_option linter.all false
set_option maxRecDepth 100000
set_option maxHeartbeats 4000000
/-! Kw4: own defs called within an except suite -/
namespace KW
open PySem PySem.Spec PyProof.Rows L2
structure CalH (P : Program) (w : World) (K : Frag) (mg : Str → Option Value) (base : Heap) (k : Nat) (x : Str) (sp : Sp) : Prop where
  ex : ∃ (f : Addr) (fd : FuncData) (ps : List Str), mg x = some (.ref f) ∧ PySem.W.keepIn K (.ref f) = true ∧ Binds K fd ps [] ∧ L2H.FnH P w K mg base (L2N.CX P w) k f fd ps sp
section
variable {P : Program} {w : World} {K : Frag} {mg : Str → Option Value} {base : Heap}
theorem DefAt.okH {x qual : Str} {st : Stmt} {N ps : List Str} {k : Nat} {sp : Sp} (D : DefAt K mg x qual st ps) (S : FnScope N ps (defScope st)) (len : ∀ vs H Q E, sp vs H Q E → vs.length = ps.length)
    (hbody : ∀ (f : Addr) (cdv : Value) (A : Around) (outer : List Env) (s : Shared) (H : Hp) (vs : List V) (Q : VK) (E : XK) (pp : Addr × Obj), L2H.RoomH k (A.deeper (envOfC qual (defScope st) s.heap.objs.size f cdv)) → sp vs H Q E →
      ∃ t, PSs (L2H.cxH (L2N.CX P w) P w K mg base N qual (defScope st) f cdv A outer s H E pp) (defBody st) t ∧ t { nx := fun _ H' => Q .non H', rt := Q } (start N vs) H) : CalH P w K mg base (k + 1) x sp := by
  obtain ⟨f, fd, hm, F, hb⟩ := D.ex
  refine ⟨f, fd, ps, hm, F.kp, hb, ?_⟩
  obtain ⟨oc, od, kV, doc, pm, an, cdv, ct, osl, rfl, lk, hcd⟩ := F.ex
  exact L2H.fn_ofH lk hcd S len fun A outer s H vs Q E pp _ hr hsp => hbody f cdv A outer s H vs Q E pp hr hsp
end
section
variable {X : Cx} {k : Nat} {x : Str} {sp : Sp} {p pos : Pos} {e : Expr} {es : List Expr} {t : TA}
theorem kcH {a : Addr} {oe : Obj} {cls : Value} {d : Option Addr} {pn : List (Addr × Obj)} (hz : L2N.Zn cls d oe) (hf : ∃ vs, oe.data = .fields vs) (c : CalH X.prog X.w X.K X.mg X.base k x sp) (hr : Room k X.A) (ha : PA (X.suite a ((a, oe) :: pn)) (e :: es) t)
    (hg : Gl X x := by rfl) (hdb : (x == ("__debug__" : Str)) = false := by decide)
    (he : starEach (e :: es) X.env = (false, eval e X.env) :: starEach es X.env := by rfl) (hpl : (backTo pos (starEach es X.env)).any (·.1) = false := by rfl) : PE (X.suite a ((a, oe) :: pn)) (.Call (.Name x p) (e :: es) [] pos) (uCall sp t) := by
  obtain ⟨f, fd, ps, hm, hk, hb, F⟩ := c.ex
  obtain ⟨vs, hv⟩ := hf
  exact L2H.pe_callH (X := X.suite a ((a, oe) :: pn)) (E := fun _ => E0) F ⟨hr.dp, hr.un⟩ ⟨(a, oe), ⟨rfl, vs, hv, hz.2.2 vs hv⟩, List.mem_cons_self ..⟩ hg hm hk hb (fun _ => passAt0) ha hdb he hpl
end
end KW
namespace L2H
open PySem PySem.Spec PyProof.Rows L2
theorem RoomH.units {k : Nat} {A : Around} (r : RoomH k A) : A.units + 64 < cLine := by have := r.un; omega
end L2H

set_option Elab.async false
set_option linter.all false
set_option maxRecDepth 100000
set_option maxHeartbeats 4000000
/-! Kw7: a try with several clauses, each with a name or without -/
namespace KW
open PySem PySem.Spec PyProof.Rows L2
/-- a clause: the name's slot (if there is one), the class, the suite -/
structure Cl where
  i : Option Nat
  c : Value
  ts : Addr → Value → Option Addr → TS
def wCl (K : Frag) (Wout : WX) (D : Ends) : List Cl → WX
  | [] => Wout
  | k :: r => fun cls d σ H => ∃ b, PySem.W.exmOne K cls k.c = some b ∧
      (b = true → ∀ a, H a = none → match k.i with
        | none => k.ts a cls d D σ H
        | some i => k.ts a cls d { nx := fun σ' H' => D.nx (σ'.set i none) H', rt := D.rt, bk := fun σ' H' => D.bk (σ'.set i none) H', ct := fun σ' H' => D.ct (σ'.set i none) H' } (σ.set i (some (.ref a))) H) ∧
      (b = false → wCl K Wout D r cls d σ H)
def suBk (k : Nat) : Stmt → List Stmt | .Try _ hs _ _ _ => (match hs[k]? with | some (.ExceptHandler _ _ b _) => b | _ => []) | _ => []
def SuOk (X : Cx) (b : List Stmt) (ts : Addr → Value → Option Addr → TS) : Prop := ∀ (a : Addr) (oe : Obj) (cls : Value) (d : Option Addr) (pn : List (Addr × Obj)), L2N.Zn cls d oe → (∃ vs, oe.data = .fields vs) → PSs (X.suite a ((a, oe) :: pn)) b (ts a cls d)
inductive Cls7 (X : Cx) : List ExceptHandler → List Cl → Prop
  | nil : Cls7 X [] []
  | bare {x : Str} {c : Value} {ts : Addr → Value → Option Addr → TS} {b₀ : Stmt} {su : List Stmt} {np p : Pos} {hs : List ExceptHandler} {l : List Cl} (hc : Names X x c) (hsu : SuOk X (b₀ :: su) ts) (r : Cls7 X hs l) :
      Cls7 X (.ExceptHandler (some (.Name x np)) none (b₀ :: su) p :: hs) (⟨none, c, ts⟩ :: l)
  | named {x n : Str} {c : Value} {i : Nat} {ts : Addr → Value → Option Addr → TS} {b₀ : Stmt} {su : List Stmt} {np p : Pos} {hs : List ExceptHandler} {l : List Cl} (hN : X.N.Nodup) (hi : X.N[i]? = some n) (hn : X.env.kindOf n = some .local) (hc : Names X x c) (hsu : SuOk X (b₀ :: su) ts) (r : Cls7 X hs l) :
      Cls7 X (.ExceptHandler (some (.Name x np)) (some n) (b₀ :: su) p :: hs) (⟨some i, c, ts⟩ :: l)
section
variable {K : Frag} {W : WX} {D : Ends} {c : Value} {ts : Addr → Value → Option Addr → TS} {r : List Cl} {cls : Value} {d : Option Addr} {σ : L2.St} {H : Hp} {i : Nat}
theorem cl_no {k : Cl} (h : PySem.W.exmOne K cls k.c = some false) (q : wCl K W D r cls d σ H) : wCl K W D (k :: r) cls d σ H := ⟨false, h, fun z => absurd z Bool.false_ne_true, fun _ => q⟩
theorem cl_yes (h : PySem.W.exmOne K cls c = some true) (q : ∀ a, H a = none → ts a cls d D σ H) : wCl K W D (⟨none, c, ts⟩ :: r) cls d σ H := ⟨true, h, fun _ => q, fun z => absurd z.symm Bool.false_ne_true⟩
theorem cl_yesN (h : PySem.W.exmOne K cls c = some true) (q : ∀ a, H a = none → ts a cls d { nx := fun σ' H' => D.nx (σ'.set i none) H', rt := D.rt, bk := fun σ' H' => D.bk (σ'.set i none) H', ct := fun σ' H' => D.ct (σ'.set i none) H' } (σ.set i (some (.ref a))) H) : wCl K W D (⟨some i, c, ts⟩ :: r) cls d σ H := ⟨true, h, fun _ => q, fun z => absurd z.symm Bool.false_ne_true⟩
end
section
variable {X : Cx} {body : List Stmt} {h₀ : ExceptHandler} {hs : List ExceptHandler} {l : List Cl} {pos : Pos} {tb : WX → TS} {Wo : WX}
theorem ps_try7 (st : X.stack = X.env :: X.outer) (fr : X.env.frame = some X.env.locals) (tk : L2N.Takes X Wo)
    (hb : ∀ (W : WX) (pn : List (Addr × Obj)) (xe : Value → Shared → Prop), L2N.Takes (X.tr pn xe) W → PassesOwn (model X.prog X.w) X.A X.env xe → PSs (X.tr pn xe) body (tb W))
    (hh : Cls7 X (h₀ :: hs) l) : PS X (.Try body (h₀ :: hs) [] [] pos) (fun D σ H => tb (wCl X.K Wo D l) D σ H) := by
  refine ⟨fun pins s σ H D I q => ?_⟩
  have okX := I.ok
  have frs3 : X.A.frames = some (X.env :: X.outer) := by rw [okX.frames, st]
  refine wpAny_Try_except (wpAny_mono ((hb (wCl X.K Wo D l) (X.pn ++ pins) (fun e s₁ => wpAny (model X.prog X.w) X.A (noteFrame e X.env) (fun _ s₂ => wpAny (model X.prog X.w) X.A (setFlight e none)
    (fun _ s₃ => wpAny (model X.prog X.w) X.A (handleBy e X.env (h₀ :: hs)) (SP X pins D) X.xe s₃) X.xe s₂) X.xe s₁) (fun u t xx => ?_) PassesOwn.looking).run [] s σ H D (I.toTry _) q) (fun f t sp => ?_) (fun _ _ z => z))
  rotate_left
  · match f, sp with
    | .next, ⟨τ, G, J, z⟩ => exact wpAny_execs_nil ⟨τ, G, J.ofTry okX, z⟩
    | .brk, ⟨τ, G, J, z⟩ => exact ⟨τ, G, J.ofTry okX, z⟩
    | .cont, ⟨τ, G, J, z⟩ => exact ⟨τ, G, J.ofTry okX, z⟩
    | .ret u, ⟨v, τ, G, J, r, z⟩ => exact ⟨v, τ, G, J.ofTry okX, r, z⟩
  obtain ⟨a, B, sI, pn1, τ, G, cls, d, rfl, J0, nb, up, sky, na, os, ag, w⟩ := xx
  have J1 : Inv X pins τ G sI := J0.ofTry okX
  rw [st] at sky
  show wpAny (model X.prog X.w) X.A (noteFrame (.ref a) X.env) _ _ _
  refine L2N.Sky.land L2N.Zn.steady frs3 fr sky fun h3 fl up3 => ?_
  have J3 : Inv X pins τ G { t with heap := h3 } := J1.landed nb fl.1 (up.trans up3) os ag
  obtain ⟨oe, vs, he, hz, hd⟩ := fl.there
  have off : a ∉ frs (X.env :: X.outer) := fun m => by
    obtain ⟨_, o1, e1, nf⟩ := fl.2.2.1.mem m
    rw [he] at e1
    cases e1
    exact nf _ hd
  have offL : a ≠ X.env.locals := fun z => off (List.mem_filterMap.mpr ⟨X.env, List.mem_cons_self, by rw [fr, z]⟩)
  have offS : a ∉ X.fs := fun m => by
    obtain ⟨e, m1, m2⟩ := List.mem_filterMap.mp m
    exact off (List.mem_filterMap.mpr ⟨e, List.mem_cons_of_mem _ m1, m2⟩)
  have Su := J3.suite he hd na offL offS
  have all : ∀ {k : List ExceptHandler} {m : List Cl}, Cls7 X k m → wCl X.K Wo D m cls d τ G → wpAny (model X.prog X.w) X.A (handleBy (.ref a) X.env k) (SP X pins D) X.xe { t with heap := h3 } := by
    intro k m hk
    have tst : ∀ {x : Str} {np : Pos} {c : Value} {b : Bool} {P1 : Value → Shared → Prop} {E1 : Value → Shared → Prop}, Names X x c → P1 c { t with heap := h3 } → wpAny (model X.prog X.w) (X.A.mark (some (.ref a))) (eval (.Name x np) X.env) P1 E1 { t with heap := h3 } := fun {x np c b P1 E1} hc z => by
      obtain ⟨g1, g2, g3⟩ := hc
      rcases g3 with g3 | ⟨g3, g4, g5⟩
      · exact ld_glob (X := X.suite a ((a, oe) :: (X.pn ++ pins))) Su g1 g3 z g2
      · exact ld_blt (X := X.suite a ((a, oe) :: (X.pn ++ pins))) Su g1 g3 g4 z g5 g2
    have LT : PySem.W.Looks (model X.prog X.w) h3 (typeOf (.ref a)) cls := fun _ _ _ _ kk z => wpAny_typeOf_ref (kk _ _ he) (by rw [hz.1]; exact z)
    induction hk with
    | nil =>
      intro w
      refine wpAny_handleBy_nil ?_
      obtain ⟨_, _, _, o2, v2, T2, oT, t2, e2, z2, d2, g2, r2⟩ := id fl
      unfold PySem.passOn
      refine wpAny_bind (wpAny_field e2 d2 g2 ?_)
      rw [if_neg (by simp)]
      have out : wpAny (model X.prog X.w) X.A (setFlight (.ref a) X.env.frame) (fun _ s4 => wpAny (model X.prog X.w) X.A (throw (.ref a) : Sem Flow) (SP X pins D) X.xe s4) X.xe { t with heap := h3 } := by
        rw [fr]
        refine HandSPX.setFlight_upZ fl fun h4 hh4 up4 => wpAny_throw (tk _ _ ?_)
        exact ⟨a, B, sI, pins, τ, G, cls, d, rfl, J1, nb, (up.trans up3).trans up4, .inr (.inr (by rw [st]; exact hh4)), na, os, ag, w⟩
      first
        | exact wpAny_bind (wpAny_pure (wpAny_bind out))
        | exact wpAny_bind out
    | @bare x c ts b₀ su np p hs2 l2 hc hsu r ih =>
      intro w
      obtain ⟨b, hb1, yes, no⟩ := w
      refine wpAny_handleBy_cons (codeAny_handlers_test ?_) (by intro q; cases q)
      refine tst (b := b) hc ((PySem.W.exm_one (M := model X.prog X.w) J3.kIn LT hb1).here ?_)
      match b with
      | false => exact ih (no rfl)
      | true =>
        refine codeAny_handlers_suite (HandSPX.lands_againZ fl fun h4 fl4 up4 => ?_)
        have J4 : Inv X pins τ G { t with heap := h4 } := J1.landed nb fl4.1 ((up.trans up3).trans up4) os ag
        obtain ⟨o4, v4, e4, z4, d4⟩ := fl4.there
        refine wpAny_mono ((hsu a o4 cls d (X.pn ++ pins) z4 ⟨_, d4⟩).run [] _ _ G _ (J4.suite e4 d4 na offL offS) (yes rfl a na)) (fun f s6 z => ?_) (fun _ _ z => z.elim)
        match f, z with
        | .next, ⟨_, _, S6, z⟩ => exact ⟨_, _, S6.unsuite okX, z⟩
        | .brk, ⟨_, _, S6, z⟩ => exact ⟨_, _, S6.unsuite okX, z⟩
        | .cont, ⟨_, _, S6, z⟩ => exact ⟨_, _, S6.unsuite okX, z⟩
        | .ret u, ⟨_, _, _, S6, r6, z⟩ => exact ⟨_, _, _, S6.unsuite okX, r6, z⟩
    | @named x n c i ts b₀ su np p hs2 l2 hN hi hn hc hsu r ih =>
      intro w
      obtain ⟨b, hb1, yes, no⟩ := w
      refine wpAny_handleBy_cons (codeAny_handlers_test ?_) (by intro q; cases q)
      refine tst (b := b) hc ((PySem.W.exm_one (M := model X.prog X.w) J3.kIn LT hb1).here ?_)
      match b with
      | false => exact ih (no rfl)
      | true =>
        refine codeAny_handlers_suite_as (HandSPX.lands_againZ fl fun h4 fl4 up4 => ?_)
        have J4 : Inv X pins τ G { t with heap := h4 } := J1.landed nb fl4.1 ((up.trans up3).trans up4) os ag
        obtain ⟨o4, v4, e4, z4, d4⟩ := fl4.there
        refine store_ok (X := X.suite a ((a, o4) :: (X.pn ++ pins))) (v := .ref a) (J4.suite e4 d4 na offL offS) hN hi (.inl hn) rfl (fun s5 S5 => ?_) (.inr hn)
        refine wpAny_mono ((hsu a o4 cls d (X.pn ++ pins) z4 ⟨_, d4⟩).run [] s5 _ G _ S5 (yes rfl a na)) (fun f s6 z => ?_) (fun _ _ z => z.elim)
        have fin : ∀ {σ6 : L2.St} {H6 : Hp} {Q : Shared → Prop}, Inv (X.suite a ((a, o4) :: (X.pn ++ pins))) [] σ6 H6 s6 → (∀ s7, Inv X pins (σ6.set i none) H6 s7 → Q s7) → wpAny (model X.prog X.w) X.A (do bindName X.env n .none; unbindBehindTheSuite X.env n p) (fun _ s7 => Q s7) X.xe s6 := fun S6 z => gone_ok (S6.unsuite okX) hN hi hn z
        match f, z with
        | .next, ⟨_, _, S6, z⟩ => exact fin S6 fun _ J7 => ⟨_, _, J7, z⟩
        | .brk, ⟨_, _, S6, z⟩ => exact fin S6 fun _ J7 => ⟨_, _, J7, z⟩
        | .cont, ⟨_, _, S6, z⟩ => exact fin S6 fun _ J7 => ⟨_, _, J7, z⟩
        | .ret u, ⟨_, _, _, S6, r6, z⟩ => exact fin S6 fun _ J7 => ⟨_, _, _, J7, r6, z⟩
  exact all hh w
end
end KW

set_option Elab.async false
set_option linter.all false
set_option maxRecDepth 100000
set_option maxHeartbeats 4000000
/-! Kw6: methods with defaults, tuples among the constants, {k: v}, max of three, slices of tuples, tuple() -/
namespace KW
open PySem PySem.Spec PyProof.Rows L2
structure MetAtD (K : Frag) (C : Addr) (m qual : Str) (st : Stmt) (ps : List Str) (dvs : List V) : Prop where
  ex : ∃ f, Meth K C m f ∧ DfnAt K m qual st ps dvs f
structure CalMD (P : Program) (w : World) (K : Frag) (mg : Str → Option Value) (base : Heap) (k : Nat) (C : Addr) (m : Str) (dvs : List V) (sp : Sp) : Prop where
  cls : Cls K C
  ex : ∃ (f : Addr) (fd : FuncData) (ps : List Str), Meth K C m f ∧ FnOk P w K mg base (L2N.CX P w) k f fd ps sp ∧ ∀ j, j ≤ dvs.length → ∃ ds, Vals (dvs.drop j) ds ∧ Binds K fd ps ds
section
variable {P : Program} {w : World} {K : Frag} {mg : Str → Option Value} {base : Heap}
theorem MetAtD.ok {C : Addr} {m qual : Str} {st : Stmt} {N ps : List Str} {dvs : List V} {k : Nat} {sp : Sp} (D : MetAtD K C m qual st ps dvs) (c : Cls K C) (S : FnScope N ps (defScope st)) (len : ∀ vs H Q E, sp vs H Q E → vs.length = ps.length)
    (hbody : ∀ (f : Addr) (cdv : Value) (A : Around) (outer : List Env) (s : Shared) (H : Hp) (vs : List V) (Q : VK) (E : XK), Room k (A.deeper (envOfC qual (defScope st) s.heap.objs.size f cdv)) → sp vs H Q E →
      ∃ t, PSs (cxOf (L2N.CX P w) P w K mg base N qual (defScope st) f cdv A outer s H E) (defBody st) t ∧ t { nx := fun _ H' => Q .non H', rt := Q } (start N vs) H) : CalMD P w K mg base (k + 1) C m dvs sp := by
  obtain ⟨f, M, D⟩ := D.ex
  obtain ⟨fd, F, hb⟩ := D.fn S len hbody
  exact ⟨c, f, fd, ps, M, F, hb⟩
/-- a method that is never called here -/
theorem MetAt.dead {C : Addr} {m qual : Str} {st : Stmt} {ps : List Str} {k : Nat} (D : MetAt K C m qual st ps) (c : Cls K C) : CalM P w K mg base k C m (fun _ _ _ _ => False) := by
  obtain ⟨f, M, fd, F, hb⟩ := D.ex
  obtain ⟨ds, hd, b⟩ := hb 0 (Nat.le_refl _)
  cases hd
  exact ⟨c, f, fd, ps, M, b, fun _ _ _ _ h => h.elim, fun _ _ _ _ _ _ _ _ _ _ _ _ _ h => h.elim⟩
theorem metAt_mkD {C f T : Addr} {m qual : Str} {st : Stmt} {ps : List Str} {oc : Value} {od an : Option Addr} {osl : Array (Option Value)} {kV doc pm cdv ct : Value} {dvs : List V} {its : List Value} {o : Obj} {n : Nat} (a : PySem.W.findIn K (.ref C) m = some (some (.ref f))) (fn : PySem.W.isFn K (.ref f) = true) (kp : PySem.W.keepIn K (.ref f) = true)
    (l : K.lookup f = some ⟨oc, od, .func (PySem.W.fnOf m qual (defArgs st) (defBody st) (defScope st) (.ref T) kV doc pm an cdv ct), osl⟩) (c : PySem.W.codeIn K cdv qual = true)
    (lT : K.lookup T = some o) (oT : o.data = .seq its.toArray n) (r : Vals dvs its) (hd : dvs ≠ []) (hl : dvs.length ≤ ps.length)
    (hb : ∀ j, j ≤ dvs.length → ∀ (T : Addr) (kV doc pm : Value) (an : Option Addr) (cdv ct : Value) (us its : List Value), us.length = ps.length - (dvs.length - j) → its.length = dvs.length →
      ∃ k, bindArgs (PySem.W.fnOf m qual (defArgs st) (defBody st) (defScope st) (.ref T) kV doc pm an cdv ct) ⟨us, []⟩ = seqItems? (.ref T) >>= k ∧ k (some its.toArray) = pure (ps.zip (us ++ its.drop j))) : MetAtD K C m qual st ps dvs := by
  have F : FunD K m qual (defArgs st) (defBody st) (defScope st) dvs [] f _ := ⟨⟨oc, od, .ref T, kV, doc, pm, an, cdv, ct, osl, rfl, l, c, .inr ⟨hd, T, o, its, n, rfl, lT, oT, r⟩, .inl rfl⟩, kp⟩
  exact ⟨f, ⟨a, fn, kp⟩, _, F, fun j hj => F.binds1 (ps.length - (dvs.length - j)) j hd (by omega) (hb j hj)⟩
end
/-- o.m(args), where the last ones are taken from the defaults -/
def uMetD (C : Addr) (m : Str) (sp : Sp) (dv : List V) (ta : TE) (t : TA) : TE := fun σ H Q => ta σ H fun x H1 => uMtD C m sp dv t σ x H1 Q
where uMtD (C : Addr) (m : Str) (sp : Sp) (dv : List V) (t : TA) (σ : L2.St) : V → Hp → VK → Prop
  | .ref a, H1, Q => ∃ dx fs, H1 a = some (.ins C dx fs) ∧ fs.lookup m = none ∧ t σ H1 fun vs H2 => sp (.ref a :: (vs ++ dv)) H2 Q E0
  | _, _, _ => False
theorem uMtD_e {C : Addr} {m : Str} {sp : Sp} {dv : List V} {t : TA} {σ : L2.St} {a : Addr} {H : Hp} {Q : VK} : uMetD.uMtD C m sp dv t σ (.ref a) H Q = ∃ dx fs, H a = some (.ins C dx fs) ∧ fs.lookup m = none ∧ t σ H fun vs H2 => sp (.ref a :: (vs ++ dv)) H2 Q E0 := rfl
section
variable {X : Cx} {k : Nat} {C : Addr} {m : Str} {sp : Sp} {o e : Expr} {es : List Expr} {ta : TE} {t : TA} {apos pos : Pos} {pl : Sem Bool} {dvs : List V}
theorem kmD (j : Nat) (c : CalMD X.prog X.w X.K X.mg X.base k C m dvs sp) (hr : Room k X.A) (he : PE X o ta) (ha : PA X (e :: es) t) (hj : j ≤ dvs.length := by decide)
    (hst : starEach (e :: es) X.env = (false, eval e X.env) :: starEach es X.env := by rfl) (hpl : (backTo pos (starEach es X.env)).any (·.1) = false := by rfl)
    (ht : eval (.Call (.Attribute o m apos) (e :: es) [] pos) X.env = (do
      let ov ← eval o X.env
      standAt apos.atName
      let (f, first) ← holding [ov] (getMethod ov m pl)
      callWith pos f first (backTo pos (starEach (e :: es) X.env)) (backToKw pos (keywordEach [] X.env))) := by rfl) :
    PE X (.Call (.Attribute o m apos) (e :: es) [] pos) (uMetD C m sp (dvs.drop j) ta t) := by
  obtain ⟨cl, f, fd, ps, hm, F, hb⟩ := c
  obtain ⟨ds, hd, b⟩ := hb j hj
  refine ⟨fun pins s σ H Q I h => ?_⟩
  refine PySem.W.methodCall_KW (pl := pl) (thn (he.run pins s σ H _ I h) fun u s1 ⟨x, H1, I1, rx, hu⟩ => ?_) ht
  cases x with
  | ref a =>
    obtain ⟨dx, fs, ea, l, q⟩ := hu
    obtain rfl : u = Value.ref a := rx
    refine getmeth_ok I1 ea cl hm l ?_
    refine PySem.W.callWith_K (h₀ := X.base) I.ok.mod.kin hm.kp (thn (ha.run pos pins s1 σ H1 _ I1 q) fun us s2 ⟨vs, H2, I2, r, q2⟩ => ⟨I2.kIn, ?_⟩) hst hpl
    exact run_fn (us := .ref a :: us) (vs := .ref a :: vs) F hr b hd pass0 I2 (.cons rfl r) q2
  | _ => exact hu.elim
end
/-! ### tuples among the constants -/
structure GT (K : Frag) (mg : Str → Option Value) (x : Str) (a : Addr) (xs : List V) : Prop where
  g : mg x = some (.ref a)
  sq : ∀ H, SqT K H a xs
theorem gt_mk {K : Frag} {mg : Str → Option Value} {x : Str} {a : Addr} {xs : List V} {o : Obj} {its : List Value} {n : Nat} (g : mg x = some (.ref a)) (l : K.lookup a = some o) (c : o.cls = .type "tuple") (d : o.data = .seq its.toArray n) (z : its.length ≤ 1000) (r : Vals xs its) : GT K mg x a xs :=
  ⟨g, fun H => .inr ⟨o, its.toArray, n, l, c, d, by rw [sizeLine_eq]; simp; omega, by simpa using r⟩⟩
theorem in_gt {K : Frag} {H : Hp} {l : Addr} {x : Str} {xs : List Str} {Q : VK} (h : SqT K H l (xs.map V.str)) (q : Q (.bl (decide (x ∈ xs))) H) : rIn K false (.str x) (.ref l) H Q := ⟨l, _, rfl, .inr h, rfl, flat_strs xs, by rw [inV_strs]; exact q⟩
/-! ### {k: v} -/
def uD1 (p : Addr) : V → V → Hp → VK → Prop
  | .int i, v, H, Q => H p = some (.dK []) ∧ Q (.ref p) (upd H p (.dK [(.inl i, v)]))
  | .str i, v, H, Q => H p = some (.dK []) ∧ Q (.ref p) (upd H p (.dK [(.inr i, v)]))
  | _, _, _, _ => False
theorem uD1_e1 {p : Addr} {i : Int} {v : V} {H : Hp} {Q : VK} : uD1 p (.int i) v H Q = (H p = some (.dK []) ∧ Q (.ref p) (upd H p (.dK [(.inl i, v)]))) := rfl
theorem uD1_e2 {p : Addr} {i : Str} {v : V} {H : Hp} {Q : VK} : uD1 p (.str i) v H Q = (H p = some (.dK []) ∧ Q (.ref p) (upd H p (.dK [(.inr i, v)]))) := rfl
def uDict1 (tk tv : TE) : TE := fun σ H Q => ∀ p, H p = none → tk σ (upd H p (.dK [])) fun k H2 => tv σ H2 fun v H3 => uD1 p k v H3 Q
section
variable {X : Cx}
theorem k_dict1 {k v : Expr} {tk tv : TE} {pos : Pos} (hk : PE X k tk) (hv : PE X v tv) : PE X (.Dict [some k] [v] pos) (uDict1 tk tv) := by
  refine ⟨fun pins s σ H Q I h => ?_⟩
  refine (pe_disp (pps_cons (PEw hk (t' := tk) fun _ _ _ h => h) (PEw hv (t' := tv) fun _ _ _ h => h) pps_nil) rfl rfl (by simp) (by simp)).run pins s σ H Q I fun p hp => ?_
  have h := h p hp
  have e : (fun k H2 => tv σ H2 fun v H3 => uD1 p k v H3 Q) = fun k H2 => tv σ H2 fun v H3 => H3 p = some (.dK []) ∧ ∃ kvs : List (Key × V), [(k, v)] = kvs.map (fun kv => (kV kv.1, kv.2)) ∧ kvs.length ≤ 15 ∧ Q (.ref p) (upd H3 p (.dK (mergeK [] kvs))) := by
    funext k H2
    refine congrArg (tv σ H2) ?_
    funext v H3
    apply propext
    constructor
    · intro h
      unfold uD1 at h
      split at h
      · exact ⟨h.1, [(.inl _, v)], rfl, by simp, h.2⟩
      · exact ⟨h.1, [(.inr _, v)], rfl, by simp, h.2⟩
      · exact h.elim
    · rintro ⟨h1, kvs, e, -, q⟩
      match kvs, e with
      | [(.inl i, v')], e =>
        simp only [List.map_cons, List.map_nil, List.cons.injEq, Prod.mk.injEq, and_true] at e
        obtain ⟨rfl, rfl⟩ := e
        exact ⟨h1, q⟩
      | [(.inr i, v')], e =>
        simp only [List.map_cons, List.map_nil, List.cons.injEq, Prod.mk.injEq, and_true] at e
        obtain ⟨rfl, rfl⟩ := e
        exact ⟨h1, q⟩
  rw [e] at h
  exact h
/-! ### max(a, b, c), slices, tuple() -/
def m2 (i j : Int) : Int := if i < j then j else i
def uMax3 : List V → Hp → VK → Prop
  | [.int i, .int j, .int k], H, Q => Q (.int (m2 (m2 i j) k)) H
  | _, _, _ => False
theorem uMax3_e {i j k : Int} {H : Hp} {Q : VK} : uMax3 [.int i, .int j, .int k] H Q = Q (.int (m2 (m2 i j) k)) H := rfl
theorem c_max3 (hc : X.calm = true) : CallR X (.builtin "max") uMax3 := CallRw (call_max3Nu hc) fun xs H Q h => by
  unfold uMax3 at h
  split at h
  · rename_i i j k
    refine ⟨.int i, .int j, .int k, .int (m2 (m2 i j) k), rfl, ?_, h⟩
    have e : ∀ i j : Int, nuMax2 (.int i) (.int j) = some (.int (m2 i j)) := fun i j => by
      unfold nuMax2 m2
      show (some (decide (i < j))).map _ = _
      by_cases c : i < j
      · simp [c]
      · simp [c]
    unfold nuMax3
    rw [e]
    exact e _ _
  · exact h.elim
def uSlA (K : Frag) : V → Option Int → Option Int → Hp → VK → Prop
  | .ref a, lo, hi, H, Q => rSlL K (.ref a) lo hi H Q ∨ rSlA K (.ref a) lo hi H Q
  | .str z, lo, hi, H, Q => z.length ≤ sizeLine ∧ Q (.str (cutS z lo hi)) H
  | _, _, _, _, _ => False
theorem uSlA_e1 {K : Frag} {a : Addr} {lo : Option Int} {hi : Option Int} {H : Hp} {Q : VK} : uSlA K (.ref a) lo hi H Q = (rSlL K (.ref a) lo hi H Q ∨ rSlA K (.ref a) lo hi H Q) := rfl
theorem uSlA_e2 {K : Frag} {z : Str} {lo : Option Int} {hi : Option Int} {H : Hp} {Q : VK} : uSlA K (.str z) lo hi H Q = (z.length ≤ sizeLine ∧ Q (.str (cutS z lo hi)) H) := rfl
theorem o_slA : SlR X (uSlA X.K) := SlRw (sl_list.or (sl_tupA.or sl_str)) fun x lo hi H Q h => by
  unfold uSlA at h
  split at h
  · exact h.elim .inl fun z => .inr (.inl z)
  · exact .inr (.inr ⟨_, rfl, h.1, h.2⟩)
  · exact h.elim
def uTuple (K : Frag) : List V → Hp → VK → Prop
  | [.ref p], H, Q => ∃ ys, (SqL K H p ys ∧ ∀ l, H l = none → Q (.ref l) (upd H l (.tup ys))) ∨ (SqT K H p ys ∧ Q (.ref p) H)
  | _, _, _ => False
theorem uTuple_e {K : Frag} {p : Addr} {H : Hp} {Q : VK} : uTuple K [.ref p] H Q = ∃ ys, (SqL K H p ys ∧ ∀ l, H l = none → Q (.ref l) (upd H l (.tup ys))) ∨ (SqT K H p ys ∧ Q (.ref p) H) := rfl
theorem c_tuple : CallR X (.type "tuple") (uTuple X.K) := CallRw call_tuple_of fun xs H Q h => by
  unfold uTuple at h
  split at h
  · obtain ⟨ys, h⟩ := h
    exact ⟨_, ys, rfl, h⟩
  · exact h.elim
def uLenDk : List V → Hp → VK → Prop
  | [.ref p], H, Q => ∃ kvs, H p = some (.dK kvs) ∧ Q (.int kvs.length) H
  | _, _, _ => False
theorem uLenDk_e {p : Addr} {H : Hp} {Q : VK} : uLenDk [.ref p] H Q = ∃ kvs, H p = some (.dK kvs) ∧ Q (.int kvs.length) H := rfl
theorem c_lenDk : CallR X (.builtin "len") uLenDk := CallRw call_lenD fun xs H Q h => by
  unfold uLenDk at h
  split at h
  · obtain ⟨kvs, h1, h2⟩ := h
    exact ⟨_, kvs, rfl, h1, h2⟩
  · exact h.elim
end
end KW

set_option Elab.async false
set_option linter.all false
set_option maxRecDepth 100000
set_option maxHeartbeats 4000000
namespace PySem
namespace KErr_limit
open PySem.W PySem.Calls PyProof.Rows PySem.HandSPX PySem.KErr
def eA (p1 p2 : Pos) : Arguments := { posonlyargs := [], args := [{ arg := "self", annotation := none, pos := p1 }, { arg := "limit", annotation := none, pos := p2 }], vararg := none, kwonlyargs := [], kw_defaults := [], kwarg := none, defaults := [] }
def eB (q : Nat → Pos) : List Stmt := [
  .Expr (.Call (.Attribute (.Call (.Name "super" (q 0)) [] [] (q 1)) "__init__" (q 2)) [.Call (.Name "str" (q 3)) [.Name "limit" (q 4)] [] (q 5)] [] (q 6)) (q 7),
  .Assign [.Attribute (.Name "self" (q 8)) "limit" (q 9)] (.Name "limit" (q 10)) (q 11)]
def eS : Scope := { kind := .function, names := [(PySem.Str.ofString "self", .local), (PySem.Str.ofString "limit", .local), (PySem.Str.ofString "__class__", .free), (PySem.Str.ofString "super", .globalImplicit), (PySem.Str.ofString "str", .globalImplicit)], isGenerator := false, isCoroutine := false, more := [] }
def MC (q : Nat → Pos) : Prop := ∀ env : Env, ∃ pl : Sem Bool, eval (.Call (.Attribute (.Call (.Name "super" (q 0)) [] [] (q 1)) "__init__" (q 2)) [.Call (.Name "str" (q 3)) [.Name "limit" (q 4)] [] (q 5)] [] (q 6)) env = (do
      let ov ← attributeBase (.Call (.Name "super" (q 0)) [] [] (q 1)) "__init__" env (eval (.Call (.Name "super" (q 0)) [] [] (q 1)) env)
      standAt (q 2).atName
      let (f, first) ← holding [ov] (getMethod ov "__init__" pl)
      callWith (q 6) f first (backTo (q 6) (starEach [.Call (.Name "str" (q 3)) [.Name "limit" (q 4)] [] (q 5)] env)) [])
def AC (q : Nat → Pos) : Prop := ∀ env : Env, swapsWith (.Name "limit" (q 10)) (some (.Attribute (.Name "self" (q 8)) "limit" (q 9))) (q 11).line env = pure false
/-- what the top leaves of the class x with the one field -/
structure ErrTxt (prog : Program) (K : Frag) (mg : Str → Option Value) (x qual : Str) (C fI cc cda : Addr) : Prop where
  gC : mg x = some (.ref C)
  cls : ∃ nm q N bs bm sn sub ab col dd k0 k1 k2 k3 k5, K.lookup C = some (excClassObj nm q C N bs bm true sn sub ab col dd k0 k1 k2 k3 k5 "ValueError.__new__") ∧ refsVE bm = true
  sup : ks_superIn K C C "__init__" = some (some (.builtin "ValueError.__init__"))
  sa : findIn K (.ref C) "__setattr__" = some (some (.builtin "object.__setattr__"))
  noN : findIn K (.ref C) "limit" = some none
  iC : findIn K (.ref C) "__init__" = some (some (.ref fI))
  tC : typeIn K (.ref fI) = some (.type "function")
  kC : keepIn K (.ref C) = true
  exC : subIn K (.ref C) (.type "BaseException") = some true
  veC : subIn K (.ref C) (.type "ValueError") = some true
  tyC : typeIn K (.ref C) = some (.type "type")
  own : mroIn K C (.ref C) = some true
  tp : nsIn K cStatics "thirdparty.any" = some none
  dg : nsIn K cStatics "sys.int_max_str_digits" = some none
  nsup : mg "super" = none
  nstr : mg "str" = none
  fn : ∃ (oc : Value) (od : Option Addr) (doc pm : Value) (an : Option Addr) (ct : Value) (osl : Array (Option Value)) (p1 p2 : Pos) (q : Nat → Pos),
    K.lookup fI = some ⟨oc, od, .func (ksFn "__init__" qual (eA p1 p2) (eB q) eS .none .none doc pm an (.ref cda) ct cc), osl⟩ ∧ codeIn K (.ref cda) qual = true ∧ MC q ∧ AC q
  cell : ∃ cl cld csl, K.lookup cc = some ⟨cl, cld, .cell (some (.ref C)), csl⟩
  code : ∃ ccl cdd vs ccs file tf, K.lookup cda = some ⟨ccl, cdd, .fields vs, ccs⟩ ∧ vs[2]? = some (.str file tf) ∧ ((prog.main.file : Str) == file) = true
  top : (prog.main.scope.names.lookup ("super" : Str)).isSome = false
section
variable {prog : Program} {w : World} {A : Around} {E : Value → Shared → Prop} {R : Result → Shared → Prop} {s : Shared} {K : Frag} {mg : Str → Option Value} {x qual : Str} {C fI cc cda : Addr}
theorem err_init (T : ErrTxt prog K mg x qual C fI cc cda) {e t0 : Addr} {v : Value} (X : K.In s.heap) (hlim : s.heap.NoLimit) (G : s.heap.Ns mainGlobals mg) (B : ∃ mb, s.heap.Ns builtinsNs mb ∧ ∀ x : Str, x ≠ "__name__" → mb x = bootBuiltins x)
    (hx : s.heap.get? e = some (excO C t0)) (hnx : K.lookup e = none) (hh : A.handled = none) (hroom : A.depth < recursionLimit) (hv : StrOk prog w v)
    (hq : ∀ h' tk dx t1, InitEnd s.heap h' e C dx t1 "limit" v → R (.ok (.ret .none)) { s with heap := h', toks := tk }) :
    codeAny (model prog w) A (.call (.ref fI) ⟨[.ref e, v], []⟩) R s := by
  obtain ⟨oc, od, doc, pm, an, ct, osl, p1, p2, q, ho, hcd, hMC, hAC⟩ := T.fn
  obtain ⟨nm, qn, N, bs, bm, sn, sub, ab, col, dd, k0, k1, k2, k3, k5, hC, hbm⟩ := T.cls
  obtain ⟨cl, cld, csl, hcell⟩ := T.cell
  obtain ⟨ccl, cdd, vs, ccs, file, tf, hcode, hvs, hfile⟩ := T.code
  obtain ⟨mb, Bn, Bb⟩ := B
  have hcl : clsIn K C = some { name := nm, bases := bs, mro := .ref C :: bm, ns := N, qualname := qn, hasDict := true, slotNames := sn, subclasses := sub, abstract := ab, collection := col, hasDel := false } := by unfold clsIn; rw [hC] <;> rfl
  refine ks_codeAny_call_defAt (fd := ksFn "__init__" qual (eA p1 p2) (eB q) eS .none .none doc pm an (.ref cda) ct cc) (body := eB q) (binds := [("self", .ref e), ("limit", v)]) hroom (X _ _ ho) rfl hlim (codeRec_of X hcd) rfl ?b ?c ?l (fun h₁ hns k₁ => ?_)
  case b => exact BindsTo.of_eq (by first | rfl | with_unfolding_all rfl)
  case c => show ∀ x ∈ eS.names, x.2 ≠ .cell; decide
  case l => exact locs rfl
  obtain ⟨sh, sg, sd, st, sos⟩ := s
  have X₁ : K.In h₁ := X.keeps k₁
  have hx₁ := k₁ _ _ hx
  have hC₁ := X₁ _ _ hC
  show _root_.PySem.wpAt (model prog w) _ (.func (eB q) (ksEnv qual eS sh.objs.size fI (.ref cda) cc)) (execs (eB q) (ksEnv qual eS sh.objs.size fI (.ref cda) cc)) _ _ _
  obtain ⟨pl, hpl⟩ := hMC (ksEnv qual eS sh.objs.size fI (.ref cda) cc)
  refine ks_wpAt_execs_cons (ks_wpAt_Expr_any (ks_wpAt_MethodCall ?_ hpl))
  refine ks_wpAt_super_base (env := ksEnv qual eS sh.objs.size fI (.ref cda) cc) (ar := { arg := "self", annotation := none, pos := p1 }) rfl rfl (by decide) rfl (X₁ _ _ ho) rfl rfl rfl (X₁ _ _ hcode) rfl hvs hfile T.top ?_
  refine ks_loadName_global rfl rfl (loadGlobal_builtin (env := ksEnv qual eS sh.objs.size fI (.ref cda) cc) (G.keeps k₁) T.nsup (Bn.keeps k₁) ((Bb _ (by decide +kernel)).trans (by first | boot_by_name | rfl | kernel_rfl)) ⟨rfl, ?_⟩)
  refine wpAny_loadName_free rfl rfl rfl ⟨_, X₁ _ _ hcell, rfl⟩ ?_
  refine wpAny_loadName_local rfl rfl hns (by first | rfl | with_unfolding_all rfl | kernel_rfl) ?_
  refine ks_wpAny_isType_cls hC₁ rfl ⟨rfl, ?_⟩
  refine ks_wpAny_call_super hC₁ rfl hx₁ rfl (fun c z => by cases z) (looks_mroIn X₁ T.own) (fun h₂ e2 k2 => ?_)
  have X₂ : K.In h₂ := X₁.keeps k2
  have hC₂ := k2 _ _ hC₁
  have hx₂ := k2 _ _ hx₁
  have I₂ : InstAt h₂ e (excO C t0) C none := ⟨hx₂, rfl, rfl, trivial⟩
  have hxC : e ≠ C := ks_ne X₂ I₂ hcl
  have hsup := T.sup
  unfold ks_superIn at hsup
  rw [hcl] at hsup
  refine kxs_getMethod kxs_ValueError e2 (looks_opaque X₂ T.tp) (l₀ := .ref C :: bm) (fun A Q E s k q => wpAny_bind ((looks_clsIn X₂ hcl) A _ E s k (wpAny_pure q))) rfl X₂ hsup (I₂.type.andThen (looks_subIn X₂ T.veC)) hxC rfl ?_
  refine kxs_callWith (i := "ValueError.__init__") (x := e) rfl ?_
  refine Calls.evalArgs_plain (Calls.spliced_cons ?_)
  have k3 : ∀ b o, h₂.get? b = some o → (h₂.push (kxs_mw "ValueError.__init__" e)).get? b = some o := fun b o z => Heap.get?_push_of_some _ z
  have X₃ := X₂.keeps k3
  have G₃ := ((G.keeps k₁).keeps k2).keeps k3
  have B₃ := ((Bn.keeps k₁).keeps k2).keeps k3
  have hns₃ := (hns.keeps k2).keeps k3
  have hu : (h₂.push (kxs_mw "ValueError.__init__" e)).get? h₂.objs.size = some (kxs_mw "ValueError.__init__" e) := by heap_get
  have hdg : (h₂.push (kxs_mw "ValueError.__init__" e)).NoDigits := let ⟨mc, a, _⟩ := ((hlim.keeps k₁).keeps k2).keeps k3; ⟨mc, a, ns_none_of X₃ a T.dg⟩
  generalize h₂.push (kxs_mw "ValueError.__init__" e) = h₃ at *
  refine wpAny_Call_NameR (wpAny_Name (ks_loadName_global rfl rfl (loadGlobal_builtin (env := ksEnv qual eS sh.objs.size fI (.ref cda) cc) G₃ T.nstr B₃ ((Bb _ (by decide +kernel)).trans (by first | boot_by_name | rfl | kernel_rfl)) ?_)) rfl)
  refine callWith_type1 ?_
  show wpAny _ _ (eval (.Name "limit" (q 4)) _) _ _ _
  refine wpAny_Name (wpAny_loadName_local rfl rfl hns₃ (by first | rfl | with_unfolding_all rfl | kernel_rfl) ?_) (by decide)
  refine hv _ _ _ _ hh hdg (fun txt tk tk' => ?_)
  refine Calls.spliced_nil ⟨hu, ?_⟩
  refine init_call (hC := k3 _ _ hC₂) (he := k3 _ _ hx₂) (hu := hu) (one_size _) (fun h₄ t1 k4 hx₄ => ?_)
  have hLe : sh.objs.size ≠ e := Nat.ne_of_gt (Heap.lt_size hx)
  have hns₄ : h₄.Ns sh.objs.size (fun x => List.lookup x [((PySem.Str.ofString "self" : Str), Value.ref e), ((PySem.Str.ofString "limit" : Str), v)].reverse) := by
    obtain ⟨oL, es, ep, hL, r⟩ := hns₃
    exact ⟨oL, es, ep, k4 _ _ hLe hL, r⟩
  have X₄ : K.In h₄ := kept_but X₃ hnx k4
  show wpAt _ _ _ (execs _ _) _ _ _
  refine ks_wpAt_execs_cons (ks_wpAt_Assign_Attr (wpAt_of_wpAny (wpAny_Name (wpAny_loadName_local rfl rfl hns₄ (by first | rfl | with_unfolding_all rfl | kernel_rfl) ?_) (by decide))) (hAC _))
  refine wpAny_Name (wpAny_loadName_local rfl rfl hns₄ (by first | rfl | with_unfolding_all rfl | kernel_rfl) ?_) (by decide)
  refine set_plain X₄ (ox := excO C t1) (od := none) ⟨hx₄, rfl, rfl, trivial⟩ T.sa ?_
  refine exc_osa X₄ hx₄ hcl (show refsVE (.ref C :: bm) = true from hbm) rfl T.noN (fun h₅ tk₅ dx k₅ dn dne hx₅ hn₅ => ?_)
  show wpAt _ _ _ (execs _ _) _ _ _
  have z : sh.objs.size < h₄.objs.size := hns₄.lt
  refine wpAt_of_wpAny (wpAny_execs_nil (hq h₅ tk₅ dx t1 ⟨fun b o hb e => k₅ b o hb (k4 b o hb (k3 _ _ (k2 _ _ (k₁ b o e)))), hx₅, Nat.le_of_lt (Nat.lt_of_lt_of_le z dn), dne, hn₅⟩))
theorem err_made (T : ErrTxt prog K mg x qual C fI cc cda) : Mkd prog w K mg C ["limit"] (fun vs => ∃ v, vs = [v] ∧ okS v) := by
  intro A s R vs us rl hok X hlim G B hh hroom hq
  obtain ⟨v, rfl, ov⟩ := hok
  cases rl with
  | cons rv rn =>
  rename_i u us'
  cases rn
  obtain ⟨nm, q, N, bs, bm, sn, sub, ab, col, dd, k0, k1, k2, k3, k5, hC, hbm⟩ := T.cls
  obtain ⟨hp, g, dr, tk, os⟩ := s
  have k : ∀ b o, hp.get? b = some o → ((hp.push (kdv_tup [u])).push (excO C hp.objs.size)).get? b = some o := fun b o e => Heap.get?_push_of_some _ (Heap.get?_push_of_some _ e)
  have hget : ((hp.push (kdv_tup [u])).push (excO C hp.objs.size)).get? (hp.objs.size + 1) = some (excO C hp.objs.size) := by heap_get
  have hnx : K.lookup (hp.objs.size + 1) = none := by
    cases e : K.lookup (hp.objs.size + 1) with
    | none => rfl
    | some o =>
      have z : hp.get? (hp.objs.size + 1) = some o := X _ _ e
      exact absurd (Nat.lt_of_succ_lt (Heap.lt_size z)) (Nat.lt_irrefl _)
  refine call_own F.excBase_ValueError (fun X => refsVE_contains X bm hbm) (X _ _ hC) (looks_findIn X T.iC) (fun self => bind_fn X self T.tC) (one_size u) ?_
  obtain ⟨mb, B1, B2⟩ := B
  refine err_init (s := ⟨(hp.push (kdv_tup [u])).push (excO C hp.objs.size), g, dr, tk, os⟩) T (X.keeps k) (hlim.keeps k) (G.keeps k) ⟨mb, B1.keeps k, B2⟩ hget hnx ?_ ?_ (okS_ok rv ov) fun h' tk' dx t1 ⟨k', hx, dn, dne, hns⟩ => ?_
  · exact hh
  · show A.depth + 1 < recursionLimit
    exact hroom
  · have old : ∀ b o, hp.get? b = some o → h'.get? b = some o := fun b o e => k' b o (Nat.ne_of_lt (Nat.lt_succ_of_lt (Heap.lt_size e))) (k b o e)
    have z : hp.objs.size + 1 + 1 ≤ dx := by
      first
        | (simpa only [Heap.size_push] using dn)
        | exact dn
        | (have q := dn; rw [Heap.size_push, Heap.size_push] at q; exact q)
    refine ⟨rfl, hq h' tk' (hp.objs.size + 1) dx ⟨old, Nat.le_succ _, ⟨_, _, hx, rfl, rfl, rfl, rfl, rfl⟩, Nat.le_trans (Nat.le_trans (Nat.le_succ _) (Nat.le_succ _)) z, dne, ?_⟩⟩
    have ef : (fun y : Str => List.lookup y ([(PySem.Str.ofString "limit" : Str)].zip [u])) = fun y => if y = PySem.Str.ofString "limit" then some u else none := by
      funext y
      by_cases h : y = PySem.Str.ofString "limit"
      · simp [List.lookup, h]
      · have h2 : (y == PySem.Str.ofString "limit") = false := by simpa using h
        simp [List.lookup, h, h2]
    rw [ef]
    exact hns
def p1Of (st : Stmt) : Pos := match (L2.defArgs st).args with | [a, _] => a.pos | _ => ⟨0, 0, 0, 0⟩
def p2Of (st : Stmt) : Pos := match (L2.defArgs st).args with | [_, a] => a.pos | _ => ⟨0, 0, 0, 0⟩
def qOf (st : Stmt) : Nat → Pos := match L2.defBody st with
  | [.Expr (.Call (.Attribute (.Call (.Name _ q0) _ _ q1) _ q2) [.Call (.Name _ q3) [.Name _ q4] _ q5] _ q6) q7, .Assign [.Attribute (.Name _ q8) _ q9] (.Name _ q10) q11] =>
    fun n => [q0, q1, q2, q3, q4, q5, q6, q7, q8, q9, q10, q11].getD n ⟨0, 0, 0, 0⟩
  | _ => fun _ => ⟨0, 0, 0, 0⟩
theorem err_mk (st : Stmt) {h : Heap} {nm q : Str} {N : Addr} {bs bm : List Value} {sn : List Str} {sub : List Value} {ab : Bool} {col : Option Bool} {dd : Option Addr} {k0 k1 k2 k3 k5 : Option Value} {oc : Value} {od : Option Addr} {doc pm : Value} {an : Option Addr} {ct : Value} {osl : Array (Option Value)}
    {cl : Value} {cld : Option Addr} {csl : Array (Option Value)} {ccl : Value} {cdd : Option Addr} {vs : Array Value} {ccs : Array (Option Value)} {file : Str} {tf : Tok}
    (X : K.In h) (G : h.Ns mainGlobals mg) (aC : nsIn K mainGlobals x = some (some (.ref C))) (xL : K.lookup C = some (excClassObj nm q C N bs bm true sn sub ab col dd k0 k1 k2 k3 k5 "ValueError.__new__")) (bmv : refsVE bm = true)
    (sup : ks_superIn K C C "__init__" = some (some (.builtin "ValueError.__init__"))) (sa : findIn K (.ref C) "__setattr__" = some (some (.builtin "object.__setattr__"))) (no : findIn K (.ref C) "limit" = some none)
    (a1 : findIn K (.ref C) "__init__" = some (some (.ref fI))) (t1 : typeIn K (.ref fI) = some (.type "function")) (kC : keepIn K (.ref C) = true) (eC : subIn K (.ref C) (.type "BaseException") = some true) (vC : subIn K (.ref C) (.type "ValueError") = some true)
    (tC : typeIn K (.ref C) = some (.type "type")) (own : mroIn K C (.ref C) = some true) (tp : nsIn K cStatics "thirdparty.any" = some none) (dg : nsIn K cStatics "sys.int_max_str_digits" = some none) (nsup : nsIn K mainGlobals "super" = some none) (nstr : nsIn K mainGlobals "str" = some none)
    (hst : L2.defArgs st = eA (p1Of st) (p2Of st) ∧ L2.defBody st = eB (qOf st) ∧ L2.defScope st = eS)
    (l1 : K.lookup fI = some ⟨oc, od, .func (ksFn "__init__" qual (L2.defArgs st) (L2.defBody st) (L2.defScope st) .none .none doc pm an (.ref cda) ct cc), osl⟩) (c1 : codeIn K (.ref cda) qual = true) (mc : MC (qOf st)) (ac : AC (qOf st))
    (ce : K.lookup cc = some ⟨cl, cld, .cell (some (.ref C)), csl⟩) (co : K.lookup cda = some ⟨ccl, cdd, .fields vs, ccs⟩) (cf : vs[2]? = some (.str file tf)) (cg : ((prog.main.file : Str) == file) = true) (top : (prog.main.scope.names.lookup ("super" : Str)).isSome = false)
    (hg : findIn K (.ref C) "__getattribute__" = some (some (.builtin "BaseException.__getattribute__"))) (hk : findIn K (.ref C) "__getattr__" = some none) (hd : hasDictIn K C = true) (ha : findIn K (.ref C) "__class__" = some (some (.builtin "object.__class__")))
    (hn : specialIn K (.builtin "object.__class__") "__get__" = some (some (.builtin "getset_descriptor.__get__"))) (ht : takesIn K (.builtin "object.__class__") = some true) (hm : mroIn K C (.type "object") = some true) :
    KW.ErrC prog w K mg x C ["limit"] (fun vs => ∃ v, vs = [v] ∧ okS v) := by
  have T : ErrTxt prog K mg x qual C fI cc cda :=
    { gC := mg_of X G aC, cls := ⟨nm, q, N, bs, bm, sn, sub, ab, col, dd, k0, k1, k2, k3, k5, xL, bmv⟩, sup := sup, sa := sa, noN := no, iC := a1, tC := t1, kC := kC, exC := eC, veC := vC, tyC := tC, own := own, tp := tp, dg := dg,
      nsup := mg_none_of X G nsup, nstr := mg_none_of X G nstr,
      fn := ⟨oc, od, doc, pm, an, ct, osl, p1Of st, p2Of st, qOf st, by rw [← hst.1, ← hst.2.1, ← hst.2.2]; exact l1, c1, mc, ac⟩,
      cell := ⟨cl, cld, csl, ce⟩, code := ⟨ccl, cdd, vs, ccs, file, tf, co, cf, cg⟩, top := top }
  exact ⟨T.gC, err_made T, kC, eC, tC, ⟨hg, hk, eC, hd⟩, ⟨hg, hk, eC, hd, ha, hn, ht, hm⟩, fun f hf => by cases hf with | head => exact no | tail _ z => cases z⟩
end
end KErr_limit
end PySem

set_option Elab.async false
set_option linter.all false
set_option maxRecDepth 100000
set_option maxHeartbeats 4000000
/-! KErr2b: for errors of two fields, a text and a number -/
namespace PySem
namespace KErr
open PySem.W PySem.Calls PyProof.Rows PySem.HandSPX
structure InitEnd2 (h h' : Heap) (x C dx t1 : Addr) (f1 f2 : Str) (v1 v2 : Value) : Prop where
  keep : ∀ b o, b ≠ x → b ≠ dx → h.get? b = some o → h'.get? b = some o
  obj : h'.get? x = some { cls := .ref C, dict := some dx, data := .fields #[.ref t1, .none, .none, .none, .bool false, .none] }
  dbig : h.objs.size ≤ dx
  dne : dx ≠ x
  ns : h'.Ns1 dx (fun y => if y = f2 then some v2 else if y = f1 then some v1 else none)
theorem two_size (v u : Value) : [v, u].length ≤ sizeLine := by
  rw [sizeLine_eq]
  exact (by decide : 2 ≤ 16777216)
theorem one_sp : (" " : Str).length = 1 := rfl
theorem app_len2 {x y : Str} : (x ++ y).length = x.length + y.length := by
  show (x.cps ++ y.cps).size = x.cps.size + y.cps.size
  rw [Array.size_append]
theorem le_line2 {n : Nat} (h : n ≤ 2000000) : n ≤ sizeLine := by rw [sizeLine_eq]; omega
theorem add2 {prog : Program} {w : World} {A : Around} {E : Value → Shared → Prop} {s : Shared} {x y : Str} {t u : Tok} {Q : Value → Shared → Prop} (h : ∀ t' k, Q (.str (x ++ y) t') { s with toks := k }) (hsz : x.length + y.length ≤ sizeLine) : wpAny (model prog w) A (binaryOp .Add (.str x t) (.str y u)) Q E s := PySem.SB.add h hsz
end KErr
end PySem

set_option Elab.async false
set_option linter.all false
set_option maxRecDepth 100000
set_option maxHeartbeats 4000000
namespace PySem
namespace KErr_name_at
open PySem.W PySem.Calls PyProof.Rows PySem.HandSPX PySem.KErr
def eA (p1 p2 p3 : Pos) : Arguments := { posonlyargs := [], args := [{ arg := "self", annotation := none, pos := p1 }, { arg := "name", annotation := none, pos := p2 }, { arg := "at", annotation := none, pos := p3 }], vararg := none, kwonlyargs := [], kw_defaults := [], kwarg := none, defaults := [] }
def eB (q : Nat → Pos) : List Stmt := [
  .Expr (.Call (.Attribute (.Call (.Name "super" (q 0)) [] [] (q 1)) "__init__" (q 2)) [.BinOp (.BinOp (.Call (.Name "str" (q 3)) [.Name "name" (q 4)] [] (q 5)) .Add (.Constant (.str " ") 0 (q 12)) (q 13)) .Add (.Call (.Name "str" (q 14)) [.Name "at" (q 15)] [] (q 16)) (q 17)] [] (q 6)) (q 7),
  .Assign [.Attribute (.Name "self" (q 8)) "name" (q 9)] (.Name "name" (q 10)) (q 11),
  .Assign [.Attribute (.Name "self" (q 18)) "at" (q 19)] (.Name "at" (q 20)) (q 21)]
def eS : Scope := { kind := .function, names := [(PySem.Str.ofString "self", .local), (PySem.Str.ofString "name", .local), (PySem.Str.ofString "at", .local), (PySem.Str.ofString "__class__", .free), (PySem.Str.ofString "super", .globalImplicit), (PySem.Str.ofString "str", .globalImplicit)], isGenerator := false, isCoroutine := false, more := [] }
def MC (q : Nat → Pos) : Prop := ∀ env : Env, ∃ pl : Sem Bool, eval (.Call (.Attribute (.Call (.Name "super" (q 0)) [] [] (q 1)) "__init__" (q 2)) [.BinOp (.BinOp (.Call (.Name "str" (q 3)) [.Name "name" (q 4)] [] (q 5)) .Add (.Constant (.str " ") 0 (q 12)) (q 13)) .Add (.Call (.Name "str" (q 14)) [.Name "at" (q 15)] [] (q 16)) (q 17)] [] (q 6)) env = (do
      let ov ← attributeBase (.Call (.Name "super" (q 0)) [] [] (q 1)) "__init__" env (eval (.Call (.Name "super" (q 0)) [] [] (q 1)) env)
      standAt (q 2).atName
      let (f, first) ← holding [ov] (getMethod ov "__init__" pl)
      callWith (q 6) f first (backTo (q 6) (starEach [.BinOp (.BinOp (.Call (.Name "str" (q 3)) [.Name "name" (q 4)] [] (q 5)) .Add (.Constant (.str " ") 0 (q 12)) (q 13)) .Add (.Call (.Name "str" (q 14)) [.Name "at" (q 15)] [] (q 16)) (q 17)] env)) [])
def AC (q : Nat → Pos) : Prop := (∀ env : Env, swapsWith (.Name "name" (q 10)) (some (.Attribute (.Name "self" (q 8)) "name" (q 9))) (q 11).line env = pure false) ∧ ∀ env : Env, swapsWith (.Name "at" (q 20)) (some (.Attribute (.Name "self" (q 18)) "at" (q 19))) (q 21).line env = pure false
/-- what the top leaves of the class x with the one field -/
structure ErrTxt (prog : Program) (K : Frag) (mg : Str → Option Value) (x qual : Str) (C fI cc cda : Addr) : Prop where
  gC : mg x = some (.ref C)
  cls : ∃ nm q N bs bm sn sub ab col dd k0 k1 k2 k3 k5, K.lookup C = some (excClassObj nm q C N bs bm true sn sub ab col dd k0 k1 k2 k3 k5 "ValueError.__new__") ∧ refsVE bm = true
  sup : ks_superIn K C C "__init__" = some (some (.builtin "ValueError.__init__"))
  sa : findIn K (.ref C) "__setattr__" = some (some (.builtin "object.__setattr__"))
  noN : findIn K (.ref C) "name" = some none
  noM : findIn K (.ref C) "at" = some none
  iC : findIn K (.ref C) "__init__" = some (some (.ref fI))
  tC : typeIn K (.ref fI) = some (.type "function")
  kC : keepIn K (.ref C) = true
  exC : subIn K (.ref C) (.type "BaseException") = some true
  veC : subIn K (.ref C) (.type "ValueError") = some true
  tyC : typeIn K (.ref C) = some (.type "type")
  own : mroIn K C (.ref C) = some true
  tp : nsIn K cStatics "thirdparty.any" = some none
  dg : nsIn K cStatics "sys.int_max_str_digits" = some none
  nsup : mg "super" = none
  nstr : mg "str" = none
  fn : ∃ (oc : Value) (od : Option Addr) (doc pm : Value) (an : Option Addr) (ct : Value) (osl : Array (Option Value)) (p1 p2 p3 : Pos) (q : Nat → Pos),
    K.lookup fI = some ⟨oc, od, .func (ksFn "__init__" qual (eA p1 p2 p3) (eB q) eS .none .none doc pm an (.ref cda) ct cc), osl⟩ ∧ codeIn K (.ref cda) qual = true ∧ MC q ∧ AC q
  cell : ∃ cl cld csl, K.lookup cc = some ⟨cl, cld, .cell (some (.ref C)), csl⟩
  code : ∃ ccl cdd vs ccs file tf, K.lookup cda = some ⟨ccl, cdd, .fields vs, ccs⟩ ∧ vs[2]? = some (.str file tf) ∧ ((prog.main.file : Str) == file) = true
  top : (prog.main.scope.names.lookup ("super" : Str)).isSome = false
section
variable {prog : Program} {w : World} {A : Around} {E : Value → Shared → Prop} {R : Result → Shared → Prop} {s : Shared} {K : Frag} {mg : Str → Option Value} {x qual : Str} {C fI cc cda : Addr}
theorem err_init (T : ErrTxt prog K mg x qual C fI cc cda) {e t0 : Addr} {v v2 : Value} (X : K.In s.heap) (hlim : s.heap.NoLimit) (G : s.heap.Ns mainGlobals mg) (B : ∃ mb, s.heap.Ns builtinsNs mb ∧ ∀ x : Str, x ≠ "__name__" → mb x = bootBuiltins x)
    (hx : s.heap.get? e = some (excO C t0)) (hnx : K.lookup e = none) (hh : A.handled = none) (hroom : A.depth < recursionLimit) (hv : ∃ (x : Str) (t : Tok), v = .str x t ∧ x.length ≤ 1000000) (hv2 : ∃ (n : Int) (t : Tok), v2 = .int n t ∧ 0 ≤ n ∧ n < 10 ^ 10)
    (hq : ∀ h' tk dx t1, InitEnd2 s.heap h' e C dx t1 "name" "at" v v2 → R (.ok (.ret .none)) { s with heap := h', toks := tk }) :
    codeAny (model prog w) A (.call (.ref fI) ⟨[.ref e, v, v2], []⟩) R s := by
  obtain ⟨oc, od, doc, pm, an, ct, osl, p1, p2, p3, q, ho, hcd, hMC, hAC⟩ := T.fn
  obtain ⟨x1, tx1, rfl, hx1⟩ := hv
  obtain ⟨n2, tn2, rfl, hn2, hn3⟩ := hv2
  obtain ⟨nm, qn, N, bs, bm, sn, sub, ab, col, dd, k0, k1, k2, k3, k5, hC, hbm⟩ := T.cls
  obtain ⟨cl, cld, csl, hcell⟩ := T.cell
  obtain ⟨ccl, cdd, vs, ccs, file, tf, hcode, hvs, hfile⟩ := T.code
  obtain ⟨mb, Bn, Bb⟩ := B
  have hcl : clsIn K C = some { name := nm, bases := bs, mro := .ref C :: bm, ns := N, qualname := qn, hasDict := true, slotNames := sn, subclasses := sub, abstract := ab, collection := col, hasDel := false } := by unfold clsIn; rw [hC] <;> rfl
  refine ks_codeAny_call_defAt (fd := ksFn "__init__" qual (eA p1 p2 p3) (eB q) eS .none .none doc pm an (.ref cda) ct cc) (body := eB q) (binds := [("self", .ref e), ("name", .str x1 tx1), ("at", .int n2 tn2)]) hroom (X _ _ ho) rfl hlim (codeRec_of X hcd) rfl ?b ?c ?l (fun h₁ hns k₁ => ?_)
  case b => exact BindsTo.of_eq (by first | rfl | with_unfolding_all rfl)
  case c => show ∀ x ∈ eS.names, x.2 ≠ .cell; decide
  case l => exact locs rfl
  obtain ⟨sh, sg, sd, st, sos⟩ := s
  have X₁ : K.In h₁ := X.keeps k₁
  have hx₁ := k₁ _ _ hx
  have hC₁ := X₁ _ _ hC
  show _root_.PySem.wpAt (model prog w) _ (.func (eB q) (ksEnv qual eS sh.objs.size fI (.ref cda) cc)) (execs (eB q) (ksEnv qual eS sh.objs.size fI (.ref cda) cc)) _ _ _
  obtain ⟨pl, hpl⟩ := hMC (ksEnv qual eS sh.objs.size fI (.ref cda) cc)
  refine ks_wpAt_execs_cons (ks_wpAt_Expr_any (ks_wpAt_MethodCall ?_ hpl))
  refine ks_wpAt_super_base (env := ksEnv qual eS sh.objs.size fI (.ref cda) cc) (ar := { arg := "self", annotation := none, pos := p1 }) rfl rfl (by decide) rfl (X₁ _ _ ho) rfl rfl rfl (X₁ _ _ hcode) rfl hvs hfile T.top ?_
  refine ks_loadName_global rfl rfl (loadGlobal_builtin (env := ksEnv qual eS sh.objs.size fI (.ref cda) cc) (G.keeps k₁) T.nsup (Bn.keeps k₁) ((Bb _ (by decide +kernel)).trans (by first | boot_by_name | rfl | kernel_rfl)) ⟨rfl, ?_⟩)
  refine wpAny_loadName_free rfl rfl rfl ⟨_, X₁ _ _ hcell, rfl⟩ ?_
  refine wpAny_loadName_local rfl rfl hns (by first | rfl | with_unfolding_all rfl | kernel_rfl) ?_
  refine ks_wpAny_isType_cls hC₁ rfl ⟨rfl, ?_⟩
  refine ks_wpAny_call_super hC₁ rfl hx₁ rfl (fun c z => by cases z) (looks_mroIn X₁ T.own) (fun h₂ e2 k2 => ?_)
  have X₂ : K.In h₂ := X₁.keeps k2
  have hC₂ := k2 _ _ hC₁
  have hx₂ := k2 _ _ hx₁
  have I₂ : InstAt h₂ e (excO C t0) C none := ⟨hx₂, rfl, rfl, trivial⟩
  have hxC : e ≠ C := ks_ne X₂ I₂ hcl
  have hsup := T.sup
  unfold ks_superIn at hsup
  rw [hcl] at hsup
  refine kxs_getMethod kxs_ValueError e2 (looks_opaque X₂ T.tp) (l₀ := .ref C :: bm) (fun A Q E s k q => wpAny_bind ((looks_clsIn X₂ hcl) A _ E s k (wpAny_pure q))) rfl X₂ hsup (I₂.type.andThen (looks_subIn X₂ T.veC)) hxC rfl ?_
  refine kxs_callWith (i := "ValueError.__init__") (x := e) rfl ?_
  refine Calls.evalArgs_plain (Calls.spliced_cons ?_)
  have k3 : ∀ b o, h₂.get? b = some o → (h₂.push (kxs_mw "ValueError.__init__" e)).get? b = some o := fun b o z => Heap.get?_push_of_some _ z
  have X₃ := X₂.keeps k3
  have G₃ := ((G.keeps k₁).keeps k2).keeps k3
  have B₃ := ((Bn.keeps k₁).keeps k2).keeps k3
  have hns₃ := (hns.keeps k2).keeps k3
  have hu : (h₂.push (kxs_mw "ValueError.__init__" e)).get? h₂.objs.size = some (kxs_mw "ValueError.__init__" e) := by heap_get
  have hdg : (h₂.push (kxs_mw "ValueError.__init__" e)).NoDigits := let ⟨mc, a, _⟩ := ((hlim.keeps k₁).keeps k2).keeps k3; ⟨mc, a, ns_none_of X₃ a T.dg⟩
  generalize h₂.push (kxs_mw "ValueError.__init__" e) = h₃ at *
  refine wpAny_BinOp (wpAny_BinOp ?_)
  refine wpAny_Call_NameR (wpAny_Name (ks_loadName_global rfl rfl (loadGlobal_builtin (env := ksEnv qual eS sh.objs.size fI (.ref cda) cc) G₃ T.nstr B₃ ((Bb _ (by decide +kernel)).trans (by first | boot_by_name | rfl | kernel_rfl)) ?_)) rfl)
  refine callWith_type1 ?_
  show wpAny _ _ (eval (.Name "name" (q 4)) _) _ _ _
  refine wpAny_Name (wpAny_loadName_local rfl rfl hns₃ (by first | rfl | with_unfolding_all rfl | kernel_rfl) ?_) (by decide)
  refine PySem.P.str_of_str ?_
  refine wpAny_Constant_str ?_
  refine add2 (fun t' k => ?_) (le_line2 (by rw [one_sp]; omega))
  refine wpAny_Call_NameR (wpAny_Name (ks_loadName_global rfl rfl (loadGlobal_builtin (env := ksEnv qual eS sh.objs.size fI (.ref cda) cc) G₃ T.nstr B₃ ((Bb _ (by decide +kernel)).trans (by first | boot_by_name | rfl | kernel_rfl)) ?_)) rfl)
  refine callWith_type1 ?_
  show wpAny _ _ (eval (.Name "at" (q 15)) _) _ _ _
  refine wpAny_Name (wpAny_loadName_local rfl rfl hns₃ (by first | rfl | with_unfolding_all rfl | kernel_rfl) ?_) (by decide)
  refine str_of_int_or hh hdg (fun _ => ?_) (fun z => absurd (Nat.lt_of_lt_of_le (show n2.natAbs < 10 ^ 10 by omega) (by decide +kernel)) (Nat.not_lt.mpr z))
  refine add2 (fun t' k => ?_) (le_line2 (by have := PySem.W.KT.len_num hn2 hn3; rw [app_len2, one_sp]; omega))
  refine Calls.spliced_nil ⟨hu, ?_⟩
  refine init_call (hC := k3 _ _ hC₂) (he := k3 _ _ hx₂) (hu := hu) (one_size _) (fun h₄ t1 k4 hx₄ => ?_)
  have hLe : sh.objs.size ≠ e := Nat.ne_of_gt (Heap.lt_size hx)
  have hns₄ : h₄.Ns sh.objs.size (fun x => List.lookup x [((PySem.Str.ofString "self" : Str), Value.ref e), ((PySem.Str.ofString "name" : Str), Value.str x1 tx1), ((PySem.Str.ofString "at" : Str), Value.int n2 tn2)].reverse) := by
    obtain ⟨oL, es, ep, hL, r⟩ := hns₃
    exact ⟨oL, es, ep, k4 _ _ hLe hL, r⟩
  have X₄ : K.In h₄ := kept_but X₃ hnx k4
  show wpAt _ _ _ (execs _ _) _ _ _
  refine ks_wpAt_execs_cons (ks_wpAt_Assign_Attr (wpAt_of_wpAny (wpAny_Name (wpAny_loadName_local rfl rfl hns₄ (by first | rfl | with_unfolding_all rfl | kernel_rfl) ?_) (by decide))) (hAC.1 _))
  refine wpAny_Name (wpAny_loadName_local rfl rfl hns₄ (by first | rfl | with_unfolding_all rfl | kernel_rfl) ?_) (by decide)
  refine set_plain X₄ (ox := excO C t1) (od := none) ⟨hx₄, rfl, rfl, trivial⟩ T.sa ?_
  refine exc_osa X₄ hx₄ hcl (show refsVE (.ref C :: bm) = true from hbm) rfl T.noN (fun h₅ tk₅ dx k₅ dn dne hx₅ hn₅ => ?_)
  show wpAt _ _ _ (execs _ _) _ _ _
  have z : sh.objs.size < h₄.objs.size := hns₄.lt
  have hLd : sh.objs.size ≠ dx := Nat.ne_of_lt (Nat.lt_of_lt_of_le z dn)
  have hns₅ : h₅.Ns sh.objs.size (fun x => List.lookup x [((PySem.Str.ofString "self" : Str), Value.ref e), ((PySem.Str.ofString "name" : Str), Value.str x1 tx1), ((PySem.Str.ofString "at" : Str), Value.int n2 tn2)].reverse) := by
    obtain ⟨oL, es, ep, hL, r⟩ := hns₄
    exact ⟨oL, es, ep, k₅ _ _ hLe hL, r⟩
  have X₅ : K.In h₅ := kept_but X₄ hnx k₅
  refine ks_wpAt_execs_cons (ks_wpAt_Assign_Attr (wpAt_of_wpAny (wpAny_Name (wpAny_loadName_local rfl rfl hns₅ (by first | rfl | with_unfolding_all rfl | kernel_rfl) ?_) (by decide))) (hAC.2 _))
  refine wpAny_Name (wpAny_loadName_local rfl rfl hns₅ (by first | rfl | with_unfolding_all rfl | kernel_rfl) ?_) (by decide)
  have hw₅ : Within (fun y => if y = (PySem.Str.ofString "name" : Str) then some (Value.str x1 tx1) else none) [(PySem.Str.ofString "name" : Str)] := Within.cons _ _ Within.nil
  obtain ⟨oD, _, _, hoD, _, _⟩ := hn₅.count hw₅
  refine set_plain X₅ (ox := { cls := .ref C, dict := some dx, data := .fields #[.ref t1, .none, .none, .none, .bool false, .none] }) (od := some oD) ⟨hx₅, rfl, rfl, hoD⟩ T.sa ?_
  refine OEX.osa_old X₅ hx₅ hn₅ hw₅ (by decide) hcl (show refsVE (.ref C :: bm) = true from hbm) rfl T.noM (fun h₆ tk₆ k₆ hn₆ => ?_)
  show wpAt _ _ _ (execs _ _) _ _ _
  exact wpAt_of_wpAny (wpAny_execs_nil (hq h₆ tk₆ dx t1 ⟨fun b o hb hd e => k₆ b o hd (k₅ b o hb (k4 b o hb (k3 _ _ (k2 _ _ (k₁ b o e))))), k₆ _ _ (Ne.symm dne) hx₅, Nat.le_of_lt (Nat.lt_of_lt_of_le z dn), dne, hn₆⟩))
theorem err_made (T : ErrTxt prog K mg x qual C fI cc cda) : Mkd prog w K mg C ["name", "at"] (fun vs => ∃ (y : Str) (n : Int), vs = [.str y, .int n] ∧ y.length ≤ 1000000 ∧ 0 ≤ n ∧ n < 10 ^ 10) := by
  intro A s R vs us rl hok X hlim G B hh hroom hq
  obtain ⟨y, n, rfl, hy, hn0, hn1⟩ := hok
  cases rl with
  | cons rv rl =>
  cases rl with
  | cons rv2 rn =>
  cases rn
  obtain ⟨ty, rfl⟩ := rv
  obtain ⟨tn, rfl⟩ := rv2
  obtain ⟨nm, q, N, bs, bm, sn, sub, ab, col, dd, k0, k1, k2, k3, k5, hC, hbm⟩ := T.cls
  obtain ⟨hp, g, dr, tk, os⟩ := s
  have k : ∀ b o, hp.get? b = some o → ((hp.push (kdv_tup [.str y ty, .int n tn])).push (excO C hp.objs.size)).get? b = some o := fun b o e => Heap.get?_push_of_some _ (Heap.get?_push_of_some _ e)
  have hget : ((hp.push (kdv_tup [.str y ty, .int n tn])).push (excO C hp.objs.size)).get? (hp.objs.size + 1) = some (excO C hp.objs.size) := by heap_get
  have hnx : K.lookup (hp.objs.size + 1) = none := by
    cases e : K.lookup (hp.objs.size + 1) with
    | none => rfl
    | some o =>
      have z : hp.get? (hp.objs.size + 1) = some o := X _ _ e
      exact absurd (Nat.lt_of_succ_lt (Heap.lt_size z)) (Nat.lt_irrefl _)
  refine call_own F.excBase_ValueError (fun X => refsVE_contains X bm hbm) (X _ _ hC) (looks_findIn X T.iC) (fun self => bind_fn X self T.tC) (two_size _ _) ?_
  obtain ⟨mb, B1, B2⟩ := B
  refine err_init (s := ⟨(hp.push (kdv_tup [.str y ty, .int n tn])).push (excO C hp.objs.size), g, dr, tk, os⟩) T (X.keeps k) (hlim.keeps k) (G.keeps k) ⟨mb, B1.keeps k, B2⟩ hget hnx ?_ ?_ ⟨y, ty, rfl, hy⟩ ⟨n, tn, rfl, hn0, hn1⟩ fun h' tk' dx t1 ⟨k', hx, dn, dne, hns⟩ => ?_
  · exact hh
  · show A.depth + 1 < recursionLimit
    exact hroom
  · have z : hp.objs.size + 1 + 1 ≤ dx := by
      first
        | (simpa only [Heap.size_push] using dn)
        | exact dn
        | (have q := dn; rw [Heap.size_push, Heap.size_push] at q; exact q)
    have old : ∀ b o, hp.get? b = some o → h'.get? b = some o := fun b o e => k' b o (Nat.ne_of_lt (Nat.lt_succ_of_lt (Heap.lt_size e))) (Nat.ne_of_lt (Nat.lt_of_lt_of_le (Nat.lt_succ_of_lt (Nat.lt_succ_of_lt (Heap.lt_size e))) z)) (k b o e)
    refine ⟨rfl, hq h' tk' (hp.objs.size + 1) dx ⟨old, Nat.le_succ _, ⟨_, _, hx, rfl, rfl, rfl, rfl, rfl⟩, Nat.le_trans (Nat.le_trans (Nat.le_succ _) (Nat.le_succ _)) z, dne, ?_⟩⟩
    have ef : (fun y' : Str => List.lookup y' ([(PySem.Str.ofString "name" : Str), (PySem.Str.ofString "at" : Str)].zip [Value.str y ty, Value.int n tn])) = fun y' => if y' = PySem.Str.ofString "at" then some (Value.int n tn) else if y' = PySem.Str.ofString "name" then some (Value.str y ty) else none := by
      funext y'
      have n12 : ¬ (PySem.Str.ofString "name" : Str) = PySem.Str.ofString "at" := by decide
      by_cases h : y' = PySem.Str.ofString "name"
      · subst h; simp [List.lookup, n12]
      · have h1 : (y' == PySem.Str.ofString "name") = false := by simpa using h
        by_cases h2 : y' = PySem.Str.ofString "at"
        · have h3 : (y' == PySem.Str.ofString "at") = true := by simpa using h2
          rw [if_pos h2]
          simp only [List.zip_cons_cons, List.zip_nil_right, List.lookup, h1, h3]
        · have h3 : (y' == PySem.Str.ofString "at") = false := by simpa using h2
          simp [List.lookup, h1, h3, h, h2]
    rw [ef]
    exact hns
def p1Of (st : Stmt) : Pos := match (L2.defArgs st).args with | [a, _, _] => a.pos | _ => ⟨0, 0, 0, 0⟩
def p2Of (st : Stmt) : Pos := match (L2.defArgs st).args with | [_, a, _] => a.pos | _ => ⟨0, 0, 0, 0⟩
def p3Of (st : Stmt) : Pos := match (L2.defArgs st).args with | [_, _, a] => a.pos | _ => ⟨0, 0, 0, 0⟩
def qOf (st : Stmt) : Nat → Pos := match L2.defBody st with
  | [.Expr (.Call (.Attribute (.Call (.Name _ q0) _ _ q1) _ q2) [.BinOp (.BinOp (.Call (.Name _ q3) [.Name _ q4] _ q5) _ (.Constant _ _ q12) q13) _ (.Call (.Name _ q14) [.Name _ q15] _ q16) q17] _ q6) q7, .Assign [.Attribute (.Name _ q8) _ q9] (.Name _ q10) q11, .Assign [.Attribute (.Name _ q18) _ q19] (.Name _ q20) q21] =>
    fun n => [q0, q1, q2, q3, q4, q5, q6, q7, q8, q9, q10, q11, q12, q13, q14, q15, q16, q17, q18, q19, q20, q21].getD n ⟨0, 0, 0, 0⟩
  | _ => fun _ => ⟨0, 0, 0, 0⟩
theorem err_mk (st : Stmt) {h : Heap} {nm q : Str} {N : Addr} {bs bm : List Value} {sn : List Str} {sub : List Value} {ab : Bool} {col : Option Bool} {dd : Option Addr} {k0 k1 k2 k3 k5 : Option Value} {oc : Value} {od : Option Addr} {doc pm : Value} {an : Option Addr} {ct : Value} {osl : Array (Option Value)}
    {cl : Value} {cld : Option Addr} {csl : Array (Option Value)} {ccl : Value} {cdd : Option Addr} {vs : Array Value} {ccs : Array (Option Value)} {file : Str} {tf : Tok}
    (X : K.In h) (G : h.Ns mainGlobals mg) (aC : nsIn K mainGlobals x = some (some (.ref C))) (xL : K.lookup C = some (excClassObj nm q C N bs bm true sn sub ab col dd k0 k1 k2 k3 k5 "ValueError.__new__")) (bmv : refsVE bm = true)
    (sup : ks_superIn K C C "__init__" = some (some (.builtin "ValueError.__init__"))) (sa : findIn K (.ref C) "__setattr__" = some (some (.builtin "object.__setattr__"))) (no : findIn K (.ref C) "name" = some none) (no2 : findIn K (.ref C) "at" = some none)
    (a1 : findIn K (.ref C) "__init__" = some (some (.ref fI))) (t1 : typeIn K (.ref fI) = some (.type "function")) (kC : keepIn K (.ref C) = true) (eC : subIn K (.ref C) (.type "BaseException") = some true) (vC : subIn K (.ref C) (.type "ValueError") = some true)
    (tC : typeIn K (.ref C) = some (.type "type")) (own : mroIn K C (.ref C) = some true) (tp : nsIn K cStatics "thirdparty.any" = some none) (dg : nsIn K cStatics "sys.int_max_str_digits" = some none) (nsup : nsIn K mainGlobals "super" = some none) (nstr : nsIn K mainGlobals "str" = some none)
    (hst : L2.defArgs st = eA (p1Of st) (p2Of st) (p3Of st) ∧ L2.defBody st = eB (qOf st) ∧ L2.defScope st = eS)
    (l1 : K.lookup fI = some ⟨oc, od, .func (ksFn "__init__" qual (L2.defArgs st) (L2.defBody st) (L2.defScope st) .none .none doc pm an (.ref cda) ct cc), osl⟩) (c1 : codeIn K (.ref cda) qual = true) (mc : MC (qOf st)) (ac : AC (qOf st))
    (ce : K.lookup cc = some ⟨cl, cld, .cell (some (.ref C)), csl⟩) (co : K.lookup cda = some ⟨ccl, cdd, .fields vs, ccs⟩) (cf : vs[2]? = some (.str file tf)) (cg : ((prog.main.file : Str) == file) = true) (top : (prog.main.scope.names.lookup ("super" : Str)).isSome = false)
    (hg : findIn K (.ref C) "__getattribute__" = some (some (.builtin "BaseException.__getattribute__"))) (hk : findIn K (.ref C) "__getattr__" = some none) (hd : hasDictIn K C = true) (ha : findIn K (.ref C) "__class__" = some (some (.builtin "object.__class__")))
    (hn : specialIn K (.builtin "object.__class__") "__get__" = some (some (.builtin "getset_descriptor.__get__"))) (ht : takesIn K (.builtin "object.__class__") = some true) (hm : mroIn K C (.type "object") = some true) :
    KW.ErrC prog w K mg x C ["name", "at"] (fun vs => ∃ (y : Str) (n : Int), vs = [.str y, .int n] ∧ y.length ≤ 1000000 ∧ 0 ≤ n ∧ n < 10 ^ 10) := by
  have T : ErrTxt prog K mg x qual C fI cc cda :=
    { gC := mg_of X G aC, cls := ⟨nm, q, N, bs, bm, sn, sub, ab, col, dd, k0, k1, k2, k3, k5, xL, bmv⟩, sup := sup, sa := sa, noN := no, noM := no2, iC := a1, tC := t1, kC := kC, exC := eC, veC := vC, tyC := tC, own := own, tp := tp, dg := dg,
      nsup := mg_none_of X G nsup, nstr := mg_none_of X G nstr,
      fn := ⟨oc, od, doc, pm, an, ct, osl, p1Of st, p2Of st, p3Of st, qOf st, by rw [← hst.1, ← hst.2.1, ← hst.2.2]; exact l1, c1, mc, ac⟩,
      cell := ⟨cl, cld, csl, ce⟩, code := ⟨ccl, cdd, vs, ccs, file, tf, co, cf, cg⟩, top := top }
  exact ⟨T.gC, err_made T, kC, eC, tC, ⟨hg, hk, eC, hd⟩, ⟨hg, hk, eC, hd, ha, hn, ht, hm⟩, fun f hf => by cases hf with | head => exact no | tail _ z => (cases z with | head => exact no2 | tail _ z => cases z)⟩
end
end KErr_name_at
end PySem

set_option Elab.async false
set_option linter.all false
set_option maxRecDepth 100000
set_option maxHeartbeats 4000000
namespace K17
open PySem PySem.Spec PyProof.Rows L2 KW
def topS (i : Nat) : Stmt := PySem.Challenge.pw_kilnwarden_k17_many_locals.main.body.getD i (.Pass ⟨0, 0, 0, 0⟩)

theorem lit_0 : (PySem.Str.ofString " ") = S [32] := by decide +kernel
theorem lit_1 : (PySem.Str.ofString "local") = S [108, 111, 99, 97, 108] := by decide +kernel
theorem lit_2 : (PySem.Str.ofString "outer") = S [111, 117, 116, 101, 114] := by decide +kernel
theorem lit_3 : (PySem.Str.ofString "field") = S [102, 105, 101, 108, 100] := by decide +kernel
def str_4 : List Nat := [108, 105, 116, 101, 114, 97, 108]
theorem lit_4 : (PySem.Str.ofString "literal") = S str_4 := by decide +kernel
theorem lit_5 : (PySem.Str.ofString "global") = S [103, 108, 111, 98, 97, 108] := by decide +kernel
theorem lit_6 : (PySem.Str.ofString "self") = S [115, 101, 108, 102] := by decide +kernel
theorem lit_7 : (PySem.Str.ofString "nil") = S [110, 105, 108] := by decide +kernel
theorem lit_8 : (PySem.Str.ofString "true") = S [116, 114, 117, 101] := by decide +kernel
theorem lit_9 : (PySem.Str.ofString "false") = S [102, 97, 108, 115, 101] := by decide +kernel
theorem lit_10 : (PySem.Str.ofString "block") = S [98, 108, 111, 99, 107] := by decide +kernel
theorem lit_11 : (PySem.Str.ofString "dup") = S [100, 117, 112] := by decide +kernel
theorem lit_12 : (PySem.Str.ofString "send") = S [115, 101, 110, 100] := by decide +kernel
def str_13 : List Nat := [115, 117, 112, 101, 114, 95, 115, 101, 110, 100]
theorem lit_13 : (PySem.Str.ofString "super_send") = S str_13 := by decide +kernel
theorem lit_14 : (PySem.Str.ofString "return") = S [114, 101, 116, 117, 114, 110] := by decide +kernel
theorem lit_15 : (PySem.Str.ofString "leave") = S [108, 101, 97, 118, 101] := by decide +kernel
theorem lit_16 : (PySem.Str.ofString "pop") = S [112, 111, 112] := by decide +kernel
def str_17 : List Nat := [106, 117, 109, 112, 95, 102, 97, 108, 115, 101]
theorem lit_17 : (PySem.Str.ofString "jump_false") = S str_17 := by decide +kernel
theorem lit_18 : (PySem.Str.ofString "jump") = S [106, 117, 109, 112] := by decide +kernel
def str_19 : List Nat := [105, 102, 84, 114, 117, 101, 58]
theorem lit_19 : (PySem.Str.ofString "ifTrue:") = S str_19 := by decide +kernel
def str_20 : List Nat := [105, 102, 70, 97, 108, 115, 101, 58]
theorem lit_20 : (PySem.Str.ofString "ifFalse:") = S str_20 := by decide +kernel
def str_21 : List Nat := [105, 102, 84, 114, 117, 101, 58, 105, 102, 70, 97, 108, 115, 101, 58]
theorem lit_21 : (PySem.Str.ofString "ifTrue:ifFalse:") = S str_21 := by decide +kernel
theorem lit_22 : (PySem.Str.ofString "locals") = S [108, 111, 99, 97, 108, 115] := by decide +kernel
def str_23 : List Nat := [119, 104, 105, 108, 101, 84, 114, 117, 101, 58]
theorem lit_23 : (PySem.Str.ofString "whileTrue:") = S str_23 := by decide +kernel
theorem lit_24 : (PySem.Str.ofString "set_") = S [115, 101, 116, 95] := by decide +kernel
def str_25 : List Nat := [115, 101, 108, 101, 99, 116, 111, 114]
theorem lit_25 : (PySem.Str.ofString "selector") = S str_25 := by decide +kernel
theorem lit_26 : (PySem.Str.ofString "int") = S [105, 110, 116] := by decide +kernel
theorem lit_27 : (PySem.Str.ofString "symbol") = S [115, 121, 109, 98, 111, 108] := by decide +kernel
theorem lit_28 : (PySem.Str.ofString "var") = S [118, 97, 114] := by decide +kernel
theorem lit_29 : (PySem.Str.ofString "set") = S [115, 101, 116] := by decide +kernel
theorem lit_30 : (PySem.Str.ofString "super") = S [115, 117, 112, 101, 114] := by decide +kernel
theorem lit_31 : (PySem.Str.ofString "Twice") = S [84, 119, 105, 99, 101] := by decide +kernel
theorem lit_32 : (PySem.Str.ofString "v") = S [118] := by decide +kernel
theorem lit_33 : (PySem.Str.ofString "size") = S [115, 105, 122, 101] := by decide +kernel
theorem lit_34 : (PySem.Str.ofString "at:") = S [97, 116, 58] := by decide +kernel
def str_35 : List Nat := [97, 116, 58, 112, 117, 116, 58]
theorem lit_35 : (PySem.Str.ofString "at:put:") = S str_35 := by decide +kernel
theorem lit_36 : (PySem.Str.ofString "method") = S [109, 101, 116, 104, 111, 100] := by decide +kernel
abbrev s_Oversized_init : Stmt := inClass (topS 2) 0
abbrev s_Unknown_init : Stmt := inClass (topS 3) 0
abbrev s_Twice_init : Stmt := inClass (topS 4) 0
abbrev s_Fixed_init : Stmt := inClass (topS 5) 0
abbrev s_change_of : Stmt := topS 10
abbrev N_change_of : List Str := ["op", "arg"]
theorem sc_change_of : FnScope N_change_of ["op", "arg"] (defScope s_change_of) := ⟨rfl, rfl, rfl, by decide +kernel, rfl, by decide +kernel, by decide +kernel⟩
abbrev s_places_behind : Stmt := topS 11
abbrev N_places_behind : List Str := ["op", "arg", "at"]
theorem sc_places_behind : FnScope N_places_behind ["op", "arg", "at"] (defScope s_places_behind) := ⟨rfl, rfl, rfl, by decide +kernel, rfl, by decide +kernel, by decide +kernel⟩
abbrev s_Draft_init : Stmt := inClass (topS 18) 0
abbrev N_Draft_init : List Str := ["self", "selector", "argc", "count", "stack", "code", "literals"]
theorem sc_Draft_init : FnScope N_Draft_init ["self", "selector", "argc", "count", "stack", "code", "literals"] (defScope s_Draft_init) := ⟨rfl, rfl, rfl, by decide +kernel, rfl, by decide +kernel, by decide +kernel⟩
abbrev s_Draft_parts : Stmt := inClass (topS 18) 1
abbrev N_Draft_parts : List Str := ["self"]
theorem sc_Draft_parts : FnScope N_Draft_parts ["self"] (defScope s_Draft_parts) := ⟨rfl, rfl, rfl, by decide +kernel, rfl, by decide +kernel, by decide +kernel⟩
abbrev s_Draft___eq__ : Stmt := inClass (topS 18) 2
abbrev N_Draft___eq__ : List Str := ["self", "other"]
theorem sc_Draft___eq__ : FnScope N_Draft___eq__ ["self", "other"] (defScope s_Draft___eq__) := ⟨rfl, rfl, rfl, by decide +kernel, rfl, by decide +kernel, by decide +kernel⟩
abbrev s_declared : Stmt := topS 19
abbrev N_declared : List Str := ["params", "temps", "pairs", "names", "k", "name", "at"]
theorem sc_declared : FnScope N_declared ["params", "temps"] (defScope s_declared) := ⟨rfl, rfl, rfl, by decide +kernel, rfl, by decide +kernel, by decide +kernel⟩
abbrev s_is_plain_block : Stmt := topS 20
abbrev N_is_plain_block : List Str := ["tree"]
theorem sc_is_plain_block : FnScope N_is_plain_block ["tree"] (defScope s_is_plain_block) := ⟨rfl, rfl, rfl, by decide +kernel, rfl, by decide +kernel, by decide +kernel⟩
abbrev s_is_inlined : Stmt := topS 21
abbrev N_is_inlined : List Str := ["receiver", "selector", "args", "arg"]
theorem sc_is_inlined : FnScope N_is_inlined ["receiver", "selector", "args"] (defScope s_is_inlined) := ⟨rfl, rfl, rfl, by decide +kernel, rfl, by decide +kernel, by decide +kernel⟩
abbrev s_Coder_init : Stmt := inClass (topS 22) 0
abbrev N_Coder_init : List Str := ["self", "fields", "globals_known"]
theorem sc_Coder_init : FnScope N_Coder_init ["self", "fields", "globals_known"] (defScope s_Coder_init) := ⟨rfl, rfl, rfl, by decide +kernel, rfl, by decide +kernel, by decide +kernel⟩
abbrev s_Coder_emit : Stmt := inClass (topS 22) 1
abbrev N_Coder_emit : List Str := ["self", "op", "arg"]
theorem sc_Coder_emit : FnScope N_Coder_emit ["self", "op", "arg"] (defScope s_Coder_emit) := ⟨rfl, rfl, rfl, by decide +kernel, rfl, by decide +kernel, by decide +kernel⟩
abbrev s_Coder_here : Stmt := inClass (topS 22) 2
abbrev N_Coder_here : List Str := ["self"]
theorem sc_Coder_here : FnScope N_Coder_here ["self"] (defScope s_Coder_here) := ⟨rfl, rfl, rfl, by decide +kernel, rfl, by decide +kernel, by decide +kernel⟩
abbrev s_Coder_aim : Stmt := inClass (topS 22) 3
abbrev N_Coder_aim : List Str := ["self", "place"]
theorem sc_Coder_aim : FnScope N_Coder_aim ["self", "place"] (defScope s_Coder_aim) := ⟨rfl, rfl, rfl, by decide +kernel, rfl, by decide +kernel, by decide +kernel⟩
abbrev s_Coder_literal : Stmt := inClass (topS 22) 4
abbrev N_Coder_literal : List Str := ["self", "literal"]
theorem sc_Coder_literal : FnScope N_Coder_literal ["self", "literal"] (defScope s_Coder_literal) := ⟨rfl, rfl, rfl, by decide +kernel, rfl, by decide +kernel, by decide +kernel⟩
abbrev s_Coder_found : Stmt := inClass (topS 22) 5
abbrev N_Coder_found : List Str := ["self", "name", "depth", "names", "index", "is_param"]
theorem sc_Coder_found : FnScope N_Coder_found ["self", "name"] (defScope s_Coder_found) := ⟨rfl, rfl, rfl, by decide +kernel, rfl, by decide +kernel, by decide +kernel⟩
abbrev s_Coder_name : Stmt := inClass (topS 22) 6
abbrev N_Coder_name : List Str := ["self", "name", "at", "found"]
theorem sc_Coder_name : FnScope N_Coder_name ["self", "name", "at"] (defScope s_Coder_name) := ⟨rfl, rfl, rfl, by decide +kernel, rfl, by decide +kernel, by decide +kernel⟩
abbrev s_Coder_assign : Stmt := inClass (topS 22) 7
abbrev N_Coder_assign : List Str := ["self", "name", "at", "found"]
theorem sc_Coder_assign : FnScope N_Coder_assign ["self", "name", "at"] (defScope s_Coder_assign) := ⟨rfl, rfl, rfl, by decide +kernel, rfl, by decide +kernel, by decide +kernel⟩
abbrev s_Coder_sequence : Stmt := inClass (topS 22) 8
abbrev N_Coder_sequence : List Str := ["self", "statements", "in_method", "k", "statement"]
theorem sc_Coder_sequence : FnScope N_Coder_sequence ["self", "statements", "in_method"] (defScope s_Coder_sequence) := ⟨rfl, rfl, rfl, by decide +kernel, rfl, by decide +kernel, by decide +kernel⟩
abbrev s_Coder_inline : Stmt := inClass (topS 22) 9
abbrev N_Coder_inline : List Str := ["self", "block"]
theorem sc_Coder_inline : FnScope N_Coder_inline ["self", "block"] (defScope s_Coder_inline) := ⟨rfl, rfl, rfl, by decide +kernel, rfl, by decide +kernel, by decide +kernel⟩
abbrev s_Coder_choice : Stmt := inClass (topS 22) 10
abbrev N_Coder_choice : List Str := ["self", "receiver", "selector", "args", "first", "goes_on", "last"]
theorem sc_Coder_choice : FnScope N_Coder_choice ["self", "receiver", "selector", "args"] (defScope s_Coder_choice) := ⟨rfl, rfl, rfl, by decide +kernel, rfl, by decide +kernel, by decide +kernel⟩
abbrev s_Coder_loop : Stmt := inClass (topS 22) 11
abbrev N_Coder_loop : List Str := ["self", "condition", "body", "start", "out"]
theorem sc_Coder_loop : FnScope N_Coder_loop ["self", "condition", "body"] (defScope s_Coder_loop) := ⟨rfl, rfl, rfl, by decide +kernel, rfl, by decide +kernel, by decide +kernel⟩
abbrev s_Coder_message : Stmt := inClass (topS 22) 12
abbrev N_Coder_message : List Str := ["self", "op", "selector", "args", "arg"]
theorem sc_Coder_message : FnScope N_Coder_message ["self", "op", "selector", "args"] (defScope s_Coder_message) := ⟨rfl, rfl, rfl, by decide +kernel, rfl, by decide +kernel, by decide +kernel⟩
abbrev s_Coder_send : Stmt := inClass (topS 22) 13
abbrev N_Coder_send : List Str := ["self", "receiver", "selector", "args"]
theorem sc_Coder_send : FnScope N_Coder_send ["self", "receiver", "selector", "args"] (defScope s_Coder_send) := ⟨rfl, rfl, rfl, by decide +kernel, rfl, by decide +kernel, by decide +kernel⟩
abbrev s_Coder_block : Stmt := inClass (topS 22) 14
abbrev N_Coder_block : List Str := ["self", "params", "temps", "statements", "names", "index", "behind"]
theorem sc_Coder_block : FnScope N_Coder_block ["self", "params", "temps", "statements"] (defScope s_Coder_block) := ⟨rfl, rfl, rfl, by decide +kernel, rfl, by decide +kernel, by decide +kernel⟩
abbrev s_Coder_expression : Stmt := inClass (topS 22) 15
abbrev N_Coder_expression : List Str := ["self", "tree", "word"]
theorem sc_Coder_expression : FnScope N_Coder_expression ["self", "tree"] (defScope s_Coder_expression) := ⟨rfl, rfl, rfl, by decide +kernel, rfl, by decide +kernel, by decide +kernel⟩
abbrev s_greatest_height : Stmt := topS 23
abbrev N_greatest_height : List Str := ["code", "start", "blocks", "known", "pending", "most", "at", "op", "arg", "height", "following"]
theorem sc_greatest_height : FnScope N_greatest_height ["code", "start", "blocks"] (defScope s_greatest_height) := ⟨rfl, rfl, rfl, by decide +kernel, rfl, by decide +kernel, by decide +kernel⟩
abbrev s_with_stacks : Stmt := topS 24
abbrev N_with_stacks : List Str := ["code", "literals", "result", "blocks", "most", "done", "literal", "found"]
theorem sc_with_stacks : FnScope N_with_stacks ["code", "literals"] (defScope s_with_stacks) := ⟨rfl, rfl, rfl, by decide +kernel, rfl, by decide +kernel, by decide +kernel⟩
abbrev s_compile_method : Stmt := topS 25
abbrev N_compile_method : List Str := ["tree", "fields", "globals_known", "coder", "names", "stack", "literals"]
theorem sc_compile_method : FnScope N_compile_method ["tree", "fields", "globals_known"] (defScope s_compile_method) := ⟨rfl, rfl, rfl, by decide +kernel, rfl, by decide +kernel, by decide +kernel⟩
abbrev s__law_cell : Stmt := topS 27
abbrev N__law_cell : List Str := ["script", "k"]
theorem sc__law_cell : FnScope N__law_cell ["script", "k"] (defScope s__law_cell) := ⟨rfl, rfl, rfl, by decide +kernel, rfl, by decide +kernel, by decide +kernel⟩
abbrev s__law_told : Stmt := topS 28
abbrev N__law_told : List Str := ["tree", "e"]
theorem sc__law_told : FnScope N__law_told ["tree"] (defScope s__law_told) := ⟨rfl, rfl, rfl, by decide +kernel, rfl, by decide +kernel, by decide +kernel⟩
abbrev s_law : Stmt := topS 29
abbrev N_law : List Str := ["script", "cell", "many", "params", "pairs", "k", "twice", "at", "names", "selector", "tree", "block", "found"]
theorem sc_law : FnScope N_law ["script"] (defScope s_law) := ⟨rfl, rfl, rfl, by decide +kernel, rfl, by decide +kernel, by decide +kernel⟩
structure Ads where
  KilnwardenError : Addr
  Oversized : Addr
  Unknown : Addr
  Twice : Addr
  Fixed : Addr
  Draft : Addr
  Coder : Addr
  t_PUSHING : Addr
  t_SENDING : Addr
  t_ENDING : Addr
  t_RESERVED : Addr
structure Txt (P : Program) (w : World) (K : Frag) (mg : Str → Option Value) (a : Ads) : Prop where
  g_KilnwardenError : mg "KilnwardenError" = some (.ref a.KilnwardenError)
  g_Oversized : mg "Oversized" = some (.ref a.Oversized)
  g_Unknown : mg "Unknown" = some (.ref a.Unknown)
  g_Twice : mg "Twice" = some (.ref a.Twice)
  g_Fixed : mg "Fixed" = some (.ref a.Fixed)
  g_Draft : mg "Draft" = some (.ref a.Draft)
  g_Coder : mg "Coder" = some (.ref a.Coder)
  e_Oversized : ErrC P w K mg "Oversized" a.Oversized ["limit"] (fun vs => ∃ v, vs = [v] ∧ PySem.KErr.okS v)
  x_Oversized_Oversized : PySem.W.exmOne K (.ref a.Oversized) (.ref a.Oversized) = some true
  x_Oversized_Twice : PySem.W.exmOne K (.ref a.Oversized) (.ref a.Twice) = some false
  e_Unknown : ErrC P w K mg "Unknown" a.Unknown ["name", "at"] (fun vs => ∃ (y : Str) (n : Int), vs = [.str y, .int n] ∧ y.length ≤ 1000000 ∧ 0 ≤ n ∧ n < 10 ^ 10)
  x_Unknown_Oversized : PySem.W.exmOne K (.ref a.Unknown) (.ref a.Oversized) = some false
  x_Unknown_Twice : PySem.W.exmOne K (.ref a.Unknown) (.ref a.Twice) = some false
  e_Twice : ErrC P w K mg "Twice" a.Twice ["name", "at"] (fun vs => ∃ (y : Str) (n : Int), vs = [.str y, .int n] ∧ y.length ≤ 1000000 ∧ 0 ≤ n ∧ n < 10 ^ 10)
  x_Twice_Oversized : PySem.W.exmOne K (.ref a.Twice) (.ref a.Oversized) = some false
  x_Twice_Twice : PySem.W.exmOne K (.ref a.Twice) (.ref a.Twice) = some true
  e_Fixed : ErrC P w K mg "Fixed" a.Fixed ["name", "at"] (fun vs => ∃ (y : Str) (n : Int), vs = [.str y, .int n] ∧ y.length ≤ 1000000 ∧ 0 ≤ n ∧ n < 10 ^ 10)
  x_Fixed_Oversized : PySem.W.exmOne K (.ref a.Fixed) (.ref a.Oversized) = some false
  x_Fixed_Twice : PySem.W.exmOne K (.ref a.Fixed) (.ref a.Twice) = some false
  c_Draft : ClsA K mg "Draft" a.Draft ["selector", "argc", "locals", "stack", "code", "literals"]
  c_Coder : ClsA K mg "Coder" a.Coder ["fields", "globals_known", "code", "literals", "scopes"]
  ini_Draft : IniAt K a.Draft "Draft.__init__" s_Draft_init ["self", "selector", "argc", "count", "stack", "code", "literals"] []
  m_Draft_parts : MetAt K a.Draft "parts" "Draft.parts" s_Draft_parts ["self"]
  m_Draft___eq__ : MetAt K a.Draft "__eq__" "Draft.__eq__" s_Draft___eq__ ["self", "other"]
  ini_Coder : IniAt K a.Coder "Coder.__init__" s_Coder_init ["self", "fields", "globals_known"] []
  m_Coder_emit : MetAtD K a.Coder "emit" "Coder.emit" s_Coder_emit ["self", "op", "arg"] [.int (0)]
  m_Coder_here : MetAt K a.Coder "here" "Coder.here" s_Coder_here ["self"]
  m_Coder_aim : MetAt K a.Coder "aim" "Coder.aim" s_Coder_aim ["self", "place"]
  m_Coder_literal : MetAt K a.Coder "literal" "Coder.literal" s_Coder_literal ["self", "literal"]
  m_Coder_found : MetAt K a.Coder "found" "Coder.found" s_Coder_found ["self", "name"]
  m_Coder_name : MetAt K a.Coder "name" "Coder.name" s_Coder_name ["self", "name", "at"]
  m_Coder_assign : MetAt K a.Coder "assign" "Coder.assign" s_Coder_assign ["self", "name", "at"]
  m_Coder_sequence : MetAt K a.Coder "sequence" "Coder.sequence" s_Coder_sequence ["self", "statements", "in_method"]
  m_Coder_inline : MetAt K a.Coder "inline" "Coder.inline" s_Coder_inline ["self", "block"]
  m_Coder_choice : MetAt K a.Coder "choice" "Coder.choice" s_Coder_choice ["self", "receiver", "selector", "args"]
  m_Coder_loop : MetAt K a.Coder "loop" "Coder.loop" s_Coder_loop ["self", "condition", "body"]
  m_Coder_message : MetAt K a.Coder "message" "Coder.message" s_Coder_message ["self", "op", "selector", "args"]
  m_Coder_send : MetAt K a.Coder "send" "Coder.send" s_Coder_send ["self", "receiver", "selector", "args"]
  m_Coder_block : MetAt K a.Coder "block" "Coder.block" s_Coder_block ["self", "params", "temps", "statements"]
  m_Coder_expression : MetAt K a.Coder "expression" "Coder.expression" s_Coder_expression ["self", "tree"]
  n_int : mg "int" = none
  n_isinstance : mg "isinstance" = none
  n_len : mg "len" = none
  n_list : mg "list" = none
  n_max : mg "max" = none
  n_range : mg "range" = none
  n_str : mg "str" = none
  n_tuple : mg "tuple" = none
  gt_PUSHING : GT K mg "PUSHING" a.t_PUSHING [.str (S [108, 111, 99, 97, 108]), .str (S [111, 117, 116, 101, 114]), .str (S [102, 105, 101, 108, 100]), .str (S str_4), .str (S [103, 108, 111, 98, 97, 108]), .str (S [115, 101, 108, 102]), .str (S [110, 105, 108]), .str (S [116, 114, 117, 101]), .str (S [102, 97, 108, 115, 101]), .str (S [98, 108, 111, 99, 107]), .str (S [100, 117, 112])]
  gt_SENDING : GT K mg "SENDING" a.t_SENDING [.str (S [115, 101, 110, 100]), .str (S str_13)]
  gt_ENDING : GT K mg "ENDING" a.t_ENDING [.str (S [114, 101, 116, 117, 114, 110]), .str (S [108, 101, 97, 118, 101])]
  g_MOST_LOCALS : GV mg "MOST_LOCALS" (.int (255))
  gt_RESERVED : GT K mg "RESERVED" a.t_RESERVED [.str (S [110, 105, 108]), .str (S [116, 114, 117, 101]), .str (S [102, 97, 108, 115, 101]), .str (S [115, 101, 108, 102])]
  -- constant INLINED
  g_OUTER : GV mg "OUTER" (.int (256))
  g_ARGUMENTS : GV mg "ARGUMENTS" (.int (16))
  d_change_of : DefAt K mg "change_of" "change_of" s_change_of ["op", "arg"]
  d_places_behind : DefAt K mg "places_behind" "places_behind" s_places_behind ["op", "arg", "at"]
  d_declared : DefAt K mg "declared" "declared" s_declared ["params", "temps"]
  d_is_plain_block : DefAt K mg "is_plain_block" "is_plain_block" s_is_plain_block ["tree"]
  d_is_inlined : DefAt K mg "is_inlined" "is_inlined" s_is_inlined ["receiver", "selector", "args"]
  d_greatest_height : DefAt K mg "greatest_height" "greatest_height" s_greatest_height ["code", "start", "blocks"]
  d_with_stacks : DefAt K mg "with_stacks" "with_stacks" s_with_stacks ["code", "literals"]
  d_compile_method : DefAt K mg "compile_method" "compile_method" s_compile_method ["tree", "fields", "globals_known"]
  d__law_cell : DefAt K mg "_law_cell" "_law_cell" s__law_cell ["script", "k"]
  d__law_told : DefAt K mg "_law_told" "_law_told" s__law_told ["tree"]
  d_law : DefAt K mg "law" "law" s_law ["script"]
theorem fe_selector_argc : ((PySem.Str.ofString "selector" : Str) = PySem.Str.ofString "argc") = False := eq_false (by decide)
theorem fe_selector_locals : ((PySem.Str.ofString "selector" : Str) = PySem.Str.ofString "locals") = False := eq_false (by decide)
theorem fe_selector_stack : ((PySem.Str.ofString "selector" : Str) = PySem.Str.ofString "stack") = False := eq_false (by decide)
theorem fe_selector_code : ((PySem.Str.ofString "selector" : Str) = PySem.Str.ofString "code") = False := eq_false (by decide)
theorem fe_selector_literals : ((PySem.Str.ofString "selector" : Str) = PySem.Str.ofString "literals") = False := eq_false (by decide)
theorem fe_argc_selector : ((PySem.Str.ofString "argc" : Str) = PySem.Str.ofString "selector") = False := eq_false (by decide)
theorem fe_argc_locals : ((PySem.Str.ofString "argc" : Str) = PySem.Str.ofString "locals") = False := eq_false (by decide)
theorem fe_argc_stack : ((PySem.Str.ofString "argc" : Str) = PySem.Str.ofString "stack") = False := eq_false (by decide)
theorem fe_argc_code : ((PySem.Str.ofString "argc" : Str) = PySem.Str.ofString "code") = False := eq_false (by decide)
theorem fe_argc_literals : ((PySem.Str.ofString "argc" : Str) = PySem.Str.ofString "literals") = False := eq_false (by decide)
theorem fe_locals_selector : ((PySem.Str.ofString "locals" : Str) = PySem.Str.ofString "selector") = False := eq_false (by decide)
theorem fe_locals_argc : ((PySem.Str.ofString "locals" : Str) = PySem.Str.ofString "argc") = False := eq_false (by decide)
theorem fe_locals_stack : ((PySem.Str.ofString "locals" : Str) = PySem.Str.ofString "stack") = False := eq_false (by decide)
theorem fe_locals_code : ((PySem.Str.ofString "locals" : Str) = PySem.Str.ofString "code") = False := eq_false (by decide)
theorem fe_locals_literals : ((PySem.Str.ofString "locals" : Str) = PySem.Str.ofString "literals") = False := eq_false (by decide)
theorem fe_stack_selector : ((PySem.Str.ofString "stack" : Str) = PySem.Str.ofString "selector") = False := eq_false (by decide)
theorem fe_stack_argc : ((PySem.Str.ofString "stack" : Str) = PySem.Str.ofString "argc") = False := eq_false (by decide)
theorem fe_stack_locals : ((PySem.Str.ofString "stack" : Str) = PySem.Str.ofString "locals") = False := eq_false (by decide)
theorem fe_stack_code : ((PySem.Str.ofString "stack" : Str) = PySem.Str.ofString "code") = False := eq_false (by decide)
theorem fe_stack_literals : ((PySem.Str.ofString "stack" : Str) = PySem.Str.ofString "literals") = False := eq_false (by decide)
theorem fe_code_selector : ((PySem.Str.ofString "code" : Str) = PySem.Str.ofString "selector") = False := eq_false (by decide)
theorem fe_code_argc : ((PySem.Str.ofString "code" : Str) = PySem.Str.ofString "argc") = False := eq_false (by decide)
theorem fe_code_locals : ((PySem.Str.ofString "code" : Str) = PySem.Str.ofString "locals") = False := eq_false (by decide)
theorem fe_code_stack : ((PySem.Str.ofString "code" : Str) = PySem.Str.ofString "stack") = False := eq_false (by decide)
theorem fe_code_literals : ((PySem.Str.ofString "code" : Str) = PySem.Str.ofString "literals") = False := eq_false (by decide)
theorem fe_literals_selector : ((PySem.Str.ofString "literals" : Str) = PySem.Str.ofString "selector") = False := eq_false (by decide)
theorem fe_literals_argc : ((PySem.Str.ofString "literals" : Str) = PySem.Str.ofString "argc") = False := eq_false (by decide)
theorem fe_literals_locals : ((PySem.Str.ofString "literals" : Str) = PySem.Str.ofString "locals") = False := eq_false (by decide)
theorem fe_literals_stack : ((PySem.Str.ofString "literals" : Str) = PySem.Str.ofString "stack") = False := eq_false (by decide)
theorem fe_literals_code : ((PySem.Str.ofString "literals" : Str) = PySem.Str.ofString "code") = False := eq_false (by decide)
theorem fe_fields_globals_known : ((PySem.Str.ofString "fields" : Str) = PySem.Str.ofString "globals_known") = False := eq_false (by decide)
theorem fe_fields_code : ((PySem.Str.ofString "fields" : Str) = PySem.Str.ofString "code") = False := eq_false (by decide)
theorem fe_fields_literals : ((PySem.Str.ofString "fields" : Str) = PySem.Str.ofString "literals") = False := eq_false (by decide)
theorem fe_fields_scopes : ((PySem.Str.ofString "fields" : Str) = PySem.Str.ofString "scopes") = False := eq_false (by decide)
theorem fe_globals_known_fields : ((PySem.Str.ofString "globals_known" : Str) = PySem.Str.ofString "fields") = False := eq_false (by decide)
theorem fe_globals_known_code : ((PySem.Str.ofString "globals_known" : Str) = PySem.Str.ofString "code") = False := eq_false (by decide)
theorem fe_globals_known_literals : ((PySem.Str.ofString "globals_known" : Str) = PySem.Str.ofString "literals") = False := eq_false (by decide)
theorem fe_globals_known_scopes : ((PySem.Str.ofString "globals_known" : Str) = PySem.Str.ofString "scopes") = False := eq_false (by decide)
theorem fe_code_fields : ((PySem.Str.ofString "code" : Str) = PySem.Str.ofString "fields") = False := eq_false (by decide)
theorem fe_code_globals_known : ((PySem.Str.ofString "code" : Str) = PySem.Str.ofString "globals_known") = False := eq_false (by decide)
theorem fe_code_scopes : ((PySem.Str.ofString "code" : Str) = PySem.Str.ofString "scopes") = False := eq_false (by decide)
theorem fe_literals_fields : ((PySem.Str.ofString "literals" : Str) = PySem.Str.ofString "fields") = False := eq_false (by decide)
theorem fe_literals_globals_known : ((PySem.Str.ofString "literals" : Str) = PySem.Str.ofString "globals_known") = False := eq_false (by decide)
theorem fe_literals_scopes : ((PySem.Str.ofString "literals" : Str) = PySem.Str.ofString "scopes") = False := eq_false (by decide)
theorem fe_scopes_fields : ((PySem.Str.ofString "scopes" : Str) = PySem.Str.ofString "fields") = False := eq_false (by decide)
theorem fe_scopes_globals_known : ((PySem.Str.ofString "scopes" : Str) = PySem.Str.ofString "globals_known") = False := eq_false (by decide)
theorem fe_scopes_code : ((PySem.Str.ofString "scopes" : Str) = PySem.Str.ofString "code") = False := eq_false (by decide)
theorem fe_scopes_literals : ((PySem.Str.ofString "scopes" : Str) = PySem.Str.ofString "literals") = False := eq_false (by decide)
theorem fl_locals_0 : ((PySem.Str.ofString "locals" : Str) = S [32]) = False := eq_false (by decide)
theorem lf_locals_0 : (S [32] = (PySem.Str.ofString "locals" : Str)) = False := eq_false (by decide)
theorem fl_locals_1 : ((PySem.Str.ofString "locals" : Str) = S [108, 111, 99, 97, 108]) = False := eq_false (by decide)
theorem lf_locals_1 : (S [108, 111, 99, 97, 108] = (PySem.Str.ofString "locals" : Str)) = False := eq_false (by decide)
theorem fl_locals_2 : ((PySem.Str.ofString "locals" : Str) = S [111, 117, 116, 101, 114]) = False := eq_false (by decide)
theorem lf_locals_2 : (S [111, 117, 116, 101, 114] = (PySem.Str.ofString "locals" : Str)) = False := eq_false (by decide)
theorem fl_locals_3 : ((PySem.Str.ofString "locals" : Str) = S [102, 105, 101, 108, 100]) = False := eq_false (by decide)
theorem lf_locals_3 : (S [102, 105, 101, 108, 100] = (PySem.Str.ofString "locals" : Str)) = False := eq_false (by decide)
theorem fl_locals_4 : ((PySem.Str.ofString "locals" : Str) = S str_4) = False := eq_false (by decide)
theorem lf_locals_4 : (S str_4 = (PySem.Str.ofString "locals" : Str)) = False := eq_false (by decide)
theorem fl_locals_5 : ((PySem.Str.ofString "locals" : Str) = S [103, 108, 111, 98, 97, 108]) = False := eq_false (by decide)
theorem lf_locals_5 : (S [103, 108, 111, 98, 97, 108] = (PySem.Str.ofString "locals" : Str)) = False := eq_false (by decide)
theorem fl_locals_6 : ((PySem.Str.ofString "locals" : Str) = S [115, 101, 108, 102]) = False := eq_false (by decide)
theorem lf_locals_6 : (S [115, 101, 108, 102] = (PySem.Str.ofString "locals" : Str)) = False := eq_false (by decide)
theorem fl_locals_7 : ((PySem.Str.ofString "locals" : Str) = S [110, 105, 108]) = False := eq_false (by decide)
theorem lf_locals_7 : (S [110, 105, 108] = (PySem.Str.ofString "locals" : Str)) = False := eq_false (by decide)
theorem fl_locals_8 : ((PySem.Str.ofString "locals" : Str) = S [116, 114, 117, 101]) = False := eq_false (by decide)
theorem lf_locals_8 : (S [116, 114, 117, 101] = (PySem.Str.ofString "locals" : Str)) = False := eq_false (by decide)
theorem fl_locals_9 : ((PySem.Str.ofString "locals" : Str) = S [102, 97, 108, 115, 101]) = False := eq_false (by decide)
theorem lf_locals_9 : (S [102, 97, 108, 115, 101] = (PySem.Str.ofString "locals" : Str)) = False := eq_false (by decide)
theorem fl_locals_10 : ((PySem.Str.ofString "locals" : Str) = S [98, 108, 111, 99, 107]) = False := eq_false (by decide)
theorem lf_locals_10 : (S [98, 108, 111, 99, 107] = (PySem.Str.ofString "locals" : Str)) = False := eq_false (by decide)
theorem fl_locals_11 : ((PySem.Str.ofString "locals" : Str) = S [100, 117, 112]) = False := eq_false (by decide)
theorem lf_locals_11 : (S [100, 117, 112] = (PySem.Str.ofString "locals" : Str)) = False := eq_false (by decide)
theorem fl_locals_12 : ((PySem.Str.ofString "locals" : Str) = S [115, 101, 110, 100]) = False := eq_false (by decide)
theorem lf_locals_12 : (S [115, 101, 110, 100] = (PySem.Str.ofString "locals" : Str)) = False := eq_false (by decide)
theorem fl_locals_13 : ((PySem.Str.ofString "locals" : Str) = S str_13) = False := eq_false (by decide)
theorem lf_locals_13 : (S str_13 = (PySem.Str.ofString "locals" : Str)) = False := eq_false (by decide)
theorem fl_locals_14 : ((PySem.Str.ofString "locals" : Str) = S [114, 101, 116, 117, 114, 110]) = False := eq_false (by decide)
theorem lf_locals_14 : (S [114, 101, 116, 117, 114, 110] = (PySem.Str.ofString "locals" : Str)) = False := eq_false (by decide)
theorem fl_locals_15 : ((PySem.Str.ofString "locals" : Str) = S [108, 101, 97, 118, 101]) = False := eq_false (by decide)
theorem lf_locals_15 : (S [108, 101, 97, 118, 101] = (PySem.Str.ofString "locals" : Str)) = False := eq_false (by decide)
theorem fl_locals_16 : ((PySem.Str.ofString "locals" : Str) = S [112, 111, 112]) = False := eq_false (by decide)
theorem lf_locals_16 : (S [112, 111, 112] = (PySem.Str.ofString "locals" : Str)) = False := eq_false (by decide)
theorem fl_locals_17 : ((PySem.Str.ofString "locals" : Str) = S str_17) = False := eq_false (by decide)
theorem lf_locals_17 : (S str_17 = (PySem.Str.ofString "locals" : Str)) = False := eq_false (by decide)
theorem fl_locals_18 : ((PySem.Str.ofString "locals" : Str) = S [106, 117, 109, 112]) = False := eq_false (by decide)
theorem lf_locals_18 : (S [106, 117, 109, 112] = (PySem.Str.ofString "locals" : Str)) = False := eq_false (by decide)
theorem fl_locals_19 : ((PySem.Str.ofString "locals" : Str) = S str_19) = False := eq_false (by decide)
theorem lf_locals_19 : (S str_19 = (PySem.Str.ofString "locals" : Str)) = False := eq_false (by decide)
theorem fl_locals_20 : ((PySem.Str.ofString "locals" : Str) = S str_20) = False := eq_false (by decide)
theorem lf_locals_20 : (S str_20 = (PySem.Str.ofString "locals" : Str)) = False := eq_false (by decide)
theorem fl_locals_21 : ((PySem.Str.ofString "locals" : Str) = S str_21) = False := eq_false (by decide)
theorem lf_locals_21 : (S str_21 = (PySem.Str.ofString "locals" : Str)) = False := eq_false (by decide)
theorem fl_locals_23 : ((PySem.Str.ofString "locals" : Str) = S str_23) = False := eq_false (by decide)
theorem lf_locals_23 : (S str_23 = (PySem.Str.ofString "locals" : Str)) = False := eq_false (by decide)
theorem fl_locals_24 : ((PySem.Str.ofString "locals" : Str) = S [115, 101, 116, 95]) = False := eq_false (by decide)
theorem lf_locals_24 : (S [115, 101, 116, 95] = (PySem.Str.ofString "locals" : Str)) = False := eq_false (by decide)
theorem fl_locals_25 : ((PySem.Str.ofString "locals" : Str) = S str_25) = False := eq_false (by decide)
theorem lf_locals_25 : (S str_25 = (PySem.Str.ofString "locals" : Str)) = False := eq_false (by decide)
theorem fl_locals_26 : ((PySem.Str.ofString "locals" : Str) = S [105, 110, 116]) = False := eq_false (by decide)
theorem lf_locals_26 : (S [105, 110, 116] = (PySem.Str.ofString "locals" : Str)) = False := eq_false (by decide)
theorem fl_locals_27 : ((PySem.Str.ofString "locals" : Str) = S [115, 121, 109, 98, 111, 108]) = False := eq_false (by decide)
theorem lf_locals_27 : (S [115, 121, 109, 98, 111, 108] = (PySem.Str.ofString "locals" : Str)) = False := eq_false (by decide)
theorem fl_locals_28 : ((PySem.Str.ofString "locals" : Str) = S [118, 97, 114]) = False := eq_false (by decide)
theorem lf_locals_28 : (S [118, 97, 114] = (PySem.Str.ofString "locals" : Str)) = False := eq_false (by decide)
theorem fl_locals_29 : ((PySem.Str.ofString "locals" : Str) = S [115, 101, 116]) = False := eq_false (by decide)
theorem lf_locals_29 : (S [115, 101, 116] = (PySem.Str.ofString "locals" : Str)) = False := eq_false (by decide)
theorem fl_locals_30 : ((PySem.Str.ofString "locals" : Str) = S [115, 117, 112, 101, 114]) = False := eq_false (by decide)
theorem lf_locals_30 : (S [115, 117, 112, 101, 114] = (PySem.Str.ofString "locals" : Str)) = False := eq_false (by decide)
theorem fl_locals_31 : ((PySem.Str.ofString "locals" : Str) = S [84, 119, 105, 99, 101]) = False := eq_false (by decide)
theorem lf_locals_31 : (S [84, 119, 105, 99, 101] = (PySem.Str.ofString "locals" : Str)) = False := eq_false (by decide)
theorem fl_locals_32 : ((PySem.Str.ofString "locals" : Str) = S [118]) = False := eq_false (by decide)
theorem lf_locals_32 : (S [118] = (PySem.Str.ofString "locals" : Str)) = False := eq_false (by decide)
theorem fl_locals_33 : ((PySem.Str.ofString "locals" : Str) = S [115, 105, 122, 101]) = False := eq_false (by decide)
theorem lf_locals_33 : (S [115, 105, 122, 101] = (PySem.Str.ofString "locals" : Str)) = False := eq_false (by decide)
theorem fl_locals_34 : ((PySem.Str.ofString "locals" : Str) = S [97, 116, 58]) = False := eq_false (by decide)
theorem lf_locals_34 : (S [97, 116, 58] = (PySem.Str.ofString "locals" : Str)) = False := eq_false (by decide)
theorem fl_locals_35 : ((PySem.Str.ofString "locals" : Str) = S str_35) = False := eq_false (by decide)
theorem lf_locals_35 : (S str_35 = (PySem.Str.ofString "locals" : Str)) = False := eq_false (by decide)
theorem fl_locals_36 : ((PySem.Str.ofString "locals" : Str) = S [109, 101, 116, 104, 111, 100]) = False := eq_false (by decide)
theorem lf_locals_36 : (S [109, 101, 116, 104, 111, 100] = (PySem.Str.ofString "locals" : Str)) = False := eq_false (by decide)
theorem fl_selector_0 : ((PySem.Str.ofString "selector" : Str) = S [32]) = False := eq_false (by decide)
theorem lf_selector_0 : (S [32] = (PySem.Str.ofString "selector" : Str)) = False := eq_false (by decide)
theorem fl_selector_1 : ((PySem.Str.ofString "selector" : Str) = S [108, 111, 99, 97, 108]) = False := eq_false (by decide)
theorem lf_selector_1 : (S [108, 111, 99, 97, 108] = (PySem.Str.ofString "selector" : Str)) = False := eq_false (by decide)
theorem fl_selector_2 : ((PySem.Str.ofString "selector" : Str) = S [111, 117, 116, 101, 114]) = False := eq_false (by decide)
theorem lf_selector_2 : (S [111, 117, 116, 101, 114] = (PySem.Str.ofString "selector" : Str)) = False := eq_false (by decide)
theorem fl_selector_3 : ((PySem.Str.ofString "selector" : Str) = S [102, 105, 101, 108, 100]) = False := eq_false (by decide)
theorem lf_selector_3 : (S [102, 105, 101, 108, 100] = (PySem.Str.ofString "selector" : Str)) = False := eq_false (by decide)
theorem fl_selector_4 : ((PySem.Str.ofString "selector" : Str) = S str_4) = False := eq_false (by decide)
theorem lf_selector_4 : (S str_4 = (PySem.Str.ofString "selector" : Str)) = False := eq_false (by decide)
theorem fl_selector_5 : ((PySem.Str.ofString "selector" : Str) = S [103, 108, 111, 98, 97, 108]) = False := eq_false (by decide)
theorem lf_selector_5 : (S [103, 108, 111, 98, 97, 108] = (PySem.Str.ofString "selector" : Str)) = False := eq_false (by decide)
theorem fl_selector_6 : ((PySem.Str.ofString "selector" : Str) = S [115, 101, 108, 102]) = False := eq_false (by decide)
theorem lf_selector_6 : (S [115, 101, 108, 102] = (PySem.Str.ofString "selector" : Str)) = False := eq_false (by decide)
theorem fl_selector_7 : ((PySem.Str.ofString "selector" : Str) = S [110, 105, 108]) = False := eq_false (by decide)
theorem lf_selector_7 : (S [110, 105, 108] = (PySem.Str.ofString "selector" : Str)) = False := eq_false (by decide)
theorem fl_selector_8 : ((PySem.Str.ofString "selector" : Str) = S [116, 114, 117, 101]) = False := eq_false (by decide)
theorem lf_selector_8 : (S [116, 114, 117, 101] = (PySem.Str.ofString "selector" : Str)) = False := eq_false (by decide)
theorem fl_selector_9 : ((PySem.Str.ofString "selector" : Str) = S [102, 97, 108, 115, 101]) = False := eq_false (by decide)
theorem lf_selector_9 : (S [102, 97, 108, 115, 101] = (PySem.Str.ofString "selector" : Str)) = False := eq_false (by decide)
theorem fl_selector_10 : ((PySem.Str.ofString "selector" : Str) = S [98, 108, 111, 99, 107]) = False := eq_false (by decide)
theorem lf_selector_10 : (S [98, 108, 111, 99, 107] = (PySem.Str.ofString "selector" : Str)) = False := eq_false (by decide)
theorem fl_selector_11 : ((PySem.Str.ofString "selector" : Str) = S [100, 117, 112]) = False := eq_false (by decide)
theorem lf_selector_11 : (S [100, 117, 112] = (PySem.Str.ofString "selector" : Str)) = False := eq_false (by decide)
theorem fl_selector_12 : ((PySem.Str.ofString "selector" : Str) = S [115, 101, 110, 100]) = False := eq_false (by decide)
theorem lf_selector_12 : (S [115, 101, 110, 100] = (PySem.Str.ofString "selector" : Str)) = False := eq_false (by decide)
theorem fl_selector_13 : ((PySem.Str.ofString "selector" : Str) = S str_13) = False := eq_false (by decide)
theorem lf_selector_13 : (S str_13 = (PySem.Str.ofString "selector" : Str)) = False := eq_false (by decide)
theorem fl_selector_14 : ((PySem.Str.ofString "selector" : Str) = S [114, 101, 116, 117, 114, 110]) = False := eq_false (by decide)
theorem lf_selector_14 : (S [114, 101, 116, 117, 114, 110] = (PySem.Str.ofString "selector" : Str)) = False := eq_false (by decide)
theorem fl_selector_15 : ((PySem.Str.ofString "selector" : Str) = S [108, 101, 97, 118, 101]) = False := eq_false (by decide)
theorem lf_selector_15 : (S [108, 101, 97, 118, 101] = (PySem.Str.ofString "selector" : Str)) = False := eq_false (by decide)
theorem fl_selector_16 : ((PySem.Str.ofString "selector" : Str) = S [112, 111, 112]) = False := eq_false (by decide)
theorem lf_selector_16 : (S [112, 111, 112] = (PySem.Str.ofString "selector" : Str)) = False := eq_false (by decide)
theorem fl_selector_17 : ((PySem.Str.ofString "selector" : Str) = S str_17) = False := eq_false (by decide)
theorem lf_selector_17 : (S str_17 = (PySem.Str.ofString "selector" : Str)) = False := eq_false (by decide)
theorem fl_selector_18 : ((PySem.Str.ofString "selector" : Str) = S [106, 117, 109, 112]) = False := eq_false (by decide)
theorem lf_selector_18 : (S [106, 117, 109, 112] = (PySem.Str.ofString "selector" : Str)) = False := eq_false (by decide)
theorem fl_selector_19 : ((PySem.Str.ofString "selector" : Str) = S str_19) = False := eq_false (by decide)
theorem lf_selector_19 : (S str_19 = (PySem.Str.ofString "selector" : Str)) = False := eq_false (by decide)
theorem fl_selector_20 : ((PySem.Str.ofString "selector" : Str) = S str_20) = False := eq_false (by decide)
theorem lf_selector_20 : (S str_20 = (PySem.Str.ofString "selector" : Str)) = False := eq_false (by decide)
theorem fl_selector_21 : ((PySem.Str.ofString "selector" : Str) = S str_21) = False := eq_false (by decide)
theorem lf_selector_21 : (S str_21 = (PySem.Str.ofString "selector" : Str)) = False := eq_false (by decide)
theorem fl_selector_22 : ((PySem.Str.ofString "selector" : Str) = S [108, 111, 99, 97, 108, 115]) = False := eq_false (by decide)
theorem lf_selector_22 : (S [108, 111, 99, 97, 108, 115] = (PySem.Str.ofString "selector" : Str)) = False := eq_false (by decide)
theorem fl_selector_23 : ((PySem.Str.ofString "selector" : Str) = S str_23) = False := eq_false (by decide)
theorem lf_selector_23 : (S str_23 = (PySem.Str.ofString "selector" : Str)) = False := eq_false (by decide)
theorem fl_selector_24 : ((PySem.Str.ofString "selector" : Str) = S [115, 101, 116, 95]) = False := eq_false (by decide)
theorem lf_selector_24 : (S [115, 101, 116, 95] = (PySem.Str.ofString "selector" : Str)) = False := eq_false (by decide)
theorem fl_selector_26 : ((PySem.Str.ofString "selector" : Str) = S [105, 110, 116]) = False := eq_false (by decide)
theorem lf_selector_26 : (S [105, 110, 116] = (PySem.Str.ofString "selector" : Str)) = False := eq_false (by decide)
theorem fl_selector_27 : ((PySem.Str.ofString "selector" : Str) = S [115, 121, 109, 98, 111, 108]) = False := eq_false (by decide)
theorem lf_selector_27 : (S [115, 121, 109, 98, 111, 108] = (PySem.Str.ofString "selector" : Str)) = False := eq_false (by decide)
theorem fl_selector_28 : ((PySem.Str.ofString "selector" : Str) = S [118, 97, 114]) = False := eq_false (by decide)
theorem lf_selector_28 : (S [118, 97, 114] = (PySem.Str.ofString "selector" : Str)) = False := eq_false (by decide)
theorem fl_selector_29 : ((PySem.Str.ofString "selector" : Str) = S [115, 101, 116]) = False := eq_false (by decide)
theorem lf_selector_29 : (S [115, 101, 116] = (PySem.Str.ofString "selector" : Str)) = False := eq_false (by decide)
theorem fl_selector_30 : ((PySem.Str.ofString "selector" : Str) = S [115, 117, 112, 101, 114]) = False := eq_false (by decide)
theorem lf_selector_30 : (S [115, 117, 112, 101, 114] = (PySem.Str.ofString "selector" : Str)) = False := eq_false (by decide)
theorem fl_selector_31 : ((PySem.Str.ofString "selector" : Str) = S [84, 119, 105, 99, 101]) = False := eq_false (by decide)
theorem lf_selector_31 : (S [84, 119, 105, 99, 101] = (PySem.Str.ofString "selector" : Str)) = False := eq_false (by decide)
theorem fl_selector_32 : ((PySem.Str.ofString "selector" : Str) = S [118]) = False := eq_false (by decide)
theorem lf_selector_32 : (S [118] = (PySem.Str.ofString "selector" : Str)) = False := eq_false (by decide)
theorem fl_selector_33 : ((PySem.Str.ofString "selector" : Str) = S [115, 105, 122, 101]) = False := eq_false (by decide)
theorem lf_selector_33 : (S [115, 105, 122, 101] = (PySem.Str.ofString "selector" : Str)) = False := eq_false (by decide)
theorem fl_selector_34 : ((PySem.Str.ofString "selector" : Str) = S [97, 116, 58]) = False := eq_false (by decide)
theorem lf_selector_34 : (S [97, 116, 58] = (PySem.Str.ofString "selector" : Str)) = False := eq_false (by decide)
theorem fl_selector_35 : ((PySem.Str.ofString "selector" : Str) = S str_35) = False := eq_false (by decide)
theorem lf_selector_35 : (S str_35 = (PySem.Str.ofString "selector" : Str)) = False := eq_false (by decide)
theorem fl_selector_36 : ((PySem.Str.ofString "selector" : Str) = S [109, 101, 116, 104, 111, 100]) = False := eq_false (by decide)
theorem lf_selector_36 : (S [109, 101, 116, 104, 111, 100] = (PySem.Str.ofString "selector" : Str)) = False := eq_false (by decide)
theorem Txt.ex {P : Program} {w : World} {K : Frag} {mg : Str → Option Value} {A_KilnwardenError : Addr} {A_Oversized : Addr} {A_Unknown : Addr} {A_Twice : Addr} {A_Fixed : Addr} {A_Draft : Addr} {A_Coder : Addr} {A_t_PUSHING : Addr} {A_t_SENDING : Addr} {A_t_ENDING : Addr} {A_t_RESERVED : Addr} (h : Txt P w K mg ⟨A_KilnwardenError, A_Oversized, A_Unknown, A_Twice, A_Fixed, A_Draft, A_Coder, A_t_PUSHING, A_t_SENDING, A_t_ENDING, A_t_RESERVED⟩) : ∃ a, Txt P w K mg a := ⟨_, h⟩
end K17

set_option Elab.async false
set_option linter.all false
set_option maxRecDepth 100000
/-! StT: stores of blocks, in plain Lean -/
namespace ST
structure Blk where
  n : Int
  k : Int
  s : List Int
  al : Bool
def Blk.ws (e : Blk) : List Int := e.n :: (e.s.length : Int) :: e.k :: e.s
theorem Blk.ws_len (e : Blk) : e.ws.length = e.s.length + 3 := by simp [Blk.ws]
def flat (B : List Blk) : List Int := B.flatMap Blk.ws
theorem flat_nil : flat [] = [] := rfl
theorem flat_cons (e : Blk) (B : List Blk) : flat (e :: B) = e.ws ++ flat B := by simp [flat]
theorem flat_app (B C : List Blk) : flat (B ++ C) = flat B ++ flat C := by simp [flat]
def off (B : List Blk) (i : Nat) : Nat := (flat (B.take i)).length
def lv (B : List Blk) (n : Int) : Bool := B.any fun e => e.al && decide (e.n = n)
theorem lv_iff {B : List Blk} {n : Int} : lv B n = true ↔ ∃ (i : Nat) (e : Blk), B[i]? = some e ∧ e.al = true ∧ e.n = n := by
  simp only [lv, List.any_eq_true, Bool.and_eq_true, decide_eq_true_eq]
  constructor
  · rintro ⟨e, he, h1, h2⟩
    obtain ⟨i, hi⟩ := List.getElem?_of_mem he
    exact ⟨i, e, hi, h1, h2⟩
  · rintro ⟨i, e, hi, h1, h2⟩
    exact ⟨e, List.mem_of_getElem? hi, h1, h2⟩
/-- living blocks have different numbers -/
def Nd (B : List Blk) : Prop := ∀ (i j : Nat) (e f : Blk), B[i]? = some e → B[j]? = some f → e.al = true → f.al = true → e.n = f.n → i = j
theorem split_at {B : List Blk} {i : Nat} {e : Blk} (h : B[i]? = some e) : B = B.take i ++ e :: B.drop (i + 1) := by
  obtain ⟨h1, h2⟩ := List.getElem?_eq_some_iff.mp h
  conv => lhs; rw [← List.take_append_drop i B]
  rw [List.drop_eq_getElem_cons h1, h2]
theorem flat_at {B : List Blk} {i : Nat} {e : Blk} (h : B[i]? = some e) : flat B = flat (B.take i) ++ (e.ws ++ flat (B.drop (i + 1))) := by
  conv => lhs; rw [split_at h]
  rw [flat_app, flat_cons]
theorem set_at {B : List Blk} {i : Nat} {e f : Blk} (h : B[i]? = some e) : B.set i f = B.take i ++ f :: B.drop (i + 1) := by
  obtain ⟨h1, h2⟩ := List.getElem?_eq_some_iff.mp h
  rw [List.set_eq_take_append_cons_drop, if_pos h1]
theorem flat_set {B : List Blk} {i : Nat} {e f : Blk} (h : B[i]? = some e) : flat (B.set i f) = flat (B.take i) ++ (f.ws ++ flat (B.drop (i + 1))) := by
  rw [set_at h, flat_app, flat_cons]
theorem off_add {B : List Blk} {i : Nat} {e : Blk} (h : B[i]? = some e) : off B i + (e.s.length + 3) ≤ (flat B).length := by
  rw [flat_at h]
  simp only [List.length_append, Blk.ws_len, off]
  omega
theorem off_get {B : List Blk} {i j : Nat} {e : Blk} (h : B[i]? = some e) (hj : j < e.s.length + 3) : (flat B)[off B i + j]? = e.ws[j]? := by
  rw [flat_at h, List.getElem?_append_right (by simp only [off]; omega), List.getElem?_append_left (by rw [Blk.ws_len]; simp only [off]; omega)]
  simp [off]
theorem get_num {B : List Blk} {i : Nat} {e : Blk} (h : B[i]? = some e) : (flat B)[off B i]? = some e.n := by
  have := off_get (j := 0) h (by omega); simpa [Blk.ws] using this
theorem get_size {B : List Blk} {i : Nat} {e : Blk} (h : B[i]? = some e) : (flat B)[off B i + 1]? = some (e.s.length : Int) := by
  have := off_get (j := 1) h (by omega); simpa [Blk.ws] using this
theorem get_kind {B : List Blk} {i : Nat} {e : Blk} (h : B[i]? = some e) : (flat B)[off B i + 2]? = some e.k := by
  have := off_get (j := 2) h (by omega); simpa [Blk.ws] using this
theorem get_slot {B : List Blk} {i j : Nat} {e : Blk} (h : B[i]? = some e) (hj : j < e.s.length) : (flat B)[off B i + 3 + j]? = e.s[j]? := by
  have := off_get (j := 3 + j) h (by omega)
  rw [Nat.add_assoc, this, Nat.add_comm 3 j]
  simp [Blk.ws]
theorem get_slots {B : List Blk} {i : Nat} {e : Blk} (h : B[i]? = some e) : ((flat B).drop (off B i + 3)).take e.s.length = e.s := by
  rw [flat_at h, List.drop_append, List.drop_eq_nil_of_le (by simp only [off]; omega), List.nil_append]
  have : off B i + 3 - (flat (B.take i)).length = 3 := by simp only [off]; omega
  rw [this]
  simp [Blk.ws]
theorem set_ws {B : List Blk} {i j : Nat} {e f : Blk} {z : Int} (h : B[i]? = some e) (hj : j < e.s.length + 3) (hf : e.ws.set j z = f.ws) : (flat B).set (off B i + j) z = flat (B.set i f) := by
  rw [flat_set h, flat_at h, List.set_append_right _ _ (by simp only [off]; omega)]
  congr 1
  rw [List.set_append_left _ _ (by rw [Blk.ws_len]; simp only [off]; omega)]
  have : off B i + j - (flat (B.take i)).length = j := by simp only [off]; omega
  rw [this, hf]
theorem set_num {B : List Blk} {i : Nat} {e : Blk} {z : Int} (h : B[i]? = some e) : (flat B).set (off B i) z = flat (B.set i { e with n := z }) := set_ws (j := 0) h (by omega) (by simp [Blk.ws])
theorem set_kind {B : List Blk} {i : Nat} {e : Blk} {z : Int} (h : B[i]? = some e) : (flat B).set (off B i + 2) z = flat (B.set i { e with k := z }) := set_ws h (by omega) (by simp [Blk.ws])
theorem set_slot {B : List Blk} {i j : Nat} {e : Blk} {z : Int} (h : B[i]? = some e) (hj : j < e.s.length) : (flat B).set (off B i + 3 + j) z = flat (B.set i { e with s := e.s.set j z }) := by
  rw [Nat.add_assoc]
  exact set_ws h (by omega) (by rw [Nat.add_comm 3 j]; simp [Blk.ws])
theorem flat_al {B : List Blk} {i : Nat} {e : Blk} {b : Bool} (h : B[i]? = some e) : flat (B.set i { e with al := b }) = flat B := by
  rw [flat_set h, flat_at h]; rfl
/-! ### where blocks begin -/
theorem off_set {B : List Blk} {i j : Nat} {e f : Blk} (h : B[i]? = some e) (hl : f.s.length = e.s.length) : off (B.set i f) j = off B j := by
  unfold off
  rw [List.take_set]
  by_cases c : i < j
  · have ht : (B.take j)[i]? = some e := by rw [List.getElem?_take_of_lt c]; exact h
    rw [flat_set ht, flat_at ht]
    simp only [List.length_append, Blk.ws_len, hl]
  · rw [List.set_eq_of_length_le (by rw [List.length_take]; omega)]
theorem off_app {B C : List Blk} {j : Nat} (h : j ≤ B.length) : off (B ++ C) j = off B j := by
  unfold off
  rw [List.take_append_of_le_length h]
theorem off_len (B : List Blk) : off B B.length = (flat B).length := by unfold off; rw [List.take_length]
theorem off_lt {B : List Blk} {i j : Nat} {e : Blk} (h : B[i]? = some e) (hij : i < j) : off B i + 3 ≤ off B j := by
  have ht : (B.take j)[i]? = some e := by rw [List.getElem?_take_of_lt hij]; exact h
  have := off_add ht
  have e1 : off (B.take j) i = off B i := by unfold off; rw [List.take_take, Nat.min_eq_left (Nat.le_of_lt hij)]
  have e2 : (flat (B.take j)).length = off B j := rfl
  omega
theorem off_inj {B : List Blk} {i j : Nat} {e f : Blk} (h : B[i]? = some e) (h2 : B[j]? = some f) (ho : off B i = off B j) : i = j := by
  rcases Nat.lt_trichotomy i j with c | c | c
  · have := off_lt h c; omega
  · exact c
  · have := off_lt h2 c; omega
/-! ### living numbers -/
theorem lv_set {B : List Blk} {i : Nat} {e f : Blk} (h : B[i]? = some e) (h1 : f.al = e.al) (h2 : f.n = e.n) (n : Int) : lv (B.set i f) n = lv B n := by
  unfold lv
  rw [set_at h]
  conv => rhs; rw [split_at h]
  simp [h1, h2]
theorem lv_app (B C : List Blk) (n : Int) : lv (B ++ C) n = (lv B n || lv C n) := by simp [lv]
theorem lv_at {B : List Blk} {i : Nat} {e : Blk} (h : B[i]? = some e) (ha : e.al = true) : lv B e.n = true := lv_iff.mpr ⟨i, e, h, ha, rfl⟩
theorem get_set {B : List Blk} {i j : Nat} {e f : Blk} (h : B[i]? = some e) : (B.set i f)[j]? = if j = i then some f else B[j]? := by
  rw [List.getElem?_set]
  have := (List.getElem?_eq_some_iff.mp h).1
  by_cases c : i = j
  · subst c; simp [this]
  · rw [if_neg c, if_neg (fun z => c z.symm)]
theorem Nd.set {B : List Blk} {i : Nat} {e f : Blk} (nd : Nd B) (h : B[i]? = some e) (h1 : f.al = e.al) (h2 : f.n = e.n) : Nd (B.set i f) := by
  intro a b u v ha hb ua va uv
  rw [get_set h] at ha hb
  split at ha <;> split at hb
  · omega
  · rename_i c1 c2; cases ha; exact c1.trans (nd i b e v h hb (h1 ▸ ua) va (h2 ▸ uv))
  · rename_i c1 c2; cases hb; exact (nd a i u e ha h ua (h1 ▸ va) (h2 ▸ uv)).trans c2.symm
  · exact nd a b u v ha hb ua va uv
theorem Nd.drop {B : List Blk} {i : Nat} {e : Blk} (nd : Nd B) (h : B[i]? = some e) : Nd (B.set i { e with al := false }) := by
  intro a b u v ha hb ua va uv
  rw [get_set h] at ha hb
  split at ha
  · cases ha; cases ua
  · split at hb
    · cases hb; cases va
    · exact nd a b u v ha hb ua va uv
theorem lv_drop {B : List Blk} {i : Nat} {e : Blk} (nd : Nd B) (h : B[i]? = some e) (ha : e.al = true) (n : Int) : lv (B.set i { e with al := false }) n = (lv B n && !decide (n = e.n)) := by
  by_cases c : n = e.n
  · subst c
    rw [decide_eq_true rfl, Bool.not_true, Bool.and_false]
    apply Bool.eq_false_iff.mpr
    intro z
    obtain ⟨j, f, hj, fa, fn⟩ := lv_iff.mp z
    rw [get_set h] at hj
    split at hj
    · cases hj; cases fa
    · rename_i c; exact c (nd j i f e hj h fa ha fn)
  · rw [decide_eq_false c, Bool.not_false, Bool.and_true]
    apply Bool.eq_iff_iff.mpr
    rw [lv_iff, lv_iff]
    constructor
    · rintro ⟨j, f, hj, fa, fn⟩
      rw [get_set h] at hj
      split at hj
      · cases hj; cases fa
      · exact ⟨j, f, hj, fa, fn⟩
    · rintro ⟨j, f, hj, fa, fn⟩
      refine ⟨j, f, ?_, fa, fn⟩
      rw [get_set h, if_neg]
      · exact hj
      · rintro rfl; rw [h] at hj; cases hj; exact c fn.symm
theorem Nd.app {B : List Blk} {e : Blk} (nd : Nd B) (h : e.al = true → lv B e.n = false) : Nd (B ++ [e]) := by
  intro a b u v ha hb ua va uv
  have key : ∀ c w, (B ++ [e])[c]? = some w → (B[c]? = some w ∧ c < B.length) ∨ (c = B.length ∧ w = e) := fun c w hc => by
    rw [List.getElem?_append] at hc
    split at hc
    · rename_i z; exact .inl ⟨hc, z⟩
    · rename_i z
      have hx : c - B.length = 0 := by
        have := (List.getElem?_eq_some_iff.mp hc).1
        simpa using this
      rw [hx] at hc
      exact .inr ⟨by omega, by simpa using hc.symm⟩
  have no : ∀ (c : Nat) (w : Blk), B[c]? = some w → w.al = true → e.al = true → w.n ≠ e.n := fun c w hc wa ea z => by
    have := h ea
    rw [← z, lv_at hc wa] at this
    cases this
  rcases key a u ha with ⟨h1, _⟩ | ⟨h1, rfl⟩ <;> rcases key b v hb with ⟨h2, _⟩ | ⟨h2, rfl⟩
  · exact nd a b u v h1 h2 ua va uv
  · exact absurd uv (no a u h1 ua va)
  · exact absurd uv.symm (no b v h2 va ua)
  · omega
/-- two blocks exchange their numbers -/
def exch (B : List Blk) (i j : Nat) (e f : Blk) : List Blk := (B.set i { e with n := f.n }).set j { f with n := e.n }
theorem get_mid {B : List Blk} {i j : Nat} {e f : Blk} (h : B[i]? = some e) (h2 : B[j]? = some f) : ∃ g, (B.set i { e with n := f.n })[j]? = some g ∧ g.s.length = f.s.length ∧ (i = j → g = { f with n := f.n }) ∧ (i ≠ j → g = f) := by
  rw [get_set h]
  by_cases c : j = i
  · subst c; rw [h] at h2; cases h2
    exact ⟨_, if_pos rfl, rfl, fun _ => rfl, fun z => absurd rfl z⟩
  · rw [if_neg c, h2]
    exact ⟨_, rfl, rfl, fun z => absurd z.symm c, fun _ => rfl⟩
theorem get_exch {B : List Blk} {i j : Nat} {e f : Blk} (h : B[i]? = some e) (h2 : B[j]? = some f) (a : Nat) : (exch B i j e f)[a]? = if a = j then some { f with n := e.n } else if a = i then some { e with n := f.n } else B[a]? := by
  obtain ⟨g, hg, _⟩ := get_mid h h2
  unfold exch
  rw [get_set hg, get_set h]
theorem off_exch {B : List Blk} {i j a : Nat} {e f : Blk} (h : B[i]? = some e) (h2 : B[j]? = some f) : off (exch B i j e f) a = off B a := by
  obtain ⟨g, hg, hl, _⟩ := get_mid h h2
  unfold exch
  rw [off_set (f := { f with n := e.n }) hg hl.symm, off_set (f := { e with n := f.n }) h rfl]
theorem flat_exch {B : List Blk} {i j : Nat} {e f : Blk} (h : B[i]? = some e) (h2 : B[j]? = some f) : flat (exch B i j e f) = ((flat B).set (off B i) f.n).set (off B j) e.n := by
  obtain ⟨g, hg, hl, hg1, hg2⟩ := get_mid h h2
  unfold exch
  rw [set_num h]
  have := set_num (z := e.n) hg
  rw [off_set (f := { e with n := f.n }) h rfl] at this
  rw [this]
  by_cases c : i = j
  · rw [hg1 c]
  · rw [hg2 c]
theorem Nd.exch {B : List Blk} {i j : Nat} {e f : Blk} (nd : Nd B) (h : B[i]? = some e) (h2 : B[j]? = some f) (ea : e.al = true) (fa : f.al = true) : Nd (exch B i j e f) := by
  have key : ∀ a u, (ST.exch B i j e f)[a]? = some u → u.al = true → (a = j ∧ u.n = e.n) ∨ (a ≠ j ∧ a = i ∧ u.n = f.n) ∨ (a ≠ j ∧ a ≠ i ∧ B[a]? = some u) := fun a u ha ua => by
    rw [get_exch h h2] at ha
    split at ha
    · rename_i c; cases ha; exact .inl ⟨c, rfl⟩
    · split at ha
      · rename_i c d; cases ha; exact .inr (.inl ⟨c, d, rfl⟩)
      · rename_i c d; exact .inr (.inr ⟨c, d, ha⟩)
  intro a b u v ha hb ua va uv
  rcases key a u ha ua with ⟨h3, h4⟩ | ⟨h3, h4, h5⟩ | ⟨h3, h4, h5⟩ <;> rcases key b v hb va with ⟨k3, k4⟩ | ⟨k3, k4, k5⟩ | ⟨k3, k4, k5⟩
  · omega
  · have := nd i j e f h h2 ea fa (by omega); omega
  · have := nd i b e v h k5 ea va (by omega); omega
  · have := nd i j e f h h2 ea fa (by omega); omega
  · omega
  · have := nd j b f v h2 k5 fa va (by omega); omega
  · have := nd a i u e h5 h ua ea (by omega); omega
  · have := nd a j u f h5 h2 ua fa (by omega); omega
  · exact nd a b u v h5 k5 ua va uv
theorem lv_exch {B : List Blk} {i j : Nat} {e f : Blk} (h : B[i]? = some e) (h2 : B[j]? = some f) (ea : e.al = true) (fa : f.al = true) (n : Int) : lv (exch B i j e f) n = lv B n := by
  apply Bool.eq_iff_iff.mpr
  rw [lv_iff, lv_iff]
  constructor
  · rintro ⟨a, u, ha, ua, un⟩
    rw [get_exch h h2] at ha
    split at ha
    · cases ha; exact ⟨i, e, h, ea, un⟩
    · split at ha
      · cases ha; exact ⟨j, f, h2, fa, un⟩
      · exact ⟨a, u, ha, ua, un⟩
  · rintro ⟨a, u, ha, ua, un⟩
    by_cases c : a = i
    · subst c; rw [h] at ha; cases ha
      exact ⟨j, { f with n := e.n }, by rw [get_exch h h2, if_pos rfl], fa, un⟩
    · by_cases d : a = j
      · subst d; rw [h2] at ha; cases ha
        exact ⟨i, { e with n := f.n }, by rw [get_exch h h2, if_neg (fun z => c z.symm), if_pos rfl], ea, un⟩
      · exact ⟨a, u, by rw [get_exch h h2, if_neg d, if_neg c]; exact ha, ua, un⟩
theorem flat_len_app (B : List Blk) (e : Blk) : (flat (B ++ [e])).length = (flat B).length + (e.s.length + 3) := by
  rw [flat_app, List.length_append, flat_cons, List.length_append, Blk.ws_len]; rfl
/-! ### the least free number -/
structure Free (B : List Blk) (f : Int) : Prop where
  pos : 0 ≤ f
  no : lv B f = false
  all : ∀ i, 0 ≤ i → i < f → lv B i = true
theorem Free.uniq {B : List Blk} {f g : Int} (a : Free B f) (b : Free B g) : f = g := by
  rcases Int.lt_trichotomy f g with c | c | c
  · have := b.all f a.pos c; rw [a.no] at this; cases this
  · exact c
  · have := a.all g b.pos c; rw [b.no] at this; cases this
/-- the numbers of the living blocks, in the order in which they lie -/
def nums (B : List Blk) : List Int := (B.filter fun e => e.al).map fun e => e.n
theorem mem_nums {B : List Blk} {n : Int} : n ∈ nums B ↔ lv B n = true := by
  simp only [nums, List.mem_map, List.mem_filter, lv, List.any_eq_true, Bool.and_eq_true, decide_eq_true_eq]
  exact ⟨fun ⟨e, ⟨h1, h2⟩, h3⟩ => ⟨e, h1, h2, h3⟩, fun ⟨e, h1, h2, h3⟩ => ⟨e, ⟨h1, h2⟩, h3⟩⟩
theorem nums_len (B : List Blk) : (nums B).length ≤ B.length := by unfold nums; rw [List.length_map]; exact List.length_filter_le _ _
theorem full_len {B : List Blk} {m : Nat} (h : ∀ i : Int, 0 ≤ i → i < m → lv B i = true) : m ≤ (nums B).length := by
  have hn : ((List.range m).map fun i : Nat => (i : Int)).Nodup := by
    rw [List.Nodup, List.pairwise_map]
    exact List.nodup_range.imp fun {a b} h z => h (Int.ofNat.inj z)
  have := List.Nodup.length_le_of_subset hn (l₂ := nums B) fun x hx => by
    obtain ⟨i, hi, rfl⟩ := List.mem_map.mp hx
    exact mem_nums.mpr (h i (by omega) (by have := List.mem_range.mp hi; omega))
  simpa using this
theorem free_ex (B : List Blk) : ∃ f, Free B f ∧ f ≤ (nums B).length := by
  have key : ∀ k : Nat, (∀ i : Int, 0 ≤ i → i < k → lv B i = true) ∨ ∃ f : Int, Free B f ∧ f < k := by
    intro k
    induction k with
    | zero => exact .inl fun i h0 h1 => by omega
    | succ k ih =>
      rcases ih with h | ⟨f, h, l⟩
      · cases c : lv B (k : Int) with
        | false => exact .inr ⟨k, ⟨by omega, c, h⟩, by omega⟩
        | true =>
          refine .inl fun i h0 h1 => ?_
          by_cases d : i = k
          · rw [d]; exact c
          · exact h i h0 (by omega)
      · exact .inr ⟨f, h, by omega⟩
  rcases key ((nums B).length + 1) with h | ⟨f, h, l⟩
  · have := full_len h; omega
  · exact ⟨f, h, by omega⟩
theorem Free.le {B : List Blk} {f : Int} (h : Free B f) : f ≤ (nums B).length := by
  obtain ⟨g, hg, l⟩ := free_ex B
  rw [h.uniq hg]; exact l
theorem nums_nodup {B : List Blk} (nd : Nd B) : (nums B).Nodup := by
  unfold nums
  rw [List.Nodup, List.pairwise_map, List.pairwise_filter]
  rw [List.pairwise_iff_getElem]
  intro i j hi hj hij h1 h2 h3
  exact absurd (nd i j _ _ (List.getElem?_eq_getElem hi) (List.getElem?_eq_getElem hj) h1 h2 h3) (by omega)
end ST
namespace ST
/-! ### what roots reach -/
inductive Rch (B : List Blk) (R : List Int) : Int → Prop
  | root (w : Int) : w ∈ R → w % 2 = 0 → lv B (w / 2) = true → Rch B R (w / 2)
  | step (i : Nat) (e : Blk) (w : Int) : B[i]? = some e → e.al = true → Rch B R e.n → w ∈ e.k :: e.s → w % 2 = 0 → lv B (w / 2) = true → Rch B R (w / 2)
theorem Rch.lv {B : List Blk} {R : List Int} {n : Int} (h : Rch B R n) : ST.lv B n = true := by cases h <;> assumption
/-- the references among some words -/
def refs (l : List Int) : List Int := l.filterMap fun w => if w % 2 = 0 then some (w / 2) else none
theorem mem_refs {l : List Int} {n : Int} : n ∈ refs l ↔ ∃ w, w ∈ l ∧ w % 2 = 0 ∧ w / 2 = n := by
  simp only [refs, List.mem_filterMap]
  constructor
  · rintro ⟨w, h1, h2⟩
    split at h2
    · cases h2; exact ⟨w, h1, by assumption, rfl⟩
    · cases h2
  · rintro ⟨w, h1, h2, h3⟩
    exact ⟨w, h1, by rw [if_pos h2, h3]⟩
theorem refs_len (l : List Int) : (refs l).length ≤ l.length := List.length_filterMap_le _ _
structure DI (B : List Blk) (R F W : List Int) : Prop where
  sF : ∀ n ∈ F, Rch B R n
  sW : ∀ n ∈ W, lv B n = true → Rch B R n
  ro : ∀ w ∈ R, w % 2 = 0 → lv B (w / 2) = true → w / 2 ∈ F ∨ w / 2 ∈ W
  cl : ∀ (i : Nat) (e : Blk), B[i]? = some e → e.al = true → e.n ∈ F → ∀ w ∈ e.k :: e.s, w % 2 = 0 → lv B (w / 2) = true → w / 2 ∈ F ∨ w / 2 ∈ W
  nd : F.Nodup
theorem DI.init (B : List Blk) (R : List Int) : DI B R [] (refs R) where
  sF := fun n h => by cases h
  sW := fun n h l => by
    obtain ⟨w, h1, h2, rfl⟩ := mem_refs.mp h
    exact .root w h1 h2 l
  ro := fun w h1 h2 _ => .inr (mem_refs.mpr ⟨w, h1, h2, rfl⟩)
  cl := fun i e _ _ h => by cases h
  nd := List.nodup_nil
theorem DI.skip {B : List Blk} {R F W : List Int} {n : Int} (d : DI B R F (W ++ [n])) (h : n ∈ F ∨ lv B n = false) : DI B R F W where
  sF := d.sF
  sW := fun m hm l => d.sW m (by simp [hm]) l
  ro := fun w h1 h2 h3 => by
    rcases d.ro w h1 h2 h3 with q | q
    · exact .inl q
    · rcases List.mem_append.mp q with q | q
      · exact .inr q
      · have e : w / 2 = n := by simpa using q
        rcases h with h | h
        · exact .inl (e ▸ h)
        · rw [e, h] at h3; cases h3
  cl := fun i e h1 h2 h3 w h4 h5 h6 => by
    rcases d.cl i e h1 h2 h3 w h4 h5 h6 with q | q
    · exact .inl q
    · rcases List.mem_append.mp q with q | q
      · exact .inr q
      · have e : w / 2 = n := by simpa using q
        rcases h with h | h
        · exact .inl (e ▸ h)
        · rw [e, h] at h6; cases h6
  nd := d.nd
/-- taken: the block i is found; X are its references that are put on the waiting ones, at least all that are not found yet -/
theorem DI.take {B : List Blk} {R F W X : List Int} {i : Nat} {e : Blk} (d : DI B R F (W ++ [e.n])) (N : Nd B) (h : B[i]? = some e) (ha : e.al = true) (hn : e.n ∉ F) (x1 : ∀ m ∈ X, m ∈ refs (e.k :: e.s)) (x2 : ∀ m ∈ refs (e.k :: e.s), m ∈ F ++ [e.n] ∨ m ∈ X) : DI B R (F ++ [e.n]) (W ++ X) := by
  have re : Rch B R e.n := d.sW e.n (by simp) (lv_at h ha)
  refine ⟨fun n hm => ?_, fun n hm l => ?_, fun w h1 h2 h3 => ?_, fun j f h1 h2 h3 w h4 h5 h6 => ?_, ?_⟩
  · rcases List.mem_append.mp hm with q | q
    · exact d.sF n q
    · have : n = e.n := by simpa using q
      rw [this]; exact re
  · rcases List.mem_append.mp hm with q | q
    · exact d.sW n (by simp [q]) l
    · obtain ⟨w, h1, h2, rfl⟩ := mem_refs.mp (x1 n q)
      exact .step i e w h ha re h1 h2 l
  · rcases d.ro w h1 h2 h3 with q | q
    · exact .inl (by simp [q])
    · rcases List.mem_append.mp q with q | q
      · exact .inr (by simp [q])
      · exact .inl (by simp at q; simp [q])
  · by_cases c : f.n ∈ F
    · rcases d.cl j f h1 h2 c w h4 h5 h6 with q | q
      · exact .inl (by simp [q])
      · rcases List.mem_append.mp q with q | q
        · exact .inr (by simp [q])
        · exact .inl (by simp at q; simp [q])
    · have en : f.n = e.n := by
        rcases List.mem_append.mp h3 with q | q
        · exact absurd q c
        · simpa using q
      have := N j i f e h1 h h2 ha en
      subst this
      rw [h] at h1; cases h1
      rcases x2 (w / 2) (mem_refs.mpr ⟨w, h4, h5, rfl⟩) with q | q
      · exact .inl q
      · exact .inr (by simp [q])
  · exact List.nodup_append.mpr ⟨d.nd, by simp, fun a ha b hb => by simp at hb; subst hb; exact fun z => hn (z ▸ ha)⟩
theorem DI.done {B : List Blk} {R F : List Int} (d : DI B R F []) (N : Nd B) : ∀ n, n ∈ F ↔ Rch B R n := fun n => by
  refine ⟨d.sF n, fun h => ?_⟩
  induction h with
  | root w h1 h2 h3 => exact (d.ro w h1 h2 h3).elim id fun z => by cases z
  | step i e w h1 h2 h3 h4 h5 h6 ih => exact (d.cl i e h1 h2 ih w h4 h5 h6).elim id fun z => by cases z
/-- how much may still be found -/
def pot (F : List Int) : List Blk → Nat
  | [] => 0
  | e :: B => (if e.al = true ∧ e.n ∉ F then e.s.length + 2 else 0) + pot F B
theorem pot_le (F : List Int) (n : Int) : ∀ B, pot (F ++ [n]) B ≤ pot F B
  | [] => Nat.le_refl _
  | e :: B => by
    have := pot_le F n B
    unfold pot
    by_cases c : e.al = true ∧ e.n ∉ F ++ [n]
    · rw [if_pos c, if_pos ⟨c.1, fun z => c.2 (by simp [z])⟩]; omega
    · rw [if_neg c]; omega
theorem pot_lt {F : List Int} {e : Blk} : ∀ {B : List Blk} {i : Nat}, B[i]? = some e → e.al = true → e.n ∉ F → pot (F ++ [e.n]) B + (e.s.length + 2) ≤ pot F B
  | [], i, h, _, _ => by simp at h
  | f :: B, 0, h, ha, hn => by
    have := pot_le F e.n B
    have : f = e := by simpa using h
    subst this
    have e1 : pot F (f :: B) = (f.s.length + 2) + pot F B := by conv => lhs; unfold pot; rw [if_pos ⟨ha, hn⟩]
    have e2 : pot (F ++ [f.n]) (f :: B) = 0 + pot (F ++ [f.n]) B := by conv => lhs; unfold pot; rw [if_neg (fun z => z.2 (by simp))]
    omega
  | f :: B, i + 1, h, ha, hn => by
    have ih := pot_lt (F := F) (e := e) (B := B) (i := i) (by simpa using h) ha hn
    unfold pot
    by_cases c : f.al = true ∧ f.n ∉ F ++ [e.n]
    · rw [if_pos c, if_pos ⟨c.1, fun z => c.2 (by simp [z])⟩]; omega
    · rw [if_neg c]; omega
theorem pot_flat (F : List Int) : ∀ B, pot F B ≤ (flat B).length
  | [] => Nat.le_refl _
  | e :: B => by
    have := pot_flat F B
    rw [flat_cons, List.length_append, Blk.ws_len]
    unfold pot
    split <;> omega
/-! ### sorted lists -/
theorem srt_uniq {a b : List Int} (h : ∀ x, x ∈ a ↔ x ∈ b) (na : a.Nodup) (nb : b.Nodup) {a' b' : List Int} (pa : a'.Perm a) (pb : b'.Perm b) (sa : a'.Pairwise (· ≤ ·)) (sb : b'.Pairwise (· ≤ ·)) : a' = b' := by
  have p : a.Perm b := (List.perm_ext_iff_of_nodup na nb).mpr h
  exact List.Perm.eq_of_pairwise (le := (· ≤ ·)) (fun x y _ _ h1 h2 => Int.le_antisymm h1 h2) sa sb (pa.trans (p.trans pb.symm))
theorem perm_sum {a b : List Int} (p : a.Perm b) : a.sum = b.sum := by
  induction p with
  | nil => rfl
  | cons x _ ih => rw [List.sum_cons, List.sum_cons, ih]
  | swap x y l => rw [List.sum_cons, List.sum_cons, List.sum_cons, List.sum_cons]; omega
  | trans _ _ h1 h2 => exact h1.trans h2
theorem fm_if {α β : Type} (p : α → Bool) (f : α → β) : ∀ l : List α, l.filterMap (fun r => if p r = true then some (f r) else none) = (l.filter p).map f
  | [] => rfl
  | x :: l => by
    rw [List.filterMap_cons, List.filter_cons, fm_if p f l]
    cases p x <;> rfl
end ST

set_option Elab.async false
set_option linter.all false
set_option maxRecDepth 100000
set_option maxHeartbeats 4000000
/-! StH: a store in the heap; its promises -/
namespace KW
open PySem PySem.Spec PyProof.Rows L2
/-- from H to H' at most the things of f changed; the things of g are of f or new -/
def Stp (f g : List Addr) (H H' : Hp) : Prop := KW.Fr f H H' ∧ ∀ x ∈ g, x ∈ f ∨ H x = none
theorem Fr.none {l : List Addr} {H H' : Hp} (f : KW.Fr l H H') {b : Addr} (n : b ∉ l) (h : H' b = none) : H b = none := by
  cases e : H b with
  | none => rfl
  | some o => have := f b o n e; rw [h] at this; cases this
theorem Stp.refl {f : List Addr} (H : Hp) : Stp f f H H := ⟨Fr.refl H, fun _ h => .inl h⟩
theorem Stp.of {f : List Addr} {H H' : Hp} (h : KW.Fr f H H') : Stp f f H H' := ⟨h, fun _ h => .inl h⟩
theorem Stp.trans {f g k : List Addr} {H H1 H2 : Hp} (a : Stp f g H H1) (b : Stp g k H1 H2) : Stp f k H H2 := by
  refine ⟨fun x o n h => ?_, fun x hx => ?_⟩
  · have h1 := a.1 x o n h
    refine b.1 x o (fun z => ?_) h1
    rcases a.2 x z with q | q
    · exact n q
    · rw [h] at q; cases q
  · by_cases hf : x ∈ f
    · exact .inl hf
    · rcases b.2 x hx with q | q
      · exact a.2 x q
      · exact .inr (a.1.none hf q)
theorem Stp.out {f g : List Addr} {H H' : Hp} (a : Stp f g H H') {x : Addr} {o : HO} (n : x ∉ f) (h : H x = some o) : H' x = some o ∧ x ∉ g := by
  refine ⟨a.1 x o n h, fun z => ?_⟩
  rcases a.2 x z with q | q
  · exact n q
  · rw [h] at q; cases q
theorem Fr.stp {l f g : List Addr} {H H' H2 : Hp} (a : KW.Fr l H H') (n : ∀ x ∈ l, x ∈ f) (b : Stp f g H' H2) : Stp f g H H2 := (Stp.of (a.mono n)).trans b
/-- a tuple, a list of ints, a thing that stands -/
abbrev IL (H : Hp) (p : Addr) (xs : List Int) : Prop := H p = some (.lst (xs.map V.int))
theorem notin_of {l : List Addr} {H : Hp} {p : Addr} (h : H p = none) (k : ∀ x ∈ l, ∃ o, H x = some o) : p ∉ l := fun z => by
  obtain ⟨o, e⟩ := k p z
  rw [h] at e; cases e
end KW
namespace ST
open PySem PySem.Spec PyProof.Rows L2 KW
abbrev KVs := List (Key × V)
structure PlOk (kvs : KVs) (B : List Blk) : Prop where
  at_ : ∀ (i : Nat) (e : Blk), B[i]? = some e → e.al = true → valV kvs (.inl e.n) = some (.int (off B i : Nat))
  ks : ∃ ns : List Int, kvs.map (·.1) = ns.map Sum.inl ∧ ns.Nodup ∧ ∀ n, n ∈ ns ↔ lv B n = true
theorem valV_some {kvs : KVs} {k : Key} : (valV kvs k).isSome = true ↔ k ∈ kvs.map (·.1) := by
  rw [← valV_any, List.any_eq_true]
  constructor
  · rintro ⟨a, ha, h⟩
    have : a.1 = k := by simpa using h
    exact List.mem_map.mpr ⟨a, ha, this⟩
  · intro h
    obtain ⟨a, ha, rfl⟩ := List.mem_map.mp h
    exact ⟨a, ha, by simp⟩
theorem PlOk.isS {kvs : KVs} {B : List Blk} (h : PlOk kvs B) (n : Int) : (valV kvs (.inl n)).isSome = lv B n := by
  obtain ⟨ns, e, _, m⟩ := h.ks
  apply Bool.eq_iff_iff.mpr
  rw [valV_some, e, ← m n, List.mem_map]
  exact ⟨fun ⟨a, ha, z⟩ => by cases z; exact ha, fun ha => ⟨n, ha, rfl⟩⟩
theorem PlOk.isN {kvs : KVs} {B : List Blk} (h : PlOk kvs B) {n : Int} (l : lv B n = false) : valV kvs (.inl n) = none := by
  have := h.isS n
  rw [l] at this
  cases e : valV kvs (.inl n) with
  | none => rfl
  | some v => rw [e] at this; cases this
theorem PlOk.len {kvs : KVs} {B : List Blk} (h : PlOk kvs B) : kvs.length ≤ B.length := by
  obtain ⟨ns, e, nd, m⟩ := h.ks
  have e1 := congrArg List.length e
  rw [List.length_map, List.length_map] at e1
  have := nd.length_le_of_subset (l₂ := nums B) fun x hx => mem_nums.mpr ((m x).mp hx)
  have := nums_len B
  omega
theorem PlOk.nil : PlOk [] [] := ⟨fun i e h => by simp at h, [], rfl, List.nodup_nil, fun n => by simp [lv]⟩
theorem PlOk.congr {kvs : KVs} {B C : List Blk} (h : PlOk kvs B) (h1 : ∀ (i : Nat) (e : Blk), C[i]? = some e → e.al = true → ∃ (e' : Blk), B[i]? = some e' ∧ e'.al = true ∧ e'.n = e.n ∧ off B i = off C i) (h2 : ∀ n, lv C n = lv B n) : PlOk kvs C := by
  obtain ⟨ns, e, nd, m⟩ := h.ks
  refine ⟨fun i e hi ha => ?_, ns, e, nd, fun n => by rw [h2]; exact m n⟩
  obtain ⟨e', q1, q2, q3, q4⟩ := h1 i e hi ha
  rw [← q3, ← q4]; exact h.at_ i e' q1 q2
theorem PlOk.same {kvs : KVs} {B : List Blk} {i : Nat} {e f : Blk} (h : PlOk kvs B) (hi : B[i]? = some e) (h1 : f.al = e.al) (h2 : f.n = e.n) (h3 : f.s.length = e.s.length) : PlOk kvs (B.set i f) := by
  refine h.congr (fun j u hj ua => ?_) (lv_set hi h1 h2)
  rw [get_set hi] at hj
  rw [off_set hi h3]
  split at hj
  · rename_i c; subst c; cases hj; exact ⟨e, hi, h1 ▸ ua, h2.symm, rfl⟩
  · exact ⟨u, hj, ua, rfl, rfl⟩
theorem putK_new {kvs : KVs} {k : Key} {v : V} (h : valV kvs k = none) : (putK kvs k v).map (·.1) = kvs.map (·.1) ++ [k] := by
  unfold putK
  rw [if_neg (by rw [valV_any, h]; simp), List.map_append]; rfl
theorem putK_old {kvs : KVs} {k : Key} {v : V} (h : (valV kvs k).isSome = true) : (putK kvs k v).map (·.1) = kvs.map (·.1) := by
  unfold putK
  rw [if_pos (by rw [valV_any]; exact h), List.map_map]
  apply List.map_congr_left
  rintro ⟨a, b⟩ _
  simp only [Function.comp]
  split
  · rename_i c; simp_all
  · rfl
theorem valV_putI {kvs : KVs} {n m : Int} {v : V} : valV (putK kvs (.inl n) v) (.inl m) = if m = n then some v else valV kvs (.inl m) := by
  rw [valV_put]
  by_cases c : m = n
  · subst c; rw [if_pos rfl, if_pos rfl]
  · rw [if_neg (fun z => c (by cases z; rfl)), if_neg c]
theorem valV_dropI {kvs : KVs} {n m : Int} : valV (dropK kvs (.inl n)) (.inl m) = if m = n then none else valV kvs (.inl m) := by
  rw [valV_drop]
  by_cases c : m = n
  · subst c; rw [if_pos rfl, if_pos rfl]
  · rw [if_neg (fun z => c (by cases z; rfl)), if_neg c]
theorem inl_eq {u v : Int} : ((Sum.inl u : Key) = .inl v) = (u = v) := propext ⟨fun z => by cases z; rfl, fun z => by rw [z]⟩
theorem PlOk.app {kvs : KVs} {B : List Blk} {e : Blk} (h : PlOk kvs B) (ha : e.al = true) (hn : lv B e.n = false) : PlOk (putK kvs (.inl e.n) (.int ((flat B).length : Nat))) (B ++ [e]) := by
  have nn := h.isN hn
  obtain ⟨ns, ek, nd, m⟩ := h.ks
  refine ⟨fun i u hi ua => ?_, ns ++ [e.n], by rw [putK_new nn, ek]; simp, ?_, fun n => ?_⟩
  · rw [valV_putI]
    rw [List.getElem?_append] at hi
    split at hi
    · rename_i c
      rw [off_app (by omega), if_neg (fun z => ?_)]
      · exact h.at_ i u hi ua
      · rw [← z, lv_at hi ua] at hn; cases hn
    · rename_i c
      have hx : i - B.length = 0 := by
        have := (List.getElem?_eq_some_iff.mp hi).1
        simpa using this
      rw [hx] at hi
      have : u = e := by simpa using hi.symm
      subst this
      have hi2 : i = B.length := by omega
      subst hi2
      rw [if_pos rfl, off_app (Nat.le_refl _), off_len]
  · rw [List.nodup_append]
    refine ⟨nd, by simp, fun a ha b hb => ?_⟩
    simp at hb; subst hb
    intro z; subst z
    rw [(m _).mp ha] at hn; cases hn
  · rw [List.mem_append, m n, lv_app]
    have : lv [e] n = decide (e.n = n) := by simp [lv, ha]
    rw [this, Bool.or_eq_true, decide_eq_true_eq, List.mem_singleton]
    exact ⟨fun z => z.elim .inl fun q => .inr q.symm, fun z => z.elim .inl fun q => .inr q.symm⟩
theorem PlOk.drop {kvs : KVs} {B : List Blk} {i : Nat} {e : Blk} (h : PlOk kvs B) (N : Nd B) (hi : B[i]? = some e) (ha : e.al = true) : PlOk (dropK kvs (.inl e.n)) (B.set i { e with al := false }) := by
  obtain ⟨ns, ek, nd, m⟩ := h.ks
  refine ⟨fun j u hj ua => ?_, ns.filter (fun n => decide (n ≠ e.n)), ?_, nd.sublist List.filter_sublist, fun n => ?_⟩
  · rw [valV_dropI, off_set (f := { e with al := false }) hi rfl]
    rw [get_set hi] at hj
    split at hj
    · cases hj; cases ua
    · rename_i c
      rw [if_neg (fun z => c (N j i u e hj hi ua ha z))]
      exact h.at_ j u hj ua
  · unfold dropK
    have : ∀ (l : KVs) (ns : List Int), l.map (·.1) = ns.map Sum.inl → (l.filter fun a => decide (a.1 ≠ .inl e.n)).map (·.1) = (ns.filter fun n => decide (n ≠ e.n)).map Sum.inl := by
      intro l
      induction l with
      | nil => intro ns h; cases ns with | nil => rfl | cons _ _ => cases h
      | cons a l ih =>
        intro ns h
        cases ns with
        | nil => cases h
        | cons n ns =>
          simp only [List.map_cons, List.cons.injEq] at h
          have e1 := ih ns h.2
          rw [List.filter_cons, List.filter_cons]
          by_cases c : n = e.n
          · rw [if_neg (by simp [h.1, c]), if_neg (by simp [c])]; exact e1
          · rw [if_pos (by simp [h.1, c]), if_pos (by simp [c]), List.map_cons, List.map_cons, e1, h.1]
    exact this kvs ns ek
  · rw [List.mem_filter, m n, lv_drop N hi ha]
    simp
theorem PlOk.exch {kvs : KVs} {B : List Blk} {i j : Nat} {e f : Blk} (h : PlOk kvs B) (N : Nd B) (hi : B[i]? = some e) (hj : B[j]? = some f) (ea : e.al = true) (fa : f.al = true) :
    PlOk (putK (putK kvs (.inl e.n) (.int (off B j : Nat))) (.inl f.n) (.int (off B i : Nat))) (exch B i j e f) := by
  obtain ⟨ns, ek, nd, m⟩ := h.ks
  have l1 : (valV kvs (.inl e.n)).isSome = true := by rw [h.isS]; exact lv_at hi ea
  have l2 : (valV (putK kvs (.inl e.n) (.int (off B j : Nat))) (.inl f.n)).isSome = true := by
    rw [valV_putI]
    split
    · rfl
    · rw [h.isS]; exact lv_at hj fa
  refine ⟨fun a u ha ua => ?_, ns, by rw [putK_old l2, putK_old l1]; exact ek, nd, fun n => by rw [lv_exch hi hj ea fa]; exact m n⟩
  rw [off_exch hi hj, valV_putI, valV_putI]
  rw [get_exch hi hj] at ha
  split at ha
  · rename_i c; subst c; cases ha
    dsimp only
    by_cases d : e.n = f.n
    · have := N i a e f hi hj ea fa d
      subst this
      rw [if_pos d]
    · rw [if_neg d, if_pos rfl]
  · split at ha
    · rename_i c d; subst d; cases ha
      rw [if_pos rfl]
    · rename_i c d
      rw [if_neg (fun z => c (N a j u f ha hj ua fa z)), if_neg (fun z => d (N a i u e ha hi ua ea z))]
      exact h.at_ a u ha ua
/-- a store at st: its words at wd, its places at pl -/
structure Sto (C : Addr) (H : Hp) (st wd pl : Addr) (rm en : Int) (B : List Blk) : Prop where
  ob : ∃ dx lo, H st = some (.ins C dx [("room", .int rm), ("entries", .int en), ("words", .ref wd), ("_places", .ref pl), ("_least", .int lo)]) ∧ 0 ≤ lo ∧ ∀ i, 0 ≤ i → i < lo → lv B i = true
  wo : H wd = some (.lst ((flat B).map V.int))
  pa : ∃ kvs, H pl = some (.dK kvs) ∧ PlOk kvs B
  nd : Nd B
  nn : ∀ (i : Nat) (e : Blk), B[i]? = some e → e.al = true → 0 ≤ e.n
  wp : wd ≠ pl
  sw : st ≠ wd
  sp : st ≠ pl
abbrev fpS (st wd pl : Addr) : List Addr := [st, wd, pl]
theorem Sto.fr {C : Addr} {H H' : Hp} {st wd pl : Addr} {rm en : Int} {B : List Blk} {l : List Addr} (s : Sto C H st wd pl rm en B) (f : KW.Fr l H H') (h1 : st ∉ l) (h2 : wd ∉ l) (h3 : pl ∉ l) : Sto C H' st wd pl rm en B := by
  obtain ⟨⟨dx, lo, ob, l1⟩, wo, ⟨kvs, pa, ok⟩, nd, nn, wp, sw, sp⟩ := s
  exact ⟨⟨dx, lo, f _ _ h1 ob, l1⟩, f _ _ h2 wo, ⟨kvs, f _ _ h3 pa, ok⟩, nd, nn, wp, sw, sp⟩
theorem Sto.new {C : Addr} {H : Hp} {st wd pl t : Addr} {rm en : Int} {B : List Blk} {o : HO} (s : Sto C H st wd pl rm en B) (h : H t = none) : Sto C (upd H t o) st wd pl rm en B := s.fr (l := []) (Fr.new h) (by simp) (by simp) (by simp)
theorem Sto.fr0 {C : Addr} {H H' : Hp} {st wd pl : Addr} {rm en : Int} {B : List Blk} (s : Sto C H st wd pl rm en B) (f : KW.Fr [] H H') : Sto C H' st wd pl rm en B := s.fr f (by simp) (by simp) (by simp)
theorem Sto.there {C : Addr} {H : Hp} {st wd pl : Addr} {rm en : Int} {B : List Blk} (s : Sto C H st wd pl rm en B) : ∀ x ∈ fpS st wd pl, ∃ o, H x = some o := by
  obtain ⟨⟨dx, lo, ob, l1⟩, wo, ⟨kvs, pa, ok⟩, nd, nn, wp, sw, sp⟩ := s
  intro x hx
  simp only [List.mem_cons, List.not_mem_nil, or_false] at hx
  rcases hx with rfl | rfl | rfl
  · exact ⟨_, ob⟩
  · exact ⟨_, wo⟩
  · exact ⟨_, pa⟩
/-! ### promises of its methods -/
def spInit (C : Addr) : Sp := fun vs H Q _ => ∃ (st dx : Addr) (rm en : Int), vs = [.ref st, .int rm, .int en] ∧ H st = some (.ins C dx []) ∧ ∀ H' wd pl, Sto C H' st wd pl rm en [] → KW.Fr [st] H H' → H wd = none → H pl = none → Q .non H'
def spUsed (C : Addr) : Sp := fun vs H Q _ => ∃ (st wd pl : Addr) (rm en : Int) (B : List Blk), vs = [.ref st] ∧ Sto C H st wd pl rm en B ∧ Q (.int (flat B).length) H
def spExists (C : Addr) : Sp := fun vs H Q _ => ∃ (st wd pl : Addr) (rm en : Int) (B : List Blk) (n : Int), vs = [.ref st, .int n] ∧ Sto C H st wd pl rm en B ∧ Q (.bl (lv B n)) H
def spNumbers (C : Addr) : Sp := fun vs H Q _ => ∃ (st wd pl : Addr) (rm en : Int) (B : List Blk), vs = [.ref st] ∧ Sto C H st wd pl rm en B ∧ B.length ≤ 1000000 ∧ ∀ (ys : List Int) (l : Addr), ys.Perm (nums B) → ys.Pairwise (· ≤ ·) → H l = none → Q (.ref l) (upd H l (.lst (ys.map V.int)))
def spSize (C : Addr) : Sp := fun vs H Q _ => ∃ (st wd pl : Addr) (rm en : Int) (B : List Blk) (n : Int) (i : Nat) (e : Blk), vs = [.ref st, .int n] ∧ Sto C H st wd pl rm en B ∧ B[i]? = some e ∧ e.al = true ∧ e.n = n ∧ Q (.int e.s.length) H
def spKind (C : Addr) : Sp := fun vs H Q _ => ∃ (st wd pl : Addr) (rm en : Int) (B : List Blk) (n : Int) (i : Nat) (e : Blk), vs = [.ref st, .int n] ∧ Sto C H st wd pl rm en B ∧ B[i]? = some e ∧ e.al = true ∧ e.n = n ∧ Q (.int e.k) H
def spGet (C : Addr) : Sp := fun vs H Q _ => ∃ (st wd pl : Addr) (rm en : Int) (B : List Blk) (n : Int) (i j : Nat) (e : Blk) (z : Int), vs = [.ref st, .int n, .int j] ∧ Sto C H st wd pl rm en B ∧ B[i]? = some e ∧ e.al = true ∧ e.n = n ∧ e.s[j]? = some z ∧ Q (.int z) H
def spSlots (C : Addr) : Sp := fun vs H Q _ => ∃ (st wd pl : Addr) (rm en : Int) (B : List Blk) (n : Int) (i : Nat) (e : Blk), vs = [.ref st, .int n] ∧ Sto C H st wd pl rm en B ∧ B[i]? = some e ∧ e.al = true ∧ e.n = n ∧ ∀ l, H l = none → Q (.ref l) (upd H l (.lst (e.s.map V.int)))
def spSetKind (C : Addr) : Sp := fun vs H Q _ => ∃ (st wd pl : Addr) (rm en : Int) (B : List Blk) (n z : Int) (i : Nat) (e : Blk), vs = [.ref st, .int n, .int z] ∧ Sto C H st wd pl rm en B ∧ B[i]? = some e ∧ e.al = true ∧ e.n = n ∧ ∀ H', Sto C H' st wd pl rm en (B.set i { e with k := z }) → KW.Fr [wd] H H' → Q .non H'
def spPut (C : Addr) : Sp := fun vs H Q _ => ∃ (st wd pl : Addr) (rm en : Int) (B : List Blk) (n z : Int) (i j : Nat) (e : Blk), vs = [.ref st, .int n, .int j, .int z] ∧ Sto C H st wd pl rm en B ∧ B[i]? = some e ∧ e.al = true ∧ e.n = n ∧ j < e.s.length ∧ ∀ H', Sto C H' st wd pl rm en (B.set i { e with s := e.s.set j z }) → KW.Fr [wd] H H' → Q .non H'
def spDrop (C : Addr) : Sp := fun vs H Q _ => ∃ (st wd pl : Addr) (rm en : Int) (B : List Blk) (n : Int) (i : Nat) (e : Blk), vs = [.ref st, .int n] ∧ Sto C H st wd pl rm en B ∧ B[i]? = some e ∧ e.al = true ∧ e.n = n ∧ ∀ H', Sto C H' st wd pl rm en (B.set i { e with al := false }) → KW.Fr [st, pl] H H' → Q .non H'
def spExchange (C : Addr) : Sp := fun vs H Q _ => ∃ (st wd pl : Addr) (rm en : Int) (B : List Blk) (m n : Int) (i j : Nat) (e f : Blk), vs = [.ref st, .int m, .int n] ∧ Sto C H st wd pl rm en B ∧ B.length ≤ 1000000 ∧ B[i]? = some e ∧ e.al = true ∧ e.n = m ∧ B[j]? = some f ∧ f.al = true ∧ f.n = n ∧
  ∀ H', Sto C H' st wd pl rm en (exch B i j e f) → KW.Fr [wd, pl] H H' → Q .non H'
def spFree (C NN : Addr) : Sp := fun vs H Q E => ∃ (st wd pl : Addr) (rm en : Int) (B : List Blk), vs = [.ref st] ∧ Sto C H st wd pl rm en B ∧ 0 ≤ en ∧ en ≤ 1000000 ∧ ∀ f, Free B f →
  (f < en → ∀ H', Sto C H' st wd pl rm en B → KW.Fr [st] H H' → Q (.int f) H') ∧
  (en ≤ f → ∀ H', Sto C H' st wd pl rm en B → KW.Fr [st] H H' → ∀ d, H' d = none → E (.ref NN) (some d) (upd H' d (.xd [("limit", .int en)])))
def spAllocate (C NR NN : Addr) : Sp := fun vs H Q E => ∃ (st wd pl : Addr) (rm en : Int) (B : List Blk) (kd : Int) (n : Nat), vs = [.ref st, .int kd, .int n] ∧ Sto C H st wd pl rm en B ∧ 0 ≤ en ∧ en ≤ 1000000 ∧ rm ≤ 1000000 ∧ n ≤ 1000000 ∧
  (rm < ((flat B).length : Int) + 3 + n → ∀ d, H d = none → E (.ref NR) (some d) (upd H d (.xd [("need", .int (3 + n))]))) ∧
  (((flat B).length : Int) + 3 + n ≤ rm → ∀ f, Free B f →
    (f < en → ∀ H', Sto C H' st wd pl rm en (B ++ [⟨f, kd, List.replicate n 0, true⟩]) → KW.Fr [st, wd, pl] H H' → Q (.int f) H') ∧
    (en ≤ f → ∀ H', Sto C H' st wd pl rm en B → KW.Fr [st] H H' → ∀ d, H' d = none → E (.ref NN) (some d) (upd H' d (.xd [("limit", .int en)]))))
theorem len_flat (B : List Blk) : 3 * B.length ≤ (flat B).length := by
  induction B with
  | nil => simp
  | cons e B ih => rw [flat_cons, List.length_append, Blk.ws_len, List.length_cons]; omega
end ST
namespace ST
open PySem PySem.Spec PyProof.Rows L2 KW
/-- a dict of found numbers -/
structure Fnd (kvs : KVs) (F : List Int) : Prop where
  ks : kvs.map (·.1) = F.map Sum.inl
  tr : ∀ n ∈ F, valV kvs (.inl n) = some (.bl true)
theorem Fnd.nil : Fnd [] [] := ⟨rfl, fun n h => by cases h⟩
theorem Fnd.mem {kvs : KVs} {F : List Int} (h : Fnd kvs F) (n : Int) : (valV kvs (.inl n)).isSome = decide (n ∈ F) := by
  apply Bool.eq_iff_iff.mpr
  rw [valV_some, h.ks, List.mem_map, decide_eq_true_eq]
  exact ⟨fun ⟨a, ha, z⟩ => by cases z; exact ha, fun ha => ⟨n, ha, rfl⟩⟩
theorem Fnd.put {kvs : KVs} {F : List Int} {n : Int} (h : Fnd kvs F) (hn : n ∉ F) : Fnd (putK kvs (.inl n) (.bl true)) (F ++ [n]) := by
  have e : valV kvs (.inl n) = none := by
    have := h.mem n
    rw [decide_eq_false hn] at this
    cases q : valV kvs (.inl n) with
    | none => rfl
    | some v => rw [q] at this; cases this
  refine ⟨by rw [putK_new e, h.ks, List.map_append]; rfl, fun m hm => ?_⟩
  rw [valV_putI]
  split
  · rfl
  · rename_i c
    refine h.tr m ?_
    rcases List.mem_append.mp hm with q | q
    · exact q
    · exact absurd (by simpa using q) c
theorem Fnd.len {kvs : KVs} {F : List Int} (h : Fnd kvs F) : kvs.length = F.length := by
  have := congrArg List.length h.ks
  rwa [List.length_map, List.length_map] at this
theorem rch_len {B : List Blk} {R F : List Int} (nd : F.Nodup) (h : ∀ n ∈ F, Rch B R n) : F.length ≤ B.length :=
  Nat.le_trans (nd.length_le_of_subset (l₂ := nums B) fun x hx => mem_nums.mpr (h x hx).lv) (nums_len B)
/-- reached(store, roots) -/
def spReached (C : Addr) : Sp := fun vs H Q _ => ∃ (st wd pl rt : Addr) (rm en : Int) (B : List Blk) (R : List Int), vs = [.ref st, .ref rt] ∧ Sto C H st wd pl rm en B ∧ IL H rt R ∧ (flat B).length ≤ 2000000 ∧ R.length ≤ 1000000 ∧
  ∀ (p : Addr) (F : List Int) (kvs : KVs) (H' : Hp), H p = none → KW.Fr [] H H' → H' p = some (.dK kvs) → Fnd kvs F → F.Nodup → (∀ n, n ∈ F ↔ Rch B R n) → Q (.ref p) H'
/-- words_of(store, numbers): a list, or a dict of found ones -/
def blkAt (B : List Blk) (n : Int) : Option Blk := B.find? fun e => e.al && decide (e.n = n)
theorem blkAt_ex {B : List Blk} {n : Int} (h : lv B n = true) : ∃ (i : Nat) (e : Blk), blkAt B n = some e ∧ B[i]? = some e ∧ e.al = true ∧ e.n = n := by
  unfold blkAt
  cases q : B.find? fun e => e.al && decide (e.n = n) with
  | none =>
    rw [List.find?_eq_none] at q
    obtain ⟨i, e, h1, h2, h3⟩ := lv_iff.mp h
    exact absurd (by simp [h2, h3]) (q e (List.mem_of_getElem? h1))
  | some e =>
    have h1 := List.find?_some q
    obtain ⟨i, hi⟩ := List.getElem?_of_mem (List.mem_of_find?_eq_some q)
    simp at h1
    exact ⟨i, e, rfl, hi, h1.1, h1.2⟩
theorem blkAt_eq {B : List Blk} (N : Nd B) {i : Nat} {e : Blk} (h : B[i]? = some e) (ha : e.al = true) : blkAt B e.n = some e := by
  obtain ⟨j, f, h1, h2, h3, h4⟩ := blkAt_ex (lv_at h ha)
  have := N i j e f h h2 ha h3 h4.symm
  subst this
  rw [h] at h2; cases h2; exact h1
/-- the words that the block n takes -/
def wof (B : List Blk) (n : Int) : Int := 3 + ((blkAt B n).map fun e => (e.s.length : Int)).getD 0
theorem wof_eq {B : List Blk} (N : Nd B) {i : Nat} {e : Blk} (h : B[i]? = some e) (ha : e.al = true) : wof B e.n = 3 + (e.s.length : Int) := by unfold wof; rw [blkAt_eq N h ha]; rfl
def spWordsOf (C : Addr) : Sp := fun vs H Q _ => ∃ (st wd pl nu : Addr) (rm en : Int) (B : List Blk) (F : List Int), vs = [.ref st, .ref nu] ∧ Sto C H st wd pl rm en B ∧ (IL H nu F ∨ nu ≠ pl ∧ ∃ kvs, H nu = some (.dK kvs) ∧ Fnd kvs F) ∧ F.length ≤ 1000000 ∧ (∀ n ∈ F, lv B n = true) ∧
  ∀ H', KW.Fr [] H H' → Q (.int (F.map (wof B)).sum) H'
end ST
namespace ST
open PySem PySem.Spec PyProof.Rows L2 KW
section
variable {C : Addr} {H : Hp} {st wd pl : Addr} {rm en : Int} {B : List Blk} {Q : VK} {E : XK} {m : Str} {sp : Sp} {t : TA} {σ : L2.St}
theorem met_s (S : Sto C H st wd pl rm en B) (l : (["room", "entries", "words", "_places", "_least"] : List Str).contains m = false) (q : t σ H fun vs H2 => sp (.ref st :: vs) H2 Q E) : uMet.uMt C m sp E t σ (.ref st) H Q := by
  obtain ⟨dx, lo, ob, _⟩ := S.ob
  refine ⟨dx, _, ob, ?_, q⟩
  simp only [List.contains_cons, List.contains_nil, Bool.or_eq_false_iff, Bool.or_false] at l
  simp only [List.lookup, l]
theorem words_s {Q : VK} {K : Frag} {mg : Str → Option Value} {x : Str} {ns : List Str} (S : Sto C H st wd pl rm en B) (c : ClsA K mg x C ns) (h : (PySem.Str.ofString "words" : Str) ∈ ns) (q : Q (.ref wd) H) : uGet K "words" (.ref st) H Q := by
  obtain ⟨dx, lo, ob, _⟩ := S.ob
  exact get_l ob c h (by rfl) q
theorem exists_s {n : Int} (S : Sto C H st wd pl rm en B) (q : Q (.bl (lv B n)) H) : spExists C [.ref st, .int n] H Q E := ⟨st, wd, pl, rm, en, B, n, rfl, S, q⟩
theorem used_s (S : Sto C H st wd pl rm en B) (q : Q (.int (flat B).length) H) : spUsed C [.ref st] H Q E := ⟨st, wd, pl, rm, en, B, rfl, S, q⟩
theorem numbers_s (S : Sto C H st wd pl rm en B) (hB : B.length ≤ 1000000) (q : ∀ (ys : List Int) (l : Addr), ys.Perm (nums B) → ys.Pairwise (· ≤ ·) → H l = none → Q (.ref l) (upd H l (.lst (ys.map V.int)))) : spNumbers C [.ref st] H Q E := ⟨st, wd, pl, rm, en, B, rfl, S, hB, q⟩
variable {n z : Int} {i j : Nat} {e f : Blk}
theorem size_s (S : Sto C H st wd pl rm en B) (hi : B[i]? = some e) (ha : e.al = true) (hn : e.n = n) (q : Q (.int e.s.length) H) : spSize C [.ref st, .int n] H Q E := ⟨st, wd, pl, rm, en, B, n, i, e, rfl, S, hi, ha, hn, q⟩
theorem kind_s (S : Sto C H st wd pl rm en B) (hi : B[i]? = some e) (ha : e.al = true) (hn : e.n = n) (q : Q (.int e.k) H) : spKind C [.ref st, .int n] H Q E := ⟨st, wd, pl, rm, en, B, n, i, e, rfl, S, hi, ha, hn, q⟩
theorem get_s (S : Sto C H st wd pl rm en B) (hi : B[i]? = some e) (ha : e.al = true) (hn : e.n = n) (hz : e.s[j]? = some z) (q : Q (.int z) H) : spGet C [.ref st, .int n, .int j] H Q E := ⟨st, wd, pl, rm, en, B, n, i, j, e, z, rfl, S, hi, ha, hn, hz, q⟩
theorem slots_s (S : Sto C H st wd pl rm en B) (hi : B[i]? = some e) (ha : e.al = true) (hn : e.n = n) (q : ∀ l, H l = none → Q (.ref l) (upd H l (.lst (e.s.map V.int)))) : spSlots C [.ref st, .int n] H Q E := ⟨st, wd, pl, rm, en, B, n, i, e, rfl, S, hi, ha, hn, q⟩
theorem setKind_s (S : Sto C H st wd pl rm en B) (hi : B[i]? = some e) (ha : e.al = true) (hn : e.n = n) (q : ∀ H', Sto C H' st wd pl rm en (B.set i { e with k := z }) → KW.Fr [wd] H H' → Q .non H') : spSetKind C [.ref st, .int n, .int z] H Q E := ⟨st, wd, pl, rm, en, B, n, z, i, e, rfl, S, hi, ha, hn, q⟩
theorem put_s (S : Sto C H st wd pl rm en B) (hi : B[i]? = some e) (ha : e.al = true) (hn : e.n = n) (hj : j < e.s.length) (q : ∀ H', Sto C H' st wd pl rm en (B.set i { e with s := e.s.set j z }) → KW.Fr [wd] H H' → Q .non H') : spPut C [.ref st, .int n, .int j, .int z] H Q E := ⟨st, wd, pl, rm, en, B, n, z, i, j, e, rfl, S, hi, ha, hn, hj, q⟩
theorem drop_s (S : Sto C H st wd pl rm en B) (hi : B[i]? = some e) (ha : e.al = true) (hn : e.n = n) (q : ∀ H', Sto C H' st wd pl rm en (B.set i { e with al := false }) → KW.Fr [st, pl] H H' → Q .non H') : spDrop C [.ref st, .int n] H Q E := ⟨st, wd, pl, rm, en, B, n, i, e, rfl, S, hi, ha, hn, q⟩
theorem exchange_s {k : Int} (S : Sto C H st wd pl rm en B) (hB : B.length ≤ 1000000) (hi : B[i]? = some e) (ha : e.al = true) (hn : e.n = n) (hj : B[j]? = some f) (fa : f.al = true) (fn : f.n = k) (q : ∀ H', Sto C H' st wd pl rm en (exch B i j e f) → KW.Fr [wd, pl] H H' → Q .non H') : spExchange C [.ref st, .int n, .int k] H Q E := ⟨st, wd, pl, rm, en, B, n, k, i, j, e, f, rfl, S, hB, hi, ha, hn, hj, fa, fn, q⟩
theorem reached_s {rt : Addr} {R : List Int} (S : Sto C H st wd pl rm en B) (hR : IL H rt R) (hB : (flat B).length ≤ 2000000) (hl : R.length ≤ 1000000) (q : ∀ (p : Addr) (F : List Int) (kvs : KVs) (H' : Hp), H p = none → KW.Fr [] H H' → H' p = some (.dK kvs) → Fnd kvs F → F.Nodup → (∀ n, n ∈ F ↔ Rch B R n) → Q (.ref p) H') : spReached C [.ref st, .ref rt] H Q E := ⟨st, wd, pl, rt, rm, en, B, R, rfl, S, hR, hB, hl, q⟩
theorem wordsOf_s {nu : Addr} {F : List Int} (S : Sto C H st wd pl rm en B) (h : IL H nu F ∨ nu ≠ pl ∧ ∃ kvs, H nu = some (.dK kvs) ∧ Fnd kvs F) (hl : F.length ≤ 1000000) (hF : ∀ n ∈ F, lv B n = true) (q : ∀ H', KW.Fr [] H H' → Q (.int (F.map (wof B)).sum) H') : spWordsOf C [.ref st, .ref nu] H Q E := ⟨st, wd, pl, nu, rm, en, B, F, rfl, S, h, hl, hF, q⟩
end
end ST

set_option Elab.async false
set_option linter.all false
set_option maxRecDepth 100000
set_option maxHeartbeats 4000000
namespace K17
open PySem PySem.Spec PyProof.Rows L2 KW
local macro_rules | `(tactic| walk_at "kw") => `(tactic| simp only [tSeq, tNext, tIfS, tTest, tAnd, tOr, tNot, tAndV, tOrV, tNotV, tIf, tChain, tOp, tUn, tC, tAsg, gName, gSub, gCons, gNil, tRet, tRetN, tDrop, tCons, tNil, tCB, tAug, tSl, tPart, tNoPart, tLst, tTup, tBM, tBM0, uTest, uFor, iRng1, iRng2, iList, uCall, List.map_cons, List.map_nil, List.length_cons, List.length_nil, List.cons_append, List.nil_append, List.replicate, Nat.zero_add, Nat.reduceAdd, Nat.reduceSub, List.getElem?_cons_zero, List.getElem?_cons_succ, List.set_cons_zero, List.set_cons_succ, V.bl.injEq, V.int.injEq, V.str.injEq, V.ref.injEq, V.ty.injEq, List.cons.injEq, and_true, true_and, exists_eq_left', exists_eq_right, exists_eq_left, exists_and_left, exists_and_right, decide_eq_true_eq, Bool.not_eq_true', decide_eq_false_iff_not, Bool.false_eq_true, if_true, if_false, ite_true, ite_false, Bool.not_true, Bool.not_false, reduceCtorEq, decide_true, decide_false, Bool.not_not, isK_int_int, isK_int_bool, isK_int_str, isK_int_list, isK_int_tuple, isK_bool_int, isK_bool_bool, isK_bool_str, isK_str_str, isK_str_int, isK_str_bool, isK_str_tuple, isK_str_list, isK_list_list, isK_list_tuple, isK_tuple_tuple, isK_tuple_list, isOk_int_int, isOk_int_bool, isOk_int_str, isOk_int_list, isOk_int_tuple, isOk_bool_int, isOk_bool_bool, isOk_bool_str, isOk_str_str, isOk_str_int, isOk_str_bool, isOk_str_tuple, isOk_str_list, isOk_list_list, isOk_list_tuple, isOk_tuple_tuple, isOk_tuple_list, isK_dict_dict, isOk_dict_dict, isK_none_int, isK_none_bool, isOk_none_int, isOk_none_bool, tyV, S_inj, S_cat, L2.start, Nat.reduceSub, List.replicate_succ, List.replicate_zero, and_assoc, List.append_nil, Nat.reduceEqDiff, Option.some.injEq, Int.natCast_inj, upd_upd, Int.reducePow, Int.reduceToNat, Int.reduceMul, Int.reduceAdd, Int.reduceSub, Int.reduceLT, Int.reduceLE, Int.reduceNeg, Int.reduceDiv, Int.reduceMod, Nat.reducePow, Nat.reduceMul, S_len, List.length_append, List.length_map, List.length_range, not_true_eq_false, not_false_eq_true, ne_eq, uAdd_e1, uAdd_e2, uSub_e1, uMod_e1, uDiv_e1, uPow_e1, uShl_e1, uNeg_e1, uIAdd_e1, uIAdd_e2, uIAdd_e3, uISub_e1, uLt_e1, uLt_e2, uLe_e1, uGt_e1, uGe_e1, uEq_e1, uEq_e2, uEq_e3, uEq_e4, uEq_e5, uEq_e6, uEq_e7, uEq_e8, uEq_e9, uEq_e10, uEq_e11, uNe_e1, uNe_e2, uNe_e3, uNe_e4, uNe_e5, uNe_e6, uNe_e7, uNe_e8, uNe_e9, uNe_e10, uNe_e11, uIs_e1, uIs_e2, uIs_e3, uIs_e4, uIs_e5, uIs_e6, uIs_e7, uNotIs_e1, uNotIs_e2, uNotIs_e3, uNotIs_e4, uNotIs_e5, uNotIs_e6, uIn_e1, uIn_e2, uIn_e3, uIn_e4, uNotIn_e1, uNotIn_e2, uNotIn_e3, uNotIn_e4, uTru_e1, uTru_e2, uTru_e3, uTru_e4, uIx_e2, uSl_e2, uLen_e1, uAbs_e1, uInt_e1, uInt_e2, uMin2_e1, uIsi_e1, uIsi_e2, uIsi_e3, uIsi_e4, cx_K, uVar_0, uVar_n, uFld, uSFld, uMet, uMake, tDG, tDI, tDNI, tDP, tDD, uMk, uRaise, uDelSl, tCallS, L2.WE, uStr_e1, uStr_e2, uMul2_e1, uMul2_e2, okS_i, okS_s, List.zip_cons_cons, List.zip_nil_left, List.drop_zero, List.drop_succ_cons, List.drop_nil, putF_nil, putF_cons, eq_self, tDNewK, tB, Option.isSome_some, Option.isSome_none, false_and, false_or, or_false, exists_false, Int.zero_add, uLc, wipe, tYes, isEmpty_app, List.isEmpty_cons, List.isEmpty_nil, List.isEmpty_map, Bool.and_false, Bool.and_true, iRev, K17.lit_0, K17.lit_1, K17.lit_2, K17.lit_3, K17.lit_4, K17.lit_5, K17.lit_6, K17.lit_7, K17.lit_8, K17.lit_9, K17.lit_10, K17.lit_11, K17.lit_12, K17.lit_13, K17.lit_14, K17.lit_15, K17.lit_16, K17.lit_17, K17.lit_18, K17.lit_19, K17.lit_20, K17.lit_21, K17.lit_23, K17.lit_24, K17.lit_26, K17.lit_27, K17.lit_28, K17.lit_29, K17.lit_30, K17.lit_31, K17.lit_32, K17.lit_33, K17.lit_34, K17.lit_35, K17.lit_36, K17.fe_selector_argc, K17.fe_selector_locals, K17.fe_selector_stack, K17.fe_selector_code, K17.fe_selector_literals, K17.fe_argc_selector, K17.fe_argc_locals, K17.fe_argc_stack, K17.fe_argc_code, K17.fe_argc_literals, K17.fe_locals_selector, K17.fe_locals_argc, K17.fe_locals_stack, K17.fe_locals_code, K17.fe_locals_literals, K17.fe_stack_selector, K17.fe_stack_argc, K17.fe_stack_locals, K17.fe_stack_code, K17.fe_stack_literals, K17.fe_code_selector, K17.fe_code_argc, K17.fe_code_locals, K17.fe_code_stack, K17.fe_code_literals, K17.fe_literals_selector, K17.fe_literals_argc, K17.fe_literals_locals, K17.fe_literals_stack, K17.fe_literals_code, K17.fe_fields_globals_known, K17.fe_fields_code, K17.fe_fields_literals, K17.fe_fields_scopes, K17.fe_globals_known_fields, K17.fe_globals_known_code, K17.fe_globals_known_literals, K17.fe_globals_known_scopes, K17.fe_code_fields, K17.fe_code_globals_known, K17.fe_code_scopes, K17.fe_literals_fields, K17.fe_literals_globals_known, K17.fe_literals_scopes, K17.fe_scopes_fields, K17.fe_scopes_globals_known, K17.fe_scopes_code, K17.fe_scopes_literals, K17.fl_locals_0, K17.lf_locals_0, K17.fl_locals_1, K17.lf_locals_1, K17.fl_locals_2, K17.lf_locals_2, K17.fl_locals_3, K17.lf_locals_3, K17.fl_locals_4, K17.lf_locals_4, K17.fl_locals_5, K17.lf_locals_5, K17.fl_locals_6, K17.lf_locals_6, K17.fl_locals_7, K17.lf_locals_7, K17.fl_locals_8, K17.lf_locals_8, K17.fl_locals_9, K17.lf_locals_9, K17.fl_locals_10, K17.lf_locals_10, K17.fl_locals_11, K17.lf_locals_11, K17.fl_locals_12, K17.lf_locals_12, K17.fl_locals_13, K17.lf_locals_13, K17.fl_locals_14, K17.lf_locals_14, K17.fl_locals_15, K17.lf_locals_15, K17.fl_locals_16, K17.lf_locals_16, K17.fl_locals_17, K17.lf_locals_17, K17.fl_locals_18, K17.lf_locals_18, K17.fl_locals_19, K17.lf_locals_19, K17.fl_locals_20, K17.lf_locals_20, K17.fl_locals_21, K17.lf_locals_21, K17.fl_locals_23, K17.lf_locals_23, K17.fl_locals_24, K17.lf_locals_24, K17.fl_locals_25, K17.lf_locals_25, K17.fl_locals_26, K17.lf_locals_26, K17.fl_locals_27, K17.lf_locals_27, K17.fl_locals_28, K17.lf_locals_28, K17.fl_locals_29, K17.lf_locals_29, K17.fl_locals_30, K17.lf_locals_30, K17.fl_locals_31, K17.lf_locals_31, K17.fl_locals_32, K17.lf_locals_32, K17.fl_locals_33, K17.lf_locals_33, K17.fl_locals_34, K17.lf_locals_34, K17.fl_locals_35, K17.lf_locals_35, K17.fl_locals_36, K17.lf_locals_36, K17.fl_selector_0, K17.lf_selector_0, K17.fl_selector_1, K17.lf_selector_1, K17.fl_selector_2, K17.lf_selector_2, K17.fl_selector_3, K17.lf_selector_3, K17.fl_selector_4, K17.lf_selector_4, K17.fl_selector_5, K17.lf_selector_5, K17.fl_selector_6, K17.lf_selector_6, K17.fl_selector_7, K17.lf_selector_7, K17.fl_selector_8, K17.lf_selector_8, K17.fl_selector_9, K17.lf_selector_9, K17.fl_selector_10, K17.lf_selector_10, K17.fl_selector_11, K17.lf_selector_11, K17.fl_selector_12, K17.lf_selector_12, K17.fl_selector_13, K17.lf_selector_13, K17.fl_selector_14, K17.lf_selector_14, K17.fl_selector_15, K17.lf_selector_15, K17.fl_selector_16, K17.lf_selector_16, K17.fl_selector_17, K17.lf_selector_17, K17.fl_selector_18, K17.lf_selector_18, K17.fl_selector_19, K17.lf_selector_19, K17.fl_selector_20, K17.lf_selector_20, K17.fl_selector_21, K17.lf_selector_21, K17.fl_selector_22, K17.lf_selector_22, K17.fl_selector_23, K17.lf_selector_23, K17.fl_selector_24, K17.lf_selector_24, K17.fl_selector_26, K17.lf_selector_26, K17.fl_selector_27, K17.lf_selector_27, K17.fl_selector_28, K17.lf_selector_28, K17.fl_selector_29, K17.lf_selector_29, K17.fl_selector_30, K17.lf_selector_30, K17.fl_selector_31, K17.lf_selector_31, K17.fl_selector_32, K17.lf_selector_32, K17.fl_selector_33, K17.lf_selector_33, K17.fl_selector_34, K17.lf_selector_34, K17.fl_selector_35, K17.lf_selector_35, K17.fl_selector_36, K17.lf_selector_36, uMetD, uMtD_e, uDict1, uD1_e1, uD1_e2, uMax3_e, uSlA_e1, uSlA_e2, uTuple_e, uLenDk_e, K17.N_change_of, K17.N_places_behind, K17.N_Draft_init, K17.N_Draft_parts, K17.N_Draft___eq__, K17.N_declared, K17.N_is_plain_block, K17.N_is_inlined, K17.N_Coder_init, K17.N_Coder_emit, K17.N_Coder_here, K17.N_Coder_aim, K17.N_Coder_literal, K17.N_Coder_found, K17.N_Coder_name, K17.N_Coder_assign, K17.N_Coder_sequence, K17.N_Coder_inline, K17.N_Coder_choice, K17.N_Coder_loop, K17.N_Coder_message, K17.N_Coder_send, K17.N_Coder_block, K17.N_Coder_expression, K17.N_greatest_height, K17.N_with_stacks, K17.N_compile_method, K17.N__law_cell, K17.N__law_told, K17.N_law])
local macro_rules | `(tactic| walk_at "nn") => `(tactic| first | assumption | exact ne_un (by assumption) | exact ne_un (ne_un (by assumption)) | exact ne_un (ne_un (ne_un (by assumption))) | exact ne_un (ne_un (ne_un (ne_un (by assumption)))))
local macro_rules | `(tactic| walk_at "ne") => `(tactic| first | assumption | (apply Ne.symm; assumption) | exact ne_ud (by assumption) | exact Ne.symm (ne_ud (by assumption)) | exact ne_ud (ne_un (by assumption)) | exact Ne.symm (ne_ud (ne_un (by assumption))) | exact ne_ud (ne_un (ne_un (by assumption))) | exact Ne.symm (ne_ud (ne_un (ne_un (by assumption)))) | exact ne_m (by assumption) (by assumption) | exact Ne.symm (ne_m (by assumption) (by assumption)) | exact ne_n (by assumption) (by walk_at "nn") | exact Ne.symm (ne_n (by assumption) (by walk_at "nn")))
local macro_rules | `(tactic| walk_at "hp") => `(tactic| first | assumption | exact upd_same | (refine Eq.trans (upd_ne ?_) ?_; (focus walk_at "ne"); walk_at "hp"))
local macro_rules | `(tactic| walk_at "sc") => `(tactic| first | (with_reducible assumption) | omega | exact le_line (by (try simp only [List.length_map, List.length_append, List.length_cons, List.length_nil, S_len]); omega) | exact div_s (by omega) | exact mul_r (by omega) | exact mul_l (by omega) | exact pow_s (by omega) | exact mul2_r (by omega) | exact mul2_l (by omega) | exact small4300 (by omega) | exact lt_line (by (try simp only [List.length_map, List.length_append, List.length_cons, List.length_nil, S_len]); omega) | exact ⟨_, by assumption⟩ | (guard_target =~ Exists _; exact ⟨_, .of (by walk_at "hp")⟩) | (guard_target =~ _ ∨ _; exact .inl ⟨_, by assumption⟩) | (guard_target =~ _ ∨ _; exact .inl ⟨_, .of (by walk_at "hp")⟩) | (guard_target =~ _ ∨ _; exact .inr (.inr (.inl ⟨rfl, .inl ⟨_, by walk_at "hp"⟩⟩))) | decide)
local macro_rules | `(tactic| walk_at "kr") => `(tactic| first | (guard_target =~ _ ∧ _; first | refine And.intro (by walk_at "sc") ?_) | (guard_target =~ KW.uIx _ _ _ _ _; first | refine ix_l (by walk_at "hp") (by first | walk_at "hv" | rfl) ?_ | refine ix_t (by walk_at "hp") (by first | walk_at "hv" | rfl) ?_ | refine ix_sl (by assumption) (by walk_at "hv") ?_) | (guard_target =~ KW.uLen _ _ _ _; first | refine len_l (by walk_at "hp") ?_ | refine len_t (by walk_at "hp") ?_ | refine len_sl (by assumption) ?_) | (guard_target =~ KW.uSet _ _ _ _ _; first | refine set_l (by walk_at "hp") (by first | walk_at "hv" | rfl) ?_) | (guard_target =~ L2.gTup _ _ _ _ _ _ _; first | refine tup_l (by walk_at "hp") (by rfl) ?_) | (guard_target =~ KW.uGet _ _ _ _ _; first | refine get_l (by walk_at "hp") (by walk_at "hc") (by decide) (by rfl) ?_) | (guard_target =~ KW.uPut _ _ _ _ _ _; first | refine put_l (by walk_at "hp") (by walk_at "hc") (by decide) (by simp) ?_) | (guard_target =~ KW.uMet.uMt _ _ _ _ _ _ _ _ _; first | refine met_l (by walk_at "hp") (by rfl) ?_) | (guard_target =~ KW.uMet.uMt _ _ _ _ _ _ _ _ _; first | refine ST.met_s (by assumption) (by decide) ?_) | (guard_target =~ ST.spExists _ _ _ _ _; first | refine ST.exists_s (by assumption) ?_) | (guard_target =~ ST.spUsed _ _ _ _ _; first | refine ST.used_s (by assumption) ?_) | (guard_target =~ KW.uGet _ _ _ _ _; first | refine ST.words_s (by assumption) (by walk_at "hc") (by decide) ?_) | (guard_target =~ KW.uDIn _ _ _ _; first | refine din_i (by walk_at "hp") ?_ | refine din_s (by walk_at "hp") ?_) | (guard_target =~ KW.uDGet _ _ _ _; first | refine dget_i (by walk_at "hp") (by walk_at "hv") ?_ | refine dget_s (by walk_at "hp") (by walk_at "hv") ?_) | (guard_target =~ KW.uDPut _ _ _ _ _; first | refine dput_i (by walk_at "hp") (by walk_at "sc") ?_ | refine dput_s (by walk_at "hp") (by walk_at "sc") ?_) | (guard_target =~ KW.uDDel _ _ _ _; first | refine ddel_i (by walk_at "hp") (by walk_at "hv") ?_ | refine ddel_s (by walk_at "hp") (by walk_at "hv") ?_) | (guard_target =~ KW.uMul2 _ _ _ _; first | refine rep_l (by walk_at "hp") (by walk_at "sc") (by walk_at "sc") (by walk_at "sc") ?_) | (guard_target =~ L2.rAppend _ _ _ _; first | refine app_l (by walk_at "hp") (by walk_at "sc") ?_) | (guard_target =~ L2.rPop _ _ _ _; first | refine pop_l (by walk_at "hp") (by walk_at "hv") ?_ | refine pops_l (by walk_at "hp") ?_) | (guard_target =~ L2.rClear _ _ _ _; first | refine clr_l (by walk_at "hp") ?_) | (guard_target =~ L2.rReverse _ _ _ _; first | refine rev_l (by walk_at "hp") ?_) | (guard_target =~ L2.rExtend _ _ _ _; first | refine ext_l (by walk_at "hp") (by walk_at "hp") (by walk_at "sc") ?_) | (guard_target =~ KW.uAdd _ _ _ _ _; first | refine ucat_l (by walk_at "hp") (by walk_at "hp") (by walk_at "sc") ?_) | (guard_target =~ KW.uSl _ _ _ _ _ _; first | refine usl_l (by walk_at "hp") ?_) | (guard_target =~ KW.uTru _ _ _ _; first | refine tru_l (by walk_at "hp") ?_ | refine tru_t (by walk_at "hp") ?_ | refine tru_d (by walk_at "hp") ?_ | refine tru_sl (by assumption) ?_) | (guard_target =~ L2.rIndex _ _ _ _ _; first | refine idx_s (by walk_at "hp") (by assumption) ?_ | refine idx_i (by walk_at "hp") (by assumption) ?_) | (guard_target =~ L2.rIn _ _ _ _ _ _; first | refine in_s (by walk_at "hp") ?_ | refine nin_s (by walk_at "hp") ?_ | refine in_i (by walk_at "hp") ?_ | refine nin_i (by walk_at "hp") ?_) | (guard_target =~ KW.uIsi _ _ _ _; first | refine isi_l (by walk_at "hp") (by decide +kernel) ?_ | refine isi_t (by walk_at "hp") (by decide +kernel) ?_ | refine isi_d (by walk_at "hp") (by decide +kernel) ?_) | (guard_target =~ KW.uList _ _ _ _; first | refine list_l (by walk_at "hp") ?_ | refine list_t (by walk_at "hp") ?_ | refine list_sl (by assumption) ?_) | (guard_target =~ KW.uDict _ _ _; first | refine dict_d (by walk_at "hp") ?_) | (guard_target =~ KW.uSorted _ _ _ _; first | refine srt_l (by walk_at "hp") ?_) | (guard_target =~ KW.uSum _ _ _ _; first | refine sum_l (by walk_at "hp") ?_) | (guard_target =~ KW.uDelC _ _ _ _; first | refine dels_l (by walk_at "hp") (by walk_at "sc") ?_) | (guard_target =~ L2.wAs _ _ _ _ _ _ _ _ _ _; first | refine as_yes (by walk_at "hx") ?_ | refine as_no (by walk_at "hx") ?_) | (guard_target =~ KW.uEf _ _ _ _ _ _ _ _ _; first | refine ef_l (by walk_at "he") (by decide) (by rfl) (by walk_at "hp") (by rfl) ?_) | (guard_target =~ KW.uIsE _ _ _ _ _ _ _; first | refine isE_r (by walk_at "he") (by walk_at "hp") (by walk_at "hk") ?_ | refine isE_t (by walk_at "he") (by walk_at "hp") (by walk_at "hk") ?_))
local macro_rules | `(tactic| walk_at "hv") => `(tactic| first | assumption)
local macro_rules | `(tactic| walk_at "kk") => `(tactic| repeat (first | walk_at "kw" | walk_at "kr"))
local macro_rules | `(tactic| walk_at "hc") => `(tactic| first | exact K17.Txt.c_Draft (by assumption) | exact K17.Txt.c_Coder (by assumption))
local macro_rules | `(tactic| walk_at "he") => `(tactic| first | exact K17.Txt.e_Oversized (by assumption) | exact K17.Txt.e_Unknown (by assumption) | exact K17.Txt.e_Twice (by assumption) | exact K17.Txt.e_Fixed (by assumption))
local macro_rules | `(tactic| walk_at "hx") => `(tactic| first | exact K17.Txt.x_Oversized_Oversized (by assumption) | exact K17.Txt.x_Oversized_Twice (by assumption) | exact K17.Txt.x_Unknown_Oversized (by assumption) | exact K17.Txt.x_Unknown_Twice (by assumption) | exact K17.Txt.x_Twice_Oversized (by assumption) | exact K17.Txt.x_Twice_Twice (by assumption) | exact K17.Txt.x_Fixed_Oversized (by assumption) | exact K17.Txt.x_Fixed_Twice (by assumption))
local macro_rules | `(tactic| walk_at "hk") => `(tactic| first | fail)

def pushL : List Str := [S [108, 111, 99, 97, 108], S [111, 117, 116, 101, 114], S [102, 105, 101, 108, 100], S str_4, S [103, 108, 111, 98, 97, 108], S [115, 101, 108, 102], S [110, 105, 108], S [116, 114, 117, 101], S [102, 97, 108, 115, 101], S [98, 108, 111, 99, 107], S [100, 117, 112]]
def sendL : List Str := [S [115, 101, 110, 100], S str_13]
def endL : List Str := [S [114, 101, 116, 117, 114, 110], S [108, 101, 97, 118, 101]]
def downL : List Str := [S [112, 111, 112], S str_17, S [114, 101, 116, 117, 114, 110], S [108, 101, 97, 118, 101]]
def chg (op : Str) (arg : Int) : Int := if op ∈ pushL then 1 else if op ∈ sendL then -(arg % 16) else if op ∈ downL then -1 else 0
def nxt (op : Str) (arg at_ : Int) : List Int := if op = S [106, 117, 109, 112] then [arg] else if op = S str_17 then [at_ + 1, arg] else if op ∈ endL then [] else [at_ + 1]
def spChgOf : Sp := fun vs H Q _ => ∃ (op : Str) (arg : Int), vs = [.str op, .int arg] ∧ ∀ H', KW.Fr [] H H' → Q (.int (chg op arg)) H'
def spBehind : Sp := fun vs H Q _ => ∃ (op : Str) (arg at_ : Int), vs = [.str op, .int arg, .int at_] ∧ ∀ l H', H l = none → IL H' l (nxt op arg at_) → KW.Fr [] H H' → Q (.ref l) H'
section
variable {P : Program} {w : World} {K : Frag} {mg : Str → Option Value} {base : Heap} {a : Ads}
theorem in_tl {H : Hp} {l : Addr} {x : Str} {xs : List Str} {Q : VK} (h : H l = some (.tup (xs.map V.str))) (q : Q (.bl (decide (x ∈ xs))) H) : rIn K false (.str x) (.ref l) H Q := in_gt (.inl (.of h)) q
theorem ok_change_of (T : Txt P w K mg a) : Cal P w K mg base 1 "change_of" spChgOf := by
  refine T.d_change_of.ok sc_change_of (fun vs H Q E h => ?_) (fun f cdv A outer s H vs Q E hr h => ⟨_, (C8.pss_cut (ps_if (pt_cmpR o_in (kv 0) (pe_glob (v := .ref a.t_PUSHING) (by rfl) T.gt_PUSHING.g rfl) (by rfl))
      (pss_one (ps_ret pe_int))
      pss_nil)
      (C8.pss_cut (ps_if (pt_cmpR o_in (kv 0) (pe_glob (v := .ref a.t_SENDING) (by rfl) T.gt_SENDING.g rfl) (by rfl))
      (pss_one (ps_ret (pe_un o_neg (pe_op o_mod (kv 1) pe_int))))
      pss_nil)
      (C8.pss_cut (ps_if (pt_cmpR o_in (kv 0) (pe_tup (pa_cons pe_str (pa_cons pe_str (pa_cons pe_str (pa_cons pe_str pa_nil))))) (by rfl))
      (pss_one (ps_ret (pe_un o_neg pe_int)))
      pss_nil)
      (pss_one (ps_ret pe_int))))), ?_⟩)
  · obtain ⟨_, _, rfl, _⟩ := h; rfl
  · obtain ⟨op, arg, rfl, h⟩ := h
    have h1 : ∀ H, SqT K H a.t_PUSHING (pushL.map V.str) := T.gt_PUSHING.sq
    have h2 : ∀ H, SqT K H a.t_SENDING (sendL.map V.str) := T.gt_SENDING.sq
    refine ⟨fun σ H' => σ = [some (.str op), some (.int arg)] ∧ H' = H ∧ op ∉ pushL, ?_, ?_⟩
    · walk_at "kk"
      refine in_gt (h1 _) ?_
      walk_at "kk"
      split
      · rename_i c
        have := h H (Fr.refl _)
        unfold chg at this
        rwa [if_pos c] at this
      · assumption
    rintro σ H1 ⟨rfl, rfl, c1⟩
    refine ⟨fun σ H' => σ = [some (.str op), some (.int arg)] ∧ H' = H1 ∧ op ∉ sendL, ?_, ?_⟩
    · walk_at "kk"
      refine in_gt (h2 _) ?_
      walk_at "kk"
      split
      · rename_i c
        have := h H1 (Fr.refl _)
        unfold chg at this
        rwa [if_neg c1, if_pos c] at this
      · assumption
    rintro σ H2 ⟨rfl, rfl, c2⟩
    refine ⟨fun σ H' => σ = [some (.str op), some (.int arg)] ∧ KW.Fr [] H2 H' ∧ op ∉ downL, ?_, ?_⟩
    · walk_at "kk"
      intro p hp
      refine in_tl (xs := downL) upd_same ?_
      walk_at "kk"
      split
      · rename_i c
        have := h (upd H2 p (.tup (downL.map V.str))) (Fr.new hp)
        unfold chg at this
        rwa [if_neg c1, if_neg c2, if_pos c] at this
      · exact ⟨Fr.new hp, by assumption⟩
    rintro σ H3 ⟨rfl, f3, c3⟩
    walk_at "kk"
    have := h H3 f3
    unfold chg at this
    rwa [if_neg c1, if_neg c2, if_neg c3] at this
theorem ok_places_behind (T : Txt P w K mg a) : Cal P w K mg base 1 "places_behind" spBehind := by
  refine T.d_places_behind.ok sc_places_behind (fun vs H Q E h => ?_) (fun f cdv A outer s H vs Q E hr h => ⟨_, (C8.pss_cut (ps_if (pt_cmpR (o_eq hr.units) (kv 0) pe_str (nomark _))
      (pss_one (ps_ret (pe_lst (pa_cons (kv 1) pa_nil))))
      pss_nil)
      (C8.pss_cut (ps_if (pt_cmpR (o_eq hr.units) (kv 0) pe_str (nomark _))
      (pss_one (ps_ret (pe_lst (pa_cons (pe_op o_add (kv 2) pe_int) (pa_cons (kv 1) pa_nil)))))
      pss_nil)
      (C8.pss_cut (ps_if (pt_cmpR o_in (kv 0) (pe_glob (v := .ref a.t_ENDING) (by rfl) T.gt_ENDING.g rfl) (by rfl))
      (pss_one (ps_ret (pe_lst pa_nil)))
      pss_nil)
      (pss_one (ps_ret (pe_lst (pa_cons (pe_op o_add (kv 2) pe_int) pa_nil))))))), ?_⟩)
  · obtain ⟨_, _, _, rfl, _⟩ := h; rfl
  · obtain ⟨op, arg, at_, rfl, h⟩ := h
    have h1 : ∀ H, SqT K H a.t_ENDING (endL.map V.str) := T.gt_ENDING.sq
    have key : ∀ l H' xs, H l = none → IL H' l xs → KW.Fr [] H H' → xs = nxt op arg at_ → Q (.ref l) H' := fun l H' xs h1 h2 h3 h4 => h l H' h1 (by rw [← h4]; exact h2) h3
    refine ⟨fun σ H' => σ = [some (.str op), some (.int arg), some (.int at_)] ∧ H' = H ∧ op ≠ S [106, 117, 109, 112], ?_, ?_⟩
    · walk_at "kk"
      split
      · rename_i c
        walk_at "kk"
        intro p hp
        exact key p _ [arg] hp upd_same (Fr.new hp) (by unfold nxt; rw [if_pos c])
      · assumption
    rintro σ H1 ⟨rfl, rfl, c1⟩
    refine ⟨fun σ H' => σ = [some (.str op), some (.int arg), some (.int at_)] ∧ H' = H1 ∧ op ≠ S str_17, ?_, ?_⟩
    · walk_at "kk"
      split
      · rename_i c
        walk_at "kk"
        intro p hp
        exact key p _ [at_ + 1, arg] hp upd_same (Fr.new hp) (by unfold nxt; rw [if_neg c1, if_pos c])
      · assumption
    rintro σ H2 ⟨rfl, rfl, c2⟩
    refine ⟨fun σ H' => σ = [some (.str op), some (.int arg), some (.int at_)] ∧ H' = H2 ∧ op ∉ endL, ?_, ?_⟩
    · walk_at "kk"
      refine in_gt (h1 _) ?_
      walk_at "kk"
      split
      · rename_i c
        walk_at "kk"
        intro p hp
        exact key p _ [] hp upd_same (Fr.new hp) (by unfold nxt; rw [if_neg c1, if_neg c2, if_pos c])
      · assumption
    rintro σ H3 ⟨rfl, rfl, c3⟩
    walk_at "kk"
    intro p hp
    exact key p _ [at_ + 1] hp upd_same (Fr.new hp) (by unfold nxt; rw [if_neg c1, if_neg c2, if_neg c3])
theorem ok__law_cell (T : Txt P w K mg a) : Cal P w K mg base 1 "_law_cell" (fun vs H Q _ => ∃ (sc : Addr) (ns : List Int) (k : Nat), vs = [.ref sc, .int k] ∧ SqL K H sc (ns.map V.int) ∧ ∀ v, Q (.int v) H) := by
  refine T.d__law_cell.ok sc__law_cell (fun vs H Q E h => ?_) (fun f cdv A outer s H vs Q E hr h => ⟨_, (pss_cons (ps_if (pt_cmpR o_lt (kv 1) (pe_callB c_len (by rfl) T.n_len (by decide +kernel) (pa_cons (kv 0) pa_nil)) (nomark _))
      (pss_one (ps_ret (pe_callTy c_int (by rfl) T.n_int (by decide +kernel) (pa_cons (pe_ix o_ix (kv 0) (kv 1) (fun _ _ => rfl)) pa_nil))))
      pss_nil)
      (pss_one (ps_ret pe_int))), ?_⟩)
  · obtain ⟨_, _, _, rfl, _⟩ := h; rfl
  · obtain ⟨sc, ns, k, rfl, hs, h⟩ := h
    walk_at "kk"
    split
    · rename_i c
      obtain ⟨v, hv⟩ : ∃ v, ns[k]? = some v := ⟨_, List.getElem?_eq_getElem (by omega)⟩
      have av : atI (ns.map V.int) (k : Int) = some (.int v) := atI_map hv
      walk_at "kk"
      exact h v
    · exact h 0
/-- the fields of a Coder -/
def cdO (C dx fl gk co li sc : Addr) : HO := .ins C dx [("fields", .ref fl), ("globals_known", .ref gk), ("code", .ref co), ("literals", .ref li), ("scopes", .ref sc)]
theorem ok_Coder_init (T : Txt P w K mg a) : CalI P w K mg base 1 "Coder" a.Coder [] (fun vs H Q _ => ∃ (cd dx f0 g0 : Addr), vs = [.ref cd, .ref f0, .ref g0] ∧ H cd = some (.ins a.Coder dx []) ∧ H f0 = some (.lst []) ∧ H g0 = some (.lst []) ∧
    ∀ fl gk co li sc H', H' cd = some (cdO a.Coder dx fl gk co li sc) → H' co = some (.lst []) → H' li = some (.lst []) → H' sc = some (.lst []) → co ≠ li → co ≠ sc → li ≠ sc → H co = none → H li = none → H sc = none → KW.Fr [cd] H H' → Q .non H') := by
  refine T.ini_Coder.ok T.c_Coder.gC sc_Coder_init (fun vs H Q E h => ?_) (fun f cdv A outer s H vs Q E hr h => ⟨_, (pss_cons (k_sfld (kv 0) (pe_callTy c_list (by rfl) T.n_list (by decide +kernel) (pa_cons (kv 1) pa_nil)) rfl)
      (pss_cons (k_sfld (kv 0) (pe_callTy c_list (by rfl) T.n_list (by decide +kernel) (pa_cons (kv 2) pa_nil)) rfl)
      (pss_cons (k_sfld (kv 0) (pe_lst pa_nil) rfl)
      (pss_cons (k_sfld (kv 0) (pe_lst pa_nil) rfl)
      (pss_one (k_sfld (kv 0) (pe_lst pa_nil) rfl)))))), ?_⟩)
  · obtain ⟨_, _, _, _, rfl, _⟩ := h; rfl
  · obtain ⟨cd, dx, f0, g0, rfl, hc, hf, hg, h⟩ := h
    walk_at "kk"
    have nn : ∀ {H1 : Hp} {x : Addr} {o : HO}, KW.Fr [cd] H H1 → H1 cd = some o → H1 x = none → H x = none := fun {H1 x o} f e z => by
      cases q : H x with
      | none => rfl
      | some o' =>
        by_cases c : x = cd
        · rw [c, e] at z; cases z
        · have := f x o' (by simp [c]) q; rw [z] at this; cases this
    have st : ∀ {H1 : Hp} {x : Addr} {o o' : HO}, KW.Fr [cd] H H1 → H1 x = none → KW.Fr [cd] H (upd (upd H1 x o) cd o') := fun {H1 x o o'} f z => (f.trans (Fr.new z)).trans (Fr.upd (by simp))
    intro fl hfl
    have n1 : fl ≠ cd := by walk_at "ne"
    have n2 : fl ≠ g0 := (ne_of_none hg hfl).symm
    have n3 : g0 ≠ cd := fun z => by rw [z, hc] at hg; cases hg
    walk_at "kk"
    have f1 := st (o := .lst []) (o' := .ins a.Coder dx [("fields", .ref fl)]) (Fr.refl H) hfl
    have e1 : upd (upd H fl (.lst [])) cd (.ins a.Coder dx [("fields", .ref fl)]) cd = some (.ins a.Coder dx [("fields", .ref fl)]) := upd_same
    revert f1 e1
    generalize upd (upd H fl (.lst [])) cd (.ins a.Coder dx [("fields", .ref fl)]) = H1
    intro f1 e1 gk hgk
    have n4 : gk ≠ cd := (ne_of_none e1 hgk).symm
    walk_at "kk"
    have f2 := st (o := .lst []) (o' := .ins a.Coder dx [("fields", .ref fl), ("globals_known", .ref gk)]) f1 hgk
    have e2 : upd (upd H1 gk (.lst [])) cd (.ins a.Coder dx [("fields", .ref fl), ("globals_known", .ref gk)]) cd = some (.ins a.Coder dx [("fields", .ref fl), ("globals_known", .ref gk)]) := upd_same
    revert f2 e2
    generalize upd (upd H1 gk (.lst [])) cd (.ins a.Coder dx [("fields", .ref fl), ("globals_known", .ref gk)]) = H2
    intro f2 e2 co hco
    have n5 : co ≠ cd := (ne_of_none e2 hco).symm
    have b1 := nn f2 e2 hco
    walk_at "kk"
    have f3 := st (o := .lst []) (o' := .ins a.Coder dx [("fields", .ref fl), ("globals_known", .ref gk), ("code", .ref co)]) f2 hco
    have e3 : upd (upd H2 co (.lst [])) cd (.ins a.Coder dx [("fields", .ref fl), ("globals_known", .ref gk), ("code", .ref co)]) cd = some (.ins a.Coder dx [("fields", .ref fl), ("globals_known", .ref gk), ("code", .ref co)]) := upd_same
    have g3 : upd (upd H2 co (.lst [])) cd (.ins a.Coder dx [("fields", .ref fl), ("globals_known", .ref gk), ("code", .ref co)]) co = some (.lst []) := by rw [upd_ne n5, upd_same]
    revert f3 e3 g3
    generalize upd (upd H2 co (.lst [])) cd (.ins a.Coder dx [("fields", .ref fl), ("globals_known", .ref gk), ("code", .ref co)]) = H3
    intro f3 e3 g3 li hli
    have n6 : li ≠ cd := (ne_of_none e3 hli).symm
    have b2 := nn f3 e3 hli
    have a1 : co ≠ li := ne_of_none g3 hli
    walk_at "kk"
    have f4 := st (o := .lst []) (o' := .ins a.Coder dx [("fields", .ref fl), ("globals_known", .ref gk), ("code", .ref co), ("literals", .ref li)]) f3 hli
    have e4 : upd (upd H3 li (.lst [])) cd (.ins a.Coder dx [("fields", .ref fl), ("globals_known", .ref gk), ("code", .ref co), ("literals", .ref li)]) cd = some (.ins a.Coder dx [("fields", .ref fl), ("globals_known", .ref gk), ("code", .ref co), ("literals", .ref li)]) := upd_same
    have g4 : upd (upd H3 li (.lst [])) cd (.ins a.Coder dx [("fields", .ref fl), ("globals_known", .ref gk), ("code", .ref co), ("literals", .ref li)]) co = some (.lst []) := by rw [upd_ne n5, upd_ne a1]; exact g3
    have k4 : upd (upd H3 li (.lst [])) cd (.ins a.Coder dx [("fields", .ref fl), ("globals_known", .ref gk), ("code", .ref co), ("literals", .ref li)]) li = some (.lst []) := by rw [upd_ne n6, upd_same]
    revert f4 e4 g4 k4
    generalize upd (upd H3 li (.lst [])) cd (.ins a.Coder dx [("fields", .ref fl), ("globals_known", .ref gk), ("code", .ref co), ("literals", .ref li)]) = H4
    intro f4 e4 g4 k4 sc hsc
    have n7 : sc ≠ cd := (ne_of_none e4 hsc).symm
    have b3 := nn f4 e4 hsc
    have a2 : co ≠ sc := ne_of_none g4 hsc
    have a3 : li ≠ sc := ne_of_none k4 hsc
    walk_at "kk"
    exact h fl gk co li sc _ upd_same (by rw [upd_ne n5, upd_ne a2]; exact g4) (by rw [upd_ne n6, upd_ne a3]; exact k4) (by rw [upd_ne n7, upd_same]) a1 a2 a3 b1 b2 b3 (st f4 hsc)
/-- a Coder in the heap -/
structure Cdr (C : Addr) (H : Hp) (cd co li sc : Addr) (code : List (Addr × Str × Int)) (lits : List (Addr × List V)) (scs : List V) : Prop where
  ob : ∃ dx fl gk, H cd = some (cdO C dx fl gk co li sc)
  hc : H co = some (.lst (code.map fun x => .ref x.1))
  it : ∀ x ∈ code, H x.1 = some (.tup [.str x.2.1, .int x.2.2])
  hl : H li = some (.lst (lits.map fun x => .ref x.1))
  lt : ∀ x ∈ lits, H x.1 = some (.tup x.2)
  hs : H sc = some (.lst scs)
  n1 : co ≠ li
  n2 : co ≠ sc
  n3 : li ≠ sc
theorem Cdr.fr0 {C : Addr} {H H' : Hp} {cd co li sc : Addr} {code : List (Addr × Str × Int)} {lits : List (Addr × List V)} {scs : List V} (D : Cdr C H cd co li sc code lits scs) (f : KW.Fr [] H H') : Cdr C H' cd co li sc code lits scs := by
  obtain ⟨⟨dx, fl, gk, ob⟩, hc, it, hl, lt, hs, n1, n2, n3⟩ := D
  exact ⟨⟨dx, fl, gk, f _ _ (by simp) ob⟩, f _ _ (by simp) hc, fun x h => f _ _ (by simp) (it x h), f _ _ (by simp) hl, fun x h => f _ _ (by simp) (lt x h), f _ _ (by simp) hs, n1, n2, n3⟩
def spEmit (C : Addr) : Sp := fun vs H Q _ => ∃ (cd co li sc : Addr) (code : List (Addr × Str × Int)) (lits : List (Addr × List V)) (scs : List V) (op : Str) (arg : Int), vs = [.ref cd, .str op, .int arg] ∧ Cdr C H cd co li sc code lits scs ∧ code.length ≤ 1000 ∧
  ∀ t H', H t = none → Cdr C H' cd co li sc (code ++ [(t, op, arg)]) lits scs → KW.Fr [co] H H' → Q (.int code.length) H'
theorem ok_Coder_emit (T : Txt P w K mg a) : CalMD P w K mg base 1 a.Coder "emit" [.int 0] (spEmit a.Coder) := by
  refine T.m_Coder_emit.ok T.c_Coder.cls sc_Coder_emit (fun vs H Q E h => ?_) (fun f cdv A outer s H vs Q E hr h => ⟨_, (pss_cons (ps_expr (pe_bm PySem.F.plainAttrs_list PySem.F.slot_list_append PySem.F.type_list_append mt_append (k_fld (kv 0) rfl) (pa_cons (pe_tup (pa_cons (kv 1) (pa_cons (kv 2) pa_nil))) pa_nil)))
      (pss_one (ps_ret (pe_op o_sub (pe_callB c_len (by rfl) T.n_len (by decide +kernel) (pa_cons (k_fld (kv 0) rfl) pa_nil)) pe_int)))), ?_⟩)
  · obtain ⟨_, _, _, _, _, _, _, _, _, rfl, _⟩ := h; rfl
  · obtain ⟨cd, co, li, sc, code, lits, scs, op, arg, rfl, D, hz, h⟩ := h
    obtain ⟨⟨dx, fl, gk, ob⟩, hc, it, hl, lt, hs, n1, n2, n3⟩ := id D
    unfold cdO at ob
    walk_at "kk"
    intro t ht
    have nt : t ≠ co := (ne_of_none hc ht).symm
    have D1 := D.fr0 (Fr.new (o := .tup [.str op, .int arg]) ht)
    have g1 : upd H t (.tup [.str op, .int arg]) t = some (.tup [.str op, .int arg]) := upd_same
    have f1 : KW.Fr [co] H (upd H t (.tup [.str op, .int arg])) := Fr.new ht
    revert D1 g1 f1
    generalize upd H t (.tup [.str op, .int arg]) = H1
    intro D1 g1 f1
    obtain ⟨⟨dx1, fl1, gk1, ob1⟩, hc1, it1, hl1, lt1, hs1, -, -, -⟩ := id D1
    have nco : co ≠ cd := fun z => by rw [z, ob1] at hc1; cases hc1
    unfold cdO at ob1
    refine app_l hc1 (lt_line (by rw [List.length_map]; omega)) ?_
    have D2 : Cdr a.Coder (upd H1 co (.lst ((code ++ [(t, op, arg)]).map fun x => V.ref x.1))) cd co li sc (code ++ [(t, op, arg)]) lits scs := by
      refine ⟨⟨dx1, fl1, gk1, by rw [upd_ne (Ne.symm nco)]; exact ob1⟩, upd_same, fun x hx => ?_, by rw [upd_ne (Ne.symm n1)]; exact hl1, fun x hx => ?_, by rw [upd_ne (Ne.symm n2)]; exact hs1, n1, n2, n3⟩
      · have e : H1 x.1 = some (.tup [.str x.2.1, .int x.2.2]) := by
          rcases List.mem_append.mp hx with q | q
          · exact it1 x q
          · rw [List.mem_singleton] at q; rw [q]; exact g1
        rw [upd_ne (fun z => by rw [z, hc1] at e; cases e)]; exact e
      · have e := lt1 x hx
        rw [upd_ne (fun z => by rw [z, hc1] at e; cases e)]; exact e
    rw [List.map_append, List.map_cons, List.map_nil] at D2
    have ob2 := D2.ob
    have hd2 := D2.hc
    have fin := h t _ ht D2 (f1.trans (Fr.upd (by simp)))
    revert ob2 hd2 fin
    generalize upd H1 co (.lst ((code.map fun x => V.ref x.1) ++ [V.ref (t, op, arg).1])) = H2
    rintro ⟨dx2, fl2, gk2, ob2⟩ hd2 fin
    unfold cdO at ob2
    walk_at "kk"
    rw [show ((code.length + 1 : Nat) : Int) - 1 = code.length by omega]
    exact fin
theorem ok_Coder_here (T : Txt P w K mg a) : CalM P w K mg base 1 a.Coder "here" (fun vs H Q _ => ∃ (cd co li sc : Addr) (code : List (Addr × Str × Int)) (lits : List (Addr × List V)) (scs : List V), vs = [.ref cd] ∧ Cdr a.Coder H cd co li sc code lits scs ∧ Q (.int code.length) H) := by
  refine T.m_Coder_here.ok T.c_Coder.cls sc_Coder_here (fun vs H Q E h => ?_) (fun f cdv A outer s H vs Q E hr h => ⟨_, (pss_one (ps_ret (pe_callB c_len (by rfl) T.n_len (by decide +kernel) (pa_cons (k_fld (kv 0) rfl) pa_nil)))), ?_⟩)
  · obtain ⟨_, _, _, _, _, _, _, rfl, _⟩ := h; rfl
  · obtain ⟨cd, co, li, sc, code, lits, scs, rfl, D, h⟩ := h
    obtain ⟨⟨dx, fl, gk, ob⟩, hc, it, hl, lt, hs, n1, n2, n3⟩ := id D
    unfold cdO at ob
    walk_at "kk"
    exact h
def spAim (C : Addr) : Sp := fun vs H Q _ => ∃ (cd co li sc : Addr) (code : List (Addr × Str × Int)) (lits : List (Addr × List V)) (scs : List V) (p : Nat) (x : Addr × Str × Int), vs = [.ref cd, .int p] ∧ Cdr C H cd co li sc code lits scs ∧ code.length ≤ 1000 ∧ code[p]? = some x ∧
  ∀ t H', H t = none → Cdr C H' cd co li sc (code.set p (t, x.2.1, (code.length : Int))) lits scs → KW.Fr [co] H H' → Q .non H'
theorem ok_Coder_aim (T : Txt P w K mg a) : CalM P w K mg base 2 a.Coder "aim" (spAim a.Coder) := by
  have M_Coder_here := ok_Coder_here (P := P) (w := w) (base := base) T
  refine T.m_Coder_aim.ok T.c_Coder.cls sc_Coder_aim (fun vs H Q E h => ?_) (fun f cdv A outer s H vs Q E hr h => ⟨_, (pss_one (ps_asg (pe_tup (pa_cons (pe_ix o_ix (pe_ix o_ix (k_fld (kv 0) rfl) (kv 1) (fun _ _ => rfl)) pe_int (fun _ _ => rfl)) (pa_cons (km0 M_Coder_here (hr.mono (by decide)) (kv 0)) pa_nil))) (pg_sub (k_fld (kv 0) rfl) (kv 1) s_set))), ?_⟩)
  · obtain ⟨_, _, _, _, _, _, _, _, _, rfl, _⟩ := h; rfl
  · obtain ⟨cd, co, li, sc, code, lits, scs, p, x, rfl, D, hz, hx, h⟩ := h
    obtain ⟨⟨dx, fl, gk, ob⟩, hc, it, hl, lt, hs, n1, n2, n3⟩ := id D
    unfold cdO at ob
    have ai : atI (code.map fun x => V.ref x.1) (p : Int) = some (.ref x.1) := atI_map hx
    have hx1 := it x (List.mem_of_getElem? hx)
    walk_at "kk"
    refine ⟨co, li, sc, code, ⟨lits, scs, D⟩, by decide, fun t ht => ?_⟩
    have D1 := D.fr0 (Fr.new (o := .tup [.str x.2.1, .int code.length]) ht)
    have g1 : upd H t (.tup [.str x.2.1, .int code.length]) t = some (.tup [.str x.2.1, .int code.length]) := upd_same
    have f1 : KW.Fr [co] H (upd H t (.tup [.str x.2.1, .int code.length])) := Fr.new ht
    revert D1 g1 f1
    generalize upd H t (.tup [.str x.2.1, .int code.length]) = H1
    intro D1 g1 f1
    obtain ⟨⟨dx1, fl1, gk1, ob1⟩, hc1, it1, hl1, lt1, hs1, -, -, -⟩ := id D1
    have nco : co ≠ cd := fun z => by rw [z, ob1] at hc1; cases hc1
    unfold cdO at ob1
    have hp : p < code.length := (List.getElem?_eq_some_iff.mp hx).1
    have hix : ixN (code.map fun x => V.ref x.1).length (p : Int) = some p := by rw [List.length_map]; unfold ixN; rw [if_pos (by omega), if_pos (by omega)]; rfl
    walk_at "kk"
    have D2 : Cdr a.Coder (upd H1 co (.lst ((code.set p (t, x.2.1, (code.length : Int))).map fun x => V.ref x.1))) cd co li sc (code.set p (t, x.2.1, (code.length : Int))) lits scs := by
      refine ⟨⟨dx1, fl1, gk1, by rw [upd_ne (Ne.symm nco)]; exact ob1⟩, upd_same, fun y hy => ?_, by rw [upd_ne (Ne.symm n1)]; exact hl1, fun y hy => ?_, by rw [upd_ne (Ne.symm n2)]; exact hs1, n1, n2, n3⟩
      · have e : H1 y.1 = some (.tup [.str y.2.1, .int y.2.2]) := by
          rcases List.mem_or_eq_of_mem_set hy with q | q
          · exact it1 y q
          · rw [q]; exact g1
        rw [upd_ne (fun z => by rw [z, hc1] at e; cases e)]; exact e
      · have e := lt1 y hy
        rw [upd_ne (fun z => by rw [z, hc1] at e; cases e)]; exact e
    rw [List.map_set] at D2
    exact h t _ ht D2 (f1.trans (Fr.upd (by simp)))
end
end K17

set_option Elab.async false
set_option linter.all false
set_option maxRecDepth 100000
set_option maxHeartbeats 4000000
namespace K17
open PySem PySem.Spec PyProof.Rows L2 KW
local macro_rules | `(tactic| walk_at "kw") => `(tactic| simp only [tSeq, tNext, tIfS, tTest, tAnd, tOr, tNot, tAndV, tOrV, tNotV, tIf, tChain, tOp, tUn, tC, tAsg, gName, gSub, gCons, gNil, tRet, tRetN, tDrop, tCons, tNil, tCB, tAug, tSl, tPart, tNoPart, tLst, tTup, tBM, tBM0, uTest, uFor, iRng1, iRng2, iList, uCall, List.map_cons, List.map_nil, List.length_cons, List.length_nil, List.cons_append, List.nil_append, List.replicate, Nat.zero_add, Nat.reduceAdd, Nat.reduceSub, List.getElem?_cons_zero, List.getElem?_cons_succ, List.set_cons_zero, List.set_cons_succ, V.bl.injEq, V.int.injEq, V.str.injEq, V.ref.injEq, V.ty.injEq, List.cons.injEq, and_true, true_and, exists_eq_left', exists_eq_right, exists_eq_left, exists_and_left, exists_and_right, decide_eq_true_eq, Bool.not_eq_true', decide_eq_false_iff_not, Bool.false_eq_true, if_true, if_false, ite_true, ite_false, Bool.not_true, Bool.not_false, reduceCtorEq, decide_true, decide_false, Bool.not_not, isK_int_int, isK_int_bool, isK_int_str, isK_int_list, isK_int_tuple, isK_bool_int, isK_bool_bool, isK_bool_str, isK_str_str, isK_str_int, isK_str_bool, isK_str_tuple, isK_str_list, isK_list_list, isK_list_tuple, isK_tuple_tuple, isK_tuple_list, isOk_int_int, isOk_int_bool, isOk_int_str, isOk_int_list, isOk_int_tuple, isOk_bool_int, isOk_bool_bool, isOk_bool_str, isOk_str_str, isOk_str_int, isOk_str_bool, isOk_str_tuple, isOk_str_list, isOk_list_list, isOk_list_tuple, isOk_tuple_tuple, isOk_tuple_list, isK_dict_dict, isOk_dict_dict, isK_none_int, isK_none_bool, isOk_none_int, isOk_none_bool, tyV, S_inj, S_cat, L2.start, Nat.reduceSub, List.replicate_succ, List.replicate_zero, and_assoc, List.append_nil, Nat.reduceEqDiff, Option.some.injEq, Int.natCast_inj, upd_upd, Int.reducePow, Int.reduceToNat, Int.reduceMul, Int.reduceAdd, Int.reduceSub, Int.reduceLT, Int.reduceLE, Int.reduceNeg, Int.reduceDiv, Int.reduceMod, Nat.reducePow, Nat.reduceMul, S_len, List.length_append, List.length_map, List.length_range, not_true_eq_false, not_false_eq_true, ne_eq, uAdd_e1, uAdd_e2, uSub_e1, uMod_e1, uDiv_e1, uPow_e1, uShl_e1, uNeg_e1, uIAdd_e1, uIAdd_e2, uIAdd_e3, uISub_e1, uLt_e1, uLt_e2, uLe_e1, uGt_e1, uGe_e1, uEq_e1, uEq_e2, uEq_e3, uEq_e4, uEq_e5, uEq_e6, uEq_e7, uEq_e8, uEq_e9, uEq_e10, uEq_e11, uNe_e1, uNe_e2, uNe_e3, uNe_e4, uNe_e5, uNe_e6, uNe_e7, uNe_e8, uNe_e9, uNe_e10, uNe_e11, uIs_e1, uIs_e2, uIs_e3, uIs_e4, uIs_e5, uIs_e6, uIs_e7, uNotIs_e1, uNotIs_e2, uNotIs_e3, uNotIs_e4, uNotIs_e5, uNotIs_e6, uIn_e1, uIn_e2, uIn_e3, uIn_e4, uNotIn_e1, uNotIn_e2, uNotIn_e3, uNotIn_e4, uTru_e1, uTru_e2, uTru_e3, uTru_e4, uIx_e2, uSl_e2, uLen_e1, uAbs_e1, uInt_e1, uInt_e2, uMin2_e1, uIsi_e1, uIsi_e2, uIsi_e3, uIsi_e4, cx_K, uVar_0, uVar_n, uFld, uSFld, uMet, uMake, tDG, tDI, tDNI, tDP, tDD, uMk, uRaise, uDelSl, tCallS, L2.WE, uStr_e1, uStr_e2, uMul2_e1, uMul2_e2, okS_i, okS_s, List.zip_cons_cons, List.zip_nil_left, List.drop_zero, List.drop_succ_cons, List.drop_nil, putF_nil, putF_cons, eq_self, tDNewK, tB, Option.isSome_some, Option.isSome_none, false_and, false_or, or_false, exists_false, Int.zero_add, uLc, wipe, tYes, isEmpty_app, List.isEmpty_cons, List.isEmpty_nil, List.isEmpty_map, Bool.and_false, Bool.and_true, iRev, K17.lit_0, K17.lit_1, K17.lit_2, K17.lit_3, K17.lit_4, K17.lit_5, K17.lit_6, K17.lit_7, K17.lit_8, K17.lit_9, K17.lit_10, K17.lit_11, K17.lit_12, K17.lit_13, K17.lit_14, K17.lit_15, K17.lit_16, K17.lit_17, K17.lit_18, K17.lit_19, K17.lit_20, K17.lit_21, K17.lit_23, K17.lit_24, K17.lit_26, K17.lit_27, K17.lit_28, K17.lit_29, K17.lit_30, K17.lit_31, K17.lit_32, K17.lit_33, K17.lit_34, K17.lit_35, K17.lit_36, K17.fe_selector_argc, K17.fe_selector_locals, K17.fe_selector_stack, K17.fe_selector_code, K17.fe_selector_literals, K17.fe_argc_selector, K17.fe_argc_locals, K17.fe_argc_stack, K17.fe_argc_code, K17.fe_argc_literals, K17.fe_locals_selector, K17.fe_locals_argc, K17.fe_locals_stack, K17.fe_locals_code, K17.fe_locals_literals, K17.fe_stack_selector, K17.fe_stack_argc, K17.fe_stack_locals, K17.fe_stack_code, K17.fe_stack_literals, K17.fe_code_selector, K17.fe_code_argc, K17.fe_code_locals, K17.fe_code_stack, K17.fe_code_literals, K17.fe_literals_selector, K17.fe_literals_argc, K17.fe_literals_locals, K17.fe_literals_stack, K17.fe_literals_code, K17.fe_fields_globals_known, K17.fe_fields_code, K17.fe_fields_literals, K17.fe_fields_scopes, K17.fe_globals_known_fields, K17.fe_globals_known_code, K17.fe_globals_known_literals, K17.fe_globals_known_scopes, K17.fe_code_fields, K17.fe_code_globals_known, K17.fe_code_scopes, K17.fe_literals_fields, K17.fe_literals_globals_known, K17.fe_literals_scopes, K17.fe_scopes_fields, K17.fe_scopes_globals_known, K17.fe_scopes_code, K17.fe_scopes_literals, K17.fl_locals_0, K17.lf_locals_0, K17.fl_locals_1, K17.lf_locals_1, K17.fl_locals_2, K17.lf_locals_2, K17.fl_locals_3, K17.lf_locals_3, K17.fl_locals_4, K17.lf_locals_4, K17.fl_locals_5, K17.lf_locals_5, K17.fl_locals_6, K17.lf_locals_6, K17.fl_locals_7, K17.lf_locals_7, K17.fl_locals_8, K17.lf_locals_8, K17.fl_locals_9, K17.lf_locals_9, K17.fl_locals_10, K17.lf_locals_10, K17.fl_locals_11, K17.lf_locals_11, K17.fl_locals_12, K17.lf_locals_12, K17.fl_locals_13, K17.lf_locals_13, K17.fl_locals_14, K17.lf_locals_14, K17.fl_locals_15, K17.lf_locals_15, K17.fl_locals_16, K17.lf_locals_16, K17.fl_locals_17, K17.lf_locals_17, K17.fl_locals_18, K17.lf_locals_18, K17.fl_locals_19, K17.lf_locals_19, K17.fl_locals_20, K17.lf_locals_20, K17.fl_locals_21, K17.lf_locals_21, K17.fl_locals_23, K17.lf_locals_23, K17.fl_locals_24, K17.lf_locals_24, K17.fl_locals_25, K17.lf_locals_25, K17.fl_locals_26, K17.lf_locals_26, K17.fl_locals_27, K17.lf_locals_27, K17.fl_locals_28, K17.lf_locals_28, K17.fl_locals_29, K17.lf_locals_29, K17.fl_locals_30, K17.lf_locals_30, K17.fl_locals_31, K17.lf_locals_31, K17.fl_locals_32, K17.lf_locals_32, K17.fl_locals_33, K17.lf_locals_33, K17.fl_locals_34, K17.lf_locals_34, K17.fl_locals_35, K17.lf_locals_35, K17.fl_locals_36, K17.lf_locals_36, K17.fl_selector_0, K17.lf_selector_0, K17.fl_selector_1, K17.lf_selector_1, K17.fl_selector_2, K17.lf_selector_2, K17.fl_selector_3, K17.lf_selector_3, K17.fl_selector_4, K17.lf_selector_4, K17.fl_selector_5, K17.lf_selector_5, K17.fl_selector_6, K17.lf_selector_6, K17.fl_selector_7, K17.lf_selector_7, K17.fl_selector_8, K17.lf_selector_8, K17.fl_selector_9, K17.lf_selector_9, K17.fl_selector_10, K17.lf_selector_10, K17.fl_selector_11, K17.lf_selector_11, K17.fl_selector_12, K17.lf_selector_12, K17.fl_selector_13, K17.lf_selector_13, K17.fl_selector_14, K17.lf_selector_14, K17.fl_selector_15, K17.lf_selector_15, K17.fl_selector_16, K17.lf_selector_16, K17.fl_selector_17, K17.lf_selector_17, K17.fl_selector_18, K17.lf_selector_18, K17.fl_selector_19, K17.lf_selector_19, K17.fl_selector_20, K17.lf_selector_20, K17.fl_selector_21, K17.lf_selector_21, K17.fl_selector_22, K17.lf_selector_22, K17.fl_selector_23, K17.lf_selector_23, K17.fl_selector_24, K17.lf_selector_24, K17.fl_selector_26, K17.lf_selector_26, K17.fl_selector_27, K17.lf_selector_27, K17.fl_selector_28, K17.lf_selector_28, K17.fl_selector_29, K17.lf_selector_29, K17.fl_selector_30, K17.lf_selector_30, K17.fl_selector_31, K17.lf_selector_31, K17.fl_selector_32, K17.lf_selector_32, K17.fl_selector_33, K17.lf_selector_33, K17.fl_selector_34, K17.lf_selector_34, K17.fl_selector_35, K17.lf_selector_35, K17.fl_selector_36, K17.lf_selector_36, uMetD, uMtD_e, uDict1, uD1_e1, uD1_e2, uMax3_e, uSlA_e1, uSlA_e2, uTuple_e, uLenDk_e, K17.N_change_of, K17.N_places_behind, K17.N_Draft_init, K17.N_Draft_parts, K17.N_Draft___eq__, K17.N_declared, K17.N_is_plain_block, K17.N_is_inlined, K17.N_Coder_init, K17.N_Coder_emit, K17.N_Coder_here, K17.N_Coder_aim, K17.N_Coder_literal, K17.N_Coder_found, K17.N_Coder_name, K17.N_Coder_assign, K17.N_Coder_sequence, K17.N_Coder_inline, K17.N_Coder_choice, K17.N_Coder_loop, K17.N_Coder_message, K17.N_Coder_send, K17.N_Coder_block, K17.N_Coder_expression, K17.N_greatest_height, K17.N_with_stacks, K17.N_compile_method, K17.N__law_cell, K17.N__law_told, K17.N_law])
local macro_rules | `(tactic| walk_at "nn") => `(tactic| first | assumption | exact ne_un (by assumption) | exact ne_un (ne_un (by assumption)) | exact ne_un (ne_un (ne_un (by assumption))) | exact ne_un (ne_un (ne_un (ne_un (by assumption)))))
local macro_rules | `(tactic| walk_at "ne") => `(tactic| first | assumption | (apply Ne.symm; assumption) | exact ne_ud (by assumption) | exact Ne.symm (ne_ud (by assumption)) | exact ne_ud (ne_un (by assumption)) | exact Ne.symm (ne_ud (ne_un (by assumption))) | exact ne_ud (ne_un (ne_un (by assumption))) | exact Ne.symm (ne_ud (ne_un (ne_un (by assumption)))) | exact ne_m (by assumption) (by assumption) | exact Ne.symm (ne_m (by assumption) (by assumption)) | exact ne_n (by assumption) (by walk_at "nn") | exact Ne.symm (ne_n (by assumption) (by walk_at "nn")))
local macro_rules | `(tactic| walk_at "hp") => `(tactic| first | assumption | exact upd_same | (refine Eq.trans (upd_ne ?_) ?_; (focus walk_at "ne"); walk_at "hp"))
local macro_rules | `(tactic| walk_at "sc") => `(tactic| first | (with_reducible assumption) | omega | exact le_line (by (try simp only [List.length_map, List.length_append, List.length_cons, List.length_nil, S_len]); omega) | exact div_s (by omega) | exact mul_r (by omega) | exact mul_l (by omega) | exact pow_s (by omega) | exact mul2_r (by omega) | exact mul2_l (by omega) | exact small4300 (by omega) | exact lt_line (by (try simp only [List.length_map, List.length_append, List.length_cons, List.length_nil, S_len]); omega) | exact ⟨_, by assumption⟩ | (guard_target =~ Exists _; exact ⟨_, .of (by walk_at "hp")⟩) | (guard_target =~ _ ∨ _; exact .inl ⟨_, by assumption⟩) | (guard_target =~ _ ∨ _; exact .inl ⟨_, .of (by walk_at "hp")⟩) | (guard_target =~ _ ∨ _; exact .inr (.inr (.inl ⟨rfl, .inl ⟨_, by walk_at "hp"⟩⟩))) | decide)
local macro_rules | `(tactic| walk_at "kr") => `(tactic| first | (guard_target =~ _ ∧ _; first | refine And.intro (by walk_at "sc") ?_) | (guard_target =~ KW.uIx _ _ _ _ _; first | refine ix_l (by walk_at "hp") (by first | walk_at "hv" | rfl) ?_ | refine ix_t (by walk_at "hp") (by first | walk_at "hv" | rfl) ?_ | refine ix_sl (by assumption) (by walk_at "hv") ?_) | (guard_target =~ KW.uLen _ _ _ _; first | refine len_l (by walk_at "hp") ?_ | refine len_t (by walk_at "hp") ?_ | refine len_sl (by assumption) ?_) | (guard_target =~ KW.uSet _ _ _ _ _; first | refine set_l (by walk_at "hp") (by first | walk_at "hv" | rfl) ?_) | (guard_target =~ L2.gTup _ _ _ _ _ _ _; first | refine tup_l (by walk_at "hp") (by rfl) ?_) | (guard_target =~ KW.uGet _ _ _ _ _; first | refine get_l (by walk_at "hp") (by walk_at "hc") (by decide) (by rfl) ?_) | (guard_target =~ KW.uPut _ _ _ _ _ _; first | refine put_l (by walk_at "hp") (by walk_at "hc") (by decide) (by simp) ?_) | (guard_target =~ KW.uMet.uMt _ _ _ _ _ _ _ _ _; first | refine met_l (by walk_at "hp") (by rfl) ?_) | (guard_target =~ KW.uMet.uMt _ _ _ _ _ _ _ _ _; first | refine ST.met_s (by assumption) (by decide) ?_) | (guard_target =~ ST.spExists _ _ _ _ _; first | refine ST.exists_s (by assumption) ?_) | (guard_target =~ ST.spUsed _ _ _ _ _; first | refine ST.used_s (by assumption) ?_) | (guard_target =~ KW.uGet _ _ _ _ _; first | refine ST.words_s (by assumption) (by walk_at "hc") (by decide) ?_) | (guard_target =~ KW.uDIn _ _ _ _; first | refine din_i (by walk_at "hp") ?_ | refine din_s (by walk_at "hp") ?_) | (guard_target =~ KW.uDGet _ _ _ _; first | refine dget_i (by walk_at "hp") (by walk_at "hv") ?_ | refine dget_s (by walk_at "hp") (by walk_at "hv") ?_) | (guard_target =~ KW.uDPut _ _ _ _ _; first | refine dput_i (by walk_at "hp") (by walk_at "sc") ?_ | refine dput_s (by walk_at "hp") (by walk_at "sc") ?_) | (guard_target =~ KW.uDDel _ _ _ _; first | refine ddel_i (by walk_at "hp") (by walk_at "hv") ?_ | refine ddel_s (by walk_at "hp") (by walk_at "hv") ?_) | (guard_target =~ KW.uMul2 _ _ _ _; first | refine rep_l (by walk_at "hp") (by walk_at "sc") (by walk_at "sc") (by walk_at "sc") ?_) | (guard_target =~ L2.rAppend _ _ _ _; first | refine app_l (by walk_at "hp") (by walk_at "sc") ?_) | (guard_target =~ L2.rPop _ _ _ _; first | refine pop_l (by walk_at "hp") (by walk_at "hv") ?_ | refine pops_l (by walk_at "hp") ?_) | (guard_target =~ L2.rClear _ _ _ _; first | refine clr_l (by walk_at "hp") ?_) | (guard_target =~ L2.rReverse _ _ _ _; first | refine rev_l (by walk_at "hp") ?_) | (guard_target =~ L2.rExtend _ _ _ _; first | refine ext_l (by walk_at "hp") (by walk_at "hp") (by walk_at "sc") ?_) | (guard_target =~ KW.uAdd _ _ _ _ _; first | refine ucat_l (by walk_at "hp") (by walk_at "hp") (by walk_at "sc") ?_) | (guard_target =~ KW.uSl _ _ _ _ _ _; first | refine usl_l (by walk_at "hp") ?_) | (guard_target =~ KW.uTru _ _ _ _; first | refine tru_l (by walk_at "hp") ?_ | refine tru_t (by walk_at "hp") ?_ | refine tru_d (by walk_at "hp") ?_ | refine tru_sl (by assumption) ?_) | (guard_target =~ L2.rIndex _ _ _ _ _; first | refine idx_s (by walk_at "hp") (by assumption) ?_ | refine idx_i (by walk_at "hp") (by assumption) ?_) | (guard_target =~ L2.rIn _ _ _ _ _ _; first | refine in_s (by walk_at "hp") ?_ | refine nin_s (by walk_at "hp") ?_ | refine in_i (by walk_at "hp") ?_ | refine nin_i (by walk_at "hp") ?_) | (guard_target =~ KW.uIsi _ _ _ _; first | refine isi_l (by walk_at "hp") (by decide +kernel) ?_ | refine isi_t (by walk_at "hp") (by decide +kernel) ?_ | refine isi_d (by walk_at "hp") (by decide +kernel) ?_) | (guard_target =~ KW.uList _ _ _ _; first | refine list_l (by walk_at "hp") ?_ | refine list_t (by walk_at "hp") ?_ | refine list_sl (by assumption) ?_) | (guard_target =~ KW.uDict _ _ _; first | refine dict_d (by walk_at "hp") ?_) | (guard_target =~ KW.uSorted _ _ _ _; first | refine srt_l (by walk_at "hp") ?_) | (guard_target =~ KW.uSum _ _ _ _; first | refine sum_l (by walk_at "hp") ?_) | (guard_target =~ KW.uDelC _ _ _ _; first | refine dels_l (by walk_at "hp") (by walk_at "sc") ?_) | (guard_target =~ L2.wAs _ _ _ _ _ _ _ _ _ _; first | refine as_yes (by walk_at "hx") ?_ | refine as_no (by walk_at "hx") ?_) | (guard_target =~ KW.uEf _ _ _ _ _ _ _ _ _; first | refine ef_l (by walk_at "he") (by decide) (by rfl) (by walk_at "hp") (by rfl) ?_) | (guard_target =~ KW.uIsE _ _ _ _ _ _ _; first | refine isE_r (by walk_at "he") (by walk_at "hp") (by walk_at "hk") ?_ | refine isE_t (by walk_at "he") (by walk_at "hp") (by walk_at "hk") ?_))
local macro_rules | `(tactic| walk_at "hv") => `(tactic| first | assumption)
local macro_rules | `(tactic| walk_at "kk") => `(tactic| repeat (first | walk_at "kw" | walk_at "kr"))
local macro_rules | `(tactic| walk_at "hc") => `(tactic| first | exact K17.Txt.c_Draft (by assumption) | exact K17.Txt.c_Coder (by assumption))
local macro_rules | `(tactic| walk_at "he") => `(tactic| first | exact K17.Txt.e_Oversized (by assumption) | exact K17.Txt.e_Unknown (by assumption) | exact K17.Txt.e_Twice (by assumption) | exact K17.Txt.e_Fixed (by assumption))
local macro_rules | `(tactic| walk_at "hx") => `(tactic| first | exact K17.Txt.x_Oversized_Oversized (by assumption) | exact K17.Txt.x_Oversized_Twice (by assumption) | exact K17.Txt.x_Unknown_Oversized (by assumption) | exact K17.Txt.x_Unknown_Twice (by assumption) | exact K17.Txt.x_Twice_Oversized (by assumption) | exact K17.Txt.x_Twice_Twice (by assumption) | exact K17.Txt.x_Fixed_Oversized (by assumption) | exact K17.Txt.x_Fixed_Twice (by assumption))
local macro_rules | `(tactic| walk_at "hk") => `(tactic| first | fail)

abbrev NL := List (Str × Int)
def nms (L : NL) : List Str := L.map (·.1)
/-- the first name that stands there already -/
def FD (L : NL) (k : Nat) (x : Str × Int) : Prop := L[k]? = some x ∧ x.1 ∈ nms (L.take k) ∧ (nms (L.take k)).Nodup
/-- what making names lets out -/
def ErrP (TW OV : Addr) (H : Hp) (E : XK) (L : NL) : Prop :=
  (∀ k x, FD L k x → ∀ H' d, KW.Fr [] H H' → H' d = none → E (.ref TW) (some d) (upd H' d (.xd [("name", .str x.1), ("at", .int x.2)]))) ∧
  ((nms L).Nodup → 255 < L.length → ∀ H' d, KW.Fr [] H H' → H' d = none → E (.ref OV) (some d) (upd H' d (.xd [("limit", .str "locals")])))
theorem ErrP.mono {TW OV : Addr} {H H1 : Hp} {E : XK} {L : NL} (h : ErrP TW OV H E L) (f : KW.Fr [] H H1) : ErrP TW OV H1 E L :=
  ⟨fun k x q H' d f' => h.1 k x q H' d (f.trans f'), fun n l H' d f' => h.2 n l H' d (f.trans f')⟩
/-- pairs in the heap -/
structure Prs (H : Hp) (A : List Addr) (L : NL) : Prop where
  len : A.length = L.length
  it : ∀ (i : Nat) (t : Addr) (x : Str × Int), A[i]? = some t → L[i]? = some x → H t = some (.tup [.str x.1, .int x.2])
  sm : L.length ≤ 300
  ok : ∀ x ∈ L, x.1.length ≤ 100 ∧ 0 ≤ x.2 ∧ x.2 ≤ 10000
theorem Prs.fr0 {H H' : Hp} {A : List Addr} {L : NL} (p : Prs H A L) (f : KW.Fr [] H H') : Prs H' A L := ⟨p.len, fun i t x h1 h2 => f _ _ (by simp) (p.it i t x h1 h2), p.sm, p.ok⟩
def spDecl (TW OV : Addr) : Sp := fun vs H Q E => ∃ (pt tt : Addr) (A1 A2 : List Addr) (L : NL), vs = [.ref pt, .ref tt] ∧ H pt = some (.tup (A1.map V.ref)) ∧ H tt = some (.tup (A2.map V.ref)) ∧ Prs H (A1 ++ A2) L ∧ ErrP TW OV H E L ∧
  ((nms L).Nodup → L.length ≤ 255 → ∀ d kvs H', H d = none → H' d = some (.dK kvs) → kvs.length = L.length → KW.Fr [] H H' → Q (.ref d) H')
section
variable {P : Program} {w : World} {K : Frag} {mg : Str → Option Value} {base : Heap} {a : Ads}
theorem ok_declared (T : Txt P w K mg a) : Cal P w K mg base 1 "declared" (spDecl a.Twice a.Oversized) := by
  refine T.d_declared.ok sc_declared (fun vs H Q E h => ?_) (fun f cdv A outer s H vs Q E hr h => ⟨_, (C8.pss_cut (ps_set (i := 2) sc_declared.nd rfl (Or.inl rfl) (pe_op o_add (pe_callTy c_list (by rfl) T.n_list (by decide +kernel) (pa_cons (kv 0) pa_nil)) (pe_callTy c_list (by rfl) T.n_list (by decide +kernel) (pa_cons (kv 1) pa_nil))))
      (pss_cons (ps_set (i := 3) sc_declared.nd rfl (Or.inl rfl) pe_dnewK)
      (C8.pss_cut (k_for (passes_of rfl) rfl (pi_range1 (by rfl) T.n_range (pa_cons (pe_callB c_len (by rfl) T.n_len (by decide +kernel) (pa_cons (kv 2) pa_nil)) pa_nil)) (pg_name (i := 4) sc_declared.nd rfl (Or.inl rfl))
      (pss_cons (ps_asg (pe_ix o_ix (kv 2) (kv 4) (fun _ _ => rfl)) (pg_tup (n := 2) (by rfl) (pgs_cons (pg_name (i := 5) sc_declared.nd rfl (Or.inl rfl)) (pgs_cons (pg_name (i := 6) sc_declared.nd rfl (Or.inl rfl)) pgs_nil))))
      (pss_cons (ps_if (pt_cmp (k_din (hu_of hr) (kv 5) (kv 3)))
      (pss_one (k_raise (L2N.takes_of rfl rfl rfl rfl) (k_mk T.e_Twice hr (pa_cons (kv 5) (pa_cons (kv 6) pa_nil)))))
      pss_nil)
      (pss_one (k_dput (hu_of hr) (kv 3) (kv 5) (pe_tup (pa_cons (kv 4) (pa_cons (pe_cmpR o_lt (kv 4) (pe_callB c_len (by rfl) T.n_len (by decide +kernel) (pa_cons (kv 0) pa_nil)) (nomark _)) pa_nil))))))))
      (C8.pss_cut (ps_if (pt_cmpR o_gt (pe_callB c_len (by rfl) T.n_len (by decide +kernel) (pa_cons (kv 2) pa_nil)) (k_g T.g_MOST_LOCALS) (nomark _))
      (pss_one (k_raise (L2N.takes_of rfl rfl rfl rfl) (k_mk T.e_Oversized hr (pa_cons pe_str pa_nil))))
      pss_nil)
      (pss_one (ps_ret (kv 3))))))), ?_⟩)
  · obtain ⟨_, _, _, _, _, rfl, _⟩ := h; rfl
  · obtain ⟨pt, tt, A1, A2, L, rfl, hp, ht, R, er, h⟩ := h
    have rl := R.len
    have rs := R.sm
    rw [List.length_append] at rl
    refine ⟨fun σ H' => ∃ pr, σ = [some (.ref pt), some (.ref tt), some (.ref pr), none, none, none, none] ∧ H' pr = some (.lst ((A1 ++ A2).map V.ref)) ∧ KW.Fr [] H H', ?_, ?_⟩
    · walk_at "kk"
      intro l hl
      have n1 : l ≠ tt := (ne_of_none ht hl).symm
      refine list_t (ys := A2.map V.ref) (by walk_at "hp") fun l2 hl2 => ?_
      have n2 : l ≠ l2 := ne_of_none upd_same hl2
      refine ucat_l (xs := A1.map V.ref) (zs := A2.map V.ref) (by walk_at "hp") upd_same (le_line (by rw [List.length_map, List.length_map]; omega)) fun p hp3 => ?_
      exact ⟨p, rfl, by rw [upd_same, List.map_append], ((Fr.new hl).trans (Fr.new hl2)).trans (Fr.new hp3)⟩
    rintro σ H1 ⟨pr, rfl, g1, f1⟩
    walk_at "kk"
    intro d hd
    have npd : pr ≠ d := ne_of_none g1 hd
    have hd0 : H d = none := f1.none (by simp) hd
    have f2 : KW.Fr [] H (upd H1 d (.dK [])) := f1.trans (Fr.new hd)
    have g2 : upd H1 d (.dK []) pr = some (.lst ((A1 ++ A2).map V.ref)) := by walk_at "hp"
    have k2 : upd H1 d (.dK []) d = some (.dK []) := upd_same
    revert f2 g2 k2
    generalize upd H1 d (.dK []) = H2
    intro f2 g2 k2
    have hA : ((A1 ++ A2).map V.ref).length = L.length := by rw [List.length_map, List.length_append]; exact rl
    refine ⟨fun σ H' => ∃ kvs v4 v5 v6, σ = [some (.ref pt), some (.ref tt), some (.ref pr), some (.ref d), v4, v5, v6] ∧ H' d = some (.dK kvs) ∧ kvs.length = L.length ∧ (nms L).Nodup ∧ KW.Fr [] H H' ∧ H' pr = some (.lst ((A1 ++ A2).map V.ref)), ?_, ?_⟩
    · obtain ⟨Pv, hPv⟩ : ∃ Pv : Nat → L2.St → Hp → Prop, Pv = fun i σ H' => ∃ kvs v4 v5 v6, σ = [some (.ref pt), some (.ref tt), some (.ref pr), some (.ref d), v4, v5, v6] ∧ H' d = some (.dK kvs) ∧ kvs.map (·.1) = (nms (L.take i)).map Sum.inr ∧ (nms (L.take i)).Nodup ∧ KW.Fr [] H H' ∧ H' pr = some (.lst ((A1 ++ A2).map V.ref)) := ⟨_, rfl⟩
      walk_at "kw"
      refine len_l g2 ?_
      refine ⟨_, rfl, by rw [hA]; omega, by rw [hA]; omega, ?_⟩
      rw [hA, Int.toNat_natCast]
      refine for_rng Pv (by rw [hPv]; exact ⟨[], _, _, _, rfl, k2, rfl, by simp [nms], f2, g2⟩) ?_ ?_
      · intro i σ H3 hi hP
        rw [hPv] at hP
        obtain ⟨kvs, v4, v5, v6, rfl, k3, ek, nd, f3, g3⟩ := hP
        obtain ⟨x, hx⟩ : ∃ x, L[i]? = some x := ⟨_, List.getElem?_eq_getElem hi⟩
        obtain ⟨t, ht3⟩ : ∃ t, (A1 ++ A2)[i]? = some t := ⟨_, List.getElem?_eq_getElem (by rw [List.length_append]; omega)⟩
        have at3 : atI ((A1 ++ A2).map V.ref) (i : Int) = some (.ref t) := atI_map ht3
        have tx := f3 _ _ (by simp) (R.it i t x ht3 hx)
        obtain ⟨o1, o2, o3⟩ := R.ok x (List.mem_of_getElem? hx)
        have hp3 := f3 _ _ (by simp) hp
        have mem : (valV kvs (.inr x.1)).isSome = true ↔ x.1 ∈ nms (L.take i) := by
          rw [ST.valV_some, ek, List.mem_map]
          exact ⟨fun ⟨y, hy, e⟩ => by cases e; exact hy, fun hy => ⟨_, hy, rfl⟩⟩
        have el := congrArg List.length ek
        rw [List.length_map, List.length_map] at el
        have lt2 : (nms (L.take i)).length ≤ 300 := by unfold nms; rw [List.length_map, List.length_take]; omega
        walk_at "kk"
        split
        · rename_i c
          exact ⟨by omega, o2, by omega, fun d' hd' => er.1 i x ⟨hx, mem.mp c, nd⟩ H3 d' f3 hd'⟩
        · rename_i c
          have nm : x.1 ∉ nms (L.take i) := fun z => c (mem.mpr z)
          have vn : valV kvs (.inr x.1) = none := by
            cases e : valV kvs (.inr x.1) with
            | none => rfl
            | some _ => rw [e] at c; exact absurd rfl c
          refine ⟨_, .inr (.of hp3), ?_⟩
          walk_at "kk"
          intro t2 ht2
          have nd2 : d ≠ t2 := ne_of_none k3 ht2
          have np2 : pr ≠ t2 := ne_of_none g3 ht2
          refine dput_s (kvs := kvs) (by walk_at "hp") (lt_line (by omega)) ?_
          rw [hPv]
          refine ⟨_, _, _, _, rfl, upd_same, ?_, ?_, ?_, by rw [upd_ne npd, upd_ne np2]; exact g3⟩
          · rw [ST.putK_new vn, ek]
            unfold nms
            rw [List.take_add_one, hx]; simp
          · unfold nms at nd nm ⊢
            rw [List.take_add_one, hx, List.map_append, List.nodup_append]
            refine ⟨nd, by simp, fun u hu v hv => ?_⟩
            simp at hv
            subst hv
            exact fun z => nm (z ▸ hu)
          · intro b o _ hb
            rw [upd_ne (ne_of_none hb hd0)]
            exact (f3.trans (Fr.new ht2)) b o (by simp) hb
      · intro σ H3 hP
        rw [hPv] at hP
        obtain ⟨kvs, v4, v5, v6, rfl, k3, ek, nd, f3, g3⟩ := hP
        rw [List.take_length] at ek nd
        have el := congrArg List.length ek
        rw [List.length_map, List.length_map] at el
        walk_at "kk"
        exact ⟨⟨_, rfl⟩, kvs, k3, by rw [el]; unfold nms; rw [List.length_map], nd, f3, g3⟩
    rintro σ H3 ⟨kvs, v4, v5, v6, rfl, k3, el, nd, f3, g3⟩
    refine ⟨fun σ H' => σ = [some (.ref pt), some (.ref tt), some (.ref pr), some (.ref d), v4, v5, v6] ∧ H' = H3 ∧ L.length ≤ 255, ?_, ?_⟩
    · walk_at "kk"
      split
      · exact fun d' hd' => er.2 nd (by omega) H3 d' f3 hd'
      · omega
    rintro σ H4 ⟨rfl, rfl, l255⟩
    walk_at "kk"
    exact h nd l255 d kvs _ hd0 k3 el f3
end
end K17

set_option Elab.async false
set_option linter.all false
set_option maxRecDepth 100000
set_option maxHeartbeats 4000000
namespace K17
open PySem PySem.Spec PyProof.Rows L2 KW
local macro_rules | `(tactic| walk_at "kw") => `(tactic| simp only [tSeq, tNext, tIfS, tTest, tAnd, tOr, tNot, tAndV, tOrV, tNotV, tIf, tChain, tOp, tUn, tC, tAsg, gName, gSub, gCons, gNil, tRet, tRetN, tDrop, tCons, tNil, tCB, tAug, tSl, tPart, tNoPart, tLst, tTup, tBM, tBM0, uTest, uFor, iRng1, iRng2, iList, uCall, List.map_cons, List.map_nil, List.length_cons, List.length_nil, List.cons_append, List.nil_append, List.replicate, Nat.zero_add, Nat.reduceAdd, Nat.reduceSub, List.getElem?_cons_zero, List.getElem?_cons_succ, List.set_cons_zero, List.set_cons_succ, V.bl.injEq, V.int.injEq, V.str.injEq, V.ref.injEq, V.ty.injEq, List.cons.injEq, and_true, true_and, exists_eq_left', exists_eq_right, exists_eq_left, exists_and_left, exists_and_right, decide_eq_true_eq, Bool.not_eq_true', decide_eq_false_iff_not, Bool.false_eq_true, if_true, if_false, ite_true, ite_false, Bool.not_true, Bool.not_false, reduceCtorEq, decide_true, decide_false, Bool.not_not, isK_int_int, isK_int_bool, isK_int_str, isK_int_list, isK_int_tuple, isK_bool_int, isK_bool_bool, isK_bool_str, isK_str_str, isK_str_int, isK_str_bool, isK_str_tuple, isK_str_list, isK_list_list, isK_list_tuple, isK_tuple_tuple, isK_tuple_list, isOk_int_int, isOk_int_bool, isOk_int_str, isOk_int_list, isOk_int_tuple, isOk_bool_int, isOk_bool_bool, isOk_bool_str, isOk_str_str, isOk_str_int, isOk_str_bool, isOk_str_tuple, isOk_str_list, isOk_list_list, isOk_list_tuple, isOk_tuple_tuple, isOk_tuple_list, isK_dict_dict, isOk_dict_dict, isK_none_int, isK_none_bool, isOk_none_int, isOk_none_bool, tyV, S_inj, S_cat, L2.start, Nat.reduceSub, List.replicate_succ, List.replicate_zero, and_assoc, List.append_nil, Nat.reduceEqDiff, Option.some.injEq, Int.natCast_inj, upd_upd, Int.reducePow, Int.reduceToNat, Int.reduceMul, Int.reduceAdd, Int.reduceSub, Int.reduceLT, Int.reduceLE, Int.reduceNeg, Int.reduceDiv, Int.reduceMod, Nat.reducePow, Nat.reduceMul, S_len, List.length_append, List.length_map, List.length_range, not_true_eq_false, not_false_eq_true, ne_eq, uAdd_e1, uAdd_e2, uSub_e1, uMod_e1, uDiv_e1, uPow_e1, uShl_e1, uNeg_e1, uIAdd_e1, uIAdd_e2, uIAdd_e3, uISub_e1, uLt_e1, uLt_e2, uLe_e1, uGt_e1, uGe_e1, uEq_e1, uEq_e2, uEq_e3, uEq_e4, uEq_e5, uEq_e6, uEq_e7, uEq_e8, uEq_e9, uEq_e10, uEq_e11, uNe_e1, uNe_e2, uNe_e3, uNe_e4, uNe_e5, uNe_e6, uNe_e7, uNe_e8, uNe_e9, uNe_e10, uNe_e11, uIs_e1, uIs_e2, uIs_e3, uIs_e4, uIs_e5, uIs_e6, uIs_e7, uNotIs_e1, uNotIs_e2, uNotIs_e3, uNotIs_e4, uNotIs_e5, uNotIs_e6, uIn_e1, uIn_e2, uIn_e3, uIn_e4, uNotIn_e1, uNotIn_e2, uNotIn_e3, uNotIn_e4, uTru_e1, uTru_e2, uTru_e3, uTru_e4, uIx_e2, uSl_e2, uLen_e1, uAbs_e1, uInt_e1, uInt_e2, uMin2_e1, uIsi_e1, uIsi_e2, uIsi_e3, uIsi_e4, cx_K, uVar_0, uVar_n, uFld, uSFld, uMet, uMake, tDG, tDI, tDNI, tDP, tDD, uMk, uRaise, uDelSl, tCallS, L2.WE, uStr_e1, uStr_e2, uMul2_e1, uMul2_e2, okS_i, okS_s, List.zip_cons_cons, List.zip_nil_left, List.drop_zero, List.drop_succ_cons, List.drop_nil, putF_nil, putF_cons, eq_self, tDNewK, tB, Option.isSome_some, Option.isSome_none, false_and, false_or, or_false, exists_false, Int.zero_add, uLc, wipe, tYes, isEmpty_app, List.isEmpty_cons, List.isEmpty_nil, List.isEmpty_map, Bool.and_false, Bool.and_true, iRev, K17.lit_0, K17.lit_1, K17.lit_2, K17.lit_3, K17.lit_4, K17.lit_5, K17.lit_6, K17.lit_7, K17.lit_8, K17.lit_9, K17.lit_10, K17.lit_11, K17.lit_12, K17.lit_13, K17.lit_14, K17.lit_15, K17.lit_16, K17.lit_17, K17.lit_18, K17.lit_19, K17.lit_20, K17.lit_21, K17.lit_23, K17.lit_24, K17.lit_26, K17.lit_27, K17.lit_28, K17.lit_29, K17.lit_30, K17.lit_31, K17.lit_32, K17.lit_33, K17.lit_34, K17.lit_35, K17.lit_36, K17.fe_selector_argc, K17.fe_selector_locals, K17.fe_selector_stack, K17.fe_selector_code, K17.fe_selector_literals, K17.fe_argc_selector, K17.fe_argc_locals, K17.fe_argc_stack, K17.fe_argc_code, K17.fe_argc_literals, K17.fe_locals_selector, K17.fe_locals_argc, K17.fe_locals_stack, K17.fe_locals_code, K17.fe_locals_literals, K17.fe_stack_selector, K17.fe_stack_argc, K17.fe_stack_locals, K17.fe_stack_code, K17.fe_stack_literals, K17.fe_code_selector, K17.fe_code_argc, K17.fe_code_locals, K17.fe_code_stack, K17.fe_code_literals, K17.fe_literals_selector, K17.fe_literals_argc, K17.fe_literals_locals, K17.fe_literals_stack, K17.fe_literals_code, K17.fe_fields_globals_known, K17.fe_fields_code, K17.fe_fields_literals, K17.fe_fields_scopes, K17.fe_globals_known_fields, K17.fe_globals_known_code, K17.fe_globals_known_literals, K17.fe_globals_known_scopes, K17.fe_code_fields, K17.fe_code_globals_known, K17.fe_code_scopes, K17.fe_literals_fields, K17.fe_literals_globals_known, K17.fe_literals_scopes, K17.fe_scopes_fields, K17.fe_scopes_globals_known, K17.fe_scopes_code, K17.fe_scopes_literals, K17.fl_locals_0, K17.lf_locals_0, K17.fl_locals_1, K17.lf_locals_1, K17.fl_locals_2, K17.lf_locals_2, K17.fl_locals_3, K17.lf_locals_3, K17.fl_locals_4, K17.lf_locals_4, K17.fl_locals_5, K17.lf_locals_5, K17.fl_locals_6, K17.lf_locals_6, K17.fl_locals_7, K17.lf_locals_7, K17.fl_locals_8, K17.lf_locals_8, K17.fl_locals_9, K17.lf_locals_9, K17.fl_locals_10, K17.lf_locals_10, K17.fl_locals_11, K17.lf_locals_11, K17.fl_locals_12, K17.lf_locals_12, K17.fl_locals_13, K17.lf_locals_13, K17.fl_locals_14, K17.lf_locals_14, K17.fl_locals_15, K17.lf_locals_15, K17.fl_locals_16, K17.lf_locals_16, K17.fl_locals_17, K17.lf_locals_17, K17.fl_locals_18, K17.lf_locals_18, K17.fl_locals_19, K17.lf_locals_19, K17.fl_locals_20, K17.lf_locals_20, K17.fl_locals_21, K17.lf_locals_21, K17.fl_locals_23, K17.lf_locals_23, K17.fl_locals_24, K17.lf_locals_24, K17.fl_locals_25, K17.lf_locals_25, K17.fl_locals_26, K17.lf_locals_26, K17.fl_locals_27, K17.lf_locals_27, K17.fl_locals_28, K17.lf_locals_28, K17.fl_locals_29, K17.lf_locals_29, K17.fl_locals_30, K17.lf_locals_30, K17.fl_locals_31, K17.lf_locals_31, K17.fl_locals_32, K17.lf_locals_32, K17.fl_locals_33, K17.lf_locals_33, K17.fl_locals_34, K17.lf_locals_34, K17.fl_locals_35, K17.lf_locals_35, K17.fl_locals_36, K17.lf_locals_36, K17.fl_selector_0, K17.lf_selector_0, K17.fl_selector_1, K17.lf_selector_1, K17.fl_selector_2, K17.lf_selector_2, K17.fl_selector_3, K17.lf_selector_3, K17.fl_selector_4, K17.lf_selector_4, K17.fl_selector_5, K17.lf_selector_5, K17.fl_selector_6, K17.lf_selector_6, K17.fl_selector_7, K17.lf_selector_7, K17.fl_selector_8, K17.lf_selector_8, K17.fl_selector_9, K17.lf_selector_9, K17.fl_selector_10, K17.lf_selector_10, K17.fl_selector_11, K17.lf_selector_11, K17.fl_selector_12, K17.lf_selector_12, K17.fl_selector_13, K17.lf_selector_13, K17.fl_selector_14, K17.lf_selector_14, K17.fl_selector_15, K17.lf_selector_15, K17.fl_selector_16, K17.lf_selector_16, K17.fl_selector_17, K17.lf_selector_17, K17.fl_selector_18, K17.lf_selector_18, K17.fl_selector_19, K17.lf_selector_19, K17.fl_selector_20, K17.lf_selector_20, K17.fl_selector_21, K17.lf_selector_21, K17.fl_selector_22, K17.lf_selector_22, K17.fl_selector_23, K17.lf_selector_23, K17.fl_selector_24, K17.lf_selector_24, K17.fl_selector_26, K17.lf_selector_26, K17.fl_selector_27, K17.lf_selector_27, K17.fl_selector_28, K17.lf_selector_28, K17.fl_selector_29, K17.lf_selector_29, K17.fl_selector_30, K17.lf_selector_30, K17.fl_selector_31, K17.lf_selector_31, K17.fl_selector_32, K17.lf_selector_32, K17.fl_selector_33, K17.lf_selector_33, K17.fl_selector_34, K17.lf_selector_34, K17.fl_selector_35, K17.lf_selector_35, K17.fl_selector_36, K17.lf_selector_36, uMetD, uMtD_e, uDict1, uD1_e1, uD1_e2, uMax3_e, uSlA_e1, uSlA_e2, uTuple_e, uLenDk_e, K17.N_change_of, K17.N_places_behind, K17.N_Draft_init, K17.N_Draft_parts, K17.N_Draft___eq__, K17.N_declared, K17.N_is_plain_block, K17.N_is_inlined, K17.N_Coder_init, K17.N_Coder_emit, K17.N_Coder_here, K17.N_Coder_aim, K17.N_Coder_literal, K17.N_Coder_found, K17.N_Coder_name, K17.N_Coder_assign, K17.N_Coder_sequence, K17.N_Coder_inline, K17.N_Coder_choice, K17.N_Coder_loop, K17.N_Coder_message, K17.N_Coder_send, K17.N_Coder_block, K17.N_Coder_expression, K17.N_greatest_height, K17.N_with_stacks, K17.N_compile_method, K17.N__law_cell, K17.N__law_told, K17.N_law])
local macro_rules | `(tactic| walk_at "nn") => `(tactic| first | assumption | exact ne_un (by assumption) | exact ne_un (ne_un (by assumption)) | exact ne_un (ne_un (ne_un (by assumption))) | exact ne_un (ne_un (ne_un (ne_un (by assumption)))))
local macro_rules | `(tactic| walk_at "ne") => `(tactic| first | assumption | (apply Ne.symm; assumption) | exact ne_ud (by assumption) | exact Ne.symm (ne_ud (by assumption)) | exact ne_ud (ne_un (by assumption)) | exact Ne.symm (ne_ud (ne_un (by assumption))) | exact ne_ud (ne_un (ne_un (by assumption))) | exact Ne.symm (ne_ud (ne_un (ne_un (by assumption)))) | exact ne_m (by assumption) (by assumption) | exact Ne.symm (ne_m (by assumption) (by assumption)) | exact ne_n (by assumption) (by walk_at "nn") | exact Ne.symm (ne_n (by assumption) (by walk_at "nn")))
local macro_rules | `(tactic| walk_at "hp") => `(tactic| first | assumption | exact upd_same | (refine Eq.trans (upd_ne ?_) ?_; (focus walk_at "ne"); walk_at "hp"))
local macro_rules | `(tactic| walk_at "sc") => `(tactic| first | (with_reducible assumption) | omega | exact le_line (by (try simp only [List.length_map, List.length_append, List.length_cons, List.length_nil, S_len]); omega) | exact div_s (by omega) | exact mul_r (by omega) | exact mul_l (by omega) | exact pow_s (by omega) | exact mul2_r (by omega) | exact mul2_l (by omega) | exact small4300 (by omega) | exact lt_line (by (try simp only [List.length_map, List.length_append, List.length_cons, List.length_nil, S_len]); omega) | exact ⟨_, by assumption⟩ | (guard_target =~ Exists _; exact ⟨_, .of (by walk_at "hp")⟩) | (guard_target =~ _ ∨ _; exact .inl ⟨_, by assumption⟩) | (guard_target =~ _ ∨ _; exact .inl ⟨_, .of (by walk_at "hp")⟩) | (guard_target =~ _ ∨ _; exact .inr (.inr (.inl ⟨rfl, .inl ⟨_, by walk_at "hp"⟩⟩))) | decide)
local macro_rules | `(tactic| walk_at "kr") => `(tactic| first | (guard_target =~ _ ∧ _; first | refine And.intro (by walk_at "sc") ?_) | (guard_target =~ KW.uIx _ _ _ _ _; first | refine ix_l (by walk_at "hp") (by first | walk_at "hv" | rfl) ?_ | refine ix_t (by walk_at "hp") (by first | walk_at "hv" | rfl) ?_ | refine ix_sl (by assumption) (by walk_at "hv") ?_) | (guard_target =~ KW.uLen _ _ _ _; first | refine len_l (by walk_at "hp") ?_ | refine len_t (by walk_at "hp") ?_ | refine len_sl (by assumption) ?_) | (guard_target =~ KW.uSet _ _ _ _ _; first | refine set_l (by walk_at "hp") (by first | walk_at "hv" | rfl) ?_) | (guard_target =~ L2.gTup _ _ _ _ _ _ _; first | refine tup_l (by walk_at "hp") (by rfl) ?_) | (guard_target =~ KW.uGet _ _ _ _ _; first | refine get_l (by walk_at "hp") (by walk_at "hc") (by decide) (by rfl) ?_) | (guard_target =~ KW.uPut _ _ _ _ _ _; first | refine put_l (by walk_at "hp") (by walk_at "hc") (by decide) (by simp) ?_) | (guard_target =~ KW.uMet.uMt _ _ _ _ _ _ _ _ _; first | refine met_l (by walk_at "hp") (by rfl) ?_) | (guard_target =~ KW.uMet.uMt _ _ _ _ _ _ _ _ _; first | refine ST.met_s (by assumption) (by decide) ?_) | (guard_target =~ ST.spExists _ _ _ _ _; first | refine ST.exists_s (by assumption) ?_) | (guard_target =~ ST.spUsed _ _ _ _ _; first | refine ST.used_s (by assumption) ?_) | (guard_target =~ KW.uGet _ _ _ _ _; first | refine ST.words_s (by assumption) (by walk_at "hc") (by decide) ?_) | (guard_target =~ KW.uDIn _ _ _ _; first | refine din_i (by walk_at "hp") ?_ | refine din_s (by walk_at "hp") ?_) | (guard_target =~ KW.uDGet _ _ _ _; first | refine dget_i (by walk_at "hp") (by walk_at "hv") ?_ | refine dget_s (by walk_at "hp") (by walk_at "hv") ?_) | (guard_target =~ KW.uDPut _ _ _ _ _; first | refine dput_i (by walk_at "hp") (by walk_at "sc") ?_ | refine dput_s (by walk_at "hp") (by walk_at "sc") ?_) | (guard_target =~ KW.uDDel _ _ _ _; first | refine ddel_i (by walk_at "hp") (by walk_at "hv") ?_ | refine ddel_s (by walk_at "hp") (by walk_at "hv") ?_) | (guard_target =~ KW.uMul2 _ _ _ _; first | refine rep_l (by walk_at "hp") (by walk_at "sc") (by walk_at "sc") (by walk_at "sc") ?_) | (guard_target =~ L2.rAppend _ _ _ _; first | refine app_l (by walk_at "hp") (by walk_at "sc") ?_) | (guard_target =~ L2.rPop _ _ _ _; first | refine pop_l (by walk_at "hp") (by walk_at "hv") ?_ | refine pops_l (by walk_at "hp") ?_) | (guard_target =~ L2.rClear _ _ _ _; first | refine clr_l (by walk_at "hp") ?_) | (guard_target =~ L2.rReverse _ _ _ _; first | refine rev_l (by walk_at "hp") ?_) | (guard_target =~ L2.rExtend _ _ _ _; first | refine ext_l (by walk_at "hp") (by walk_at "hp") (by walk_at "sc") ?_) | (guard_target =~ KW.uAdd _ _ _ _ _; first | refine ucat_l (by walk_at "hp") (by walk_at "hp") (by walk_at "sc") ?_) | (guard_target =~ KW.uSl _ _ _ _ _ _; first | refine usl_l (by walk_at "hp") ?_) | (guard_target =~ KW.uTru _ _ _ _; first | refine tru_l (by walk_at "hp") ?_ | refine tru_t (by walk_at "hp") ?_ | refine tru_d (by walk_at "hp") ?_ | refine tru_sl (by assumption) ?_) | (guard_target =~ L2.rIndex _ _ _ _ _; first | refine idx_s (by walk_at "hp") (by assumption) ?_ | refine idx_i (by walk_at "hp") (by assumption) ?_) | (guard_target =~ L2.rIn _ _ _ _ _ _; first | refine in_s (by walk_at "hp") ?_ | refine nin_s (by walk_at "hp") ?_ | refine in_i (by walk_at "hp") ?_ | refine nin_i (by walk_at "hp") ?_) | (guard_target =~ KW.uIsi _ _ _ _; first | refine isi_l (by walk_at "hp") (by decide +kernel) ?_ | refine isi_t (by walk_at "hp") (by decide +kernel) ?_ | refine isi_d (by walk_at "hp") (by decide +kernel) ?_) | (guard_target =~ KW.uList _ _ _ _; first | refine list_l (by walk_at "hp") ?_ | refine list_t (by walk_at "hp") ?_ | refine list_sl (by assumption) ?_) | (guard_target =~ KW.uDict _ _ _; first | refine dict_d (by walk_at "hp") ?_) | (guard_target =~ KW.uSorted _ _ _ _; first | refine srt_l (by walk_at "hp") ?_) | (guard_target =~ KW.uSum _ _ _ _; first | refine sum_l (by walk_at "hp") ?_) | (guard_target =~ KW.uDelC _ _ _ _; first | refine dels_l (by walk_at "hp") (by walk_at "sc") ?_) | (guard_target =~ L2.wAs _ _ _ _ _ _ _ _ _ _; first | refine as_yes (by walk_at "hx") ?_ | refine as_no (by walk_at "hx") ?_) | (guard_target =~ KW.uEf _ _ _ _ _ _ _ _ _; first | refine ef_l (by walk_at "he") (by decide) (by rfl) (by walk_at "hp") (by rfl) ?_) | (guard_target =~ KW.uIsE _ _ _ _ _ _ _; first | refine isE_r (by walk_at "he") (by walk_at "hp") (by walk_at "hk") ?_ | refine isE_t (by walk_at "he") (by walk_at "hp") (by walk_at "hk") ?_))
local macro_rules | `(tactic| walk_at "hv") => `(tactic| first | assumption)
local macro_rules | `(tactic| walk_at "kk") => `(tactic| repeat (first | walk_at "kw" | walk_at "kr"))
local macro_rules | `(tactic| walk_at "hc") => `(tactic| first | exact K17.Txt.c_Draft (by assumption) | exact K17.Txt.c_Coder (by assumption))
local macro_rules | `(tactic| walk_at "he") => `(tactic| first | exact K17.Txt.e_Oversized (by assumption) | exact K17.Txt.e_Unknown (by assumption) | exact K17.Txt.e_Twice (by assumption) | exact K17.Txt.e_Fixed (by assumption))
local macro_rules | `(tactic| walk_at "hx") => `(tactic| first | exact K17.Txt.x_Oversized_Oversized (by assumption) | exact K17.Txt.x_Oversized_Twice (by assumption) | exact K17.Txt.x_Unknown_Oversized (by assumption) | exact K17.Txt.x_Unknown_Twice (by assumption) | exact K17.Txt.x_Twice_Oversized (by assumption) | exact K17.Txt.x_Twice_Twice (by assumption) | exact K17.Txt.x_Fixed_Oversized (by assumption) | exact K17.Txt.x_Fixed_Twice (by assumption))
local macro_rules | `(tactic| walk_at "hk") => `(tactic| first | fail)

abbrev Ch := List (Nat × Str × Int)
def hC (C : Ch) (i : Nat) : Int := ((C.take i).map fun x => chg x.2.1 x.2.2).sum
def mC (C : Ch) : Nat → Int
  | 0 => 0
  | i + 1 => m2 (m2 (mC C i) (hC C i)) (hC C (i + 1))
def bC (C : Ch) (i : Nat) : List Int := ((C.take i).filter fun x => decide (x.2.1 = S [98, 108, 111, 99, 107])).map fun x => x.2.2
structure Chain (code : List (Addr × Str × Int)) (C : Ch) : Prop where
  nd : (C.map (·.1)).Nodup
  sm : C.length ≤ 100
  lk : ∀ (i : Nat) (x : Nat × Str × Int), C[i]? = some x → ∃ t, code[x.1]? = some (t, x.2.1, x.2.2)
  nx : ∀ (i : Nat) (x : Nat × Str × Int), C[i]? = some x → nxt x.2.1 x.2.2 x.1 = match C[i + 1]? with | some y => [(y.1 : Int)] | none => []
theorem hC_succ {C : Ch} {i : Nat} {x : Nat × Str × Int} (h : C[i]? = some x) : hC C (i + 1) = hC C i + chg x.2.1 x.2.2 := by
  unfold hC
  rw [List.take_add_one, h, List.map_append, List.sum_append]
  simp
theorem bC_succ {C : Ch} {i : Nat} {x : Nat × Str × Int} (h : C[i]? = some x) : bC C (i + 1) = if x.2.1 = S [98, 108, 111, 99, 107] then bC C i ++ [x.2.2] else bC C i := by
  unfold bC
  rw [List.take_add_one, h]
  split <;> rename_i c <;> simp [List.filter_append, c]
def spGH : Sp := fun vs H Q _ => ∃ (co bl : Addr) (code : List (Addr × Str × Int)) (C : Ch) (bs : List Int) (x0 : Nat × Str × Int), vs = [.ref co, .int x0.1, .ref bl] ∧ H co = some (.lst (code.map fun x => .ref x.1)) ∧ (∀ x ∈ code, H x.1 = some (.tup [.str x.2.1, .int x.2.2])) ∧ IL H bl bs ∧ co ≠ bl ∧ bs.length ≤ 100 ∧
  Chain code C ∧ C[0]? = some x0 ∧ ∀ H', IL H' bl (bs ++ bC C C.length) → KW.Fr [bl] H H' → Q (.int (mC C C.length)) H'
section
variable {P : Program} {w : World} {K : Frag} {mg : Str → Option Value} {base : Heap} {a : Ads}
theorem ok_greatest_height (T : Txt P w K mg a) : Cal P w K mg base 2 "greatest_height" spGH := by
  have C_change_of := ok_change_of (P := P) (w := w) (base := base) T
  have C_places_behind := ok_places_behind (P := P) (w := w) (base := base) T
  refine T.d_greatest_height.ok sc_greatest_height (fun vs H Q E h => ?_) (fun f cdv A outer s H vs Q E hr h => ⟨_, (pss_cons (ps_set (i := 3) sc_greatest_height.nd rfl (Or.inl rfl) (k_dict1 (kv 1) pe_int))
      (pss_cons (ps_set (i := 4) sc_greatest_height.nd rfl (Or.inl rfl) (pe_lst (pa_cons (kv 1) pa_nil)))
      (pss_cons (ps_set (i := 5) sc_greatest_height.nd rfl (Or.inl rfl) pe_int)
      (pss_cons (k_while (passes_of rfl) (pt_cmpR o_gt (pe_callB c_len (by rfl) T.n_len (by decide +kernel) (pa_cons (kv 4) pa_nil)) pe_int (nomark _))
      (pss_cons (ps_set (i := 6) sc_greatest_height.nd rfl (Or.inl rfl) (pe_bm PySem.F.plainAttrs_list PySem.F.slot_list_pop PySem.F.type_list_pop mt_popAt (kv 4) (pa_cons pe_int pa_nil)))
      (pss_cons (ps_asg (pe_ix o_ix (kv 0) (kv 6) (fun _ _ => rfl)) (pg_tup (n := 2) (by rfl) (pgs_cons (pg_name (i := 7) sc_greatest_height.nd rfl (Or.inl rfl)) (pgs_cons (pg_name (i := 8) sc_greatest_height.nd rfl (Or.inl rfl)) pgs_nil))))
      (pss_cons (ps_set (i := 9) sc_greatest_height.nd rfl (Or.inl rfl) (pe_op o_add (k_dget (hu_of hr) (kv 3) (kv 6)) (kc C_change_of (hr.mono (by decide)) (pa_cons (kv 7) (pa_cons (kv 8) pa_nil)))))
      (pss_cons (ps_set (i := 5) sc_greatest_height.nd rfl (Or.inl rfl) (pe_callB (c_max3 rfl) (by rfl) T.n_max (by decide +kernel) (pa_cons (kv 5) (pa_cons (k_dget (hu_of hr) (kv 3) (kv 6)) (pa_cons (kv 9) pa_nil)))))
      (C8.pss_cut (ps_if (pt_cmpR (o_eq hr.units) (kv 7) pe_str (nomark _))
      (pss_one (ps_expr (pe_bm PySem.F.plainAttrs_list PySem.F.slot_list_append PySem.F.type_list_append mt_append (kv 2) (pa_cons (kv 8) pa_nil))))
      pss_nil)
      (pss_one (k_for (passes_of rfl) rfl (pi_list (kc C_places_behind (hr.mono (by decide)) (pa_cons (kv 7) (pa_cons (kv 8) (pa_cons (kv 6) pa_nil))))) (pg_name (i := 10) sc_greatest_height.nd rfl (Or.inl rfl))
      (pss_one (ps_if (pt_cmp (k_dnotin (hu_of hr) (kv 10) (kv 3)))
      (pss_cons (k_dput (hu_of hr) (kv 3) (kv 10) (kv 9))
      (pss_one (ps_expr (pe_bm PySem.F.plainAttrs_list PySem.F.slot_list_append PySem.F.type_list_append mt_append (kv 4) (pa_cons (kv 10) pa_nil)))))
      pss_nil))))))))))
      (pss_one (ps_ret (kv 5))))))), ?_⟩)
  · obtain ⟨_, _, _, _, _, _, rfl, _⟩ := h; rfl
  · obtain ⟨co, bl, code, C, bs, x0, rfl, hc, it, hb, ncb, lb, Cn, c0, h⟩ := h
    walk_at "kk"
    intro kn hkn
    refine ⟨upd_same, by decide, fun pd hpd => ?_⟩
    have nkp : kn ≠ pd := ne_of_none upd_same hpd
    have hpd0 : H pd = none := by walk_at "nn"
    have f0 : KW.Fr [bl] H (upd (upd H kn (.dK [(.inl (x0.1 : Int), .int 0)])) pd (.lst [.int x0.1])) := (Fr.new hkn).trans (Fr.new (by rw [upd_ne (Ne.symm nkp)]; exact hpd0))
    have g0 : upd (upd H kn (.dK [(.inl (x0.1 : Int), .int 0)])) pd (.lst [.int x0.1]) kn = some (.dK [(.inl (x0.1 : Int), .int 0)]) := by rw [upd_ne nkp, upd_same]
    have k0 : upd (upd H kn (.dK [(.inl (x0.1 : Int), .int 0)])) pd (.lst [.int x0.1]) pd = some (.lst [.int x0.1]) := upd_same
    have b0 : upd (upd H kn (.dK [(.inl (x0.1 : Int), .int 0)])) pd (.lst [.int x0.1]) bl = some (.lst (bs.map V.int)) := by
      rw [upd_ne (ne_of_none hb hpd0), upd_ne (ne_of_none hb hkn)]; exact hb
    have nbk : bl ≠ kn := ne_of_none hb hkn
    have nbp : bl ≠ pd := ne_of_none hb hpd0
    revert f0 g0 k0 b0
    generalize upd (upd H kn (.dK [(.inl (x0.1 : Int), .int 0)])) pd (.lst [.int x0.1]) = H0
    intro f0 g0 k0 b0
    have hn : 0 < C.length := (List.getElem?_eq_some_iff.mp c0).1
    have hsm := Cn.sm
    have fx : ∀ {H1 : Hp} (o : HO), KW.Fr [bl] H H1 → KW.Fr [bl] H (upd H1 kn o) := fun {H1} o f b o' hb' e => by
      rw [upd_ne (ne_of_none e hkn)]; exact f b o' hb' e
    have fy : ∀ {H1 : Hp} (o : HO), KW.Fr [bl] H H1 → KW.Fr [bl] H (upd H1 pd o) := fun {H1} o f b o' hb' e => by
      rw [upd_ne (ne_of_none e hpd0)]; exact f b o' hb' e
    obtain ⟨KN, hKN⟩ : ∃ KN : Nat → List (Key × V) → Prop, KN = fun i kvs => (∀ (j : Nat) (x : Nat × Str × Int), j ≤ i → C[j]? = some x → valV kvs (.inl (x.1 : Int)) = some (.int (hC C j))) ∧ (∀ p : Int, (valV kvs (.inl p)).isSome = true → ∃ (j : Nat) (x : Nat × Str × Int), j ≤ i ∧ C[j]? = some x ∧ p = x.1) ∧ kvs.length ≤ i + 1 := ⟨_, rfl⟩
    obtain ⟨Pv, hPv⟩ : ∃ Pv : Nat → L2.St → Hp → Prop, Pv = fun m σ H' => ∃ i kvs v6 v7 v8 v9 v10, i ≤ C.length ∧ m = C.length - i ∧ σ = [some (.ref co), some (.int x0.1), some (.ref bl), some (.ref kn), some (.ref pd), some (.int (mC C i)), v6, v7, v8, v9, v10] ∧ H' kn = some (.dK kvs) ∧ IL H' pd (((C.drop i).take 1).map fun x => (x.1 : Int)) ∧ KN i kvs ∧ IL H' bl (bs ++ bC C i) ∧ KW.Fr [bl] H H' := ⟨_, rfl⟩
    refine ⟨Pv, ⟨C.length, ?_⟩, ?_⟩
    · rw [hPv]
      refine ⟨0, _, _, _, _, _, _, by omega, rfl, rfl, g0, ?_, ?_, ?_, f0⟩
      · have e : (C.drop 0).take 1 = [x0] := by
          cases C with
          | nil => cases c0
          | cons y C => simp at c0; subst c0; rfl
        show _ = _
        rw [e]; exact k0
      · rw [hKN]
        refine ⟨fun j x hj hx => ?_, fun p hp => ⟨0, x0, Nat.le_refl _, c0, ?_⟩, by simp⟩
        · have : j = 0 := by omega
          subst this
          rw [c0] at hx; cases hx
          simp [valV, hC]
        · by_cases c : p = x0.1
          · exact c
          · rw [ST.valV_some] at hp; simp at hp; exact hp
      · show _ = _
        rw [show bC C 0 = [] by simp [bC], List.append_nil]; exact b0
    rintro m σ H1 hP
    rw [hPv] at hP
    obtain ⟨i, kvs, v6, v7, v8, v9, v10, hi, rfl, rfl, g1, k1, KNi, b1, f1⟩ := hP
    by_cases ci : i = C.length
    · subst ci
      have e : (C.drop C.length).take 1 = [] := by simp
      rw [e] at k1
      replace k1 : H1 pd = some (.lst []) := k1
      walk_at "kk"
      rw [if_neg (by simp)]
      exact h H1 b1 f1
    · obtain ⟨x, hx⟩ : ∃ x, C[i]? = some x := ⟨_, List.getElem?_eq_getElem (by omega)⟩
      have e : (C.drop i).take 1 = [x] := by
        rw [List.take_one, List.head?_drop, hx]; rfl
      rw [e] at k1
      replace k1 : H1 pd = some (.lst [.int x.1]) := k1
      obtain ⟨t, ht⟩ := Cn.lk i x hx
      have nxx := Cn.nx i x hx
      have at1 : atI (code.map fun x => V.ref x.1) (x.1 : Int) = some (.ref t) := atI_map ht
      have htt := f1 _ _ (fun z => by rw [List.mem_singleton] at z; have := it _ (List.mem_of_getElem? ht); rw [z, hb] at this; cases this) (it _ (List.mem_of_getElem? ht))
      have hc1 := f1 _ _ (by simp [ncb]) hc
      have kni : valV kvs (.inl (x.1 : Int)) = some (.int (hC C i)) := by rw [hKN] at KNi; exact KNi.1 i x (Nat.le_refl _) hx
      walk_at "kk"
      refine ⟨pd, [.int x.1], 0, 0, .int x.1, rfl, rfl, k1, by decide, by decide, rfl, rfl, ?_⟩
      have f2 := fy (.lst ([V.int x.1].eraseIdx 0)) f1
      have k2 : upd H1 pd (.lst ([V.int x.1].eraseIdx 0)) pd = some (.lst []) := upd_same
      have g2 : upd H1 pd (.lst ([V.int x.1].eraseIdx 0)) kn = some (.dK kvs) := by rw [upd_ne nkp]; exact g1
      have b2 : upd H1 pd (.lst ([V.int x.1].eraseIdx 0)) bl = some (.lst ((bs ++ bC C i).map V.int)) := by rw [upd_ne nbp]; exact b1
      revert f2 k2 g2 b2
      generalize upd H1 pd (.lst ([V.int x.1].eraseIdx 0)) = H2
      intro f2 k2 g2 b2
      clear htt hc1 k1 g1 b1 f1
      have htt := f2 _ _ (fun z => by rw [List.mem_singleton] at z; have := it _ (List.mem_of_getElem? ht); rw [z, hb] at this; cases this) (it _ (List.mem_of_getElem? ht))
      have hc2 := f2 _ _ (by simp [ncb]) hc
      walk_at "kk"
      refine ⟨x.2.1, x.2.2, rfl, fun H3 f3 => ?_⟩
      have k3 := f3 _ _ (by simp) k2
      have g3 := f3 _ _ (by simp) g2
      have b3 := f3 _ _ (by simp) b2
      have F3 : KW.Fr [bl] H H3 := f2.trans (f3.mono (by simp))
      walk_at "kk"
      rw [← hC_succ hx]
      have lbC : (bC C i).length ≤ 100 := by
        unfold bC
        rw [List.length_map]
        have := List.length_filter_le (fun x : Nat × Str × Int => decide (x.2.1 = S [98, 108, 111, 99, 107])) (C.take i)
        rw [List.length_take] at this; omega
      refine ⟨fun σ H' => σ = [some (.ref co), some (.int x0.1), some (.ref bl), some (.ref kn), some (.ref pd), some (.int (mC C (i + 1))), some (.int x.1), some (.str x.2.1), some (.int x.2.2), some (.int (hC C (i + 1))), v10] ∧ H' kn = some (.dK kvs) ∧ IL H' pd [] ∧ IL H' bl (bs ++ bC C (i + 1)) ∧ KW.Fr [bl] H H', ?_, ?_⟩
      · walk_at "kk"
        have bsc := bC_succ hx
        split
        · rename_i c
          rw [if_pos c] at bsc
          refine ⟨.inl ⟨_, .of b3⟩, app_l b3 (lt_line (by rw [List.length_map, List.length_append]; omega)) ⟨rfl, by rw [upd_ne (Ne.symm nbk)]; exact g3, by show _ = _; rw [upd_ne (Ne.symm nbp)]; exact k3, ?_, F3.trans (Fr.upd (by simp))⟩⟩
          show _ = _
          rw [upd_same, bsc]; simp
        · rename_i c
          rw [if_neg c] at bsc
          exact ⟨rfl, g3, k3, by rw [bsc]; exact b3, F3⟩
      rintro σ H4 ⟨rfl, g4, k4, b4, F4⟩
      walk_at "kk"
      refine ⟨x.2.1, x.2.2, x.1, rfl, fun l H5 hl il f5 => ?_⟩
      have g5 := f5 _ _ (by simp) g4
      have k5 := f5 _ _ (by simp) k4
      have b5 := f5 _ _ (by simp) b4
      have F5 : KW.Fr [bl] H H5 := F4.trans (f5.mono (by simp))
      have nlk : l ≠ kn := (ne_of_none g4 hl).symm
      have nlp : l ≠ pd := (ne_of_none k4 hl).symm
      rw [nxx] at il
      refine ⟨l, rfl, ⟨_, .of il⟩, ?_⟩
      generalize hDD : ({ nx := _, rt := Q, bk := _, ct := _ } : Ends) = DD
      cases hy : C[i + 1]? with
      | none =>
        rw [hy] at il
        have li : i + 1 = C.length := by
          have := List.getElem?_eq_none_iff.mp hy
          omega
        refine for_lst (xs := []) (fun _ σ H' => σ = [some (.ref co), some (.int x0.1), some (.ref bl), some (.ref kn), some (.ref pd), some (.int (mC C (i + 1))), some (.int x.1), some (.str x.2.1), some (.int x.2.2), some (.int (hC C (i + 1))), v10] ∧ H' = H5) ⟨rfl, rfl⟩ ?_ ?_ ?_
        · rintro k σ H' _ ⟨rfl, rfl⟩
          exact .of il
        · intro k v σ H' hv _
          simp at hv
        · rintro σ H' ⟨rfl, rfl⟩
          subst hDD
          refine ⟨C.length - (i + 1), by omega, ?_⟩
          rw [hPv]
          refine ⟨i + 1, kvs, _, _, _, _, _, by omega, rfl, rfl, g5, ?_, ?_, b5, F5⟩
          · rw [show (C.drop (i + 1)).take 1 = [] by rw [li]; simp]; exact k5
          · rw [hKN] at KNi ⊢
            refine ⟨fun j z hj hz => ?_, fun p hp => ?_, by have := KNi.2.2; omega⟩
            · have : j < C.length := (List.getElem?_eq_some_iff.mp hz).1
              exact KNi.1 j z (by omega) hz
            · obtain ⟨j, z, h1, h2, h3⟩ := KNi.2.1 p hp
              exact ⟨j, z, by omega, h2, h3⟩
      | some y =>
        rw [hy] at il
        have ny : valV kvs (.inl (y.1 : Int)) = none := by
          cases e : valV kvs (.inl (y.1 : Int)) with
          | none => rfl
          | some v =>
            rw [hKN] at KNi
            obtain ⟨j, z, h1, h2, h3⟩ := KNi.2.1 y.1 (by rw [e]; rfl)
            have e1 : (C.map (·.1))[j]? = some z.1 := by rw [List.getElem?_map, h2]; rfl
            have e2 : (C.map (·.1))[i + 1]? = some z.1 := by rw [List.getElem?_map, hy]; simp; omega
            have := (List.getElem?_inj (List.getElem?_eq_some_iff.mp e1).1 Cn.nd).mp (e1.trans e2.symm)
            omega
        obtain ⟨Pw, hPw⟩ : ∃ Pw : Nat → L2.St → Hp → Prop, Pw = fun k σ H' => (∃ w10, σ = [some (.ref co), some (.int x0.1), some (.ref bl), some (.ref kn), some (.ref pd), some (.int (mC C (i + 1))), some (.int x.1), some (.str x.2.1), some (.int x.2.2), some (.int (hC C (i + 1))), w10]) ∧ H' l = some (.lst [.int y.1]) ∧ H' bl = some (.lst ((bs ++ bC C (i + 1)).map V.int)) ∧ KW.Fr [bl] H H' ∧
          (k = 0 → H' kn = some (.dK kvs) ∧ H' pd = some (.lst [])) ∧ (k = 1 → H' kn = some (.dK (putK kvs (.inl (y.1 : Int)) (.int (hC C (i + 1))))) ∧ H' pd = some (.lst [.int y.1])) := ⟨_, rfl⟩
        refine for_lst (xs := [V.int y.1]) Pw (by rw [hPw]; exact ⟨⟨_, rfl⟩, il, b5, F5, fun _ => ⟨g5, k5⟩, fun z => by omega⟩) ?_ ?_ ?_
        · intro k σ H' _ hp
          rw [hPw] at hp
          exact .of hp.2.1
        · intro k v σ H6 hv hp
          rw [hPw] at hp
          obtain ⟨⟨w10, rfl⟩, i6, b6, F6, z0, -⟩ := hp
          have hk : k = 0 := by
            have := (List.getElem?_eq_some_iff.mp hv).1
            simp at this; exact this
          subst hk
          obtain ⟨g6, k6⟩ := z0 rfl
          have hv' : v = .int y.1 := by simpa using hv.symm
          subst hv'
          have nbl : bl ≠ l := (fun z => by rw [← z] at hl; rw [b4] at hl; cases hl)
          subst hDD
          walk_at "kk"
          have hk3 : kvs.length ≤ i + 1 := by rw [hKN] at KNi; exact KNi.2.2
          rw [ny, if_pos (show (none : Option V).isSome = false from rfl)]
          refine dput_i g6 (lt_line (by omega)) ?_
          have k7 : upd H6 kn (.dK (putK kvs (.inl (y.1 : Int)) (.int (hC C (i + 1))))) pd = some (.lst []) := by rw [upd_ne (Ne.symm nkp)]; exact k6
          refine ⟨.inl ⟨_, .of k7⟩, app_l k7 (lt_line (by simp)) ?_⟩
          rw [hPw]
          refine ⟨⟨_, rfl⟩, by rw [upd_ne nlp, upd_ne nlk]; exact i6, by rw [upd_ne nbp, upd_ne nbk]; exact b6, fy _ (fx _ F6), fun z => by omega, fun _ => ⟨by rw [upd_ne nkp, upd_same], by rw [upd_same]; rfl⟩⟩
        · intro σ H6 hp
          rw [hPw] at hp
          obtain ⟨⟨w10, rfl⟩, i6, b6, F6, -, z1⟩ := hp
          obtain ⟨g6, k6⟩ := z1 rfl
          subst hDD
          refine ⟨C.length - (i + 1), by omega, ?_⟩
          rw [hPv]
          refine ⟨i + 1, _, _, _, _, _, _, by omega, rfl, rfl, g6, ?_, ?_, b6, F6⟩
          · rw [show (C.drop (i + 1)).take 1 = [y] by rw [List.take_one, List.head?_drop, hy]; rfl]; exact k6
          · rw [hKN] at KNi ⊢
            refine ⟨fun j z hj hz => ?_, fun p hp => ?_, ?_⟩
            · rw [ST.valV_putI]
              by_cases c : j = i + 1
              · subst c; rw [hy] at hz; cases hz; rw [if_pos rfl]
              · have vz := KNi.1 j z (by omega) hz
                rw [if_neg (fun e => by rw [e, ny] at vz; cases vz)]; exact vz
            · rw [ST.valV_putI] at hp
              by_cases c : p = y.1
              · exact ⟨i + 1, y, Nat.le_refl _, hy, c⟩
              · rw [if_neg c] at hp
                obtain ⟨j, z, h1, h2, h3⟩ := KNi.2.1 p hp
                exact ⟨j, z, by omega, h2, h3⟩
            · have := congrArg List.length (ST.putK_new (v := V.int (hC C (i + 1))) ny)
              rw [List.length_map, List.length_append, List.length_map] at this
              have := KNi.2.2
              simp at *; omega
abbrev oSelf : Str := S [115, 101, 108, 102]
abbrev oRet : Str := S [114, 101, 116, 117, 114, 110]
abbrev oBlk : Str := S [98, 108, 111, 99, 107]
abbrev oJmp : Str := S [106, 117, 109, 112]
abbrev oNil : Str := S [110, 105, 108]
abbrev oLv : Str := S [108, 101, 97, 118, 101]
theorem ch_M {t0 t1 : Addr} : Chain [(t0, oSelf, 0), (t1, oRet, 0)] [(0, oSelf, 0), (1, oRet, 0)] := by
  refine ⟨by decide, by decide, fun i x hx => ?_, fun i x hx => ?_⟩
  all_goals match i, hx with
    | 0, hx => ?_
    | 1, hx => ?_
  all_goals (simp at hx; subst hx)
  · exact ⟨t0, rfl⟩
  · exact ⟨t1, rfl⟩
  · show nxt oSelf 0 0 = [1]; decide +kernel
  · show nxt oRet 0 1 = []; decide +kernel
theorem ch_B {t0 t1 t2 t3 t4 : Addr} : Chain [(t0, oBlk, 0), (t1, oJmp, 4), (t2, oNil, 0), (t3, oLv, 0), (t4, oRet, 0)] [(0, oBlk, 0), (1, oJmp, 4), (4, oRet, 0)] := by
  refine ⟨by decide, by decide, fun i x hx => ?_, fun i x hx => ?_⟩
  all_goals match i, hx with
    | 0, hx => ?_
    | 1, hx => ?_
    | 2, hx => ?_
  all_goals (simp at hx; subst hx)
  · exact ⟨t0, rfl⟩
  · exact ⟨t1, rfl⟩
  · exact ⟨t4, rfl⟩
  · show nxt oBlk 0 0 = [1]; decide +kernel
  · show nxt oJmp 4 1 = [4]; decide +kernel
  · show nxt oRet 0 4 = []; decide +kernel
theorem ch_B2 {t0 t1 t2 t3 t4 : Addr} : Chain [(t0, oBlk, 0), (t1, oJmp, 4), (t2, oNil, 0), (t3, oLv, 0), (t4, oRet, 0)] [(2, oNil, 0), (3, oLv, 0)] := by
  refine ⟨by decide, by decide, fun i x hx => ?_, fun i x hx => ?_⟩
  all_goals match i, hx with
    | 0, hx => ?_
    | 1, hx => ?_
  all_goals (simp at hx; subst hx)
  · exact ⟨t2, rfl⟩
  · exact ⟨t3, rfl⟩
  · show nxt oNil 0 2 = [3]; decide +kernel
  · show nxt oLv 0 3 = []; decide +kernel
theorem mC_B2 : mC [(2, oNil, 0), (3, oLv, 0)] 2 = 1 := by decide +kernel
theorem bC_M : bC [(0, oSelf, 0), (1, oRet, 0)] 2 = [] := by decide +kernel
theorem bC_B : bC [(0, oBlk, 0), (1, oJmp, 4), (4, oRet, 0)] 3 = [0] := by decide +kernel
theorem bC_B2 : bC [(2, oNil, 0), (3, oLv, 0)] 2 = [] := by decide +kernel
def spWS : Sp := fun vs H Q _ => ∃ (co li : Addr), vs = [.ref co, .ref li] ∧ co ≠ li ∧
  ((∃ t0 t1, H co = some (.lst [.ref t0, .ref t1]) ∧ H t0 = some (.tup [.str oSelf, .int 0]) ∧ H t1 = some (.tup [.str oRet, .int 0]) ∧ H li = some (.lst []) ∧
    ∀ t r m H', KW.Fr [] H H' → H' t = some (.tup [.int m, .ref r]) → H' r = some (.lst []) → Q (.ref t) H') ∨
  (∃ (t0 t1 t2 t3 t4 tl : Addr) (np nn : Int), H co = some (.lst [.ref t0, .ref t1, .ref t2, .ref t3, .ref t4]) ∧ H t0 = some (.tup [.str oBlk, .int 0]) ∧ H t1 = some (.tup [.str oJmp, .int 4]) ∧ H t2 = some (.tup [.str oNil, .int 0]) ∧ H t3 = some (.tup [.str oLv, .int 0]) ∧ H t4 = some (.tup [.str oRet, .int 0]) ∧
    H li = some (.lst [.ref tl]) ∧ H tl = some (.tup [.str oBlk, .int np, .int nn, .int 2, .int 0]) ∧
    ∀ t r m tn H', KW.Fr [] H H' → H' t = some (.tup [.int m, .ref r]) → H' r = some (.lst [.ref tn]) → H' tn = some (.tup [.str oBlk, .int np, .int nn, .int 2, .int 1]) → Q (.ref t) H'))
theorem ok_with_stacks (T : Txt P w K mg a) : Cal P w K mg base 3 "with_stacks" spWS := by
  have C_greatest_height := ok_greatest_height (P := P) (w := w) (base := base) T
  refine T.d_with_stacks.ok sc_with_stacks (fun vs H Q E h => ?_) (fun f cdv A outer s H vs Q E hr h => ⟨_, (pss_cons (ps_set (i := 2) sc_with_stacks.nd rfl (Or.inl rfl) (pe_callTy c_list (by rfl) T.n_list (by decide +kernel) (pa_cons (kv 1) pa_nil)))
      (pss_cons (ps_set (i := 3) sc_with_stacks.nd rfl (Or.inl rfl) (pe_lst pa_nil))
      (pss_cons (ps_set (i := 4) sc_with_stacks.nd rfl (Or.inl rfl) (kc C_greatest_height (hr.mono (by decide)) (pa_cons (kv 0) (pa_cons pe_int (pa_cons (kv 3) pa_nil)))))
      (pss_cons (ps_set (i := 5) sc_with_stacks.nd rfl (Or.inl rfl) pe_int)
      (pss_cons (k_while (passes_of rfl) (pt_cmpR o_lt (kv 5) (pe_callB c_len (by rfl) T.n_len (by decide +kernel) (pa_cons (kv 3) pa_nil)) (nomark _))
      (pss_cons (ps_set (i := 6) sc_with_stacks.nd rfl (Or.inl rfl) (pe_ix o_ix (kv 2) (pe_ix o_ix (kv 3) (kv 5) (fun _ _ => rfl)) (fun _ _ => rfl)))
      (pss_cons (ps_set (i := 7) sc_with_stacks.nd rfl (Or.inl rfl) (kc C_greatest_height (hr.mono (by decide)) (pa_cons (kv 0) (pa_cons (pe_ix o_ix (kv 6) pe_int (fun _ _ => rfl)) (pa_cons (kv 3) pa_nil)))))
      (pss_cons (ps_asg (pe_op o_add (pe_slice o_slA (kv 6) po_none (po_some pe_int)) (pe_tup (pa_cons (kv 7) pa_nil))) (pg_sub (kv 2) (pe_ix o_ix (kv 3) (kv 5) (fun _ _ => rfl)) s_set))
      (pss_one (ps_aug (i := 5) sc_with_stacks.nd rfl (Or.inl rfl) pe_int o_iadd))))))
      (pss_one (ps_ret (pe_tup (pa_cons (kv 4) (pa_cons (kv 2) pa_nil)))))))))), ?_⟩)
  · obtain ⟨_, _, rfl, _⟩ := h; rfl
  · obtain ⟨co, li, rfl, ncl, h⟩ := h
    rcases h with ⟨t0, t1, hc, h0, h1, hl, h⟩ | ⟨t0, t1, t2, t3, t4, tl, np, nn, hc, h0, h1, h2, h3, h4, hl, htl, h⟩
    · walk_at "kk"
      intro r hr0
      walk_at "kk"
      intro bl hbl
      have hbl0 : H bl = none := by walk_at "nn"
      have nrb : r ≠ bl := ne_of_none upd_same hbl
      have f1 : KW.Fr [] H (upd (upd H r (.lst [])) bl (.lst [])) := (Fr.new hr0).trans (Fr.new hbl)
      have g1 : upd (upd H r (.lst [])) bl (.lst []) bl = some (.lst (([] : List Int).map V.int)) := upd_same
      have k1 : upd (upd H r (.lst [])) bl (.lst []) r = some (.lst []) := by rw [upd_ne nrb, upd_same]
      revert f1 g1 k1
      generalize upd (upd H r (.lst [])) bl (.lst []) = H1
      intro f1 g1 k1
      refine ⟨co, bl, [(t0, oSelf, 0), (t1, oRet, 0)], [(0, oSelf, 0), (1, oRet, 0)], [], (0, oSelf, 0), rfl, f1 _ _ (by simp) hc, fun x hx => ?_, g1, ne_of_none hc hbl0, by simp, ch_M, rfl, fun H2 ib f2 => ?_⟩
      · simp only [List.mem_cons, List.not_mem_nil, or_false] at hx
        rcases hx with rfl | rfl
        · exact f1 _ _ (by simp) h0
        · exact f1 _ _ (by simp) h1
      replace ib : H2 bl = some (.lst []) := by
        have e : IL H2 bl ([] ++ bC [(0, oSelf, 0), (1, oRet, 0)] 2) := ib
        rw [bC_M] at e; exact e
      have F2 : KW.Fr [] H H2 := fun b o _ hb => f2 b o (by simp; exact ne_of_none hb hbl0) (f1 b o (by simp) hb)
      have k2 := f2 _ _ (by simp [nrb]) k1
      refine ⟨fun m σ H' => σ = [some (.ref co), some (.ref li), some (.ref r), some (.ref bl), some (.int (mC [(0, oSelf, 0), (1, oRet, 0)] 2)), some (.int 0), none, none] ∧ H' = H2, ⟨0, rfl, rfl⟩, ?_⟩
      rintro m σ H3 ⟨rfl, rfl⟩
      walk_at "kk"
      exact fun t ht => h t r _ _ (F2.trans (Fr.new ht)) upd_same (by rw [upd_ne (ne_of_none k2 ht)]; exact k2)
    · walk_at "kk"
      intro r hr0
      refine ⟨by decide, fun bl hbl => ?_⟩
      have hbl0 : H bl = none := by walk_at "nn"
      have nrb : r ≠ bl := ne_of_none upd_same hbl
      have f1 : KW.Fr [] H (upd (upd H r (.lst [.ref tl])) bl (.lst [])) := (Fr.new hr0).trans (Fr.new hbl)
      have g1 : upd (upd H r (.lst [.ref tl])) bl (.lst []) bl = some (.lst (([] : List Int).map V.int)) := upd_same
      have k1 : upd (upd H r (.lst [.ref tl])) bl (.lst []) r = some (.lst [.ref tl]) := by rw [upd_ne nrb, upd_same]
      revert f1 g1 k1
      generalize upd (upd H r (.lst [.ref tl])) bl (.lst []) = H1
      intro f1 g1 k1
      have ncb := ne_of_none hc hbl0
      have its : ∀ {H1 : Hp}, KW.Fr [] H H1 → ∀ x ∈ [(t0, oBlk, (0 : Int)), (t1, oJmp, 4), (t2, oNil, 0), (t3, oLv, 0), (t4, oRet, 0)], H1 x.1 = some (.tup [.str x.2.1, .int x.2.2]) := fun {H1} f1 x hx => by
        simp only [List.mem_cons, List.not_mem_nil, or_false] at hx
        rcases hx with rfl | rfl | rfl | rfl | rfl
        · exact f1 _ _ (by simp) h0
        · exact f1 _ _ (by simp) h1
        · exact f1 _ _ (by simp) h2
        · exact f1 _ _ (by simp) h3
        · exact f1 _ _ (by simp) h4
      refine ⟨co, bl, [(t0, oBlk, 0), (t1, oJmp, 4), (t2, oNil, 0), (t3, oLv, 0), (t4, oRet, 0)], [(0, oBlk, 0), (1, oJmp, 4), (4, oRet, 0)], [], (0, oBlk, 0), rfl, f1 _ _ (by simp) hc, its f1, g1, ncb, by simp, ch_B, rfl, fun H2 ib f2 => ?_⟩
      replace ib : H2 bl = some (.lst [.int 0]) := by
        have e : IL H2 bl ([] ++ bC [(0, oBlk, 0), (1, oJmp, 4), (4, oRet, 0)] 3) := ib
        rw [bC_B] at e; exact e
      have F2 : KW.Fr [] H H2 := fun b o _ hb => f2 b o (by simp; exact ne_of_none hb hbl0) (f1 b o (by simp) hb)
      have k2 := f2 _ _ (by simp [nrb]) k1
      generalize hms : mC [(0, oBlk, 0), (1, oJmp, 4), (4, oRet, 0)] [((0 : Nat), oBlk, (0 : Int)), (1, oJmp, 4), (4, oRet, 0)].length = ms
      obtain ⟨Pv, hPv⟩ : ∃ Pv : Nat → L2.St → Hp → Prop, Pv = fun m σ H' => (m = 1 ∧ σ = [some (.ref co), some (.ref li), some (.ref r), some (.ref bl), some (.int ms), some (.int 0), none, none] ∧ H' = H2) ∨
        (m = 0 ∧ ∃ v6 v7 tn, σ = [some (.ref co), some (.ref li), some (.ref r), some (.ref bl), some (.int ms), some (.int 1), v6, v7] ∧ KW.Fr [] H H' ∧ H' bl = some (.lst [.int 0]) ∧ H' r = some (.lst [.ref tn]) ∧ H' tn = some (.tup [.str oBlk, .int np, .int nn, .int 2, .int 1])) := ⟨_, rfl⟩
      refine ⟨Pv, ⟨1, by rw [hPv]; exact .inl ⟨rfl, rfl, rfl⟩⟩, ?_⟩
      intro m σ H3 hP
      rw [hPv] at hP
      rcases hP with ⟨rfl, rfl, rfl⟩ | ⟨rfl, v6, v7, tn, rfl, F3, b3, r3, n3⟩
      · have htl3 := F2 _ _ (by simp) htl
        walk_at "kk"
        rw [if_pos (by simp)]
        walk_at "kk"
        refine ⟨co, bl, [(t0, oBlk, 0), (t1, oJmp, 4), (t2, oNil, 0), (t3, oLv, 0), (t4, oRet, 0)], [(2, oNil, 0), (3, oLv, 0)], [0], (2, oNil, 0), rfl, F2 _ _ (by simp) hc, its F2, ib, ncb, by simp, ch_B2, rfl, fun H4 ib4 f4 => ?_⟩
        replace ib4 : H4 bl = some (.lst [.int 0]) := by
          have e : IL H4 bl ([0] ++ bC [(2, oNil, 0), (3, oLv, 0)] 2) := ib4
          rw [bC_B2] at e; exact e
        have F4 : KW.Fr [] H H4 := fun b o _ hb => f4 b o (by simp; exact ne_of_none hb hbl0) (F2 b o (by simp) hb)
        have k4 := f4 _ _ (by simp [nrb]) k2
        have htl4 := F4 _ _ (by simp) htl
        rw [show mC [(2, oNil, 0), (3, oLv, 0)] [((2 : Nat), oNil, (0 : Int)), (3, oLv, 0)].length = 1 from mC_B2]
        walk_at "kk"
        refine .inr ⟨tl, _, rfl, .inl (.of htl4), fun z => absurd z.2 (show ¬ HT.sIx 5 5 (some 4) = 5 by decide), fun _ s1 hs1 => ?_⟩
        rw [show cutV [V.str oBlk, .int np, .int nn, .int 2, .int 0] none (some 4) = [V.str oBlk, .int np, .int nn, .int 2] from rfl]
        have f5 : KW.Fr [] H4 (upd H4 s1 (.tup [.str oBlk, .int np, .int nn, .int 2])) := Fr.new hs1
        have g5 : upd H4 s1 (.tup [.str oBlk, .int np, .int nn, .int 2]) s1 = some (.tup [.str oBlk, .int np, .int nn, .int 2]) := upd_same
        revert f5 g5
        generalize upd H4 s1 (.tup [.str oBlk, .int np, .int nn, .int 2]) = H5
        intro f5 g5
        walk_at "kk"
        intro p1 hp1
        have f6 : KW.Fr [] H5 (upd H5 p1 (.tup [.int 1])) := Fr.new hp1
        have g6 : upd H5 p1 (.tup [.int 1]) p1 = some (.tup [.int 1]) := upd_same
        have g6' : upd H5 p1 (.tup [.int 1]) s1 = some (.tup [.str oBlk, .int np, .int nn, .int 2]) := f6 _ _ (by simp) g5
        revert f6 g6 g6'
        generalize upd H5 p1 (.tup [.int 1]) = H6
        intro f6 g6 g6'
        refine .inr ⟨s1, p1, _, _, rfl, rfl, .inl (.of g6'), .inl (.of g6), by simp, le_line (by simp), fun z => (by cases z), fun _ q1 hq1 => ?_⟩
        have f7 : KW.Fr [] H6 (upd H6 q1 (.tup ([V.str oBlk, .int np, .int nn, .int 2] ++ [V.int 1]))) := Fr.new hq1
        have g7 : upd H6 q1 (.tup ([V.str oBlk, .int np, .int nn, .int 2] ++ [V.int 1])) q1 = some (.tup [.str oBlk, .int np, .int nn, .int 2, .int 1]) := upd_same
        have f47 := (f5.trans f6).trans f7
        revert f47 g7
        generalize upd H6 q1 (.tup ([V.str oBlk, .int np, .int nn, .int 2] ++ [V.int 1])) = H7
        intro g7 f47
        have b7 := f47 _ _ (by simp) ib4
        have k7 := f47 _ _ (by simp) k4
        have ix7 : ixN [V.ref tl].length 0 = some 0 := rfl
        walk_at "kk"
        refine ⟨0, by omega, ?_⟩
        rw [hPv]
        have nrq : q1 ≠ r := fun z => by rw [z, k7] at g7; cases g7
        refine .inr ⟨rfl, _, _, q1, rfl, fun b o _ hb => ?_, by rw [upd_ne (Ne.symm nrb)]; exact b7, upd_same, by rw [upd_ne nrq]; exact g7⟩
        rw [upd_ne (ne_of_none hb hr0)]
        exact f47 b o (by simp) (F4 b o (by simp) hb)
      · walk_at "kk"
        exact fun t ht => h t r ms tn _ (F3.trans (Fr.new ht)) upd_same (by rw [upd_ne (ne_of_none r3 ht)]; exact r3) (by rw [upd_ne (ne_of_none n3 ht)]; exact n3)
end
end K17

set_option Elab.async false
set_option linter.all false
set_option maxRecDepth 100000
set_option maxHeartbeats 4000000
namespace K17
open PySem PySem.Spec PyProof.Rows L2 KW
local macro_rules | `(tactic| walk_at "kw") => `(tactic| simp only [tSeq, tNext, tIfS, tTest, tAnd, tOr, tNot, tAndV, tOrV, tNotV, tIf, tChain, tOp, tUn, tC, tAsg, gName, gSub, gCons, gNil, tRet, tRetN, tDrop, tCons, tNil, tCB, tAug, tSl, tPart, tNoPart, tLst, tTup, tBM, tBM0, uTest, uFor, iRng1, iRng2, iList, uCall, List.map_cons, List.map_nil, List.length_cons, List.length_nil, List.cons_append, List.nil_append, List.replicate, Nat.zero_add, Nat.reduceAdd, Nat.reduceSub, List.getElem?_cons_zero, List.getElem?_cons_succ, List.set_cons_zero, List.set_cons_succ, V.bl.injEq, V.int.injEq, V.str.injEq, V.ref.injEq, V.ty.injEq, List.cons.injEq, and_true, true_and, exists_eq_left', exists_eq_right, exists_eq_left, exists_and_left, exists_and_right, decide_eq_true_eq, Bool.not_eq_true', decide_eq_false_iff_not, Bool.false_eq_true, if_true, if_false, ite_true, ite_false, Bool.not_true, Bool.not_false, reduceCtorEq, decide_true, decide_false, Bool.not_not, isK_int_int, isK_int_bool, isK_int_str, isK_int_list, isK_int_tuple, isK_bool_int, isK_bool_bool, isK_bool_str, isK_str_str, isK_str_int, isK_str_bool, isK_str_tuple, isK_str_list, isK_list_list, isK_list_tuple, isK_tuple_tuple, isK_tuple_list, isOk_int_int, isOk_int_bool, isOk_int_str, isOk_int_list, isOk_int_tuple, isOk_bool_int, isOk_bool_bool, isOk_bool_str, isOk_str_str, isOk_str_int, isOk_str_bool, isOk_str_tuple, isOk_str_list, isOk_list_list, isOk_list_tuple, isOk_tuple_tuple, isOk_tuple_list, isK_dict_dict, isOk_dict_dict, isK_none_int, isK_none_bool, isOk_none_int, isOk_none_bool, tyV, S_inj, S_cat, L2.start, Nat.reduceSub, List.replicate_succ, List.replicate_zero, and_assoc, List.append_nil, Nat.reduceEqDiff, Option.some.injEq, Int.natCast_inj, upd_upd, Int.reducePow, Int.reduceToNat, Int.reduceMul, Int.reduceAdd, Int.reduceSub, Int.reduceLT, Int.reduceLE, Int.reduceNeg, Int.reduceDiv, Int.reduceMod, Nat.reducePow, Nat.reduceMul, S_len, List.length_append, List.length_map, List.length_range, not_true_eq_false, not_false_eq_true, ne_eq, uAdd_e1, uAdd_e2, uSub_e1, uMod_e1, uDiv_e1, uPow_e1, uShl_e1, uNeg_e1, uIAdd_e1, uIAdd_e2, uIAdd_e3, uISub_e1, uLt_e1, uLt_e2, uLe_e1, uGt_e1, uGe_e1, uEq_e1, uEq_e2, uEq_e3, uEq_e4, uEq_e5, uEq_e6, uEq_e7, uEq_e8, uEq_e9, uEq_e10, uEq_e11, uNe_e1, uNe_e2, uNe_e3, uNe_e4, uNe_e5, uNe_e6, uNe_e7, uNe_e8, uNe_e9, uNe_e10, uNe_e11, uIs_e1, uIs_e2, uIs_e3, uIs_e4, uIs_e5, uIs_e6, uIs_e7, uNotIs_e1, uNotIs_e2, uNotIs_e3, uNotIs_e4, uNotIs_e5, uNotIs_e6, uIn_e1, uIn_e2, uIn_e3, uIn_e4, uNotIn_e1, uNotIn_e2, uNotIn_e3, uNotIn_e4, uTru_e1, uTru_e2, uTru_e3, uTru_e4, uIx_e2, uSl_e2, uLen_e1, uAbs_e1, uInt_e1, uInt_e2, uMin2_e1, uIsi_e1, uIsi_e2, uIsi_e3, uIsi_e4, cx_K, uVar_0, uVar_n, uFld, uSFld, uMet, uMake, tDG, tDI, tDNI, tDP, tDD, uMk, uRaise, uDelSl, tCallS, L2.WE, uStr_e1, uStr_e2, uMul2_e1, uMul2_e2, okS_i, okS_s, List.zip_cons_cons, List.zip_nil_left, List.drop_zero, List.drop_succ_cons, List.drop_nil, putF_nil, putF_cons, eq_self, tDNewK, tB, Option.isSome_some, Option.isSome_none, false_and, false_or, or_false, exists_false, Int.zero_add, uLc, wipe, tYes, isEmpty_app, List.isEmpty_cons, List.isEmpty_nil, List.isEmpty_map, Bool.and_false, Bool.and_true, iRev, K17.lit_0, K17.lit_1, K17.lit_2, K17.lit_3, K17.lit_4, K17.lit_5, K17.lit_6, K17.lit_7, K17.lit_8, K17.lit_9, K17.lit_10, K17.lit_11, K17.lit_12, K17.lit_13, K17.lit_14, K17.lit_15, K17.lit_16, K17.lit_17, K17.lit_18, K17.lit_19, K17.lit_20, K17.lit_21, K17.lit_23, K17.lit_24, K17.lit_26, K17.lit_27, K17.lit_28, K17.lit_29, K17.lit_30, K17.lit_31, K17.lit_32, K17.lit_33, K17.lit_34, K17.lit_35, K17.lit_36, K17.fe_selector_argc, K17.fe_selector_locals, K17.fe_selector_stack, K17.fe_selector_code, K17.fe_selector_literals, K17.fe_argc_selector, K17.fe_argc_locals, K17.fe_argc_stack, K17.fe_argc_code, K17.fe_argc_literals, K17.fe_locals_selector, K17.fe_locals_argc, K17.fe_locals_stack, K17.fe_locals_code, K17.fe_locals_literals, K17.fe_stack_selector, K17.fe_stack_argc, K17.fe_stack_locals, K17.fe_stack_code, K17.fe_stack_literals, K17.fe_code_selector, K17.fe_code_argc, K17.fe_code_locals, K17.fe_code_stack, K17.fe_code_literals, K17.fe_literals_selector, K17.fe_literals_argc, K17.fe_literals_locals, K17.fe_literals_stack, K17.fe_literals_code, K17.fe_fields_globals_known, K17.fe_fields_code, K17.fe_fields_literals, K17.fe_fields_scopes, K17.fe_globals_known_fields, K17.fe_globals_known_code, K17.fe_globals_known_literals, K17.fe_globals_known_scopes, K17.fe_code_fields, K17.fe_code_globals_known, K17.fe_code_scopes, K17.fe_literals_fields, K17.fe_literals_globals_known, K17.fe_literals_scopes, K17.fe_scopes_fields, K17.fe_scopes_globals_known, K17.fe_scopes_code, K17.fe_scopes_literals, K17.fl_locals_0, K17.lf_locals_0, K17.fl_locals_1, K17.lf_locals_1, K17.fl_locals_2, K17.lf_locals_2, K17.fl_locals_3, K17.lf_locals_3, K17.fl_locals_4, K17.lf_locals_4, K17.fl_locals_5, K17.lf_locals_5, K17.fl_locals_6, K17.lf_locals_6, K17.fl_locals_7, K17.lf_locals_7, K17.fl_locals_8, K17.lf_locals_8, K17.fl_locals_9, K17.lf_locals_9, K17.fl_locals_10, K17.lf_locals_10, K17.fl_locals_11, K17.lf_locals_11, K17.fl_locals_12, K17.lf_locals_12, K17.fl_locals_13, K17.lf_locals_13, K17.fl_locals_14, K17.lf_locals_14, K17.fl_locals_15, K17.lf_locals_15, K17.fl_locals_16, K17.lf_locals_16, K17.fl_locals_17, K17.lf_locals_17, K17.fl_locals_18, K17.lf_locals_18, K17.fl_locals_19, K17.lf_locals_19, K17.fl_locals_20, K17.lf_locals_20, K17.fl_locals_21, K17.lf_locals_21, K17.fl_locals_23, K17.lf_locals_23, K17.fl_locals_24, K17.lf_locals_24, K17.fl_locals_25, K17.lf_locals_25, K17.fl_locals_26, K17.lf_locals_26, K17.fl_locals_27, K17.lf_locals_27, K17.fl_locals_28, K17.lf_locals_28, K17.fl_locals_29, K17.lf_locals_29, K17.fl_locals_30, K17.lf_locals_30, K17.fl_locals_31, K17.lf_locals_31, K17.fl_locals_32, K17.lf_locals_32, K17.fl_locals_33, K17.lf_locals_33, K17.fl_locals_34, K17.lf_locals_34, K17.fl_locals_35, K17.lf_locals_35, K17.fl_locals_36, K17.lf_locals_36, K17.fl_selector_0, K17.lf_selector_0, K17.fl_selector_1, K17.lf_selector_1, K17.fl_selector_2, K17.lf_selector_2, K17.fl_selector_3, K17.lf_selector_3, K17.fl_selector_4, K17.lf_selector_4, K17.fl_selector_5, K17.lf_selector_5, K17.fl_selector_6, K17.lf_selector_6, K17.fl_selector_7, K17.lf_selector_7, K17.fl_selector_8, K17.lf_selector_8, K17.fl_selector_9, K17.lf_selector_9, K17.fl_selector_10, K17.lf_selector_10, K17.fl_selector_11, K17.lf_selector_11, K17.fl_selector_12, K17.lf_selector_12, K17.fl_selector_13, K17.lf_selector_13, K17.fl_selector_14, K17.lf_selector_14, K17.fl_selector_15, K17.lf_selector_15, K17.fl_selector_16, K17.lf_selector_16, K17.fl_selector_17, K17.lf_selector_17, K17.fl_selector_18, K17.lf_selector_18, K17.fl_selector_19, K17.lf_selector_19, K17.fl_selector_20, K17.lf_selector_20, K17.fl_selector_21, K17.lf_selector_21, K17.fl_selector_22, K17.lf_selector_22, K17.fl_selector_23, K17.lf_selector_23, K17.fl_selector_24, K17.lf_selector_24, K17.fl_selector_26, K17.lf_selector_26, K17.fl_selector_27, K17.lf_selector_27, K17.fl_selector_28, K17.lf_selector_28, K17.fl_selector_29, K17.lf_selector_29, K17.fl_selector_30, K17.lf_selector_30, K17.fl_selector_31, K17.lf_selector_31, K17.fl_selector_32, K17.lf_selector_32, K17.fl_selector_33, K17.lf_selector_33, K17.fl_selector_34, K17.lf_selector_34, K17.fl_selector_35, K17.lf_selector_35, K17.fl_selector_36, K17.lf_selector_36, uMetD, uMtD_e, uDict1, uD1_e1, uD1_e2, uMax3_e, uSlA_e1, uSlA_e2, uTuple_e, uLenDk_e, K17.N_change_of, K17.N_places_behind, K17.N_Draft_init, K17.N_Draft_parts, K17.N_Draft___eq__, K17.N_declared, K17.N_is_plain_block, K17.N_is_inlined, K17.N_Coder_init, K17.N_Coder_emit, K17.N_Coder_here, K17.N_Coder_aim, K17.N_Coder_literal, K17.N_Coder_found, K17.N_Coder_name, K17.N_Coder_assign, K17.N_Coder_sequence, K17.N_Coder_inline, K17.N_Coder_choice, K17.N_Coder_loop, K17.N_Coder_message, K17.N_Coder_send, K17.N_Coder_block, K17.N_Coder_expression, K17.N_greatest_height, K17.N_with_stacks, K17.N_compile_method, K17.N__law_cell, K17.N__law_told, K17.N_law])
local macro_rules | `(tactic| walk_at "nn") => `(tactic| first | assumption | exact ne_un (by assumption) | exact ne_un (ne_un (by assumption)) | exact ne_un (ne_un (ne_un (by assumption))) | exact ne_un (ne_un (ne_un (ne_un (by assumption)))))
local macro_rules | `(tactic| walk_at "ne") => `(tactic| first | assumption | (apply Ne.symm; assumption) | exact ne_ud (by assumption) | exact Ne.symm (ne_ud (by assumption)) | exact ne_ud (ne_un (by assumption)) | exact Ne.symm (ne_ud (ne_un (by assumption))) | exact ne_ud (ne_un (ne_un (by assumption))) | exact Ne.symm (ne_ud (ne_un (ne_un (by assumption)))) | exact ne_m (by assumption) (by assumption) | exact Ne.symm (ne_m (by assumption) (by assumption)) | exact ne_n (by assumption) (by walk_at "nn") | exact Ne.symm (ne_n (by assumption) (by walk_at "nn")))
local macro_rules | `(tactic| walk_at "hp") => `(tactic| first | assumption | exact upd_same | (refine Eq.trans (upd_ne ?_) ?_; (focus walk_at "ne"); walk_at "hp"))
local macro_rules | `(tactic| walk_at "sc") => `(tactic| first | (with_reducible assumption) | omega | exact le_line (by (try simp only [List.length_map, List.length_append, List.length_cons, List.length_nil, S_len]); omega) | exact div_s (by omega) | exact mul_r (by omega) | exact mul_l (by omega) | exact pow_s (by omega) | exact mul2_r (by omega) | exact mul2_l (by omega) | exact small4300 (by omega) | exact lt_line (by (try simp only [List.length_map, List.length_append, List.length_cons, List.length_nil, S_len]); omega) | exact ⟨_, by assumption⟩ | (guard_target =~ Exists _; exact ⟨_, .of (by walk_at "hp")⟩) | (guard_target =~ _ ∨ _; exact .inl ⟨_, by assumption⟩) | (guard_target =~ _ ∨ _; exact .inl ⟨_, .of (by walk_at "hp")⟩) | (guard_target =~ _ ∨ _; exact .inr (.inr (.inl ⟨rfl, .inl ⟨_, by walk_at "hp"⟩⟩))) | decide)
local macro_rules | `(tactic| walk_at "kr") => `(tactic| first | (guard_target =~ _ ∧ _; first | refine And.intro (by walk_at "sc") ?_) | (guard_target =~ KW.uIx _ _ _ _ _; first | refine ix_l (by walk_at "hp") (by first | walk_at "hv" | rfl) ?_ | refine ix_t (by walk_at "hp") (by first | walk_at "hv" | rfl) ?_ | refine ix_sl (by assumption) (by walk_at "hv") ?_) | (guard_target =~ KW.uLen _ _ _ _; first | refine len_l (by walk_at "hp") ?_ | refine len_t (by walk_at "hp") ?_ | refine len_sl (by assumption) ?_) | (guard_target =~ KW.uSet _ _ _ _ _; first | refine set_l (by walk_at "hp") (by first | walk_at "hv" | rfl) ?_) | (guard_target =~ L2.gTup _ _ _ _ _ _ _; first | refine tup_l (by walk_at "hp") (by rfl) ?_) | (guard_target =~ KW.uGet _ _ _ _ _; first | refine get_l (by walk_at "hp") (by walk_at "hc") (by decide) (by rfl) ?_) | (guard_target =~ KW.uPut _ _ _ _ _ _; first | refine put_l (by walk_at "hp") (by walk_at "hc") (by decide) (by simp) ?_) | (guard_target =~ KW.uMet.uMt _ _ _ _ _ _ _ _ _; first | refine met_l (by walk_at "hp") (by rfl) ?_) | (guard_target =~ KW.uMet.uMt _ _ _ _ _ _ _ _ _; first | refine ST.met_s (by assumption) (by decide) ?_) | (guard_target =~ ST.spExists _ _ _ _ _; first | refine ST.exists_s (by assumption) ?_) | (guard_target =~ ST.spUsed _ _ _ _ _; first | refine ST.used_s (by assumption) ?_) | (guard_target =~ KW.uGet _ _ _ _ _; first | refine ST.words_s (by assumption) (by walk_at "hc") (by decide) ?_) | (guard_target =~ KW.uDIn _ _ _ _; first | refine din_i (by walk_at "hp") ?_ | refine din_s (by walk_at "hp") ?_) | (guard_target =~ KW.uDGet _ _ _ _; first | refine dget_i (by walk_at "hp") (by walk_at "hv") ?_ | refine dget_s (by walk_at "hp") (by walk_at "hv") ?_) | (guard_target =~ KW.uDPut _ _ _ _ _; first | refine dput_i (by walk_at "hp") (by walk_at "sc") ?_ | refine dput_s (by walk_at "hp") (by walk_at "sc") ?_) | (guard_target =~ KW.uDDel _ _ _ _; first | refine ddel_i (by walk_at "hp") (by walk_at "hv") ?_ | refine ddel_s (by walk_at "hp") (by walk_at "hv") ?_) | (guard_target =~ KW.uMul2 _ _ _ _; first | refine rep_l (by walk_at "hp") (by walk_at "sc") (by walk_at "sc") (by walk_at "sc") ?_) | (guard_target =~ L2.rAppend _ _ _ _; first | refine app_l (by walk_at "hp") (by walk_at "sc") ?_) | (guard_target =~ L2.rPop _ _ _ _; first | refine pop_l (by walk_at "hp") (by walk_at "hv") ?_ | refine pops_l (by walk_at "hp") ?_) | (guard_target =~ L2.rClear _ _ _ _; first | refine clr_l (by walk_at "hp") ?_) | (guard_target =~ L2.rReverse _ _ _ _; first | refine rev_l (by walk_at "hp") ?_) | (guard_target =~ L2.rExtend _ _ _ _; first | refine ext_l (by walk_at "hp") (by walk_at "hp") (by walk_at "sc") ?_) | (guard_target =~ KW.uAdd _ _ _ _ _; first | refine ucat_l (by walk_at "hp") (by walk_at "hp") (by walk_at "sc") ?_) | (guard_target =~ KW.uSl _ _ _ _ _ _; first | refine usl_l (by walk_at "hp") ?_) | (guard_target =~ KW.uTru _ _ _ _; first | refine tru_l (by walk_at "hp") ?_ | refine tru_t (by walk_at "hp") ?_ | refine tru_d (by walk_at "hp") ?_ | refine tru_sl (by assumption) ?_) | (guard_target =~ L2.rIndex _ _ _ _ _; first | refine idx_s (by walk_at "hp") (by assumption) ?_ | refine idx_i (by walk_at "hp") (by assumption) ?_) | (guard_target =~ L2.rIn _ _ _ _ _ _; first | refine in_s (by walk_at "hp") ?_ | refine nin_s (by walk_at "hp") ?_ | refine in_i (by walk_at "hp") ?_ | refine nin_i (by walk_at "hp") ?_) | (guard_target =~ KW.uIsi _ _ _ _; first | refine isi_l (by walk_at "hp") (by decide +kernel) ?_ | refine isi_t (by walk_at "hp") (by decide +kernel) ?_ | refine isi_d (by walk_at "hp") (by decide +kernel) ?_) | (guard_target =~ KW.uList _ _ _ _; first | refine list_l (by walk_at "hp") ?_ | refine list_t (by walk_at "hp") ?_ | refine list_sl (by assumption) ?_) | (guard_target =~ KW.uDict _ _ _; first | refine dict_d (by walk_at "hp") ?_) | (guard_target =~ KW.uSorted _ _ _ _; first | refine srt_l (by walk_at "hp") ?_) | (guard_target =~ KW.uSum _ _ _ _; first | refine sum_l (by walk_at "hp") ?_) | (guard_target =~ KW.uDelC _ _ _ _; first | refine dels_l (by walk_at "hp") (by walk_at "sc") ?_) | (guard_target =~ L2.wAs _ _ _ _ _ _ _ _ _ _; first | refine as_yes (by walk_at "hx") ?_ | refine as_no (by walk_at "hx") ?_) | (guard_target =~ KW.uEf _ _ _ _ _ _ _ _ _; first | refine ef_l (by walk_at "he") (by decide) (by rfl) (by walk_at "hp") (by rfl) ?_) | (guard_target =~ KW.uIsE _ _ _ _ _ _ _; first | refine isE_r (by walk_at "he") (by walk_at "hp") (by walk_at "hk") ?_ | refine isE_t (by walk_at "he") (by walk_at "hp") (by walk_at "hk") ?_))
local macro_rules | `(tactic| walk_at "hv") => `(tactic| first | assumption)
local macro_rules | `(tactic| walk_at "kk") => `(tactic| repeat (first | walk_at "kw" | walk_at "kr"))
local macro_rules | `(tactic| walk_at "hc") => `(tactic| first | exact K17.Txt.c_Draft (by assumption) | exact K17.Txt.c_Coder (by assumption))
local macro_rules | `(tactic| walk_at "he") => `(tactic| first | exact K17.Txt.e_Oversized (by assumption) | exact K17.Txt.e_Unknown (by assumption) | exact K17.Txt.e_Twice (by assumption) | exact K17.Txt.e_Fixed (by assumption))
local macro_rules | `(tactic| walk_at "hx") => `(tactic| first | exact K17.Txt.x_Oversized_Oversized (by assumption) | exact K17.Txt.x_Oversized_Twice (by assumption) | exact K17.Txt.x_Unknown_Oversized (by assumption) | exact K17.Txt.x_Unknown_Twice (by assumption) | exact K17.Txt.x_Twice_Oversized (by assumption) | exact K17.Txt.x_Twice_Twice (by assumption) | exact K17.Txt.x_Fixed_Oversized (by assumption) | exact K17.Txt.x_Fixed_Twice (by assumption))
local macro_rules | `(tactic| walk_at "hk") => `(tactic| first | fail)

section
variable {C : Addr} {H : Hp} {cd co li sc : Addr} {code : List (Addr × Str × Int)} {lits lits' : List (Addr × List V)} {scs scs' : List V}
theorem Cdr.setL (D : Cdr C H cd co li sc code lits scs) (h : ∀ x ∈ lits', H x.1 = some (.tup x.2)) : Cdr C (upd H li (.lst (lits'.map fun x => V.ref x.1))) cd co li sc code lits' scs := by
  obtain ⟨⟨dx, fl, gk, ob⟩, hc, it, hl, lt, hs, n1, n2, n3⟩ := D
  have nl : li ≠ cd := fun z => by rw [z, ob] at hl; cases hl
  refine ⟨⟨dx, fl, gk, by rw [upd_ne (Ne.symm nl)]; exact ob⟩, by rw [upd_ne n1]; exact hc, fun x hx => ?_, upd_same, fun x hx => ?_, by rw [upd_ne (Ne.symm n3)]; exact hs, n1, n2, n3⟩
  · have e := it x hx
    rw [upd_ne (fun z => by rw [z, hl] at e; cases e)]; exact e
  · have e := h x hx
    rw [upd_ne (fun z => by rw [z, hl] at e; cases e)]; exact e
theorem Cdr.setS (D : Cdr C H cd co li sc code lits scs) : Cdr C (upd H sc (.lst scs')) cd co li sc code lits scs' := by
  obtain ⟨⟨dx, fl, gk, ob⟩, hc, it, hl, lt, hs, n1, n2, n3⟩ := D
  have nl : sc ≠ cd := fun z => by rw [z, ob] at hs; cases hs
  refine ⟨⟨dx, fl, gk, by rw [upd_ne (Ne.symm nl)]; exact ob⟩, by rw [upd_ne n2]; exact hc, fun x hx => ?_, by rw [upd_ne n3]; exact hl, fun x hx => ?_, upd_same, n1, n2, n3⟩
  · have e := it x hx
    rw [upd_ne (fun z => by rw [z, hs] at e; cases e)]; exact e
  · have e := lt x hx
    rw [upd_ne (fun z => by rw [z, hs] at e; cases e)]; exact e
theorem emit_s {op : Str} {arg : Int} {Q : VK} {E : XK} (D : Cdr C H cd co li sc code lits scs) (hz : code.length ≤ 1000) (q : ∀ t H', H t = none → Cdr C H' cd co li sc (code ++ [(t, op, arg)]) lits scs → KW.Fr [co] H H' → Q (.int code.length) H') :
    ∃ dx fs, H cd = some (.ins C dx fs) ∧ fs.lookup ("emit" : Str) = none ∧ spEmit C [.ref cd, .str op, .int arg] H Q E := by
  obtain ⟨dx, fl, gk, ob⟩ := D.ob
  exact ⟨dx, _, ob, rfl, cd, co, li, sc, code, lits, scs, op, arg, rfl, D, hz, q⟩
end
def spSeq0 (C : Addr) : Sp := fun vs H Q _ => ∃ (cd co li sc st : Addr) (code : List (Addr × Str × Int)) (lits : List (Addr × List V)) (scs : List V) (im : Bool), vs = [.ref cd, .ref st, .bl im] ∧ Cdr C H cd co li sc code lits scs ∧ H st = some (.tup []) ∧ code.length ≤ 900 ∧
  (im = true → Q (.bl true) H) ∧ (im = false → ∀ t H', H t = none → Cdr C H' cd co li sc (code ++ [(t, oNil, 0)]) lits scs → KW.Fr [co] H H' → Q (.bl true) H')
def spSeq1 (C TW OV : Addr) : Sp := fun vs H Q E => (∃ (cd co li sc st : Addr) (code : List (Addr × Str × Int)) (lits : List (Addr × List V)) (scs : List V), vs = [.ref cd, .ref st, .bl true] ∧ Cdr C H cd co li sc code lits scs ∧ H st = some (.tup []) ∧ Q (.bl true) H) ∨
    ∃ (cd co li sc ss s1 bt pt tt st : Addr) (A1 A2 : List Addr) (L : NL) (scs : List V) (n m : Int), vs = [.ref cd, .ref ss, .bl true] ∧ H ss = some (.tup [.ref s1]) ∧ H s1 = some (.tup [.str oRet, .ref bt, .int m]) ∧ H bt = some (.tup [.str oBlk, .ref pt, .ref tt, .ref st, .int n]) ∧ Cdr C H cd co li sc [] [] scs ∧ scs.length ≤ 100 ∧ H pt = some (.tup (A1.map V.ref)) ∧ H tt = some (.tup (A2.map V.ref)) ∧ H st = some (.tup []) ∧ Prs H (A1 ++ A2) L ∧ ErrP TW OV H E L ∧
      ((nms L).Nodup → L.length ≤ 255 → ∀ t0 t1 t2 t3 t4 tl H', Cdr C H' cd co li sc [(t0, oBlk, 0), (t1, oJmp, 4), (t2, oNil, 0), (t3, oLv, 0), (t4, oRet, 0)] [(tl, [.str oBlk, .int A1.length, .int L.length, .int 2, .int 0])] scs → KW.Fr [co, li, sc] H H' → Q (.bl false) H')
section
variable {P : Program} {w : World} {K : Frag} {mg : Str → Option Value} {base : Heap} {a : Ads}
theorem ok_sequence0 (T : Txt P w K mg a) : CalM P w K mg base 2 a.Coder "sequence" (spSeq0 a.Coder) := by
  have M_Coder_emit := ok_Coder_emit (P := P) (w := w) (base := base) T
  have M_Coder_expression := (T.m_Coder_expression).dead (P := P) (w := w) (mg := mg) (base := base) (k := 1) T.c_Coder.cls
  refine T.m_Coder_sequence.ok T.c_Coder.cls sc_Coder_sequence (fun vs H Q E h => ?_) (fun f cdv A outer s H vs Q E hr h => ⟨_, (pss_cons (k_for (passes_of rfl) rfl (pi_range1 (by rfl) T.n_range (pa_cons (pe_callB c_len (by rfl) T.n_len (by decide +kernel) (pa_cons (kv 1) pa_nil)) pa_nil)) (pg_name (i := 3) sc_Coder_sequence.nd rfl (Or.inl rfl))
      (pss_cons (ps_set (i := 4) sc_Coder_sequence.nd rfl (Or.inl rfl) (pe_ix o_ix (kv 1) (kv 3) (fun _ _ => rfl)))
      (pss_cons (ps_expr (kmX (L2N.takes_of rfl rfl rfl rfl) M_Coder_expression (hr.mono (by decide)) (kv 0) (pa_cons (pe_ix o_ix (kv 4) pe_int (fun _ _ => rfl)) pa_nil)))
      (pss_cons (ps_if (pt_cmpR (o_eq hr.units) (pe_ix o_ix (kv 4) pe_int (fun _ _ => rfl)) pe_str (nomark _))
      (pss_cons (ps_expr (kmD 0 M_Coder_emit (hr.mono (by decide)) (kv 0) (pa_cons pe_str pa_nil)))
      (pss_one (ps_ret pe_bl)))
      pss_nil)
      (pss_one (ps_if (PW.pt (pw_or (kt (kv 2)) (pw_or1 (pt_cmpR o_lt (kv 3) (pe_op o_sub (pe_callB c_len (by rfl) T.n_len (by decide +kernel) (pa_cons (kv 1) pa_nil)) pe_int) (nomark _)))))
      (pss_one (ps_expr (kmD 0 M_Coder_emit (hr.mono (by decide)) (kv 0) (pa_cons pe_str pa_nil))))
      pss_nil))))))
      (pss_cons (ps_if (PW.pt (pw_and (pt_cmpR (o_eq hr.units) (pe_callB c_len (by rfl) T.n_len (by decide +kernel) (pa_cons (kv 1) pa_nil)) pe_int (nomark _)) (pw_and1 (pt_not (kt (kv 2))))))
      (pss_one (ps_expr (kmD 0 M_Coder_emit (hr.mono (by decide)) (kv 0) (pa_cons pe_str pa_nil))))
      pss_nil)
      (pss_one (ps_ret pe_bl)))), ?_⟩)
  · obtain ⟨_, _, _, _, _, _, _, _, _, rfl, _⟩ := h; rfl
  · obtain ⟨cd, co, li, sc, st, code, lits, scs, im, rfl, D, hst, hz, q1, q2⟩ := h
    walk_at "kk"
    refine for_rng (fun i σ H' => σ = [some (.ref cd), some (.ref st), some (.bl im), none, none] ∧ H' = H) ⟨rfl, rfl⟩ ?_ ?_
    · intro i σ H' hi
      exact absurd hi (by simp)
    rintro σ H' ⟨rfl, rfl⟩
    cases im with
    | true =>
      walk_at "kk"
      rw [if_pos (show ((0 : Nat) : Int) = 0 from rfl)]
      exact q1 rfl
    | false =>
      walk_at "kk"
      rw [if_pos (show ((0 : Nat) : Int) = 0 from rfl)]
      exact emit_s D (by omega) fun t H1 ht D1 f1 => q2 rfl t H1 ht D1 f1
/-- what a block leaves -/
def spBlk (C TW OV : Addr) (vsf : Addr → Addr → Addr → Addr → List V) (pre : Hp → Addr → Addr → Addr → Prop) : Sp := fun vs H Q E => ∃ (cd co li sc pt tt st : Addr) (A1 A2 : List Addr) (L : NL) (scs : List V), vs = vsf cd pt tt st ∧ pre H pt tt st ∧ Cdr C H cd co li sc [] [] scs ∧ scs.length ≤ 100 ∧ H pt = some (.tup (A1.map V.ref)) ∧ H tt = some (.tup (A2.map V.ref)) ∧ H st = some (.tup []) ∧ Prs H (A1 ++ A2) L ∧ ErrP TW OV H E L ∧
  ((nms L).Nodup → L.length ≤ 255 → ∀ t0 t1 t2 t3 tl H', Cdr C H' cd co li sc [(t0, oBlk, 0), (t1, oJmp, 4), (t2, oNil, 0), (t3, oLv, 0)] [(tl, [.str oBlk, .int A1.length, .int L.length, .int 2, .int 0])] scs → KW.Fr [co, li, sc] H H' → Q .non H')
theorem ok_Coder_block (T : Txt P w K mg a) : CalM P w K mg base 3 a.Coder "block" (spBlk a.Coder a.Twice a.Oversized (fun cd pt tt st => [.ref cd, .ref pt, .ref tt, .ref st]) fun _ _ _ _ => True) := by
  have C_declared := ok_declared (P := P) (w := w) (base := base) T
  have M_Coder_emit := ok_Coder_emit (P := P) (w := w) (base := base) T
  have M_Coder_here := ok_Coder_here (P := P) (w := w) (base := base) T
  have M_Coder_aim := ok_Coder_aim (P := P) (w := w) (base := base) T
  have M_Coder_sequence := ok_sequence0 (P := P) (w := w) (base := base) T
  refine T.m_Coder_block.ok T.c_Coder.cls sc_Coder_block (fun vs H Q E h => ?_) (fun f cdv A outer s H vs Q E hr h => ⟨_, (pss_cons (ps_set (i := 4) sc_Coder_block.nd rfl (Or.inl rfl) (kcX (L2N.takes_of rfl rfl rfl rfl) C_declared (hr.mono (by decide)) (pa_cons (kv 1) (pa_cons (kv 2) pa_nil))))
      (pss_cons (ps_set (i := 5) sc_Coder_block.nd rfl (Or.inl rfl) (pe_callB c_len (by rfl) T.n_len (by decide +kernel) (pa_cons (k_fld (kv 0) rfl) pa_nil)))
      (pss_cons (ps_expr (pe_bm PySem.F.plainAttrs_list PySem.F.slot_list_append PySem.F.type_list_append mt_append (k_fld (kv 0) rfl) (pa_cons (pe_tup (pa_cons pe_str (pa_cons (pe_callB c_len (by rfl) T.n_len (by decide +kernel) (pa_cons (kv 1) pa_nil)) (pa_cons (pe_callB c_lenDk (by rfl) T.n_len (by decide +kernel) (pa_cons (kv 4) pa_nil)) (pa_cons (pe_op o_sub (pe_un o_neg pe_int) (kv 5)) (pa_cons pe_int pa_nil)))))) pa_nil)))
      (pss_cons (ps_expr (kmD 1 M_Coder_emit (hr.mono (by decide)) (kv 0) (pa_cons pe_str (pa_cons (kv 5) pa_nil))))
      (pss_cons (ps_set (i := 6) sc_Coder_block.nd rfl (Or.inl rfl) (kmD 0 M_Coder_emit (hr.mono (by decide)) (kv 0) (pa_cons pe_str pa_nil)))
      (pss_cons (ps_asg (pe_tup (pa_cons pe_str (pa_cons (pe_callB c_len (by rfl) T.n_len (by decide +kernel) (pa_cons (kv 1) pa_nil)) (pa_cons (pe_callB c_lenDk (by rfl) T.n_len (by decide +kernel) (pa_cons (kv 4) pa_nil)) (pa_cons (km0 M_Coder_here (hr.mono (by decide)) (kv 0)) (pa_cons pe_int pa_nil)))))) (pg_sub (k_fld (kv 0) rfl) (kv 5) s_set))
      (pss_cons (ps_expr (pe_bm PySem.F.plainAttrs_list PySem.F.slot_list_append PySem.F.type_list_append mt_append (k_fld (kv 0) rfl) (pa_cons (kv 4) pa_nil)))
      (pss_cons (ps_if (kt (kmX (L2N.takes_of rfl rfl rfl rfl) M_Coder_sequence (hr.mono (by decide)) (kv 0) (pa_cons (kv 3) (pa_cons pe_bl pa_nil))))
      (pss_one (ps_expr (kmD 0 M_Coder_emit (hr.mono (by decide)) (kv 0) (pa_cons pe_str pa_nil))))
      pss_nil)
      (pss_cons (ps_expr (pe_bm0 PySem.F.plainAttrs_list PySem.F.slot_list_pop PySem.F.type_list_pop mt_pop (k_fld (kv 0) rfl)))
      (pss_one (ps_expr (km M_Coder_aim (hr.mono (by decide)) (kv 0) (pa_cons (kv 6) pa_nil))))))))))))), ?_⟩)
  · obtain ⟨_, _, _, _, _, _, _, _, _, _, _, rfl, _⟩ := h; rfl
  · obtain ⟨cd, co, li, sc, pt, tt, st, A1, A2, L, scs, rfl, -, D, hz, hp, ht, hst, R, er, h⟩ := h
    walk_at "kk"
    refine ⟨pt, tt, A1, A2, L, rfl, hp, ht, R, er, fun nd l255 d kvs H1 hd kd ek f1 => ?_⟩
    have fin := h nd l255
    clear h
    have D1 := D.fr0 f1
    have hp1 := f1 _ _ (by simp) hp
    have hst1 := f1 _ _ (by simp) hst
    obtain ⟨⟨dx, fl, gk, ob⟩, hc, it, hl, lt, hs, n1, n2, n3⟩ := id D1
    unfold cdO at ob
    walk_at "kk"
    refine ⟨kvs, kd, by decide, fun tl htl => ?_⟩
    rw [ek]
    obtain ⟨V1, hV1⟩ : ∃ V1, V1 = [V.str oBlk, .int A1.length, .int L.length, .int (-1 - ((0 : Nat) : Int)), .int 0] := ⟨_, rfl⟩
    rw [← hV1]
    have D2 := D1.fr0 (Fr.new (o := .tup V1) htl)
    have g2 : upd H1 tl (.tup V1) tl = some (.tup V1) := upd_same
    have f2 : KW.Fr [co, li, sc] H (upd H1 tl (.tup V1)) := (f1.mono (by simp)).trans (Fr.new htl)
    have nco : ∀ b o, H b = some (.tup o) ∨ b = d → b ∉ [co, li, sc] := fun b o hb z => by
      simp only [List.mem_cons, List.not_mem_nil, or_false] at z
      rcases hb with hb | rfl
      · rcases z with rfl | rfl | rfl
        · rw [D.hc] at hb; cases hb
        · rw [D.hl] at hb; cases hb
        · rw [D.hs] at hb; cases hb
      · rcases z with rfl | rfl | rfl
        · rw [D.hc] at hd; cases hd
        · rw [D.hl] at hd; cases hd
        · rw [D.hs] at hd; cases hd
    have k2 : upd H1 tl (.tup V1) d = some (.dK kvs) := (Fr.new (l := []) htl) _ _ (by simp) kd
    revert D2 g2 f2 k2
    generalize upd H1 tl (.tup V1) = H2
    intro D2 g2 f2 k2
    clear ob hc it hl lt hs kd D1 hp1 hst1
    refine app_l (xs := []) D2.hl (lt_line (by simp)) ?_
    have D3 := D2.setL (lits' := [(tl, V1)]) (by intro x hx; rw [List.mem_singleton] at hx; rw [hx]; exact g2)
    have f3 : KW.Fr [co, li, sc] H (upd H2 li (.lst ([] ++ [V.ref tl]))) := f2.trans (Fr.upd (by simp))
    have k3 : upd H2 li (.lst ([] ++ [V.ref tl])) d = some (.dK kvs) := by rw [upd_ne (fun z => nco d [] (.inr rfl) (by simp [z]))]; exact k2
    have D3 : Cdr a.Coder (upd H2 li (.lst ([] ++ [V.ref tl]))) cd co li sc [] [(tl, V1)] scs := D3
    revert D3 f3 k3
    generalize upd H2 li (.lst ([] ++ [V.ref tl])) = H3
    intro f3 k3 D3
    refine emit_s D3 (by simp) fun t0 H4 ht0 D4 f4 => ?_
    have k4 := f4 _ _ (fun z => nco d [] (.inr rfl) (by simp at z; simp [z])) k3
    have F4 : KW.Fr [co, li, sc] H H4 := f3.trans (f4.mono (by simp))
    refine emit_s D4 (by simp) fun t1 H5 ht1 D5 f5 => ?_
    obtain ⟨c5, hc5⟩ : ∃ c5 : List (Addr × Str × Int), c5 = [] ++ [(t0, oBlk, ((0 : Nat) : Int))] ++ [(t1, oJmp, (0 : Int))] := ⟨_, rfl⟩
    replace D5 : Cdr a.Coder H5 cd co li sc c5 [(tl, V1)] scs := by rw [hc5]; exact D5
    have k5 := f5 _ _ (fun z => nco d [] (.inr rfl) (by simp at z; simp [z])) k4
    have F5 : KW.Fr [co, li, sc] H H5 := F4.trans (f5.mono (by simp))
    have hp5 := F5 _ _ (nco _ _ (.inl hp)) hp
    have hst5 := F5 _ _ (nco _ _ (.inl hst)) hst
    obtain ⟨⟨dx5, fl5, gk5, ob5⟩, -, -, hl5, -, -, -, -, -⟩ := id D5
    unfold cdO at ob5
    walk_at "kk"
    refine ⟨kvs, k5, ?_⟩
    walk_at "kk"
    refine ⟨co, li, sc, _, ⟨_, _, D5⟩, by decide, fun tl2 htl2 => ?_⟩
    rw [ek]
    have D6 := D5.fr0 (Fr.new (o := .tup [V.str oBlk, .int A1.length, .int L.length, .int c5.length, .int 0]) htl2)
    have g6 : upd H5 tl2 (.tup [V.str oBlk, .int A1.length, .int L.length, .int c5.length, .int 0]) tl2 = some (.tup [V.str oBlk, .int A1.length, .int L.length, .int c5.length, .int 0]) := upd_same
    have F6 : KW.Fr [co, li, sc] H (upd H5 tl2 (.tup [V.str oBlk, .int A1.length, .int L.length, .int c5.length, .int 0])) := F5.trans (Fr.new htl2)
    revert D6 g6 F6
    generalize upd H5 tl2 (.tup [V.str oBlk, .int A1.length, .int L.length, .int c5.length, .int 0]) = H6
    intro D6 g6 F6
    clear ob5 hl5 hp5 hst5
    obtain ⟨⟨dx6, fl6, gk6, ob6⟩, -, -, hl6, -, hs6, -, -, -⟩ := id D6
    unfold cdO at ob6
    replace hl6 : H6 li = some (.lst [.ref tl]) := hl6
    have ix6 : ixN [V.ref tl].length 0 = some 0 := rfl
    have nli : li ≠ cd := fun z => by rw [z, ob6] at hl6; cases hl6
    have nlc : sc ≠ li := fun z => D6.n3 z.symm
    walk_at "kk"
    have D7 := (D6.setL (lits' := [(tl2, [V.str oBlk, .int A1.length, .int L.length, .int c5.length, .int 0])]) (by intro x hx; rw [List.mem_singleton] at hx; rw [hx]; exact g6)).setS (scs' := scs ++ [V.ref d])
    replace D7 : Cdr a.Coder (upd (upd H6 li (.lst [V.ref tl2])) sc (.lst (scs ++ [V.ref d]))) cd co li sc c5 [(tl2, [V.str oBlk, .int A1.length, .int L.length, .int c5.length, .int 0])] (scs ++ [V.ref d]) := D7
    have F7 : KW.Fr [co, li, sc] H (upd (upd H6 li (.lst [V.ref tl2])) sc (.lst (scs ++ [V.ref d]))) := (F6.trans (Fr.upd (by simp))).trans (Fr.upd (by simp))
    revert D7 F7
    generalize upd (upd H6 li (.lst [V.ref tl2])) sc (.lst (scs ++ [V.ref d])) = H7
    intro D7 F7
    clear ob6 hl6 hs6
    have hst7 := F7 _ _ (nco _ _ (.inl hst)) hst
    have l5 : c5.length = 2 := by rw [hc5]; rfl
    obtain ⟨⟨dx7, fl7, gk7, ob7⟩, -, -, -, -, -, -, -, -⟩ := id D7
    unfold cdO at ob7
    walk_at "kk"
    refine ⟨cd, co, li, sc, st, c5, _, _, false, rfl, D7, hst7, by omega, fun z => (by cases z), fun _ t2 H8 ht2 D8 f8 => ?_⟩
    have F8 : KW.Fr [co, li, sc] H H8 := F7.trans (f8.mono (by simp))
    clear ob7
    walk_at "kk"
    refine emit_s D8 (by simp; omega) fun t3 H9 ht3 D9 f9 => ?_
    have F9 : KW.Fr [co, li, sc] H H9 := F8.trans (f9.mono (by simp))
    obtain ⟨⟨dx9, fl9, gk9, ob9⟩, -, -, -, -, hs9, -, -, -⟩ := id D9
    unfold cdO at ob9
    walk_at "kk"
    have D10 := D9.setS (scs' := scs)
    have F10 : KW.Fr [co, li, sc] H (upd H9 sc (.lst scs)) := F9.trans (Fr.upd (by simp))
    revert D10 F10
    generalize upd H9 sc (.lst scs) = H10
    intro D10 F10
    clear ob9 hs9
    obtain ⟨⟨dx10, fl10, gk10, ob10⟩, -, -, -, -, -, -, -, -⟩ := id D10
    unfold cdO at ob10
    walk_at "kk"
    refine ⟨cd, co, li, sc, _, _, _, 1, (t1, oJmp, 0), rfl, D10, by simp; omega, by rw [hc5]; rfl, fun t H11 ht11 D11 f11 => ?_⟩
    refine fin t0 t t2 t3 tl2 H11 ?_ (F10.trans (f11.mono (by simp)))
    rw [hc5] at D11
    exact D11
/-- the whole of a block as an expression -/
theorem ok_Coder_expression (T : Txt P w K mg a) : CalM P w K mg base 4 a.Coder "expression" (fun vs H Q E => ∃ bt : Addr, ∃ n : Int, spBlk a.Coder a.Twice a.Oversized (fun cd _ _ _ => [.ref cd, .ref bt]) (fun H pt tt st => H bt = some (.tup [.str oBlk, .ref pt, .ref tt, .ref st, .int n])) vs H Q E) := by
  have M_Coder_block := ok_Coder_block (P := P) (w := w) (base := base) T
  have M_Coder_emit := ok_Coder_emit (P := P) (w := w) (base := base) T
  have M_Coder_literal := (T.m_Coder_literal).dead (P := P) (w := w) (mg := mg) (base := base) (k := 1) T.c_Coder.cls
  have M_Coder_name := (T.m_Coder_name).dead (P := P) (w := w) (mg := mg) (base := base) (k := 1) T.c_Coder.cls
  have M_Coder_assign := (T.m_Coder_assign).dead (P := P) (w := w) (mg := mg) (base := base) (k := 1) T.c_Coder.cls
  have M_Coder_send := (T.m_Coder_send).dead (P := P) (w := w) (mg := mg) (base := base) (k := 1) T.c_Coder.cls
  have M_Coder_message := (T.m_Coder_message).dead (P := P) (w := w) (mg := mg) (base := base) (k := 1) T.c_Coder.cls
  have M_Coder_expression := (T.m_Coder_expression).dead (P := P) (w := w) (mg := mg) (base := base) (k := 1) T.c_Coder.cls
  refine T.m_Coder_expression.ok T.c_Coder.cls sc_Coder_expression (fun vs H Q E h => ?_) (fun f cdv A outer s H vs Q E hr h => ⟨_, (pss_cons (ps_set (i := 2) sc_Coder_expression.nd rfl (Or.inl rfl) (pe_ix o_ix (kv 1) pe_int (fun _ _ => rfl)))
      (pss_one (ps_if (pt_cmpR o_in (kv 2) (pe_tup (pa_cons pe_str (pa_cons pe_str pa_nil))) (by rfl))
      (pss_one (ps_expr (kmD 1 M_Coder_emit (hr.mono (by decide)) (kv 0) (pa_cons pe_str (pa_cons (km M_Coder_literal (hr.mono (by decide)) (kv 0) (pa_cons (kv 1) pa_nil)) pa_nil)))))
      (pss_one (ps_if (pt_cmpR o_in (kv 2) (pe_glob (v := .ref a.t_RESERVED) (by rfl) T.gt_RESERVED.g rfl) (by rfl))
      (pss_one (ps_expr (kmD 0 M_Coder_emit (hr.mono (by decide)) (kv 0) (pa_cons (kv 2) pa_nil))))
      (pss_one (ps_if (pt_cmpR (o_eq hr.units) (kv 2) pe_str (nomark _))
      (pss_one (ps_expr (km M_Coder_name (hr.mono (by decide)) (kv 0) (pa_cons (pe_ix o_ix (kv 1) pe_int (fun _ _ => rfl)) (pa_cons (pe_ix o_ix (kv 1) pe_int (fun _ _ => rfl)) pa_nil)))))
      (pss_one (ps_if (pt_cmpR (o_eq hr.units) (kv 2) pe_str (nomark _))
      (pss_cons (ps_expr (kmX (L2N.takes_of rfl rfl rfl rfl) M_Coder_expression (hr.mono (by decide)) (kv 0) (pa_cons (pe_ix o_ix (kv 1) pe_int (fun _ _ => rfl)) pa_nil)))
      (pss_one (ps_expr (km M_Coder_assign (hr.mono (by decide)) (kv 0) (pa_cons (pe_ix o_ix (kv 1) pe_int (fun _ _ => rfl)) (pa_cons (pe_ix o_ix (kv 1) pe_int (fun _ _ => rfl)) pa_nil))))))
      (pss_one (ps_if (pt_cmpR (o_eq hr.units) (kv 2) pe_str (nomark _))
      (pss_one (ps_expr (km M_Coder_send (hr.mono (by decide)) (kv 0) (pa_cons (pe_ix o_ix (kv 1) pe_int (fun _ _ => rfl)) (pa_cons (pe_ix o_ix (kv 1) pe_int (fun _ _ => rfl)) (pa_cons (pe_ix o_ix (kv 1) pe_int (fun _ _ => rfl)) pa_nil))))))
      (pss_one (ps_if (pt_cmpR (o_eq hr.units) (kv 2) pe_str (nomark _))
      (pss_cons (ps_expr (kmD 0 M_Coder_emit (hr.mono (by decide)) (kv 0) (pa_cons pe_str pa_nil)))
      (pss_one (ps_expr (km M_Coder_message (hr.mono (by decide)) (kv 0) (pa_cons pe_str (pa_cons (pe_ix o_ix (kv 1) pe_int (fun _ _ => rfl)) (pa_cons (pe_ix o_ix (kv 1) pe_int (fun _ _ => rfl)) pa_nil)))))))
      (pss_one (ps_expr (kmX (L2N.takes_of rfl rfl rfl rfl) M_Coder_block (hr.mono (by decide)) (kv 0) (pa_cons (pe_ix o_ix (kv 1) pe_int (fun _ _ => rfl)) (pa_cons (pe_ix o_ix (kv 1) pe_int (fun _ _ => rfl)) (pa_cons (pe_ix o_ix (kv 1) pe_int (fun _ _ => rfl)) pa_nil))))))))))))))))))), ?_⟩)
  · obtain ⟨_, _, _, _, _, _, _, _, _, _, _, _, _, rfl, _⟩ := h; rfl
  · obtain ⟨bt, n, cd, co, li, sc, pt, tt, st, A1, A2, L, scs, rfl, hbt, D, hz, hp, ht, hst, R, er, h⟩ := h
    walk_at "kk"
    intro p0 hp0
    refine in_tl (xs := [S [105, 110, 116], S [115, 121, 109, 98, 111, 108]]) upd_same ?_
    rw [decide_eq_false (by decide)]
    have f1 : KW.Fr [] H (upd H p0 (.tup ([S [105, 110, 116], S [115, 121, 109, 98, 111, 108]].map V.str))) := Fr.new hp0
    have f1 : KW.Fr [] H (upd H p0 (.tup [V.str (S [105, 110, 116]), V.str (S [115, 121, 109, 98, 111, 108])])) := f1
    revert f1
    generalize upd H p0 (.tup [V.str (S [105, 110, 116]), V.str (S [115, 121, 109, 98, 111, 108])]) = H1
    intro f1
    have D1 := D.fr0 f1
    have hbt1 := f1 _ _ (by simp) hbt
    walk_at "kk"
    refine in_gt (xs := [S [110, 105, 108], S [116, 114, 117, 101], S [102, 97, 108, 115, 101], S [115, 101, 108, 102]]) (T.gt_RESERVED.sq _) ?_
    rw [decide_eq_false (by decide)]
    obtain ⟨⟨dx1, fl1, gk1, ob1⟩, -, -, -, -, -, -, -, -⟩ := id D1
    unfold cdO at ob1
    walk_at "kk"
    exact ⟨cd, co, li, sc, pt, tt, st, A1, A2, L, scs, rfl, trivial, D1, hz, f1 _ _ (by simp) hp, f1 _ _ (by simp) ht, f1 _ _ (by simp) hst, R.fr0 f1, er.mono f1, fun nd l255 t0 t1 t2 t3 tl H' D' f' => h nd l255 t0 t1 t2 t3 tl H' D' ((f1.mono (by simp)).trans f')⟩
/-- one statement that returns a block -/
theorem ok_sequence1 (T : Txt P w K mg a) : CalM P w K mg base 5 a.Coder "sequence" (spSeq1 a.Coder a.Twice a.Oversized) := by
  have M_Coder_emit := ok_Coder_emit (P := P) (w := w) (base := base) T
  have M_Coder_expression := ok_Coder_expression (P := P) (w := w) (base := base) T
  refine T.m_Coder_sequence.ok T.c_Coder.cls sc_Coder_sequence (fun vs H Q E h => ?_) (fun f cdv A outer s H vs Q E hr h => ⟨_, (pss_cons (k_for (passes_of rfl) rfl (pi_range1 (by rfl) T.n_range (pa_cons (pe_callB c_len (by rfl) T.n_len (by decide +kernel) (pa_cons (kv 1) pa_nil)) pa_nil)) (pg_name (i := 3) sc_Coder_sequence.nd rfl (Or.inl rfl))
      (pss_cons (ps_set (i := 4) sc_Coder_sequence.nd rfl (Or.inl rfl) (pe_ix o_ix (kv 1) (kv 3) (fun _ _ => rfl)))
      (pss_cons (ps_expr (kmX (L2N.takes_of rfl rfl rfl rfl) M_Coder_expression (hr.mono (by decide)) (kv 0) (pa_cons (pe_ix o_ix (kv 4) pe_int (fun _ _ => rfl)) pa_nil)))
      (pss_cons (ps_if (pt_cmpR (o_eq hr.units) (pe_ix o_ix (kv 4) pe_int (fun _ _ => rfl)) pe_str (nomark _))
      (pss_cons (ps_expr (kmD 0 M_Coder_emit (hr.mono (by decide)) (kv 0) (pa_cons pe_str pa_nil)))
      (pss_one (ps_ret pe_bl)))
      pss_nil)
      (pss_one (ps_if (PW.pt (pw_or (kt (kv 2)) (pw_or1 (pt_cmpR o_lt (kv 3) (pe_op o_sub (pe_callB c_len (by rfl) T.n_len (by decide +kernel) (pa_cons (kv 1) pa_nil)) pe_int) (nomark _)))))
      (pss_one (ps_expr (kmD 0 M_Coder_emit (hr.mono (by decide)) (kv 0) (pa_cons pe_str pa_nil))))
      pss_nil))))))
      (pss_cons (ps_if (PW.pt (pw_and (pt_cmpR (o_eq hr.units) (pe_callB c_len (by rfl) T.n_len (by decide +kernel) (pa_cons (kv 1) pa_nil)) pe_int (nomark _)) (pw_and1 (pt_not (kt (kv 2))))))
      (pss_one (ps_expr (kmD 0 M_Coder_emit (hr.mono (by decide)) (kv 0) (pa_cons pe_str pa_nil))))
      pss_nil)
      (pss_one (ps_ret pe_bl)))), ?_⟩)
  · rcases h with ⟨_, _, _, _, _, _, _, _, rfl, _⟩ | ⟨_, _, _, _, _, _, _, _, _, _, _, _, _, _, _, _, rfl, _⟩ <;> rfl
  · rcases h with ⟨cd, co, li, sc, st, code, lits, scs, rfl, D, hst, q1⟩ | ⟨cd, co, li, sc, ss, s1, bt, pt, tt, st, A1, A2, L, scs, n, m, rfl, hss, hs1, hbt, D, hz, hp, ht, hst, R, er, h⟩
    · walk_at "kk"
      refine for_rng (fun i σ H' => σ = [some (.ref cd), some (.ref st), some (.bl true), none, none] ∧ H' = H) ⟨rfl, rfl⟩ ?_ ?_
      · intro i σ H' hi
        exact absurd hi (by simp)
      rintro σ H' ⟨rfl, rfl⟩
      walk_at "kk"
      rw [if_pos (show ((0 : Nat) : Int) = 0 from rfl)]
      exact q1
    · walk_at "kk"
      refine for_rng (fun i σ H' => i = 0 ∧ σ = [some (.ref cd), some (.ref ss), some (.bl true), none, none] ∧ H' = H) ⟨rfl, rfl, rfl⟩ ?_ ?_
      · rintro i σ H' hi ⟨rfl, rfl, rfl⟩
        obtain ⟨⟨dx1, fl1, gk1, ob1⟩, -, -, -, -, -, -, -, -⟩ := id D
        unfold cdO at ob1
        walk_at "kk"
        refine ⟨bt, n, cd, co, li, sc, pt, tt, st, A1, A2, L, scs, rfl, hbt, D, hz, hp, ht, hst, R, er, fun nd l255 t0 t1 t2 t3 tl H2 D2 f2 => ?_⟩
        have ns1 : s1 ∉ [co, li, sc] := fun z => by
          simp only [List.mem_cons, List.not_mem_nil, or_false] at z
          rcases z with rfl | rfl | rfl
          · rw [D.hc] at hs1; cases hs1
          · rw [D.hl] at hs1; cases hs1
          · rw [D.hs] at hs1; cases hs1
        have hs2 := f2 _ _ ns1 hs1
        clear ob1
        walk_at "kk"
        refine emit_s D2 (by simp) fun t4 H3 ht4 D3 f3 => ?_
        exact h nd l255 t0 t1 t2 t3 t4 tl H3 D3 (f2.trans (f3.mono (by simp)))
      · rintro σ H' ⟨z, -, -⟩
        exact absurd z (by simp)
end
end K17

set_option Elab.async false
set_option linter.all false
set_option maxRecDepth 100000
set_option maxHeartbeats 4000000
namespace K17
open PySem PySem.Spec PyProof.Rows L2 KW
local macro_rules | `(tactic| walk_at "kw") => `(tactic| simp only [tSeq, tNext, tIfS, tTest, tAnd, tOr, tNot, tAndV, tOrV, tNotV, tIf, tChain, tOp, tUn, tC, tAsg, gName, gSub, gCons, gNil, tRet, tRetN, tDrop, tCons, tNil, tCB, tAug, tSl, tPart, tNoPart, tLst, tTup, tBM, tBM0, uTest, uFor, iRng1, iRng2, iList, uCall, List.map_cons, List.map_nil, List.length_cons, List.length_nil, List.cons_append, List.nil_append, List.replicate, Nat.zero_add, Nat.reduceAdd, Nat.reduceSub, List.getElem?_cons_zero, List.getElem?_cons_succ, List.set_cons_zero, List.set_cons_succ, V.bl.injEq, V.int.injEq, V.str.injEq, V.ref.injEq, V.ty.injEq, List.cons.injEq, and_true, true_and, exists_eq_left', exists_eq_right, exists_eq_left, exists_and_left, exists_and_right, decide_eq_true_eq, Bool.not_eq_true', decide_eq_false_iff_not, Bool.false_eq_true, if_true, if_false, ite_true, ite_false, Bool.not_true, Bool.not_false, reduceCtorEq, decide_true, decide_false, Bool.not_not, isK_int_int, isK_int_bool, isK_int_str, isK_int_list, isK_int_tuple, isK_bool_int, isK_bool_bool, isK_bool_str, isK_str_str, isK_str_int, isK_str_bool, isK_str_tuple, isK_str_list, isK_list_list, isK_list_tuple, isK_tuple_tuple, isK_tuple_list, isOk_int_int, isOk_int_bool, isOk_int_str, isOk_int_list, isOk_int_tuple, isOk_bool_int, isOk_bool_bool, isOk_bool_str, isOk_str_str, isOk_str_int, isOk_str_bool, isOk_str_tuple, isOk_str_list, isOk_list_list, isOk_list_tuple, isOk_tuple_tuple, isOk_tuple_list, isK_dict_dict, isOk_dict_dict, isK_none_int, isK_none_bool, isOk_none_int, isOk_none_bool, tyV, S_inj, S_cat, L2.start, Nat.reduceSub, List.replicate_succ, List.replicate_zero, and_assoc, List.append_nil, Nat.reduceEqDiff, Option.some.injEq, Int.natCast_inj, upd_upd, Int.reducePow, Int.reduceToNat, Int.reduceMul, Int.reduceAdd, Int.reduceSub, Int.reduceLT, Int.reduceLE, Int.reduceNeg, Int.reduceDiv, Int.reduceMod, Nat.reducePow, Nat.reduceMul, S_len, List.length_append, List.length_map, List.length_range, not_true_eq_false, not_false_eq_true, ne_eq, uAdd_e1, uAdd_e2, uSub_e1, uMod_e1, uDiv_e1, uPow_e1, uShl_e1, uNeg_e1, uIAdd_e1, uIAdd_e2, uIAdd_e3, uISub_e1, uLt_e1, uLt_e2, uLe_e1, uGt_e1, uGe_e1, uEq_e1, uEq_e2, uEq_e3, uEq_e4, uEq_e5, uEq_e6, uEq_e7, uEq_e8, uEq_e9, uEq_e10, uEq_e11, uNe_e1, uNe_e2, uNe_e3, uNe_e4, uNe_e5, uNe_e6, uNe_e7, uNe_e8, uNe_e9, uNe_e10, uNe_e11, uIs_e1, uIs_e2, uIs_e3, uIs_e4, uIs_e5, uIs_e6, uIs_e7, uNotIs_e1, uNotIs_e2, uNotIs_e3, uNotIs_e4, uNotIs_e5, uNotIs_e6, uIn_e1, uIn_e2, uIn_e3, uIn_e4, uNotIn_e1, uNotIn_e2, uNotIn_e3, uNotIn_e4, uTru_e1, uTru_e2, uTru_e3, uTru_e4, uIx_e2, uSl_e2, uLen_e1, uAbs_e1, uInt_e1, uInt_e2, uMin2_e1, uIsi_e1, uIsi_e2, uIsi_e3, uIsi_e4, cx_K, uVar_0, uVar_n, uFld, uSFld, uMet, uMake, tDG, tDI, tDNI, tDP, tDD, uMk, uRaise, uDelSl, tCallS, L2.WE, uStr_e1, uStr_e2, uMul2_e1, uMul2_e2, okS_i, okS_s, List.zip_cons_cons, List.zip_nil_left, List.drop_zero, List.drop_succ_cons, List.drop_nil, putF_nil, putF_cons, eq_self, tDNewK, tB, Option.isSome_some, Option.isSome_none, false_and, false_or, or_false, exists_false, Int.zero_add, uLc, wipe, tYes, isEmpty_app, List.isEmpty_cons, List.isEmpty_nil, List.isEmpty_map, Bool.and_false, Bool.and_true, iRev, K17.lit_0, K17.lit_1, K17.lit_2, K17.lit_3, K17.lit_4, K17.lit_5, K17.lit_6, K17.lit_7, K17.lit_8, K17.lit_9, K17.lit_10, K17.lit_11, K17.lit_12, K17.lit_13, K17.lit_14, K17.lit_15, K17.lit_16, K17.lit_17, K17.lit_18, K17.lit_19, K17.lit_20, K17.lit_21, K17.lit_23, K17.lit_24, K17.lit_26, K17.lit_27, K17.lit_28, K17.lit_29, K17.lit_30, K17.lit_31, K17.lit_32, K17.lit_33, K17.lit_34, K17.lit_35, K17.lit_36, K17.fe_selector_argc, K17.fe_selector_locals, K17.fe_selector_stack, K17.fe_selector_code, K17.fe_selector_literals, K17.fe_argc_selector, K17.fe_argc_locals, K17.fe_argc_stack, K17.fe_argc_code, K17.fe_argc_literals, K17.fe_locals_selector, K17.fe_locals_argc, K17.fe_locals_stack, K17.fe_locals_code, K17.fe_locals_literals, K17.fe_stack_selector, K17.fe_stack_argc, K17.fe_stack_locals, K17.fe_stack_code, K17.fe_stack_literals, K17.fe_code_selector, K17.fe_code_argc, K17.fe_code_locals, K17.fe_code_stack, K17.fe_code_literals, K17.fe_literals_selector, K17.fe_literals_argc, K17.fe_literals_locals, K17.fe_literals_stack, K17.fe_literals_code, K17.fe_fields_globals_known, K17.fe_fields_code, K17.fe_fields_literals, K17.fe_fields_scopes, K17.fe_globals_known_fields, K17.fe_globals_known_code, K17.fe_globals_known_literals, K17.fe_globals_known_scopes, K17.fe_code_fields, K17.fe_code_globals_known, K17.fe_code_scopes, K17.fe_literals_fields, K17.fe_literals_globals_known, K17.fe_literals_scopes, K17.fe_scopes_fields, K17.fe_scopes_globals_known, K17.fe_scopes_code, K17.fe_scopes_literals, K17.fl_locals_0, K17.lf_locals_0, K17.fl_locals_1, K17.lf_locals_1, K17.fl_locals_2, K17.lf_locals_2, K17.fl_locals_3, K17.lf_locals_3, K17.fl_locals_4, K17.lf_locals_4, K17.fl_locals_5, K17.lf_locals_5, K17.fl_locals_6, K17.lf_locals_6, K17.fl_locals_7, K17.lf_locals_7, K17.fl_locals_8, K17.lf_locals_8, K17.fl_locals_9, K17.lf_locals_9, K17.fl_locals_10, K17.lf_locals_10, K17.fl_locals_11, K17.lf_locals_11, K17.fl_locals_12, K17.lf_locals_12, K17.fl_locals_13, K17.lf_locals_13, K17.fl_locals_14, K17.lf_locals_14, K17.fl_locals_15, K17.lf_locals_15, K17.fl_locals_16, K17.lf_locals_16, K17.fl_locals_17, K17.lf_locals_17, K17.fl_locals_18, K17.lf_locals_18, K17.fl_locals_19, K17.lf_locals_19, K17.fl_locals_20, K17.lf_locals_20, K17.fl_locals_21, K17.lf_locals_21, K17.fl_locals_23, K17.lf_locals_23, K17.fl_locals_24, K17.lf_locals_24, K17.fl_locals_25, K17.lf_locals_25, K17.fl_locals_26, K17.lf_locals_26, K17.fl_locals_27, K17.lf_locals_27, K17.fl_locals_28, K17.lf_locals_28, K17.fl_locals_29, K17.lf_locals_29, K17.fl_locals_30, K17.lf_locals_30, K17.fl_locals_31, K17.lf_locals_31, K17.fl_locals_32, K17.lf_locals_32, K17.fl_locals_33, K17.lf_locals_33, K17.fl_locals_34, K17.lf_locals_34, K17.fl_locals_35, K17.lf_locals_35, K17.fl_locals_36, K17.lf_locals_36, K17.fl_selector_0, K17.lf_selector_0, K17.fl_selector_1, K17.lf_selector_1, K17.fl_selector_2, K17.lf_selector_2, K17.fl_selector_3, K17.lf_selector_3, K17.fl_selector_4, K17.lf_selector_4, K17.fl_selector_5, K17.lf_selector_5, K17.fl_selector_6, K17.lf_selector_6, K17.fl_selector_7, K17.lf_selector_7, K17.fl_selector_8, K17.lf_selector_8, K17.fl_selector_9, K17.lf_selector_9, K17.fl_selector_10, K17.lf_selector_10, K17.fl_selector_11, K17.lf_selector_11, K17.fl_selector_12, K17.lf_selector_12, K17.fl_selector_13, K17.lf_selector_13, K17.fl_selector_14, K17.lf_selector_14, K17.fl_selector_15, K17.lf_selector_15, K17.fl_selector_16, K17.lf_selector_16, K17.fl_selector_17, K17.lf_selector_17, K17.fl_selector_18, K17.lf_selector_18, K17.fl_selector_19, K17.lf_selector_19, K17.fl_selector_20, K17.lf_selector_20, K17.fl_selector_21, K17.lf_selector_21, K17.fl_selector_22, K17.lf_selector_22, K17.fl_selector_23, K17.lf_selector_23, K17.fl_selector_24, K17.lf_selector_24, K17.fl_selector_26, K17.lf_selector_26, K17.fl_selector_27, K17.lf_selector_27, K17.fl_selector_28, K17.lf_selector_28, K17.fl_selector_29, K17.lf_selector_29, K17.fl_selector_30, K17.lf_selector_30, K17.fl_selector_31, K17.lf_selector_31, K17.fl_selector_32, K17.lf_selector_32, K17.fl_selector_33, K17.lf_selector_33, K17.fl_selector_34, K17.lf_selector_34, K17.fl_selector_35, K17.lf_selector_35, K17.fl_selector_36, K17.lf_selector_36, uMetD, uMtD_e, uDict1, uD1_e1, uD1_e2, uMax3_e, uSlA_e1, uSlA_e2, uTuple_e, uLenDk_e, K17.N_change_of, K17.N_places_behind, K17.N_Draft_init, K17.N_Draft_parts, K17.N_Draft___eq__, K17.N_declared, K17.N_is_plain_block, K17.N_is_inlined, K17.N_Coder_init, K17.N_Coder_emit, K17.N_Coder_here, K17.N_Coder_aim, K17.N_Coder_literal, K17.N_Coder_found, K17.N_Coder_name, K17.N_Coder_assign, K17.N_Coder_sequence, K17.N_Coder_inline, K17.N_Coder_choice, K17.N_Coder_loop, K17.N_Coder_message, K17.N_Coder_send, K17.N_Coder_block, K17.N_Coder_expression, K17.N_greatest_height, K17.N_with_stacks, K17.N_compile_method, K17.N__law_cell, K17.N__law_told, K17.N_law])
local macro_rules | `(tactic| walk_at "nn") => `(tactic| first | assumption | exact ne_un (by assumption) | exact ne_un (ne_un (by assumption)) | exact ne_un (ne_un (ne_un (by assumption))) | exact ne_un (ne_un (ne_un (ne_un (by assumption)))))
local macro_rules | `(tactic| walk_at "ne") => `(tactic| first | assumption | (apply Ne.symm; assumption) | exact ne_ud (by assumption) | exact Ne.symm (ne_ud (by assumption)) | exact ne_ud (ne_un (by assumption)) | exact Ne.symm (ne_ud (ne_un (by assumption))) | exact ne_ud (ne_un (ne_un (by assumption))) | exact Ne.symm (ne_ud (ne_un (ne_un (by assumption)))) | exact ne_m (by assumption) (by assumption) | exact Ne.symm (ne_m (by assumption) (by assumption)) | exact ne_n (by assumption) (by walk_at "nn") | exact Ne.symm (ne_n (by assumption) (by walk_at "nn")))
local macro_rules | `(tactic| walk_at "hp") => `(tactic| first | assumption | exact upd_same | (refine Eq.trans (upd_ne ?_) ?_; (focus walk_at "ne"); walk_at "hp"))
local macro_rules | `(tactic| walk_at "sc") => `(tactic| first | (with_reducible assumption) | omega | exact le_line (by (try simp only [List.length_map, List.length_append, List.length_cons, List.length_nil, S_len]); omega) | exact div_s (by omega) | exact mul_r (by omega) | exact mul_l (by omega) | exact pow_s (by omega) | exact mul2_r (by omega) | exact mul2_l (by omega) | exact small4300 (by omega) | exact lt_line (by (try simp only [List.length_map, List.length_append, List.length_cons, List.length_nil, S_len]); omega) | exact ⟨_, by assumption⟩ | (guard_target =~ Exists _; exact ⟨_, .of (by walk_at "hp")⟩) | (guard_target =~ _ ∨ _; exact .inl ⟨_, by assumption⟩) | (guard_target =~ _ ∨ _; exact .inl ⟨_, .of (by walk_at "hp")⟩) | (guard_target =~ _ ∨ _; exact .inr (.inr (.inl ⟨rfl, .inl ⟨_, by walk_at "hp"⟩⟩))) | decide)
local macro_rules | `(tactic| walk_at "kr") => `(tactic| first | (guard_target =~ _ ∧ _; first | refine And.intro (by walk_at "sc") ?_) | (guard_target =~ KW.uIx _ _ _ _ _; first | refine ix_l (by walk_at "hp") (by first | walk_at "hv" | rfl) ?_ | refine ix_t (by walk_at "hp") (by first | walk_at "hv" | rfl) ?_ | refine ix_sl (by assumption) (by walk_at "hv") ?_) | (guard_target =~ KW.uLen _ _ _ _; first | refine len_l (by walk_at "hp") ?_ | refine len_t (by walk_at "hp") ?_ | refine len_sl (by assumption) ?_) | (guard_target =~ KW.uSet _ _ _ _ _; first | refine set_l (by walk_at "hp") (by first | walk_at "hv" | rfl) ?_) | (guard_target =~ L2.gTup _ _ _ _ _ _ _; first | refine tup_l (by walk_at "hp") (by rfl) ?_) | (guard_target =~ KW.uGet _ _ _ _ _; first | refine get_l (by walk_at "hp") (by walk_at "hc") (by decide) (by rfl) ?_) | (guard_target =~ KW.uPut _ _ _ _ _ _; first | refine put_l (by walk_at "hp") (by walk_at "hc") (by decide) (by simp) ?_) | (guard_target =~ KW.uMet.uMt _ _ _ _ _ _ _ _ _; first | refine met_l (by walk_at "hp") (by rfl) ?_) | (guard_target =~ KW.uMet.uMt _ _ _ _ _ _ _ _ _; first | refine ST.met_s (by assumption) (by decide) ?_) | (guard_target =~ ST.spExists _ _ _ _ _; first | refine ST.exists_s (by assumption) ?_) | (guard_target =~ ST.spUsed _ _ _ _ _; first | refine ST.used_s (by assumption) ?_) | (guard_target =~ KW.uGet _ _ _ _ _; first | refine ST.words_s (by assumption) (by walk_at "hc") (by decide) ?_) | (guard_target =~ KW.uDIn _ _ _ _; first | refine din_i (by walk_at "hp") ?_ | refine din_s (by walk_at "hp") ?_) | (guard_target =~ KW.uDGet _ _ _ _; first | refine dget_i (by walk_at "hp") (by walk_at "hv") ?_ | refine dget_s (by walk_at "hp") (by walk_at "hv") ?_) | (guard_target =~ KW.uDPut _ _ _ _ _; first | refine dput_i (by walk_at "hp") (by walk_at "sc") ?_ | refine dput_s (by walk_at "hp") (by walk_at "sc") ?_) | (guard_target =~ KW.uDDel _ _ _ _; first | refine ddel_i (by walk_at "hp") (by walk_at "hv") ?_ | refine ddel_s (by walk_at "hp") (by walk_at "hv") ?_) | (guard_target =~ KW.uMul2 _ _ _ _; first | refine rep_l (by walk_at "hp") (by walk_at "sc") (by walk_at "sc") (by walk_at "sc") ?_) | (guard_target =~ L2.rAppend _ _ _ _; first | refine app_l (by walk_at "hp") (by walk_at "sc") ?_) | (guard_target =~ L2.rPop _ _ _ _; first | refine pop_l (by walk_at "hp") (by walk_at "hv") ?_ | refine pops_l (by walk_at "hp") ?_) | (guard_target =~ L2.rClear _ _ _ _; first | refine clr_l (by walk_at "hp") ?_) | (guard_target =~ L2.rReverse _ _ _ _; first | refine rev_l (by walk_at "hp") ?_) | (guard_target =~ L2.rExtend _ _ _ _; first | refine ext_l (by walk_at "hp") (by walk_at "hp") (by walk_at "sc") ?_) | (guard_target =~ KW.uAdd _ _ _ _ _; first | refine ucat_l (by walk_at "hp") (by walk_at "hp") (by walk_at "sc") ?_) | (guard_target =~ KW.uSl _ _ _ _ _ _; first | refine usl_l (by walk_at "hp") ?_) | (guard_target =~ KW.uTru _ _ _ _; first | refine tru_l (by walk_at "hp") ?_ | refine tru_t (by walk_at "hp") ?_ | refine tru_d (by walk_at "hp") ?_ | refine tru_sl (by assumption) ?_) | (guard_target =~ L2.rIndex _ _ _ _ _; first | refine idx_s (by walk_at "hp") (by assumption) ?_ | refine idx_i (by walk_at "hp") (by assumption) ?_) | (guard_target =~ L2.rIn _ _ _ _ _ _; first | refine in_s (by walk_at "hp") ?_ | refine nin_s (by walk_at "hp") ?_ | refine in_i (by walk_at "hp") ?_ | refine nin_i (by walk_at "hp") ?_) | (guard_target =~ KW.uIsi _ _ _ _; first | refine isi_l (by walk_at "hp") (by decide +kernel) ?_ | refine isi_t (by walk_at "hp") (by decide +kernel) ?_ | refine isi_d (by walk_at "hp") (by decide +kernel) ?_) | (guard_target =~ KW.uList _ _ _ _; first | refine list_l (by walk_at "hp") ?_ | refine list_t (by walk_at "hp") ?_ | refine list_sl (by assumption) ?_) | (guard_target =~ KW.uDict _ _ _; first | refine dict_d (by walk_at "hp") ?_) | (guard_target =~ KW.uSorted _ _ _ _; first | refine srt_l (by walk_at "hp") ?_) | (guard_target =~ KW.uSum _ _ _ _; first | refine sum_l (by walk_at "hp") ?_) | (guard_target =~ KW.uDelC _ _ _ _; first | refine dels_l (by walk_at "hp") (by walk_at "sc") ?_) | (guard_target =~ L2.wAs _ _ _ _ _ _ _ _ _ _; first | refine as_yes (by walk_at "hx") ?_ | refine as_no (by walk_at "hx") ?_) | (guard_target =~ KW.uEf _ _ _ _ _ _ _ _ _; first | refine ef_l (by walk_at "he") (by decide) (by rfl) (by walk_at "hp") (by rfl) ?_) | (guard_target =~ KW.uIsE _ _ _ _ _ _ _; first | refine isE_r (by walk_at "he") (by walk_at "hp") (by walk_at "hk") ?_ | refine isE_t (by walk_at "he") (by walk_at "hp") (by walk_at "hk") ?_))
local macro_rules | `(tactic| walk_at "hv") => `(tactic| first | assumption)
local macro_rules | `(tactic| walk_at "kk") => `(tactic| repeat (first | walk_at "kw" | walk_at "kr"))
local macro_rules | `(tactic| walk_at "hc") => `(tactic| first | exact K17.Txt.c_Draft (by assumption) | exact K17.Txt.c_Coder (by assumption))
local macro_rules | `(tactic| walk_at "he") => `(tactic| first | exact K17.Txt.e_Oversized (by assumption) | exact K17.Txt.e_Unknown (by assumption) | exact K17.Txt.e_Twice (by assumption) | exact K17.Txt.e_Fixed (by assumption))
local macro_rules | `(tactic| walk_at "hx") => `(tactic| first | exact K17.Txt.x_Oversized_Oversized (by assumption) | exact K17.Txt.x_Oversized_Twice (by assumption) | exact K17.Txt.x_Unknown_Oversized (by assumption) | exact K17.Txt.x_Unknown_Twice (by assumption) | exact K17.Txt.x_Twice_Oversized (by assumption) | exact K17.Txt.x_Twice_Twice (by assumption) | exact K17.Txt.x_Fixed_Oversized (by assumption) | exact K17.Txt.x_Fixed_Twice (by assumption))
local macro_rules | `(tactic| walk_at "hk") => `(tactic| first | fail)

def drO (C dx : Addr) (sel : Str) (ac lc sk : Int) (c l : Addr) : HO := .ins C dx [("selector", .str sel), ("argc", .int ac), ("locals", .int lc), ("stack", .int sk), ("code", .ref c), ("literals", .ref l)]
section
variable {P : Program} {w : World} {K : Frag} {mg : Str → Option Value} {base : Heap} {a : Ads}
theorem ok_Draft_init (T : Txt P w K mg a) : CalI P w K mg base 1 "Draft" a.Draft [] (fun vs H Q _ => ∃ (dr dx : Addr) (sel : Str) (ac lc sk : Int) (c0 l0 : Addr) (cs ls : List V), vs = [.ref dr, .str sel, .int ac, .int lc, .int sk, .ref c0, .ref l0] ∧ H dr = some (.ins a.Draft dx []) ∧ H c0 = some (.lst cs) ∧ H l0 = some (.lst ls) ∧
    ∀ c l H', H' dr = some (drO a.Draft dx sel ac lc sk c l) → H' c = some (.lst cs) → H' l = some (.lst ls) → KW.Fr [dr] H H' → Q .non H') := by
  refine T.ini_Draft.ok T.c_Draft.gC sc_Draft_init (fun vs H Q E h => ?_) (fun f cdv A outer s H vs Q E hr h => ⟨_, (pss_cons (k_sfld (kv 0) (kv 1) rfl)
      (pss_cons (k_sfld (kv 0) (kv 2) rfl)
      (pss_cons (k_sfld (kv 0) (kv 3) rfl)
      (pss_cons (k_sfld (kv 0) (kv 4) rfl)
      (pss_cons (k_sfld (kv 0) (pe_callTy c_list (by rfl) T.n_list (by decide +kernel) (pa_cons (kv 5) pa_nil)) rfl)
      (pss_one (k_sfld (kv 0) (pe_callTy c_list (by rfl) T.n_list (by decide +kernel) (pa_cons (kv 6) pa_nil)) rfl))))))), ?_⟩)
  · obtain ⟨_, _, _, _, _, _, _, _, _, _, rfl, _⟩ := h; rfl
  · obtain ⟨dr, dx, sel, ac, lc, sk, c0, l0, cs, ls, rfl, hd, hc, hl, h⟩ := h
    have nc : c0 ≠ dr := fun z => by rw [z, hd] at hc; cases hc
    have nl : l0 ≠ dr := fun z => by rw [z, hd] at hl; cases hl
    walk_at "kk"
    intro c hc'
    have c1 : c ≠ dr := (ne_of_none upd_same hc').symm
    have hcH : H c = none := by rw [upd_ne c1] at hc'; exact hc'
    have c2 : c ≠ l0 := (ne_of_none hl hcH).symm
    walk_at "kk"
    intro l hl'
    have l1 : l ≠ dr := (ne_of_none upd_same hl').symm
    have l2 : l ≠ c := fun z => by rw [upd_ne l1, z, upd_same] at hl'; cases hl'
    have hlH : H l = none := by rw [upd_ne l1, upd_ne l2, upd_ne l1] at hl'; exact hl'
    walk_at "kk"
    refine h c l _ upd_same (by rw [upd_ne c1, upd_ne (Ne.symm l2), upd_ne c1, upd_same]) (by rw [upd_ne l1, upd_same]) fun b o hb e => ?_
    have b1 : b ≠ dr := fun z => hb (by simp [z])
    rw [upd_ne b1, upd_ne (ne_of_none e hlH), upd_ne b1, upd_ne (ne_of_none e hcH), upd_ne b1]
    exact e
/-- what compiling leaves: a method of names, or a method that returns a block of names -/
def spComp (DR TW OV : Addr) : Sp := fun vs H Q E => ∃ (tr f0 g0 pt tt : Addr) (sel : Str) (A1 A2 : List Addr) (L : NL), vs = [.ref tr, .ref f0, .ref g0] ∧ H f0 = some (.lst []) ∧ H g0 = some (.lst []) ∧ H pt = some (.tup (A1.map V.ref)) ∧ H tt = some (.tup (A2.map V.ref)) ∧ Prs H (A1 ++ A2) L ∧ ErrP TW OV H E L ∧
  ((∃ st : Addr, H tr = some (.tup [.str (S [109, 101, 116, 104, 111, 100]), .str sel, .ref pt, .ref tt, .ref st]) ∧ H st = some (.tup []) ∧
    ((nms L).Nodup → L.length ≤ 255 → ∀ dr dx c l t0 t1 sk H', H' dr = some (drO DR dx sel A1.length L.length sk c l) → H' c = some (.lst [.ref t0, .ref t1]) → H' t0 = some (.tup [.str oSelf, .int 0]) → H' t1 = some (.tup [.str oRet, .int 0]) → KW.Fr [] H H' → Q (.ref dr) H')) ∨
  (∃ (p0 q0 ss s1 bt st : Addr) (n m : Int), H tr = some (.tup [.str (S [109, 101, 116, 104, 111, 100]), .str sel, .ref p0, .ref q0, .ref ss]) ∧ H p0 = some (.tup []) ∧ H q0 = some (.tup []) ∧ H ss = some (.tup [.ref s1]) ∧ H s1 = some (.tup [.str oRet, .ref bt, .int m]) ∧ H bt = some (.tup [.str oBlk, .ref pt, .ref tt, .ref st, .int n]) ∧ H st = some (.tup []) ∧
    ((nms L).Nodup → L.length ≤ 255 → ∀ dr dx c l tn sk H', H' dr = some (drO DR dx sel 0 0 sk c l) → H' l = some (.lst [.ref tn]) → H' tn = some (.tup [.str oBlk, .int A1.length, .int L.length, .int 2, .int 1]) → KW.Fr [] H H' → Q (.ref dr) H')))
theorem errP_nil {TW OV : Addr} {H : Hp} {E : XK} : ErrP TW OV H E [] := ⟨fun k x h => by have := h.1; simp at this, fun _ h => by simp at h⟩
theorem prs_nil {H : Hp} : Prs H ([] ++ []) [] := ⟨rfl, fun i t x h => by simp at h, by simp, by simp⟩
theorem ok_compile_method (T : Txt P w K mg a) : Cal P w K mg base 6 "compile_method" (spComp a.Draft a.Twice a.Oversized) := by
  have I_Coder := ok_Coder_init (P := P) (w := w) (base := base) T
  have I_Draft := ok_Draft_init (P := P) (w := w) (base := base) T
  have C_declared := ok_declared (P := P) (w := w) (base := base) T
  have C_with_stacks := ok_with_stacks (P := P) (w := w) (base := base) T
  have M_Coder_emit := ok_Coder_emit (P := P) (w := w) (base := base) T
  have M_Coder_sequence := ok_sequence1 (P := P) (w := w) (base := base) T
  refine T.d_compile_method.ok sc_compile_method (fun vs H Q E h => ?_) (fun f cdv A outer s H vs Q E hr h => ⟨_, (pss_cons (ps_set (i := 3) sc_compile_method.nd rfl (Or.inl rfl) (kmk 0 I_Coder (hr.mono (by decide)) (pa_cons (kv 1) (pa_cons (kv 2) pa_nil))))
      (pss_cons (ps_set (i := 4) sc_compile_method.nd rfl (Or.inl rfl) (kcX (L2N.takes_of rfl rfl rfl rfl) C_declared (hr.mono (by decide)) (pa_cons (pe_ix o_ix (kv 0) pe_int (fun _ _ => rfl)) (pa_cons (pe_ix o_ix (kv 0) pe_int (fun _ _ => rfl)) pa_nil))))
      (pss_cons (ps_expr (pe_bm PySem.F.plainAttrs_list PySem.F.slot_list_append PySem.F.type_list_append mt_append (k_fld (kv 3) rfl) (pa_cons (kv 4) pa_nil)))
      (pss_cons (ps_if (kt (kmX (L2N.takes_of rfl rfl rfl rfl) M_Coder_sequence (hr.mono (by decide)) (kv 3) (pa_cons (pe_ix o_ix (kv 0) pe_int (fun _ _ => rfl)) (pa_cons pe_bl pa_nil))))
      (pss_cons (ps_expr (kmD 0 M_Coder_emit (hr.mono (by decide)) (kv 3) (pa_cons pe_str pa_nil)))
      (pss_one (ps_expr (kmD 0 M_Coder_emit (hr.mono (by decide)) (kv 3) (pa_cons pe_str pa_nil)))))
      pss_nil)
      (pss_cons (ps_asg (kc C_with_stacks (hr.mono (by decide)) (pa_cons (k_fld (kv 3) rfl) (pa_cons (k_fld (kv 3) rfl) pa_nil))) (pg_tup (n := 2) (by rfl) (pgs_cons (pg_name (i := 5) sc_compile_method.nd rfl (Or.inl rfl)) (pgs_cons (pg_name (i := 6) sc_compile_method.nd rfl (Or.inl rfl)) pgs_nil))))
      (pss_one (ps_ret (kmk 0 I_Draft (hr.mono (by decide)) (pa_cons (pe_ix o_ix (kv 0) pe_int (fun _ _ => rfl)) (pa_cons (pe_callB c_len (by rfl) T.n_len (by decide +kernel) (pa_cons (pe_ix o_ix (kv 0) pe_int (fun _ _ => rfl)) pa_nil)) (pa_cons (pe_callB c_lenDk (by rfl) T.n_len (by decide +kernel) (pa_cons (kv 4) pa_nil)) (pa_cons (kv 5) (pa_cons (k_fld (kv 3) rfl) (pa_cons (kv 6) pa_nil)))))))))))))), ?_⟩)
  · obtain ⟨_, _, _, _, _, _, _, _, _, rfl, _⟩ := h; rfl
  · obtain ⟨tr, f0, g0, pt, tt, sel, A1, A2, L, rfl, hf, hg, hp, ht, R, er, h⟩ := h
    walk_at "kk"
    intro cd dx hs hd hne
    have F0 : KW.Fr [] H (upd (upd H dx (.own cd)) cd (.ins a.Coder dx [])) := fun b o _ e => by rw [upd_ne (ne_of_none e hs), upd_ne (ne_of_none e hd)]; exact e
    have nn : ∀ x, upd (upd H dx (.own cd)) cd (.ins a.Coder dx []) x = none → H x = none := fun x e => F0.none (by simp) e
    refine ⟨dx, upd_same, F0 _ _ (by simp) hf, F0 _ _ (by simp) hg, fun fl gk co li sc H1 e1 ec el es n1 n2 n3 c1 c2 c3 f1 => ?_⟩
    replace c1 := nn _ c1
    replace c2 := nn _ c2
    replace c3 := nn _ c3
    have F1 : KW.Fr [] H H1 := fun b o _ e => f1 b o (by simp; exact ne_of_none e hs) (F0 b o (by simp) e)
    have D1 : Cdr a.Coder H1 cd co li sc [] [] [] := ⟨⟨dx, fl, gk, e1⟩, ec, fun x hx => by simp at hx, el, fun x hx => by simp at hx, es, n1, n2, n3⟩
    clear F0 nn f1 e1 ec el es
    have nf : ∀ {b : Addr} {o : HO}, H b = some o → b ∉ [co, li, sc] := fun {b o} e z => by
      simp only [List.mem_cons, List.not_mem_nil, or_false] at z
      rcases z with rfl | rfl | rfl
      · rw [c1] at e; cases e
      · rw [c2] at e; cases e
      · rw [c3] at e; cases e
    have FF : ∀ {H2 H3 : Hp}, KW.Fr [] H H2 → KW.Fr [co, li, sc] H2 H3 → KW.Fr [] H H3 := fun {H2 H3} f g b o _ e => g b o (nf e) (f b o (by simp) e)
    rcases h with ⟨st, htr, hst, h⟩ | ⟨p0, q0, ss, s1, bt, st, n, m, htr, hp0, hq0, hss, hs1, hbt, hst, h⟩
    · have htr1 := F1 _ _ (by simp) htr
      walk_at "kk"
      refine ⟨pt, tt, A1, A2, L, rfl, F1 _ _ (by simp) hp, F1 _ _ (by simp) ht, R.fr0 F1, er.mono F1, fun nd l255 d kvs H2 hd2 kd ek f2 => ?_⟩
      have F2 := F1.trans f2
      have D2 := D1.fr0 f2
      obtain ⟨⟨dx2, fl2, gk2, ob2⟩, -, -, -, -, hs2, -, -, -⟩ := id D2
      unfold cdO at ob2
      walk_at "kk"
      have D3 := D2.setS (scs' := [V.ref d])
      have F3 : KW.Fr [] H (upd H2 sc (.lst [V.ref d])) := FF F2 (Fr.upd (by simp))
      have kd3 : upd H2 sc (.lst [V.ref d]) d = some (.dK kvs) := by rw [upd_ne (fun z => by rw [z, hs2] at kd; cases kd)]; exact kd
      revert D3 F3 kd3
      generalize upd H2 sc (.lst [V.ref d]) = H3
      intro D3 F3 kd3
      clear ob2 hs2 kd
      have nd3 : d ≠ co := fun z => by have := D3.hc; rw [← z, kd3] at this; cases this
      obtain ⟨⟨dx3, fl3, gk3, ob3⟩, -, -, -, -, -, -, -, -⟩ := id D3
      unfold cdO at ob3
      have htr3 := F3 _ _ (by simp) htr
      walk_at "kk"
      refine .inl ⟨cd, co, li, sc, st, _, _, _, rfl, D3, F3 _ _ (by simp) hst, ?_⟩
      walk_at "kk"
      clear ob3
      refine emit_s D3 (by simp) fun t0 H4 ht0 D4 f4 => ?_
      refine emit_s D4 (by simp) fun t1 H5 ht1 D5 f5 => ?_
      have F5 : KW.Fr [] H H5 := FF (FF F3 (f4.mono (by simp))) (f5.mono (by simp))
      have kd5 := f5 _ _ (by simpa using nd3) (f4 _ _ (by simpa using nd3) kd3)
      obtain ⟨⟨dx5, fl5, gk5, ob5⟩, hc5, it5, hl5, -, -, -, -, -⟩ := id D5
      unfold cdO at ob5
      have htr5 := F5 _ _ (by simp) htr
      walk_at "kk"
      refine ⟨co, li, rfl, n1, .inl ⟨t0, t1, hc5, it5 (t0, oSelf, 0) (by simp), it5 (t1, oRet, 0) (by simp), hl5, fun tq r m H6 f6 g1 g2 => ?_⟩⟩
      have F6 : KW.Fr [] H H6 := F5.trans f6
      have kd6 := f6 _ _ (by simp) kd5
      have ob6 := f6 _ _ (by simp) ob5
      have hc6 := f6 _ _ (by simp) hc5
      have i60 := f6 _ _ (by simp) (it5 (t0, oSelf, 0) (by simp))
      have i61 := f6 _ _ (by simp) (it5 (t1, oRet, 0) (by simp))
      have htr6 := F6 _ _ (by simp) htr
      have hp6 := F6 _ _ (by simp) hp
      clear ob5
      walk_at "kk"
      refine ⟨kvs, kd6, ?_⟩
      walk_at "kk"
      intro dr ddx hs7 hd7 hne7
      have F7 : KW.Fr [] H6 (upd (upd H6 ddx (.own dr)) dr (.ins a.Draft ddx [])) := fun b o _ e => by rw [upd_ne (ne_of_none e hs7), upd_ne (ne_of_none e hd7)]; exact e
      refine ⟨ddx, upd_same, _, F7 _ _ (by simp) hc6, _, F7 _ _ (by simp) g2, fun c l H8 e8 ec el f8 => ?_⟩
      rw [ek] at e8
      have F8 : ∀ b o, H6 b = some o → H8 b = some o := fun b o e => f8 b o (by simp; exact ne_of_none e hs7) (F7 b o (by simp) e)
      exact h nd l255 dr ddx c l t0 t1 m H8 e8 ec (F8 _ _ i60) (F8 _ _ i61) fun b o _ e => F8 b o (F6 b o (by simp) e)
    · have htr1 := F1 _ _ (by simp) htr
      walk_at "kk"
      refine ⟨p0, q0, [], [], [], rfl, F1 _ _ (by simp) hp0, F1 _ _ (by simp) hq0, prs_nil, errP_nil, fun _ _ d kvs H2 hd2 kd ek f2 => ?_⟩
      have F2 := F1.trans f2
      have D2 := D1.fr0 f2
      obtain ⟨⟨dx2, fl2, gk2, ob2⟩, -, -, -, -, hs2, -, -, -⟩ := id D2
      unfold cdO at ob2
      walk_at "kk"
      have D3 := D2.setS (scs' := [V.ref d])
      have F3 : KW.Fr [] H (upd H2 sc (.lst [V.ref d])) := FF F2 (Fr.upd (by simp))
      have kd3 : upd H2 sc (.lst [V.ref d]) d = some (.dK kvs) := by rw [upd_ne (fun z => by rw [z, hs2] at kd; cases kd)]; exact kd
      revert D3 F3 kd3
      generalize upd H2 sc (.lst [V.ref d]) = H3
      intro D3 F3 kd3
      clear ob2 hs2 kd
      have nd3 : d ∉ [co, li, sc] := fun z => by
        simp only [List.mem_cons, List.not_mem_nil, or_false] at z
        rcases z with rfl | rfl | rfl
        · have := D3.hc; rw [kd3] at this; cases this
        · have := D3.hl; rw [kd3] at this; cases this
        · have := D3.hs; rw [kd3] at this; cases this
      obtain ⟨⟨dx3, fl3, gk3, ob3⟩, -, -, -, -, -, -, -, -⟩ := id D3
      unfold cdO at ob3
      have htr3 := F3 _ _ (by simp) htr
      walk_at "kk"
      refine .inr ⟨cd, co, li, sc, ss, s1, bt, pt, tt, st, A1, A2, L, [V.ref d], n, m, rfl, F3 _ _ (by simp) hss, F3 _ _ (by simp) hs1, F3 _ _ (by simp) hbt, D3, by simp, F3 _ _ (by simp) hp, F3 _ _ (by simp) ht, F3 _ _ (by simp) hst, R.fr0 F3, er.mono F3, fun nd l255 t0 t1 t2 t3 t4 tl H5 D5 f5 => ?_⟩
      clear ob3
      have F5 : KW.Fr [] H H5 := FF F3 f5
      have kd5 := f5 _ _ nd3 kd3
      obtain ⟨⟨dx5, fl5, gk5, ob5⟩, hc5, it5, hl5, lt5, -, -, -, -⟩ := id D5
      unfold cdO at ob5
      have htr5 := F5 _ _ (by simp) htr
      walk_at "kk"
      refine ⟨co, li, rfl, n1, .inr ⟨t0, t1, t2, t3, t4, tl, _, _, hc5, it5 (t0, oBlk, 0) (by simp), it5 (t1, oJmp, 4) (by simp), it5 (t2, oNil, 0) (by simp), it5 (t3, oLv, 0) (by simp), it5 (t4, oRet, 0) (by simp), hl5, lt5 (tl, _) (List.mem_cons_self), fun tq r m tn H6 f6 g1 g2 g3 => ?_⟩⟩
      have F6 : KW.Fr [] H H6 := F5.trans f6
      have kd6 := f6 _ _ (by simp) kd5
      have ob6 := f6 _ _ (by simp) ob5
      have hc6 := f6 _ _ (by simp) hc5
      have htr6 := F6 _ _ (by simp) htr
      have hp06 := F6 _ _ (by simp) hp0
      clear ob5
      walk_at "kk"
      refine ⟨kvs, kd6, ?_⟩
      walk_at "kk"
      intro dr ddx hs7 hd7 hne7
      have F7 : KW.Fr [] H6 (upd (upd H6 ddx (.own dr)) dr (.ins a.Draft ddx [])) := fun b o _ e => by rw [upd_ne (ne_of_none e hs7), upd_ne (ne_of_none e hd7)]; exact e
      refine ⟨ddx, upd_same, _, F7 _ _ (by simp) hc6, _, F7 _ _ (by simp) g2, fun c l H8 e8 ec el f8 => ?_⟩
      rw [ek] at e8
      have F8 : ∀ b o, H6 b = some o → H8 b = some o := fun b o e => f8 b o (by simp; exact ne_of_none e hs7) (F7 b o (by simp) e)
      exact h nd l255 dr ddx c l tn m H8 e8 el (F8 _ _ g3) fun b o _ e => F8 b o (F6 b o (by simp) e)
end
end K17

set_option Elab.async false
set_option linter.all false
set_option maxRecDepth 100000
set_option maxHeartbeats 4000000
namespace K17
open PySem PySem.Spec PyProof.Rows L2 KW
local macro_rules | `(tactic| walk_at "kw") => `(tactic| simp only [tSeq, tNext, tIfS, tTest, tAnd, tOr, tNot, tAndV, tOrV, tNotV, tIf, tChain, tOp, tUn, tC, tAsg, gName, gSub, gCons, gNil, tRet, tRetN, tDrop, tCons, tNil, tCB, tAug, tSl, tPart, tNoPart, tLst, tTup, tBM, tBM0, uTest, uFor, iRng1, iRng2, iList, uCall, List.map_cons, List.map_nil, List.length_cons, List.length_nil, List.cons_append, List.nil_append, List.replicate, Nat.zero_add, Nat.reduceAdd, Nat.reduceSub, List.getElem?_cons_zero, List.getElem?_cons_succ, List.set_cons_zero, List.set_cons_succ, V.bl.injEq, V.int.injEq, V.str.injEq, V.ref.injEq, V.ty.injEq, List.cons.injEq, and_true, true_and, exists_eq_left', exists_eq_right, exists_eq_left, exists_and_left, exists_and_right, decide_eq_true_eq, Bool.not_eq_true', decide_eq_false_iff_not, Bool.false_eq_true, if_true, if_false, ite_true, ite_false, Bool.not_true, Bool.not_false, reduceCtorEq, decide_true, decide_false, Bool.not_not, isK_int_int, isK_int_bool, isK_int_str, isK_int_list, isK_int_tuple, isK_bool_int, isK_bool_bool, isK_bool_str, isK_str_str, isK_str_int, isK_str_bool, isK_str_tuple, isK_str_list, isK_list_list, isK_list_tuple, isK_tuple_tuple, isK_tuple_list, isOk_int_int, isOk_int_bool, isOk_int_str, isOk_int_list, isOk_int_tuple, isOk_bool_int, isOk_bool_bool, isOk_bool_str, isOk_str_str, isOk_str_int, isOk_str_bool, isOk_str_tuple, isOk_str_list, isOk_list_list, isOk_list_tuple, isOk_tuple_tuple, isOk_tuple_list, isK_dict_dict, isOk_dict_dict, isK_none_int, isK_none_bool, isOk_none_int, isOk_none_bool, tyV, S_inj, S_cat, L2.start, Nat.reduceSub, List.replicate_succ, List.replicate_zero, and_assoc, List.append_nil, Nat.reduceEqDiff, Option.some.injEq, Int.natCast_inj, upd_upd, Int.reducePow, Int.reduceToNat, Int.reduceMul, Int.reduceAdd, Int.reduceSub, Int.reduceLT, Int.reduceLE, Int.reduceNeg, Int.reduceDiv, Int.reduceMod, Nat.reducePow, Nat.reduceMul, S_len, List.length_append, List.length_map, List.length_range, not_true_eq_false, not_false_eq_true, ne_eq, uAdd_e1, uAdd_e2, uSub_e1, uMod_e1, uDiv_e1, uPow_e1, uShl_e1, uNeg_e1, uIAdd_e1, uIAdd_e2, uIAdd_e3, uISub_e1, uLt_e1, uLt_e2, uLe_e1, uGt_e1, uGe_e1, uEq_e1, uEq_e2, uEq_e3, uEq_e4, uEq_e5, uEq_e6, uEq_e7, uEq_e8, uEq_e9, uEq_e10, uEq_e11, uNe_e1, uNe_e2, uNe_e3, uNe_e4, uNe_e5, uNe_e6, uNe_e7, uNe_e8, uNe_e9, uNe_e10, uNe_e11, uIs_e1, uIs_e2, uIs_e3, uIs_e4, uIs_e5, uIs_e6, uIs_e7, uNotIs_e1, uNotIs_e2, uNotIs_e3, uNotIs_e4, uNotIs_e5, uNotIs_e6, uIn_e1, uIn_e2, uIn_e3, uIn_e4, uNotIn_e1, uNotIn_e2, uNotIn_e3, uNotIn_e4, uTru_e1, uTru_e2, uTru_e3, uTru_e4, uIx_e2, uSl_e2, uLen_e1, uAbs_e1, uInt_e1, uInt_e2, uMin2_e1, uIsi_e1, uIsi_e2, uIsi_e3, uIsi_e4, cx_K, uVar_0, uVar_n, uFld, uSFld, uMet, uMake, tDG, tDI, tDNI, tDP, tDD, uMk, uRaise, uDelSl, tCallS, L2.WE, uStr_e1, uStr_e2, uMul2_e1, uMul2_e2, okS_i, okS_s, List.zip_cons_cons, List.zip_nil_left, List.drop_zero, List.drop_succ_cons, List.drop_nil, putF_nil, putF_cons, eq_self, tDNewK, tB, Option.isSome_some, Option.isSome_none, false_and, false_or, or_false, exists_false, Int.zero_add, uLc, wipe, tYes, isEmpty_app, List.isEmpty_cons, List.isEmpty_nil, List.isEmpty_map, Bool.and_false, Bool.and_true, iRev, K17.lit_0, K17.lit_1, K17.lit_2, K17.lit_3, K17.lit_4, K17.lit_5, K17.lit_6, K17.lit_7, K17.lit_8, K17.lit_9, K17.lit_10, K17.lit_11, K17.lit_12, K17.lit_13, K17.lit_14, K17.lit_15, K17.lit_16, K17.lit_17, K17.lit_18, K17.lit_19, K17.lit_20, K17.lit_21, K17.lit_23, K17.lit_24, K17.lit_26, K17.lit_27, K17.lit_28, K17.lit_29, K17.lit_30, K17.lit_31, K17.lit_32, K17.lit_33, K17.lit_34, K17.lit_35, K17.lit_36, K17.fe_selector_argc, K17.fe_selector_locals, K17.fe_selector_stack, K17.fe_selector_code, K17.fe_selector_literals, K17.fe_argc_selector, K17.fe_argc_locals, K17.fe_argc_stack, K17.fe_argc_code, K17.fe_argc_literals, K17.fe_locals_selector, K17.fe_locals_argc, K17.fe_locals_stack, K17.fe_locals_code, K17.fe_locals_literals, K17.fe_stack_selector, K17.fe_stack_argc, K17.fe_stack_locals, K17.fe_stack_code, K17.fe_stack_literals, K17.fe_code_selector, K17.fe_code_argc, K17.fe_code_locals, K17.fe_code_stack, K17.fe_code_literals, K17.fe_literals_selector, K17.fe_literals_argc, K17.fe_literals_locals, K17.fe_literals_stack, K17.fe_literals_code, K17.fe_fields_globals_known, K17.fe_fields_code, K17.fe_fields_literals, K17.fe_fields_scopes, K17.fe_globals_known_fields, K17.fe_globals_known_code, K17.fe_globals_known_literals, K17.fe_globals_known_scopes, K17.fe_code_fields, K17.fe_code_globals_known, K17.fe_code_scopes, K17.fe_literals_fields, K17.fe_literals_globals_known, K17.fe_literals_scopes, K17.fe_scopes_fields, K17.fe_scopes_globals_known, K17.fe_scopes_code, K17.fe_scopes_literals, K17.fl_locals_0, K17.lf_locals_0, K17.fl_locals_1, K17.lf_locals_1, K17.fl_locals_2, K17.lf_locals_2, K17.fl_locals_3, K17.lf_locals_3, K17.fl_locals_4, K17.lf_locals_4, K17.fl_locals_5, K17.lf_locals_5, K17.fl_locals_6, K17.lf_locals_6, K17.fl_locals_7, K17.lf_locals_7, K17.fl_locals_8, K17.lf_locals_8, K17.fl_locals_9, K17.lf_locals_9, K17.fl_locals_10, K17.lf_locals_10, K17.fl_locals_11, K17.lf_locals_11, K17.fl_locals_12, K17.lf_locals_12, K17.fl_locals_13, K17.lf_locals_13, K17.fl_locals_14, K17.lf_locals_14, K17.fl_locals_15, K17.lf_locals_15, K17.fl_locals_16, K17.lf_locals_16, K17.fl_locals_17, K17.lf_locals_17, K17.fl_locals_18, K17.lf_locals_18, K17.fl_locals_19, K17.lf_locals_19, K17.fl_locals_20, K17.lf_locals_20, K17.fl_locals_21, K17.lf_locals_21, K17.fl_locals_23, K17.lf_locals_23, K17.fl_locals_24, K17.lf_locals_24, K17.fl_locals_25, K17.lf_locals_25, K17.fl_locals_26, K17.lf_locals_26, K17.fl_locals_27, K17.lf_locals_27, K17.fl_locals_28, K17.lf_locals_28, K17.fl_locals_29, K17.lf_locals_29, K17.fl_locals_30, K17.lf_locals_30, K17.fl_locals_31, K17.lf_locals_31, K17.fl_locals_32, K17.lf_locals_32, K17.fl_locals_33, K17.lf_locals_33, K17.fl_locals_34, K17.lf_locals_34, K17.fl_locals_35, K17.lf_locals_35, K17.fl_locals_36, K17.lf_locals_36, K17.fl_selector_0, K17.lf_selector_0, K17.fl_selector_1, K17.lf_selector_1, K17.fl_selector_2, K17.lf_selector_2, K17.fl_selector_3, K17.lf_selector_3, K17.fl_selector_4, K17.lf_selector_4, K17.fl_selector_5, K17.lf_selector_5, K17.fl_selector_6, K17.lf_selector_6, K17.fl_selector_7, K17.lf_selector_7, K17.fl_selector_8, K17.lf_selector_8, K17.fl_selector_9, K17.lf_selector_9, K17.fl_selector_10, K17.lf_selector_10, K17.fl_selector_11, K17.lf_selector_11, K17.fl_selector_12, K17.lf_selector_12, K17.fl_selector_13, K17.lf_selector_13, K17.fl_selector_14, K17.lf_selector_14, K17.fl_selector_15, K17.lf_selector_15, K17.fl_selector_16, K17.lf_selector_16, K17.fl_selector_17, K17.lf_selector_17, K17.fl_selector_18, K17.lf_selector_18, K17.fl_selector_19, K17.lf_selector_19, K17.fl_selector_20, K17.lf_selector_20, K17.fl_selector_21, K17.lf_selector_21, K17.fl_selector_22, K17.lf_selector_22, K17.fl_selector_23, K17.lf_selector_23, K17.fl_selector_24, K17.lf_selector_24, K17.fl_selector_26, K17.lf_selector_26, K17.fl_selector_27, K17.lf_selector_27, K17.fl_selector_28, K17.lf_selector_28, K17.fl_selector_29, K17.lf_selector_29, K17.fl_selector_30, K17.lf_selector_30, K17.fl_selector_31, K17.lf_selector_31, K17.fl_selector_32, K17.lf_selector_32, K17.fl_selector_33, K17.lf_selector_33, K17.fl_selector_34, K17.lf_selector_34, K17.fl_selector_35, K17.lf_selector_35, K17.fl_selector_36, K17.lf_selector_36, uMetD, uMtD_e, uDict1, uD1_e1, uD1_e2, uMax3_e, uSlA_e1, uSlA_e2, uTuple_e, uLenDk_e, K17.N_change_of, K17.N_places_behind, K17.N_Draft_init, K17.N_Draft_parts, K17.N_Draft___eq__, K17.N_declared, K17.N_is_plain_block, K17.N_is_inlined, K17.N_Coder_init, K17.N_Coder_emit, K17.N_Coder_here, K17.N_Coder_aim, K17.N_Coder_literal, K17.N_Coder_found, K17.N_Coder_name, K17.N_Coder_assign, K17.N_Coder_sequence, K17.N_Coder_inline, K17.N_Coder_choice, K17.N_Coder_loop, K17.N_Coder_message, K17.N_Coder_send, K17.N_Coder_block, K17.N_Coder_expression, K17.N_greatest_height, K17.N_with_stacks, K17.N_compile_method, K17.N__law_cell, K17.N__law_told, K17.N_law])
local macro_rules | `(tactic| walk_at "nn") => `(tactic| first | assumption | exact ne_un (by assumption) | exact ne_un (ne_un (by assumption)) | exact ne_un (ne_un (ne_un (by assumption))) | exact ne_un (ne_un (ne_un (ne_un (by assumption)))))
local macro_rules | `(tactic| walk_at "ne") => `(tactic| first | assumption | (apply Ne.symm; assumption) | exact ne_ud (by assumption) | exact Ne.symm (ne_ud (by assumption)) | exact ne_ud (ne_un (by assumption)) | exact Ne.symm (ne_ud (ne_un (by assumption))) | exact ne_ud (ne_un (ne_un (by assumption))) | exact Ne.symm (ne_ud (ne_un (ne_un (by assumption)))) | exact ne_m (by assumption) (by assumption) | exact Ne.symm (ne_m (by assumption) (by assumption)) | exact ne_n (by assumption) (by walk_at "nn") | exact Ne.symm (ne_n (by assumption) (by walk_at "nn")))
local macro_rules | `(tactic| walk_at "hp") => `(tactic| first | assumption | exact upd_same | (refine Eq.trans (upd_ne ?_) ?_; (focus walk_at "ne"); walk_at "hp"))
local macro_rules | `(tactic| walk_at "sc") => `(tactic| first | (with_reducible assumption) | omega | exact le_line (by (try simp only [List.length_map, List.length_append, List.length_cons, List.length_nil, S_len]); omega) | exact div_s (by omega) | exact mul_r (by omega) | exact mul_l (by omega) | exact pow_s (by omega) | exact mul2_r (by omega) | exact mul2_l (by omega) | exact small4300 (by omega) | exact lt_line (by (try simp only [List.length_map, List.length_append, List.length_cons, List.length_nil, S_len]); omega) | exact ⟨_, by assumption⟩ | (guard_target =~ Exists _; exact ⟨_, .of (by walk_at "hp")⟩) | (guard_target =~ _ ∨ _; exact .inl ⟨_, by assumption⟩) | (guard_target =~ _ ∨ _; exact .inl ⟨_, .of (by walk_at "hp")⟩) | (guard_target =~ _ ∨ _; exact .inr (.inr (.inl ⟨rfl, .inl ⟨_, by walk_at "hp"⟩⟩))) | decide)
local macro_rules | `(tactic| walk_at "kr") => `(tactic| first | (guard_target =~ _ ∧ _; first | refine And.intro (by walk_at "sc") ?_) | (guard_target =~ KW.uIx _ _ _ _ _; first | refine ix_l (by walk_at "hp") (by first | walk_at "hv" | rfl) ?_ | refine ix_t (by walk_at "hp") (by first | walk_at "hv" | rfl) ?_ | refine ix_sl (by assumption) (by walk_at "hv") ?_) | (guard_target =~ KW.uLen _ _ _ _; first | refine len_l (by walk_at "hp") ?_ | refine len_t (by walk_at "hp") ?_ | refine len_sl (by assumption) ?_) | (guard_target =~ KW.uSet _ _ _ _ _; first | refine set_l (by walk_at "hp") (by first | walk_at "hv" | rfl) ?_) | (guard_target =~ L2.gTup _ _ _ _ _ _ _; first | refine tup_l (by walk_at "hp") (by rfl) ?_) | (guard_target =~ KW.uGet _ _ _ _ _; first | refine get_l (by walk_at "hp") (by walk_at "hc") (by decide) (by rfl) ?_) | (guard_target =~ KW.uPut _ _ _ _ _ _; first | refine put_l (by walk_at "hp") (by walk_at "hc") (by decide) (by simp) ?_) | (guard_target =~ KW.uMet.uMt _ _ _ _ _ _ _ _ _; first | refine met_l (by walk_at "hp") (by rfl) ?_) | (guard_target =~ KW.uMet.uMt _ _ _ _ _ _ _ _ _; first | refine ST.met_s (by assumption) (by decide) ?_) | (guard_target =~ ST.spExists _ _ _ _ _; first | refine ST.exists_s (by assumption) ?_) | (guard_target =~ ST.spUsed _ _ _ _ _; first | refine ST.used_s (by assumption) ?_) | (guard_target =~ KW.uGet _ _ _ _ _; first | refine ST.words_s (by assumption) (by walk_at "hc") (by decide) ?_) | (guard_target =~ KW.uDIn _ _ _ _; first | refine din_i (by walk_at "hp") ?_ | refine din_s (by walk_at "hp") ?_) | (guard_target =~ KW.uDGet _ _ _ _; first | refine dget_i (by walk_at "hp") (by walk_at "hv") ?_ | refine dget_s (by walk_at "hp") (by walk_at "hv") ?_) | (guard_target =~ KW.uDPut _ _ _ _ _; first | refine dput_i (by walk_at "hp") (by walk_at "sc") ?_ | refine dput_s (by walk_at "hp") (by walk_at "sc") ?_) | (guard_target =~ KW.uDDel _ _ _ _; first | refine ddel_i (by walk_at "hp") (by walk_at "hv") ?_ | refine ddel_s (by walk_at "hp") (by walk_at "hv") ?_) | (guard_target =~ KW.uMul2 _ _ _ _; first | refine rep_l (by walk_at "hp") (by walk_at "sc") (by walk_at "sc") (by walk_at "sc") ?_) | (guard_target =~ L2.rAppend _ _ _ _; first | refine app_l (by walk_at "hp") (by walk_at "sc") ?_) | (guard_target =~ L2.rPop _ _ _ _; first | refine pop_l (by walk_at "hp") (by walk_at "hv") ?_ | refine pops_l (by walk_at "hp") ?_) | (guard_target =~ L2.rClear _ _ _ _; first | refine clr_l (by walk_at "hp") ?_) | (guard_target =~ L2.rReverse _ _ _ _; first | refine rev_l (by walk_at "hp") ?_) | (guard_target =~ L2.rExtend _ _ _ _; first | refine ext_l (by walk_at "hp") (by walk_at "hp") (by walk_at "sc") ?_) | (guard_target =~ KW.uAdd _ _ _ _ _; first | refine ucat_l (by walk_at "hp") (by walk_at "hp") (by walk_at "sc") ?_) | (guard_target =~ KW.uSl _ _ _ _ _ _; first | refine usl_l (by walk_at "hp") ?_) | (guard_target =~ KW.uTru _ _ _ _; first | refine tru_l (by walk_at "hp") ?_ | refine tru_t (by walk_at "hp") ?_ | refine tru_d (by walk_at "hp") ?_ | refine tru_sl (by assumption) ?_) | (guard_target =~ L2.rIndex _ _ _ _ _; first | refine idx_s (by walk_at "hp") (by assumption) ?_ | refine idx_i (by walk_at "hp") (by assumption) ?_) | (guard_target =~ L2.rIn _ _ _ _ _ _; first | refine in_s (by walk_at "hp") ?_ | refine nin_s (by walk_at "hp") ?_ | refine in_i (by walk_at "hp") ?_ | refine nin_i (by walk_at "hp") ?_) | (guard_target =~ KW.uIsi _ _ _ _; first | refine isi_l (by walk_at "hp") (by decide +kernel) ?_ | refine isi_t (by walk_at "hp") (by decide +kernel) ?_ | refine isi_d (by walk_at "hp") (by decide +kernel) ?_) | (guard_target =~ KW.uList _ _ _ _; first | refine list_l (by walk_at "hp") ?_ | refine list_t (by walk_at "hp") ?_ | refine list_sl (by assumption) ?_) | (guard_target =~ KW.uDict _ _ _; first | refine dict_d (by walk_at "hp") ?_) | (guard_target =~ KW.uSorted _ _ _ _; first | refine srt_l (by walk_at "hp") ?_) | (guard_target =~ KW.uSum _ _ _ _; first | refine sum_l (by walk_at "hp") ?_) | (guard_target =~ KW.uDelC _ _ _ _; first | refine dels_l (by walk_at "hp") (by walk_at "sc") ?_) | (guard_target =~ L2.wAs _ _ _ _ _ _ _ _ _ _; first | refine as_yes (by walk_at "hx") ?_ | refine as_no (by walk_at "hx") ?_) | (guard_target =~ KW.uEf _ _ _ _ _ _ _ _ _; first | refine ef_l (by walk_at "he") (by decide) (by rfl) (by walk_at "hp") (by rfl) ?_) | (guard_target =~ KW.uIsE _ _ _ _ _ _ _; first | refine isE_r (by walk_at "he") (by walk_at "hp") (by walk_at "hk") ?_ | refine isE_t (by walk_at "he") (by walk_at "hp") (by walk_at "hk") ?_))
local macro_rules | `(tactic| walk_at "hv") => `(tactic| first | assumption)
local macro_rules | `(tactic| walk_at "kk") => `(tactic| repeat (first | walk_at "kw" | walk_at "kr"))
local macro_rules | `(tactic| walk_at "hc") => `(tactic| first | exact K17.Txt.c_Draft (by assumption) | exact K17.Txt.c_Coder (by assumption))
local macro_rules | `(tactic| walk_at "he") => `(tactic| first | exact K17.Txt.e_Oversized (by assumption) | exact K17.Txt.e_Unknown (by assumption) | exact K17.Txt.e_Twice (by assumption) | exact K17.Txt.e_Fixed (by assumption))
local macro_rules | `(tactic| walk_at "hx") => `(tactic| first | exact K17.Txt.x_Oversized_Oversized (by assumption) | exact K17.Txt.x_Oversized_Twice (by assumption) | exact K17.Txt.x_Unknown_Oversized (by assumption) | exact K17.Txt.x_Unknown_Twice (by assumption) | exact K17.Txt.x_Twice_Oversized (by assumption) | exact K17.Txt.x_Twice_Twice (by assumption) | exact K17.Txt.x_Fixed_Oversized (by assumption) | exact K17.Txt.x_Fixed_Twice (by assumption))
local macro_rules | `(tactic| walk_at "hk") => `(tactic| first | fail)

def spTold (DR : Addr) : Sp := fun vs H Q _ => ∃ (tr pt tt : Addr) (sel : Str) (A1 A2 : List Addr) (L : NL), vs = [.ref tr] ∧ H pt = some (.tup (A1.map V.ref)) ∧ H tt = some (.tup (A2.map V.ref)) ∧ Prs H (A1 ++ A2) L ∧
  (∀ k x, FD L k x → ∀ t H', H' t = some (.tup [.str (S [84, 119, 105, 99, 101]), .str x.1, .int x.2]) → KW.Fr [] H H' → Q (.ref t) H') ∧
  ((nms L).Nodup → 255 < L.length → ∀ H', KW.Fr [] H H' → Q (.str "locals") H') ∧
  ((∃ st : Addr, H tr = some (.tup [.str (S [109, 101, 116, 104, 111, 100]), .str sel, .ref pt, .ref tt, .ref st]) ∧ H st = some (.tup []) ∧
    ((nms L).Nodup → L.length ≤ 255 → ∀ dr dx c l t0 t1 sk H', H' dr = some (drO DR dx sel A1.length L.length sk c l) → H' c = some (.lst [.ref t0, .ref t1]) → H' t0 = some (.tup [.str oSelf, .int 0]) → H' t1 = some (.tup [.str oRet, .int 0]) → KW.Fr [] H H' → Q (.ref dr) H')) ∨
  (∃ (p0 q0 ss s1 bt st : Addr) (n m : Int), H tr = some (.tup [.str (S [109, 101, 116, 104, 111, 100]), .str sel, .ref p0, .ref q0, .ref ss]) ∧ H p0 = some (.tup []) ∧ H q0 = some (.tup []) ∧ H ss = some (.tup [.ref s1]) ∧ H s1 = some (.tup [.str oRet, .ref bt, .int m]) ∧ H bt = some (.tup [.str oBlk, .ref pt, .ref tt, .ref st, .int n]) ∧ H st = some (.tup []) ∧
    ((nms L).Nodup → L.length ≤ 255 → ∀ dr dx c l tn sk H', H' dr = some (drO DR dx sel 0 0 sk c l) → H' l = some (.lst [.ref tn]) → H' tn = some (.tup [.str oBlk, .int A1.length, .int L.length, .int 2, .int 1]) → KW.Fr [] H H' → Q (.ref dr) H')))
section
variable {P : Program} {w : World} {K : Frag} {mg : Str → Option Value} {base : Heap} {a : Ads}
theorem ok__law_told (T : Txt P w K mg a) : Cal P w K mg base 7 "_law_told" (spTold a.Draft) := by
  have C_compile_method := ok_compile_method (P := P) (w := w) (base := base) T
  refine T.d__law_told.ok sc__law_told (fun vs H Q E h => ?_) (fun f cdv A outer s H vs Q E hr h => ⟨_, (pss_one (ps_try7 (X := (cxOf (L2N.CX P w) P w K mg base N__law_told "_law_told" (defScope s__law_told) f cdv A outer s H E)) rfl rfl (L2N.takes_of rfl rfl rfl rfl) (fun W pn xe tk po => by
        have hbd : PSs (Cx.tr (cxOf (L2N.CX P w) P w K mg base N__law_told "_law_told" (defScope s__law_told) f cdv A outer s H E) pn xe) (tryB (nthS (defBody s__law_told) 0)) _ := (pss_one (ps_ret (kcX tk C_compile_method (hr.mono (by decide)) (pa_cons (kv 0) (pa_cons (pe_lst pa_nil) (pa_cons (pe_lst pa_nil) pa_nil))))))
        dsimp only [Cx.tr] at hbd
        exact hbd)
      (Cls7.named (X := (cxOf (L2N.CX P w) P w K mg base N__law_told "_law_told" (defScope s__law_told) f cdv A outer s H E)) (i := 1) sc__law_told.nd rfl rfl ⟨by rfl, by decide, .inl T.g_Twice⟩ (fun ea oe cls d pn hzn hf => by
        have hz := hzn.zc
        have hsu : PSs (Cx.suite (cxOf (L2N.CX P w) P w K mg base N__law_told "_law_told" (defScope s__law_told) f cdv A outer s H E) ea ((ea, oe) :: pn)) (suBk 0 (nthS (defBody s__law_told) 0)) _ := (pss_one (ps_ret (pe_tup (pa_cons pe_str (pa_cons (k_ef 1 hz hf) (pa_cons (k_ef 1 hz hf) pa_nil))))))
        dsimp only [Cx.suite] at hsu
        exact hsu)
      (Cls7.named (X := (cxOf (L2N.CX P w) P w K mg base N__law_told "_law_told" (defScope s__law_told) f cdv A outer s H E)) (i := 1) sc__law_told.nd rfl rfl ⟨by rfl, by decide, .inl T.g_Oversized⟩ (fun ea oe cls d pn hzn hf => by
        have hz := hzn.zc
        have hsu : PSs (Cx.suite (cxOf (L2N.CX P w) P w K mg base N__law_told "_law_told" (defScope s__law_told) f cdv A outer s H E) ea ((ea, oe) :: pn)) (suBk 1 (nthS (defBody s__law_told) 0)) _ := (pss_one (ps_ret (k_ef 1 hz hf)))
        dsimp only [Cx.suite] at hsu
        exact hsu)
      Cls7.nil)))), ?_⟩)
  · obtain ⟨_, _, _, _, _, _, _, rfl, _⟩ := h; rfl
  · obtain ⟨tr, pt, tt, sel, A1, A2, L, rfl, hp, ht, R, q1, q2, q3⟩ := h
    walk_at "kk"
    intro p hp0
    refine ⟨by decide, fun q hq0 => ?_⟩
    have npq : p ≠ q := ne_of_none upd_same hq0
    have F1 : KW.Fr [] H (upd (upd H p (.lst [])) q (.lst [])) := (Fr.new hp0).trans (Fr.new hq0)
    have g1 : upd (upd H p (.lst [])) q (.lst []) p = some (.lst []) := by rw [upd_ne npq, upd_same]
    have g2 : upd (upd H p (.lst [])) q (.lst []) q = some (.lst []) := upd_same
    revert F1 g1 g2
    generalize upd (upd H p (.lst [])) q (.lst []) = H1
    intro F1 g1 g2
    refine ⟨tr, p, q, pt, tt, sel, A1, A2, L, rfl, g1, g2, F1 _ _ (by simp) hp, F1 _ _ (by simp) ht, R.fr0 F1, ⟨fun k x fd H2 d f2 hd2 => ?_, fun nd l H2 d f2 hd2 => ?_⟩, ?_⟩
    · refine cl_yesN T.x_Twice_Twice fun ea hea => ?_
      have F2 : KW.Fr [] H (upd H2 d (.xd [("name", .str x.1), ("at", .int x.2)])) := (F1.trans f2).trans (Fr.new hd2)
      have g3 : upd H2 d (.xd [("name", .str x.1), ("at", .int x.2)]) d = some (.xd [("name", .str x.1), ("at", .int x.2)]) := upd_same
      revert F2 g3
      generalize upd H2 d (.xd [("name", .str x.1), ("at", .int x.2)]) = H3
      intro F2 g3
      walk_at "kk"
      exact fun t ht3 => q1 k x fd t _ upd_same (F2.trans (Fr.new ht3))
    · refine cl_no T.x_Oversized_Twice ?_
      refine cl_yesN T.x_Oversized_Oversized fun ea hea => ?_
      have F2 : KW.Fr [] H (upd H2 d (.xd [("limit", .str "locals")])) := (F1.trans f2).trans (Fr.new hd2)
      have g3 : upd H2 d (.xd [("limit", .str "locals")]) d = some (.xd [("limit", .str "locals")]) := upd_same
      revert F2 g3
      generalize upd H2 d (.xd [("limit", .str "locals")]) = H3
      intro F2 g3
      walk_at "kk"
      exact q2 nd l _ F2
    · have m1 : ∀ {H' : Hp}, KW.Fr [] H1 H' → KW.Fr [] H H' := fun f => F1.trans f
      rcases q3 with ⟨st, htr, hst, h⟩ | ⟨p0, q0, ss, s1, bt, st, n, m, htr, hp1, hq1, hss, hs1, hbt, hst, h⟩
      · exact .inl ⟨st, F1 _ _ (by simp) htr, F1 _ _ (by simp) hst, fun nd l dr dx c l' t0 t1 sk H' e1 e2 e3 e4 f => h nd l dr dx c l' t0 t1 sk H' e1 e2 e3 e4 (m1 f)⟩
      · exact .inr ⟨p0, q0, ss, s1, bt, st, n, m, F1 _ _ (by simp) htr, F1 _ _ (by simp) hp1, F1 _ _ (by simp) hq1, F1 _ _ (by simp) hss, F1 _ _ (by simp) hs1, F1 _ _ (by simp) hbt, F1 _ _ (by simp) hst, fun nd l dr dx c l' tn sk H' e1 e2 e3 f => h nd l dr dx c l' tn sk H' e1 e2 e3 (m1 f)⟩
end
end K17

set_option Elab.async false
set_option linter.all false
set_option maxRecDepth 100000
set_option maxHeartbeats 4000000
namespace K17
open PySem PySem.Spec PyProof.Rows L2 KW
local macro_rules | `(tactic| walk_at "kw") => `(tactic| simp only [tSeq, tNext, tIfS, tTest, tAnd, tOr, tNot, tAndV, tOrV, tNotV, tIf, tChain, tOp, tUn, tC, tAsg, gName, gSub, gCons, gNil, tRet, tRetN, tDrop, tCons, tNil, tCB, tAug, tSl, tPart, tNoPart, tLst, tTup, tBM, tBM0, uTest, uFor, iRng1, iRng2, iList, uCall, List.map_cons, List.map_nil, List.length_cons, List.length_nil, List.cons_append, List.nil_append, List.replicate, Nat.zero_add, Nat.reduceAdd, Nat.reduceSub, List.getElem?_cons_zero, List.getElem?_cons_succ, List.set_cons_zero, List.set_cons_succ, V.bl.injEq, V.int.injEq, V.str.injEq, V.ref.injEq, V.ty.injEq, List.cons.injEq, and_true, true_and, exists_eq_left', exists_eq_right, exists_eq_left, exists_and_left, exists_and_right, decide_eq_true_eq, Bool.not_eq_true', decide_eq_false_iff_not, Bool.false_eq_true, if_true, if_false, ite_true, ite_false, Bool.not_true, Bool.not_false, reduceCtorEq, decide_true, decide_false, Bool.not_not, isK_int_int, isK_int_bool, isK_int_str, isK_int_list, isK_int_tuple, isK_bool_int, isK_bool_bool, isK_bool_str, isK_str_str, isK_str_int, isK_str_bool, isK_str_tuple, isK_str_list, isK_list_list, isK_list_tuple, isK_tuple_tuple, isK_tuple_list, isOk_int_int, isOk_int_bool, isOk_int_str, isOk_int_list, isOk_int_tuple, isOk_bool_int, isOk_bool_bool, isOk_bool_str, isOk_str_str, isOk_str_int, isOk_str_bool, isOk_str_tuple, isOk_str_list, isOk_list_list, isOk_list_tuple, isOk_tuple_tuple, isOk_tuple_list, isK_dict_dict, isOk_dict_dict, isK_none_int, isK_none_bool, isOk_none_int, isOk_none_bool, tyV, S_inj, S_cat, L2.start, Nat.reduceSub, List.replicate_succ, List.replicate_zero, and_assoc, List.append_nil, Nat.reduceEqDiff, Option.some.injEq, Int.natCast_inj, upd_upd, Int.reducePow, Int.reduceToNat, Int.reduceMul, Int.reduceAdd, Int.reduceSub, Int.reduceLT, Int.reduceLE, Int.reduceNeg, Int.reduceDiv, Int.reduceMod, Nat.reducePow, Nat.reduceMul, S_len, List.length_append, List.length_map, List.length_range, not_true_eq_false, not_false_eq_true, ne_eq, uAdd_e1, uAdd_e2, uSub_e1, uMod_e1, uDiv_e1, uPow_e1, uShl_e1, uNeg_e1, uIAdd_e1, uIAdd_e2, uIAdd_e3, uISub_e1, uLt_e1, uLt_e2, uLe_e1, uGt_e1, uGe_e1, uEq_e1, uEq_e2, uEq_e3, uEq_e4, uEq_e5, uEq_e6, uEq_e7, uEq_e8, uEq_e9, uEq_e10, uEq_e11, uNe_e1, uNe_e2, uNe_e3, uNe_e4, uNe_e5, uNe_e6, uNe_e7, uNe_e8, uNe_e9, uNe_e10, uNe_e11, uIs_e1, uIs_e2, uIs_e3, uIs_e4, uIs_e5, uIs_e6, uIs_e7, uNotIs_e1, uNotIs_e2, uNotIs_e3, uNotIs_e4, uNotIs_e5, uNotIs_e6, uIn_e1, uIn_e2, uIn_e3, uIn_e4, uNotIn_e1, uNotIn_e2, uNotIn_e3, uNotIn_e4, uTru_e1, uTru_e2, uTru_e3, uTru_e4, uIx_e2, uSl_e2, uLen_e1, uAbs_e1, uInt_e1, uInt_e2, uMin2_e1, uIsi_e1, uIsi_e2, uIsi_e3, uIsi_e4, cx_K, uVar_0, uVar_n, uFld, uSFld, uMet, uMake, tDG, tDI, tDNI, tDP, tDD, uMk, uRaise, uDelSl, tCallS, L2.WE, uStr_e1, uStr_e2, uMul2_e1, uMul2_e2, okS_i, okS_s, List.zip_cons_cons, List.zip_nil_left, List.drop_zero, List.drop_succ_cons, List.drop_nil, putF_nil, putF_cons, eq_self, tDNewK, tB, Option.isSome_some, Option.isSome_none, false_and, false_or, or_false, exists_false, Int.zero_add, uLc, wipe, tYes, isEmpty_app, List.isEmpty_cons, List.isEmpty_nil, List.isEmpty_map, Bool.and_false, Bool.and_true, iRev, K17.lit_0, K17.lit_1, K17.lit_2, K17.lit_3, K17.lit_4, K17.lit_5, K17.lit_6, K17.lit_7, K17.lit_8, K17.lit_9, K17.lit_10, K17.lit_11, K17.lit_12, K17.lit_13, K17.lit_14, K17.lit_15, K17.lit_16, K17.lit_17, K17.lit_18, K17.lit_19, K17.lit_20, K17.lit_21, K17.lit_23, K17.lit_24, K17.lit_26, K17.lit_27, K17.lit_28, K17.lit_29, K17.lit_30, K17.lit_31, K17.lit_32, K17.lit_33, K17.lit_34, K17.lit_35, K17.lit_36, K17.fe_selector_argc, K17.fe_selector_locals, K17.fe_selector_stack, K17.fe_selector_code, K17.fe_selector_literals, K17.fe_argc_selector, K17.fe_argc_locals, K17.fe_argc_stack, K17.fe_argc_code, K17.fe_argc_literals, K17.fe_locals_selector, K17.fe_locals_argc, K17.fe_locals_stack, K17.fe_locals_code, K17.fe_locals_literals, K17.fe_stack_selector, K17.fe_stack_argc, K17.fe_stack_locals, K17.fe_stack_code, K17.fe_stack_literals, K17.fe_code_selector, K17.fe_code_argc, K17.fe_code_locals, K17.fe_code_stack, K17.fe_code_literals, K17.fe_literals_selector, K17.fe_literals_argc, K17.fe_literals_locals, K17.fe_literals_stack, K17.fe_literals_code, K17.fe_fields_globals_known, K17.fe_fields_code, K17.fe_fields_literals, K17.fe_fields_scopes, K17.fe_globals_known_fields, K17.fe_globals_known_code, K17.fe_globals_known_literals, K17.fe_globals_known_scopes, K17.fe_code_fields, K17.fe_code_globals_known, K17.fe_code_scopes, K17.fe_literals_fields, K17.fe_literals_globals_known, K17.fe_literals_scopes, K17.fe_scopes_fields, K17.fe_scopes_globals_known, K17.fe_scopes_code, K17.fe_scopes_literals, K17.fl_locals_0, K17.lf_locals_0, K17.fl_locals_1, K17.lf_locals_1, K17.fl_locals_2, K17.lf_locals_2, K17.fl_locals_3, K17.lf_locals_3, K17.fl_locals_4, K17.lf_locals_4, K17.fl_locals_5, K17.lf_locals_5, K17.fl_locals_6, K17.lf_locals_6, K17.fl_locals_7, K17.lf_locals_7, K17.fl_locals_8, K17.lf_locals_8, K17.fl_locals_9, K17.lf_locals_9, K17.fl_locals_10, K17.lf_locals_10, K17.fl_locals_11, K17.lf_locals_11, K17.fl_locals_12, K17.lf_locals_12, K17.fl_locals_13, K17.lf_locals_13, K17.fl_locals_14, K17.lf_locals_14, K17.fl_locals_15, K17.lf_locals_15, K17.fl_locals_16, K17.lf_locals_16, K17.fl_locals_17, K17.lf_locals_17, K17.fl_locals_18, K17.lf_locals_18, K17.fl_locals_19, K17.lf_locals_19, K17.fl_locals_20, K17.lf_locals_20, K17.fl_locals_21, K17.lf_locals_21, K17.fl_locals_23, K17.lf_locals_23, K17.fl_locals_24, K17.lf_locals_24, K17.fl_locals_25, K17.lf_locals_25, K17.fl_locals_26, K17.lf_locals_26, K17.fl_locals_27, K17.lf_locals_27, K17.fl_locals_28, K17.lf_locals_28, K17.fl_locals_29, K17.lf_locals_29, K17.fl_locals_30, K17.lf_locals_30, K17.fl_locals_31, K17.lf_locals_31, K17.fl_locals_32, K17.lf_locals_32, K17.fl_locals_33, K17.lf_locals_33, K17.fl_locals_34, K17.lf_locals_34, K17.fl_locals_35, K17.lf_locals_35, K17.fl_locals_36, K17.lf_locals_36, K17.fl_selector_0, K17.lf_selector_0, K17.fl_selector_1, K17.lf_selector_1, K17.fl_selector_2, K17.lf_selector_2, K17.fl_selector_3, K17.lf_selector_3, K17.fl_selector_4, K17.lf_selector_4, K17.fl_selector_5, K17.lf_selector_5, K17.fl_selector_6, K17.lf_selector_6, K17.fl_selector_7, K17.lf_selector_7, K17.fl_selector_8, K17.lf_selector_8, K17.fl_selector_9, K17.lf_selector_9, K17.fl_selector_10, K17.lf_selector_10, K17.fl_selector_11, K17.lf_selector_11, K17.fl_selector_12, K17.lf_selector_12, K17.fl_selector_13, K17.lf_selector_13, K17.fl_selector_14, K17.lf_selector_14, K17.fl_selector_15, K17.lf_selector_15, K17.fl_selector_16, K17.lf_selector_16, K17.fl_selector_17, K17.lf_selector_17, K17.fl_selector_18, K17.lf_selector_18, K17.fl_selector_19, K17.lf_selector_19, K17.fl_selector_20, K17.lf_selector_20, K17.fl_selector_21, K17.lf_selector_21, K17.fl_selector_22, K17.lf_selector_22, K17.fl_selector_23, K17.lf_selector_23, K17.fl_selector_24, K17.lf_selector_24, K17.fl_selector_26, K17.lf_selector_26, K17.fl_selector_27, K17.lf_selector_27, K17.fl_selector_28, K17.lf_selector_28, K17.fl_selector_29, K17.lf_selector_29, K17.fl_selector_30, K17.lf_selector_30, K17.fl_selector_31, K17.lf_selector_31, K17.fl_selector_32, K17.lf_selector_32, K17.fl_selector_33, K17.lf_selector_33, K17.fl_selector_34, K17.lf_selector_34, K17.fl_selector_35, K17.lf_selector_35, K17.fl_selector_36, K17.lf_selector_36, uMetD, uMtD_e, uDict1, uD1_e1, uD1_e2, uMax3_e, uSlA_e1, uSlA_e2, uTuple_e, uLenDk_e, K17.N_change_of, K17.N_places_behind, K17.N_Draft_init, K17.N_Draft_parts, K17.N_Draft___eq__, K17.N_declared, K17.N_is_plain_block, K17.N_is_inlined, K17.N_Coder_init, K17.N_Coder_emit, K17.N_Coder_here, K17.N_Coder_aim, K17.N_Coder_literal, K17.N_Coder_found, K17.N_Coder_name, K17.N_Coder_assign, K17.N_Coder_sequence, K17.N_Coder_inline, K17.N_Coder_choice, K17.N_Coder_loop, K17.N_Coder_message, K17.N_Coder_send, K17.N_Coder_block, K17.N_Coder_expression, K17.N_greatest_height, K17.N_with_stacks, K17.N_compile_method, K17.N__law_cell, K17.N__law_told, K17.N_law])
local macro_rules | `(tactic| walk_at "nn") => `(tactic| first | assumption | exact ne_un (by assumption) | exact ne_un (ne_un (by assumption)) | exact ne_un (ne_un (ne_un (by assumption))) | exact ne_un (ne_un (ne_un (ne_un (by assumption)))))
local macro_rules | `(tactic| walk_at "ne") => `(tactic| first | assumption | (apply Ne.symm; assumption) | exact ne_ud (by assumption) | exact Ne.symm (ne_ud (by assumption)) | exact ne_ud (ne_un (by assumption)) | exact Ne.symm (ne_ud (ne_un (by assumption))) | exact ne_ud (ne_un (ne_un (by assumption))) | exact Ne.symm (ne_ud (ne_un (ne_un (by assumption)))) | exact ne_m (by assumption) (by assumption) | exact Ne.symm (ne_m (by assumption) (by assumption)) | exact ne_n (by assumption) (by walk_at "nn") | exact Ne.symm (ne_n (by assumption) (by walk_at "nn")))
local macro_rules | `(tactic| walk_at "hp") => `(tactic| first | assumption | exact upd_same | (refine Eq.trans (upd_ne ?_) ?_; (focus walk_at "ne"); walk_at "hp"))
local macro_rules | `(tactic| walk_at "sc") => `(tactic| first | (with_reducible assumption) | omega | exact le_line (by (try simp only [List.length_map, List.length_append, List.length_cons, List.length_nil, S_len]); omega) | exact div_s (by omega) | exact mul_r (by omega) | exact mul_l (by omega) | exact pow_s (by omega) | exact mul2_r (by omega) | exact mul2_l (by omega) | exact small4300 (by omega) | exact lt_line (by (try simp only [List.length_map, List.length_append, List.length_cons, List.length_nil, S_len]); omega) | exact ⟨_, by assumption⟩ | (guard_target =~ Exists _; exact ⟨_, .of (by walk_at "hp")⟩) | (guard_target =~ _ ∨ _; exact .inl ⟨_, by assumption⟩) | (guard_target =~ _ ∨ _; exact .inl ⟨_, .of (by walk_at "hp")⟩) | (guard_target =~ _ ∨ _; exact .inr (.inr (.inl ⟨rfl, .inl ⟨_, by walk_at "hp"⟩⟩))) | decide)
local macro_rules | `(tactic| walk_at "kr") => `(tactic| first | (guard_target =~ _ ∧ _; first | refine And.intro (by walk_at "sc") ?_) | (guard_target =~ KW.uIx _ _ _ _ _; first | refine ix_l (by walk_at "hp") (by first | walk_at "hv" | rfl) ?_ | refine ix_t (by walk_at "hp") (by first | walk_at "hv" | rfl) ?_ | refine ix_sl (by assumption) (by walk_at "hv") ?_) | (guard_target =~ KW.uLen _ _ _ _; first | refine len_l (by walk_at "hp") ?_ | refine len_t (by walk_at "hp") ?_ | refine len_sl (by assumption) ?_) | (guard_target =~ KW.uSet _ _ _ _ _; first | refine set_l (by walk_at "hp") (by first | walk_at "hv" | rfl) ?_) | (guard_target =~ L2.gTup _ _ _ _ _ _ _; first | refine tup_l (by walk_at "hp") (by rfl) ?_) | (guard_target =~ KW.uGet _ _ _ _ _; first | refine get_l (by walk_at "hp") (by walk_at "hc") (by decide) (by rfl) ?_) | (guard_target =~ KW.uPut _ _ _ _ _ _; first | refine put_l (by walk_at "hp") (by walk_at "hc") (by decide) (by simp) ?_) | (guard_target =~ KW.uMet.uMt _ _ _ _ _ _ _ _ _; first | refine met_l (by walk_at "hp") (by rfl) ?_) | (guard_target =~ KW.uMet.uMt _ _ _ _ _ _ _ _ _; first | refine ST.met_s (by assumption) (by decide) ?_) | (guard_target =~ ST.spExists _ _ _ _ _; first | refine ST.exists_s (by assumption) ?_) | (guard_target =~ ST.spUsed _ _ _ _ _; first | refine ST.used_s (by assumption) ?_) | (guard_target =~ KW.uGet _ _ _ _ _; first | refine ST.words_s (by assumption) (by walk_at "hc") (by decide) ?_) | (guard_target =~ KW.uDIn _ _ _ _; first | refine din_i (by walk_at "hp") ?_ | refine din_s (by walk_at "hp") ?_) | (guard_target =~ KW.uDGet _ _ _ _; first | refine dget_i (by walk_at "hp") (by walk_at "hv") ?_ | refine dget_s (by walk_at "hp") (by walk_at "hv") ?_) | (guard_target =~ KW.uDPut _ _ _ _ _; first | refine dput_i (by walk_at "hp") (by walk_at "sc") ?_ | refine dput_s (by walk_at "hp") (by walk_at "sc") ?_) | (guard_target =~ KW.uDDel _ _ _ _; first | refine ddel_i (by walk_at "hp") (by walk_at "hv") ?_ | refine ddel_s (by walk_at "hp") (by walk_at "hv") ?_) | (guard_target =~ KW.uMul2 _ _ _ _; first | refine rep_l (by walk_at "hp") (by walk_at "sc") (by walk_at "sc") (by walk_at "sc") ?_) | (guard_target =~ L2.rAppend _ _ _ _; first | refine app_l (by walk_at "hp") (by walk_at "sc") ?_) | (guard_target =~ L2.rPop _ _ _ _; first | refine pop_l (by walk_at "hp") (by walk_at "hv") ?_ | refine pops_l (by walk_at "hp") ?_) | (guard_target =~ L2.rClear _ _ _ _; first | refine clr_l (by walk_at "hp") ?_) | (guard_target =~ L2.rReverse _ _ _ _; first | refine rev_l (by walk_at "hp") ?_) | (guard_target =~ L2.rExtend _ _ _ _; first | refine ext_l (by walk_at "hp") (by walk_at "hp") (by walk_at "sc") ?_) | (guard_target =~ KW.uAdd _ _ _ _ _; first | refine ucat_l (by walk_at "hp") (by walk_at "hp") (by walk_at "sc") ?_) | (guard_target =~ KW.uSl _ _ _ _ _ _; first | refine usl_l (by walk_at "hp") ?_) | (guard_target =~ KW.uTru _ _ _ _; first | refine tru_l (by walk_at "hp") ?_ | refine tru_t (by walk_at "hp") ?_ | refine tru_d (by walk_at "hp") ?_ | refine tru_sl (by assumption) ?_) | (guard_target =~ L2.rIndex _ _ _ _ _; first | refine idx_s (by walk_at "hp") (by assumption) ?_ | refine idx_i (by walk_at "hp") (by assumption) ?_) | (guard_target =~ L2.rIn _ _ _ _ _ _; first | refine in_s (by walk_at "hp") ?_ | refine nin_s (by walk_at "hp") ?_ | refine in_i (by walk_at "hp") ?_ | refine nin_i (by walk_at "hp") ?_) | (guard_target =~ KW.uIsi _ _ _ _; first | refine isi_l (by walk_at "hp") (by decide +kernel) ?_ | refine isi_t (by walk_at "hp") (by decide +kernel) ?_ | refine isi_d (by walk_at "hp") (by decide +kernel) ?_) | (guard_target =~ KW.uList _ _ _ _; first | refine list_l (by walk_at "hp") ?_ | refine list_t (by walk_at "hp") ?_ | refine list_sl (by assumption) ?_) | (guard_target =~ KW.uDict _ _ _; first | refine dict_d (by walk_at "hp") ?_) | (guard_target =~ KW.uSorted _ _ _ _; first | refine srt_l (by walk_at "hp") ?_) | (guard_target =~ KW.uSum _ _ _ _; first | refine sum_l (by walk_at "hp") ?_) | (guard_target =~ KW.uDelC _ _ _ _; first | refine dels_l (by walk_at "hp") (by walk_at "sc") ?_) | (guard_target =~ L2.wAs _ _ _ _ _ _ _ _ _ _; first | refine as_yes (by walk_at "hx") ?_ | refine as_no (by walk_at "hx") ?_) | (guard_target =~ KW.uEf _ _ _ _ _ _ _ _ _; first | refine ef_l (by walk_at "he") (by decide) (by rfl) (by walk_at "hp") (by rfl) ?_) | (guard_target =~ KW.uIsE _ _ _ _ _ _ _; first | refine isE_r (by walk_at "he") (by walk_at "hp") (by walk_at "hk") ?_ | refine isE_t (by walk_at "he") (by walk_at "hp") (by walk_at "hk") ?_))
local macro_rules | `(tactic| walk_at "hv") => `(tactic| first | assumption)
local macro_rules | `(tactic| walk_at "kk") => `(tactic| repeat (first | walk_at "kw" | walk_at "kr"))
local macro_rules | `(tactic| walk_at "hc") => `(tactic| first | exact K17.Txt.c_Draft (by assumption) | exact K17.Txt.c_Coder (by assumption))
local macro_rules | `(tactic| walk_at "he") => `(tactic| first | exact K17.Txt.e_Oversized (by assumption) | exact K17.Txt.e_Unknown (by assumption) | exact K17.Txt.e_Twice (by assumption) | exact K17.Txt.e_Fixed (by assumption))
local macro_rules | `(tactic| walk_at "hx") => `(tactic| first | exact K17.Txt.x_Oversized_Oversized (by assumption) | exact K17.Txt.x_Oversized_Twice (by assumption) | exact K17.Txt.x_Unknown_Oversized (by assumption) | exact K17.Txt.x_Unknown_Twice (by assumption) | exact K17.Txt.x_Twice_Oversized (by assumption) | exact K17.Txt.x_Twice_Twice (by assumption) | exact K17.Txt.x_Fixed_Oversized (by assumption) | exact K17.Txt.x_Fixed_Twice (by assumption))
local macro_rules | `(tactic| walk_at "hk") => `(tactic| first | fail)

def vn (k : Nat) : Str := S [118] ++ (toString ((k : Nat) : Int) : String)
theorem vn_len (k : Nat) (h : k < 10000) : (vn k).length ≤ 11 := by
  have h1 := PySem.W.KT.len_num (n := (k : Int)) (by omega) (by omega)
  unfold vn
  rw [PySem.KErr.app_len2, S_len]
  show 1 + (PySem.Str.ofString (toString ((k : Nat) : Int))).length ≤ 11
  omega
theorem log_s {k : Nat} (h : k < 10000) : ((k : Nat) : Int).natAbs.log2 < 1920 := by
  show k.log2 < 1920
  by_cases c : k = 0
  · subst c; decide
  · exact (Nat.log2_lt c).mpr (Nat.lt_of_lt_of_le h (by decide +kernel))
theorem vn_inj {k j : Nat} (hk : k < 10000) (hj : j < 10000) (h : vn k = vn j) : k = j := by
  unfold vn at h
  have e1 : (PySem.Str.ofString (toString ((k : Nat) : Int)) : Str) = PySem.Str.ofString (toString ((j : Nat) : Int)) := by
    have e := congrArg (fun x : Str => x.cps.toList) h
    have e2 : ∀ x : Str, (S [118] ++ x).cps.toList = 118 :: x.cps.toList := fun x => by
      show ((S [118]).cps ++ x.cps).toList = _
      rw [Array.toList_append]; rfl
    simp only [e2] at e
    have e3 := (List.cons.inj e).2
    have : ∀ x y : Str, x.cps.toList = y.cps.toList → x = y := fun ⟨x⟩ ⟨y⟩ h => by
      have : x = y := by simpa using h
      rw [this]
    exact this _ _ e3
  have r1 := PySem.W.KIN.num_reads (n := (k : Int)) (by omega) (by omega)
  have r2 := PySem.W.KIN.num_reads (n := (j : Int)) (by omega) (by omega)
  rw [e1, r2] at r1
  have := Option.some.inj r1
  omega
theorem vn_ok (k : Nat) : PyData.strOk (vn k) = true := by
  have e : (vn k).cps.toList = 118 :: (Nat.toDigits 10 k).map Char.toNat := by
    show ((S [118]).cps ++ (PySem.Str.ofString (toString ((k : Nat) : Int))).cps).toList = _
    rw [Array.toList_append, PySem.W.KIN.signs_num]; rfl
  unfold PyData.strOk
  rw [← Array.all_toList, e, List.all_eq_true]
  intro c hc
  rcases List.mem_cons.mp hc with rfl | hc
  · decide
  · obtain ⟨ch, hch, e⟩ := List.mem_map.mp hc
    have r := PyProof.Rows.digit_range (Nat.isDigit_of_mem_toDigits (by decide) (by decide) hch)
    rw [decide_eq_true_eq]
    omega
def L0 (N : Nat) : NL := (List.range N).map fun k => (vn k, 3 * (k : Int))
theorem L0_nms (N : Nat) : nms (L0 N) = (List.range N).map vn := by
  unfold nms L0
  rw [List.map_map]; rfl
theorem L0_take {N k : Nat} (h : k ≤ N) : (L0 N).take k = L0 k := by
  unfold L0
  rw [← List.map_take, List.take_range, Nat.min_eq_left h]
theorem L0_nd {N : Nat} (h : N ≤ 10000) : (nms (L0 N)).Nodup := by
  rw [L0_nms, List.Nodup, List.pairwise_map, List.pairwise_iff_getElem]
  intro i j hi hj hij e
  rw [List.length_range] at hi hj
  rw [List.getElem_range, List.getElem_range] at e
  have := vn_inj (by omega) (by omega) e
  omega
theorem L0_len (N : Nat) : (L0 N).length = N := by unfold L0; rw [List.length_map, List.length_range]
theorem L0_at {N k : Nat} (h : k < N) : (L0 N)[k]? = some (vn k, 3 * (k : Int)) := by
  unfold L0
  rw [List.getElem?_map, List.getElem?_range h]; rfl
theorem fd_set {N at_ j : Nat} (hN : N ≤ 10000) (h : at_ < N) (hj : j < at_) : FD ((L0 N).set at_ (vn j, 3 * (at_ : Int))) at_ (vn j, 3 * (at_ : Int)) := by
  have e : ((L0 N).set at_ (vn j, 3 * (at_ : Int))).take at_ = L0 at_ := by
    rw [List.take_set_of_le (Nat.le_refl _), L0_take (by omega)]
  refine ⟨by rw [List.getElem?_set]; simp [L0_len, h], ?_, ?_⟩
  · rw [e, L0_nms]
    exact List.mem_map.mpr ⟨j, List.mem_range.mpr hj, rfl⟩
  · rw [e]; exact L0_nd (by omega)
theorem prs_set {H : Hp} {As : List Addr} {L : NL} {k : Nat} {t : Addr} {y : Str × Int} (R : Prs H As L) (ht : H t = none) (hy : y.1.length ≤ 100 ∧ 0 ≤ y.2 ∧ y.2 ≤ 10000) : Prs (upd H t (.tup [.str y.1, .int y.2])) (As.set k t) (L.set k y) := by
  have R' := R.fr0 (Fr.new (o := .tup [V.str y.1, .int y.2]) ht)
  refine ⟨by rw [List.length_set, List.length_set]; exact R.len, fun i u x h1 h2 => ?_, by rw [List.length_set]; exact R.sm, fun x hx => ?_⟩
  · rw [List.getElem?_set] at h1 h2
    have rl := R.len
    by_cases c : k = i
    · subst c
      simp only [if_true, true_and] at h1 h2
      split at h1
      · split at h2
        · cases h1; cases h2; exact upd_same
        · cases h2
      · cases h1
    · rw [if_neg c] at h1 h2
      exact R'.it i u x h1 h2
  · rcases List.mem_or_eq_of_mem_set hx with q | q
    · exact R.ok x q
    · rw [q]; exact hy
theorem slL {K : Frag} {H : Hp} {nm : Addr} {As : List Addr} {k : Nat} {Q : VK} (h : H nm = some (.tup (As.map V.ref))) (hk : k < As.length) (q : ∀ p H', H' p = some (.tup ((As.take k).map V.ref)) → KW.Fr [] H H' → Q (.ref p) H') : uSlA K (.ref nm) none (some (k : Int)) H Q := by
  refine .inr ⟨nm, _, rfl, .inl (.of h), fun z => ?_, fun _ p hp => q p _ ?_ (Fr.new hp)⟩
  · have := z.2
    rw [HT.sIx_nat, List.length_map] at this
    omega
  · rw [upd_same]
    unfold cutV
    rw [HT.sIx_nat, HT.sIx_none, List.length_map, List.drop_zero, Nat.min_eq_left (by omega), Nat.sub_zero, List.map_take]
theorem slR {K : Frag} {H : Hp} {nm : Addr} {As : List Addr} {k : Nat} {Q : VK} (h : H nm = some (.tup (As.map V.ref))) (hk : k < As.length) (q : ∀ p H', H' p = some (.tup ((As.drop k).map V.ref)) → KW.Fr [] H H' → Q (.ref p) H') : uSlA K (.ref nm) (some (k : Int)) none H Q := by
  refine .inr ⟨nm, _, rfl, .inl (.of h), fun z => ?_, fun _ p hp => q p _ ?_ (Fr.new hp)⟩
  · have := z.1
    rw [HT.sIx_nat, List.length_map] at this
    have k0 : k = 0 := by omega
    subst k0
    exact q nm H (by rw [List.drop_zero]; exact h) (Fr.refl _)
  · rw [upd_same]
    unfold cutV
    rw [HT.sIx_nat, HT.sIx_none, List.length_map, Nat.min_eq_left (by omega), ← List.map_drop, List.take_of_length_le (by rw [List.length_map, List.length_drop]; omega)]
theorem eqD_s {K : Frag} {x y : V} {H : Hp} {Q : VK} {d : PyData} (h1 : Dp K H x d) (h2 : Dp K H y d) (hs : SeqAt.shaped d = true) (e : PyData.eqv d d = true) (q : Q (.bl true) H) : rEqD K x y H Q := ⟨d, d, h1, h2, hs, hs, by rw [e]; exact q⟩
theorem FD_nd {L : NL} {k : Nat} {x : Str × Int} (h : FD L k x) : ¬ (nms L).Nodup := fun n => by
  obtain ⟨h1, h2, -⟩ := h
  obtain ⟨i, hi⟩ := List.getElem?_of_mem h2
  have e1 : (nms L)[k]? = some x.1 := by unfold nms; rw [List.getElem?_map, h1]; rfl
  have hik : i < k := by
    have := (List.getElem?_eq_some_iff.mp hi).1
    unfold nms at this
    rw [List.length_map, List.length_take] at this; omega
  have e2 : (nms L)[i]? = some x.1 := by
    unfold nms at hi ⊢
    rw [List.getElem?_map] at hi ⊢
    rwa [List.getElem?_take_of_lt hik] at hi
  have := (List.getElem?_inj (List.getElem?_eq_some_iff.mp e2).1 n).mp (e2.trans e1.symm)
  omega
theorem FD_lt {L : NL} {k j : Nat} {x y : Str × Int} (h : FD L k x) (g : FD L j y) : ¬ k < j := fun c => by
  refine FD_nd (L := L.take j) (k := k) (x := x) ⟨by rw [List.getElem?_take_of_lt c]; exact h.1, ?_, ?_⟩ g.2.2
  · rw [List.take_take, Nat.min_eq_left (by omega)]; exact h.2.1
  · rw [List.take_take, Nat.min_eq_left (by omega)]; exact h.2.2
theorem FD_uniq {L : NL} {k j : Nat} {x y : Str × Int} (h : FD L k x) (g : FD L j y) : x = y := by
  have e : k = j := by
    have := FD_lt h g
    have := FD_lt g h
    omega
  subst e
  exact Option.some.inj (h.1.symm.trans g.1)
section
variable {P : Program} {w : World} {K : Frag} {mg : Str → Option Value} {base : Heap} {a : Ads}
theorem ok_law (T : Txt P w K mg a) : ∀ f fd, Fun K "law" "law" s_law f fd → FnOk P w K mg base (L2N.CX P w) 8 f fd ["script"] (sp_law63 K) := by
  have C__law_cell := ok__law_cell (P := P) (w := w) (base := base) T
  have C__law_told := ok__law_told (P := P) (w := w) (base := base) T
  refine DefAt.fn sc_law (fun vs H Q E h => ?_) (fun f cdv A outer s H vs Q E hr h => ⟨_, (pss_cons (ps_set (i := 1) sc_law.nd rfl (Or.inl rfl) (kc C__law_cell (hr.mono (by decide)) (pa_cons (kv 0) (pa_cons pe_int pa_nil))))
      (pss_cons (ps_set (i := 2) sc_law.nd rfl (Or.inl rfl) (pe_op o_add pe_int (pe_op o_mod (kv 1) pe_int)))
      (pss_cons (ps_set (i := 3) sc_law.nd rfl (Or.inl rfl) (pe_op o_mod (pe_op o_fdiv (kv 1) pe_int) pe_int))
      (C8.pss_cut (k_setLc (i := 4) (own := [("k", 5)]) (g := gName 5) (by rfl) sc_law.nd rfl rfl (sw_true rfl rfl rfl (by decide +kernel)) (pi_range1 (by rfl) T.n_range (pa_cons (kv 2) pa_nil)) (blkOk_by (own := [("k", 5)]) (N := ["script", "cell", "many", "params", "pairs", "k", "twice", "at", "names", "selector", "tree", "block", "found"]) (sc := defScope s_law) (by decide +kernel)) (fun _ _ _ _ _ => pg_name (i := 5) sc_law.nd rfl (Or.inl rfl)) (fun _ _ _ _ _ => pts_nil) (fun _ _ _ _ _ => by exact (pe_tup (pa_cons (pe_op (o_addK K) pe_str (pe_callTy c_str (by rfl) T.n_str (by decide +kernel) (pa_cons (kv 5) pa_nil))) (pa_cons (pe_op o_mul2 pe_int (kv 5)) pa_nil)))))
      (pss_cons (ps_set (i := 6) sc_law.nd rfl (Or.inl rfl) pe_non)
      (C8.pss_cut (ps_if (pt_cmpR (o_eq hr.units) (pe_op o_mod (pe_op o_fdiv (kv 1) pe_int) pe_int) pe_int (nomark _))
      (pss_cons (ps_set (i := 7) sc_law.nd rfl (Or.inl rfl) (pe_op o_add pe_int (pe_op o_mod (pe_op o_fdiv (kv 1) pe_int) (pe_op o_sub (kv 2) pe_int))))
      (pss_cons (ps_set (i := 6) sc_law.nd rfl (Or.inl rfl) (kv 7))
      (pss_one (ps_asg (pe_tup (pa_cons (pe_ix o_ix (pe_ix o_ix (kv 4) (pe_op o_mod (pe_op o_fdiv (kv 1) pe_int) (kv 7)) (fun _ _ => rfl)) pe_int (fun _ _ => rfl)) (pa_cons (pe_op o_mul2 pe_int (kv 7)) pa_nil))) (pg_sub (kv 4) (kv 7) s_set)))))
      pss_nil)
      (C8.pss_cut (ps_set (i := 8) sc_law.nd rfl (Or.inl rfl) (pe_callTy c_tuple (by rfl) T.n_tuple (by decide +kernel) (pa_cons (kv 4) pa_nil)))
      (C8.pss_cut (ps_set (i := 9) sc_law.nd rfl (Or.inl rfl) (pe_ix o_ix (pe_lst (pa_cons pe_str (pa_cons pe_str (pa_cons pe_str pa_nil)))) (kv 3) (fun _ _ => rfl)))
      (C8.pss_cut (ps_set (i := 10) sc_law.nd rfl (Or.inl rfl) (pe_tup (pa_cons pe_str (pa_cons (kv 9) (pa_cons (pe_slice o_slA (kv 8) po_none (po_some (kv 3))) (pa_cons (pe_slice o_slA (kv 8) (po_some (kv 3)) po_none) (pa_cons (pe_tup pa_nil) pa_nil)))))))
      (C8.pss_cut (ps_if (pt_cmpR (o_eq hr.units) (pe_op o_mod (pe_op o_fdiv (kv 1) pe_int) pe_int) pe_int (nomark _))
      (C8.pss_cut (ps_set (i := 11) sc_law.nd rfl (Or.inl rfl) (pe_tup (pa_cons pe_str (pa_cons (pe_slice o_slA (kv 8) po_none (po_some (kv 3))) (pa_cons (pe_slice o_slA (kv 8) (po_some (kv 3)) po_none) (pa_cons (pe_tup pa_nil) (pa_cons pe_int pa_nil)))))))
      (pss_one (ps_set (i := 10) sc_law.nd rfl (Or.inl rfl) (pe_tup (pa_cons pe_str (pa_cons pe_str (pa_cons (pe_tup pa_nil) (pa_cons (pe_tup pa_nil) (pa_cons (pe_tup (pa_cons (pe_tup (pa_cons pe_str (pa_cons (kv 11) (pa_cons pe_int pa_nil)))) pa_nil)) pa_nil)))))))))
      pss_nil)
      (C8.pss_cut (ps_set (i := 12) sc_law.nd rfl (Or.inl rfl) (kc C__law_told (hr.mono (by decide)) (pa_cons (kv 10) pa_nil)))
      (pss_cons (ps_if (pt_cmpR o_isnot (kv 6) pe_non (nomark _))
      (pss_one (ps_ret (pe_cmpR (o_eq hr.units) (kv 12) (pe_tup (pa_cons pe_str (pa_cons (pe_ix o_ix (pe_ix o_ix (kv 4) (kv 6) (fun _ _ => rfl)) pe_int (fun _ _ => rfl)) (pa_cons (pe_op o_mul2 pe_int (kv 6)) pa_nil)))) (nomark _))))
      pss_nil)
      (pss_cons (ps_if (pt_cmpR o_gt (kv 2) pe_int (nomark _))
      (pss_one (ps_ret (pe_cmpR (o_eq hr.units) (kv 12) pe_str (nomark _))))
      pss_nil)
      (pss_cons (ps_if (pt_cmpR (o_eq hr.units) (pe_op o_mod (pe_op o_fdiv (kv 1) pe_int) pe_int) pe_int (nomark _))
      (pss_one (ps_ret (pe_and (pe_cmpR (o_eq hr.units) (k_fld (kv 12) rfl) pe_int (nomark _)) (pe_one (pe_cmpR (o_eq hr.units) (k_fld (kv 12) rfl) (pe_lst (pa_cons (pe_tup (pa_cons pe_str (pa_cons (kv 3) (pa_cons (kv 2) (pa_cons pe_int (pa_cons pe_int pa_nil)))))) pa_nil)) (nomark _))))))
      pss_nil)
      (pss_one (ps_ret (pe_and (pe_cmpR (o_eq hr.units) (k_fld (kv 12) rfl) (kv 2) (nomark _)) (pe_and (pe_cmpR (o_eq hr.units) (k_fld (kv 12) rfl) (kv 3) (nomark _)) (pe_one (pe_cmpR (o_eq hr.units) (k_fld (kv 12) rfl) (pe_lst (pa_cons (pe_tup (pa_cons pe_str (pa_cons pe_int pa_nil))) (pa_cons (pe_tup (pa_cons pe_str (pa_cons pe_int pa_nil))) pa_nil))) (nomark _))))))))))))))))))))), ?_⟩)
  · obtain ⟨sc, ns, rfl, _⟩ := h; rfl
  · obtain ⟨sc, ns, rfl, hS, hn, h⟩ := h
    walk_at "kk"
    refine ⟨⟨0, rfl⟩, ⟨ns, hS⟩, fun cell => ⟨div_s (by omega), ?_⟩⟩
    obtain ⟨N, hN⟩ : ∃ N : Nat, (250 + cell % 11 : Int) = N := ⟨(250 + cell % 11).toNat, by omega⟩
    have N0 : 250 ≤ N := by omega
    have N1 : N ≤ 260 := by omega
    obtain ⟨pm, hpm⟩ : ∃ pm : Nat, (cell / 11 % 3 : Int) = pm := ⟨(cell / 11 % 3).toNat, by omega⟩
    have p2 : pm ≤ 2 := by omega
    rw [hN, hpm]
    refine ⟨fun σ H' => ∃ pr As, σ = [some (.ref sc), some (.int cell), some (.int N), some (.int pm), some (.ref pr), none, none, none, none, none, none, none, none] ∧ H' pr = some (.lst (As.map V.ref)) ∧ Prs H' As (L0 N), ?_, ?_⟩
    · walk_at "kw"
      refine ⟨by omega, by omega, ?_⟩
      rw [Int.toNat_natCast]
      obtain ⟨Pv, hPv⟩ : ∃ Pv : Nat → Addr → List V → Hp → Prop, Pv = fun i D acc H' => ∃ As : List Addr, acc = As.map V.ref ∧ H' D = some (.lst acc) ∧ As.length = i ∧ ∀ (j : Nat) (t : Addr), As[j]? = some t → H' t = some (.tup [.str (vn j), .int (3 * (j : Int))]) := ⟨_, rfl⟩
      refine lc_rG Pv ?_ ?_ ?_
      · intro D hD
        rw [hPv]
        exact ⟨[], rfl, upd_same, rfl, fun j t h => by simp at h⟩
      · intro i D acc H' Nx hi hD hp hN'
        rw [hPv] at hp
        obtain ⟨As, rfl, hDD, la, it⟩ := hp
        rw [Int.zero_add]
        walk_at "kk"
        have lt3 := PySem.W.KT.len_num (n := (i : Int)) (by omega) (by omega)
        refine ⟨log_s (by omega), le_line (by omega), mul2_l (by omega), by decide, fun t ht => ?_⟩
        have nD : D ≠ t := ne_of_none hDD ht
        refine ⟨As.map V.ref, by rw [upd_ne nD]; exact hDD, lt_line (by rw [List.length_map]; omega), hN' ((As ++ [t]).map V.ref) _ ?_⟩
        rw [hPv]
        refine ⟨As ++ [t], rfl, by rw [upd_same, List.map_append]; rfl, by rw [List.length_append, la]; rfl, fun j u hu => ?_⟩
        rw [List.getElem?_append] at hu
        split at hu
        · have e := it j u hu
          have n1 : u ≠ D := fun z => by rw [z, hDD] at e; cases e
          rw [upd_ne n1, upd_ne (ne_of_none e ht)]; exact e
        · rename_i c
          have hj : j = i := by
            have := (List.getElem?_eq_some_iff.mp hu).1
            simp at this; omega
          subst hj
          have : u = t := by rw [la] at hu; simpa using hu.symm
          subst this
          rw [upd_ne (Ne.symm nD), upd_same]; rfl
      · intro D acc H' hD hp
        rw [hPv] at hp
        obtain ⟨As, rfl, hDD, la, it⟩ := hp
        have lL : (L0 N).length = N := by unfold L0; rw [List.length_map, List.length_range]
        refine ⟨D, rfl, As, hDD, by rw [la, lL], fun i t x h1 h2 => ?_, by rw [lL]; omega, fun x hx => ?_⟩
        · have e := it i t h1
          unfold L0 at h2
          rw [List.getElem?_map] at h2
          obtain ⟨k, hk, rfl⟩ := Option.map_eq_some_iff.mp h2
          rw [List.getElem?_range (by have := (List.getElem?_eq_some_iff.mp h1).1; omega)] at hk
          cases hk
          exact e
        · unfold L0 at hx
          obtain ⟨k, hk, rfl⟩ := List.mem_map.mp hx
          have := List.mem_range.mp hk
          have := vn_len k (by omega)
          exact ⟨show (vn k).length ≤ 100 by omega, by dsimp only; omega, by dsimp only; omega⟩
    clear hS
    rintro σ H1 ⟨pr, As, rfl, hpr, R⟩
    refine ⟨fun σ H' => ∃ tw v7 As L, σ = [some (.ref sc), some (.int cell), some (.int N), some (.int pm), some (.ref pr), none, some tw, v7, none, none, none, none, none] ∧ H' pr = some (.lst (As.map V.ref)) ∧ Prs H' As L ∧ L.length = N ∧ ((tw = .non ∧ (nms L).Nodup) ∨ ∃ (at_ : Nat) (s : Str), tw = .int at_ ∧ at_ < N ∧ FD L at_ (s, 3 * (at_ : Int)) ∧ PyData.strOk s = true), ?_, ?_⟩
    · walk_at "kk"
      have lA := R.len
      rw [L0_len] at lA
      split
      · have m0 := Int.emod_nonneg (cell / 99) (show ((N : Int) - 1) ≠ 0 by omega)
        have m1 := Int.emod_lt_of_pos (cell / 99) (show (0 : Int) < (N : Int) - 1 by omega)
        obtain ⟨q, hq⟩ : ∃ q : Nat, (1 + cell / 99 % ((N : Int) - 1)) = q := ⟨(1 + cell / 99 % ((N : Int) - 1)).toNat, by omega⟩
        rw [hq]
        have q0 : 0 < q := by omega
        have qN : q < N := by omega
        have m2 := Int.emod_nonneg (cell / 30000) (show ((q : Int)) ≠ 0 by omega)
        have m3 := Int.emod_lt_of_pos (cell / 30000) (show (0 : Int) < (q : Int) by omega)
        obtain ⟨j, hj⟩ := Int.eq_ofNat_of_zero_le m2
        rw [hj] at m3 ⊢
        obtain ⟨tj, htj⟩ : ∃ t, As[j]? = some t := ⟨_, List.getElem?_eq_getElem (by omega)⟩
        have atj : atI (As.map V.ref) (j : Int) = some (.ref tj) := atI_map htj
        have tjv := R.it j tj _ htj (L0_at (by omega))
        refine ⟨div_s (by omega), by omega, div_s (by omega), by omega, ?_⟩
        walk_at "kk"
        intro t ht
        have ntp : t ≠ pr := (ne_of_none hpr ht).symm
        have vl := vn_len j (by omega)
        have R2 := prs_set (k := q) (y := (vn j, 3 * (q : Int))) R ht ⟨show (vn j).length ≤ 100 by omega, by dsimp only; omega, by dsimp only; omega⟩
        have hp2 : upd H1 t (.tup [.str (vn j), .int (3 * (q : Int))]) pr = some (.lst (As.map V.ref)) := by rw [upd_ne (Ne.symm ntp)]; exact hpr
        refine set_l (xs := As.map V.ref) hp2 (j := q) (by rw [List.length_map]; unfold ixN; rw [if_pos (by omega), if_pos (by omega)]; rfl) ?_
        refine ⟨As.set q t, by rw [upd_same, List.map_set], (L0 N).set q (vn j, 3 * (q : Int)), ⟨R2.len, fun i u x h1 h2 => ?_, R2.sm, R2.ok⟩, by rw [List.length_set, L0_len], qN, vn j, fd_set (by omega) qN (by omega), vn_ok j⟩
        have e := R2.it i u x h1 h2
        rw [upd_ne (fun z => by rw [z, hp2] at e; cases e)]; exact e
      · exact ⟨As, hpr, _, R, L0_len N, L0_nd (by omega)⟩
    clear R hpr
    rintro σ H2 ⟨tw, v7, As, L, rfl, hpr, R, lN, htw⟩
    have lA := R.len
    refine ⟨fun σ H' => ∃ nm, σ = [some (.ref sc), some (.int cell), some (.int N), some (.int pm), some (.ref pr), none, some tw, v7, some (.ref nm), none, none, none, none] ∧ H' nm = some (.tup (As.map V.ref)) ∧ H' pr = some (.lst (As.map V.ref)) ∧ Prs H' As L, ?_, ?_⟩
    · walk_at "kk"
      refine ⟨_, .inl ⟨.of hpr, fun nm hnm => ⟨upd_same, ?_, R.fr0 (Fr.new hnm)⟩⟩⟩
      rw [upd_ne (ne_of_none hpr hnm)]; exact hpr
    clear R hpr
    rintro σ H3 ⟨nm, rfl, hnm, hpr, R⟩
    refine ⟨fun σ H' => ∃ sel, σ = [some (.ref sc), some (.int cell), some (.int N), some (.int pm), some (.ref pr), none, some tw, v7, some (.ref nm), some (.str sel), none, none, none] ∧ H' nm = some (.tup (As.map V.ref)) ∧ H' pr = some (.lst (As.map V.ref)) ∧ Prs H' As L, ?_, ?_⟩
    · walk_at "kk"
      intro p0 hp0
      have f1 : KW.Fr [] H3 (upd H3 p0 (.lst [.str (S [115, 105, 122, 101]), .str (S [97, 116, 58]), .str (S str_35)])) := Fr.new hp0
      have g1 : upd H3 p0 (.lst [.str (S [115, 105, 122, 101]), .str (S [97, 116, 58]), .str (S str_35)]) p0 = some (.lst [.str (S [115, 105, 122, 101]), .str (S [97, 116, 58]), .str (S str_35)]) := upd_same
      obtain ⟨sl, hsl⟩ : ∃ s, atI [V.str (S [115, 105, 122, 101]), .str (S [97, 116, 58]), .str (S str_35)] (pm : Int) = some (.str s) := by
        have e : pm = 0 ∨ pm = 1 ∨ pm = 2 := by omega
        rcases e with e | e | e <;> rw [e] <;> exact ⟨_, rfl⟩
      revert f1 g1
      generalize upd H3 p0 (.lst [.str (S [115, 105, 122, 101]), .str (S [97, 116, 58]), .str (S str_35)]) = H4
      intro f1 g1
      walk_at "kk"
      exact ⟨⟨_, rfl⟩, f1 _ _ (by simp) hnm, f1 _ _ (by simp) hpr, R.fr0 f1⟩
    clear R hpr hnm
    rintro σ H4 ⟨sel, rfl, hnm, hpr, R⟩
    refine ⟨fun σ H' => ∃ tr pt tt st, σ = [some (.ref sc), some (.int cell), some (.int N), some (.int pm), some (.ref pr), none, some tw, v7, some (.ref nm), some (.str sel), some (.ref tr), none, none] ∧ H' nm = some (.tup (As.map V.ref)) ∧ H' pr = some (.lst (As.map V.ref)) ∧ Prs H' As L ∧
      H' pt = some (.tup ((As.take pm).map V.ref)) ∧ H' tt = some (.tup ((As.drop pm).map V.ref)) ∧ H' st = some (.tup []) ∧ H' tr = some (.tup [.str (S [109, 101, 116, 104, 111, 100]), .str sel, .ref pt, .ref tt, .ref st]), ?_, ?_⟩
    · walk_at "kk"
      refine slL hnm (by omega) fun pt H5 g5 f5 => ?_
      have hnm5 := f5 _ _ (by simp) hnm
      walk_at "kk"
      refine slR hnm5 (by omega) fun tt H6 g6 f6 => ?_
      have F6 := f5.trans f6
      walk_at "kk"
      intro st hst
      refine ⟨by decide, fun tr htr => ?_⟩
      have F8 : KW.Fr [] H6 (upd (upd H6 st (.tup [])) tr (.tup [.str (S [109, 101, 116, 104, 111, 100]), .str sel, .ref pt, .ref tt, .ref st])) := (Fr.new hst).trans (Fr.new htr)
      have F9 := F6.trans F8
      exact ⟨F9 _ _ (by simp) hnm, F9 _ _ (by simp) hpr, R.fr0 F9, pt, (f6.trans F8) _ _ (by simp) g5, tt, F8 _ _ (by simp) g6, st, by rw [upd_ne (ne_of_none upd_same htr), upd_same], upd_same⟩
    clear R hpr hnm
    rintro σ H5 ⟨tr, pt, tt, st, rfl, hnm, hpr, R, hpt, htt, hst, htr⟩
    refine ⟨fun σ H' => ∃ tr pt tt v11 sl, σ = [some (.ref sc), some (.int cell), some (.int N), some (.int pm), some (.ref pr), none, some tw, v7, some (.ref nm), some (.str sel), some (.ref tr), v11, none] ∧ H' pr = some (.lst (As.map V.ref)) ∧ Prs H' As L ∧
      H' pt = some (.tup ((As.take pm).map V.ref)) ∧ H' tt = some (.tup ((As.drop pm).map V.ref)) ∧
      ((cell / 7 % 2 ≠ 1 ∧ ∃ st, H' tr = some (.tup [.str (S [109, 101, 116, 104, 111, 100]), .str sl, .ref pt, .ref tt, .ref st]) ∧ H' st = some (.tup [])) ∨
       (cell / 7 % 2 = 1 ∧ ∃ p0 q0 ss s1 bt st, H' tr = some (.tup [.str (S [109, 101, 116, 104, 111, 100]), .str sl, .ref p0, .ref q0, .ref ss]) ∧ H' p0 = some (.tup []) ∧ H' q0 = some (.tup []) ∧ H' ss = some (.tup [.ref s1]) ∧ H' s1 = some (.tup [.str oRet, .ref bt, .int 1]) ∧ H' bt = some (.tup [.str oBlk, .ref pt, .ref tt, .ref st, .int 2]) ∧ H' st = some (.tup []))), ?_, ?_⟩
    · walk_at "kk"
      split
      · rename_i c7
        refine ⟨fun σ H' => ∃ pt tt st bt, σ = [some (.ref sc), some (.int cell), some (.int N), some (.int pm), some (.ref pr), none, some tw, v7, some (.ref nm), some (.str sel), some (.ref tr), some (.ref bt), none] ∧ H' pr = some (.lst (As.map V.ref)) ∧ Prs H' As L ∧ H' pt = some (.tup ((As.take pm).map V.ref)) ∧ H' tt = some (.tup ((As.drop pm).map V.ref)) ∧ H' bt = some (.tup [.str oBlk, .ref pt, .ref tt, .ref st, .int 2]) ∧ H' st = some (.tup []), ?_, ?_⟩
        · walk_at "kk"
          refine slL hnm (by omega) fun pt2 H6 g6 f6 => ?_
          have hnm6 := f6 _ _ (by simp) hnm
          walk_at "kk"
          refine slR hnm6 (by omega) fun tt2 H7 g7 f7 => ?_
          walk_at "kk"
          intro st2 hst2
          refine ⟨by decide, fun bt hbt => ?_⟩
          have F8 : KW.Fr [] H7 (upd (upd H7 st2 (.tup [])) bt (.tup [.str oBlk, .ref pt2, .ref tt2, .ref st2, .int 2])) := (Fr.new hst2).trans (Fr.new hbt)
          have F9 := (f6.trans f7).trans F8
          exact ⟨F9 _ _ (by simp) hpr, R.fr0 F9, pt2, (f7.trans F8) _ _ (by simp) g6, tt2, F8 _ _ (by simp) g7, st2, upd_same, by rw [upd_ne (ne_of_none upd_same hbt), upd_same]⟩
        rintro σ H6 ⟨pt2, tt2, st2, bt, rfl, hpr6, R6, hpt6, htt6, hbt6, hst6⟩
        walk_at "kk"
        intro p0 hp0
        refine ⟨by decide, fun q0 hq0 => ⟨by decide, fun s1 hs1 => ⟨by decide, fun ss hss => ⟨by decide, fun tr2 htr2 => ?_⟩⟩⟩⟩
        have k1 : KW.Fr [] H6 (upd H6 p0 (.tup [])) := Fr.new hp0
        have k2 : KW.Fr [] (upd H6 p0 (.tup [])) (upd (upd H6 p0 (.tup [])) q0 (.tup [])) := Fr.new hq0
        have k3 : KW.Fr [] _ (upd (upd (upd H6 p0 (.tup [])) q0 (.tup [])) s1 (.tup [.str oRet, .ref bt, .int 1])) := Fr.new hs1
        have k4 : KW.Fr [] _ (upd (upd (upd (upd H6 p0 (.tup [])) q0 (.tup [])) s1 (.tup [.str oRet, .ref bt, .int 1])) ss (.tup [.ref s1])) := Fr.new hss
        have k5 : KW.Fr [] _ (upd (upd (upd (upd (upd H6 p0 (.tup [])) q0 (.tup [])) s1 (.tup [.str oRet, .ref bt, .int 1])) ss (.tup [.ref s1])) tr2 (.tup [.str (S [109, 101, 116, 104, 111, 100]), .str (S [115, 105, 122, 101]), .ref p0, .ref q0, .ref ss])) := Fr.new htr2
        have F := (((k1.trans k2).trans k3).trans k4).trans k5
        exact ⟨⟨_, rfl⟩, F _ _ (by simp) hpr6, R6.fr0 F, pt2, F _ _ (by simp) hpt6, tt2, F _ _ (by simp) htt6, _, .inr ⟨c7, p0, q0, ss, upd_same, (((k2.trans k3).trans k4).trans k5) _ _ (by simp) upd_same, ((k3.trans k4).trans k5) _ _ (by simp) upd_same, s1, k5 _ _ (by simp) upd_same, bt, (k4.trans k5) _ _ (by simp) upd_same, st2, F _ _ (by simp) hbt6, F _ _ (by simp) hst6⟩⟩
      · rename_i c7
        exact ⟨hpr, R, pt, hpt, tt, htt, sel, .inl ⟨c7, st, htr, hst⟩⟩
    clear R hpr hnm hpt htt hst htr
    rintro σ H6 ⟨tr, pt, tt, v11, sl, rfl, hpr, R, hpt, htt, hcs⟩
    obtain ⟨Out, hOut⟩ : ∃ Out : V → Hp → Prop, Out = fun fv H' => (∃ (at_ : Nat) (s : Str) (t : Addr), tw = .int at_ ∧ at_ < N ∧ L[at_]? = some (s, 3 * (at_ : Int)) ∧ PyData.strOk s = true ∧ fv = .ref t ∧ H' t = some (.tup [.str (S [84, 119, 105, 99, 101]), .str s, .int (3 * (at_ : Int))])) ∨
      (tw = .non ∧ 255 < N ∧ fv = .str "locals") ∨
      (tw = .non ∧ N ≤ 255 ∧ cell / 7 % 2 ≠ 1 ∧ ∃ dr dx sl sk c l t0 t1, fv = .ref dr ∧ H' dr = some (drO a.Draft dx sl pm N sk c l) ∧ H' c = some (.lst [.ref t0, .ref t1]) ∧ H' t0 = some (.tup [.str oSelf, .int 0]) ∧ H' t1 = some (.tup [.str oRet, .int 0])) ∨
      (tw = .non ∧ N ≤ 255 ∧ cell / 7 % 2 = 1 ∧ ∃ dr dx sl sk c l tn, fv = .ref dr ∧ H' dr = some (drO a.Draft dx sl 0 0 sk c l) ∧ H' l = some (.lst [.ref tn]) ∧ H' tn = some (.tup [.str oBlk, .int pm, .int N, .int 2, .int 1])) := ⟨_, rfl⟩
    refine ⟨fun σ H' => ∃ fv, σ = [some (.ref sc), some (.int cell), some (.int N), some (.int pm), some (.ref pr), none, some tw, v7, some (.ref nm), some (.str sel), some (.ref tr), v11, some fv] ∧ H' pr = some (.lst (As.map V.ref)) ∧ Prs H' As L ∧ Out fv H', ?_, ?_⟩
    · walk_at "kk"
      have tdA : As.take pm ++ As.drop pm = As := List.take_append_drop pm As
      have ltk : (As.take pm).length = pm := by rw [List.length_take]; omega
      refine ⟨tr, pt, tt, sl, As.take pm, As.drop pm, L, rfl, hpt, htt, by rw [tdA]; exact R, fun k x fd t H7 g7 f7 => ?_, fun nd l255 H7 f7 => ?_, ?_⟩
      · refine ⟨f7 _ _ (by simp) hpr, R.fr0 f7, ?_⟩
        rw [hOut]
        rcases htw with ⟨-, nd⟩ | ⟨at_, s, e1, e2, fd2, sok⟩
        · exact absurd nd (FD_nd fd)
        · have e := FD_uniq fd fd2
          rw [e] at g7
          exact .inl ⟨at_, s, t, e1, e2, fd2.1, sok, rfl, g7⟩
      · refine ⟨f7 _ _ (by simp) hpr, R.fr0 f7, ?_⟩
        rw [hOut]
        rcases htw with ⟨e1, -⟩ | ⟨at_, s, e1, e2, fd2, sok⟩
        · exact .inr (.inl ⟨e1, by omega, rfl⟩)
        · exact absurd nd (FD_nd fd2)
      · rcases hcs with ⟨c7, st, htr, hst⟩ | ⟨c7, p0, q0, ss, s1, bt, st, htr, hp0, hq0, hss, hs1, hbt, hst⟩
        · refine .inl ⟨st, htr, hst, fun nd l255 dr dx c l t0 t1 sk H7 e1 e2 e3 e4 f7 => ⟨f7 _ _ (by simp) hpr, R.fr0 f7, ?_⟩⟩
          rw [hOut]
          rcases htw with ⟨w1, -⟩ | ⟨at_, s, w1, w2, fd2, sok⟩
          · rw [ltk, lN] at e1
            exact .inr (.inr (.inl ⟨w1, by omega, c7, dr, dx, sl, sk, c, l, t0, t1, rfl, e1, e2, e3, e4⟩))
          · exact absurd nd (FD_nd fd2)
        · refine .inr ⟨p0, q0, ss, s1, bt, st, 2, 1, htr, hp0, hq0, hss, hs1, hbt, hst, fun nd l255 dr dx c l tn sk H7 e1 e2 e3 f7 => ⟨f7 _ _ (by simp) hpr, R.fr0 f7, ?_⟩⟩
          rw [hOut]
          rcases htw with ⟨w1, -⟩ | ⟨at_, s, w1, w2, fd2, sok⟩
          · rw [ltk, lN] at e3
            exact .inr (.inr (.inr ⟨w1, by omega, c7, dr, dx, sl, sk, c, l, tn, rfl, e1, e2, e3⟩))
          · exact absurd nd (FD_nd fd2)
    clear R hpr hpt htt hcs htw
    rintro σ H7 ⟨fv, rfl, hpr, R, ho⟩
    rw [hOut] at ho
    clear hOut
    rcases ho with ⟨at_, s, t, rfl, q1, q2, sok, rfl, q3⟩ | ⟨rfl, q1, rfl⟩ | ⟨rfl, q1, q2, dr, dx, sl2, sk, c, l, t0, t1, rfl, e1, e2, e3, e4⟩ | ⟨rfl, q1, q2, dr, dx, sl2, sk, c, l, tn, rfl, e1, e2, e3⟩
    · obtain ⟨ta, hta⟩ : ∃ t, As[at_]? = some t := ⟨_, List.getElem?_eq_getElem (by omega)⟩
      have ata : atI (As.map V.ref) (at_ : Int) = some (.ref ta) := atI_map hta
      have tav := R.it at_ ta _ hta q2
      walk_at "kk"
      intro p hp
      have g3 : upd H7 p (.tup [.str (S [84, 119, 105, 99, 101]), .str s, .int (3 * (at_ : Int))]) t = some (.tup [.str (S [84, 119, 105, 99, 101]), .str s, .int (3 * (at_ : Int))]) := by rw [upd_ne (ne_of_none q3 hp)]; exact q3
      exact eqD_s (d := .tuple [.str (S [84, 119, 105, 99, 101]), .str s, .int (3 * (at_ : Int))]) (.tup (.inl (.of g3)) (.cons (.str _) (.cons (.str _) (.cons (.int _) .nil)))) (.tup (.inl (.of upd_same)) (.cons (.str _) (.cons (.str _) (.cons (.int _) .nil)))) (by simp [SeqAt.shaped, PyData.canLay0, PyData.canLayAll0, sok, show PyData.strOk (S [84, 119, 105, 99, 101]) = true from by decide +kernel, PyData.depth, PyData.depthAll]) (by simp [PyData.eqv, PyData.eqvAll]) (h _)
    · walk_at "kk"
      rw [if_pos (by omega)]
      exact h _
    · unfold drO at e1
      walk_at "kk"
      rw [if_neg (by omega)]
      refine ⟨div_s (by omega), ?_⟩
      rw [if_neg q2]
      walk_at "kk"
      intro u0 hu0
      refine ⟨by decide, fun u1 hu1 => ⟨by decide, fun p hp => ?_⟩⟩
      have k1 : KW.Fr [] H7 (upd H7 u0 (.tup [.str oSelf, .int 0])) := Fr.new hu0
      have k2 : KW.Fr [] _ (upd (upd H7 u0 (.tup [.str oSelf, .int 0])) u1 (.tup [.str oRet, .int 0])) := Fr.new hu1
      have k3 : KW.Fr [] _ (upd (upd (upd H7 u0 (.tup [.str oSelf, .int 0])) u1 (.tup [.str oRet, .int 0])) p (.lst [.ref u0, .ref u1])) := Fr.new hp
      have F := (k1.trans k2).trans k3
      refine eqD_s (d := .list [.tuple [.str oSelf, .int 0], .tuple [.str oRet, .int 0]]) (.lst (.of (F _ _ (by simp) e2)) (.cons (.tup (.inl (.of (F _ _ (by simp) e3))) (.cons (.str _) (.cons (.int _) .nil))) (.cons (.tup (.inl (.of (F _ _ (by simp) e4))) (.cons (.str _) (.cons (.int _) .nil))) .nil)))
        (.lst (.of upd_same) (.cons (.tup (.inl (.of ((k2.trans k3) _ _ (by simp) upd_same))) (.cons (.str _) (.cons (.int _) .nil))) (.cons (.tup (.inl (.of (k3 _ _ (by simp) upd_same))) (.cons (.str _) (.cons (.int _) .nil))) .nil))) (by decide +kernel) (by simp [PyData.eqv, PyData.eqvAll]) (h _)
    · unfold drO at e1
      walk_at "kk"
      rw [if_neg (by omega)]
      refine ⟨div_s (by omega), ?_⟩
      rw [if_pos q2]
      walk_at "kk"
      intro u0 hu0
      refine ⟨by decide, fun p hp => ?_⟩
      have k1 : KW.Fr [] H7 (upd H7 u0 (.tup [.str oBlk, .int pm, .int N, .int 2, .int 1])) := Fr.new hu0
      have k2 : KW.Fr [] _ (upd (upd H7 u0 (.tup [.str oBlk, .int pm, .int N, .int 2, .int 1])) p (.lst [.ref u0])) := Fr.new hp
      have F := k1.trans k2
      have d5 : ∀ {H' : Hp}, DpAll K H' [.str oBlk, .int pm, .int N, .int 2, .int 1] [.str oBlk, .int pm, .int N, .int 2, .int 1] := .cons (.str _) (.cons (.int _) (.cons (.int _) (.cons (.int _) (.cons (.int _) .nil))))
      refine eqD_s (d := .list [.tuple [.str oBlk, .int pm, .int N, .int 2, .int 1]]) (.lst (.of (F _ _ (by simp) e2)) (.cons (.tup (.inl (.of (F _ _ (by simp) e3))) d5) .nil)) (.lst (.of upd_same) (.cons (.tup (.inl (.of (k2 _ _ (by simp) upd_same))) d5) .nil)) (by simp [SeqAt.shaped, PyData.canLay0, PyData.canLayAll0, show PyData.strOk oBlk = true from by decide +kernel, PyData.depth, PyData.depthAll]) (by simp [PyData.eqv, PyData.eqvAll]) (h _)
end
end K17

set_option Elab.async false
set_option linter.all false
set_option maxRecDepth 100000
namespace K17
end K17
open PySem PySem.W PyProof.Rows
set_option maxRecDepth 100000 in
set_option maxHeartbeats 0 in
theorem PySem.Challenge.cw_kilnwarden_k17_many_locals_holds : PySem.Challenge.rw_kilnwarden_k17_many_locals.Holds := by
  w_on; o_law; k_head; (case hw => w_witness2)
  k_fill
  refine KW.walk63 (k := 8) (l := PySem.Challenge.rw_kilnwarden_k17_many_locals) (st := K17.s_law) rfl rfl rfl ⟨rfl, by decide, by decide⟩ (fun w h Y => PySem.W.kIn_of Y) (fun _ _ _ _ _ _ us hl => match us, hl with | [_], _ => rfl) ?F
  case F =>
    intro w mg h KX G
    have T : ∃ a : K17.Ads, K17.Txt PySem.Challenge.rw_kilnwarden_k17_many_locals.prog w (L2.KOf KX) mg a := by
      delta L2.KOf
      refine' K17.Txt.ex ?T
      case T =>
        constructor
        all_goals (try dsimp only)
        case g_KilnwardenError => refine' PySem.W.mg_of KX G ?za; (case za => k_is)
        case g_Oversized => refine' PySem.W.mg_of KX G ?za; (case za => k_is)
        case g_Unknown => refine' PySem.W.mg_of KX G ?za; (case za => k_is)
        case g_Twice => refine' PySem.W.mg_of KX G ?za; (case za => k_is)
        case g_Fixed => refine' PySem.W.mg_of KX G ?za; (case za => k_is)
        case g_Draft => refine' PySem.W.mg_of KX G ?za; (case za => k_is)
        case g_Coder => refine' PySem.W.mg_of KX G ?za; (case za => k_is)
        case e_Oversized =>
          refine' PySem.KErr_limit.err_mk K17.s_Oversized_init KX G ?zaC ?zxL ?zbmv ?zsup ?zsa ?zno ?za1 ?zt1 ?zkC ?zeC ?zvC ?ztC ?zown ?ztp ?zdg ?znsup ?znstr ?zhst ?zl1 ?zc1 ?zmc ?zac ?zce ?zco ?zcf ?zcg ?ztop ?zhg ?zhk ?zhd ?zha ?zhn ?zht ?zhm
          (case zaC => k_is)
          (case zxL => k_is)
          (case zbmv => first | rfl | decide +kernel)
          (case zsup => ks_is)
          (case zsa => k_is)
          (case zno => k_is)
          (case za1 => k_is)
          (case zt1 => k_is)
          (case zkC => k_is)
          (case zeC => k_is)
          (case zvC => k_is)
          (case ztC => k_is)
          (case zown => k_is)
          (case ztp => k_is)
          (case zdg => k_is)
          (case znsup => k_is)
          (case znstr => k_is)
          (case zhst => exact ⟨rfl, rfl, rfl⟩)
          (case zl1 => k_is)
          (case zc1 => k_is)
          (case zmc => exact fun env => ⟨_, rfl⟩)
          (case zac => exact fun env => rfl)
          (case zce => k_is)
          (case zco => k_is)
          (case zcf => first | rfl | k_is)
          (case zcg => first | decide +kernel | k_is)
          (case ztop => first | decide +kernel | k_is)
          (case zhg => k_is)
          (case zhk => k_is)
          (case zhd => k_is)
          (case zha => k_is)
          (case zhn => k_is)
          (case zht => k_is)
          (case zhm => k_is)
        case x_Oversized_Oversized => refine' PySem.W.exm_ref ?za ?zb ?zc ?zd; (case za => k_is); (case zb => k_is); (case zc => k_is); (case zd => k_is)
        case x_Oversized_Twice => refine' PySem.W.exm_ref ?za ?zb ?zc ?zd; (case za => k_is); (case zb => k_is); (case zc => k_is); (case zd => k_is)
        case e_Unknown =>
          refine' PySem.KErr_name_at.err_mk K17.s_Unknown_init KX G ?zaC ?zxL ?zbmv ?zsup ?zsa ?zno ?zno2 ?za1 ?zt1 ?zkC ?zeC ?zvC ?ztC ?zown ?ztp ?zdg ?znsup ?znstr ?zhst ?zl1 ?zc1 ?zmc ?zac ?zce ?zco ?zcf ?zcg ?ztop ?zhg ?zhk ?zhd ?zha ?zhn ?zht ?zhm
          (case zaC => k_is)
          (case zxL => k_is)
          (case zbmv => first | rfl | decide +kernel)
          (case zsup => ks_is)
          (case zsa => k_is)
          (case zno => k_is)
          (case zno2 => k_is)
          (case za1 => k_is)
          (case zt1 => k_is)
          (case zkC => k_is)
          (case zeC => k_is)
          (case zvC => k_is)
          (case ztC => k_is)
          (case zown => k_is)
          (case ztp => k_is)
          (case zdg => k_is)
          (case znsup => k_is)
          (case znstr => k_is)
          (case zhst => exact ⟨rfl, rfl, rfl⟩)
          (case zl1 => k_is)
          (case zc1 => k_is)
          (case zmc => exact fun env => ⟨_, rfl⟩)
          (case zac => exact ⟨fun env => rfl, fun env => rfl⟩)
          (case zce => k_is)
          (case zco => k_is)
          (case zcf => first | rfl | k_is)
          (case zcg => first | decide +kernel | k_is)
          (case ztop => first | decide +kernel | k_is)
          (case zhg => k_is)
          (case zhk => k_is)
          (case zhd => k_is)
          (case zha => k_is)
          (case zhn => k_is)
          (case zht => k_is)
          (case zhm => k_is)
        case x_Unknown_Oversized => refine' PySem.W.exm_ref ?za ?zb ?zc ?zd; (case za => k_is); (case zb => k_is); (case zc => k_is); (case zd => k_is)
        case x_Unknown_Twice => refine' PySem.W.exm_ref ?za ?zb ?zc ?zd; (case za => k_is); (case zb => k_is); (case zc => k_is); (case zd => k_is)
        case e_Twice =>
          refine' PySem.KErr_name_at.err_mk K17.s_Twice_init KX G ?zaC ?zxL ?zbmv ?zsup ?zsa ?zno ?zno2 ?za1 ?zt1 ?zkC ?zeC ?zvC ?ztC ?zown ?ztp ?zdg ?znsup ?znstr ?zhst ?zl1 ?zc1 ?zmc ?zac ?zce ?zco ?zcf ?zcg ?ztop ?zhg ?zhk ?zhd ?zha ?zhn ?zht ?zhm
          (case zaC => k_is)
          (case zxL => k_is)
          (case zbmv => first | rfl | decide +kernel)
          (case zsup => ks_is)
          (case zsa => k_is)
          (case zno => k_is)
          (case zno2 => k_is)
          (case za1 => k_is)
          (case zt1 => k_is)
          (case zkC => k_is)
          (case zeC => k_is)
          (case zvC => k_is)
          (case ztC => k_is)
          (case zown => k_is)
          (case ztp => k_is)
          (case zdg => k_is)
          (case znsup => k_is)
          (case znstr => k_is)
          (case zhst => exact ⟨rfl, rfl, rfl⟩)
          (case zl1 => k_is)
          (case zc1 => k_is)
          (case zmc => exact fun env => ⟨_, rfl⟩)
          (case zac => exact ⟨fun env => rfl, fun env => rfl⟩)
          (case zce => k_is)
          (case zco => k_is)
          (case zcf => first | rfl | k_is)
          (case zcg => first | decide +kernel | k_is)
          (case ztop => first | decide +kernel | k_is)
          (case zhg => k_is)
          (case zhk => k_is)
          (case zhd => k_is)
          (case zha => k_is)
          (case zhn => k_is)
          (case zht => k_is)
          (case zhm => k_is)
        case x_Twice_Oversized => refine' PySem.W.exm_ref ?za ?zb ?zc ?zd; (case za => k_is); (case zb => k_is); (case zc => k_is); (case zd => k_is)
        case x_Twice_Twice => refine' PySem.W.exm_ref ?za ?zb ?zc ?zd; (case za => k_is); (case zb => k_is); (case zc => k_is); (case zd => k_is)
        case e_Fixed =>
          refine' PySem.KErr_name_at.err_mk K17.s_Fixed_init KX G ?zaC ?zxL ?zbmv ?zsup ?zsa ?zno ?zno2 ?za1 ?zt1 ?zkC ?zeC ?zvC ?ztC ?zown ?ztp ?zdg ?znsup ?znstr ?zhst ?zl1 ?zc1 ?zmc ?zac ?zce ?zco ?zcf ?zcg ?ztop ?zhg ?zhk ?zhd ?zha ?zhn ?zht ?zhm
          (case zaC => k_is)
          (case zxL => k_is)
          (case zbmv => first | rfl | decide +kernel)
          (case zsup => ks_is)
          (case zsa => k_is)
          (case zno => k_is)
          (case zno2 => k_is)
          (case za1 => k_is)
          (case zt1 => k_is)
          (case zkC => k_is)
          (case zeC => k_is)
          (case zvC => k_is)
          (case ztC => k_is)
          (case zown => k_is)
          (case ztp => k_is)
          (case zdg => k_is)
          (case znsup => k_is)
          (case znstr => k_is)
          (case zhst => exact ⟨rfl, rfl, rfl⟩)
          (case zl1 => k_is)
          (case zc1 => k_is)
          (case zmc => exact fun env => ⟨_, rfl⟩)
          (case zac => exact ⟨fun env => rfl, fun env => rfl⟩)
          (case zce => k_is)
          (case zco => k_is)
          (case zcf => first | rfl | k_is)
          (case zcg => first | decide +kernel | k_is)
          (case ztop => first | decide +kernel | k_is)
          (case zhg => k_is)
          (case zhk => k_is)
          (case zhd => k_is)
          (case zha => k_is)
          (case zhn => k_is)
          (case zht => k_is)
          (case zhm => k_is)
        case x_Fixed_Oversized => refine' PySem.W.exm_ref ?za ?zb ?zc ?zd; (case za => k_is); (case zb => k_is); (case zc => k_is); (case zd => k_is)
        case x_Fixed_Twice => refine' PySem.W.exm_ref ?za ?zb ?zc ?zd; (case za => k_is); (case zb => k_is); (case zc => k_is); (case zd => k_is)
        case c_Draft => refine' KW.clsA_mk KX G ?za ?zb ?zc ?zd ?ze ?zf; (case za => k_is); (case zb => k_is); (case zc => k_is); (case zd => k_is); (case ze => k_is); (case zf => (intro f hf; simp only [List.mem_cons, List.not_mem_nil, or_false] at hf; rcases hf with rfl | rfl | rfl | rfl | rfl | rfl <;> k_is))
        case c_Coder => refine' KW.clsA_mk KX G ?za ?zb ?zc ?zd ?ze ?zf; (case za => k_is); (case zb => k_is); (case zc => k_is); (case zd => k_is); (case ze => k_is); (case zf => (intro f hf; simp only [List.mem_cons, List.not_mem_nil, or_false] at hf; rcases hf with rfl | rfl | rfl | rfl | rfl <;> k_is))
        case ini_Draft => refine' KW.iniAt_mk ?zkc ?zmk ?za ?zf ?zk ?zl ?zc ?zb; (case zkc => k_is); (case zmk => k_is); (case za => k_is); (case zf => k_is); (case zk => k_is); (case zl => k_is); (case zc => k_is); (case zb => exact fun _ _ _ _ _ _ us hl => match us, hl with | [_, _, _, _, _, _, _], _ => rfl)
        case m_Draft_parts => refine' KW.metAt_mk ?za ?zf ?zk ?zl ?zc ?zb; (case za => k_is); (case zf => k_is); (case zk => k_is); (case zl => k_is); (case zc => k_is); (case zb => exact fun _ _ _ _ _ _ us hl => match us, hl with | [_], _ => rfl)
        case m_Draft___eq__ => refine' KW.metAt_mk ?za ?zf ?zk ?zl ?zc ?zb; (case za => k_is); (case zf => k_is); (case zk => k_is); (case zl => k_is); (case zc => k_is); (case zb => exact fun _ _ _ _ _ _ us hl => match us, hl with | [_, _], _ => rfl)
        case ini_Coder => refine' KW.iniAt_mk ?zkc ?zmk ?za ?zf ?zk ?zl ?zc ?zb; (case zkc => k_is); (case zmk => k_is); (case za => k_is); (case zf => k_is); (case zk => k_is); (case zl => k_is); (case zc => k_is); (case zb => exact fun _ _ _ _ _ _ us hl => match us, hl with | [_, _, _], _ => rfl)
        case m_Coder_emit => refine' KW.metAt_mkD ?za ?zf ?zk ?zl ?zc ?zlT ?zoT ?zr ?zhd ?zhl ?zb; (case za => k_is); (case zf => k_is); (case zk => k_is); (case zl => k_is); (case zc => k_is); (case zlT => k_is); (case zoT => rfl); (case zr => repeat (first | exact .nil | refine .cons ⟨_, rfl⟩ ?_ | refine .cons rfl ?_)); (case zhd => decide); (case zhl => decide); (case zb => exact fun j hj => match j, hj with | 0, _ => (fun _ _ _ _ _ _ _ us its hl hi => match us, its, hl, hi with | [_, _], [_], _, _ => ⟨_, rfl, rfl⟩) | 1, _ => (fun _ _ _ _ _ _ _ us its hl hi => match us, its, hl, hi with | [_, _, _], [_], _, _ => ⟨_, rfl, rfl⟩))
        case m_Coder_here => refine' KW.metAt_mk ?za ?zf ?zk ?zl ?zc ?zb; (case za => k_is); (case zf => k_is); (case zk => k_is); (case zl => k_is); (case zc => k_is); (case zb => exact fun _ _ _ _ _ _ us hl => match us, hl with | [_], _ => rfl)
        case m_Coder_aim => refine' KW.metAt_mk ?za ?zf ?zk ?zl ?zc ?zb; (case za => k_is); (case zf => k_is); (case zk => k_is); (case zl => k_is); (case zc => k_is); (case zb => exact fun _ _ _ _ _ _ us hl => match us, hl with | [_, _], _ => rfl)
        case m_Coder_literal => refine' KW.metAt_mk ?za ?zf ?zk ?zl ?zc ?zb; (case za => k_is); (case zf => k_is); (case zk => k_is); (case zl => k_is); (case zc => k_is); (case zb => exact fun _ _ _ _ _ _ us hl => match us, hl with | [_, _], _ => rfl)
        case m_Coder_found => refine' KW.metAt_mk ?za ?zf ?zk ?zl ?zc ?zb; (case za => k_is); (case zf => k_is); (case zk => k_is); (case zl => k_is); (case zc => k_is); (case zb => exact fun _ _ _ _ _ _ us hl => match us, hl with | [_, _], _ => rfl)
        case m_Coder_name => refine' KW.metAt_mk ?za ?zf ?zk ?zl ?zc ?zb; (case za => k_is); (case zf => k_is); (case zk => k_is); (case zl => k_is); (case zc => k_is); (case zb => exact fun _ _ _ _ _ _ us hl => match us, hl with | [_, _, _], _ => rfl)
        case m_Coder_assign => refine' KW.metAt_mk ?za ?zf ?zk ?zl ?zc ?zb; (case za => k_is); (case zf => k_is); (case zk => k_is); (case zl => k_is); (case zc => k_is); (case zb => exact fun _ _ _ _ _ _ us hl => match us, hl with | [_, _, _], _ => rfl)
        case m_Coder_sequence => refine' KW.metAt_mk ?za ?zf ?zk ?zl ?zc ?zb; (case za => k_is); (case zf => k_is); (case zk => k_is); (case zl => k_is); (case zc => k_is); (case zb => exact fun _ _ _ _ _ _ us hl => match us, hl with | [_, _, _], _ => rfl)
        case m_Coder_inline => refine' KW.metAt_mk ?za ?zf ?zk ?zl ?zc ?zb; (case za => k_is); (case zf => k_is); (case zk => k_is); (case zl => k_is); (case zc => k_is); (case zb => exact fun _ _ _ _ _ _ us hl => match us, hl with | [_, _], _ => rfl)
        case m_Coder_choice => refine' KW.metAt_mk ?za ?zf ?zk ?zl ?zc ?zb; (case za => k_is); (case zf => k_is); (case zk => k_is); (case zl => k_is); (case zc => k_is); (case zb => exact fun _ _ _ _ _ _ us hl => match us, hl with | [_, _, _, _], _ => rfl)
        case m_Coder_loop => refine' KW.metAt_mk ?za ?zf ?zk ?zl ?zc ?zb; (case za => k_is); (case zf => k_is); (case zk => k_is); (case zl => k_is); (case zc => k_is); (case zb => exact fun _ _ _ _ _ _ us hl => match us, hl with | [_, _, _], _ => rfl)
        case m_Coder_message => refine' KW.metAt_mk ?za ?zf ?zk ?zl ?zc ?zb; (case za => k_is); (case zf => k_is); (case zk => k_is); (case zl => k_is); (case zc => k_is); (case zb => exact fun _ _ _ _ _ _ us hl => match us, hl with | [_, _, _, _], _ => rfl)
        case m_Coder_send => refine' KW.metAt_mk ?za ?zf ?zk ?zl ?zc ?zb; (case za => k_is); (case zf => k_is); (case zk => k_is); (case zl => k_is); (case zc => k_is); (case zb => exact fun _ _ _ _ _ _ us hl => match us, hl with | [_, _, _, _], _ => rfl)
        case m_Coder_block => refine' KW.metAt_mk ?za ?zf ?zk ?zl ?zc ?zb; (case za => k_is); (case zf => k_is); (case zk => k_is); (case zl => k_is); (case zc => k_is); (case zb => exact fun _ _ _ _ _ _ us hl => match us, hl with | [_, _, _, _], _ => rfl)
        case m_Coder_expression => refine' KW.metAt_mk ?za ?zf ?zk ?zl ?zc ?zb; (case za => k_is); (case zf => k_is); (case zk => k_is); (case zl => k_is); (case zc => k_is); (case zb => exact fun _ _ _ _ _ _ us hl => match us, hl with | [_, _], _ => rfl)
        case n_int => exact PySem.W.mg_none_of KX G (by k_is)
        case n_isinstance => exact PySem.W.mg_none_of KX G (by k_is)
        case n_len => exact PySem.W.mg_none_of KX G (by k_is)
        case n_list => exact PySem.W.mg_none_of KX G (by k_is)
        case n_max => exact PySem.W.mg_none_of KX G (by k_is)
        case n_range => exact PySem.W.mg_none_of KX G (by k_is)
        case n_str => exact PySem.W.mg_none_of KX G (by k_is)
        case n_tuple => exact PySem.W.mg_none_of KX G (by k_is)
        case gt_PUSHING => refine' KW.gt_mk (PySem.W.mg_of KX G ?za) ?zl ?zc ?zd ?zz ?zr; (case za => k_is); (case zl => k_is); (case zc => rfl); (case zd => rfl); (case zz => decide); (case zr => repeat (first | exact .nil | refine .cons ⟨_, rfl⟩ ?_))
        case gt_SENDING => refine' KW.gt_mk (PySem.W.mg_of KX G ?za) ?zl ?zc ?zd ?zz ?zr; (case za => k_is); (case zl => k_is); (case zc => rfl); (case zd => rfl); (case zz => decide); (case zr => repeat (first | exact .nil | refine .cons ⟨_, rfl⟩ ?_))
        case gt_ENDING => refine' KW.gt_mk (PySem.W.mg_of KX G ?za) ?zl ?zc ?zd ?zz ?zr; (case za => k_is); (case zl => k_is); (case zc => rfl); (case zd => rfl); (case zz => decide); (case zr => repeat (first | exact .nil | refine .cons ⟨_, rfl⟩ ?_))
        case g_MOST_LOCALS => refine' KW.gv_mk KX G ?za ?zr; (case za => k_is); (case zr => exact ⟨_, rfl⟩)
        case gt_RESERVED => refine' KW.gt_mk (PySem.W.mg_of KX G ?za) ?zl ?zc ?zd ?zz ?zr; (case za => k_is); (case zl => k_is); (case zc => rfl); (case zd => rfl); (case zz => decide); (case zr => repeat (first | exact .nil | refine .cons ⟨_, rfl⟩ ?_))
        case g_OUTER => refine' KW.gv_mk KX G ?za ?zr; (case za => k_is); (case zr => exact ⟨_, rfl⟩)
        case g_ARGUMENTS => refine' KW.gv_mk KX G ?za ?zr; (case za => k_is); (case zr => exact ⟨_, rfl⟩)
        case d_change_of => refine' KW.defAt_mk KX G ?za ?zl ?zc ?zk ?zb; (case za => k_is); (case zl => k_is); (case zc => k_is); (case zk => k_is); (case zb => exact fun _ _ _ _ _ _ us hl => match us, hl with | [_, _], _ => rfl)
        case d_places_behind => refine' KW.defAt_mk KX G ?za ?zl ?zc ?zk ?zb; (case za => k_is); (case zl => k_is); (case zc => k_is); (case zk => k_is); (case zb => exact fun _ _ _ _ _ _ us hl => match us, hl with | [_, _, _], _ => rfl)
        case d_declared => refine' KW.defAt_mk KX G ?za ?zl ?zc ?zk ?zb; (case za => k_is); (case zl => k_is); (case zc => k_is); (case zk => k_is); (case zb => exact fun _ _ _ _ _ _ us hl => match us, hl with | [_, _], _ => rfl)
        case d_is_plain_block => refine' KW.defAt_mk KX G ?za ?zl ?zc ?zk ?zb; (case za => k_is); (case zl => k_is); (case zc => k_is); (case zk => k_is); (case zb => exact fun _ _ _ _ _ _ us hl => match us, hl with | [_], _ => rfl)
        case d_is_inlined => refine' KW.defAt_mk KX G ?za ?zl ?zc ?zk ?zb; (case za => k_is); (case zl => k_is); (case zc => k_is); (case zk => k_is); (case zb => exact fun _ _ _ _ _ _ us hl => match us, hl with | [_, _, _], _ => rfl)
        case d_greatest_height => refine' KW.defAt_mk KX G ?za ?zl ?zc ?zk ?zb; (case za => k_is); (case zl => k_is); (case zc => k_is); (case zk => k_is); (case zb => exact fun _ _ _ _ _ _ us hl => match us, hl with | [_, _, _], _ => rfl)
        case d_with_stacks => refine' KW.defAt_mk KX G ?za ?zl ?zc ?zk ?zb; (case za => k_is); (case zl => k_is); (case zc => k_is); (case zk => k_is); (case zb => exact fun _ _ _ _ _ _ us hl => match us, hl with | [_, _], _ => rfl)
        case d_compile_method => refine' KW.defAt_mk KX G ?za ?zl ?zc ?zk ?zb; (case za => k_is); (case zl => k_is); (case zc => k_is); (case zk => k_is); (case zb => exact fun _ _ _ _ _ _ us hl => match us, hl with | [_, _, _], _ => rfl)
        case d__law_cell => refine' KW.defAt_mk KX G ?za ?zl ?zc ?zk ?zb; (case za => k_is); (case zl => k_is); (case zc => k_is); (case zk => k_is); (case zb => exact fun _ _ _ _ _ _ us hl => match us, hl with | [_, _], _ => rfl)
        case d__law_told => refine' KW.defAt_mk KX G ?za ?zl ?zc ?zk ?zb; (case za => k_is); (case zl => k_is); (case zc => k_is); (case zk => k_is); (case zb => exact fun _ _ _ _ _ _ us hl => match us, hl with | [_], _ => rfl)
        case d_law => refine' KW.defAt_mk KX G ?za ?zl ?zc ?zk ?zb; (case za => k_is); (case zl => k_is); (case zc => k_is); (case zk => k_is); (case zb => exact fun _ _ _ _ _ _ us hl => match us, hl with | [_], _ => rfl)
    obtain ⟨a, T⟩ := T
    exact ⟨T.d_law, fun base f fd F => K17.ok_law T f fd F⟩
#print axioms PySem.Challenge.cw_kilnwarden_k17_many_locals_holds
