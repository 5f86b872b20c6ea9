import PyProof.Rows.All
import Wide.All
import OpenK.AllK
import Wide.FinOn
import HandS.Call
import HandS.List
import HandS.Ends
import HandS.Words
import HandS.Exc
import HandS.ExcOwn
import HandS.TryOnly
import HandS.Text
import HandS.Codes
import HandS.Style
import HandS.IsInst
import HandS.Wide
import KE.KExcSuper
import HandS.ExcField
import HandS.ExcIs
import HandS.TryMany
import HandS.Defaults
import HandS.Dict
import HandS.BoundDict
import HandS.NoneIn
import HandS.Flow
import HandS.WideBits
import HandS.Conv
import HandS.SortInts
import HandS.RaiseMore
import KE.RegKIsAll
import HandS.Comp
import PySem.Challenge.RW_kilnwarden_k01_symbols_keep_numbers
set_option Elab.async false
set_option linter.all false
set_option maxRecDepth 100000
set_option maxHeartbeats 2000000
/-! Kw: universal readings over HandS: one rule a construct, whatever the kinds of its parts are; the readings go by cases of the values and so reduce by simp. -/
namespace KW
open PySem PySem.Spec PyProof.Rows L2
abbrev Frag := PySem.W.Frag
abbrev S (l : List Nat) : Str := SX.S l

section
variable {X : Cx}
theorem PEw {e : Expr} {t t' : TE} (h : PE X e t) (w : ∀ σ H Q, t' σ H Q → t σ H Q) : PE X e t' := ⟨fun pins s σ H Q I q => h.run pins s σ H Q I (w σ H Q q)⟩
theorem PTw {e : Expr} {t t' : TT} (h : PT X e t) (w : ∀ σ H Q, t' σ H Q → t σ H Q) : PT X e t' := ⟨fun pins s σ H Q I q => h.run pins s σ H Q I (w σ H Q q)⟩
theorem PSw {st : Stmt} {t t' : TS} (h : PS X st t) (w : ∀ D σ H, t' D σ H → t D σ H) : PS X st t' := ⟨fun pins s σ H D I q => h.run pins s σ H D I (w D σ H q)⟩
theorem OpRw {f : Value → Value → Sem Value} {r r' : R2} (h : OpR X f r) (w : ∀ x y H Q, r' x y H Q → r x y H Q) : OpR X f r' := fun pins s σ H x y v u Q I rx ry q => h pins s σ H x y v u Q I rx ry (w _ _ _ _ q)
theorem UnRw {f : Value → Sem Value} {r r' : V → Hp → VK → Prop} (h : UnR X f r) (w : ∀ x H Q, r' x H Q → r x H Q) : UnR X f r' := fun pins s σ H x v Q I rx q => h pins s σ H x v Q I rx (w _ _ _ q)
theorem CallRw {f : Value} {r r' : List V → Hp → VK → Prop} (h : CallR X f r) (w : ∀ xs H Q, r' xs H Q → r xs H Q) : CallR X f r' := fun pins s σ H xs us Q I rx q => h pins s σ H xs us Q I rx (w _ _ _ q)
theorem IxRw {r r' : R2} (h : IxR X r) (w : ∀ x y H Q, r' x y H Q → r x y H Q) : IxR X r' := fun a b pins s σ H x y v u Q I rx ry q => h a b pins s σ H x y v u Q I rx ry (w _ _ _ _ q)
theorem SlRw {r r' : V → Option Int → Option Int → Hp → VK → Prop} (h : SlR X r) (w : ∀ x l u H Q, r' x l u H Q → r x l u H Q) : SlR X r' := fun pins s σ H x v vl vu lo hi sl Q I rx a b c q => h pins s σ H x v vl vu lo hi sl Q I rx a b c (w _ _ _ _ _ q)

/-! ### names -/
def uVar (i : Nat) : TE := fun σ H Q => match σ[i]? with
  | some (some v) => Q v H
  | _ => False
theorem kv (i : Nat) {x : Str} {pos : Pos} (hN : X.N[i]? = some x := by rfl) (hv : Vis X.env.scope x := by first | exact Or.inl rfl | exact Or.inr (Or.inl rfl) | exact Or.inr (Or.inr rfl)) (hd : (x == ("__debug__" : Str)) = false := by decide)
    (hcd : (x == ("__classdict__" : Str)) = false := by decide) : PE X (.Name x pos) (uVar i) := PEw (pe_var hN hv hd hcd) fun σ H Q h => by
  unfold uVar at h
  split at h
  · rename_i v e
    exact ⟨v, e, h⟩
  · exact h.elim

/-! ### operators -/
def uAdd (K : Frag) : R2
  | .int i, .int j, H, Q => Q (.int (i + j)) H
  | .str i, .str j, H, Q => i.length + j.length ≤ sizeLine ∧ Q (.str (i ++ j)) H
  | .ref a, .ref b, H, Q => rCat (.ref a) (.ref b) H Q ∨ rCatT K (.ref a) (.ref b) H Q
  | _, _, _, _ => False
theorem o_add : OpR X (binaryOp .Add) (uAdd X.K) := OpRw (op_add.or (op_add_str.or (op_cat.or op_catT))) fun x y H Q h => by
  unfold uAdd at h
  split at h
  · exact .inl ⟨_, _, rfl, rfl, h⟩
  · exact .inr (.inl ⟨_, _, rfl, rfl, h⟩)
  · exact .inr (.inr h)
  · exact h.elim
def uSub : R2
  | .int i, .int j, H, Q => Q (.int (i - j)) H
  | _, _, _, _ => False
theorem o_sub : OpR X (binaryOp .Sub) uSub := OpRw op_sub fun x y H Q h => by
  unfold uSub at h
  split at h
  · exact ⟨_, _, rfl, rfl, h⟩
  · exact h.elim
def uMul : R2
  | .int i, .int j, H, Q => (CMul i j ∨ CMulW i j) ∧ Q (.int (i * j)) H
  | .ref l, .int k, H, Q => rRep (.ref l) (.int k) H Q
  | _, _, _, _ => False
theorem o_mul : OpR X (binaryOp .Mult) uMul := OpRw (op_mul.or (op_mulW.or op_rep)) fun x y H Q h => by
  unfold uMul at h
  split at h
  · obtain ⟨c | c, h⟩ := h
    · exact .inl ⟨_, _, rfl, rfl, c, h⟩
    · exact .inr (.inl ⟨_, _, rfl, rfl, c, h⟩)
  · exact .inr (.inr h)
  · exact h.elim
def uMod : R2
  | .int i, .int j, H, Q => 0 < j ∧ Q (.int (i % j)) H
  | _, _, _, _ => False
theorem o_mod : OpR X (binaryOp .Mod) uMod := OpRw op_mod fun x y H Q h => by
  unfold uMod at h
  split at h
  · exact ⟨_, _, rfl, rfl, h⟩
  · exact h.elim
def uDiv : R2
  | .int i, .int j, H, Q => (CDiv i j ∨ CDivW i j) ∧ Q (.int (i / j)) H
  | _, _, _, _ => False
theorem o_fdiv : OpR X (binaryOp .FloorDiv) uDiv := OpRw (op_fdiv.or op_fdivW) fun x y H Q h => by
  unfold uDiv at h
  split at h
  · obtain ⟨c | c, h⟩ := h
    · exact .inl ⟨_, _, rfl, rfl, c, h⟩
    · exact .inr ⟨_, _, rfl, rfl, c, h⟩
  · exact h.elim
def uPow : R2
  | .int i, .int j, H, Q => CPow i j ∧ Q (.int (i ^ j.toNat)) H
  | _, _, _, _ => False
theorem o_pow : OpR X (binaryOp .Pow) uPow := OpRw op_pow fun x y H Q h => by
  unfold uPow at h
  split at h
  · exact ⟨_, _, rfl, rfl, h⟩
  · exact h.elim
def uShl : R2
  | .int i, .int j, H, Q => CPow i j ∧ Q (.int (i * 2 ^ j.toNat)) H
  | _, _, _, _ => False
theorem o_shl : OpR X (binaryOp .LShift) uShl := OpRw op_shl fun x y H Q h => by
  unfold uShl at h
  split at h
  · exact ⟨_, _, rfl, rfl, h⟩
  · exact h.elim
def uNeg : V → Hp → VK → Prop
  | .int i, H, Q => Q (.int (-i)) H
  | _, _, _ => False
theorem o_neg : UnR X (unaryOp .USub) uNeg := UnRw un_neg fun x H Q h => by
  unfold uNeg at h
  split at h
  · exact ⟨_, rfl, h⟩
  · exact h.elim
/-- in place: ints and texts; a list is lengthened -/
def uIAdd : R2
  | .int i, .int j, H, Q => Q (.int (i + j)) H
  | .str i, .str j, H, Q => i.length + j.length ≤ sizeLine ∧ Q (.str (i ++ j)) H
  | .ref a, .ref b, H, Q => rExt2 (.ref a) (.ref b) H Q
  | _, _, _, _ => False
theorem o_iadd : OpR X (inplaceOp .Add) uIAdd := OpRw (iop_add.or (iop_add_str.or iop_ext)) fun x y H Q h => by
  unfold uIAdd at h
  split at h
  · exact .inl ⟨_, _, rfl, rfl, h⟩
  · exact .inr (.inl ⟨_, _, rfl, rfl, h⟩)
  · exact .inr (.inr h)
  · exact h.elim
def uISub : R2
  | .int i, .int j, H, Q => Q (.int (i - j)) H
  | _, _, _, _ => False
theorem o_isub : OpR X (inplaceOp .Sub) uISub := OpRw iop_sub fun x y H Q h => by
  unfold uISub at h
  split at h
  · exact ⟨_, _, rfl, rfl, h⟩
  · exact h.elim

/-! ### comparisons -/
def uLt : R2
  | .int i, .int j, H, Q => Q (.bl (decide (i < j))) H
  | .str i, .str j, H, Q => Q (.bl (decide (i.cps.toList < j.cps.toList))) H
  | _, _, _, _ => False
theorem o_lt : OpR X (compareOp .Lt) uLt := OpRw (op_lt.or op_lt_str) fun x y H Q h => by
  unfold uLt at h
  split at h
  · exact .inl ⟨_, _, rfl, rfl, h⟩
  · exact .inr ⟨_, _, rfl, rfl, h⟩
  · exact h.elim
def uLe : R2
  | .int i, .int j, H, Q => Q (.bl (decide (i ≤ j))) H
  | _, _, _, _ => False
theorem o_le : OpR X (compareOp .LtE) uLe := OpRw op_le fun x y H Q h => by
  unfold uLe at h
  split at h
  · exact ⟨_, _, rfl, rfl, h⟩
  · exact h.elim
def uGt : R2
  | .int i, .int j, H, Q => Q (.bl (decide (j < i))) H
  | _, _, _, _ => False
theorem o_gt : OpR X (compareOp .Gt) uGt := OpRw op_gt fun x y H Q h => by
  unfold uGt at h
  split at h
  · exact ⟨_, _, rfl, rfl, h⟩
  · exact h.elim
def uGe : R2
  | .int i, .int j, H, Q => Q (.bl (decide (j ≤ i))) H
  | _, _, _, _ => False
theorem o_ge : OpR X (compareOp .GtE) uGe := OpRw op_ge fun x y H Q h => by
  unfold uGe at h
  split at h
  · exact ⟨_, _, rfl, rfl, h⟩
  · exact h.elim
def uEq (K : Frag) : R2
  | .int i, .int j, H, Q => Q (.bl (decide (i = j))) H
  | .str i, .str j, H, Q => Q (.bl (decide (i = j))) H
  | .bl i, .bl j, H, Q => Q (.bl (decide (i = j))) H
  | .non, .non, H, Q => Q (.bl true) H
  | .int _, .str _, H, Q => Q (.bl false) H
  | .str _, .int _, H, Q => Q (.bl false) H
  | .int _, .non, H, Q => Q (.bl false) H
  | .non, .int _, H, Q => Q (.bl false) H
  | .str _, .non, H, Q => Q (.bl false) H
  | .non, .str _, H, Q => Q (.bl false) H
  | .ref a, .ref b, H, Q => rEqD K (.ref a) (.ref b) H Q
  | _, _, _, _ => False
theorem o_eq (hu : X.A.units + 64 < cLine) : OpR X (compareOp .Eq) (uEq X.K) := OpRw (op_eq.or (op_eqD hu)) fun x y H Q h => by
  unfold uEq at h
  split at h <;> first
    | exact .inl ⟨rfl, by simpa using h⟩
    | exact .inr h
    | exact h.elim
def uNe (K : Frag) : R2
  | .int i, .int j, H, Q => Q (.bl (!decide (i = j))) H
  | .str i, .str j, H, Q => Q (.bl (!decide (i = j))) H
  | .bl i, .bl j, H, Q => Q (.bl (!decide (i = j))) H
  | .non, .non, H, Q => Q (.bl false) H
  | .int _, .str _, H, Q => Q (.bl true) H
  | .str _, .int _, H, Q => Q (.bl true) H
  | .int _, .non, H, Q => Q (.bl true) H
  | .non, .int _, H, Q => Q (.bl true) H
  | .str _, .non, H, Q => Q (.bl true) H
  | .non, .str _, H, Q => Q (.bl true) H
  | .ref a, .ref b, H, Q => rNeD K (.ref a) (.ref b) H Q
  | _, _, _, _ => False
theorem o_ne (hu : X.A.units + 64 < cLine) : OpR X (compareOp .NotEq) (uNe X.K) := OpRw (op_ne.or (op_neD hu)) fun x y H Q h => by
  unfold uNe at h
  split at h <;> first
    | exact .inl ⟨rfl, by simpa using h⟩
    | exact .inr h
    | exact h.elim
/-- is, is not: None and bools on the right -/
def uIs : R2
  | .non, .non, H, Q => Q (.bl true) H
  | .int _, .non, H, Q => Q (.bl false) H
  | .str _, .non, H, Q => Q (.bl false) H
  | .ref _, .non, H, Q => Q (.bl false) H
  | .bl _, .non, H, Q => Q (.bl false) H
  | .bl a, .bl b, H, Q => Q (.bl (decide (a = b))) H
  | _, _, _, _ => False
theorem o_is : OpR X (compareOp .Is) uIs := OpRw (op_isN.or op_isBl) fun x y H Q h => by
  unfold uIs at h
  split at h <;> first
    | exact .inl ⟨rfl, by simpa using h⟩
    | exact .inr ⟨_, _, rfl, rfl, h⟩
    | exact h.elim
def uNotIs : R2
  | .non, .non, H, Q => Q (.bl false) H
  | .int _, .non, H, Q => Q (.bl true) H
  | .str _, .non, H, Q => Q (.bl true) H
  | .ref _, .non, H, Q => Q (.bl true) H
  | .bl _, .non, H, Q => Q (.bl true) H
  | .bl a, .bl b, H, Q => Q (.bl (!decide (a = b))) H
  | _, _, _, _ => False
theorem o_isnot : OpR X (compareOp .IsNot) uNotIs := OpRw (op_notN.or op_notBl) fun x y H Q h => by
  unfold uNotIs at h
  split at h <;> first
    | exact .inl ⟨rfl, by simpa using h⟩
    | exact .inr ⟨_, _, rfl, rfl, h⟩
    | exact h.elim
/-- one text within another -/
def subStr (i j : Str) : Bool := !(Builtin.Str.occurrences j i 0 j.length 1).isEmpty
theorem subStr_one (c : Nat) (a : List Nat) : subStr (S [c]) (S a) = decide (c ∈ a) := SX.in_one a c
def uIn (K : Frag) : R2
  | .str i, .str j, H, Q => Q (.bl (subStr i j)) H
  | .int i, .ref p, H, Q => rIn K false (.int i) (.ref p) H Q
  | .str i, .ref p, H, Q => rIn K false (.str i) (.ref p) H Q
  | .non, .ref p, H, Q => rIn K false .non (.ref p) H Q
  | _, _, _, _ => False
theorem o_in : OpR X (compareOp .In) (uIn X.K) := OpRw (op_in_str.or op_in_seq) fun x y H Q h => by
  unfold uIn at h
  split at h <;> first
    | exact .inl ⟨_, _, rfl, rfl, h⟩
    | exact .inr h
    | exact h.elim
def uNotIn (K : Frag) : R2
  | .str i, .str j, H, Q => Q (.bl (!subStr i j)) H
  | .int i, .ref p, H, Q => rIn K true (.int i) (.ref p) H Q
  | .str i, .ref p, H, Q => rIn K true (.str i) (.ref p) H Q
  | .non, .ref p, H, Q => rIn K true .non (.ref p) H Q
  | _, _, _, _ => False
theorem o_notin : OpR X (compareOp .NotIn) (uNotIn X.K) := OpRw (op_notin_str.or op_notIn_seq) fun x y H Q h => by
  unfold uNotIn at h
  split at h <;> first
    | exact .inl ⟨_, _, rfl, rfl, h⟩
    | exact .inr h
    | exact h.elim

/-! ### tests -/
def uTru (K : Frag) : V → Hp → (Bool → Prop) → Prop
  | .non, _, k => k false
  | .bl b, _, k => k b
  | .int i, _, k => k (i != 0)
  | .str y, _, k => y.length ≤ sizeLine ∧ k ((y.length : Int) != 0)
  | .ref p, H, k => ∃ b, TruV K (.ref p) H b ∧ k b
  | _, _, _ => False
def uTest (K : Frag) (t : TE) : TT := fun σ H Q => t σ H fun x H1 => uTru K x H1 fun b => Q b H1
theorem kt {e : Expr} {t : TE} (h : PE X e t) (he : ∀ whole, isTrue e X.env whole = (do let v ← whole; standAt e.pos; holding [v] (truthy v)) := by intro _; rfl) : PT X e (uTest X.K t) := by
  refine ⟨fun pins s σ H Q I hq => ?_⟩
  refine isTrue_plain (thn (h.run pins s σ H _ I hq) fun v s1 ⟨x, H1, I1, r1, q1⟩ => tru_ok pins s1 σ H1 x v Q I1 r1 ?_) (he _)
  cases x with
  | non => exact ⟨false, rfl, q1⟩
  | bl b => exact ⟨b, rfl, q1⟩
  | int i => exact ⟨_, rfl, q1⟩
  | str y => exact ⟨_, ⟨q1.1, rfl⟩, q1.2⟩
  | ref p => exact q1
  | _ => exact False.elim q1

/-! ### subscripts -/
def uIx (K : Frag) : R2
  | .ref p, .int i, H, Q => ∃ xs v, (SqL K H p xs ∨ SqT K H p xs) ∧ atI xs i = some v ∧ Q v H
  | .str z, .int i, H, Q => z.length ≤ sizeLine ∧ ∃ c, atI z.cps.toList i = some c ∧ Q (.str (S [c])) H
  | _, _, _, _ => False
theorem o_ix : IxR X (uIx X.K) := IxRw ix_seq fun x y H Q h => by
  unfold uIx at h
  split at h
  · obtain ⟨xs, v, hs | hs, e, q⟩ := h
    · exact .inl ⟨_, xs, _, v, rfl, rfl, hs, e, q⟩
    · exact .inr (.inl ⟨_, xs, _, v, rfl, rfl, hs, e, q⟩)
  · obtain ⟨hz, c, e, q⟩ := h
    exact .inr (.inr ⟨_, _, c, rfl, rfl, hz, e, q⟩)
  · exact h.elim
def uSl (K : Frag) : V → Option Int → Option Int → Hp → VK → Prop
  | .ref a, lo, hi, H, Q => rSlL K (.ref a) lo hi H Q ∨ rSlT K (.ref a) lo hi H Q
  | .str z, lo, hi, H, Q => z.length ≤ sizeLine ∧ Q (.str (cutS z lo hi)) H
  | _, _, _, _, _ => False
theorem o_sl : SlR X (uSl X.K) := SlRw (sl_list.or (sl_tup.or sl_str)) fun x lo hi H Q h => by
  unfold uSl at h
  split at h
  · exact h.elim .inl fun z => .inr (.inl z)
  · exact .inr (.inr ⟨_, rfl, h.1, h.2⟩)
  · exact h.elim
theorem S_len (a : List Nat) : (S a).length = a.length := SX.S_len a
theorem S_nil : (S []).length = 0 := rfl
theorem S_tl (x : Str) : S x.cps.toList = x := SX.S_tl x
theorem cps_S (a : List Nat) : (S a).cps.toList = a := rfl
theorem S_cat (a b : List Nat) : S a ++ S b = S (a ++ b) := SX.S_cat a b
theorem S_inj {a b : List Nat} : S a = S b ↔ a = b := ⟨SX.S_inj, fun h => congrArg S h⟩
theorem cutS_S (a : List Nat) (i j : Nat) : cutS (S a) (some (i : Int)) (some (j : Int)) = S ((a.drop i).take (j - i)) := by
  unfold cutS
  rw [HT.sIx_nat, HT.sIx_nat, cps_S]
  have e : (S a).length = a.length := S_len a
  rw [e]
  refine congrArg S ?_
  rw [show a.drop (min i a.length) = a.drop i by
    by_cases h : i ≤ a.length
    · rw [Nat.min_eq_left h]
    · rw [Nat.min_eq_right (by omega), List.drop_length, List.drop_eq_nil_of_le (by omega)]]
  refine List.take_eq_take_iff.mpr ?_
  rw [List.length_drop]
  omega

/-! ### calls of built-ins -/
def uLen (K : Frag) : List V → Hp → VK → Prop
  | [.str y], H, Q => y.length ≤ sizeLine ∧ Q (.int y.length) H
  | [.ref p], H, Q => ∃ xs, (SqL K H p xs ∨ SqT K H p xs) ∧ Q (.int xs.length) H
  | _, _, _ => False
theorem c_len : CallR X (.builtin "len") (uLen X.K) := CallRw call_len fun xs H Q h => by
  unfold uLen at h
  split at h
  · exact ⟨_, _, rfl, ⟨h.1, rfl⟩, h.2⟩
  · obtain ⟨xs, hs | hs, q⟩ := h
    · exact ⟨_, _, rfl, .inl ⟨xs, hs, rfl⟩, q⟩
    · exact ⟨_, _, rfl, .inr ⟨xs, hs, rfl⟩, q⟩
  · exact h.elim
def uAbs : List V → Hp → VK → Prop
  | [.int i], H, Q => Q (.int (if i < 0 then -i else i)) H
  | _, _, _ => False
theorem c_abs : CallR X (.builtin "abs") uAbs := CallRw call_abs fun xs H Q h => by
  unfold uAbs at h
  split at h
  · exact ⟨_, rfl, h⟩
  · exact h.elim
def uInt : List V → Hp → VK → Prop
  | [.int i], H, Q => Q (.int i) H
  | [.bl k], H, Q => Q (.int (if k then 1 else 0)) H
  | _, _, _ => False
theorem c_int : CallR X (.type "int") uInt := CallRw call_int1 fun xs H Q h => by
  unfold uInt at h
  split at h
  · exact .inl ⟨_, rfl, h⟩
  · exact .inr ⟨_, rfl, h⟩
  · exact h.elim
def uMin2 : List V → Hp → VK → Prop
  | [.int i, .int j], H, Q => Q (.int (if j < i then j else i)) H
  | _, _, _ => False
theorem c_min2 (hc : X.calm = true) : CallR X (.builtin "min") uMin2 := CallRw (call_min2 hc) fun xs H Q h => by
  unfold uMin2 at h
  split at h
  · exact ⟨_, _, rfl, h⟩
  · exact h.elim
/-- isinstance against a built-in type -/
def isK (a b : String) : Bool := match kitB a b with
  | some r => r
  | none => false
def isOk (a b : String) : Bool := (kitB a b).isSome
theorem isK_of {a b : String} (h : isOk a b = true) {K : Frag} : PySem.W.kitOne K (.type a) (.type b) = some (isK a b) := by
  refine kit_ty ?_
  unfold isOk at h
  unfold isK
  cases e : kitB a b with
  | none => rw [e] at h; cases h
  | some r => rfl
def uIsi (K : Frag) : List V → Hp → VK → Prop
  | [.non, .ty n], H, Q => isOk "NoneType" n = true ∧ Q (.bl (isK "NoneType" n)) H
  | [.bl _, .ty n], H, Q => isOk "bool" n = true ∧ Q (.bl (isK "bool" n)) H
  | [.int _, .ty n], H, Q => isOk "int" n = true ∧ Q (.bl (isK "int" n)) H
  | [.str _, .ty n], H, Q => isOk "str" n = true ∧ Q (.bl (isK "str" n)) H
  | [.ref p, .ty n], H, Q => ∃ T, TyX K H (.ref p) (.type T) ∧ isOk T n = true ∧ Q (.bl (isK T n)) H
  | _, _, _ => False
theorem c_isi : CallR X (.builtin "isinstance") (uIsi X.K) := CallRw call_isi fun xs H Q h => by
  unfold uIsi at h
  split at h
  · exact ⟨_, _, _, _, _, rfl, .ty _, .base .non, isK_of h.1, h.2⟩
  · exact ⟨_, _, _, _, _, rfl, .ty _, .base (.bl _), isK_of h.1, h.2⟩
  · exact ⟨_, _, _, _, _, rfl, .ty _, .base (.int _), isK_of h.1, h.2⟩
  · exact ⟨_, _, _, _, _, rfl, .ty _, .base (.str _), isK_of h.1, h.2⟩
  · obtain ⟨T, ty, o, q⟩ := h
    exact ⟨_, _, _, _, _, rfl, .ty _, ty, isK_of o, q⟩
  · exact h.elim
theorem isK_int_int : isK "int" "int" = true := by decide +kernel
theorem isK_int_bool : isK "int" "bool" = false := by decide +kernel
theorem isK_int_str : isK "int" "str" = false := by decide +kernel
theorem isK_int_list : isK "int" "list" = false := by decide +kernel
theorem isK_int_tuple : isK "int" "tuple" = false := by decide +kernel
theorem isK_bool_int : isK "bool" "int" = true := by decide +kernel
theorem isK_bool_bool : isK "bool" "bool" = true := by decide +kernel
theorem isK_bool_str : isK "bool" "str" = false := by decide +kernel
theorem isK_str_str : isK "str" "str" = true := by decide +kernel
theorem isK_str_int : isK "str" "int" = false := by decide +kernel
theorem isK_str_bool : isK "str" "bool" = false := by decide +kernel
theorem isK_str_tuple : isK "str" "tuple" = false := by decide +kernel
theorem isK_str_list : isK "str" "list" = false := by decide +kernel
theorem isK_list_list : isK "list" "list" = true := by decide +kernel
theorem isK_list_tuple : isK "list" "tuple" = false := by decide +kernel
theorem isK_tuple_tuple : isK "tuple" "tuple" = true := by decide +kernel
theorem isK_tuple_list : isK "tuple" "list" = false := by decide +kernel
theorem isK_dict_dict : isK "dict" "dict" = true := by decide +kernel
theorem isK_none_int : isK "NoneType" "int" = false := by decide +kernel
theorem isK_none_bool : isK "NoneType" "bool" = false := by decide +kernel
theorem isOk_int_int : isOk "int" "int" = true := by decide +kernel
theorem isOk_int_bool : isOk "int" "bool" = true := by decide +kernel
theorem isOk_int_str : isOk "int" "str" = true := by decide +kernel
theorem isOk_int_list : isOk "int" "list" = true := by decide +kernel
theorem isOk_int_tuple : isOk "int" "tuple" = true := by decide +kernel
theorem isOk_bool_int : isOk "bool" "int" = true := by decide +kernel
theorem isOk_bool_bool : isOk "bool" "bool" = true := by decide +kernel
theorem isOk_bool_str : isOk "bool" "str" = true := by decide +kernel
theorem isOk_str_str : isOk "str" "str" = true := by decide +kernel
theorem isOk_str_int : isOk "str" "int" = true := by decide +kernel
theorem isOk_str_bool : isOk "str" "bool" = true := by decide +kernel
theorem isOk_str_tuple : isOk "str" "tuple" = true := by decide +kernel
theorem isOk_str_list : isOk "str" "list" = true := by decide +kernel
theorem isOk_list_list : isOk "list" "list" = true := by decide +kernel
theorem isOk_list_tuple : isOk "list" "tuple" = true := by decide +kernel
theorem isOk_tuple_tuple : isOk "tuple" "tuple" = true := by decide +kernel
theorem isOk_tuple_list : isOk "tuple" "list" = true := by decide +kernel
theorem isOk_dict_dict : isOk "dict" "dict" = true := by decide +kernel
theorem isOk_none_int : isOk "NoneType" "int" = true := by decide +kernel
theorem isOk_none_bool : isOk "NoneType" "bool" = true := by decide +kernel
end

/-! ### loops -/
/-- the loop itself, behind the making of its iterator: not opened by simp -/
def forK (J : It) (g : TG) (tb : TS) (D : Ends) (σ : L2.St) (H : Hp) : Prop :=
  ∃ W : Nat → Nat → L2.St → Hp → Prop, (∃ m, W 0 m σ H) ∧ ∀ i m σ H, W i m σ H →
    (J.stop i H ∧ D.nx σ H) ∨ (J.go i H ∧ ∃ N : L2.St → Hp → Prop, (∀ σ' H', N σ' H' → ∃ m', m' < m ∧ W (i + 1) m' σ' H') ∧ ∀ x H', J.yld i H x H' → g x σ H' fun σ2 H2 => tb { D with nx := N, ct := N, bk := D.nx } σ2 H2)
def uFor (wi : TI) (g : TG) (tb : TS) : TS := fun D σ H => wi σ H fun J H1 => forK J g tb D σ H1
theorem for_rng {lo : Int} {n : Nat} {g : TG} {tb : TS} {D : Ends} {σ : L2.St} {H : Hp} (Pv : Nat → L2.St → Hp → Prop) (h0 : Pv 0 σ H)
    (hs : ∀ i σ H, i < n → Pv i σ H → g (.int (lo + i)) σ H fun σ2 H2 => tb { D with nx := Pv (i + 1), ct := Pv (i + 1), bk := D.nx } σ2 H2) (hd : ∀ σ H, Pv n σ H → D.nx σ H) : forK (Itr lo n) g tb D σ H := for_range Pv h0 hs hd
theorem for_lst {K : Frag} {a : Addr} {xs : List V} {g : TG} {tb : TS} {D : Ends} {σ : L2.St} {H : Hp} (Pv : Nat → L2.St → Hp → Prop) (h0 : Pv 0 σ H) (hl : ∀ i σ H, i ≤ xs.length → Pv i σ H → SqL K H a xs)
    (hs : ∀ i x σ H, xs[i]? = some x → Pv i σ H → g x σ H fun σ2 H2 => tb { D with nx := Pv (i + 1), ct := Pv (i + 1), bk := D.nx } σ2 H2) (hd : ∀ σ H, Pv xs.length σ H → D.nx σ H) : forK (Itl K a) g tb D σ H := for_list Pv h0 hl hs hd
/-- while: what holds, by a measure -/
def uWhile (c : TT) (tb : TS) : TS := fun D σ H => ∃ W : Nat → L2.St → Hp → Prop, (∃ m, W m σ H) ∧ ∀ m σ H, W m σ H →
  c σ H fun b H1 => if b = true then tb { D with nx := fun σ' H' => ∃ m', m' < m ∧ W m' σ' H', ct := fun σ' H' => ∃ m', m' < m ∧ W m' σ' H', bk := D.nx } σ H1 else D.nx σ H1
section
variable {X : Cx}
theorem k_for {tg iter : Expr} {body : List Stmt} {wi : TI} {g : TG} {tb : TS} {pos : Pos} (hp : PassesOwn (model X.prog X.w) X.A X.env X.xe) (hc : X.calm = true) (hi : PI X tg iter wi) (hg : PG X tg g) (hb : PSs X body tb)
    (hs : ∀ x, foldedSetIterable iter X.env x = pure x := by intro _; rfl) : PS X (.For tg iter body [] pos) (uFor wi g tb) := ⟨(ps_for hp hc hi hg hb hs).run⟩
theorem k_while {c : Expr} {body : List Stmt} {tc : TT} {tb : TS} {pos : Pos} (hp : PassesOwn (model X.prog X.w) X.A X.env X.xe) (hc : PT X c tc) (hb : PSs X body tb) : PS X (.While c body [] pos) (uWhile tc tb) := by
  refine ⟨fun pins s σ H D I h => ?_⟩
  obtain ⟨W, ⟨m0, w0⟩, turn⟩ := h
  refine wpAny_While (codeAny_whileLoop (fun n s' => ∃ σ' H', Inv X pins σ' H' s' ∧ W n σ' H') ?_ m0 ⟨σ, H, I, w0⟩)
  rintro n s1 ⟨σ1, H1, I1, w1⟩
  refine wpAny_passesOwn hp (thn (hc.run pins s1 σ1 H1 _ I1 (turn n σ1 H1 w1)) fun b s2 ⟨H2, I2, q2⟩ => ?_)
  cases b with
  | true =>
    rw [if_pos rfl] at q2
    rw [if_pos rfl]
    refine wpAny_passesOwn hp (thn (hb.run pins s2 σ1 H2 _ I2 q2) fun f s3 q3 => ?_)
    cases f with
    | next =>
      obtain ⟨σ3, H3, I3, m', hm, w3⟩ := q3
      exact ⟨m', hm, σ3, H3, I3, w3⟩
    | cont =>
      obtain ⟨σ3, H3, I3, m', hm, w3⟩ := q3
      exact ⟨m', hm, σ3, H3, I3, w3⟩
    | brk => exact q3
    | ret v => exact q3
  | false =>
    rw [if_neg Bool.false_ne_true] at q2
    rw [if_neg Bool.false_ne_true]
    exact wpAny_execs_nil ⟨σ1, H2, I2, q2⟩

/-! ### defs of the text, called by their names -/
/-- the def x of the module keeps the promise sp, at level k; ps its parameters, dvs the defaults that a call leaves open -/
structure Cal (P : Program) (w : World) (K : Frag) (mg : Str → Option Value) (base : Heap) (k : Nat) (x : Str) (sp : Sp) : Prop where
  ex : ∃ (f : Addr) (fd : FuncData) (ps : List Str), mg x = some (.ref f) ∧ PySem.W.keepIn K (.ref f) = true ∧ Binds K fd ps [] ∧ FnOk P w K mg base (L2.CX P w) k f fd ps sp
def uCall (sp : Sp) (t : TA) : TE := fun σ H Q => t σ H fun vs H1 => sp vs H1 Q E0
theorem passAt0 {σ : L2.St} : PassesAt (L2.CX X.prog X.w) X σ E0 := fun _ _ _ _ _ _ h => by
  obtain ⟨_, _, _, _, _, _, _, _, _, _, _, _, z⟩ := h
  exact z.elim
section
variable {k : Nat} {x : Str} {sp : Sp} {p pos : Pos} {e : Expr} {es : List Expr} {t : TA}
/-- f(e, ..), f a def that raises nothing here -/
theorem kc (c : Cal X.prog X.w X.K X.mg X.base k x sp) (hr : Room k X.A) (ha : PA X (e :: es) t) (hg : Gl X x := by rfl) (hdb : (x == ("__debug__" : Str)) = false := by decide)
    (he : starEach (e :: es) X.env = (false, eval e X.env) :: starEach es X.env := by rfl) (hpl : (backTo pos (starEach es X.env)).any (·.1) = false := by rfl) : PE X (.Call (.Name x p) (e :: es) [] pos) (uCall sp t) := by
  obtain ⟨f, fd, ps, hm, hk, hb, F⟩ := c.ex
  exact pe_callS F hr hg hm hk hb (fun _ => passAt0) ha hdb he hpl
theorem kc0 (c : Cal X.prog X.w X.K X.mg X.base k x sp) (hr : Room k X.A) (hg : Gl X x := by rfl) (hdb : (x == ("__debug__" : Str)) = false := by decide) : PE X (.Call (.Name x p) [] [] pos) (uCall sp tNil) := by
  obtain ⟨f, fd, ps, hm, hk, hb, F⟩ := c.ex
  refine ⟨fun pins s σ H Q I h => ?_⟩
  refine wpAny_Call_Name_kw (ld_glob I hg hm ?_ hdb)
  exact PySem.W.callWith_K0 I.kIn hk (run_fnS (E := fun _ => E0) F hr hb passAt0 I .nil h)
/-- f(e, ..), f a def that may raise: W is what is wanted of it -/
theorem kcX {W : WX} (tk : Takes X W) (c : Cal X.prog X.w X.K X.mg X.base k x sp) (hr : Room k X.A) (ha : PA X (e :: es) t) (hg : Gl X x := by rfl) (hdb : (x == ("__debug__" : Str)) = false := by decide)
    (he : starEach (e :: es) X.env = (false, eval e X.env) :: starEach es X.env := by rfl) (hpl : (backTo pos (starEach es X.env)).any (·.1) = false := by rfl) : PE X (.Call (.Name x p) (e :: es) [] pos) (tCallS sp (WE W) t) := by
  obtain ⟨f, fd, ps, hm, hk, hb, F⟩ := c.ex
  exact pe_callS F hr hg hm hk hb (fun σ => passAt tk σ) ha hdb he hpl
end
end
/-- a def of the text, with what binds its arguments -/
structure DefAt (K : Frag) (mg : Str → Option Value) (x qual : Str) (st : Stmt) (ps : List Str) : Prop where
  ex : ∃ (f : Addr) (fd : FuncData), mg x = some (.ref f) ∧ Fun K x qual st f fd ∧ Binds K fd ps []
section
variable {P : Program} {w : World} {K : Frag} {mg : Str → Option Value} {base : Heap}
theorem DefAt.ok {x qual : Str} {st : Stmt} {N ps : List Str} {k : Nat} {sp : Sp} (D : DefAt K mg x qual st ps) (S : FnScope N ps (defScope st)) (len : ∀ vs H Q E, sp vs H Q E → vs.length = ps.length)
    (hbody : ∀ (f : Addr) (cdv : Value) (A : Around) (outer : List Env) (s : Shared) (H : Hp) (vs : List V) (Q : VK) (E : XK), Room k (A.deeper (envOfC qual (defScope st) s.heap.objs.size f cdv)) → sp vs H Q E →
      ∃ t, PSs (cxOf (L2.CX P w) P w K mg base N qual (defScope st) f cdv A outer s H E) (defBody st) t ∧ t { nx := fun _ H' => Q .non H', rt := Q } (start N vs) H) : Cal P w K mg base (k + 1) x sp := by
  obtain ⟨f, fd, hm, F, hb⟩ := D.ex
  refine ⟨f, fd, ps, hm, F.kp, hb, ?_⟩
  obtain ⟨oc, od, kV, doc, pm, an, cdv, ct, osl, rfl, lk, hcd⟩ := F.ex
  exact fn_of lk hcd S len fun A outer s H vs Q E hr hsp => hbody f cdv A outer s H vs Q E hr hsp
theorem Cal.mono {j k : Nat} {x : Str} {sp : Sp} (c : Cal P w K mg base j x sp) (h : j ≤ k) : Cal P w K mg base k x sp := by
  obtain ⟨f, fd, ps, hm, hk, hb, F⟩ := c.ex
  exact ⟨f, fd, ps, hm, hk, hb, F.mono h⟩
end
end KW
namespace KW
open PySem PySem.Spec PyProof.Rows L2
/-- the module's name x holds the constant v -/
def GV (mg : Str → Option Value) (x : Str) (v : V) : Prop := ∃ u, mg x = some u ∧ RelV v u
theorem k_g {X : Cx} {x : Str} {v : V} {pos : Pos} (h : GV X.mg x v) (hg : Gl X x := by rfl) (hd : (x == ("__debug__" : Str)) = false := by decide) : PE X (.Name x pos) (tC v) := by
  obtain ⟨u, hm, r⟩ := h
  exact pe_glob hg hm r hd
/-- an object that stands by itself may be changed while all else stands -/
def But (a : Addr) (H H' : Hp) : Prop := ∀ b o, b ≠ a → H b = some o → H' b = some o
theorem But.refl {a : Addr} (H : Hp) : But a H H := fun _ _ _ h => h
theorem But.trans {a : Addr} {H H1 H2 : Hp} (x : But a H H1) (y : But a H1 H2) : But a H H2 := fun b o n h => y b o n (x b o n h)
theorem But.upd {a : Addr} {H : Hp} {o : HO} : But a H (upd H a o) := fun b _ n h => by rw [upd_ne n]; exact h
theorem But.seq {a b : Addr} {K : Frag} {H H' : Hp} {xs : List V} (e : But a H H') (n : b ≠ a) (h : SqL K H b xs) : SqL K H' b xs := by
  rcases h with (h | ⟨o, h⟩) | h
  · exact .inl (.inl (e _ _ n h))
  · exact .inl (.inr ⟨o, e _ _ n h⟩)
  · exact .inr h
end KW
namespace KW
open PySem PySem.Spec PyProof.Rows L2
/-! ### reads and stores of lists and tuples: by lemmas, not by simp -/
section
variable {K : Frag} {H : Hp} {p : Addr} {xs : List V} {i : Int} {v : V} {Q : VK}
theorem ix_l (h : H p = some (.lst xs)) (e : atI xs i = some v) (q : Q v H) : uIx K (.ref p) (.int i) H Q := ⟨xs, v, .inl (.of h), e, q⟩
theorem ix_t (h : H p = some (.tup xs)) (e : atI xs i = some v) (q : Q v H) : uIx K (.ref p) (.int i) H Q := ⟨xs, v, .inr (.of h), e, q⟩
theorem ix_sl (h : SqL K H p xs) (e : atI xs i = some v) (q : Q v H) : uIx K (.ref p) (.int i) H Q := ⟨xs, v, .inl h, e, q⟩
theorem ix_st (h : SqT K H p xs) (e : atI xs i = some v) (q : Q v H) : uIx K (.ref p) (.int i) H Q := ⟨xs, v, .inr h, e, q⟩
theorem len_l (h : H p = some (.lst xs)) (q : Q (.int xs.length) H) : uLen K [.ref p] H Q := ⟨xs, .inl (.of h), q⟩
theorem len_t (h : H p = some (.tup xs)) (q : Q (.int xs.length) H) : uLen K [.ref p] H Q := ⟨xs, .inr (.of h), q⟩
theorem len_sl (h : SqL K H p xs) (q : Q (.int xs.length) H) : uLen K [.ref p] H Q := ⟨xs, .inl h, q⟩
theorem len_st (h : SqT K H p xs) (q : Q (.int xs.length) H) : uLen K [.ref p] H Q := ⟨xs, .inr h, q⟩
end
/-- o[i] = v -/
def uSet : TSet
  | .ref p, .int k, v, H, Q => ∃ xs j, H p = some (.lst xs) ∧ ixN xs.length k = some j ∧ Q (upd H p (.lst (xs.set j v)))
  | _, _, _, _, _ => False
theorem s_set {X : Cx} : PSet X uSet := fun pins s σ H o i v ov iv u Q I ro ri rv h => by
  unfold uSet at h
  split at h
  · obtain ⟨xs, j, h1, h2, q⟩ := h
    exact set_list pins s σ H _ _ _ ov iv u Q I ro ri rv ⟨_, xs, _, j, rfl, rfl, h1, h2, q⟩
  · exact h.elim
theorem set_l {H : Hp} {p : Addr} {xs : List V} {k : Int} {j : Nat} {v : V} {Q : Hp → Prop} (h : H p = some (.lst xs)) (e : ixN xs.length k = some j) (q : Q (upd H p (.lst (xs.set j v)))) : uSet (.ref p) (.int k) v H Q := ⟨xs, j, h, e, q⟩
end KW
namespace KW
open PySem PySem.Spec PyProof.Rows L2
theorem le_line {n : Nat} (h : n ≤ 1000000) : n ≤ sizeLine := by rw [sizeLine_eq]; omega
theorem lt_line {n : Nat} (h : n ≤ 1000000) : n < sizeLine := by rw [sizeLine_eq]; omega
theorem mul_l {i j : Int} (h : -18446744073709551616 < i ∧ i < 18446744073709551616) : CMul i j ∨ CMulW i j := .inl (.inl ⟨by omega, by omega⟩)
theorem mul_r {i j : Int} (h : -18446744073709551616 < j ∧ j < 18446744073709551616) : CMul i j ∨ CMulW i j := .inl (.inr ⟨by omega, by omega⟩)
theorem div_s {i j : Int} (h : 0 < j ∧ j < 1073741824) : CDiv i j ∨ CDivW i j := .inl h
theorem pow_s {i j : Int} (h : 0 ≤ j ∧ j ≤ 1000000 ∧ -18446744073709551616 < i ∧ i < 18446744073709551616) : CPow i j := ⟨h.1, h.2.1, by omega⟩
end KW
namespace KW
open PySem PySem.Spec PyProof.Rows L2
theorem But.new {st p : Addr} {H : Hp} {o : HO} (h : H p = none) : But st H (L2.upd H p o) := fun b u _ e => by rw [upd_ne (ne_of_none e h)]; exact e
theorem SqL.new {K : Frag} {H : Hp} {sc p : Addr} {o : HO} {xs : List V} (h : H p = none) (hS : SqL K H sc xs) : SqL K (upd H p o) sc xs := by
  rcases hS with (q | ⟨o, q⟩) | q
  · exact .inl (.inl (by rw [upd_ne (ne_of_none q h)]; exact q))
  · exact .inl (.inr ⟨o, by rw [upd_ne (ne_of_none q h)]; exact q⟩)
  · exact .inr q
theorem atI_int {α : Type} {xs : List α} {r : Int} (h0 : 0 ≤ r) (h1 : r < xs.length) : ∃ v, xs[r.toNat]? = some v ∧ atI xs r = some v := by
  obtain ⟨j, rfl⟩ := Int.eq_ofNat_of_zero_le h0
  have h : j < xs.length := by omega
  exact ⟨xs[j], List.getElem?_eq_getElem h, atI_nat (List.getElem?_eq_getElem h)⟩
end KW
namespace KW
open PySem PySem.Spec PyProof.Rows L2
theorem tup_l {K : Frag} {n : Nat} {t : TGs} {a : Addr} {xs : List V} {σ : L2.St} {H : Hp} {Q : L2.St → Hp → Prop} (h : H a = some (.tup xs)) (hn : xs.length = n) (q : t xs σ H Q) : gTup K n t (.ref a) σ H Q := ⟨a, xs, rfl, .of h, hn, q⟩
theorem tup_s {K : Frag} {n : Nat} {t : TGs} {a : Addr} {xs : List V} {σ : L2.St} {H : Hp} {Q : L2.St → Hp → Prop} (h : SqT K H a xs) (hn : xs.length = n) (q : t xs σ H Q) : gTup K n t (.ref a) σ H Q := ⟨a, xs, rfl, h, hn, q⟩
end KW
namespace KW
open PySem PySem.Spec PyProof.Rows L2
section
variable {P : Program} {w : World} {K : Frag} {mg : Str → Option Value} {base : Heap}
theorem DefAt.fn {x qual : Str} {st : Stmt} {N ps : List Str} {k : Nat} {sp : Sp} (S : FnScope N ps (defScope st)) (len : ∀ vs H Q E, sp vs H Q E → vs.length = ps.length)
    (hbody : ∀ (f : Addr) (cdv : Value) (A : Around) (outer : List Env) (s : Shared) (H : Hp) (vs : List V) (Q : VK) (E : XK), Room k (A.deeper (envOfC qual (defScope st) s.heap.objs.size f cdv)) → sp vs H Q E →
      ∃ t, PSs (cxOf (L2.CX P w) P w K mg base N qual (defScope st) f cdv A outer s H E) (defBody st) t ∧ t { nx := fun _ H' => Q .non H', rt := Q } (start N vs) H) :
    ∀ f fd, Fun K x qual st f fd → FnOk P w K mg base (L2.CX P w) (k + 1) f fd ps sp := by
  intro f fd F
  obtain ⟨oc, od, kV, doc, pm, an, cdv, ct, osl, rfl, lk, hcd⟩ := F.ex
  exact fn_of lk hcd S len fun A outer s H vs Q E hr hsp => hbody f cdv A outer s H vs Q E hr hsp
theorem defAt_mk {x qual : Str} {st : Stmt} {ps : List Str} {h : Heap} {f : Addr} {oc : Value} {od an : Option Addr} {osl : Array (Option Value)} {kV doc pm cdv ct : Value}
    (X : K.In h) (G : h.Ns mainGlobals mg) (a : PySem.W.nsIn K mainGlobals x = some (some (.ref f)))
    (l : K.lookup f = some ⟨oc, od, .func (PySem.W.fnOf x qual (defArgs st) (defBody st) (defScope st) .none kV doc pm an cdv ct), osl⟩) (c : PySem.W.codeIn K cdv qual = true) (k : PySem.W.keepIn K (.ref f) = true)
    (hb : ∀ (kV doc pm : Value) (an : Option Addr) (cdv ct : Value) (us : List Value), us.length = ps.length → bindArgs (PySem.W.fnOf x qual (defArgs st) (defBody st) (defScope st) .none kV doc pm an cdv ct) ⟨us, []⟩ = pure (ps.zip us)) : DefAt K mg x qual st ps := by
  have F := fun_mk (st := st) l c k
  exact ⟨f, _, PySem.W.mg_of X G a, F, F.binds hb⟩
theorem gv_mk {x : Str} {v : V} {u : Value} {h : Heap} (X : K.In h) (G : h.Ns mainGlobals mg) (a : PySem.W.nsIn K mainGlobals x = some (some u)) (r : RelV v u) : GV mg x v := ⟨u, PySem.W.mg_of X G a, r⟩
/-- the law's promise: True for every list of at most 63 ints -/
def sp_law63 (K : Frag) : Sp := fun vs H Q _ => ∃ (sc : Addr) (ns : List Int), vs = [.ref sc] ∧ SqL K H sc (ns.map .int) ∧ ns.length ≤ 63 ∧ ∀ H', Q (.bl true) H'
end
theorem CX_none {P : Program} {w : World} {l : List Env} {H : Hp} {s : Shared} {e : Value} {s' : Shared} (h : L2.CX P w l H s (fun _ _ _ => False) e s') : False := by
  obtain ⟨_, _, _, _, _, _, _, _, _, _, _, _, z⟩ := h
  exact z.elim
theorem walk63 {l : PySem.W.OpenLaw} {k : Nat} {st : Stmt} {q : Program} {loose : List Str} {XP : (Str → Option Value) → Heap → Prop} {YP : World → Heap → Prop} {d : DefRec} {K : Params → PySem.W.Frag} (hn : l.most = some 63) (hdf : d.params.defaults = []) (hd : d.name = "law") (hr : Room k callerA)
    (hY : ∀ (w : World) (h : Heap), YP w h → (K w.params).In h)
    (hb : ∀ (kV doc pm : Value) (an : Option Addr) (cdv ct : Value) (us : List Value), us.length = ["script"].length → bindArgs (PySem.W.fnOf "law" "law" (defArgs st) (defBody st) (defScope st) .none kV doc pm an cdv ct) ⟨us, []⟩ = pure ((["script"] : List Str).zip us))
    (F : ∀ (w : World) (mg : Str → Option Value) (h : Heap), (K w.params).In h → h.Ns mainGlobals mg →
      DefAt (K w.params) mg "law" "law" st ["script"] ∧ ∀ base f fd, Fun (K w.params) "law" "law" st f fd → FnOk l.prog w (K w.params) mg base (L2.CX l.prog w) k f fd ["script"] (sp_law63 (K w.params))) :
    PySem.W.WalkO q loose XP YP l.row.toRowW d [] (fun f vs => PySem.call f vs) := by
  refine L2.walk_of (n := 63) (k := k) (x := "script") (CX := fun w => L2.CX l.prog w) (sp := fun w => sp_law63 (K w.params)) hn (by decide) hdf hr hY ?_ (fun _ _ a ns hl _ hS => ⟨a, ns, rfl, hS, hl, fun _ => rfl⟩) fun _ _ _ _ _ h => CX_none h
  intro w mg fa h KX G hmg
  obtain ⟨D, ok⟩ := F w mg h KX G
  obtain ⟨f, fd, hm, Fu, _⟩ := D.ex
  rw [hd, hm] at hmg
  cases hmg
  have Fu' := Fu
  obtain ⟨oc, od, kV, doc, pm, an, cdv, ct, osl, rfl, lk, hcd⟩ := Fu.ex
  exact ⟨_, fun s u => .of_eq (hb kV doc pm an cdv ct [u] rfl), fun base _ _ => ok base _ _ Fu'⟩
end KW
/-! ### case lemmas -/
namespace KW
open PySem PySem.Spec PyProof.Rows L2
theorem uAdd_e1 {K : Frag} {i : Int} {j : Int} {H : Hp} {Q : VK} : uAdd K (.int i) (.int j) H Q = (Q (.int (i + j)) H) := rfl
theorem uAdd_e2 {K : Frag} {i : Str} {j : Str} {H : Hp} {Q : VK} : uAdd K (.str i) (.str j) H Q = (i.length + j.length ≤ sizeLine ∧ Q (.str (i ++ j)) H) := rfl
theorem uAdd_e3 {K : Frag} {a : Addr} {b : Addr} {H : Hp} {Q : VK} : uAdd K (.ref a) (.ref b) H Q = (rCat (.ref a) (.ref b) H Q ∨ rCatT K (.ref a) (.ref b) H Q) := rfl
theorem uSub_e1 {i : Int} {j : Int} {H : Hp} {Q : VK} : uSub (.int i) (.int j) H Q = (Q (.int (i - j)) H) := rfl
theorem uMul_e1 {i : Int} {j : Int} {H : Hp} {Q : VK} : uMul (.int i) (.int j) H Q = ((CMul i j ∨ CMulW i j) ∧ Q (.int (i * j)) H) := rfl
theorem uMul_e2 {l : Addr} {k : Int} {H : Hp} {Q : VK} : uMul (.ref l) (.int k) H Q = (rRep (.ref l) (.int k) H Q) := rfl
theorem uMod_e1 {i : Int} {j : Int} {H : Hp} {Q : VK} : uMod (.int i) (.int j) H Q = (0 < j ∧ Q (.int (i % j)) H) := rfl
theorem uDiv_e1 {i : Int} {j : Int} {H : Hp} {Q : VK} : uDiv (.int i) (.int j) H Q = ((CDiv i j ∨ CDivW i j) ∧ Q (.int (i / j)) H) := rfl
theorem uPow_e1 {i : Int} {j : Int} {H : Hp} {Q : VK} : uPow (.int i) (.int j) H Q = (CPow i j ∧ Q (.int (i ^ j.toNat)) H) := rfl
theorem uShl_e1 {i : Int} {j : Int} {H : Hp} {Q : VK} : uShl (.int i) (.int j) H Q = (CPow i j ∧ Q (.int (i * 2 ^ j.toNat)) H) := rfl
theorem uNeg_e1 {i : Int} {H : Hp} {Q : VK} : uNeg (.int i) H Q = (Q (.int (-i)) H) := rfl
theorem uIAdd_e1 {i : Int} {j : Int} {H : Hp} {Q : VK} : uIAdd (.int i) (.int j) H Q = (Q (.int (i + j)) H) := rfl
theorem uIAdd_e2 {i : Str} {j : Str} {H : Hp} {Q : VK} : uIAdd (.str i) (.str j) H Q = (i.length + j.length ≤ sizeLine ∧ Q (.str (i ++ j)) H) := rfl
theorem uIAdd_e3 {a : Addr} {b : Addr} {H : Hp} {Q : VK} : uIAdd (.ref a) (.ref b) H Q = (rExt2 (.ref a) (.ref b) H Q) := rfl
theorem uISub_e1 {i : Int} {j : Int} {H : Hp} {Q : VK} : uISub (.int i) (.int j) H Q = (Q (.int (i - j)) H) := rfl
theorem uLt_e1 {i : Int} {j : Int} {H : Hp} {Q : VK} : uLt (.int i) (.int j) H Q = (Q (.bl (decide (i < j))) H) := rfl
theorem uLt_e2 {i : Str} {j : Str} {H : Hp} {Q : VK} : uLt (.str i) (.str j) H Q = (Q (.bl (decide (i.cps.toList < j.cps.toList))) H) := rfl
theorem uLe_e1 {i : Int} {j : Int} {H : Hp} {Q : VK} : uLe (.int i) (.int j) H Q = (Q (.bl (decide (i ≤ j))) H) := rfl
theorem uGt_e1 {i : Int} {j : Int} {H : Hp} {Q : VK} : uGt (.int i) (.int j) H Q = (Q (.bl (decide (j < i))) H) := rfl
theorem uGe_e1 {i : Int} {j : Int} {H : Hp} {Q : VK} : uGe (.int i) (.int j) H Q = (Q (.bl (decide (j ≤ i))) H) := rfl
theorem uEq_e1 {K : Frag} {i : Int} {j : Int} {H : Hp} {Q : VK} : uEq K (.int i) (.int j) H Q = (Q (.bl (decide (i = j))) H) := rfl
theorem uEq_e2 {K : Frag} {i : Str} {j : Str} {H : Hp} {Q : VK} : uEq K (.str i) (.str j) H Q = (Q (.bl (decide (i = j))) H) := rfl
theorem uEq_e3 {K : Frag} {i : Bool} {j : Bool} {H : Hp} {Q : VK} : uEq K (.bl i) (.bl j) H Q = (Q (.bl (decide (i = j))) H) := rfl
theorem uEq_e4 {K : Frag} {H : Hp} {Q : VK} : uEq K (.non) (.non) H Q = (Q (.bl true) H) := rfl
theorem uEq_e5 {K : Frag} {w1 : Int} {w2 : Str} {H : Hp} {Q : VK} : uEq K (.int w1) (.str w2) H Q = (Q (.bl false) H) := rfl
theorem uEq_e6 {K : Frag} {w1 : Str} {w2 : Int} {H : Hp} {Q : VK} : uEq K (.str w1) (.int w2) H Q = (Q (.bl false) H) := rfl
theorem uEq_e7 {K : Frag} {w1 : Int} {H : Hp} {Q : VK} : uEq K (.int w1) (.non) H Q = (Q (.bl false) H) := rfl
theorem uEq_e8 {K : Frag} {w1 : Int} {H : Hp} {Q : VK} : uEq K (.non) (.int w1) H Q = (Q (.bl false) H) := rfl
theorem uEq_e9 {K : Frag} {w1 : Str} {H : Hp} {Q : VK} : uEq K (.str w1) (.non) H Q = (Q (.bl false) H) := rfl
theorem uEq_e10 {K : Frag} {w1 : Str} {H : Hp} {Q : VK} : uEq K (.non) (.str w1) H Q = (Q (.bl false) H) := rfl
theorem uEq_e11 {K : Frag} {a : Addr} {b : Addr} {H : Hp} {Q : VK} : uEq K (.ref a) (.ref b) H Q = (rEqD K (.ref a) (.ref b) H Q) := rfl
theorem uNe_e1 {K : Frag} {i : Int} {j : Int} {H : Hp} {Q : VK} : uNe K (.int i) (.int j) H Q = (Q (.bl (!decide (i = j))) H) := rfl
theorem uNe_e2 {K : Frag} {i : Str} {j : Str} {H : Hp} {Q : VK} : uNe K (.str i) (.str j) H Q = (Q (.bl (!decide (i = j))) H) := rfl
theorem uNe_e3 {K : Frag} {i : Bool} {j : Bool} {H : Hp} {Q : VK} : uNe K (.bl i) (.bl j) H Q = (Q (.bl (!decide (i = j))) H) := rfl
theorem uNe_e4 {K : Frag} {H : Hp} {Q : VK} : uNe K (.non) (.non) H Q = (Q (.bl false) H) := rfl
theorem uNe_e5 {K : Frag} {w1 : Int} {w2 : Str} {H : Hp} {Q : VK} : uNe K (.int w1) (.str w2) H Q = (Q (.bl true) H) := rfl
theorem uNe_e6 {K : Frag} {w1 : Str} {w2 : Int} {H : Hp} {Q : VK} : uNe K (.str w1) (.int w2) H Q = (Q (.bl true) H) := rfl
theorem uNe_e7 {K : Frag} {w1 : Int} {H : Hp} {Q : VK} : uNe K (.int w1) (.non) H Q = (Q (.bl true) H) := rfl
theorem uNe_e8 {K : Frag} {w1 : Int} {H : Hp} {Q : VK} : uNe K (.non) (.int w1) H Q = (Q (.bl true) H) := rfl
theorem uNe_e9 {K : Frag} {w1 : Str} {H : Hp} {Q : VK} : uNe K (.str w1) (.non) H Q = (Q (.bl true) H) := rfl
theorem uNe_e10 {K : Frag} {w1 : Str} {H : Hp} {Q : VK} : uNe K (.non) (.str w1) H Q = (Q (.bl true) H) := rfl
theorem uNe_e11 {K : Frag} {a : Addr} {b : Addr} {H : Hp} {Q : VK} : uNe K (.ref a) (.ref b) H Q = (rNeD K (.ref a) (.ref b) H Q) := rfl
theorem uIs_e1 {H : Hp} {Q : VK} : uIs (.non) (.non) H Q = (Q (.bl true) H) := rfl
theorem uIs_e2 {w1 : Int} {H : Hp} {Q : VK} : uIs (.int w1) (.non) H Q = (Q (.bl false) H) := rfl
theorem uIs_e3 {w1 : Str} {H : Hp} {Q : VK} : uIs (.str w1) (.non) H Q = (Q (.bl false) H) := rfl
theorem uIs_e4 {w1 : Addr} {H : Hp} {Q : VK} : uIs (.ref w1) (.non) H Q = (Q (.bl false) H) := rfl
theorem uIs_e5 {w1 : Bool} {H : Hp} {Q : VK} : uIs (.bl w1) (.non) H Q = (Q (.bl false) H) := rfl
theorem uIs_e6 {a : Bool} {b : Bool} {H : Hp} {Q : VK} : uIs (.bl a) (.bl b) H Q = (Q (.bl (decide (a = b))) H) := rfl
theorem uNotIs_e1 {H : Hp} {Q : VK} : uNotIs (.non) (.non) H Q = (Q (.bl false) H) := rfl
theorem uNotIs_e2 {w1 : Int} {H : Hp} {Q : VK} : uNotIs (.int w1) (.non) H Q = (Q (.bl true) H) := rfl
theorem uNotIs_e3 {w1 : Str} {H : Hp} {Q : VK} : uNotIs (.str w1) (.non) H Q = (Q (.bl true) H) := rfl
theorem uNotIs_e4 {w1 : Addr} {H : Hp} {Q : VK} : uNotIs (.ref w1) (.non) H Q = (Q (.bl true) H) := rfl
theorem uNotIs_e5 {w1 : Bool} {H : Hp} {Q : VK} : uNotIs (.bl w1) (.non) H Q = (Q (.bl true) H) := rfl
theorem uNotIs_e6 {a : Bool} {b : Bool} {H : Hp} {Q : VK} : uNotIs (.bl a) (.bl b) H Q = (Q (.bl (!decide (a = b))) H) := rfl
theorem uIn_e1 {K : Frag} {i : Str} {j : Str} {H : Hp} {Q : VK} : uIn K (.str i) (.str j) H Q = (Q (.bl (subStr i j)) H) := rfl
theorem uIn_e2 {K : Frag} {i : Int} {p : Addr} {H : Hp} {Q : VK} : uIn K (.int i) (.ref p) H Q = (rIn K false (.int i) (.ref p) H Q) := rfl
theorem uIn_e3 {K : Frag} {i : Str} {p : Addr} {H : Hp} {Q : VK} : uIn K (.str i) (.ref p) H Q = (rIn K false (.str i) (.ref p) H Q) := rfl
theorem uIn_e4 {K : Frag} {p : Addr} {H : Hp} {Q : VK} : uIn K (.non) (.ref p) H Q = (rIn K false .non (.ref p) H Q) := rfl
theorem uNotIn_e1 {K : Frag} {i : Str} {j : Str} {H : Hp} {Q : VK} : uNotIn K (.str i) (.str j) H Q = (Q (.bl (!subStr i j)) H) := rfl
theorem uNotIn_e2 {K : Frag} {i : Int} {p : Addr} {H : Hp} {Q : VK} : uNotIn K (.int i) (.ref p) H Q = (rIn K true (.int i) (.ref p) H Q) := rfl
theorem uNotIn_e3 {K : Frag} {i : Str} {p : Addr} {H : Hp} {Q : VK} : uNotIn K (.str i) (.ref p) H Q = (rIn K true (.str i) (.ref p) H Q) := rfl
theorem uNotIn_e4 {K : Frag} {p : Addr} {H : Hp} {Q : VK} : uNotIn K (.non) (.ref p) H Q = (rIn K true .non (.ref p) H Q) := rfl
theorem uTru_e1 {K : Frag} {w1 : Hp} {k : Bool → Prop} : uTru K (.non) w1 k = (k false) := rfl
theorem uTru_e2 {K : Frag} {b : Bool} {w1 : Hp} {k : Bool → Prop} : uTru K (.bl b) w1 k = (k b) := rfl
theorem uTru_e3 {K : Frag} {i : Int} {w1 : Hp} {k : Bool → Prop} : uTru K (.int i) w1 k = (k (i != 0)) := rfl
theorem uTru_e4 {K : Frag} {y : Str} {w1 : Hp} {k : Bool → Prop} : uTru K (.str y) w1 k = (y.length ≤ sizeLine ∧ k ((y.length : Int) != 0)) := rfl
theorem uTru_e5 {K : Frag} {p : Addr} {H : Hp} {k : Bool → Prop} : uTru K (.ref p) H k = (∃ b, TruV K (.ref p) H b ∧ k b) := rfl
theorem uIx_e1 {K : Frag} {p : Addr} {i : Int} {H : Hp} {Q : VK} : uIx K (.ref p) (.int i) H Q = (∃ xs v, (SqL K H p xs ∨ SqT K H p xs) ∧ atI xs i = some v ∧ Q v H) := rfl
theorem uIx_e2 {K : Frag} {z : Str} {i : Int} {H : Hp} {Q : VK} : uIx K (.str z) (.int i) H Q = (z.length ≤ sizeLine ∧ ∃ c, atI z.cps.toList i = some c ∧ Q (.str (S [c])) H) := rfl
theorem uSl_e1 {K : Frag} {a : Addr} {lo : Option Int} {hi : Option Int} {H : Hp} {Q : VK} : uSl K (.ref a) lo hi H Q = (rSlL K (.ref a) lo hi H Q ∨ rSlT K (.ref a) lo hi H Q) := rfl
theorem uSl_e2 {K : Frag} {z : Str} {lo : Option Int} {hi : Option Int} {H : Hp} {Q : VK} : uSl K (.str z) lo hi H Q = (z.length ≤ sizeLine ∧ Q (.str (cutS z lo hi)) H) := rfl
theorem uLen_e1 {K : Frag} {y : Str} {H : Hp} {Q : VK} : uLen K [.str y] H Q = (y.length ≤ sizeLine ∧ Q (.int y.length) H) := rfl
theorem uLen_e2 {K : Frag} {p : Addr} {H : Hp} {Q : VK} : uLen K [.ref p] H Q = (∃ xs, (SqL K H p xs ∨ SqT K H p xs) ∧ Q (.int xs.length) H) := rfl
theorem uAbs_e1 {i : Int} {H : Hp} {Q : VK} : uAbs [.int i] H Q = (Q (.int (if i < 0 then -i else i)) H) := rfl
theorem uInt_e1 {i : Int} {H : Hp} {Q : VK} : uInt [.int i] H Q = (Q (.int i) H) := rfl
theorem uInt_e2 {k : Bool} {H : Hp} {Q : VK} : uInt [.bl k] H Q = (Q (.int (if k then 1 else 0)) H) := rfl
theorem uMin2_e1 {i : Int} {j : Int} {H : Hp} {Q : VK} : uMin2 [.int i, .int j] H Q = (Q (.int (if j < i then j else i)) H) := rfl
theorem uIsi_e1 {K : Frag} {n : String} {H : Hp} {Q : VK} : uIsi K [.non, .ty n] H Q = (isOk "NoneType" n = true ∧ Q (.bl (isK "NoneType" n)) H) := rfl
theorem uIsi_e2 {K : Frag} {w1 : Bool} {n : String} {H : Hp} {Q : VK} : uIsi K [.bl w1, .ty n] H Q = (isOk "bool" n = true ∧ Q (.bl (isK "bool" n)) H) := rfl
theorem uIsi_e3 {K : Frag} {w1 : Int} {n : String} {H : Hp} {Q : VK} : uIsi K [.int w1, .ty n] H Q = (isOk "int" n = true ∧ Q (.bl (isK "int" n)) H) := rfl
theorem uIsi_e4 {K : Frag} {w1 : Str} {n : String} {H : Hp} {Q : VK} : uIsi K [.str w1, .ty n] H Q = (isOk "str" n = true ∧ Q (.bl (isK "str" n)) H) := rfl
theorem uIsi_e5 {K : Frag} {p : Addr} {n : String} {H : Hp} {Q : VK} : uIsi K [.ref p, .ty n] H Q = (∃ T, TyX K H (.ref p) (.type T) ∧ isOk T n = true ∧ Q (.bl (isK T n)) H) := rfl
theorem cx_K {CX : CXT} {P : Program} {w : World} {K : Frag} {mg : Str → Option Value} {base : Heap} {N : List Str} {qual : Str} {scope : Scope} {f : Addr} {cd : Value} {A : Around} {outer : List Env} {s : Shared} {H : Hp} {E : XK} : (cxOf CX P w K mg base N qual scope f cd A outer s H E).K = K := rfl
theorem uVar_s {i : Nat} {σ : L2.St} {H : Hp} {Q : VK} {v : V} (h : σ[i]? = some (some v)) : uVar i σ H Q = Q v H := by unfold uVar; rw [h]
theorem uVar_0 {a : V} {l : L2.St} {H : Hp} {Q : VK} : uVar 0 (some a :: l) H Q = Q a H := rfl
theorem uVar_n {i : Nat} {a : Option V} {l : L2.St} {H : Hp} {Q : VK} : uVar (i + 1) (a :: l) H Q = uVar i l H Q := rfl
end KW

set_option Elab.async false
set_option linter.all false
set_option maxRecDepth 100000
set_option maxHeartbeats 4000000
/-! KErr: own exception classes whose __init__(self, f) says super().__init__(str(f)); self.f = f -/
namespace PySem
namespace KErr
open PySem.W PySem.Calls PyProof.Rows PySem.HandSPX
/-- str(v) is made: some text -/
def StrOk (prog : Program) (w : World) (v : Value) : Prop := ∀ (A : Around) (s : Shared) (Q : Value → Shared → Prop) (E : Value → Shared → Prop), A.handled = none → s.heap.NoDigits → (∀ txt tk k, Q (.str txt tk) { s with toks := k }) → wpAny (model prog w) A (call (.type "str") [v]) Q E s
theorem strOk_int {prog : Program} {w : World} {n : Int} {t : Tok} (h : n.natAbs < 10 ^ 4300) : StrOk prog w (.int n t) := fun A s Q E hh hn q => str_of_int_or hh hn (fun _ => q _ _ _) fun z => absurd h (Nat.not_lt.mpr z)
theorem one_size (v : Value) : [v].length ≤ sizeLine := by
  rw [sizeLine_eq]
  exact (by decide : 1 ≤ 16777216)
theorem kept_but {K : Frag} {h h' : Heap} {x : Addr} (X : K.In h) (hx : K.lookup x = none) (k : ∀ b o, b ≠ x → h.get? b = some o → h'.get? b = some o) : K.In h' := fun a o e =>
  k a o (fun z => by rw [z, hx] at e; cases e) (X a o e)
structure InitEnd (h h' : Heap) (x C dx t1 : Addr) (f : Str) (v : Value) : Prop where
  keep : ∀ b o, b ≠ x → h.get? b = some o → h'.get? b = some o
  obj : h'.get? x = some { cls := .ref C, dict := some dx, data := .fields #[.ref t1, .none, .none, .none, .bool false, .none] }
  dbig : h.objs.size ≤ dx
  dne : dx ≠ x
  ns : h'.Ns1 dx (fun y => if y = f then some v else none)
section
variable {prog : Program} {w : World} {A : Around} {E : Value → Shared → Prop} {h : Heap} {g : Array GenState} {d : Drawn} {t : Nat} {os : OsState}
variable {nm q : Str} {C N : Addr} {bs bm : List Value} {hdct : Bool} {sn : List Str} {sub : List Value} {ab : Bool} {col : Option Bool} {dd : Option Addr} {k0 k1 k2 k3 k5 : Option Value}
theorem init_call {u e t0 : Addr} {rest : List Value} {Q : Value → Shared → Prop}
    (hC : h.get? C = some (excClassObj nm q C N bs bm hdct sn sub ab col dd k0 k1 k2 k3 k5 "ValueError.__new__")) (he : h.get? e = some (excO C t0)) (hu : h.get? u = some (kxs_mw "ValueError.__init__" e)) (hrest : rest.length ≤ sizeLine)
    (hq : ∀ h' t1, (∀ b o, b ≠ e → h.get? b = some o → h'.get? b = some o) → h'.get? e = some (excO C t1) → Q .none ⟨h', g, d, t, os⟩) :
    wpAny (model prog w) A (call (.ref u) rest) Q E ⟨h, g, d, t, os⟩ := by
  have FB := F.excBase_ValueError
  refine wpAny_call (codeAny_of_tree ?_)
  show wpAny _ A.in1 (callAny (.ref u) ⟨rest, []⟩) _ _ _
  simp only [callAny]
  refine wpAny_bind (wpAny_load hu ?_)
  simp only [kxs_mw, show (Value.type "method-wrapper" == Value.type "method" || Value.type "method-wrapper" == Value.type "builtin_function_or_method" || Value.type "method-wrapper" == Value.type "method-wrapper") = true by decide, if_true]
  refine KFB.if_so (by decide) ?_
  refine wpAny_bind (check_bound_init FB.toExcCallFacts hC he rfl ?_)
  refine wpAny_bind (wpAny_pure (wpAny_pure ?_))
  refine ⟨plainId_quiet FB.init.plain _, codeAny_builtin FB.initEntry ?_⟩
  rw [Around.under_plainId FB.init.plain _]
  exact exc_init_tree (cls := .ref C) (t0 := t0) (dv := none) (c2 := .none) (c3 := .none) (b4 := .bool false) he hrest (fun h' k e' _ => hq h' _ k e')
end
/-- a made own error -/
structure OwnMade (h h' : Heap) (e C d : Addr) (fs : List (Str × Value)) : Prop where
  keep : ∀ b o, h.get? b = some o → h'.get? b = some o
  new : h.objs.size ≤ e
  obj : ∃ oe vs, h'.get? e = some oe ∧ oe.cls = .ref C ∧ oe.dict = some d ∧ oe.data = .fields vs ∧ vs[1]? = some .none
  dbig : h.objs.size ≤ d
  dne : d ≠ e
  ns : h'.Ns1 d (fun y => fs.lookup y)
/-- C(us): made, where us are the values of vs and ok vs -/
def Mkd (prog : Program) (w : World) (K : Frag) (mg : Str → Option Value) (C : Addr) (ns : List Str) (ok : List L2.V → Prop) : Prop :=
  ∀ {A : Around} {s : Shared} {R : Result → Shared → Prop} {vs : List L2.V} {us : List Value}, L2.Vals vs us → ok vs → K.In s.heap → s.heap.NoLimit → s.heap.Ns mainGlobals mg → (∃ mb, s.heap.Ns builtinsNs mb ∧ ∀ x : Str, x ≠ "__name__" → mb x = bootBuiltins x) → A.handled = none → A.depth + 1 < recursionLimit →
    (∀ h' tk e d, OwnMade s.heap h' e C d (ns.zip us) → R (.ok (.ret (.ref e))) { s with heap := h', toks := tk }) → codeAny (model prog w) A (.call (.ref C) ⟨us, []⟩) R s
/-- str of the value is some text -/
def okS : L2.V → Prop
  | .int n => n.natAbs < 10 ^ 4300
  | .str _ => True
  | _ => False
theorem strOk_str {prog : Program} {w : World} {x : Str} {t : Tok} : StrOk prog w (.str x t) := fun _ _ _ _ _ _ q => PySem.P.str_of_str (q _ _ _)
theorem okS_ok {prog : Program} {w : World} {v : L2.V} {u : Value} (r : L2.RelV v u) (h : okS v) : StrOk prog w u := by
  cases v <;> simp only [okS] at h
  · obtain ⟨t, rfl⟩ := r
    exact strOk_int h
  · obtain ⟨t, rfl⟩ := r
    exact strOk_str
end KErr
end PySem

set_option Elab.async false
set_option linter.all false
set_option maxRecDepth 100000
set_option maxHeartbeats 4000000
/-! Kw2a: errors at the readings' level: made, raised, caught, asked -/
namespace PySem.W
open PySem PySem.Spec PySem.Calls PyProof.Rows
section
variable {prog : Program} {w : World} {A : Around} {E : Value → Shared → Prop} {s : Shared} {K : Frag} {x D : Addr} {ox : Obj} {od : Option Obj}
theorem kw_findCls {C : Addr} {name : Str} {a g : Value} (hc : (clsIn K C).isSome = true) (ha : findIn K (.ref C) name = some (some a)) (hg : specialIn K a "__get__" = some (some g)) (ht : takesIn K a = some true) : findObj K C od name = some (.bind g a) := by
  obtain ⟨cd, hc⟩ := Option.isSome_iff_exists.mp hc
  unfold findObj
  rw [hc, Option.bind_some, ha, Option.bind_some]
  simp [hg, ht]
/-- the class of an own error, asked by __class__, whatever its own dict holds -/
theorem kw_class {Q : Option Value → Shared → Prop} (C : L2.ExcC K D) (X : K.In s.heap) (I : InstAt s.heap x ox D od) (h : Q (some (.ref D)) { s with toks := s.toks + 1 }) : wpAny (model prog w) A (getAttr? (.ref x) "__class__") Q E s := by
  have hf : findObj K D od "__class__" = some (.bind (.builtin "getset_descriptor.__get__") (.builtin "object.__class__")) := kw_findCls (by obtain ⟨cd, hc, _⟩ := any_some C.hd; rw [hc]; rfl) C.ha C.hn C.ht
  obtain ⟨hp, g, d, t, os⟩ := s
  have L0 := I.type (M := model prog w)
  have L1 := looks_findIn (M := model prog w) X C.hg
  have L2 := looks_findIn (M := model prog w) X C.hk
  have L3 := looks_find (M := model prog w) X I hf
  have sub : Looks (model prog w) hp (isInstance (.ref x) (.type "BaseException")) true := L0.andThen (looks_subIn X C.hs)
  have hx2 : (Value.builtin "BaseException.__getattribute__" == Value.builtin "object.__getattribute__") = false := by decide +kernel
  have hx1 : (onTheHeap (Value.ref D) && Value.builtin "BaseException.__getattribute__" == Value.builtin "object.__getattribute__") = false := by rw [hx2]; rfl
  have hx0 : (false && onTheHeap (Value.builtin "BaseException.__getattribute__")) = false := rfl
  unfold getAttr? getAttrBy? getAttrBy
  refine wpAny_bind (wpAny_mkText (wpAny_bind (wpAny_attempt (wpAny_holding (wpAny_bind (L0.at (wpAny_bind (L1.at ?_))))))))
  show wpAny _ _ (if (onTheHeap (Value.ref D) && Value.builtin "BaseException.__getattribute__" == Value.builtin "object.__getattribute__") = true then _ else _) _ _ _
  rw [hx1, if_neg Bool.false_ne_true]
  unfold getAttrByItsOwn hookBefore
  refine wpAny_bind ?_
  rw [if_pos (show onTheHeap (Value.ref D) = true from rfl)]
  refine L2.at ?_
  refine wpAny_bind (wpAny_attempt (wpAny_holding ?_))
  unfold callGetattribute
  rw [hx0, if_neg Bool.false_ne_true]
  unfold boundAndCalled
  rw [PySem.F.excAttr_ValueError.ga.bind (.ref x)]
  refine wpAny_bind (wpAny_pure ?_)
  refine wpAny_call (codeAny_call_builtin PySem.F.excAttr_ValueError.ga.plain PySem.F.entry_bexc_ga ?_)
  refine @check_slot (model prog w) _ _ ⟨hp, g, d, t + 1, os⟩ "BaseException.__getattribute__" "BaseException" "__getattribute__" (.ref x) [.str "__class__" t] [] _ (by decide +kernel) (by decide +kernel) sub (PySem.F.args_bexc_ga (.ref x) (.str "__class__" t)) ?_
  unfold Builtin.«object.__getattribute__»
  refine wpAny_bind (wpAny_of_eq (a := ((Value.ref x : Value), [Value.str "__class__" t])) (by first | rfl | (simp only [slotArgs]; rfl)) ?_)
  refine wpAny_bind (wpAny_pure (wpAny_bind (L0.at (wpAny_bind (L3.at ?_)))))
  refine wpAny_bind (wpAny_holding (wpAny_call (class_get (s := ⟨hp, g, d, t + 1, os⟩) (ox := ox) (od := od) X I C.hm ?_)))
  refine wpAny_pure ?_
  show wpAny _ _ (handedOut (.ref D)) _ _ _
  rw [handedOut_of (v := .ref D) rfl]
  first
    | exact wpAny_pure (wpAny_pure h)
    | exact wpAny_pure h
    | exact wpAny_pure (wpAny_bind (wpAny_pure (wpAny_pure h)))
theorem kw_kitx (C : L2.ExcC K D) : KitX K (.ref x) (.ref D) (fun h => InstAt h x ox D od) where
  ty := fun _ _ _ I => I.type
  it := fun _ _ X _ => by
    obtain ⟨cdD, hcD, _⟩ := any_some C.hd
    unfold clsIn at hcD
    split at hcD
    · rename_i c' d' cd' sl' ho
      intro A' Q' E' s' k q
      unfold isType loadHead
      exact wpAny_bind (wpAny_loadPart (k _ _ (X _ _ ho)) (wpAny_pure q))
    · cases hcD
  ne := fun h tp dd its n sl X htp => by
    obtain ⟨cdD, hcD, _⟩ := any_some C.hd
    refine Bool.eq_false_iff.mpr fun q => ?_
    have e : D = tp := Value.ref.inj (beq_iff_eq.mp q)
    subst e
    unfold clsIn at hcD
    split at hcD
    · rename_i c' d' cd' sl' ho
      have z := (X _ _ ho).symm.trans htp
      cases z
    · cases hcD
  ca := fun X I k => kw_class C X I k
end
end PySem.W
namespace KW
open PySem PySem.Spec PyProof.Rows L2
/-- an own error class of the text: x its name, C its place, ns its fields, ok what its arguments must be -/
structure ErrC (P : Program) (w : World) (K : Frag) (mg : Str → Option Value) (x : Str) (C : Addr) (ns : List Str) (ok : List V → Prop) : Prop where
  gC : mg x = some (.ref C)
  made : PySem.KErr.Mkd P w K mg C ns ok
  kC : PySem.W.keepIn K (.ref C) = true
  exC : PySem.W.subIn K (.ref C) (.type "BaseException") = some true
  tyC : PySem.W.typeIn K (.ref C) = some (.type "type")
  xf : XfC K C
  is : ExcC K C
  no : ∀ f ∈ ns, PySem.W.findIn K (.ref C) f = some none
section
variable {X : Cx} {x : Str} {C : Addr} {ns : List Str} {ok : List V → Prop}
theorem relO_zip : ∀ {ns : List Str} {vs : List V} {us : List Value}, Vals vs us → ∀ f, RelO (List.lookup f (ns.zip vs)) (List.lookup f (ns.zip us))
  | [], _, _, _, f => by simp [List.lookup, RelO]
  | n :: ns, _, _, .nil, f => by simp [List.lookup, RelO]
  | n :: ns, _, _, .cons r rs, f => by
    rw [List.zip_cons_cons, List.zip_cons_cons]
    by_cases h : f = n
    · subst h
      simp only [List.lookup, beq_self_eq_true]
      exact r
    · have q : (f == n) = false := by simpa using h
      simp only [List.lookup, q]
      exact relO_zip rs f
/-- x(args): the error made -/
def uMk (C : Addr) (ns : List Str) (ok : List V → Prop) (t : TA) : L2.St → Hp → XK → Prop := fun σ H Q => t σ H fun vs H1 => ok vs ∧ ∀ d, H1 d = none → Q (.ref C) (some d) (upd H1 d (.xd (ns.zip vs)))
theorem k_mk {e : Expr} {es : List Expr} {t : TA} {p pos : Pos} {k : Nat} (T : ErrC X.prog X.w X.K X.mg x C ns ok) (hr : Room k X.A) (ha : PA X (e :: es) t) (hg : Gl X x := by rfl) (hdb : (x == ("__debug__" : Str)) = false := by decide)
    (he : starEach (e :: es) X.env = (false, eval e X.env) :: starEach es X.env := by rfl) (hpl : (backTo pos (starEach es X.env)).any (·.1) = false := by rfl) : PMk X (.Call (.Name x p) (e :: es) [] pos) (uMk C ns ok t) := by
  intro pins s σ H Q I h
  refine wpAny_Call_Name_kw (ld_glob I hg T.gC ?_ hdb)
  refine PySem.W.callWith_K (h₀ := X.base) I.ok.mod.kin T.kC (thn (ha.run pos pins s σ H _ I h) fun us s1 hh => ?_) he hpl
  obtain ⟨vs, H1, I1, r1, okv, q1⟩ := hh
  refine ⟨I1.kIn, ?_⟩
  show wpAny _ _ (call (.ref C) us) _ _ _
  have hlim := I1.nolimit
  have G := I1.mod.glob.keeps I1.bk
  have B : ∃ mb, s1.heap.Ns builtinsNs mb ∧ ∀ x : Str, x ≠ "__name__" → mb x = bootBuiltins x := by
    obtain ⟨mb, h1, h2⟩ := I1.mod.blt
    exact ⟨mb, h1.keeps I1.bk, h2⟩
  obtain ⟨hp, g, dr, tk, os⟩ := s1
  refine wpAny_call (T.made r1 okv I1.kIn hlim G B (by exact hr.hd) (by show X.A.depth + 1 < _; have := hr.dp; omega) fun h' tk' e d M => ?_)
  show MkP X pins σ Q (.ref e) ⟨h', g, dr, tk', os⟩
  obtain ⟨oe, fv, hoe, hc, hd, hdat, h1⟩ := M.obj
  have hns := M.ns
  obtain ⟨G', g1, g2⟩ := restrict h' fun b => decide (b ≠ e)
  have gk : ∀ b, b ≠ e → G'.get? b = h'.get? b := fun b hb => g1 b (decide_eq_true hb)
  have ge : G'.get? e = none := g2 e (by simp)
  have old : ∀ b o, hp.get? b = some o → G'.get? b = some o := fun b o q => (gk b (Nat.ne_of_lt (Nat.lt_of_lt_of_le (Heap.lt_size q) M.new))).trans (M.keep b o q)
  have ob : ObjOk X.prog X.w (upd H1 d (.xd (ns.zip vs))) G' d (.xd (ns.zip vs)) := ⟨_, hns.at (fun o q => (gk d M.dne).trans q), fun f => relO_zip r1 f⟩
  have J : Inv X pins σ (upd H1 d (.xd (ns.zip vs))) ⟨G', g, dr, tk', os⟩ := I1.laid (t' := tk') old M.dbig ob
  refine ⟨e, oe, fv, ⟨G', g, dr, tk', os⟩, _, .ref C, some d, rfl, J, fun b o q => ?_, ge, hoe, ⟨hc, hd⟩, hdat, h1, ?_, rfl, I1.bare, raises_own T.exC T.tyC, q1 d (I1.hok.fresh M.dbig)⟩
  · by_cases hb : b = e
    · have q' : G'.get? b = some o := q
      rw [hb, ge] at q'; cases q'
    · exact (gk b hb).symm.trans q
  · rw [upd_ne (Ne.symm M.dne)]
    exact I1.hok.fresh M.new
/-- raise x(..) -/
def uRaise (W : WX) (t : L2.St → Hp → XK → Prop) : TS := fun _ σ H => t σ H fun cls d H' => W cls d σ H'
theorem k_raise {W : WX} {e : Expr} {t : L2.St → Hp → XK → Prop} {pos : Pos} (tk : Takes X W) (he : PMk X e t) (hc : X.calm = true := by rfl) : PS X (.Raise (some e) none pos) (uRaise W t) := ps_raise hc tk he
/-- what does not come about -/
def uDead : TE := fun _ _ _ => False
def sDead : TS := fun _ _ _ => False
theorem k_dead {e : Expr} : PE X e uDead := ⟨fun _ _ _ _ _ _ h => h.elim⟩
theorem k_deadS {st : Stmt} : PS X st sDead := ⟨fun _ _ _ _ _ _ h => h.elim⟩
/-- e.f in the suite that holds e -/
def uEf (K : Frag) (a : Addr) (cls : Value) (d : Option Addr) (i : Nat) (f : Str) : TE := fun σ H Q => ∃ (C dd : Addr) (fs : List (Str × V)) (v : V), σ[i]? = some (some (.ref a)) ∧ cls = .ref C ∧ XfC K C ∧ PySem.W.findIn K (.ref C) f = some none ∧ d = some dd ∧ H dd = some (.xd fs) ∧ fs.lookup f = some v ∧ Q v H
theorem k_ef (i : Nat) {a : Addr} {oe : Obj} {cls : Value} {d : Option Addr} {pn : List (Addr × Obj)} {n f : Str} {p pos : Pos} (hz : Zc cls d oe) (hf : ∃ vs, oe.data = .fields vs) (hN : X.N[i]? = some n := by rfl)
    (hv : Vis X.env.scope n := by first | exact Or.inl rfl | exact Or.inr (Or.inl rfl) | exact Or.inr (Or.inr rfl)) (hd : (n == ("__debug__" : Str)) = false := by decide) (hcd : (n == ("__classdict__" : Str)) = false := by decide)
    (hb : attributeBase (.Name n p) f X.env (eval (.Name n p) X.env) = eval (.Name n p) X.env := by rfl) : PE (X.suite a ((a, oe) :: pn)) (.Attribute (.Name n p) f pos) (uEf X.K a cls d i f) := by
  refine ⟨fun pins s σ H Q I h => ?_⟩
  obtain ⟨C, dd, fs, v, e0, e1, xf, no, e2, e3, e4, q⟩ := h
  exact (pe_xf (X := X) xf no hz hf (pe_var (X := X.suite a ((a, oe) :: pn)) hN hv hd hcd) hb).run pins s σ H Q I ⟨.ref a, e0, rfl, e1, dd, fs, v, e2, e3, e4, q⟩
/-- isinstance(e, c) in the suite that holds e -/
def uIsE (K : Frag) (a : Addr) (cls : Value) (d : Option Addr) : List V → Hp → VK → Prop
  | [.ref b, .ref c], H, Q => ∃ (D dd : Addr) (fs : List (Str × V)) (r : Bool), b = a ∧ cls = .ref D ∧ ExcC K D ∧ d = some dd ∧ H dd = some (.xd fs) ∧ PySem.W.kitOne K (.ref D) (.ref c) = some r ∧ Q (.bl r) H
  | [.ref b, .ty T], H, Q => ∃ (D dd : Addr) (fs : List (Str × V)) (r : Bool), b = a ∧ cls = .ref D ∧ ExcC K D ∧ d = some dd ∧ H dd = some (.xd fs) ∧ PySem.W.kitOne K (.ref D) (.type T) = some r ∧ Q (.bl r) H
  | _, _, _ => False
theorem c_isE {a : Addr} {oe : Obj} {cls : Value} {d : Option Addr} {pn : List (Addr × Obj)} (hz : Zc cls d oe) (hf : ∃ vs, oe.data = .fields vs) : CallR (X.suite a ((a, oe) :: pn)) (.builtin "isinstance") (uIsE X.K a cls d) := by
  intro pins s σ H xs us Q I r h
  have key : ∀ {D dd : Addr} {fs : List (Str × V)} {cv : Value} {b : Bool}, cls = .ref D → ExcC X.K D → d = some dd → H dd = some (.xd fs) → PySem.W.kitOne X.K (.ref D) cv = some b → Q (.bl b) H →
      wpAny (model X.prog X.w) (X.A.mark (some (.ref a))) (call (.builtin "isinstance") [.ref a, cv]) (EP (X.suite a ((a, oe) :: pn)) pins σ Q) (fun _ _ => False) s := fun {D dd fs cv b} e1 C e2 e3 e4 q => by
    subst e1 e2
    obtain ⟨hget, _⟩ := I.pin (a, oe) (List.mem_append.mpr (.inl List.mem_cons_self))
    obtain ⟨vs, hv⟩ := hf
    obtain ⟨mA, hns, hr⟩ := (show ObjOk X.prog X.w H s.heap dd (.xd fs) from I.hok dd _ e3)
    obtain ⟨od, ho, hl⟩ := lookIn_ns hns
    have J : PySem.W.InstAt s.heap a oe D (some od) := by
      refine ⟨hget, hz.1, by unfold PySem.W.notCls; rw [hv] <;> rfl, ?_⟩
      rw [hz.2]
      exact ho
    exact PySem.W.kia_one (PySem.W.kw_kitx C) I.kIn J e4 (fun z => nomatch z) fun tk => ⟨.bl b, H, I.kept (t' := tk) fun _ _ z => z, rfl, q⟩
  unfold uIsE at h
  split at h
  · obtain ⟨D, dd, fs, b, rfl, e1, C, e2, e3, e4, q⟩ := h
    cases r with
    | cons rx rr =>
      cases rr with
      | cons rt rr =>
        cases rr
        cases rx
        cases rt
        exact key e1 C e2 e3 e4 q
  · obtain ⟨D, dd, fs, b, rfl, e1, C, e2, e3, e4, q⟩ := h
    cases r with
    | cons rx rr =>
      cases rr with
      | cons rt rr =>
        cases rr
        cases rx
        cases rt
        exact key e1 C e2 e3 e4 q
  · exact h.elim
theorem k_isE {a : Addr} {oe : Obj} {cls : Value} {d : Option Addr} {pn : List (Addr × Obj)} {e : Expr} {es : List Expr} {t : TA} {p pos : Pos} (hz : Zc cls d oe) (hf : ∃ vs, oe.data = .fields vs) (hm : X.mg "isinstance" = none) (ha : PA (X.suite a ((a, oe) :: pn)) (e :: es) t) (hg : Gl X "isinstance" := by rfl)
    (he : starEach (e :: es) X.env = (false, eval e X.env) :: starEach es X.env := by rfl) (hpl : (backTo pos (starEach es X.env)).any (·.1) = false := by rfl) : PE (X.suite a ((a, oe) :: pn)) (.Call (.Name "isinstance" p) (e :: es) [] pos) (tCB (uIsE X.K a cls d) t) :=
  pe_callB (c_isE hz hf) hg hm (by decide +kernel) ha (by decide) (by decide) he hpl
end
end KW

set_option Elab.async false
set_option linter.all false
set_option maxRecDepth 100000
set_option maxHeartbeats 4000000
/-! Kw2b: instances of plain classes: made, their fields and methods -/
namespace KW
open PySem PySem.Spec PyProof.Rows L2
/-- a plain class of the text and the names of its fields -/
structure ClsA (K : Frag) (mg : Str → Option Value) (x : Str) (C : Addr) (ns : List Str) : Prop where
  gC : mg x = some (.ref C)
  cls : Cls K C
  no : ∀ f ∈ ns, NoAttr K C f
/-- e.f -/
def uGet (K : Frag) (f : Str) : V → Hp → VK → Prop
  | .ref a, H, Q => ∃ C dx fs v, H a = some (.ins C dx fs) ∧ Cls K C ∧ NoAttr K C f ∧ fs.lookup f = some v ∧ Q v H
  | _, _, _ => False
def uFld (K : Frag) (t : TE) (f : Str) : TE := fun σ H Q => t σ H fun x H1 => uGet K f x H1 Q
section
variable {X : Cx}
theorem k_fld {e : Expr} {t : TE} {f : Str} {pos : Pos} (he : PE X e t) (hb : attributeBase e f X.env (eval e X.env) = eval e X.env) : PE X (.Attribute e f pos) (uFld X.K t f) := by
  refine PEw (pe_fld (PEw he (t' := fun σ H Q => t σ H Q) fun _ _ _ h => h) hb) fun σ H Q h => ?_
  unfold uFld at h
  unfold tFld
  have e : (fun x H1 => uGet X.K f x H1 Q) = fun x H1 => ∃ a C dx fs v, x = .ref a ∧ H1 a = some (.ins C dx fs) ∧ Cls X.K C ∧ NoAttr X.K C f ∧ fs.lookup f = some v ∧ Q v H1 := by
    funext x H1
    cases x <;> simp only [uGet, eq_iff_iff] <;> first
      | exact ⟨False.elim, fun ⟨_, _, _, _, _, z, _⟩ => nomatch z⟩
      | (rename_i p
         exact ⟨fun ⟨C, dx, fs, v, h⟩ => ⟨p, C, dx, fs, v, rfl, h⟩, fun ⟨a, C, dx, fs, v, z, h⟩ => by cases z; exact ⟨C, dx, fs, v, h⟩⟩)
  rw [e] at h
  exact h
/-- o.f = v -/
def uPut (K : Frag) (f : Str) : V → V → Hp → (Hp → Prop) → Prop
  | .ref a, y, H, Q => ∃ C dx fs, H a = some (.ins C dx fs) ∧ Cls K C ∧ NoAttr K C f ∧ fs.length < 1000 ∧ Q (upd H a (.ins C dx (putF f y fs)))
  | _, _, _, _ => False
def uSFld (K : Frag) (ta tv : TE) (f : Str) : TS := fun D σ H => tv σ H fun y H1 => ta σ H1 fun x H2 => uPut K f x y H2 fun H3 => D.nx σ H3
theorem k_sfld {o value : Expr} {ta tv : TE} {f : Str} {pos' pos : Pos} (ha : PE X o ta) (hv : PE X value tv) (hs : swapsWith value (some (.Attribute o f pos')) pos.line X.env = pure false) : PS X (.Assign [.Attribute o f pos'] value pos) (uSFld X.K ta tv f) := by
  refine PSw (ps_fld ha hv hs) fun D σ H h => ?_
  unfold uSFld at h
  unfold sFld
  have e : (fun (y : V) (H1 : Hp) => ta σ H1 fun x H2 => uPut X.K f x y H2 fun H3 => D.nx σ H3) = fun y H1 => ta σ H1 fun x H2 => ∃ a C dx fs, x = .ref a ∧ H2 a = some (.ins C dx fs) ∧ Cls X.K C ∧ NoAttr X.K C f ∧ fs.length < 1000 ∧ D.nx σ (upd H2 a (.ins C dx (putF f y fs))) := by
    funext y H1
    refine congrArg (ta σ H1) ?_
    funext x H2
    cases x <;> simp only [uPut, eq_iff_iff] <;> first
      | exact ⟨False.elim, fun ⟨_, _, _, _, z, _⟩ => nomatch z⟩
      | (rename_i p
         exact ⟨fun ⟨C, dx, fs, h⟩ => ⟨p, C, dx, fs, rfl, h⟩, fun ⟨a, C, dx, fs, z, h⟩ => by cases z; exact ⟨C, dx, fs, h⟩⟩)
  rw [e] at h
  exact h
end
section
variable {K : Frag} {mg : Str → Option Value} {x f : Str} {C a dx : Addr} {ns : List Str} {fs fs' : List (Str × V)} {v y : V} {H : Hp}
theorem get_l {Q : VK} (h : H a = some (.ins C dx fs)) (c : ClsA K mg x C ns) (m : f ∈ ns) (l : fs.lookup f = some v) (q : Q v H) : uGet K f (.ref a) H Q := ⟨C, dx, fs, v, h, c.cls, c.no f m, l, q⟩
theorem put_l {Q : Hp → Prop} (h : H a = some (.ins C dx fs)) (c : ClsA K mg x C ns) (m : f ∈ ns) (z : fs.length < 1000) (q : Q (upd H a (.ins C dx (putF f y fs)))) : uPut K f (.ref a) y H Q := ⟨C, dx, fs, h, c.cls, c.no f m, z, q⟩
end
/-! ### methods -/
/-- a def at f: ps its parameters, dvs its defaults -/
structure DfnAt (K : Frag) (x qual : Str) (st : Stmt) (ps : List Str) (dvs : List V) (f : Addr) : Prop where
  ex : ∃ fd, FunD K x qual (defArgs st) (defBody st) (defScope st) dvs [] f fd ∧ ∀ j, j ≤ dvs.length → ∃ ds, Vals (dvs.drop j) ds ∧ Binds K fd ps ds
/-- the method m of the class C -/
structure MetAt (K : Frag) (C : Addr) (m qual : Str) (st : Stmt) (ps : List Str) : Prop where
  ex : ∃ f, Meth K C m f ∧ DfnAt K m qual st ps [] f
/-- the __init__ of the class x at C -/
structure IniAt (K : Frag) (C : Addr) (qual : Str) (st : Stmt) (ps : List Str) (dvs : List V) : Prop where
  ex : ∃ f, Mk K C f ∧ DfnAt K "__init__" qual st ps dvs f
structure CalM (P : Program) (w : World) (K : Frag) (mg : Str → Option Value) (base : Heap) (k : Nat) (C : Addr) (m : Str) (sp : Sp) : Prop where
  cls : Cls K C
  ex : ∃ (f : Addr) (fd : FuncData) (ps : List Str), Meth K C m f ∧ Binds K fd ps [] ∧ FnOk P w K mg base (L2.CX P w) k f fd ps sp
structure CalI (P : Program) (w : World) (K : Frag) (mg : Str → Option Value) (base : Heap) (k : Nat) (x : Str) (C : Addr) (dvs : List V) (sp : Sp) : Prop where
  ex : mg x = some (.ref C) ∧ ∃ (f : Addr) (fd : FuncData) (ps : List Str), Mk K C f ∧ FnOk P w K mg base (L2.CX P w) k f fd ps sp ∧ ∀ j, j ≤ dvs.length → ∃ ds, Vals (dvs.drop j) ds ∧ Binds K fd ps ds
section
variable {P : Program} {w : World} {K : Frag} {mg : Str → Option Value} {base : Heap}
theorem DfnAt.fn {x qual : Str} {st : Stmt} {N ps : List Str} {dvs : List V} {f : Addr} {k : Nat} {sp : Sp} (D : DfnAt K x qual st ps dvs f) (S : FnScope N ps (defScope st)) (len : ∀ vs H Q E, sp vs H Q E → vs.length = ps.length)
    (hbody : ∀ (f : Addr) (cdv : Value) (A : Around) (outer : List Env) (s : Shared) (H : Hp) (vs : List V) (Q : VK) (E : XK), Room k (A.deeper (envOfC qual (defScope st) s.heap.objs.size f cdv)) → sp vs H Q E →
      ∃ t, PSs (cxOf (L2.CX P w) P w K mg base N qual (defScope st) f cdv A outer s H E) (defBody st) t ∧ t { nx := fun _ H' => Q .non H', rt := Q } (start N vs) H) :
    ∃ fd, FnOk P w K mg base (L2.CX P w) (k + 1) f fd ps sp ∧ ∀ j, j ≤ dvs.length → ∃ ds, Vals (dvs.drop j) ds ∧ Binds K fd ps ds := by
  obtain ⟨fd, F, hb⟩ := D.ex
  exact ⟨fd, F.ok S len fun cdv A outer s H vs Q E hr hsp => hbody f cdv A outer s H vs Q E hr hsp, hb⟩
theorem MetAt.ok {C : Addr} {m qual : Str} {st : Stmt} {N ps : List Str} {k : Nat} {sp : Sp} (D : MetAt K C m qual st ps) (c : Cls K C) (S : FnScope N ps (defScope st)) (len : ∀ vs H Q E, sp vs H Q E → vs.length = ps.length)
    (hbody : ∀ (f : Addr) (cdv : Value) (A : Around) (outer : List Env) (s : Shared) (H : Hp) (vs : List V) (Q : VK) (E : XK), Room k (A.deeper (envOfC qual (defScope st) s.heap.objs.size f cdv)) → sp vs H Q E →
      ∃ t, PSs (cxOf (L2.CX P w) P w K mg base N qual (defScope st) f cdv A outer s H E) (defBody st) t ∧ t { nx := fun _ H' => Q .non H', rt := Q } (start N vs) H) : CalM P w K mg base (k + 1) C m sp := by
  obtain ⟨f, M, D⟩ := D.ex
  obtain ⟨fd, F, hb⟩ := D.fn S len hbody
  obtain ⟨ds, hd, b⟩ := hb 0 (Nat.le_refl _)
  cases hd
  exact ⟨c, f, fd, ps, M, b, F⟩
theorem IniAt.ok {x : Str} {C : Addr} {qual : Str} {st : Stmt} {N ps : List Str} {dvs : List V} {k : Nat} {sp : Sp} (D : IniAt K C qual st ps dvs) (g : mg x = some (.ref C)) (S : FnScope N ps (defScope st)) (len : ∀ vs H Q E, sp vs H Q E → vs.length = ps.length)
    (hbody : ∀ (f : Addr) (cdv : Value) (A : Around) (outer : List Env) (s : Shared) (H : Hp) (vs : List V) (Q : VK) (E : XK), Room k (A.deeper (envOfC qual (defScope st) s.heap.objs.size f cdv)) → sp vs H Q E →
      ∃ t, PSs (cxOf (L2.CX P w) P w K mg base N qual (defScope st) f cdv A outer s H E) (defBody st) t ∧ t { nx := fun _ H' => Q .non H', rt := Q } (start N vs) H) : CalI P w K mg base (k + 1) x C dvs sp := by
  obtain ⟨f, M, D⟩ := D.ex
  obtain ⟨fd, F, hb⟩ := D.fn S len hbody
  exact ⟨g, f, fd, ps, M, F, hb⟩
end
/-- o.m(args): what it may let out is taken at the slots as they stand -/
def uMet (C : Addr) (m : Str) (sp : Sp) (E : L2.St → XK) (ta : TE) (t : TA) : TE := fun σ H Q => ta σ H fun x H1 => uMt C m sp (E σ) t σ x H1 Q
where uMt (C : Addr) (m : Str) (sp : Sp) (E : XK) (t : TA) (σ : L2.St) : V → Hp → VK → Prop
  | .ref a, H1, Q => ∃ dx fs, H1 a = some (.ins C dx fs) ∧ fs.lookup m = none ∧ t σ H1 fun vs H2 => sp (.ref a :: vs) H2 Q E
  | _, _, _ => False
section
variable {X : Cx} {k : Nat} {C : Addr} {m x : Str} {sp : Sp} {o e : Expr} {es : List Expr} {ta : TE} {t : TA} {apos p pos : Pos} {pl : Sem Bool}
theorem uMt_of {E : XK} {σ : L2.St} {x : V} {H : Hp} {Q : VK} (h : uMet.uMt C m sp E t σ x H Q) : ∃ a dx fs, x = .ref a ∧ H a = some (.ins C dx fs) ∧ fs.lookup m = none ∧ t σ H fun vs H2 => sp (.ref a :: vs) H2 Q E := by
  cases x with
  | ref a => obtain ⟨dx, fs, h⟩ := h; exact ⟨a, dx, fs, rfl, h⟩
  | _ => exact False.elim h
theorem km_of {E : L2.St → XK} (hx : ∀ σ, PassesAt (L2.CX X.prog X.w) X σ (E σ)) (c : CalM X.prog X.w X.K X.mg X.base k C m sp) (hr : Room k X.A) (he : PE X o ta) (ha : PA X (e :: es) t)
    (hst : starEach (e :: es) X.env = (false, eval e X.env) :: starEach es X.env) (hpl : (backTo pos (starEach es X.env)).any (·.1) = false)
    (ht : eval (.Call (.Attribute o m apos) (e :: es) [] pos) X.env = (do
      let ov ← eval o X.env
      standAt apos.atName
      let (f, first) ← holding [ov] (getMethod ov m pl)
      callWith pos f first (backTo pos (starEach (e :: es) X.env)) (backToKw pos (keywordEach [] X.env)))) :
    PE X (.Call (.Attribute o m apos) (e :: es) [] pos) (uMet C m sp E ta t) := by
  obtain ⟨cl, f, fd, ps, hm, hb, F⟩ := c
  refine ⟨fun pins s σ H Q I h => ?_⟩
  refine PySem.W.methodCall_KW (pl := pl) (thn (he.run pins s σ H _ I h) fun u s1 ⟨x, H1, I1, rx, hu⟩ => ?_) ht
  obtain ⟨a, dx, fs, ex, ea, l, q⟩ := uMt_of hu
  subst ex
  obtain rfl : u = Value.ref a := rx
  refine getmeth_ok I1 ea cl hm l ?_
  refine PySem.W.callWith_K (h₀ := X.base) I.ok.mod.kin hm.kp (thn (ha.run pos pins s1 σ H1 _ I1 q) fun us s2 ⟨vs, H2, I2, r, q2⟩ => ⟨I2.kIn, ?_⟩) hst hpl
  exact run_fnS (us := .ref a :: us) (vs := .ref a :: vs) F hr hb (hx σ) I2 (.cons rfl r) q2
theorem km0_of {E : L2.St → XK} (hx : ∀ σ, PassesAt (L2.CX X.prog X.w) X σ (E σ)) (c : CalM X.prog X.w X.K X.mg X.base k C m sp) (hr : Room k X.A) (he : PE X o ta)
    (ht : eval (.Call (.Attribute o m apos) [] [] pos) X.env = (do
      let ov ← eval o X.env
      standAt apos.atName
      let (f, first) ← holding [ov] (getMethod ov m pl)
      callWith pos f first (backTo pos (starEach [] X.env)) (backToKw pos (keywordEach [] X.env)))) :
    PE X (.Call (.Attribute o m apos) [] [] pos) (uMet C m sp E ta tNil) := by
  obtain ⟨cl, f, fd, ps, hm, hb, F⟩ := c
  refine ⟨fun pins s σ H Q I h => ?_⟩
  refine PySem.W.methodCall_KW (pl := pl) (thn (he.run pins s σ H _ I h) fun u s1 ⟨x, H1, I1, rx, hu⟩ => ?_) ht
  obtain ⟨a, dx, fs, ex, ea, l, q⟩ := uMt_of hu
  subst ex
  obtain rfl : u = Value.ref a := rx
  refine getmeth_ok I1 ea cl hm l ?_
  exact PySem.W.callWith_K0 (first := [.ref a]) I1.kIn hm.kp (run_fnS (us := [.ref a]) (vs := [.ref a]) F hr hb (hx σ) I1 (.cons rfl .nil) q)
theorem km (c : CalM X.prog X.w X.K X.mg X.base k C m sp) (hr : Room k X.A) (he : PE X o ta) (ha : PA X (e :: es) t)
    (hst : starEach (e :: es) X.env = (false, eval e X.env) :: starEach es X.env := by rfl) (hpl : (backTo pos (starEach es X.env)).any (·.1) = false := by rfl)
    (ht : eval (.Call (.Attribute o m apos) (e :: es) [] pos) X.env = (do
      let ov ← eval o X.env
      standAt apos.atName
      let (f, first) ← holding [ov] (getMethod ov m pl)
      callWith pos f first (backTo pos (starEach (e :: es) X.env)) (backToKw pos (keywordEach [] X.env))) := by rfl) :
    PE X (.Call (.Attribute o m apos) (e :: es) [] pos) (uMet C m sp (fun _ => E0) ta t) := km_of (fun _ => passAt0) c hr he ha hst hpl ht
theorem km0 (c : CalM X.prog X.w X.K X.mg X.base k C m sp) (hr : Room k X.A) (he : PE X o ta)
    (ht : eval (.Call (.Attribute o m apos) [] [] pos) X.env = (do
      let ov ← eval o X.env
      standAt apos.atName
      let (f, first) ← holding [ov] (getMethod ov m pl)
      callWith pos f first (backTo pos (starEach [] X.env)) (backToKw pos (keywordEach [] X.env))) := by rfl) :
    PE X (.Call (.Attribute o m apos) [] [] pos) (uMet C m sp (fun _ => E0) ta tNil) := km0_of (fun _ => passAt0) c hr he ht
theorem kmX {W : WX} (tk : Takes X W) (c : CalM X.prog X.w X.K X.mg X.base k C m sp) (hr : Room k X.A) (he : PE X o ta) (ha : PA X (e :: es) t)
    (hst : starEach (e :: es) X.env = (false, eval e X.env) :: starEach es X.env := by rfl) (hpl : (backTo pos (starEach es X.env)).any (·.1) = false := by rfl)
    (ht : eval (.Call (.Attribute o m apos) (e :: es) [] pos) X.env = (do
      let ov ← eval o X.env
      standAt apos.atName
      let (f, first) ← holding [ov] (getMethod ov m pl)
      callWith pos f first (backTo pos (starEach (e :: es) X.env)) (backToKw pos (keywordEach [] X.env))) := by rfl) :
    PE X (.Call (.Attribute o m apos) (e :: es) [] pos) (uMet C m sp (WE W) ta t) := km_of (fun σ => passAt tk σ) c hr he ha hst hpl ht
theorem kmX0 {W : WX} (tk : Takes X W) (c : CalM X.prog X.w X.K X.mg X.base k C m sp) (hr : Room k X.A) (he : PE X o ta)
    (ht : eval (.Call (.Attribute o m apos) [] [] pos) X.env = (do
      let ov ← eval o X.env
      standAt apos.atName
      let (f, first) ← holding [ov] (getMethod ov m pl)
      callWith pos f first (backTo pos (starEach [] X.env)) (backToKw pos (keywordEach [] X.env))) := by rfl) :
    PE X (.Call (.Attribute o m apos) [] [] pos) (uMet C m sp (WE W) ta tNil) := km0_of (fun σ => passAt tk σ) c hr he ht
theorem met_l {E : XK} {a dx : Addr} {fs : List (Str × V)} {σ : L2.St} {H : Hp} {Q : VK} (h : H a = some (.ins C dx fs)) (l : fs.lookup m = none) (q : t σ H fun vs H2 => sp (.ref a :: vs) H2 Q E) : uMet.uMt C m sp E t σ (.ref a) H Q := ⟨dx, fs, h, l, q⟩
/-- x(args): an instance made; the last defaults fill up -/
def uMake (C : Addr) (sp : Sp) (dvs : List V) (t : TA) : TE := fun σ H Q => t σ H fun vs H1 => ∀ x dx, H1 x = none → H1 dx = none → dx ≠ x → sp (.ref x :: (vs ++ dvs)) (upd (upd H1 dx (.own x)) x (.ins C dx [])) (fun v H2 => v = .non ∧ Q (.ref x) H2) E0
theorem pass0 : Passes (L2.CX X.prog X.w) X E0 := fun _ _ _ _ _ _ _ h => by
  obtain ⟨_, _, _, _, _, _, _, _, _, _, _, _, z⟩ := h
  exact z.elim
theorem kmk {dvs : List V} (j : Nat) (c : CalI X.prog X.w X.K X.mg X.base k x C dvs sp) (hr : Room (k + 1) X.A) (ha : PA X (e :: es) t) (hj : j ≤ dvs.length := by decide) (hg : Gl X x := by rfl) (hdb : (x == ("__debug__" : Str)) = false := by decide)
    (he : starEach (e :: es) X.env = (false, eval e X.env) :: starEach es X.env := by rfl) (hpl : (backTo pos (starEach es X.env)).any (·.1) = false := by rfl) : PE X (.Call (.Name x p) (e :: es) [] pos) (uMake C sp (dvs.drop j) t) := by
  obtain ⟨hm, f, fd, ps, M, F, hb⟩ := c
  obtain ⟨ds, hd, b⟩ := hb j hj
  exact pe_make M F hr hg hm b hd pass0 ha hdb he hpl
theorem kmk0 {dvs : List V} (c : CalI X.prog X.w X.K X.mg X.base k x C dvs sp) (hr : Room (k + 1) X.A) (hg : Gl X x := by rfl) (hdb : (x == ("__debug__" : Str)) = false := by decide) : PE X (.Call (.Name x p) [] [] pos) (uMake C sp dvs tNil) := by
  obtain ⟨hm, f, fd, ps, M, F, hb⟩ := c
  obtain ⟨ds, hd, b⟩ := hb 0 (Nat.zero_le _)
  exact pe_make0 M F hr hg hm b hd pass0 hdb
end
end KW

set_option Elab.async false
set_option linter.all false
set_option maxRecDepth 100000
set_option maxHeartbeats 4000000
/-! Kw2c: del xs[a:] of a list -/
namespace KW
open PySem PySem.Spec PyProof.Rows L2
theorem fm_take {α : Type} (p : Nat → Bool) (a : Nat) : ∀ (l : List α) (j : Nat), (∀ k, j ≤ k → k < j + l.length → p k = decide (a ≤ k)) → (l.zipIdx j).filterMap (fun x => if p x.2 = true then none else some x.1) = l.take (a - j)
  | [], j, _ => by simp
  | x :: l, j, h => by
    have h0 := h j (Nat.le_refl _) (by simp)
    have ih := fm_take p a l (j + 1) fun k h1 h2 => h k (by omega) (by simp only [List.length_cons]; omega)
    rw [List.zipIdx_cons, List.filterMap_cons]
    by_cases c : a ≤ j
    · simp only [h0, c, decide_true, if_true]
      rw [ih, show a - j = 0 by omega, show a - (j + 1) = 0 by omega]
      simp
    · simp only [h0, c, decide_false, Bool.false_eq_true, if_false]
      rw [ih, show a - j = (a - (j + 1)) + 1 by omega]
      rfl
section
variable {prog : Program} {w : World} {A : Around} {E : Value → Shared → Prop} {s : Shared}
theorem bounds_from (a n : Nat) : sliceBounds (some (a : Int)) none none n = (((min a n : Nat) : Int), (n : Int), 1) := by
  simp only [sliceBounds, Option.getD_none]
  have h1 : ¬ ((a : Int) < 0) := by omega
  simp only [h1, if_false, show (1 : Int) > 0 by decide, if_true]
  congr 1
  omega
theorem delItem_cut {l sl : Addr} {items : Array Value} {n : Nat} {vl : Value} {a : Nat} {Q : Unit → Shared → Prop}
    (e : s.heap.get? l = some { cls := .type "list", data := .seq items n })
    (hs : s.heap.IsSliceOf sl vl .none .none) (pl : IsPart vl (some (a : Int)))
    (hsz : items.size ≤ sizeLine) (h : ∀ F : Array Value → Array Value, F items = (items.toList.take a).toArray → Q () { s with heap := s.heap.update l (Obj.mapSeq F) }) :
    wpAny (model prog w) A (delItem (.ref l) (.ref sl)) Q E s := by
  have hl : s.heap.IsList l items := PySem.IsL.isList e
  obtain ⟨os, hos, hcs, hds⟩ := id hs
  have hTs : s.TypeIs (.ref sl) "slice" := ⟨os, hos, hcs⟩
  have hstep : ¬ ((rawPart none == rawInt 0) = true) := Bool.false_ne_true
  refine wpAny_delItem_slot hl.typeIs (by decide) PySem.F.slot_list_delitem ?_
  refine wpAny_call_entry PySem.F.slot_list_delitem hl.typeIs PySem.F.entry_list_delitem ?_ (PySem.F.args_list_delitem_2 _ _)
  show wpAny _ _ (Builtin.List.listSubscript? (.ref sl) >>= _) _ _ s
  refine wpAny_bind ?_
  unfold Builtin.List.listSubscript?
  refine wpAny_bind (wpAny_specialOf hTs slice_no_index ?_)
  simp only [Option.isNone_none, if_true]
  refine wpAny_pure ?_
  show wpAny _ _ (typeOf (.ref sl) >>= _) _ _ s
  refine wpAny_bind (wpAny_typeOf hTs ?_)
  first
    | rw [if_neg (by decide)]
    | refine PySem.W.KFB.if_not (by decide) ?_
  rw [listSliceParts_eq]
  refine wpAny_bind (wpAny_bind (wpAny_field hos hds (x := .none) rfl (wpAny_bind (wpAny_listPart .none ?_))))
  rw [if_neg hstep]
  refine wpAny_bind (wpAny_field hos hds (x := vl) rfl (wpAny_bind (wpAny_listPart pl ?_)))
  refine wpAny_bind (wpAny_field hos hds (x := .none) rfl (wpAny_bind (wpAny_listPart .none (wpAny_pure ?_))))
  unfold Builtin.List.listItems
  refine wpAny_bind (wpAny_bind (wpAny_seqItems e rfl (wpAny_pure ?_)))
  refine wpAny_bind (wpAny_of_eq ((sliceIndices_raw (some (a : Int)) none none items.size (by simp)).trans (congrArg (pure : Int × Int × Int → Sem (Int × Int × Int)) (bounds_from a items.size))) ?_)
  refine wpAny_bind (wpAny_rule ?_)
  have key : ∀ (p : Nat → Bool), (∀ k, k < items.size → p k = decide (a ≤ k)) → (List.filterMap (fun x : Value × Nat => if p x.2 = true then none else some x.1) items.toList.zipIdx).toArray = (items.toList.take a).toArray := fun p hp => by
    rw [fm_take p a items.toList 0 fun k _ h2 => hp k (by rw [Array.length_toList] at h2; omega)]
    rfl
  refine wpAny_bind (m := Builtin.List.listUpdate (.ref l) _) ?_
  show wpAny _ _ (updateSeq l _) _ _ _
  have kk : ∀ k, k < items.size → (if (1 : Int) > 0 then decide (((min a items.size : Nat) : Int) ≤ (k : Int)) && decide ((k : Int) < (items.size : Int)) && (((k : Int) - ((min a items.size : Nat) : Int)) % 1 == 0) else false) = decide (a ≤ k) := fun k hk => by
    rw [if_pos (by decide)]
    have e1 : (((k : Int) - ((min a items.size : Nat) : Int)) % 1 == 0) = true := by rw [Int.emod_one]; rfl
    rw [e1, Bool.and_true]
    by_cases c : a ≤ k
    · rw [decide_eq_true c, decide_eq_true (by omega), decide_eq_true (by omega)]
      rfl
    · rw [decide_eq_false c, decide_eq_false (by omega)]
      rfl
  refine wpAny_updateSeq (hz := hsz) (_hz' := ?z) e rfl ?_
  case z =>
    refine Nat.le_trans (Nat.le_of_eq (congrArg Array.size (key _ ?_))) ?_
    · exact fun k hk => (kk k hk)
    · rw [List.size_toArray, List.length_take, Array.length_toList]
      omega
  refine wpAny_bind (wpAny_letGo ?_)
  refine wpAny_pure ⟨.none, rfl, h _ (key _ ?_)⟩
  exact fun k hk => (kk k hk)
end
section
variable {X : Cx}
/-- del xs[a:] -/
def uDelC : V → Option Int → Hp → (Hp → Prop) → Prop
  | .ref l, some a, H, Q => ∃ xs, H l = some (.lst xs) ∧ 0 ≤ a ∧ Q (upd H l (.lst (xs.take a.toNat)))
  | _, _, _, _ => False
def uDelSl (to ti : TE) : TS := fun D σ H => to σ H fun x H1 => tPart ti σ H1 fun l H2 => uDelC x l H2 fun H3 => D.nx σ H3
theorem dels_l {H : Hp} {p : Addr} {xs : List V} {a : Int} {Q : Hp → Prop} (h : H p = some (.lst xs)) (e : 0 ≤ a) (q : Q (upd H p (.lst (xs.take a.toNat)))) : uDelC (.ref p) (some a) H Q := ⟨xs, h, e, q⟩
theorem k_delsl {o i : Expr} {to ti : TE} {p2 tpos pos : Pos} (ho : PE X o to) (hi : PE X i ti) : PS X (.Delete [.Subscript o (.Slice (some i) none none p2) tpos] pos) (uDelSl to ti) := by
  refine ⟨fun pins s σ H D I h => ?_⟩
  refine wpAny_Delete (wpAny_deleteEach_cons (wpAny_delete_Subscript (thn (ho.run pins s σ H _ I h) fun u s1 ⟨x, H1, I1, rx, q1⟩ => ?_)))
  refine wpAny_Slice (thn ((po_some hi).run pins s1 σ H1 _ I1 q1) fun vl s2 ⟨l, H2, I2, pl, q2⟩ => ?_)
  rw [evalPart_none]
  refine wpAny_pure (wpAny_pure ?_)
  have I4 : Inv X pins σ H2 { s2 with heap := s2.heap.push { cls := .type "slice", data := .fields #[vl, .none, .none] } } := I2.kept (t' := s2.toks) fun b ob q => Heap.get?_push_of_some _ q
  unfold uDelC at q2
  split at q2
  · rename_i w1 p a w2
    obtain ⟨xs, hH, h0, q2⟩ := q2
    obtain rfl : u = Value.ref p := rx
    obtain ⟨a', rfl⟩ := Int.eq_ofNat_of_zero_le h0
    obtain ⟨z, its, n, r, hl, e⟩ := I4.lstM hH
    rw [Int.toNat_natCast] at q2
    refine delItem_cut (a := a') e (Heap.IsSliceOf.new ..) pl (by rw [List.size_toArray]; omega) fun F hF => wpAny_deleteEach_nil ⟨σ, _, ?_, q2⟩
    refine I4.lset (its' := its.take a') (t' := s2.toks) hH e hF (r.take _) ?_
    rw [List.length_take]
    omega
  · exact q2.elim
end
end KW

set_option Elab.async false
set_option linter.all false
set_option maxRecDepth 100000
set_option maxHeartbeats 4000000
/-! Kw2d: dicts, texts and built-ins -/
namespace KW
open PySem PySem.Spec PyProof.Rows L2
section
variable {X : Cx} {o i e value : Expr} {pos pos' tpos : Pos} {td ty tv : TE}
/-- d[y] -/
def uDGet : V → V → Hp → VK → Prop
  | .ref a, .int i, H, Q => ∃ kvs v, H a = some (.dK kvs) ∧ valV kvs (.inl i) = some v ∧ Q v H
  | .ref a, .str i, H, Q => ∃ kvs v, H a = some (.dK kvs) ∧ valV kvs (.inr i) = some v ∧ Q v H
  | _, _, _, _ => False
theorem uDGet_of {x y : V} {H2 : Hp} {Q : VK} (q : uDGet x y H2 Q) : ∃ a v, x = .ref a ∧ DGet H2 a y (some v) ∧ Q v H2 := by
  unfold uDGet at q
  split at q
  · obtain ⟨kvs, v, h1, h2, q⟩ := q
    exact ⟨_, v, rfl, by rw [← h2]; exact DGet.k (k := .inl _) h1, q⟩
  · obtain ⟨kvs, v, h1, h2, q⟩ := q
    exact ⟨_, v, rfl, by rw [← h2]; exact DGet.k (k := .inr _) h1, q⟩
  · exact q.elim
def tDG (td ty : TE) : TE := fun σ H Q => td σ H fun x H1 => ty σ H1 fun y H2 => uDGet x y H2 Q
theorem k_dget (hu : X.A.units + 1 < cLine) (ho : PE X o td) (hi : PE X i ty) (hs : NoSl i := by intro _ _; rfl) : PE X (.Subscript o i pos) (tDG td ty) := by
  refine ⟨fun pins s σ H Q I h => ?_⟩
  refine subD_of PySem.F.slot_dict_getitem.lookup hs (thn (ho.run pins s σ H _ I h) fun u s1 ⟨x, H1, I1, rx, q1⟩ => thn (hi.run pins s1 σ H1 _ I1 q1) fun iv s2 ⟨y, H2, I2, ry, q2⟩ => ?_)
  obtain ⟨a, v, ex, g, q5⟩ := uDGet_of q2
  subst ex
  obtain rfl : u = Value.ref a := rx
  exact ⟨dict_typeIs I2 g, d_getItem hu I2 g ry fun w' s3 I3 rw' => ⟨v, H2, I3, rw', q5⟩⟩
/-- y in d -/
def uDIn : V → V → Hp → (Bool → Prop) → Prop
  | .int i, .ref a, H, Q => ∃ kvs, H a = some (.dK kvs) ∧ Q (valV kvs (.inl i)).isSome
  | .str i, .ref a, H, Q => ∃ kvs, H a = some (.dK kvs) ∧ Q (valV kvs (.inr i)).isSome
  | _, _, _, _ => False
theorem uDIn_of {x y : V} {H2 : Hp} {Q : Bool → Prop} (q : uDIn y x H2 Q) : ∃ a o, x = .ref a ∧ DGet H2 a y o ∧ Q o.isSome := by
  unfold uDIn at q
  split at q
  · obtain ⟨kvs, h1, q⟩ := q
    exact ⟨_, _, rfl, DGet.k (k := .inl _) h1, q⟩
  · obtain ⟨kvs, h1, q⟩ := q
    exact ⟨_, _, rfl, DGet.k (k := .inr _) h1, q⟩
  · exact q.elim
def tDI (ty td : TE) : TE := fun σ H Q => ty σ H fun y H1 => td σ H1 fun x H2 => uDIn y x H2 fun b => Q (.bl b) H2
def tDNI (ty td : TE) : TE := fun σ H Q => ty σ H fun y H1 => td σ H1 fun x H2 => uDIn y x H2 fun b => Q (.bl (!b)) H2
theorem k_din (hu : X.A.units + 1 < cLine) (hi : PE X i ty) (ho : PE X o td) : PC X .In i o (tDI ty td) := by
  refine ⟨fun pins s σ H Q I h => ?_⟩
  refine thn (hi.run pins s σ H _ I h) fun iv s1 ⟨y, H1, I1, ry, q1⟩ => thn (ho.run pins s1 σ H1 _ I1 q1) fun u s2 ⟨x, H2, I2, rx, q2⟩ => ?_
  obtain ⟨a, ov, ex, g, q5⟩ := uDIn_of q2
  subst ex
  obtain rfl : u = Value.ref a := rx
  exact d_in hu I2 g ry fun s3 I3 => ⟨.bl ov.isSome, H2, I3, rfl, q5⟩
theorem k_dnotin (hu : X.A.units + 1 < cLine) (hi : PE X i ty) (ho : PE X o td) : PC X .NotIn i o (tDNI ty td) := by
  refine ⟨fun pins s σ H Q I h => ?_⟩
  refine thn (hi.run pins s σ H _ I h) fun iv s1 ⟨y, H1, I1, ry, q1⟩ => thn (ho.run pins s1 σ H1 _ I1 q1) fun u s2 ⟨x, H2, I2, rx, q2⟩ => ?_
  obtain ⟨a, ov, ex, g, q5⟩ := uDIn_of q2
  subst ex
  obtain rfl : u = Value.ref a := rx
  exact d_notIn hu I2 g ry fun s3 I3 => ⟨.bl (!ov.isSome), H2, I3, rfl, q5⟩
/-- d[y] = v -/
def uDPut : V → V → V → Hp → (Hp → Prop) → Prop
  | .ref a, .int i, v, H, Q => ∃ kvs, H a = some (.dK kvs) ∧ kvs.length < sizeLine ∧ Q (upd H a (.dK (putK kvs (.inl i) v)))
  | .ref a, .str i, v, H, Q => ∃ kvs, H a = some (.dK kvs) ∧ kvs.length < sizeLine ∧ Q (upd H a (.dK (putK kvs (.inr i) v)))
  | _, _, _, _, _ => False
theorem uDPut_of {x y v : V} {H : Hp} {Q : Hp → Prop} (q : uDPut x y v H Q) : ∃ a H4, x = .ref a ∧ DPut H a y v H4 ∧ Q H4 := by
  unfold uDPut at q
  split at q
  · obtain ⟨kvs, h1, h2, q⟩ := q
    exact ⟨_, _, rfl, DPut.k (k := .inl _) h1 h2, q⟩
  · obtain ⟨kvs, h1, h2, q⟩ := q
    exact ⟨_, _, rfl, DPut.k (k := .inr _) h1 h2, q⟩
  · exact q.elim
def tDP (td ty tv : TE) : TS := fun D σ H => tv σ H fun v H1 => td σ H1 fun x H2 => ty σ H2 fun y H3 => uDPut x y v H3 fun H4 => D.nx σ H4
theorem k_dput (hu : X.A.units + 1 < cLine) (ho : PE X o td) (hi : PE X i ty) (hv : PE X value tv) (hs : swapsWith value (some (.Subscript o i pos')) pos.line X.env = pure false := by rfl) :
    PS X (.Assign [.Subscript o i pos'] value pos) (tDP td ty tv) := by
  refine ⟨fun pins s σ H D I h => ?_⟩
  refine wpAny_Assign_Subscript (thn (hv.run pins s σ H _ I h) fun r s1 ⟨v, H1, I1, rv, q1⟩ => thn (ho.run pins s1 σ H1 _ I1 q1) fun u s2 ⟨x, H2, I2, rx, q2⟩ => thn (hi.run pins s2 σ H2 _ I2 q2) fun iv s3 ⟨y, H3, I3, ry, q3⟩ => ?_) hs
  obtain ⟨a, H4, ex, g, q5⟩ := uDPut_of q3
  subst ex
  obtain rfl : u = Value.ref a := rx
  exact d_setItem hu I3 g ry rv fun s4 I4 => ⟨σ, H4, I4, q5⟩
/-- del d[y] -/
def uDDel : V → V → Hp → (Hp → Prop) → Prop
  | .ref a, .int i, H, Q => ∃ kvs, H a = some (.dK kvs) ∧ (valV kvs (.inl i)).isSome = true ∧ Q (upd H a (.dK (dropK kvs (.inl i))))
  | .ref a, .str i, H, Q => ∃ kvs, H a = some (.dK kvs) ∧ (valV kvs (.inr i)).isSome = true ∧ Q (upd H a (.dK (dropK kvs (.inr i))))
  | _, _, _, _ => False
theorem uDDel_of {x y : V} {H2 : Hp} {Q : Hp → Prop} (q : uDDel x y H2 Q) : ∃ a kvs k, x = .ref a ∧ H2 a = some (.dK kvs) ∧ y = kV k ∧ (valV kvs k).isSome = true ∧ Q (upd H2 a (.dK (dropK kvs k))) := by
  unfold uDDel at q
  split at q
  · obtain ⟨kvs, h1, h2, q⟩ := q
    exact ⟨_, kvs, .inl _, rfl, h1, rfl, h2, q⟩
  · obtain ⟨kvs, h1, h2, q⟩ := q
    exact ⟨_, kvs, .inr _, rfl, h1, rfl, h2, q⟩
  · exact q.elim
def tDD (td ty : TE) : TS := fun D σ H => td σ H fun x H1 => ty σ H1 fun y H2 => uDDel x y H2 fun H3 => D.nx σ H3
theorem k_ddel (ho : PE X o td) (hi : PE X i ty) : PS X (.Delete [.Subscript o i tpos] pos) (tDD td ty) := by
  refine ⟨fun pins s σ H D I h => ?_⟩
  refine wpAny_Delete (wpAny_deleteEach_cons (wpAny_delete_Subscript (thn (ho.run pins s σ H _ I h) fun u s1 ⟨x, H1, I1, rx, q1⟩ => thn (hi.run pins s1 σ H1 _ I1 q1) fun iv s2 ⟨y, H2, I2, ry, q2⟩ => ?_)))
  obtain ⟨a, kvs, k, ex, e, ey, l, q5⟩ := uDDel_of q2
  subst ex ey
  obtain rfl : u = Value.ref a := rx
  exact d_delItem I2 e ry l fun s3 I3 => wpAny_deleteEach_nil ⟨σ, _, I3, q5⟩
end
section
variable {H : Hp} {a : Addr} {kvs : List (Key × V)} {v : V} {i : Int} {x : Str}
theorem dget_i {Q : VK} (h : H a = some (.dK kvs)) (e : valV kvs (.inl i) = some v) (q : Q v H) : uDGet (.ref a) (.int i) H Q := ⟨kvs, v, h, e, q⟩
theorem dget_s {Q : VK} (h : H a = some (.dK kvs)) (e : valV kvs (.inr x) = some v) (q : Q v H) : uDGet (.ref a) (.str x) H Q := ⟨kvs, v, h, e, q⟩
theorem din_i {Q : Bool → Prop} (h : H a = some (.dK kvs)) (q : Q (valV kvs (.inl i)).isSome) : uDIn (.int i) (.ref a) H Q := ⟨kvs, h, q⟩
theorem din_s {Q : Bool → Prop} (h : H a = some (.dK kvs)) (q : Q (valV kvs (.inr x)).isSome) : uDIn (.str x) (.ref a) H Q := ⟨kvs, h, q⟩
theorem dput_i {Q : Hp → Prop} (h : H a = some (.dK kvs)) (e : kvs.length < sizeLine) (q : Q (upd H a (.dK (putK kvs (.inl i) v)))) : uDPut (.ref a) (.int i) v H Q := ⟨kvs, h, e, q⟩
theorem dput_s {Q : Hp → Prop} (h : H a = some (.dK kvs)) (e : kvs.length < sizeLine) (q : Q (upd H a (.dK (putK kvs (.inr x) v)))) : uDPut (.ref a) (.str x) v H Q := ⟨kvs, h, e, q⟩
theorem ddel_i {Q : Hp → Prop} (h : H a = some (.dK kvs)) (e : (valV kvs (.inl i)).isSome = true) (q : Q (upd H a (.dK (dropK kvs (.inl i))))) : uDDel (.ref a) (.int i) H Q := ⟨kvs, h, e, q⟩
theorem ddel_s {Q : Hp → Prop} (h : H a = some (.dK kvs)) (e : (valV kvs (.inr x)).isSome = true) (q : Q (upd H a (.dK (dropK kvs (.inr x))))) : uDDel (.ref a) (.str x) H Q := ⟨kvs, h, e, q⟩
end
/-! ### built-ins -/
section
variable {X : Cx}
/-- list(xs): of a list or a tuple -/
def uList (K : Frag) : List V → Hp → VK → Prop
  | [.ref p], H, Q => ∃ ys, (SqL K H p ys ∨ SqT K H p ys) ∧ ∀ l, H l = none → Q (.ref l) (upd H l (.lst ys))
  | _, _, _ => False
theorem c_list : CallR X (.type "list") (uList X.K) := CallRw call_list_of fun xs H Q h => by
  unfold uList at h
  split at h
  · obtain ⟨ys, hs, q⟩ := h
    exact ⟨_, ys, rfl, hs, q⟩
  · exact h.elim
theorem list_l {K : Frag} {H : Hp} {p : Addr} {ys : List V} {Q : VK} (h : H p = some (.lst ys)) (q : ∀ l, H l = none → Q (.ref l) (upd H l (.lst ys))) : uList K [.ref p] H Q := ⟨ys, .inl (.of h), q⟩
theorem list_t {K : Frag} {H : Hp} {p : Addr} {ys : List V} {Q : VK} (h : H p = some (.tup ys)) (q : ∀ l, H l = none → Q (.ref l) (upd H l (.lst ys))) : uList K [.ref p] H Q := ⟨ys, .inr (.of h), q⟩
theorem list_sl {K : Frag} {H : Hp} {p : Addr} {ys : List V} {Q : VK} (h : SqL K H p ys) (q : ∀ l, H l = none → Q (.ref l) (upd H l (.lst ys))) : uList K [.ref p] H Q := ⟨ys, .inl h, q⟩
/-- str(x) -/
def uStr : List V → Hp → VK → Prop
  | [.int i], H, Q => i.natAbs.log2 < 1920 ∧ Q (.str (toString i)) H
  | [.str a], H, Q => Q (.str a) H
  | _, _, _ => False
theorem c_str : CallR X (.type "str") uStr := CallRw (r := fun xs H Q => (∃ i, xs = [.int i] ∧ i.natAbs.log2 < 1920 ∧ Q (.str (toString i)) H) ∨ ∃ a, xs = [.str a] ∧ Q (.str a) H) (by
  intro pins s σ H xs us Q I r h
  rcases h with h | h
  · exact call_str_int pins s σ H xs us Q I r h
  · exact SkE.call_str_str pins s σ H xs us Q I r h) fun xs H Q h => by
  unfold uStr at h
  split at h
  · exact .inl ⟨_, rfl, h.1, h.2⟩
  · exact .inr ⟨_, rfl, h⟩
  · exact h.elim
/-- text * k -/
theorem foldl_cps (a : Array Nat) : ∀ (m : Nat) (acc : Array Nat), (List.replicate m a).foldl (· ++ ·) acc = acc ++ (List.replicate m a.toList).flatten.toArray
  | 0, acc => by simp
  | m + 1, acc => by
    rw [List.replicate_succ, List.foldl_cons, foldl_cps a m, List.replicate_succ, List.flatten_cons]
    apply Array.toList_inj.mp
    simp
def repS (a : Str) (k : Nat) : Str := S (List.replicate k a.cps.toList).flatten
theorem repS_len (a : Str) (k : Nat) : (repS a k).length = a.length * k := by
  unfold repS
  rw [S_len]
  have : ∀ k, ((List.replicate k a.cps.toList).flatten).length = a.cps.toList.length * k := fun k => by
    induction k with
    | zero => simp
    | succ k ih => rw [List.replicate_succ, List.flatten_cons, List.length_append, ih, Nat.mul_succ, Nat.add_comm]
  rw [this]
  rfl
theorem op_repS : OpR X (binaryOp .Mult) (fun x y H Q => ∃ a k, x = .str a ∧ y = .int k ∧ 0 ≤ k ∧ k ≤ 1000000 ∧ a.length * k.toNat ≤ sizeLine ∧ Q (.str (repS a k.toNat)) H) := by
  intro pins s σ H x y v u Q I rx ry h
  obtain ⟨a, k, rfl, rfl, h0, h1, hz, q⟩ := h
  obtain ⟨t, rfl⟩ := rx
  obtain ⟨tu, rfl⟩ := ry
  have e1 : (decide (k < -(2 ^ 63 : Int)) || decide (k ≥ 2 ^ 63)) = false := by
    rw [decide_eq_false (by omega), decide_eq_false (by omega)]; rfl
  have hs : sizeLine = 16777216 := sizeLine_eq
  have tl : Builtin.Str.tooLong (a.length * k.toNat) = false := by
    first
      | exact decide_eq_false (by omega)
      | (unfold Builtin.Str.tooLong; exact decide_eq_false (by omega))
      | (unfold Builtin.Str.tooLong; simp; omega)
  refine PySem.P.mul_str e1 (fun h2 h3 => ?_) (fun _ _ => tl) ?_
  · have h4 : (k == 1 || a.length == 0) = false := h3
    have p : 1 ≤ k := by omega
    have hl : (a.length : Int) ≤ 16777216 := by
      have : a.length * 1 ≤ a.length * k.toNat := Nat.mul_le_mul_left _ (by omega)
      omega
    have : (16777216 : Int) ≤ (2 ^ 63 - 1) / k := by
      rw [Int.le_ediv_iff_mul_le (by omega)]
      omega
    omega
  · by_cases c : k < 1
    · rw [if_pos c]
      have e : k = 0 := by omega
      subst e
      exact ⟨by decide, ⟨.str _, H, I.tok _, ⟨_, rfl⟩, q⟩⟩
    · rw [if_neg c]
      by_cases c2 : (k == 1 || a.length == 0) = true
      · rw [if_pos c2]
        have e : repS a k.toNat = a := by
          rcases (by simpa using c2 : k = 1 ∨ a.length = 0) with e | e
          · subst e
            show S (List.replicate 1 a.cps.toList).flatten = a
            rw [show (List.replicate 1 a.cps.toList).flatten = a.cps.toList by simp, S_tl]
          · have l0 : (repS a k.toNat).length = 0 := by rw [repS_len, e, Nat.zero_mul]
            have z : ∀ x : Str, x.length = 0 → x = S [] := fun x hx => by
              rw [← S_tl x]
              have : x.cps.toList = [] := List.eq_nil_of_length_eq_zero (by have : x.cps.toList.length = x.length := rfl; omega)
              rw [this]
            rw [z _ l0, z _ e]
        rw [e] at q
        exact ⟨.str _, H, I, ⟨_, rfl⟩, q⟩
      · rw [if_neg c2]
        have e : (⟨(List.replicate k.toNat a.cps).foldl (· ++ ·) #[]⟩ : Str) = repS a k.toNat := by
          rw [foldl_cps]
          unfold repS
          show _ = Str.mk _
          congr 1
          simp
        rw [e]
        exact ⟨by rw [repS_len]; exact hz, ⟨.str _, H, I.tok _, ⟨_, rfl⟩, q⟩⟩
/-- times: ints, texts, lists -/
def uMul2 : R2
  | .int i, .int j, H, Q => (CMul i j ∨ CMulW i j ∨ CMulX i j) ∧ Q (.int (i * j)) H
  | .str a, .int k, H, Q => 0 ≤ k ∧ k ≤ 1000000 ∧ a.length * k.toNat ≤ sizeLine ∧ Q (.str (repS a k.toNat)) H
  | .ref l, .int k, H, Q => ∃ xs, H l = some (.lst xs) ∧ 0 ≤ k ∧ k ≤ 1000000 ∧ xs.length * k.toNat ≤ sizeLine ∧ ∀ p, H p = none → Q (.ref p) (upd H p (.lst (List.replicate k.toNat xs).flatten))
  | _, _, _, _ => False
theorem o_mul2 : OpR X (binaryOp .Mult) uMul2 := OpRw (op_mul.or (op_mulW.or (op_mulX.or (op_repS.or op_rep)))) fun x y H Q h => by
  unfold uMul2 at h
  split at h
  · obtain ⟨c | c | c, h⟩ := h
    · exact .inl ⟨_, _, rfl, rfl, c, h⟩
    · exact .inr (.inl ⟨_, _, rfl, rfl, c, h⟩)
    · exact .inr (.inr (.inl ⟨_, _, rfl, rfl, c, h⟩))
  · exact .inr (.inr (.inr (.inl ⟨_, _, rfl, rfl, h.1, h.2.1, h.2.2.1, h.2.2.2⟩)))
  · obtain ⟨xs, h1, h2, h3, h4, q⟩ := h
    exact .inr (.inr (.inr (.inr ⟨_, _, xs, rfl, rfl, h1, by omega, by omega, h4, q⟩)))
  · exact h.elim
theorem mul2_l {i j : Int} (h : -18446744073709551616 < i ∧ i < 18446744073709551616) : CMul i j ∨ CMulW i j ∨ CMulX i j := .inl (.inl ⟨by omega, by omega⟩)
theorem mul2_r {i j : Int} (h : -18446744073709551616 < j ∧ j < 18446744073709551616) : CMul i j ∨ CMulW i j ∨ CMulX i j := .inl (.inr ⟨by omega, by omega⟩)
theorem rep_l {H : Hp} {l : Addr} {k : Int} {xs : List V} {Q : VK} (h : H l = some (.lst xs)) (h0 : 0 ≤ k) (h1 : k ≤ 1000000) (h2 : xs.length * k.toNat ≤ sizeLine) (q : ∀ p, H p = none → Q (.ref p) (upd H p (.lst (List.replicate k.toNat xs).flatten))) : uMul2 (.ref l) (.int k) H Q := ⟨xs, h, h0, h1, h2, q⟩
end
end KW

set_option Elab.async false
set_option linter.all false
set_option maxRecDepth 100000
set_option maxHeartbeats 4000000
/-! Kw2e: what the top leaves, made; case lemmas; steps -/
namespace KW
open PySem PySem.Spec PyProof.Rows L2
section
variable {K : Frag} {mg : Str → Option Value} {h : Heap} {x m qual : Str} {C f T : Addr} {st : Stmt} {ns ps : List Str} {oc : Value} {od an : Option Addr} {osl : Array (Option Value)} {kV doc pm cdv ct : Value}
theorem clsA_mk (X : K.In h) (G : h.Ns mainGlobals mg) (a : PySem.W.nsIn K mainGlobals x = some (some (.ref C))) (pg : PySem.W.plainGet K C Str.empty = true) (hd : PySem.W.hasDictIn K C = true) (po : PySem.W.plainOver K C = true)
    (sa : PySem.W.findIn K (.ref C) "__setattr__" = some (some (.builtin "object.__setattr__"))) (no : ∀ f ∈ ns, PySem.W.findIn K (.ref C) f = some none) : ClsA K mg x C ns :=
  ⟨PySem.W.mg_of X G a, ⟨pg, hd, po, sa⟩, no⟩
theorem metAt_mk (a : PySem.W.findIn K (.ref C) m = some (some (.ref f))) (fn : PySem.W.isFn K (.ref f) = true) (kp : PySem.W.keepIn K (.ref f) = true)
    (l : K.lookup f = some ⟨oc, od, .func (PySem.W.fnOf m qual (defArgs st) (defBody st) (defScope st) .none kV doc pm an cdv ct), osl⟩) (c : PySem.W.codeIn K cdv qual = true)
    (hb : ∀ (kV doc pm : Value) (an : Option Addr) (cdv ct : Value) (us : List Value), us.length = ps.length → bindArgs (PySem.W.fnOf m qual (defArgs st) (defBody st) (defScope st) .none kV doc pm an cdv ct) ⟨us, []⟩ = pure (ps.zip us)) : MetAt K C m qual st ps := by
  have F : FunD K m qual (defArgs st) (defBody st) (defScope st) [] [] f _ := ⟨⟨oc, od, .none, kV, doc, pm, an, cdv, ct, osl, rfl, l, c, .inl ⟨rfl, rfl⟩, .inl rfl⟩, kp⟩
  exact ⟨f, ⟨a, fn, kp⟩, _, F, fun j hj => ⟨[], by simpa using Paired.nil, F.bindsN hb⟩⟩
theorem iniAt_mk (kc : PySem.W.keepIn K (.ref C) = true) (mk : PySem.W.makesIn K C = true) (a : PySem.W.findIn K (.ref C) "__init__" = some (some (.ref f))) (fn : PySem.W.isFn K (.ref f) = true) (kp : PySem.W.keepIn K (.ref f) = true)
    (l : K.lookup f = some ⟨oc, od, .func (PySem.W.fnOf "__init__" qual (defArgs st) (defBody st) (defScope st) .none kV doc pm an cdv ct), osl⟩) (c : PySem.W.codeIn K cdv qual = true)
    (hb : ∀ (kV doc pm : Value) (an : Option Addr) (cdv ct : Value) (us : List Value), us.length = ps.length → bindArgs (PySem.W.fnOf "__init__" qual (defArgs st) (defBody st) (defScope st) .none kV doc pm an cdv ct) ⟨us, []⟩ = pure (ps.zip us)) : IniAt K C qual st ps [] := by
  have F : FunD K "__init__" qual (defArgs st) (defBody st) (defScope st) [] [] f _ := ⟨⟨oc, od, .none, kV, doc, pm, an, cdv, ct, osl, rfl, l, c, .inl ⟨rfl, rfl⟩, .inl rfl⟩, kp⟩
  exact ⟨f, ⟨mk, a, fn, kc⟩, _, F, fun j hj => ⟨[], by simpa using Paired.nil, F.bindsN hb⟩⟩
theorem iniAt_mkD {dvs : List V} {its : List Value} {o : Obj} {n : Nat} (kc : PySem.W.keepIn K (.ref C) = true) (mk : PySem.W.makesIn K C = true) (a : PySem.W.findIn K (.ref C) "__init__" = some (some (.ref f))) (fn : PySem.W.isFn K (.ref f) = true) (kp : PySem.W.keepIn K (.ref f) = true)
    (l : K.lookup f = some ⟨oc, od, .func (PySem.W.fnOf "__init__" qual (defArgs st) (defBody st) (defScope st) (.ref T) kV doc pm an cdv ct), osl⟩) (c : PySem.W.codeIn K cdv qual = true)
    (lT : K.lookup T = some o) (oT : o.data = .seq its.toArray n) (r : Vals dvs its) (hd : dvs ≠ []) (hl : dvs.length ≤ ps.length)
    (hb : ∀ j, j ≤ dvs.length → ∀ (T : Addr) (kV doc pm : Value) (an : Option Addr) (cdv ct : Value) (us its : List Value), us.length = ps.length - (dvs.length - j) → its.length = dvs.length →
      ∃ k, bindArgs (PySem.W.fnOf "__init__" qual (defArgs st) (defBody st) (defScope st) (.ref T) kV doc pm an cdv ct) ⟨us, []⟩ = seqItems? (.ref T) >>= k ∧ k (some its.toArray) = pure (ps.zip (us ++ its.drop j))) : IniAt K C qual st ps dvs := by
  have F : FunD K "__init__" qual (defArgs st) (defBody st) (defScope st) dvs [] f _ := ⟨⟨oc, od, .ref T, kV, doc, pm, an, cdv, ct, osl, rfl, l, c, .inr ⟨hd, T, o, its, n, rfl, lT, oT, r⟩, .inl rfl⟩, kp⟩
  exact ⟨f, ⟨mk, a, fn, kc⟩, _, F, fun j hj => F.binds1 (ps.length - (dvs.length - j)) j hd (by omega) (hb j hj)⟩
end
/-! ### case lemmas -/
theorem uStr_e1 {i : Int} {H : Hp} {Q : VK} : uStr [.int i] H Q = (i.natAbs.log2 < 1920 ∧ Q (.str (toString i)) H) := rfl
theorem uStr_e2 {a : Str} {H : Hp} {Q : VK} : uStr [.str a] H Q = Q (.str a) H := rfl
theorem uMul2_e1 {i j : Int} {H : Hp} {Q : VK} : uMul2 (.int i) (.int j) H Q = ((CMul i j ∨ CMulW i j ∨ CMulX i j) ∧ Q (.int (i * j)) H) := rfl
theorem uMul2_e2 {a : Str} {k : Int} {H : Hp} {Q : VK} : uMul2 (.str a) (.int k) H Q = (0 ≤ k ∧ k ≤ 1000000 ∧ a.length * k.toNat ≤ sizeLine ∧ Q (.str (repS a k.toNat)) H) := rfl
theorem okS_i {n : Int} : PySem.KErr.okS (.int n) = (n.natAbs < 10 ^ 4300) := rfl
theorem okS_s {x : Str} : PySem.KErr.okS (.str x) = True := rfl
theorem small4300 {n : Int} (h : -100000000000000000000000000000000000000000000000000000000000000000000000000000000 < n ∧ n < 100000000000000000000000000000000000000000000000000000000000000000000000000000000) : n.natAbs < 10 ^ 4300 := by
  refine Nat.lt_of_lt_of_le (show n.natAbs < 10 ^ 80 by omega) (Nat.pow_le_pow_right (by decide) (by decide))
theorem WE_e {W : WX} {σ : L2.St} {c : Value} {d : Option Addr} {H : Hp} : WE W σ c d H = W c d σ H := rfl
/-! ### errors caught or let through -/
section
variable {K : Frag} {c cls : Value} {d : Option Addr} {i : Nat} {ts : Addr → Value → Option Addr → TS} {W : WX} {D : Ends} {σ : L2.St} {H : Hp}
theorem as_yes (h : PySem.W.exmOne K cls c = some true) (q : ∀ a, H a = none → ts a cls d { nx := fun σ' H' => D.nx (σ'.set i none) H', rt := D.rt, bk := fun σ' H' => D.bk (σ'.set i none) H', ct := fun σ' H' => D.ct (σ'.set i none) H' } (σ.set i (some (.ref a))) H) : wAs K c i ts W D cls d σ H :=
  ⟨true, h, ⟨fun _ => q, fun z => absurd z.symm Bool.false_ne_true⟩⟩
theorem as_no (h : PySem.W.exmOne K cls c = some false) (q : W cls d σ H) : wAs K c i ts W D cls d σ H := ⟨false, h, ⟨fun z => absurd z Bool.false_ne_true, fun _ => q⟩⟩
variable {a C dd : Addr} {fs : List (Str × V)} {v : V} {f : Str} {Q : VK} {P : Program} {w : World} {mg : Str → Option Value} {x : Str} {ns : List Str} {ok : List V → Prop}
theorem ef_l (c : ErrC P w K mg x C ns ok) (m : f ∈ ns) (e : σ[i]? = some (some (.ref a))) (h : H dd = some (.xd fs)) (l : fs.lookup f = some v) (q : Q v H) : uEf K a (.ref C) (some dd) i f σ H Q := ⟨C, dd, fs, v, e, rfl, c.xf, c.no f m, rfl, h, l, q⟩
theorem isE_r {b : Addr} {r : Bool} (c : ErrC P w K mg x C ns ok) (h : H dd = some (.xd fs)) (k : PySem.W.kitOne K (.ref C) (.ref b) = some r) (q : Q (.bl r) H) : uIsE K a (.ref C) (some dd) [.ref a, .ref b] H Q := ⟨C, dd, fs, r, rfl, rfl, c.is, rfl, h, k, q⟩
theorem isE_t {T : String} {r : Bool} (c : ErrC P w K mg x C ns ok) (h : H dd = some (.xd fs)) (k : PySem.W.kitOne K (.ref C) (.type T) = some r) (q : Q (.bl r) H) : uIsE K a (.ref C) (some dd) [.ref a, .ty T] H Q := ⟨C, dd, fs, r, rfl, rfl, c.is, rfl, h, k, q⟩
end
section
variable {H : Hp} {a b p : Addr} {o : HO}
theorem upd_none : upd H a o p = none ↔ p ≠ a ∧ H p = none := by
  by_cases h : p = a
  · subst h; rw [upd_same]; simp
  · rw [upd_ne h]; simp [h]
theorem ne_ud (h : upd H a o p = none) : p ≠ a := (upd_none.mp h).1
theorem ne_un (h : upd H a o p = none) : H p = none := (upd_none.mp h).2
theorem ne_n (h2 : H b = some o) (h : H p = none) : p ≠ b := fun e => by subst e; rw [h] at h2; cases h2
theorem ne_m (h : H p = none) (h2 : H b = some o) : p ≠ b := ne_n h2 h
theorem putF_nil {f : Str} {v : V} : putF f v [] = [(f, v)] := rfl
theorem putF_cons {f g : Str} {v x : V} {r : List (Str × V)} : putF f v ((g, x) :: r) = if g = f then (g, v) :: r else (g, x) :: putF f v r := rfl
end
end KW

set_option Elab.async false
set_option linter.all false
set_option maxRecDepth 100000
set_option maxHeartbeats 4000000
/-! Kw2f: methods of lists, stepwise; lists of texts and of ints -/
namespace KW
open PySem PySem.Spec PyProof.Rows L2
section
variable {K : Frag} {H : Hp} {l b p : Addr} {xs zs : List V} {y v : V} {Q : VK}
theorem app_l (h : H l = some (.lst xs)) (z : xs.length < sizeLine) (q : Q .non (upd H l (.lst (xs ++ [y])))) : rAppend (.ref l) [y] H Q := ⟨l, xs, y, rfl, rfl, h, z, q⟩
theorem ext_l (h : H l = some (.lst xs)) (h2 : H b = some (.lst zs)) (z : xs.length + zs.length ≤ sizeLine) (q : Q .non (upd H l (.lst (xs ++ zs)))) : rExtend (.ref l) [.ref b] H Q := ⟨l, b, xs, zs, rfl, rfl, h, h2, z, q⟩
theorem pop_l (h : H l = some (.lst xs)) (e : xs[xs.length - 1]? = some y) (q : Q y (upd H l (.lst xs.dropLast))) : rPop (.ref l) [] H Q := ⟨l, xs, y, rfl, rfl, h, e, q⟩
theorem pops_l {y : V} (h : H l = some (.lst (xs ++ [y]))) (q : Q y (upd H l (.lst xs))) : rPop (.ref l) [] H Q := ⟨l, _, y, rfl, rfl, h, by simp, by rw [List.dropLast_concat]; exact q⟩
theorem rev_l (h : H l = some (.lst xs)) (q : Q .non (upd H l (.lst xs.reverse))) : rReverse (.ref l) [] H Q := ⟨l, xs, rfl, rfl, h, q⟩
theorem clr_l (h : H l = some (.lst xs)) (q : Q .non (upd H l (.lst []))) : rClear (.ref l) [] H Q := ⟨l, xs, rfl, rfl, h, q⟩
theorem cat_l (h : H l = some (.lst xs)) (h2 : H b = some (.lst zs)) (z : xs.length + zs.length ≤ sizeLine) (q : ∀ p, H p = none → Q (.ref p) (upd H p (.lst (xs ++ zs)))) : rCat (.ref l) (.ref b) H Q := ⟨l, b, xs, zs, rfl, rfl, h, h2, z, q⟩
theorem sll_l {lo hi : Option Int} (h : H l = some (.lst xs)) (q : ∀ p, H p = none → Q (.ref p) (upd H p (.lst (cutV xs lo hi)))) : rSlL K (.ref l) lo hi H Q := ⟨l, xs, rfl, .of h, q⟩
theorem usl_l {lo hi : Option Int} (h : H l = some (.lst xs)) (q : ∀ p, H p = none → Q (.ref p) (upd H p (.lst (cutV xs lo hi)))) : uSl K (.ref l) lo hi H Q := .inl (sll_l h q)
theorem ucat_l (h : H l = some (.lst xs)) (h2 : H b = some (.lst zs)) (z : xs.length + zs.length ≤ sizeLine) (q : ∀ p, H p = none → Q (.ref p) (upd H p (.lst (xs ++ zs)))) : uAdd K (.ref l) (.ref b) H Q := .inl (cat_l h h2 z q)
theorem tru_l {k : Bool → Prop} (h : H l = some (.lst xs)) (q : k (!xs.isEmpty)) : uTru K (.ref l) H k := ⟨_, .inl ⟨xs, .of h, rfl⟩, q⟩
theorem tru_sl {k : Bool → Prop} (h : SqL K H l xs) (q : k (!xs.isEmpty)) : uTru K (.ref l) H k := ⟨_, .inl ⟨xs, h, rfl⟩, q⟩
theorem tru_t {k : Bool → Prop} (h : H l = some (.tup xs)) (q : k (!xs.isEmpty)) : uTru K (.ref l) H k := ⟨_, .inr (.inl ⟨xs, .of h, rfl⟩), q⟩
theorem tru_d {k : Bool → Prop} {kvs : List (Key × V)} (h : H l = some (.dK kvs)) (q : k (!kvs.isEmpty)) : uTru K (.ref l) H k := ⟨_, .inr (.inr ⟨kvs, h, rfl⟩), q⟩
end
section
variable {K : Frag} {H : Hp} {p : Addr} {xs : List V} {Q : VK} {n : String}
theorem isi_l (h : H p = some (.lst xs)) (o : isOk "list" n = true) (q : Q (.bl (isK "list" n)) H) : uIsi K [.ref p, .ty n] H Q := ⟨"list", .base (.lst h), o, q⟩
theorem isi_t (h : H p = some (.tup xs)) (o : isOk "tuple" n = true) (q : Q (.bl (isK "tuple" n)) H) : uIsi K [.ref p, .ty n] H Q := ⟨"tuple", .base (.tup h), o, q⟩
theorem isi_d {kvs : List (Key × V)} (h : H p = some (.dK kvs)) (o : isOk "dict" n = true) (q : Q (.bl (isK "dict" n)) H) : uIsi K [.ref p, .ty n] H Q := ⟨"dict", .base (.dK h), o, q⟩
end
/-! ### lists of texts, of ints -/
section
variable {K : Frag} {H : Hp} {l : Addr} {Q : VK}
theorem flat_strs (xs : List Str) : (xs.map V.str).all flatV = true := by simp [flatV]
theorem flat_ints (xs : List Int) : (xs.map V.int).all flatV = true := by simp [flatV]
theorem inV_strs (x : Str) : ∀ xs : List Str, inV (.str x) (xs.map V.str) = decide (x ∈ xs)
  | [] => rfl
  | a :: r => by
    show ((a == x) || inV (.str x) (r.map V.str)) = decide (x ∈ a :: r)
    rw [inV_strs x r]
    by_cases e : a = x
    · subst e; simp
    · have e2 : ¬ x = a := fun z => e z.symm
      have e3 : (a == x) = false := by simpa using e
      simp [e2, e3]
theorem inV_ints (x : Int) : ∀ xs : List Int, inV (.int x) (xs.map V.int) = decide (x ∈ xs)
  | [] => rfl
  | a :: r => by
    show ((a == x) || inV (.int x) (r.map V.int)) = decide (x ∈ a :: r)
    rw [inV_ints x r]
    by_cases e : a = x
    · subst e; simp
    · have e2 : ¬ x = a := fun z => e z.symm
      have e3 : (a == x) = false := by simpa using e
      simp [e2, e3]
theorem in_s {x : Str} {xs : List Str} (h : H l = some (.lst (xs.map V.str))) (q : Q (.bl (decide (x ∈ xs))) H) : rIn K false (.str x) (.ref l) H Q := ⟨l, _, rfl, .inl (.of h), rfl, flat_strs xs, by rw [inV_strs]; exact q⟩
theorem nin_s {x : Str} {xs : List Str} (h : H l = some (.lst (xs.map V.str))) (q : Q (.bl (!decide (x ∈ xs))) H) : rIn K true (.str x) (.ref l) H Q := ⟨l, _, rfl, .inl (.of h), rfl, flat_strs xs, by rw [inV_strs]; exact q⟩
theorem in_i {x : Int} {xs : List Int} (h : H l = some (.lst (xs.map V.int))) (q : Q (.bl (decide (x ∈ xs))) H) : rIn K false (.int x) (.ref l) H Q := ⟨l, _, rfl, .inl (.of h), rfl, flat_ints xs, by rw [inV_ints]; exact q⟩
theorem nin_i {x : Int} {xs : List Int} (h : H l = some (.lst (xs.map V.int))) (q : Q (.bl (!decide (x ∈ xs))) H) : rIn K true (.int x) (.ref l) H Q := ⟨l, _, rfl, .inl (.of h), rfl, flat_ints xs, by rw [inV_ints]; exact q⟩
theorem idxOf_get {α : Type} [BEq α] [LawfulBEq α] {x : α} : ∀ {xs : List α}, x ∈ xs → xs[xs.idxOf x]? = some x ∧ ∀ m z, m < xs.idxOf x → xs[m]? = some z → z ≠ x
  | [], h => by cases h
  | a :: r, h => by
    by_cases e : a = x
    · subst e
      rw [List.idxOf_cons_self]
      exact ⟨rfl, fun m z hm => absurd hm (Nat.not_lt_zero _)⟩
    · have hm : x ∈ r := by
        rcases List.mem_cons.mp h with q | q
        · exact absurd q.symm e
        · exact q
      obtain ⟨h1, h2⟩ := idxOf_get hm
      have hi : (a :: r).idxOf x = r.idxOf x + 1 := by
        rw [List.idxOf_cons]
        have : (a == x) = false := by simpa using e
        rw [this]
        rfl
      rw [hi]
      refine ⟨h1, fun m z hm hz => ?_⟩
      cases m with
      | zero => simp at hz; rw [← hz]; exact e
      | succ m => exact h2 m z (by omega) hz
theorem idx_s {x : Str} {xs : List Str} (h : H l = some (.lst (xs.map V.str))) (m : x ∈ xs) (q : Q (.int (xs.idxOf x : Nat)) H) : rIndex K (.ref l) [.str x] H Q := by
  obtain ⟨h1, h2⟩ := idxOf_get m
  refine ⟨l, _, .str x, xs.idxOf x, .str x, rfl, rfl, .of h, rfl, flat_strs xs, ?_, by simp [eqV], fun m z hm hz => ?_, q⟩
  · rw [List.getElem?_map, h1]; rfl
  · rw [List.getElem?_map] at hz
    cases e : xs[m]? with
    | none => rw [e] at hz; cases hz
    | some w =>
      rw [e] at hz
      cases hz
      simpa [eqV] using h2 m w hm e
theorem idx_i {x : Int} {xs : List Int} (h : H l = some (.lst (xs.map V.int))) (m : x ∈ xs) (q : Q (.int (xs.idxOf x : Nat)) H) : rIndex K (.ref l) [.int x] H Q := by
  obtain ⟨h1, h2⟩ := idxOf_get m
  refine ⟨l, _, .int x, xs.idxOf x, .int x, rfl, rfl, .of h, rfl, flat_ints xs, ?_, by simp [eqV], fun m z hm hz => ?_, q⟩
  · rw [List.getElem?_map, h1]; rfl
  · rw [List.getElem?_map] at hz
    cases e : xs[m]? with
    | none => rw [e] at hz; cases hz
    | some w =>
      rw [e] at hz
      cases hz
      simpa [eqV] using h2 m w hm e
theorem atI_map {α β : Type} {f : α → β} {xs : List α} {i : Nat} {x : α} (h : xs[i]? = some x) : atI (xs.map f) (i : Int) = some (f x) := atI_nat (by rw [List.getElem?_map, h]; rfl)
end
theorem cutV_from (xs : List V) (n : Nat) : cutV xs (some (n : Int)) none = xs.drop n := by
  unfold cutV
  rw [HT.sIx_nat]
  show (xs.drop (min n xs.length)).take (xs.length - min n xs.length) = xs.drop n
  by_cases h : n ≤ xs.length
  · rw [Nat.min_eq_left h, List.take_of_length_le (by rw [List.length_drop]; omega)]
  · rw [Nat.min_eq_right (by omega), List.drop_length, List.drop_eq_nil_of_le (by omega)]
    simp
/-! ### places in a text -/
def nthS (l : List Stmt) (i : Nat) : Stmt := l.getD i (.Pass ⟨0, 0, 0, 0⟩)
def ifB : Stmt → List Stmt | .If _ b _ _ => b | _ => []
def ifE : Stmt → List Stmt | .If _ _ b _ => b | _ => []
def whB : Stmt → List Stmt | .While _ b _ _ => b | _ => []
def forB : Stmt → List Stmt | .For _ _ b _ _ => b | _ => []
def tryB : Stmt → List Stmt | .Try b _ _ _ _ => b | _ => []
def suB : Stmt → List Stmt | .Try _ [.ExceptHandler _ _ b _] _ _ _ => b | _ => []
/-! ### all but some stands -/
def Fr (l : List Addr) (H H' : Hp) : Prop := ∀ b o, b ∉ l → H b = some o → H' b = some o
theorem Fr.refl {l : List Addr} (H : Hp) : Fr l H H := fun _ _ _ h => h
theorem Fr.trans {l : List Addr} {H H1 H2 : Hp} (x : Fr l H H1) (y : Fr l H1 H2) : Fr l H H2 := fun b o n h => y b o n (x b o n h)
theorem Fr.mono {l m : List Addr} {H H1 : Hp} (x : Fr l H H1) (y : ∀ b, b ∈ l → b ∈ m) : Fr m H H1 := fun b o n h => x b o (fun z => n (y b z)) h
theorem Fr.upd {l : List Addr} {a : Addr} {H : Hp} {o : HO} (h : a ∈ l) : Fr l H (L2.upd H a o) := fun b _ n e => by rw [upd_ne (fun z => n (by rw [z]; exact h))]; exact e
theorem Fr.new {l : List Addr} {p : Addr} {H : Hp} {o : HO} (h : H p = none) : Fr l H (L2.upd H p o) := fun b u _ e => by rw [upd_ne (ne_of_none e h)]; exact e
theorem Fr.lst {l : List Addr} {H H' : Hp} {b : Addr} {o : HO} (x : Fr l H H') (h : H b = some o) (n : b ∉ l) : H' b = some o := x b o n h
theorem Fr.seq {l : List Addr} {b : Addr} {K : Frag} {H H' : Hp} {xs : List V} (e : Fr l H H') (n : b ∉ l) (h : SqL K H b xs) : SqL K H' b xs := by
  rcases h with (h | ⟨o, h⟩) | h
  · exact .inl (.inl (e _ _ n h))
  · exact .inl (.inr ⟨o, e _ _ n h⟩)
  · exact .inr h
end KW

set_option Elab.async false
set_option linter.all false
set_option maxRecDepth 100000
set_option maxHeartbeats 4000000
/-! Kw2g: list comprehensions -/
namespace KW
open PySem PySem.Spec PyProof.Rows L2
/-- the loop of a comprehension, behind the making of its iterator: not opened by simp -/
def lcK (J : It) (g : TG) (tt : TT) (te : TE) (vs : List Nat) (σ : L2.St) (H1 : Hp) (Q : VK) : Prop := ∀ D, H1 D = none → ∃ W : Nat → Nat → Hp → Prop, (∃ m, W 0 m (upd H1 D (.lst []))) ∧ ∀ i m H, W i m H →
  (J.stop i H ∧ Q (.ref D) H) ∨ (J.go i H ∧ ∃ Nx : Hp → Prop, (∀ H', Nx H' → ∃ m', m' < m ∧ W (i + 1) m' H') ∧ ∀ x H', J.yld i H x H' → g x (wipe σ vs) H' fun σ2 H2 => wipe σ2 vs = wipe σ vs ∧ tt σ2 H2 fun b H3 =>
    if b = true then te σ2 H3 fun y H4 => ∃ acc, H4 D = some (.lst acc) ∧ acc.length < sizeLine ∧ Nx (upd H4 D (.lst (acc ++ [y]))) else Nx H3)
def uLc (wi : TI) (g : TG) (tt : TT) (te : TE) (vs : List Nat) : TE := fun σ H Q => wi σ H fun J H1 => lcK J g tt te vs σ H1 Q
section
variable {X : Cx}
theorem k_lc {elt tg iter : Expr} {ifs : List Expr} {scope : Scope} {own : List (Str × Nat)} {pos : Pos} {wi : TI} {g : TG} {tt : TT} {te : TE} (hc : X.calm = true) (hN : X.N.Nodup) (hi : PI X tg iter wi) (ok : BlkOk X.N X.env.scope scope own)
    (hg : ∀ (s : Shared) (H : Hp) (C : Addr) (cl : List (Str × Addr)) (fp : List Addr), PG (X.blk s H scope (compEnvC scope cl C X.env) fp) tg g) (ht : ∀ (s : Shared) (H : Hp) (C : Addr) (cl : List (Str × Addr)) (fp : List Addr), PTs (X.blk s H scope (compEnvC scope cl C X.env) fp) ifs tt)
    (he : ∀ (s : Shared) (H : Hp) (C : Addr) (cl : List (Str × Addr)) (fp : List Addr), PE (X.blk s H scope (compEnvC scope cl C X.env) fp) elt te) (hs : ∀ x, foldedSetIterable iter X.env x = pure x := by intro _; rfl) :
    PE X (.ListComp elt [⟨tg, iter, ifs, 0⟩] scope pos) (uLc wi g tt te (own.map (·.2))) := ⟨(pe_lc hc hN hi ok hg ht he hs).run⟩
theorem k_setLc {i : Nat} {y : Str} {py : Pos} {elt tg iter : Expr} {ifs : List Expr} {scope : Scope} {own : List (Str × Nat)} {pos spos : Pos} {wi : TI} {g : TG} {tt : TT} {te : TE} (hc : X.calm = true) (hN : X.N.Nodup) (hy : X.N[i]? = some y) (hyl : X.env.scope.names.lookup y = some .local)
    (hsw : swapsWith (.ListComp elt [⟨tg, iter, ifs, 0⟩] scope pos) (some (.Name y py)) spos.line X.env = pure true) (hi : PI X tg iter wi) (ok : BlkOk X.N X.env.scope scope own)
    (hg : ∀ (s : Shared) (H : Hp) (C : Addr) (cl : List (Str × Addr)) (fp : List Addr), PG (X.blk s H scope (compEnvC scope cl C X.env) fp) tg g) (ht : ∀ (s : Shared) (H : Hp) (C : Addr) (cl : List (Str × Addr)) (fp : List Addr), PTs (X.blk s H scope (compEnvC scope cl C X.env) fp) ifs tt)
    (he : ∀ (s : Shared) (H : Hp) (C : Addr) (cl : List (Str × Addr)) (fp : List Addr), PE (X.blk s H scope (compEnvC scope cl C X.env) fp) elt te) (hs : ∀ x, foldedSetIterable iter X.env x = pure x := by intro _; rfl) :
    PS X (.Assign [.Name y py] (.ListComp elt [⟨tg, iter, ifs, 0⟩] scope pos) spos) (tAsg (uLc wi g tt te (own.map (·.2))) (gName i)) := ⟨(ps_setLc hc hN hy hyl hsw hi ok hg ht he hs).run⟩
end
/-- over a list, where the items are made without a change of the heap: f tells what each gives -/
theorem lc_pl {K : Frag} {a : Addr} {xs : List V} {g : TG} {tt : TT} {te : TE} {vs : List Nat} {σ : L2.St} {H : Hp} {Q : VK} (f : V → Option V) (hS : SqL K H a xs) (hz : xs.length < sizeLine)
    (hs : ∀ (i : Nat) (x : V) (D : Addr) (acc : List V) (Cy : V → Hp → Prop) (Cn : Hp → Prop), xs[i]? = some x → H D = none → (∀ y, f x = some y → Cy y (upd H D (.lst acc))) → (f x = none → Cn (upd H D (.lst acc))) →
      g x (wipe σ vs) (upd H D (.lst acc)) fun σ2 H2 => wipe σ2 vs = wipe σ vs ∧ tt σ2 H2 fun b H3 => if b = true then te σ2 H3 fun y H4 => Cy y H4 else Cn H3)
    (hq : ∀ D, H D = none → Q (.ref D) (upd H D (.lst (xs.filterMap f)))) : lcK (Itl K a) g tt te vs σ H Q := by
  intro D hD
  refine ⟨fun i m H' => m = xs.length - i ∧ i ≤ xs.length ∧ H' = upd H D (.lst ((xs.take i).filterMap f)), ⟨xs.length, by simp⟩, ?_⟩
  rintro i m H' ⟨rfl, hi, rfl⟩
  have q := SqL.new (o := .lst ((xs.take i).filterMap f)) hD hS
  by_cases hlt : i < xs.length
  · refine .inr ⟨⟨xs, xs[i], q, by simp [hlt]⟩, fun H'' => H'' = upd H D (.lst ((xs.take (i + 1)).filterMap f)), fun H'' e => ⟨xs.length - (i + 1), by omega, rfl, hlt, e⟩, fun x H' y => ?_⟩
    obtain ⟨e, y⟩ := y
    subst e
    have hx := y xs q
    have et : xs.take (i + 1) = xs.take i ++ [x] := by
      rw [List.take_add_one, hx]; rfl
    refine hs i x D _ _ _ hx hD (fun y hy => ⟨_, upd_same, ?_, ?_⟩) fun hn => ?_
    · have h1 : ((xs.take i).filterMap f).length ≤ (xs.take i).length := List.length_filterMap_le _ _
      have h2 : (xs.take i).length ≤ xs.length := by rw [List.length_take]; omega
      omega
    · rw [upd_upd, et, List.filterMap_append]
      simp [hy]
    · rw [et, List.filterMap_append]
      simp [hn]
  · have e : i = xs.length := by omega
    subst e
    refine .inl ⟨⟨xs, q, Nat.le_refl _⟩, ?_⟩
    rw [List.take_length]
    exact hq D hD
theorem lc_pr {lo : Int} {n : Nat} {g : TG} {tt : TT} {te : TE} {vs : List Nat} {σ : L2.St} {H : Hp} {Q : VK} (f : Nat → Option V) (hz : n < sizeLine)
    (hs : ∀ (i : Nat) (D : Addr) (acc : List V) (Cy : V → Hp → Prop) (Cn : Hp → Prop), i < n → H D = none → (∀ y, f i = some y → Cy y (upd H D (.lst acc))) → (f i = none → Cn (upd H D (.lst acc))) →
      g (.int (lo + i)) (wipe σ vs) (upd H D (.lst acc)) fun σ2 H2 => wipe σ2 vs = wipe σ vs ∧ tt σ2 H2 fun b H3 => if b = true then te σ2 H3 fun y H4 => Cy y H4 else Cn H3)
    (hq : ∀ D, H D = none → Q (.ref D) (upd H D (.lst ((List.range n).filterMap f)))) : lcK (Itr lo n) g tt te vs σ H Q := by
  intro D hD
  refine ⟨fun i m H' => m = n - i ∧ i ≤ n ∧ H' = upd H D (.lst ((List.range i).filterMap f)), ⟨n, by simp⟩, ?_⟩
  rintro i m H' ⟨rfl, hi, rfl⟩
  by_cases hlt : i < n
  · refine .inr ⟨hlt, fun H'' => H'' = upd H D (.lst ((List.range (i + 1)).filterMap f)), fun H'' e => ⟨n - (i + 1), by omega, rfl, hlt, e⟩, fun x H' y => ?_⟩
    obtain ⟨e, rfl⟩ := y
    subst e
    refine hs i D _ _ _ hlt hD (fun y hy => ⟨_, upd_same, ?_, ?_⟩) fun hn => ?_
    · have h1 : ((List.range i).filterMap f).length ≤ (List.range i).length := List.length_filterMap_le _ _
      rw [List.length_range] at h1
      omega
    · rw [upd_upd, List.range_succ, List.filterMap_append]
      simp [hy]
    · rw [List.range_succ, List.filterMap_append]
      simp [hn]
  · have e : i = n := by omega
    subst e
    exact .inl ⟨Nat.le_refl _, hq D hD⟩
end KW

set_option Elab.async false
set_option linter.all false
set_option maxRecDepth 100000
set_option maxHeartbeats 4000000
namespace PySem
namespace KErr_limit
open PySem.W PySem.Calls PyProof.Rows PySem.HandSPX PySem.KErr
def eA (p1 p2 : Pos) : Arguments := { posonlyargs := [], args := [{ arg := "self", annotation := none, pos := p1 }, { arg := "limit", annotation := none, pos := p2 }], vararg := none, kwonlyargs := [], kw_defaults := [], kwarg := none, defaults := [] }
def eB (q : Nat → Pos) : List Stmt := [
  .Expr (.Call (.Attribute (.Call (.Name "super" (q 0)) [] [] (q 1)) "__init__" (q 2)) [.Call (.Name "str" (q 3)) [.Name "limit" (q 4)] [] (q 5)] [] (q 6)) (q 7),
  .Assign [.Attribute (.Name "self" (q 8)) "limit" (q 9)] (.Name "limit" (q 10)) (q 11)]
def eS : Scope := { kind := .function, names := [(PySem.Str.ofString "self", .local), (PySem.Str.ofString "limit", .local), (PySem.Str.ofString "__class__", .free), (PySem.Str.ofString "super", .globalImplicit), (PySem.Str.ofString "str", .globalImplicit)], isGenerator := false, isCoroutine := false, more := [] }
def MC (q : Nat → Pos) : Prop := ∀ env : Env, ∃ pl : Sem Bool, eval (.Call (.Attribute (.Call (.Name "super" (q 0)) [] [] (q 1)) "__init__" (q 2)) [.Call (.Name "str" (q 3)) [.Name "limit" (q 4)] [] (q 5)] [] (q 6)) env = (do
      let ov ← attributeBase (.Call (.Name "super" (q 0)) [] [] (q 1)) "__init__" env (eval (.Call (.Name "super" (q 0)) [] [] (q 1)) env)
      standAt (q 2).atName
      let (f, first) ← holding [ov] (getMethod ov "__init__" pl)
      callWith (q 6) f first (backTo (q 6) (starEach [.Call (.Name "str" (q 3)) [.Name "limit" (q 4)] [] (q 5)] env)) [])
def AC (q : Nat → Pos) : Prop := ∀ env : Env, swapsWith (.Name "limit" (q 10)) (some (.Attribute (.Name "self" (q 8)) "limit" (q 9))) (q 11).line env = pure false
/-- what the top leaves of the class x with the one field -/
structure ErrTxt (prog : Program) (K : Frag) (mg : Str → Option Value) (x qual : Str) (C fI cc cda : Addr) : Prop where
  gC : mg x = some (.ref C)
  cls : ∃ nm q N bs bm sn sub ab col dd k0 k1 k2 k3 k5, K.lookup C = some (excClassObj nm q C N bs bm true sn sub ab col dd k0 k1 k2 k3 k5 "ValueError.__new__") ∧ refsVE bm = true
  sup : ks_superIn K C C "__init__" = some (some (.builtin "ValueError.__init__"))
  sa : findIn K (.ref C) "__setattr__" = some (some (.builtin "object.__setattr__"))
  noN : findIn K (.ref C) "limit" = some none
  iC : findIn K (.ref C) "__init__" = some (some (.ref fI))
  tC : typeIn K (.ref fI) = some (.type "function")
  kC : keepIn K (.ref C) = true
  exC : subIn K (.ref C) (.type "BaseException") = some true
  veC : subIn K (.ref C) (.type "ValueError") = some true
  tyC : typeIn K (.ref C) = some (.type "type")
  own : mroIn K C (.ref C) = some true
  tp : nsIn K cStatics "thirdparty.any" = some none
  dg : nsIn K cStatics "sys.int_max_str_digits" = some none
  nsup : mg "super" = none
  nstr : mg "str" = none
  fn : ∃ (oc : Value) (od : Option Addr) (doc pm : Value) (an : Option Addr) (ct : Value) (osl : Array (Option Value)) (p1 p2 : Pos) (q : Nat → Pos),
    K.lookup fI = some ⟨oc, od, .func (ksFn "__init__" qual (eA p1 p2) (eB q) eS .none .none doc pm an (.ref cda) ct cc), osl⟩ ∧ codeIn K (.ref cda) qual = true ∧ MC q ∧ AC q
  cell : ∃ cl cld csl, K.lookup cc = some ⟨cl, cld, .cell (some (.ref C)), csl⟩
  code : ∃ ccl cdd vs ccs file tf, K.lookup cda = some ⟨ccl, cdd, .fields vs, ccs⟩ ∧ vs[2]? = some (.str file tf) ∧ ((prog.main.file : Str) == file) = true
  top : (prog.main.scope.names.lookup ("super" : Str)).isSome = false
section
variable {prog : Program} {w : World} {A : Around} {E : Value → Shared → Prop} {R : Result → Shared → Prop} {s : Shared} {K : Frag} {mg : Str → Option Value} {x qual : Str} {C fI cc cda : Addr}
theorem err_init (T : ErrTxt prog K mg x qual C fI cc cda) {e t0 : Addr} {v : Value} (X : K.In s.heap) (hlim : s.heap.NoLimit) (G : s.heap.Ns mainGlobals mg) (B : ∃ mb, s.heap.Ns builtinsNs mb ∧ ∀ x : Str, x ≠ "__name__" → mb x = bootBuiltins x)
    (hx : s.heap.get? e = some (excO C t0)) (hnx : K.lookup e = none) (hh : A.handled = none) (hroom : A.depth < recursionLimit) (hv : StrOk prog w v)
    (hq : ∀ h' tk dx t1, InitEnd s.heap h' e C dx t1 "limit" v → R (.ok (.ret .none)) { s with heap := h', toks := tk }) :
    codeAny (model prog w) A (.call (.ref fI) ⟨[.ref e, v], []⟩) R s := by
  obtain ⟨oc, od, doc, pm, an, ct, osl, p1, p2, q, ho, hcd, hMC, hAC⟩ := T.fn
  obtain ⟨nm, qn, N, bs, bm, sn, sub, ab, col, dd, k0, k1, k2, k3, k5, hC, hbm⟩ := T.cls
  obtain ⟨cl, cld, csl, hcell⟩ := T.cell
  obtain ⟨ccl, cdd, vs, ccs, file, tf, hcode, hvs, hfile⟩ := T.code
  obtain ⟨mb, Bn, Bb⟩ := B
  have hcl : clsIn K C = some { name := nm, bases := bs, mro := .ref C :: bm, ns := N, qualname := qn, hasDict := true, slotNames := sn, subclasses := sub, abstract := ab, collection := col, hasDel := false } := by unfold clsIn; rw [hC] <;> rfl
  refine ks_codeAny_call_defAt (fd := ksFn "__init__" qual (eA p1 p2) (eB q) eS .none .none doc pm an (.ref cda) ct cc) (body := eB q) (binds := [("self", .ref e), ("limit", v)]) hroom (X _ _ ho) rfl hlim (codeRec_of X hcd) rfl ?b ?c ?l (fun h₁ hns k₁ => ?_)
  case b => exact BindsTo.of_eq (by first | rfl | with_unfolding_all rfl)
  case c => show ∀ x ∈ eS.names, x.2 ≠ .cell; decide
  case l => exact locs rfl
  obtain ⟨sh, sg, sd, st, sos⟩ := s
  have X₁ : K.In h₁ := X.keeps k₁
  have hx₁ := k₁ _ _ hx
  have hC₁ := X₁ _ _ hC
  show _root_.PySem.wpAt (model prog w) _ (.func (eB q) (ksEnv qual eS sh.objs.size fI (.ref cda) cc)) (execs (eB q) (ksEnv qual eS sh.objs.size fI (.ref cda) cc)) _ _ _
  obtain ⟨pl, hpl⟩ := hMC (ksEnv qual eS sh.objs.size fI (.ref cda) cc)
  refine ks_wpAt_execs_cons (ks_wpAt_Expr_any (ks_wpAt_MethodCall ?_ hpl))
  refine ks_wpAt_super_base (env := ksEnv qual eS sh.objs.size fI (.ref cda) cc) (ar := { arg := "self", annotation := none, pos := p1 }) rfl rfl (by decide) rfl (X₁ _ _ ho) rfl rfl rfl (X₁ _ _ hcode) rfl hvs hfile T.top ?_
  refine ks_loadName_global rfl rfl (loadGlobal_builtin (env := ksEnv qual eS sh.objs.size fI (.ref cda) cc) (G.keeps k₁) T.nsup (Bn.keeps k₁) ((Bb _ (by decide +kernel)).trans (by first | boot_by_name | rfl | kernel_rfl)) ⟨rfl, ?_⟩)
  refine wpAny_loadName_free rfl rfl rfl ⟨_, X₁ _ _ hcell, rfl⟩ ?_
  refine wpAny_loadName_local rfl rfl hns (by first | rfl | with_unfolding_all rfl | kernel_rfl) ?_
  refine ks_wpAny_isType_cls hC₁ rfl ⟨rfl, ?_⟩
  refine ks_wpAny_call_super hC₁ rfl hx₁ rfl (fun c z => by cases z) (looks_mroIn X₁ T.own) (fun h₂ e2 k2 => ?_)
  have X₂ : K.In h₂ := X₁.keeps k2
  have hC₂ := k2 _ _ hC₁
  have hx₂ := k2 _ _ hx₁
  have I₂ : InstAt h₂ e (excO C t0) C none := ⟨hx₂, rfl, rfl, trivial⟩
  have hxC : e ≠ C := ks_ne X₂ I₂ hcl
  have hsup := T.sup
  unfold ks_superIn at hsup
  rw [hcl] at hsup
  refine kxs_getMethod kxs_ValueError e2 (looks_opaque X₂ T.tp) (l₀ := .ref C :: bm) (fun A Q E s k q => wpAny_bind ((looks_clsIn X₂ hcl) A _ E s k (wpAny_pure q))) rfl X₂ hsup (I₂.type.andThen (looks_subIn X₂ T.veC)) hxC rfl ?_
  refine kxs_callWith (i := "ValueError.__init__") (x := e) rfl ?_
  refine Calls.evalArgs_plain (Calls.spliced_cons ?_)
  have k3 : ∀ b o, h₂.get? b = some o → (h₂.push (kxs_mw "ValueError.__init__" e)).get? b = some o := fun b o z => Heap.get?_push_of_some _ z
  have X₃ := X₂.keeps k3
  have G₃ := ((G.keeps k₁).keeps k2).keeps k3
  have B₃ := ((Bn.keeps k₁).keeps k2).keeps k3
  have hns₃ := (hns.keeps k2).keeps k3
  have hu : (h₂.push (kxs_mw "ValueError.__init__" e)).get? h₂.objs.size = some (kxs_mw "ValueError.__init__" e) := by heap_get
  have hdg : (h₂.push (kxs_mw "ValueError.__init__" e)).NoDigits := let ⟨mc, a, _⟩ := ((hlim.keeps k₁).keeps k2).keeps k3; ⟨mc, a, ns_none_of X₃ a T.dg⟩
  generalize h₂.push (kxs_mw "ValueError.__init__" e) = h₃ at *
  refine wpAny_Call_NameR (wpAny_Name (ks_loadName_global rfl rfl (loadGlobal_builtin (env := ksEnv qual eS sh.objs.size fI (.ref cda) cc) G₃ T.nstr B₃ ((Bb _ (by decide +kernel)).trans (by first | boot_by_name | rfl | kernel_rfl)) ?_)) rfl)
  refine callWith_type1 ?_
  show wpAny _ _ (eval (.Name "limit" (q 4)) _) _ _ _
  refine wpAny_Name (wpAny_loadName_local rfl rfl hns₃ (by first | rfl | with_unfolding_all rfl | kernel_rfl) ?_) (by decide)
  refine hv _ _ _ _ hh hdg (fun txt tk tk' => ?_)
  refine Calls.spliced_nil ⟨hu, ?_⟩
  refine init_call (hC := k3 _ _ hC₂) (he := k3 _ _ hx₂) (hu := hu) (one_size _) (fun h₄ t1 k4 hx₄ => ?_)
  have hLe : sh.objs.size ≠ e := Nat.ne_of_gt (Heap.lt_size hx)
  have hns₄ : h₄.Ns sh.objs.size (fun x => List.lookup x [((PySem.Str.ofString "self" : Str), Value.ref e), ((PySem.Str.ofString "limit" : Str), v)].reverse) := by
    obtain ⟨oL, es, ep, hL, r⟩ := hns₃
    exact ⟨oL, es, ep, k4 _ _ hLe hL, r⟩
  have X₄ : K.In h₄ := kept_but X₃ hnx k4
  show wpAt _ _ _ (execs _ _) _ _ _
  refine ks_wpAt_execs_cons (ks_wpAt_Assign_Attr (wpAt_of_wpAny (wpAny_Name (wpAny_loadName_local rfl rfl hns₄ (by first | rfl | with_unfolding_all rfl | kernel_rfl) ?_) (by decide))) (hAC _))
  refine wpAny_Name (wpAny_loadName_local rfl rfl hns₄ (by first | rfl | with_unfolding_all rfl | kernel_rfl) ?_) (by decide)
  refine set_plain X₄ (ox := excO C t1) (od := none) ⟨hx₄, rfl, rfl, trivial⟩ T.sa ?_
  refine exc_osa X₄ hx₄ hcl (show refsVE (.ref C :: bm) = true from hbm) rfl T.noN (fun h₅ tk₅ dx k₅ dn dne hx₅ hn₅ => ?_)
  show wpAt _ _ _ (execs _ _) _ _ _
  have z : sh.objs.size < h₄.objs.size := hns₄.lt
  refine wpAt_of_wpAny (wpAny_execs_nil (hq h₅ tk₅ dx t1 ⟨fun b o hb e => k₅ b o hb (k4 b o hb (k3 _ _ (k2 _ _ (k₁ b o e)))), hx₅, Nat.le_of_lt (Nat.lt_of_lt_of_le z dn), dne, hn₅⟩))
theorem err_made (T : ErrTxt prog K mg x qual C fI cc cda) : Mkd prog w K mg C ["limit"] (fun vs => ∃ v, vs = [v] ∧ okS v) := by
  intro A s R vs us rl hok X hlim G B hh hroom hq
  obtain ⟨v, rfl, ov⟩ := hok
  cases rl with
  | cons rv rn =>
  rename_i u us'
  cases rn
  obtain ⟨nm, q, N, bs, bm, sn, sub, ab, col, dd, k0, k1, k2, k3, k5, hC, hbm⟩ := T.cls
  obtain ⟨hp, g, dr, tk, os⟩ := s
  have k : ∀ b o, hp.get? b = some o → ((hp.push (kdv_tup [u])).push (excO C hp.objs.size)).get? b = some o := fun b o e => Heap.get?_push_of_some _ (Heap.get?_push_of_some _ e)
  have hget : ((hp.push (kdv_tup [u])).push (excO C hp.objs.size)).get? (hp.objs.size + 1) = some (excO C hp.objs.size) := by heap_get
  have hnx : K.lookup (hp.objs.size + 1) = none := by
    cases e : K.lookup (hp.objs.size + 1) with
    | none => rfl
    | some o =>
      have z : hp.get? (hp.objs.size + 1) = some o := X _ _ e
      exact absurd (Nat.lt_of_succ_lt (Heap.lt_size z)) (Nat.lt_irrefl _)
  refine call_own F.excBase_ValueError (fun X => refsVE_contains X bm hbm) (X _ _ hC) (looks_findIn X T.iC) (fun self => bind_fn X self T.tC) (one_size u) ?_
  obtain ⟨mb, B1, B2⟩ := B
  refine err_init (s := ⟨(hp.push (kdv_tup [u])).push (excO C hp.objs.size), g, dr, tk, os⟩) T (X.keeps k) (hlim.keeps k) (G.keeps k) ⟨mb, B1.keeps k, B2⟩ hget hnx ?_ ?_ (okS_ok rv ov) fun h' tk' dx t1 ⟨k', hx, dn, dne, hns⟩ => ?_
  · exact hh
  · show A.depth + 1 < recursionLimit
    exact hroom
  · have old : ∀ b o, hp.get? b = some o → h'.get? b = some o := fun b o e => k' b o (Nat.ne_of_lt (Nat.lt_succ_of_lt (Heap.lt_size e))) (k b o e)
    have z : hp.objs.size + 1 + 1 ≤ dx := by
      first
        | (simpa only [Heap.size_push] using dn)
        | exact dn
        | (have q := dn; rw [Heap.size_push, Heap.size_push] at q; exact q)
    refine ⟨rfl, hq h' tk' (hp.objs.size + 1) dx ⟨old, Nat.le_succ _, ⟨_, _, hx, rfl, rfl, rfl, rfl⟩, Nat.le_trans (Nat.le_trans (Nat.le_succ _) (Nat.le_succ _)) z, dne, ?_⟩⟩
    have ef : (fun y : Str => List.lookup y ([(PySem.Str.ofString "limit" : Str)].zip [u])) = fun y => if y = PySem.Str.ofString "limit" then some u else none := by
      funext y
      by_cases h : y = PySem.Str.ofString "limit"
      · simp [List.lookup, h]
      · have h2 : (y == PySem.Str.ofString "limit") = false := by simpa using h
        simp [List.lookup, h, h2]
    rw [ef]
    exact hns
def p1Of (st : Stmt) : Pos := match (L2.defArgs st).args with | [a, _] => a.pos | _ => ⟨0, 0, 0, 0⟩
def p2Of (st : Stmt) : Pos := match (L2.defArgs st).args with | [_, a] => a.pos | _ => ⟨0, 0, 0, 0⟩
def qOf (st : Stmt) : Nat → Pos := match L2.defBody st with
  | [.Expr (.Call (.Attribute (.Call (.Name _ q0) _ _ q1) _ q2) [.Call (.Name _ q3) [.Name _ q4] _ q5] _ q6) q7, .Assign [.Attribute (.Name _ q8) _ q9] (.Name _ q10) q11] =>
    fun n => [q0, q1, q2, q3, q4, q5, q6, q7, q8, q9, q10, q11].getD n ⟨0, 0, 0, 0⟩
  | _ => fun _ => ⟨0, 0, 0, 0⟩
theorem err_mk (st : Stmt) {h : Heap} {nm q : Str} {N : Addr} {bs bm : List Value} {sn : List Str} {sub : List Value} {ab : Bool} {col : Option Bool} {dd : Option Addr} {k0 k1 k2 k3 k5 : Option Value} {oc : Value} {od : Option Addr} {doc pm : Value} {an : Option Addr} {ct : Value} {osl : Array (Option Value)}
    {cl : Value} {cld : Option Addr} {csl : Array (Option Value)} {ccl : Value} {cdd : Option Addr} {vs : Array Value} {ccs : Array (Option Value)} {file : Str} {tf : Tok}
    (X : K.In h) (G : h.Ns mainGlobals mg) (aC : nsIn K mainGlobals x = some (some (.ref C))) (xL : K.lookup C = some (excClassObj nm q C N bs bm true sn sub ab col dd k0 k1 k2 k3 k5 "ValueError.__new__")) (bmv : refsVE bm = true)
    (sup : ks_superIn K C C "__init__" = some (some (.builtin "ValueError.__init__"))) (sa : findIn K (.ref C) "__setattr__" = some (some (.builtin "object.__setattr__"))) (no : findIn K (.ref C) "limit" = some none)
    (a1 : findIn K (.ref C) "__init__" = some (some (.ref fI))) (t1 : typeIn K (.ref fI) = some (.type "function")) (kC : keepIn K (.ref C) = true) (eC : subIn K (.ref C) (.type "BaseException") = some true) (vC : subIn K (.ref C) (.type "ValueError") = some true)
    (tC : typeIn K (.ref C) = some (.type "type")) (own : mroIn K C (.ref C) = some true) (tp : nsIn K cStatics "thirdparty.any" = some none) (dg : nsIn K cStatics "sys.int_max_str_digits" = some none) (nsup : nsIn K mainGlobals "super" = some none) (nstr : nsIn K mainGlobals "str" = some none)
    (hst : L2.defArgs st = eA (p1Of st) (p2Of st) ∧ L2.defBody st = eB (qOf st) ∧ L2.defScope st = eS)
    (l1 : K.lookup fI = some ⟨oc, od, .func (ksFn "__init__" qual (L2.defArgs st) (L2.defBody st) (L2.defScope st) .none .none doc pm an (.ref cda) ct cc), osl⟩) (c1 : codeIn K (.ref cda) qual = true) (mc : MC (qOf st)) (ac : AC (qOf st))
    (ce : K.lookup cc = some ⟨cl, cld, .cell (some (.ref C)), csl⟩) (co : K.lookup cda = some ⟨ccl, cdd, .fields vs, ccs⟩) (cf : vs[2]? = some (.str file tf)) (cg : ((prog.main.file : Str) == file) = true) (top : (prog.main.scope.names.lookup ("super" : Str)).isSome = false)
    (hg : findIn K (.ref C) "__getattribute__" = some (some (.builtin "BaseException.__getattribute__"))) (hk : findIn K (.ref C) "__getattr__" = some none) (hd : hasDictIn K C = true) (ha : findIn K (.ref C) "__class__" = some (some (.builtin "object.__class__")))
    (hn : specialIn K (.builtin "object.__class__") "__get__" = some (some (.builtin "getset_descriptor.__get__"))) (ht : takesIn K (.builtin "object.__class__") = some true) (hm : mroIn K C (.type "object") = some true) :
    KW.ErrC prog w K mg x C ["limit"] (fun vs => ∃ v, vs = [v] ∧ okS v) := by
  have T : ErrTxt prog K mg x qual C fI cc cda :=
    { gC := mg_of X G aC, cls := ⟨nm, q, N, bs, bm, sn, sub, ab, col, dd, k0, k1, k2, k3, k5, xL, bmv⟩, sup := sup, sa := sa, noN := no, iC := a1, tC := t1, kC := kC, exC := eC, veC := vC, tyC := tC, own := own, tp := tp, dg := dg,
      nsup := mg_none_of X G nsup, nstr := mg_none_of X G nstr,
      fn := ⟨oc, od, doc, pm, an, ct, osl, p1Of st, p2Of st, qOf st, by rw [← hst.1, ← hst.2.1, ← hst.2.2]; exact l1, c1, mc, ac⟩,
      cell := ⟨cl, cld, csl, ce⟩, code := ⟨ccl, cdd, vs, ccs, file, tf, co, cf, cg⟩, top := top }
  exact ⟨T.gC, err_made T, kC, eC, tC, ⟨hg, hk, eC, hd⟩, ⟨hg, hk, eC, hd, ha, hn, ht, hm⟩, fun f hf => by cases hf with | head => exact no | tail _ z => cases z⟩
end
end KErr_limit
end PySem

set_option Elab.async false
set_option linter.all false
set_option maxRecDepth 100000
set_option maxHeartbeats 4000000
namespace K01
open PySem PySem.Spec PyProof.Rows L2 KW
def topS (i : Nat) : Stmt := PySem.Challenge.pw_kilnwarden_k01_symbols_keep_numbers.main.body.getD i (.Pass ⟨0, 0, 0, 0⟩)

theorem lit_0 : (PySem.Str.ofString "a") = S [97] := by decide +kernel
theorem lit_1 : (PySem.Str.ofString "b") = S [98] := by decide +kernel
theorem lit_2 : (PySem.Str.ofString "ab") = S [97, 98] := by decide +kernel
def str_3 : List Nat := [32, 33, 34, 35, 36, 38, 39, 40, 41, 42, 43, 44, 45, 46, 47, 48, 49, 50, 51, 52, 53, 54, 55, 56, 57, 58, 59, 60, 61, 62, 63, 64, 65, 66, 67, 68, 69, 70, 71, 72, 73, 74, 75, 76, 77, 78, 79, 80, 81, 82, 83, 84, 85, 86, 87, 88, 89, 90, 91, 92, 93, 94, 95, 96]
theorem lit_3 : (PySem.Str.ofString " !\"#$&'()*+,-./0123456789:;<=>?@ABCDEFGHIJKLMNOPQRSTUVWXYZ[\\]^_`") = S str_3 := by decide +kernel
def str_4 : List Nat := [97, 98, 99, 100, 101, 102, 103, 104, 105, 106, 107, 108, 109, 110, 111, 112, 113, 114, 115, 116, 117, 118, 119, 120, 121, 122, 123, 124, 125, 126, 10]
theorem lit_4 : (PySem.Str.ofString "abcdefghijklmnopqrstuvwxyz{|}~\n") = S str_4 := by decide +kernel
theorem lit_5 : (PySem.Str.ofString "") = S [] := by decide +kernel
theorem lit_6 : (PySem.Str.ofString "number") = S [110, 117, 109, 98, 101, 114] := by decide +kernel
theorem lit_7 : (PySem.Str.ofString "error") = S [101, 114, 114, 111, 114] := by decide +kernel
theorem lit_8 : (PySem.Str.ofString "spoilt") = S [115, 112, 111, 105, 108, 116] := by decide +kernel
abbrev s_NoSymbol_init : Stmt := inClass (topS 2) 0
abbrev s_Symbols_init : Stmt := inClass (topS 6) 0
abbrev N_Symbols_init : List Str := ["self", "most"]
theorem sc_Symbols_init : FnScope N_Symbols_init ["self", "most"] (defScope s_Symbols_init) := ⟨rfl, rfl, rfl, by decide +kernel, rfl, by decide +kernel, by decide +kernel⟩
abbrev s_Symbols_count : Stmt := inClass (topS 6) 1
abbrev N_Symbols_count : List Str := ["self"]
theorem sc_Symbols_count : FnScope N_Symbols_count ["self"] (defScope s_Symbols_count) := ⟨rfl, rfl, rfl, by decide +kernel, rfl, by decide +kernel, by decide +kernel⟩
abbrev s_Symbols_number : Stmt := inClass (topS 6) 2
abbrev N_Symbols_number : List Str := ["self", "text"]
theorem sc_Symbols_number : FnScope N_Symbols_number ["self", "text"] (defScope s_Symbols_number) := ⟨rfl, rfl, rfl, by decide +kernel, rfl, by decide +kernel, by decide +kernel⟩
abbrev s_Symbols_knows : Stmt := inClass (topS 6) 3
abbrev N_Symbols_knows : List Str := ["self", "text"]
theorem sc_Symbols_knows : FnScope N_Symbols_knows ["self", "text"] (defScope s_Symbols_knows) := ⟨rfl, rfl, rfl, by decide +kernel, rfl, by decide +kernel, by decide +kernel⟩
abbrev s_Symbols_text : Stmt := inClass (topS 6) 4
abbrev N_Symbols_text : List Str := ["self", "number"]
theorem sc_Symbols_text : FnScope N_Symbols_text ["self", "number"] (defScope s_Symbols_text) := ⟨rfl, rfl, rfl, by decide +kernel, rfl, by decide +kernel, by decide +kernel⟩
abbrev s_Symbols_texts : Stmt := inClass (topS 6) 5
abbrev N_Symbols_texts : List Str := ["self"]
theorem sc_Symbols_texts : FnScope N_Symbols_texts ["self"] (defScope s_Symbols_texts) := ⟨rfl, rfl, rfl, by decide +kernel, rfl, by decide +kernel, by decide +kernel⟩
abbrev s_Symbols_cut : Stmt := inClass (topS 6) 6
abbrev N_Symbols_cut : List Str := ["self", "count", "text"]
theorem sc_Symbols_cut : FnScope N_Symbols_cut ["self", "count"] (defScope s_Symbols_cut) := ⟨rfl, rfl, rfl, by decide +kernel, rfl, by decide +kernel, by decide +kernel⟩
abbrev s__law_number : Stmt := topS 8
abbrev N__law_number : List Str := ["cell", "k", "mixed"]
theorem sc__law_number : FnScope N__law_number ["cell", "k"] (defScope s__law_number) := ⟨rfl, rfl, rfl, by decide +kernel, rfl, by decide +kernel, by decide +kernel⟩
abbrev s__law_text : Stmt := topS 9
abbrev N__law_text : List Str := ["x", "chars", "size", "rest", "text", "k"]
theorem sc__law_text : FnScope N__law_text ["x"] (defScope s__law_text) := ⟨rfl, rfl, rfl, by decide +kernel, rfl, by decide +kernel, by decide +kernel⟩
abbrev s__law_is : Stmt := topS 10
abbrev N__law_is : List Str := ["actual", "due"]
theorem sc__law_is : FnScope N__law_is ["actual", "due"] (defScope s__law_is) := ⟨rfl, rfl, rfl, by decide +kernel, rfl, by decide +kernel, by decide +kernel⟩
abbrev s__law_asked : Stmt := topS 11
abbrev N__law_asked : List Str := ["symbols", "texts", "most", "text", "due", "told", "e"]
theorem sc__law_asked : FnScope N__law_asked ["symbols", "texts", "most", "text"] (defScope s__law_asked) := ⟨rfl, rfl, rfl, by decide +kernel, rfl, by decide +kernel, by decide +kernel⟩
abbrev s__law_agrees : Stmt := topS 12
abbrev N__law_agrees : List Str := ["symbols", "texts", "told", "k"]
theorem sc__law_agrees : FnScope N__law_agrees ["symbols", "texts"] (defScope s__law_agrees) := ⟨rfl, rfl, rfl, by decide +kernel, rfl, by decide +kernel, by decide +kernel⟩
abbrev s__law_deed : Stmt := topS 13
abbrev N__law_deed : List Str := ["symbols", "texts", "most", "x", "deed", "rest", "text", "count", "k"]
theorem sc__law_deed : FnScope N__law_deed ["symbols", "texts", "most", "x"] (defScope s__law_deed) := ⟨rfl, rfl, rfl, by decide +kernel, rfl, by decide +kernel, by decide +kernel⟩
abbrev s_law : Stmt := topS 14
abbrev N_law : List Str := ["script", "cells", "cell", "limit", "most", "symbols", "other", "texts", "k"]
theorem sc_law : FnScope N_law ["script"] (defScope s_law) := ⟨rfl, rfl, rfl, by decide +kernel, rfl, by decide +kernel, by decide +kernel⟩
structure Ads where
  KilnwardenError : Addr
  NoSymbol : Addr
  Symbols : Addr
structure Txt (P : Program) (w : World) (K : Frag) (mg : Str → Option Value) (a : Ads) : Prop where
  g_KilnwardenError : mg "KilnwardenError" = some (.ref a.KilnwardenError)
  g_NoSymbol : mg "NoSymbol" = some (.ref a.NoSymbol)
  g_Symbols : mg "Symbols" = some (.ref a.Symbols)
  e_NoSymbol : ErrC P w K mg "NoSymbol" a.NoSymbol ["limit"] (fun vs => ∃ v, vs = [v] ∧ PySem.KErr.okS v)
  x_NoSymbol_KilnwardenError : PySem.W.exmOne K (.ref a.NoSymbol) (.ref a.KilnwardenError) = some true
  i_NoSymbol_NoSymbol : PySem.W.kitOne K (.ref a.NoSymbol) (.ref a.NoSymbol) = some true
  i_NoSymbol_ValueError : PySem.W.kitOne K (.ref a.NoSymbol) (.type "ValueError") = some true
  c_Symbols : ClsA K mg "Symbols" a.Symbols ["most", "_texts", "_numbers"]
  ini_Symbols : IniAt K a.Symbols "Symbols.__init__" s_Symbols_init ["self", "most"] [.int (100000)]
  m_Symbols_count : MetAt K a.Symbols "count" "Symbols.count" s_Symbols_count ["self"]
  m_Symbols_number : MetAt K a.Symbols "number" "Symbols.number" s_Symbols_number ["self", "text"]
  m_Symbols_knows : MetAt K a.Symbols "knows" "Symbols.knows" s_Symbols_knows ["self", "text"]
  m_Symbols_text : MetAt K a.Symbols "text" "Symbols.text" s_Symbols_text ["self", "number"]
  m_Symbols_texts : MetAt K a.Symbols "texts" "Symbols.texts" s_Symbols_texts ["self"]
  m_Symbols_cut : MetAt K a.Symbols "cut" "Symbols.cut" s_Symbols_cut ["self", "count"]
  n_ValueError : mg "ValueError" = none
  n_bool : mg "bool" = none
  n_int : mg "int" = none
  n_isinstance : mg "isinstance" = none
  n_len : mg "len" = none
  n_list : mg "list" = none
  n_range : mg "range" = none
  n_str : mg "str" = none
  g_MOST : GV mg "MOST" (.int (100000))
  g_LONGEST : GV mg "LONGEST" (.int (4000))
  d__law_number : DefAt K mg "_law_number" "_law_number" s__law_number ["cell", "k"]
  d__law_text : DefAt K mg "_law_text" "_law_text" s__law_text ["x"]
  d__law_is : DefAt K mg "_law_is" "_law_is" s__law_is ["actual", "due"]
  d__law_asked : DefAt K mg "_law_asked" "_law_asked" s__law_asked ["symbols", "texts", "most", "text"]
  d__law_agrees : DefAt K mg "_law_agrees" "_law_agrees" s__law_agrees ["symbols", "texts"]
  d__law_deed : DefAt K mg "_law_deed" "_law_deed" s__law_deed ["symbols", "texts", "most", "x"]
  d_law : DefAt K mg "law" "law" s_law ["script"]
theorem fe_most__texts : ((PySem.Str.ofString "most" : Str) = PySem.Str.ofString "_texts") = False := eq_false (by decide)
theorem fe_most__numbers : ((PySem.Str.ofString "most" : Str) = PySem.Str.ofString "_numbers") = False := eq_false (by decide)
theorem fe__texts_most : ((PySem.Str.ofString "_texts" : Str) = PySem.Str.ofString "most") = False := eq_false (by decide)
theorem fe__texts__numbers : ((PySem.Str.ofString "_texts" : Str) = PySem.Str.ofString "_numbers") = False := eq_false (by decide)
theorem fe__numbers_most : ((PySem.Str.ofString "_numbers" : Str) = PySem.Str.ofString "most") = False := eq_false (by decide)
theorem fe__numbers__texts : ((PySem.Str.ofString "_numbers" : Str) = PySem.Str.ofString "_texts") = False := eq_false (by decide)
theorem Txt.ex {P : Program} {w : World} {K : Frag} {mg : Str → Option Value} {A_KilnwardenError : Addr} {A_NoSymbol : Addr} {A_Symbols : Addr} (h : Txt P w K mg ⟨A_KilnwardenError, A_NoSymbol, A_Symbols⟩) : ∃ a, Txt P w K mg a := ⟨_, h⟩
end K01

set_option Elab.async false
set_option linter.all false
set_option maxRecDepth 100000
set_option maxHeartbeats 4000000
namespace K01
open PySem PySem.Spec PyProof.Rows L2 KW
/-- the dict of the numbers -/
def KOk (kvs : List (Key × V)) (xs : List Str) : Prop := kvs.length ≤ xs.length ∧ ∀ x, valV kvs (.inr x) = if x ∈ xs then some (.int (xs.idxOf x : Nat)) else none
structure Sym (a : Ads) (H : Hp) (st p q : Addr) (m : Int) (xs : List Str) : Prop where
  ob : ∃ dx, H st = some (.ins a.Symbols dx [("most", .int m), ("_texts", .ref p), ("_numbers", .ref q)])
  tx : H p = some (.lst (xs.map .str))
  nu : ∃ kvs, H q = some (.dK kvs) ∧ KOk kvs xs
  nd : xs.Nodup
  pq : p ≠ q
  sp : st ≠ p
  sq : st ≠ q
theorem Sym.fr {a : Ads} {H H' : Hp} {st p q : Addr} {m : Int} {xs : List Str} {l : List Addr} (s : Sym a H st p q m xs) (f : Fr l H H') (h1 : st ∉ l) (h2 : p ∉ l) (h3 : q ∉ l) : Sym a H' st p q m xs := by
  obtain ⟨⟨dx, ob⟩, tx, ⟨kvs, nu, ok⟩, nd, pq, sp, sq⟩ := s
  exact ⟨⟨dx, f _ _ h1 ob⟩, f _ _ h2 tx, ⟨kvs, f _ _ h3 nu, ok⟩, nd, pq, sp, sq⟩
theorem Sym.new {a : Ads} {H : Hp} {st p q t : Addr} {m : Int} {xs : List Str} {o : HO} (s : Sym a H st p q m xs) (h : H t = none) : Sym a (upd H t o) st p q m xs := s.fr (l := []) (Fr.new h) (by simp) (by simp) (by simp)
theorem kok_nil : KOk [] [] := ⟨Nat.le_refl _, fun x => by simp [valV]⟩
theorem kok_put {kvs : List (Key × V)} {xs : List Str} {x : Str} (h : KOk kvs xs) (n : x ∉ xs) : KOk (putK kvs (.inr x) (.int xs.length)) (xs ++ [x]) := by
  refine ⟨?_, fun y => ?_⟩
  · have := length_putK kvs (.inr x) (.int xs.length)
    have := h.1
    rw [List.length_append]
    simp only [List.length_cons, List.length_nil]
    omega
  · rw [valV_put, h.2 y]
    by_cases e : y = x
    · subst e
      rw [if_pos rfl, if_pos (by simp), List.idxOf_append, if_neg n]
      simp
    · have e' : ¬ (Sum.inr y : Key) = .inr x := fun z => e (by cases z; rfl)
      rw [if_neg e']
      by_cases c : y ∈ xs
      · rw [if_pos c, if_pos (by simp [c]), List.idxOf_append, if_pos c]
      · rw [if_neg c, if_neg (by simp [c, e])]
theorem valV_drop (kvs : List (Key × V)) (k j : Key) : valV (dropK kvs k) j = if j = k then none else valV kvs j := by
  unfold valV dropK
  rw [List.find?_filter]
  by_cases e : j = k
  · subst e
    rw [if_pos rfl]
    have : (kvs.find? fun a => decide (a.1 ≠ j) && decide (a.1 = j)) = none := by
      rw [List.find?_eq_none]
      intro a _
      simp
    simp [this]
  · rw [if_neg e]
    congr 1
    congr 1
    funext a
    by_cases c : a.1 = j
    · have : ¬ a.1 = k := fun z => e (c.symm.trans z)
      simp [c, this, e]
    · simp [c]
theorem dropK_lt {kvs : List (Key × V)} {k : Key} (h : (valV kvs k).isSome = true) : (dropK kvs k).length < kvs.length := by
  unfold dropK
  rw [← valV_any] at h
  obtain ⟨a, ha, hk⟩ := List.any_eq_true.mp h
  refine List.length_filter_lt_length_iff_exists.mpr ⟨a, ha, ?_⟩
  simpa using hk
/-- while the numbers of the texts from n on are deleted, i of them -/
def KCut (kvs : List (Key × V)) (xs : List Str) (n i : Nat) : Prop := kvs.length + i ≤ xs.length ∧ ∀ x, valV kvs (.inr x) = if x ∈ xs.take n ++ (xs.drop n).drop i then some (.int (xs.idxOf x : Nat)) else none
theorem kcut_0 {kvs : List (Key × V)} {xs : List Str} {n : Nat} (h : KOk kvs xs) : KCut kvs xs n 0 := ⟨h.1, fun x => by rw [h.2 x, List.drop_zero, List.take_append_drop]⟩
theorem kcut_s {kvs : List (Key × V)} {xs : List Str} {n i : Nat} {x : Str} (nd : xs.Nodup) (h : KCut kvs xs n i) (e : (xs.drop n)[i]? = some x) : (valV kvs (.inr x)).isSome = true ∧ KCut (dropK kvs (.inr x)) xs n (i + 1) := by
  have hd : (xs.drop n).drop i = x :: (xs.drop n).drop (i + 1) := by
    obtain ⟨h1, h2⟩ := List.getElem?_eq_some_iff.mp e
    rw [← h2]; exact List.drop_eq_getElem_cons h1
  have hs : (valV kvs (.inr x)).isSome = true := by
    rw [h.2 x, hd, if_pos (by simp)]; rfl
  refine ⟨hs, ?_, fun y => ?_⟩
  · have := dropK_lt hs
    have := h.1
    omega
  · rw [valV_drop, h.2 y, hd]
    have nd2 : (xs.take n ++ (x :: (xs.drop n).drop (i + 1))).Nodup := by
      rw [← hd]
      refine List.Nodup.sublist ?_ nd
      conv => rhs; rw [← List.take_append_drop n xs]
      exact List.Sublist.append_left (List.drop_sublist _ _) _
    by_cases c : y = x
    · subst c
      rw [if_pos rfl, if_neg ?_]
      intro z
      rw [List.nodup_append] at nd2
      obtain ⟨_, n2, n3⟩ := nd2
      rcases List.mem_append.mp z with z | z
      · exact n3 y z y (by simp) rfl
      · exact (List.nodup_cons.mp n2).1 z
    · rw [if_neg (fun z => c (by cases z; rfl))]
      simp [c]
theorem kcut_e {kvs : List (Key × V)} {xs : List Str} {n i : Nat} (h : KCut kvs xs n i) (hi : i = xs.length - n) : KOk kvs (xs.take n) := by
  have hd : (xs.drop n).drop i = [] := List.drop_eq_nil_of_le (by rw [List.length_drop]; omega)
  refine ⟨by rw [List.length_take]; have := h.1; omega, fun x => ?_⟩
  rw [h.2 x, hd, List.append_nil]
  by_cases c : x ∈ xs.take n
  · rw [if_pos c, if_pos c]
    conv => lhs; rw [← List.take_append_drop n xs, List.idxOf_append, if_pos c]
  · rw [if_neg c, if_neg c]
/-! ### promises -/
def sp_Symbols_init (a : Ads) : Sp := fun vs H Q _ => ∃ (st dx : Addr) (m : Int), vs = [.ref st, .int m] ∧ H st = some (.ins a.Symbols dx []) ∧ ∀ H' p q, Sym a H' st p q m [] → Fr [st] H H' → H p = none → H q = none → Q .non H'
def sp_Symbols_count (a : Ads) : Sp := fun vs H Q _ => ∃ (st p q : Addr) (m : Int) (xs : List Str), vs = [.ref st] ∧ Sym a H st p q m xs ∧ xs.length ≤ 1000 ∧ Q (.int xs.length) H
def sp_Symbols_knows (a : Ads) : Sp := fun vs H Q _ => ∃ (st p q : Addr) (m : Int) (xs : List Str) (x : Str), vs = [.ref st, .str x] ∧ Sym a H st p q m xs ∧ Q (.bl (decide (x ∈ xs))) H
def sp_Symbols_text (a : Ads) : Sp := fun vs H Q _ => ∃ (st p q : Addr) (m : Int) (xs : List Str) (i : Nat) (x : Str), vs = [.ref st, .int i] ∧ Sym a H st p q m xs ∧ xs[i]? = some x ∧ Q (.str x) H
def sp_Symbols_texts (a : Ads) : Sp := fun vs H Q _ => ∃ (st p q : Addr) (m : Int) (xs : List Str), vs = [.ref st] ∧ Sym a H st p q m xs ∧ ∀ l, H l = none → Q (.ref l) (upd H l (.lst (xs.map .str)))
def sp_Symbols_cut (a : Ads) : Sp := fun vs H Q _ => ∃ (st p q : Addr) (m : Int) (xs : List Str) (n : Nat), vs = [.ref st, .int n] ∧ Sym a H st p q m xs ∧ xs.length ≤ 1000 ∧ ∀ H', Sym a H' st p q m (xs.take n) → Fr [p, q] H H' → Q .non H'
def sp_Symbols_number (a : Ads) : Sp := fun vs H Q E => ∃ (st p q : Addr) (m : Int) (xs : List Str) (x : Str), vs = [.ref st, .str x] ∧ Sym a H st p q m xs ∧ xs.length ≤ 1000 ∧ (x ∉ xs → x.length ≤ 5000) ∧ 0 ≤ m ∧ m ≤ 1000000 ∧
  (x ∈ xs → Q (.int (xs.idxOf x : Nat)) H) ∧
  (x ∉ xs → 4000 < x.length → ∀ d, H d = none → E (.ref a.NoSymbol) (some d) (upd H d (.xd [("limit", .int 4000)]))) ∧
  (x ∉ xs → x.length ≤ 4000 → m ≤ xs.length → ∀ d, H d = none → E (.ref a.NoSymbol) (some d) (upd H d (.xd [("limit", .int m)]))) ∧
  (x ∉ xs → x.length ≤ 4000 → xs.length < m → ∀ H', Sym a H' st p q m (xs ++ [x]) → Fr [p, q] H H' → Q (.int xs.length) H')
local macro_rules | `(tactic| walk_at "kw") => `(tactic| simp only [tSeq, tNext, tIfS, tTest, tAnd, tOr, tNot, tAndV, tOrV, tNotV, tIf, tChain, tOp, tUn, tC, tAsg, gName, gSub, gCons, gNil, tRet, tRetN, tDrop, tCons, tNil, tCB, tAug, tSl, tPart, tNoPart, tLst, tTup, tBM, tBM0, uTest, uFor, iRng1, iRng2, iList, uCall, List.map_cons, List.map_nil, List.length_cons, List.length_nil, List.cons_append, List.nil_append, List.replicate, Nat.zero_add, Nat.reduceAdd, Nat.reduceSub, List.getElem?_cons_zero, List.getElem?_cons_succ, List.set_cons_zero, List.set_cons_succ, V.bl.injEq, V.int.injEq, V.str.injEq, V.ref.injEq, V.ty.injEq, List.cons.injEq, and_true, true_and, exists_eq_left', exists_eq_right, exists_eq_left, exists_and_left, exists_and_right, decide_eq_true_eq, Bool.not_eq_true', decide_eq_false_iff_not, Bool.false_eq_true, if_true, if_false, ite_true, ite_false, Bool.not_true, Bool.not_false, reduceCtorEq, decide_true, decide_false, Bool.not_not, isK_int_int, isK_int_bool, isK_int_str, isK_int_list, isK_int_tuple, isK_bool_int, isK_bool_bool, isK_bool_str, isK_str_str, isK_str_int, isK_str_bool, isK_str_tuple, isK_str_list, isK_list_list, isK_list_tuple, isK_tuple_tuple, isK_tuple_list, isOk_int_int, isOk_int_bool, isOk_int_str, isOk_int_list, isOk_int_tuple, isOk_bool_int, isOk_bool_bool, isOk_bool_str, isOk_str_str, isOk_str_int, isOk_str_bool, isOk_str_tuple, isOk_str_list, isOk_list_list, isOk_list_tuple, isOk_tuple_tuple, isOk_tuple_list, isK_dict_dict, isOk_dict_dict, isK_none_int, isK_none_bool, isOk_none_int, isOk_none_bool, tyV, S_inj, S_cat, L2.start, Nat.reduceSub, List.replicate_succ, List.replicate_zero, and_assoc, List.append_nil, Nat.reduceEqDiff, Option.some.injEq, Int.natCast_inj, upd_upd, Int.reducePow, Int.reduceToNat, Int.reduceMul, Int.reduceAdd, Int.reduceSub, Int.reduceLT, Int.reduceLE, Int.reduceNeg, Int.reduceDiv, Int.reduceMod, Nat.reducePow, Nat.reduceMul, S_len, List.length_append, List.length_map, List.length_range, not_true_eq_false, not_false_eq_true, ne_eq, uAdd_e1, uAdd_e2, uSub_e1, uMod_e1, uDiv_e1, uPow_e1, uShl_e1, uNeg_e1, uIAdd_e1, uIAdd_e2, uIAdd_e3, uISub_e1, uLt_e1, uLt_e2, uLe_e1, uGt_e1, uGe_e1, uEq_e1, uEq_e2, uEq_e3, uEq_e4, uEq_e5, uEq_e6, uEq_e7, uEq_e8, uEq_e9, uEq_e10, uEq_e11, uNe_e1, uNe_e2, uNe_e3, uNe_e4, uNe_e5, uNe_e6, uNe_e7, uNe_e8, uNe_e9, uNe_e10, uNe_e11, uIs_e1, uIs_e2, uIs_e3, uIs_e4, uIs_e5, uIs_e6, uNotIs_e1, uNotIs_e2, uNotIs_e3, uNotIs_e4, uNotIs_e5, uNotIs_e6, uIn_e1, uIn_e2, uIn_e3, uIn_e4, uNotIn_e1, uNotIn_e2, uNotIn_e3, uNotIn_e4, uTru_e1, uTru_e2, uTru_e3, uTru_e4, uIx_e2, uSl_e2, uLen_e1, uAbs_e1, uInt_e1, uInt_e2, uMin2_e1, uIsi_e1, uIsi_e2, uIsi_e3, uIsi_e4, cx_K, uVar_0, uVar_n, uFld, uSFld, uMet, uMake, tDG, tDI, tDNI, tDP, tDD, uMk, uRaise, uDelSl, tCallS, L2.WE, uStr_e1, uStr_e2, uMul2_e1, uMul2_e2, okS_i, okS_s, List.zip_cons_cons, List.zip_nil_left, List.drop_zero, List.drop_succ_cons, List.drop_nil, putF_nil, putF_cons, eq_self, tDNewK, tB, Option.isSome_some, Option.isSome_none, false_and, false_or, or_false, exists_false, Int.zero_add, uLc, wipe, tYes, K01.lit_0, K01.lit_1, K01.lit_2, K01.lit_3, K01.lit_4, K01.lit_5, K01.lit_6, K01.lit_7, K01.lit_8, K01.fe_most__texts, K01.fe_most__numbers, K01.fe__texts_most, K01.fe__texts__numbers, K01.fe__numbers_most, K01.fe__numbers__texts, K01.N_Symbols_init, K01.N_Symbols_count, K01.N_Symbols_number, K01.N_Symbols_knows, K01.N_Symbols_text, K01.N_Symbols_texts, K01.N_Symbols_cut, K01.N__law_number, K01.N__law_text, K01.N__law_is, K01.N__law_asked, K01.N__law_agrees, K01.N__law_deed, K01.N_law, sp_Symbols_init, sp_Symbols_count, sp_Symbols_knows, sp_Symbols_text, sp_Symbols_texts, sp_Symbols_cut, sp_Symbols_number])
local macro_rules | `(tactic| walk_at "nn") => `(tactic| first | assumption | exact ne_un (by assumption) | exact ne_un (ne_un (by assumption)) | exact ne_un (ne_un (ne_un (by assumption))) | exact ne_un (ne_un (ne_un (ne_un (by assumption)))))
local macro_rules | `(tactic| walk_at "ne") => `(tactic| first | assumption | (apply Ne.symm; assumption) | exact ne_ud (by assumption) | exact Ne.symm (ne_ud (by assumption)) | exact ne_ud (ne_un (by assumption)) | exact Ne.symm (ne_ud (ne_un (by assumption))) | exact ne_ud (ne_un (ne_un (by assumption))) | exact Ne.symm (ne_ud (ne_un (ne_un (by assumption)))) | exact ne_m (by assumption) (by assumption) | exact Ne.symm (ne_m (by assumption) (by assumption)) | exact ne_n (by assumption) (by walk_at "nn") | exact Ne.symm (ne_n (by assumption) (by walk_at "nn")))
local macro_rules | `(tactic| walk_at "hp") => `(tactic| first | assumption | exact upd_same | (refine Eq.trans (upd_ne ?_) ?_; (focus walk_at "ne"); walk_at "hp"))
local macro_rules | `(tactic| walk_at "sc") => `(tactic| first | (with_reducible assumption) | omega | exact le_line (by (try simp only [List.length_map, List.length_append, List.length_cons, List.length_nil, S_len]); omega) | exact div_s (by omega) | exact mul_r (by omega) | exact mul_l (by omega) | exact pow_s (by omega) | exact mul2_r (by omega) | exact mul2_l (by omega) | exact small4300 (by omega) | exact lt_line (by (try simp only [List.length_map, List.length_append, List.length_cons, List.length_nil, S_len]); omega) | exact ⟨_, by assumption⟩ | (guard_target =~ Exists _; exact ⟨_, .of (by walk_at "hp")⟩) | (guard_target =~ _ ∨ _; exact .inl ⟨_, by assumption⟩) | (guard_target =~ _ ∨ _; exact .inl ⟨_, .of (by walk_at "hp")⟩) | (guard_target =~ _ ∨ _; exact .inr (.inr (.inl ⟨rfl, .inl ⟨_, by walk_at "hp"⟩⟩))) | decide)
local macro_rules | `(tactic| walk_at "kr") => `(tactic| first | (guard_target =~ _ ∧ _; first | refine And.intro (by walk_at "sc") ?_) | (guard_target =~ KW.uIx _ _ _ _ _; first | refine ix_l (by walk_at "hp") (by first | walk_at "hv" | rfl) ?_ | refine ix_t (by walk_at "hp") (by first | walk_at "hv" | rfl) ?_ | refine ix_sl (by assumption) (by walk_at "hv") ?_) | (guard_target =~ KW.uLen _ _ _ _; first | refine len_l (by walk_at "hp") ?_ | refine len_t (by walk_at "hp") ?_ | refine len_sl (by assumption) ?_) | (guard_target =~ KW.uSet _ _ _ _ _; first | refine set_l (by walk_at "hp") (by first | walk_at "hv" | rfl) ?_) | (guard_target =~ L2.gTup _ _ _ _ _ _ _; first | refine tup_l (by walk_at "hp") (by rfl) ?_) | (guard_target =~ KW.uGet _ _ _ _ _; first | refine get_l (by walk_at "hp") (by walk_at "hc") (by decide) (by rfl) ?_) | (guard_target =~ KW.uPut _ _ _ _ _ _; first | refine put_l (by walk_at "hp") (by walk_at "hc") (by decide) (by simp) ?_) | (guard_target =~ KW.uMet.uMt _ _ _ _ _ _ _ _ _; first | refine met_l (by walk_at "hp") (by rfl) ?_) | (guard_target =~ KW.uDIn _ _ _ _; first | refine din_i (by walk_at "hp") ?_ | refine din_s (by walk_at "hp") ?_) | (guard_target =~ KW.uDGet _ _ _ _; first | refine dget_i (by walk_at "hp") (by walk_at "hv") ?_ | refine dget_s (by walk_at "hp") (by walk_at "hv") ?_) | (guard_target =~ KW.uDPut _ _ _ _ _; first | refine dput_i (by walk_at "hp") (by walk_at "sc") ?_ | refine dput_s (by walk_at "hp") (by walk_at "sc") ?_) | (guard_target =~ KW.uDDel _ _ _ _; first | refine ddel_i (by walk_at "hp") (by walk_at "hv") ?_ | refine ddel_s (by walk_at "hp") (by walk_at "hv") ?_) | (guard_target =~ KW.uMul2 _ _ _ _; first | refine rep_l (by walk_at "hp") (by walk_at "sc") (by walk_at "sc") (by walk_at "sc") ?_) | (guard_target =~ L2.rAppend _ _ _ _; first | refine app_l (by walk_at "hp") (by walk_at "sc") ?_) | (guard_target =~ L2.rPop _ _ _ _; first | refine pop_l (by walk_at "hp") (by walk_at "hv") ?_ | refine pops_l (by walk_at "hp") ?_) | (guard_target =~ L2.rClear _ _ _ _; first | refine clr_l (by walk_at "hp") ?_) | (guard_target =~ L2.rReverse _ _ _ _; first | refine rev_l (by walk_at "hp") ?_) | (guard_target =~ L2.rExtend _ _ _ _; first | refine ext_l (by walk_at "hp") (by walk_at "hp") (by walk_at "sc") ?_) | (guard_target =~ KW.uAdd _ _ _ _ _; first | refine ucat_l (by walk_at "hp") (by walk_at "hp") (by walk_at "sc") ?_) | (guard_target =~ KW.uSl _ _ _ _ _ _; first | refine usl_l (by walk_at "hp") ?_) | (guard_target =~ KW.uTru _ _ _ _; first | refine tru_l (by walk_at "hp") ?_ | refine tru_t (by walk_at "hp") ?_ | refine tru_d (by walk_at "hp") ?_ | refine tru_sl (by assumption) ?_) | (guard_target =~ L2.rIndex _ _ _ _ _; first | refine idx_s (by walk_at "hp") (by assumption) ?_ | refine idx_i (by walk_at "hp") (by assumption) ?_) | (guard_target =~ L2.rIn _ _ _ _ _ _; first | refine in_s (by walk_at "hp") ?_ | refine nin_s (by walk_at "hp") ?_ | refine in_i (by walk_at "hp") ?_ | refine nin_i (by walk_at "hp") ?_) | (guard_target =~ KW.uIsi _ _ _ _; first | refine isi_l (by walk_at "hp") (by decide +kernel) ?_ | refine isi_t (by walk_at "hp") (by decide +kernel) ?_ | refine isi_d (by walk_at "hp") (by decide +kernel) ?_) | (guard_target =~ KW.uList _ _ _ _; first | refine list_l (by walk_at "hp") ?_ | refine list_t (by walk_at "hp") ?_ | refine list_sl (by assumption) ?_) | (guard_target =~ KW.uDelC _ _ _ _; first | refine dels_l (by walk_at "hp") (by walk_at "sc") ?_) | (guard_target =~ L2.wAs _ _ _ _ _ _ _ _ _ _; first | refine as_yes (by walk_at "hx") ?_ | refine as_no (by walk_at "hx") ?_) | (guard_target =~ KW.uEf _ _ _ _ _ _ _ _ _; first | refine ef_l (by walk_at "he") (by decide) (by rfl) (by walk_at "hp") (by rfl) ?_) | (guard_target =~ KW.uIsE _ _ _ _ _ _ _; first | refine isE_r (by walk_at "he") (by walk_at "hp") (by walk_at "hk") ?_ | refine isE_t (by walk_at "he") (by walk_at "hp") (by walk_at "hk") ?_))
local macro_rules | `(tactic| walk_at "hv") => `(tactic| first | assumption)
local macro_rules | `(tactic| walk_at "kk") => `(tactic| repeat (first | walk_at "kw" | walk_at "kr"))
local macro_rules | `(tactic| walk_at "hc") => `(tactic| first | exact K01.Txt.c_Symbols (by assumption))
local macro_rules | `(tactic| walk_at "he") => `(tactic| first | exact K01.Txt.e_NoSymbol (by assumption))
local macro_rules | `(tactic| walk_at "hx") => `(tactic| first | exact K01.Txt.x_NoSymbol_KilnwardenError (by assumption))
local macro_rules | `(tactic| walk_at "hk") => `(tactic| first | exact K01.Txt.i_NoSymbol_NoSymbol (by assumption) | exact K01.Txt.i_NoSymbol_ValueError (by assumption))

section
variable {P : Program} {w : World} {K : Frag} {mg : Str → Option Value} {base : Heap} {a : Ads}
theorem ok_Symbols_init (T : Txt P w K mg a) : CalI P w K mg base 1 "Symbols" a.Symbols [.int 100000] (sp_Symbols_init a) := by
  refine T.ini_Symbols.ok T.g_Symbols sc_Symbols_init (fun vs H Q E h => ?_) (fun f cdv A outer s H vs Q E hr h => ⟨_, (pss_cons (k_sfld (kv 0) (kv 1) rfl)
      (pss_cons (k_sfld (kv 0) (pe_lst pa_nil) rfl)
      (pss_one (k_sfld (kv 0) pe_dnewK rfl)))), ?_⟩)
  · obtain ⟨_, _, _, rfl, _⟩ := h; rfl
  · obtain ⟨st, dx, m, rfl, hs, q⟩ := h
    walk_at "kk"
    intro p hp
    walk_at "kk"
    intro r hr2
    walk_at "kk"
    have e1 : p ≠ st := by walk_at "ne"
    have e2 : r ≠ p := by walk_at "ne"
    have e3 : r ≠ st := by walk_at "ne"
    refine q _ p r ?S ?F (by walk_at "nn") (by walk_at "nn")
    case S => exact ⟨⟨dx, upd_same⟩, by walk_at "hp", ⟨[], by walk_at "hp", kok_nil⟩, List.nodup_nil, e2.symm, e1.symm, e3.symm⟩
    intro b o hb hH
    have b1 : b ≠ st := fun z => hb (by simp [z])
    have b2 : b ≠ p := by walk_at "ne"
    have b3 : b ≠ r := by walk_at "ne"
    walk_at "hp"
theorem ok_Symbols_count (T : Txt P w K mg a) : CalM P w K mg base 1 a.Symbols "count" (sp_Symbols_count a) := by
  refine T.m_Symbols_count.ok T.c_Symbols.cls sc_Symbols_count (fun vs H Q E h => ?_) (fun f cdv A outer s H vs Q E hr h => ⟨_, (pss_one (ps_ret (pe_callB c_len (by rfl) T.n_len (by decide +kernel) (pa_cons (k_fld (kv 0) rfl) pa_nil)))), ?_⟩)
  · obtain ⟨_, _, _, _, _, rfl, _⟩ := h; rfl
  · obtain ⟨st, p, q, m, xs, rfl, ⟨⟨dx, ob⟩, tx, nu, nd, pq, sp, sq⟩, hl, hq⟩ := h
    walk_at "kk"
    exact hq
theorem ok_Symbols_knows (T : Txt P w K mg a) : CalM P w K mg base 1 a.Symbols "knows" (sp_Symbols_knows a) := by
  refine T.m_Symbols_knows.ok T.c_Symbols.cls sc_Symbols_knows (fun vs H Q E h => ?_) (fun f cdv A outer s H vs Q E hr h => ⟨_, (pss_one (ps_ret (pe_cmp (k_din (hu_of hr) (kv 1) (k_fld (kv 0) rfl))))), ?_⟩)
  · obtain ⟨_, _, _, _, _, _, rfl, _⟩ := h; rfl
  · obtain ⟨st, p, q, m, xs, x, rfl, ⟨⟨dx, ob⟩, tx, ⟨kvs, nu, ok⟩, nd, pq, sp, sq⟩, hq⟩ := h
    walk_at "kk"
    rw [ok.2 x]
    by_cases c : x ∈ xs <;> simpa [c] using hq
theorem ok_Symbols_text (T : Txt P w K mg a) : CalM P w K mg base 1 a.Symbols "text" (sp_Symbols_text a) := by
  refine T.m_Symbols_text.ok T.c_Symbols.cls sc_Symbols_text (fun vs H Q E h => ?_) (fun f cdv A outer s H vs Q E hr h => ⟨_, (pss_one (ps_ret (pe_ix o_ix (k_fld (kv 0) rfl) (kv 1) (fun _ _ => rfl)))), ?_⟩)
  · obtain ⟨_, _, _, _, _, _, _, rfl, _⟩ := h; rfl
  · obtain ⟨st, p, q, m, xs, i, x, rfl, ⟨⟨dx, ob⟩, tx, nu, nd, pq, sp, sq⟩, hi, hq⟩ := h
    walk_at "kk"
    exact ix_l tx (atI_map hi) hq
theorem ok_Symbols_texts (T : Txt P w K mg a) : CalM P w K mg base 1 a.Symbols "texts" (sp_Symbols_texts a) := by
  refine T.m_Symbols_texts.ok T.c_Symbols.cls sc_Symbols_texts (fun vs H Q E h => ?_) (fun f cdv A outer s H vs Q E hr h => ⟨_, (pss_one (ps_ret (pe_callTy c_list (by rfl) T.n_list (by decide +kernel) (pa_cons (k_fld (kv 0) rfl) pa_nil)))), ?_⟩)
  · obtain ⟨_, _, _, _, _, rfl, _⟩ := h; rfl
  · obtain ⟨st, p, q, m, xs, rfl, ⟨⟨dx, ob⟩, tx, nu, nd, pq, sp, sq⟩, hq⟩ := h
    walk_at "kk"
    exact hq
theorem ok_Symbols_number (T : Txt P w K mg a) : CalM P w K mg base 1 a.Symbols "number" (sp_Symbols_number a) := by
  refine T.m_Symbols_number.ok T.c_Symbols.cls sc_Symbols_number (fun vs H Q E h => ?_) (fun f cdv A outer s H vs Q E hr h => ⟨_, (pss_cons (ps_if (pt_cmp (k_din (hu_of hr) (kv 1) (k_fld (kv 0) rfl)))
      (pss_one (ps_ret (k_dget (hu_of hr) (k_fld (kv 0) rfl) (kv 1))))
      pss_nil)
      (pss_cons (ps_if (pt_cmpR o_gt (pe_callB c_len (by rfl) T.n_len (by decide +kernel) (pa_cons (kv 1) pa_nil)) (k_g T.g_LONGEST) (nomark _))
      (pss_one (k_raise (takes_of rfl rfl rfl rfl) (k_mk T.e_NoSymbol hr (pa_cons (k_g T.g_LONGEST) pa_nil))))
      pss_nil)
      (pss_cons (ps_if (pt_cmpR o_ge (pe_callB c_len (by rfl) T.n_len (by decide +kernel) (pa_cons (k_fld (kv 0) rfl) pa_nil)) (k_fld (kv 0) rfl) (nomark _))
      (pss_one (k_raise (takes_of rfl rfl rfl rfl) (k_mk T.e_NoSymbol hr (pa_cons (k_fld (kv 0) rfl) pa_nil))))
      pss_nil)
      (pss_cons (k_dput (hu_of hr) (k_fld (kv 0) rfl) (kv 1) (pe_callB c_len (by rfl) T.n_len (by decide +kernel) (pa_cons (k_fld (kv 0) rfl) pa_nil)))
      (pss_cons (ps_expr (pe_bm PySem.F.plainAttrs_list PySem.F.slot_list_append PySem.F.type_list_append mt_append (k_fld (kv 0) rfl) (pa_cons (kv 1) pa_nil)))
      (pss_one (ps_ret (pe_op o_sub (pe_callB c_len (by rfl) T.n_len (by decide +kernel) (pa_cons (k_fld (kv 0) rfl) pa_nil)) pe_int)))))))), ?_⟩)
  · obtain ⟨_, _, _, _, _, _, rfl, _⟩ := h; rfl
  · obtain ⟨st, p, q, m, xs, x, rfl, ⟨⟨dx, ob⟩, tx, ⟨kvs, nu, ok⟩, nd, pq, sp, sq⟩, hl, hx, m0, m1, q1, q2, q3, q4⟩ := h
    have ev := ok.2 x
    have ol := ok.1
    walk_at "kk"
    by_cases c : x ∈ xs
    · rw [if_pos c] at ev
      rw [ev]
      walk_at "kk"
      exact q1 c
    · rw [if_neg c] at ev
      rw [ev]
      have hx := hx c
      walk_at "kk"
      split
      · exact ⟨by decide +kernel, q2 c (by omega)⟩
      · walk_at "kk"
        split
        · walk_at "kk"
          exact q3 c (by omega) (by omega)
        · walk_at "kk"
          have e1 := kok_put ok c
          rw [show ((xs.length + 1 : Nat) : Int) - 1 = (xs.length : Int) by omega]
          refine q4 c (by omega) (by omega) _ ?S ?F
          case S => exact ⟨⟨dx, by walk_at "hp"⟩, by rw [List.map_append]; walk_at "hp", ⟨_, by walk_at "hp", e1⟩, List.nodup_append.mpr ⟨nd, by simp, fun u hu v hv => by simp at hv; subst hv; exact fun z => c (z ▸ hu)⟩, pq, sp, sq⟩
          case F => exact (Fr.upd (by simp)).trans (Fr.upd (by simp))
theorem ok_Symbols_cut (T : Txt P w K mg a) : CalM P w K mg base 1 a.Symbols "cut" (sp_Symbols_cut a) := by
  refine T.m_Symbols_cut.ok T.c_Symbols.cls sc_Symbols_cut (fun vs H Q E h => ?_) (fun f cdv A outer s H vs Q E hr h => ⟨_, (pss_cons (k_for (passes_of rfl) rfl (pi_list (pe_slice o_sl (k_fld (kv 0) rfl) (po_some (kv 1)) po_none)) (pg_name (i := 2) sc_Symbols_cut.nd rfl (Or.inl rfl))
      (pss_one (k_ddel (k_fld (kv 0) rfl) (kv 2))))
      (pss_one (k_delsl (k_fld (kv 0) rfl) (kv 1)))), ?_⟩)
  · obtain ⟨_, _, _, _, _, _, rfl, _⟩ := h; rfl
  · obtain ⟨st, p, q, m, xs, n, rfl, ⟨⟨dx, ob⟩, tx, ⟨kvs, nu, ok⟩, nd, pq, sp, sq⟩, hl, hq⟩ := h
    walk_at "kk"
    intro u hu
    walk_at "kk"
    have ec : cutV (xs.map V.str) (some (n : Int)) none = (xs.drop n).map V.str := by rw [cutV_from, List.map_drop]
    rw [ec]
    refine for_lst (xs := (xs.drop n).map V.str) (fun i σ H' => ∃ kvs' v, σ = [some (V.ref st), some (V.int n), v] ∧ H' st = H st ∧ H' p = H p ∧ H' q = some (.dK kvs') ∧ KCut kvs' xs n i ∧ H' u = some (.lst ((xs.drop n).map V.str)) ∧ Fr [p, q] H H') ?_ ?_ ?_ ?_
    · have : u ≠ q := by walk_at "ne"
      have : u ≠ st := by walk_at "ne"
      have : u ≠ p := by walk_at "ne"
      exact ⟨kvs, none, rfl, upd_ne (by walk_at "ne"), upd_ne (by walk_at "ne"), by walk_at "hp", kcut_0 ok, upd_same, Fr.new hu⟩
    · rintro i σ H' - ⟨_, _, -, -, -, -, -, h, -⟩
      exact .of h
    · rintro i x σ H' hx ⟨kvs', v, rfl, h1, h2, h3, h4, h5, h6⟩
      rw [ob] at h1
      rw [List.getElem?_map] at hx
      cases ex : (xs.drop n)[i]? with
      | none => rw [ex] at hx; cases hx
      | some y =>
        rw [ex] at hx
        cases hx
        obtain ⟨k1, k2⟩ := kcut_s nd h4 ex
        walk_at "kk"
        have e1 : u ≠ q := by walk_at "ne"
        have e2 : st ≠ u := by walk_at "ne"
        refine ⟨(upd_ne sq).trans (h1.trans ob.symm), (upd_ne pq).trans h2, _, upd_same, k2, (upd_ne e1).trans h5, h6.trans (Fr.upd (by simp))⟩
    · rintro σ H' ⟨kvs', v, rfl, h1, h2, h3, h4, h5, h6⟩
      rw [ob] at h1
      rw [tx] at h2
      walk_at "kk"
      refine hq _ ?S (h6.trans (Fr.upd (by simp)))
      rw [List.length_map, List.length_drop] at h4
      exact ⟨⟨dx, by walk_at "hp"⟩, by rw [upd_same, Int.toNat_natCast, List.map_take], ⟨_, by walk_at "hp", kcut_e h4 rfl⟩, nd.sublist (List.take_sublist _ _), pq, sp, sq⟩
end
end K01

set_option Elab.async false
set_option linter.all false
set_option maxRecDepth 100000
set_option maxHeartbeats 4000000
namespace K01
open PySem PySem.Spec PyProof.Rows L2 KW
def sp__law_number : Sp := fun vs H Q _ => ∃ (c k : Int), vs = [.int c, .int k] ∧ 0 ≤ k ∧ k ≤ 1000 ∧ ∀ v, 0 ≤ v → Q (.int v) H
def sp__law_text : Sp := fun vs H Q _ => ∃ (x : Int), vs = [.int x] ∧ 0 ≤ x ∧ ∀ t : Str, t.length ≤ 5000 → Q (.str t) H
def sp__law_is : Sp := fun vs H Q _ => ∃ (b c : V), vs = [b, c] ∧ ((∃ x y, b = .str x ∧ c = .str y ∧ Q (.bl (decide (x = y))) H) ∨ (∃ x y, b = .int x ∧ c = .int y ∧ Q (.bl (decide (x = y))) H))
def sp__law_asked (a : Ads) : Sp := fun vs H Q _ => ∃ (st p q tx : Addr) (m : Int) (xs : List Str) (x : Str), vs = [.ref st, .ref tx, .int m, .str x] ∧ Sym a H st p q m xs ∧ H tx = some (.lst (xs.map .str)) ∧ tx ≠ p ∧ xs.length ≤ 500 ∧ x.length ≤ 5000 ∧ 0 ≤ m ∧ m ≤ 1000000 ∧
  ∀ H' xs', Sym a H' st p q m xs' → H' tx = some (.lst (xs'.map .str)) → xs'.length ≤ xs.length + 1 → Fr [p, q, tx] H H' → Q (.bl true) H'
def sp__law_agrees (a : Ads) : Sp := fun vs H Q _ => ∃ (st p q tx : Addr) (m : Int) (xs : List Str), vs = [.ref st, .ref tx] ∧ Sym a H st p q m xs ∧ H tx = some (.lst (xs.map .str)) ∧ tx ≠ p ∧ xs.length ≤ 500 ∧ 0 ≤ m ∧ m ≤ 1000000 ∧ ∀ H', Fr [] H H' → Q (.bl true) H'
def sp__law_deed (a : Ads) : Sp := fun vs H Q _ => ∃ (st p q tx : Addr) (m : Int) (xs : List Str) (x : Int), vs = [.ref st, .ref tx, .int m, .int x] ∧ Sym a H st p q m xs ∧ H tx = some (.lst (xs.map .str)) ∧ tx ≠ p ∧ xs.length ≤ 500 ∧ 0 ≤ x ∧ 0 ≤ m ∧ m ≤ 1000000 ∧
  ∀ H' xs', Sym a H' st p q m xs' → H' tx = some (.lst (xs'.map .str)) → xs'.length ≤ xs.length + 1 → Fr [p, q, tx] H H' → Q (.bl true) H'
local macro_rules | `(tactic| walk_at "kw") => `(tactic| simp only [tSeq, tNext, tIfS, tTest, tAnd, tOr, tNot, tAndV, tOrV, tNotV, tIf, tChain, tOp, tUn, tC, tAsg, gName, gSub, gCons, gNil, tRet, tRetN, tDrop, tCons, tNil, tCB, tAug, tSl, tPart, tNoPart, tLst, tTup, tBM, tBM0, uTest, uFor, iRng1, iRng2, iList, uCall, List.map_cons, List.map_nil, List.length_cons, List.length_nil, List.cons_append, List.nil_append, List.replicate, Nat.zero_add, Nat.reduceAdd, Nat.reduceSub, List.getElem?_cons_zero, List.getElem?_cons_succ, List.set_cons_zero, List.set_cons_succ, V.bl.injEq, V.int.injEq, V.str.injEq, V.ref.injEq, V.ty.injEq, List.cons.injEq, and_true, true_and, exists_eq_left', exists_eq_right, exists_eq_left, exists_and_left, exists_and_right, decide_eq_true_eq, Bool.not_eq_true', decide_eq_false_iff_not, Bool.false_eq_true, if_true, if_false, ite_true, ite_false, Bool.not_true, Bool.not_false, reduceCtorEq, decide_true, decide_false, Bool.not_not, isK_int_int, isK_int_bool, isK_int_str, isK_int_list, isK_int_tuple, isK_bool_int, isK_bool_bool, isK_bool_str, isK_str_str, isK_str_int, isK_str_bool, isK_str_tuple, isK_str_list, isK_list_list, isK_list_tuple, isK_tuple_tuple, isK_tuple_list, isOk_int_int, isOk_int_bool, isOk_int_str, isOk_int_list, isOk_int_tuple, isOk_bool_int, isOk_bool_bool, isOk_bool_str, isOk_str_str, isOk_str_int, isOk_str_bool, isOk_str_tuple, isOk_str_list, isOk_list_list, isOk_list_tuple, isOk_tuple_tuple, isOk_tuple_list, isK_dict_dict, isOk_dict_dict, isK_none_int, isK_none_bool, isOk_none_int, isOk_none_bool, tyV, S_inj, S_cat, L2.start, Nat.reduceSub, List.replicate_succ, List.replicate_zero, and_assoc, List.append_nil, Nat.reduceEqDiff, Option.some.injEq, Int.natCast_inj, upd_upd, Int.reducePow, Int.reduceToNat, Int.reduceMul, Int.reduceAdd, Int.reduceSub, Int.reduceLT, Int.reduceLE, Int.reduceNeg, Int.reduceDiv, Int.reduceMod, Nat.reducePow, Nat.reduceMul, S_len, List.length_append, List.length_map, List.length_range, not_true_eq_false, not_false_eq_true, ne_eq, uAdd_e1, uAdd_e2, uSub_e1, uMod_e1, uDiv_e1, uPow_e1, uShl_e1, uNeg_e1, uIAdd_e1, uIAdd_e2, uIAdd_e3, uISub_e1, uLt_e1, uLt_e2, uLe_e1, uGt_e1, uGe_e1, uEq_e1, uEq_e2, uEq_e3, uEq_e4, uEq_e5, uEq_e6, uEq_e7, uEq_e8, uEq_e9, uEq_e10, uEq_e11, uNe_e1, uNe_e2, uNe_e3, uNe_e4, uNe_e5, uNe_e6, uNe_e7, uNe_e8, uNe_e9, uNe_e10, uNe_e11, uIs_e1, uIs_e2, uIs_e3, uIs_e4, uIs_e5, uIs_e6, uNotIs_e1, uNotIs_e2, uNotIs_e3, uNotIs_e4, uNotIs_e5, uNotIs_e6, uIn_e1, uIn_e2, uIn_e3, uIn_e4, uNotIn_e1, uNotIn_e2, uNotIn_e3, uNotIn_e4, uTru_e1, uTru_e2, uTru_e3, uTru_e4, uIx_e2, uSl_e2, uLen_e1, uAbs_e1, uInt_e1, uInt_e2, uMin2_e1, uIsi_e1, uIsi_e2, uIsi_e3, uIsi_e4, cx_K, uVar_0, uVar_n, uFld, uSFld, uMet, uMake, tDG, tDI, tDNI, tDP, tDD, uMk, uRaise, uDelSl, tCallS, L2.WE, uStr_e1, uStr_e2, uMul2_e1, uMul2_e2, okS_i, okS_s, List.zip_cons_cons, List.zip_nil_left, List.drop_zero, List.drop_succ_cons, List.drop_nil, putF_nil, putF_cons, eq_self, tDNewK, tB, Option.isSome_some, Option.isSome_none, false_and, false_or, or_false, exists_false, Int.zero_add, uLc, wipe, tYes, K01.lit_0, K01.lit_1, K01.lit_2, K01.lit_3, K01.lit_4, K01.lit_5, K01.lit_6, K01.lit_7, K01.lit_8, K01.fe_most__texts, K01.fe_most__numbers, K01.fe__texts_most, K01.fe__texts__numbers, K01.fe__numbers_most, K01.fe__numbers__texts, K01.N_Symbols_init, K01.N_Symbols_count, K01.N_Symbols_number, K01.N_Symbols_knows, K01.N_Symbols_text, K01.N_Symbols_texts, K01.N_Symbols_cut, K01.N__law_number, K01.N__law_text, K01.N__law_is, K01.N__law_asked, K01.N__law_agrees, K01.N__law_deed, K01.N_law, sp_Symbols_init, sp_Symbols_count, sp_Symbols_knows, sp_Symbols_text, sp_Symbols_texts, sp_Symbols_cut, sp_Symbols_number, sp__law_number, sp__law_text, sp__law_is, sp__law_asked, sp__law_agrees, sp__law_deed])
local macro_rules | `(tactic| walk_at "nn") => `(tactic| first | assumption | exact ne_un (by assumption) | exact ne_un (ne_un (by assumption)) | exact ne_un (ne_un (ne_un (by assumption))) | exact ne_un (ne_un (ne_un (ne_un (by assumption)))))
local macro_rules | `(tactic| walk_at "ne") => `(tactic| first | assumption | (apply Ne.symm; assumption) | exact ne_ud (by assumption) | exact Ne.symm (ne_ud (by assumption)) | exact ne_ud (ne_un (by assumption)) | exact Ne.symm (ne_ud (ne_un (by assumption))) | exact ne_ud (ne_un (ne_un (by assumption))) | exact Ne.symm (ne_ud (ne_un (ne_un (by assumption)))) | exact ne_m (by assumption) (by assumption) | exact Ne.symm (ne_m (by assumption) (by assumption)) | exact ne_n (by assumption) (by walk_at "nn") | exact Ne.symm (ne_n (by assumption) (by walk_at "nn")))
local macro_rules | `(tactic| walk_at "hp") => `(tactic| first | assumption | exact upd_same | (refine Eq.trans (upd_ne ?_) ?_; (focus walk_at "ne"); walk_at "hp"))
local macro_rules | `(tactic| walk_at "sc") => `(tactic| first | (with_reducible assumption) | omega | exact le_line (by (try simp only [List.length_map, List.length_append, List.length_cons, List.length_nil, S_len]); omega) | exact div_s (by omega) | exact mul_r (by omega) | exact mul_l (by omega) | exact pow_s (by omega) | exact mul2_r (by omega) | exact mul2_l (by omega) | exact small4300 (by omega) | exact lt_line (by (try simp only [List.length_map, List.length_append, List.length_cons, List.length_nil, S_len]); omega) | exact ⟨_, by assumption⟩ | (guard_target =~ Exists _; exact ⟨_, .of (by walk_at "hp")⟩) | (guard_target =~ _ ∨ _; exact .inl ⟨_, by assumption⟩) | (guard_target =~ _ ∨ _; exact .inl ⟨_, .of (by walk_at "hp")⟩) | (guard_target =~ _ ∨ _; exact .inr (.inr (.inl ⟨rfl, .inl ⟨_, by walk_at "hp"⟩⟩))) | decide)
local macro_rules | `(tactic| walk_at "kr") => `(tactic| first | (guard_target =~ _ ∧ _; first | refine And.intro (by walk_at "sc") ?_) | (guard_target =~ KW.uIx _ _ _ _ _; first | refine ix_l (by walk_at "hp") (by first | walk_at "hv" | rfl) ?_ | refine ix_t (by walk_at "hp") (by first | walk_at "hv" | rfl) ?_ | refine ix_sl (by assumption) (by walk_at "hv") ?_) | (guard_target =~ KW.uLen _ _ _ _; first | refine len_l (by walk_at "hp") ?_ | refine len_t (by walk_at "hp") ?_ | refine len_sl (by assumption) ?_) | (guard_target =~ KW.uSet _ _ _ _ _; first | refine set_l (by walk_at "hp") (by first | walk_at "hv" | rfl) ?_) | (guard_target =~ L2.gTup _ _ _ _ _ _ _; first | refine tup_l (by walk_at "hp") (by rfl) ?_) | (guard_target =~ KW.uGet _ _ _ _ _; first | refine get_l (by walk_at "hp") (by walk_at "hc") (by decide) (by rfl) ?_) | (guard_target =~ KW.uPut _ _ _ _ _ _; first | refine put_l (by walk_at "hp") (by walk_at "hc") (by decide) (by simp) ?_) | (guard_target =~ KW.uMet.uMt _ _ _ _ _ _ _ _ _; first | refine met_l (by walk_at "hp") (by rfl) ?_) | (guard_target =~ KW.uDIn _ _ _ _; first | refine din_i (by walk_at "hp") ?_ | refine din_s (by walk_at "hp") ?_) | (guard_target =~ KW.uDGet _ _ _ _; first | refine dget_i (by walk_at "hp") (by walk_at "hv") ?_ | refine dget_s (by walk_at "hp") (by walk_at "hv") ?_) | (guard_target =~ KW.uDPut _ _ _ _ _; first | refine dput_i (by walk_at "hp") (by walk_at "sc") ?_ | refine dput_s (by walk_at "hp") (by walk_at "sc") ?_) | (guard_target =~ KW.uDDel _ _ _ _; first | refine ddel_i (by walk_at "hp") (by walk_at "hv") ?_ | refine ddel_s (by walk_at "hp") (by walk_at "hv") ?_) | (guard_target =~ KW.uMul2 _ _ _ _; first | refine rep_l (by walk_at "hp") (by walk_at "sc") (by walk_at "sc") (by walk_at "sc") ?_) | (guard_target =~ L2.rAppend _ _ _ _; first | refine app_l (by walk_at "hp") (by walk_at "sc") ?_) | (guard_target =~ L2.rPop _ _ _ _; first | refine pop_l (by walk_at "hp") (by walk_at "hv") ?_ | refine pops_l (by walk_at "hp") ?_) | (guard_target =~ L2.rClear _ _ _ _; first | refine clr_l (by walk_at "hp") ?_) | (guard_target =~ L2.rReverse _ _ _ _; first | refine rev_l (by walk_at "hp") ?_) | (guard_target =~ L2.rExtend _ _ _ _; first | refine ext_l (by walk_at "hp") (by walk_at "hp") (by walk_at "sc") ?_) | (guard_target =~ KW.uAdd _ _ _ _ _; first | refine ucat_l (by walk_at "hp") (by walk_at "hp") (by walk_at "sc") ?_) | (guard_target =~ KW.uSl _ _ _ _ _ _; first | refine usl_l (by walk_at "hp") ?_) | (guard_target =~ KW.uTru _ _ _ _; first | refine tru_l (by walk_at "hp") ?_ | refine tru_t (by walk_at "hp") ?_ | refine tru_d (by walk_at "hp") ?_ | refine tru_sl (by assumption) ?_) | (guard_target =~ L2.rIndex _ _ _ _ _; first | refine idx_s (by walk_at "hp") (by assumption) ?_ | refine idx_i (by walk_at "hp") (by assumption) ?_) | (guard_target =~ L2.rIn _ _ _ _ _ _; first | refine in_s (by walk_at "hp") ?_ | refine nin_s (by walk_at "hp") ?_ | refine in_i (by walk_at "hp") ?_ | refine nin_i (by walk_at "hp") ?_) | (guard_target =~ KW.uIsi _ _ _ _; first | refine isi_l (by walk_at "hp") (by decide +kernel) ?_ | refine isi_t (by walk_at "hp") (by decide +kernel) ?_ | refine isi_d (by walk_at "hp") (by decide +kernel) ?_) | (guard_target =~ KW.uList _ _ _ _; first | refine list_l (by walk_at "hp") ?_ | refine list_t (by walk_at "hp") ?_ | refine list_sl (by assumption) ?_) | (guard_target =~ KW.uDelC _ _ _ _; first | refine dels_l (by walk_at "hp") (by walk_at "sc") ?_) | (guard_target =~ L2.wAs _ _ _ _ _ _ _ _ _ _; first | refine as_yes (by walk_at "hx") ?_ | refine as_no (by walk_at "hx") ?_) | (guard_target =~ KW.uEf _ _ _ _ _ _ _ _ _; first | refine ef_l (by walk_at "he") (by decide) (by rfl) (by walk_at "hp") (by rfl) ?_) | (guard_target =~ KW.uIsE _ _ _ _ _ _ _; first | refine isE_r (by walk_at "he") (by walk_at "hp") (by walk_at "hk") ?_ | refine isE_t (by walk_at "he") (by walk_at "hp") (by walk_at "hk") ?_))
local macro_rules | `(tactic| walk_at "hv") => `(tactic| first | assumption)
local macro_rules | `(tactic| walk_at "kk") => `(tactic| repeat (first | walk_at "kw" | walk_at "kr"))
local macro_rules | `(tactic| walk_at "hc") => `(tactic| first | exact K01.Txt.c_Symbols (by assumption))
local macro_rules | `(tactic| walk_at "he") => `(tactic| first | exact K01.Txt.e_NoSymbol (by assumption))
local macro_rules | `(tactic| walk_at "hx") => `(tactic| first | exact K01.Txt.x_NoSymbol_KilnwardenError (by assumption))
local macro_rules | `(tactic| walk_at "hk") => `(tactic| first | exact K01.Txt.i_NoSymbol_NoSymbol (by assumption) | exact K01.Txt.i_NoSymbol_ValueError (by assumption))

section
variable {P : Program} {w : World} {K : Frag} {mg : Str → Option Value} {base : Heap} {a : Ads}
theorem ok__law_number (T : Txt P w K mg a) : Cal P w K mg base 1 "_law_number" sp__law_number := by
  refine T.d__law_number.ok sc__law_number (fun vs H Q E h => ?_) (fun f cdv A outer s H vs Q E hr h => ⟨_, (pss_cons (ps_if (pt_cmpR o_ge (kv 0) (pe_op o_pow pe_int pe_int) (nomark _))
      (pss_one (ps_ret (kv 0)))
      pss_nil)
      (pss_cons (ps_set (i := 2) sc__law_number.nd rfl (Or.inl rfl) (pe_op o_mod (pe_callTy c_int (by rfl) T.n_int (by decide +kernel) (pa_cons (pe_op o_add (pe_op o_add (pe_op o_mul2 (kv 0) pe_int) (pe_op o_mul2 (kv 1) pe_int)) pe_int) pa_nil)) pe_int))
      (pss_one (ps_ret (pe_op o_mod (pe_callTy c_int (by rfl) T.n_int (by decide +kernel) (pa_cons (pe_op o_add (pe_op o_mul2 (kv 2) (kv 2)) (pe_op o_mul2 (kv 1) pe_int)) pa_nil)) pe_int))))), ?_⟩)
  · obtain ⟨_, _, rfl, _⟩ := h; rfl
  · obtain ⟨c, k, rfl, hk, hk2, h⟩ := h
    walk_at "kk"
    split
    · exact h _ (by omega)
    · walk_at "kk"
      exact h _ (by omega)
theorem ok__law_text (T : Txt P w K mg a) : Cal P w K mg base 1 "_law_text" sp__law_text := by
  refine T.d__law_text.ok sc__law_text (fun vs H Q E h => ?_) (fun f cdv A outer s H vs Q E hr h => ⟨_, (pss_cons (ps_if (pt_cmpR (o_eq hr.units) (pe_op o_mod (pe_callTy c_int (by rfl) T.n_int (by decide +kernel) (pa_cons (kv 0) pa_nil)) pe_int) pe_int (nomark _))
      (pss_cons (ps_if (pt_cmpR (o_eq hr.units) (pe_op o_mod (pe_op o_fdiv (kv 0) pe_int) pe_int) pe_int (nomark _))
      (pss_one (ps_ret (pe_op o_mul2 pe_str (pe_op o_add pe_int (pe_op o_mod (pe_op o_fdiv (kv 0) pe_int) pe_int)))))
      pss_nil)
      (pss_one (ps_ret (pe_op o_mul2 pe_str (pe_op o_add pe_int (pe_op o_mod (pe_op o_fdiv (kv 0) pe_int) pe_int))))))
      pss_nil)
      (pss_cons (ps_set (i := 1) sc__law_text.nd rfl (Or.inl rfl) pe_str)
      (pss_cons (ps_set (i := 2) sc__law_text.nd rfl (Or.inl rfl) (pe_op o_mod (pe_op o_fdiv (kv 0) pe_int) pe_int))
      (C8.pss_cut (ps_if (pt_cmpR (o_eq hr.units) (pe_op o_mod (pe_op o_mod (pe_callTy c_int (by rfl) T.n_int (by decide +kernel) (pa_cons (kv 0) pa_nil)) pe_int) pe_int) pe_int (nomark _))
      (pss_cons (ps_set (i := 1) sc__law_text.nd rfl (Or.inl rfl) pe_str)
      (pss_cons (ps_set (i := 1) sc__law_text.nd rfl (Or.inl rfl) (pe_op o_add (kv 1) pe_str))
      (pss_one (ps_set (i := 2) sc__law_text.nd rfl (Or.inl rfl) (pe_op o_mod (pe_op o_fdiv (kv 0) pe_int) pe_int)))))
      pss_nil)
      (pss_cons (ps_set (i := 3) sc__law_text.nd rfl (Or.inl rfl) (pe_op o_fdiv (kv 0) pe_int))
      (pss_cons (ps_set (i := 4) sc__law_text.nd rfl (Or.inl rfl) pe_str)
      (pss_cons (k_for (passes_of rfl) rfl (pi_range1 (by rfl) T.n_range (pa_cons (kv 2) pa_nil)) (pg_name (i := 5) sc__law_text.nd rfl (Or.inl rfl))
      (pss_cons (ps_set (i := 4) sc__law_text.nd rfl (Or.inl rfl) (pe_op o_add (kv 4) (pe_ix o_ix (kv 1) (pe_op o_mod (pe_callTy c_int (by rfl) T.n_int (by decide +kernel) (pa_cons (kv 3) pa_nil)) (pe_callB c_len (by rfl) T.n_len (by decide +kernel) (pa_cons (kv 1) pa_nil))) (fun _ _ => rfl))))
      (pss_one (ps_set (i := 3) sc__law_text.nd rfl (Or.inl rfl) (pe_op o_fdiv (kv 3) (pe_callB c_len (by rfl) T.n_len (by decide +kernel) (pa_cons (kv 1) pa_nil)))))))
      (pss_one (ps_ret (kv 4)))))))))), ?_⟩)
  · obtain ⟨_, rfl, _⟩ := h; rfl
  · obtain ⟨x, rfl, hx, h⟩ := h
    walk_at "kk"
    split
    · walk_at "kk"
      split
      · walk_at "kk"
        exact h _ (by rw [repS_len, S_len]; simp only [List.length_cons, List.length_nil]; omega)
      · walk_at "kk"
        exact h _ (by rw [repS_len, S_len]; simp only [List.length_cons, List.length_nil]; omega)
    · walk_at "kk"
      have e3 : str_3.length = 64 := by decide +kernel
      have e4 : str_4.length = 31 := by decide +kernel
      refine ⟨fun σ H' => ∃ (cs : List Nat) (n : Int), σ = [some (.int x), some (.str (S cs)), some (.int n), none, none, none] ∧ 0 < cs.length ∧ cs.length ≤ 200 ∧ 0 ≤ n ∧ n ≤ 7 ∧ H' = H, ?_, ?_⟩
      · walk_at "kk"
        split
        · walk_at "kk"
          omega
        · walk_at "kk"
          omega
      rintro σ H' ⟨cs, n, rfl, c0, c1, n0, n1, rfl⟩
      walk_at "kk"
      refine for_rng (fun i σ H'' => (∃ (r : Int) (l : List Nat) (v : Option V), σ = [some (.int x), some (.str (S cs)), some (.int n), some (.int r), some (.str (S l)), v] ∧ l.length = i) ∧ H'' = H') ?_ ?_ ?_
      · exact ⟨⟨_, [], _, rfl, rfl⟩, rfl⟩
      · rintro i σ H6 hi ⟨⟨r, l, v, rfl, hl⟩, rfl⟩
        walk_at "kk"
        obtain ⟨c, _, hc⟩ := atI_int (xs := cs) (r := r % (cs.length : Int)) (Int.emod_nonneg _ (by omega)) (Int.emod_lt_of_pos _ (by omega))
        exact ⟨⟨_, hc⟩, le_line (by omega), le_line (by omega), div_s (by omega), ⟨_, rfl⟩, by omega⟩
      · rintro σ H6 ⟨⟨r, l, v, rfl, hl⟩, rfl⟩
        walk_at "kk"
        exact h (S l) (by rw [S_len]; omega)
theorem ok__law_is (T : Txt P w K mg a) : Cal P w K mg base 1 "_law_is" sp__law_is := by
  refine T.d__law_is.ok sc__law_is (fun vs H Q E h => ?_) (fun f cdv A outer s H vs Q E hr h => ⟨_, (pss_cons (ps_if (kt (pe_callB c_isi (by rfl) T.n_isinstance (by decide +kernel) (pa_cons (kv 1) (pa_cons (pe_bltn (v := .ty "str") (by rfl) T.n_str (by decide +kernel) rfl) pa_nil))))
      (pss_one (ps_ret (pe_and (pe_callB c_isi (by rfl) T.n_isinstance (by decide +kernel) (pa_cons (kv 0) (pa_cons (pe_bltn (v := .ty "str") (by rfl) T.n_str (by decide +kernel) rfl) pa_nil))) (pe_one (pe_cmpR (o_eq hr.units) (kv 0) (kv 1) (nomark _))))))
      pss_nil)
      (pss_one (ps_ret (pe_and (pe_callB c_isi (by rfl) T.n_isinstance (by decide +kernel) (pa_cons (kv 0) (pa_cons (pe_bltn (v := .ty "int") (by rfl) T.n_int (by decide +kernel) rfl) pa_nil))) (pe_and (pe_not (pe_callB c_isi (by rfl) T.n_isinstance (by decide +kernel) (pa_cons (kv 0) (pa_cons (pe_bltn (v := .ty "bool") (by rfl) T.n_bool (by decide +kernel) rfl) pa_nil)))) (pe_one (pe_cmpR (o_eq hr.units) (kv 0) (kv 1) (nomark _)))))))), ?_⟩)
  · obtain ⟨_, _, rfl, _⟩ := h; rfl
  · obtain ⟨b, c, rfl, ⟨x, y, rfl, rfl, h⟩ | ⟨x, y, rfl, rfl, h⟩⟩ := h
    · walk_at "kk"
      exact h
    · walk_at "kk"
      exact h
theorem ok__law_asked (T : Txt P w K mg a) : Cal P w K mg base 2 "_law_asked" (sp__law_asked a) := by
  have C__law_is := ok__law_is (P := P) (w := w) (base := base) T
  have M_Symbols_number := ok_Symbols_number (P := P) (w := w) (base := base) T
  refine T.d__law_asked.ok sc__law_asked (fun vs H Q E h => ?_) (fun f cdv A outer s H vs Q E hr h => ⟨_, (pss_cons (ps_set (i := 4) sc__law_asked.nd rfl (Or.inl rfl) (pe_tup (pa_cons pe_str (pa_cons (pe_callB c_len (by rfl) T.n_len (by decide +kernel) (pa_cons (kv 1) pa_nil)) pa_nil))))
      (pss_cons (ps_if (pt_cmpR o_in (kv 3) (kv 1) (by rfl))
      (pss_one (ps_set (i := 4) sc__law_asked.nd rfl (Or.inl rfl) (pe_tup (pa_cons pe_str (pa_cons (pe_bm PySem.F.plainAttrs_list PySem.F.slot_list_index PySem.F.type_list_index mt_index (kv 1) (pa_cons (kv 3) pa_nil)) pa_nil)))))
      (pss_one (ps_if (pt_cmpR o_gt (pe_callB c_len (by rfl) T.n_len (by decide +kernel) (pa_cons (kv 3) pa_nil)) pe_int (nomark _))
      (pss_one (ps_set (i := 4) sc__law_asked.nd rfl (Or.inl rfl) (pe_tup (pa_cons pe_str (pa_cons pe_int pa_nil)))))
      (pss_one (ps_if (pt_cmpR o_ge (pe_callB c_len (by rfl) T.n_len (by decide +kernel) (pa_cons (kv 1) pa_nil)) (kv 2) (nomark _))
      (pss_one (ps_set (i := 4) sc__law_asked.nd rfl (Or.inl rfl) (pe_tup (pa_cons pe_str (pa_cons (kv 2) pa_nil)))))
      (pss_one (ps_expr (pe_bm PySem.F.plainAttrs_list PySem.F.slot_list_append PySem.F.type_list_append mt_append (kv 1) (pa_cons (kv 3) pa_nil)))))))))
      (pss_cons (ps_try_as (X := (cxOf (L2.CX P w) P w K mg base N__law_asked "_law_asked" (defScope s__law_asked) f cdv A outer s H E)) (i := 6) rfl rfl sc__law_asked.nd rfl rfl ⟨by rfl, by decide, .inl T.g_KilnwardenError⟩ (takes_of rfl rfl rfl rfl) (fun W pn xe tk po => (pss_one (ps_set (i := 5) sc__law_asked.nd rfl (Or.inl rfl) (pe_tup (pa_cons pe_str (pa_cons (kmX tk M_Symbols_number (hr.mono (by decide)) (kv 0) (pa_cons (kv 3) pa_nil)) pa_nil))))))
      (fun ea oe cls d pn hz hf => by
        have hsu : PSs (Cx.suite (cxOf (L2.CX P w) P w K mg base N__law_asked "_law_asked" (defScope s__law_asked) f cdv A outer s H E) ea ((ea, oe) :: pn)) (suB (nthS (defBody s__law_asked) 2)) _ := (pss_cons (ps_if (PW.pt (pw_or (pt_not (kt (k_isE hz hf T.n_isinstance (pa_cons (kv 6) (pa_cons (pe_glob (v := .ref a.NoSymbol) (by rfl) T.g_NoSymbol rfl) pa_nil))))) (pw_or1 (pt_not (kt (k_isE hz hf T.n_isinstance (pa_cons (kv 6) (pa_cons (pe_bltn (v := .ty "ValueError") (by rfl) T.n_ValueError (by decide +kernel) rfl) pa_nil))))))))
      (pss_one (ps_ret pe_bl))
      pss_nil)
      (pss_one (ps_set (i := 5) sc__law_asked.nd rfl (Or.inl rfl) (pe_tup (pa_cons pe_str (pa_cons (k_ef 6 hz hf) pa_nil))))))
        dsimp only [Cx.suite] at hsu
        exact hsu))
      (pss_one (ps_ret (pe_and (pe_cmpR (o_eq hr.units) (pe_ix o_ix (kv 5) pe_int (fun _ _ => rfl)) (pe_ix o_ix (kv 4) pe_int (fun _ _ => rfl)) (nomark _)) (pe_one (kc C__law_is (hr.mono (by decide)) (pa_cons (pe_ix o_ix (kv 5) pe_int (fun _ _ => rfl)) (pa_cons (pe_ix o_ix (kv 4) pe_int (fun _ _ => rfl)) pa_nil)))))))))), ?_⟩)
  · obtain ⟨_, _, _, _, _, _, _, rfl, _⟩ := h; rfl
  · obtain ⟨st, p, q, tx, m, xs, x, rfl, S, ht, tp, hl, hx, m0, m1, h⟩ := h
    obtain ⟨⟨dx, ob⟩, ptx, ⟨kvs, nu, kok⟩, nd, pq, sp, sq⟩ := id S
    have n1 : tx ≠ st := fun e => by subst e; rw [ht] at ob; cases ob
    have n2 : tx ≠ q := fun e => by subst e; rw [ht] at nu; cases nu
    walk_at "kk"
    intro t ht0
    walk_at "kk"
    have S1 := S.new (o := .tup [.str (KW.S [110, 117, 109, 98, 101, 114]), .int xs.length]) ht0
    split
    · rename_i c
      walk_at "kk"
      intro t2 ht2
      walk_at "kk"
      refine ⟨p, q, m, xs, S1.new ht2, by omega, fun z => absurd c z, m0, m1, fun _ => ?_, fun z => absurd c z, fun z => absurd c z, fun z => absurd c z⟩
      walk_at "kk"
      intro t3 ht3
      walk_at "kk"
      exact h _ xs ((S1.new ht2).new ht3) (by walk_at "hp") (by omega) ((Fr.new ht0).trans ((Fr.new ht2).trans (Fr.new ht3)))
    · rename_i c
      walk_at "kk"
      split
      · walk_at "kk"
        intro t2 ht2
        walk_at "kk"
        refine ⟨p, q, m, xs, S1.new ht2, by omega, fun _ => hx, m0, m1, fun z => absurd z c, fun _ _ e he => ?_, fun _ _ => by omega, fun _ _ => by omega⟩
        walk_at "kk"
        intro ea hea
        walk_at "kk"
        intro t3 ht3
        walk_at "kk"
        exact h _ xs (((S1.new ht2).new he).new ht3) (by walk_at "hp") (by omega) ((Fr.new ht0).trans ((Fr.new ht2).trans ((Fr.new he).trans (Fr.new ht3))))
      · walk_at "kk"
        split
        · walk_at "kk"
          intro t2 ht2
          walk_at "kk"
          refine ⟨p, q, m, xs, S1.new ht2, by omega, fun _ => hx, m0, m1, fun z => absurd z c, fun _ z => by omega, fun _ _ _ e he => ?_, fun _ _ => by omega⟩
          walk_at "kk"
          intro ea hea
          walk_at "kk"
          intro t3 ht3
          walk_at "kk"
          exact h _ xs (((S1.new ht2).new he).new ht3) (by walk_at "hp") (by omega) ((Fr.new ht0).trans ((Fr.new ht2).trans ((Fr.new he).trans (Fr.new ht3))))
        · walk_at "kk"
          have S2 : Sym a (upd (upd H t (.tup [.str (KW.S [110, 117, 109, 98, 101, 114]), .int xs.length])) tx (.lst (List.map V.str xs ++ [V.str x]))) st p q m xs := S1.fr (l := [tx]) (Fr.upd (by simp)) (by simp [Ne.symm n1]) (by simp [Ne.symm tp]) (by simp [Ne.symm n2])
          refine ⟨p, q, m, xs, S2, by omega, fun _ => hx, m0, m1, fun z => absurd z c, fun _ z => by omega, fun _ _ z => by omega, fun _ _ _ H3 S3 f3 => ?_⟩
          have et : H3 t = some (.tup [.str (KW.S [110, 117, 109, 98, 101, 114]), .int xs.length]) := f3 _ _ (by have e1 : t ≠ p := (by walk_at "ne"); have e2 : t ≠ q := (by walk_at "ne"); simp [e1, e2]) (by walk_at "hp")
          have ex : H3 tx = some (.lst (List.map V.str xs ++ [V.str x])) := f3 _ _ (by simp [tp, n2]) (by walk_at "hp")
          walk_at "kk"
          intro t3 ht3
          walk_at "kk"
          exact h _ (xs ++ [x]) (S3.new ht3) (by rw [List.map_append]; walk_at "hp") (by simp) ((Fr.new ht0).trans ((Fr.upd (by simp)).trans ((f3.mono (by simp)).trans (Fr.new ht3))))
end
end K01

set_option Elab.async false
set_option linter.all false
set_option maxRecDepth 100000
set_option maxHeartbeats 4000000
namespace K01
open PySem PySem.Spec PyProof.Rows L2 KW
theorem idxOf_lt {x : Str} {xs : List Str} (h : x ∈ xs) : xs.idxOf x < xs.length := (List.getElem?_eq_some_iff.mp (idxOf_get h).1).1
local macro_rules | `(tactic| walk_at "kw") => `(tactic| simp only [tSeq, tNext, tIfS, tTest, tAnd, tOr, tNot, tAndV, tOrV, tNotV, tIf, tChain, tOp, tUn, tC, tAsg, gName, gSub, gCons, gNil, tRet, tRetN, tDrop, tCons, tNil, tCB, tAug, tSl, tPart, tNoPart, tLst, tTup, tBM, tBM0, uTest, uFor, iRng1, iRng2, iList, uCall, List.map_cons, List.map_nil, List.length_cons, List.length_nil, List.cons_append, List.nil_append, List.replicate, Nat.zero_add, Nat.reduceAdd, Nat.reduceSub, List.getElem?_cons_zero, List.getElem?_cons_succ, List.set_cons_zero, List.set_cons_succ, V.bl.injEq, V.int.injEq, V.str.injEq, V.ref.injEq, V.ty.injEq, List.cons.injEq, and_true, true_and, exists_eq_left', exists_eq_right, exists_eq_left, exists_and_left, exists_and_right, decide_eq_true_eq, Bool.not_eq_true', decide_eq_false_iff_not, Bool.false_eq_true, if_true, if_false, ite_true, ite_false, Bool.not_true, Bool.not_false, reduceCtorEq, decide_true, decide_false, Bool.not_not, isK_int_int, isK_int_bool, isK_int_str, isK_int_list, isK_int_tuple, isK_bool_int, isK_bool_bool, isK_bool_str, isK_str_str, isK_str_int, isK_str_bool, isK_str_tuple, isK_str_list, isK_list_list, isK_list_tuple, isK_tuple_tuple, isK_tuple_list, isOk_int_int, isOk_int_bool, isOk_int_str, isOk_int_list, isOk_int_tuple, isOk_bool_int, isOk_bool_bool, isOk_bool_str, isOk_str_str, isOk_str_int, isOk_str_bool, isOk_str_tuple, isOk_str_list, isOk_list_list, isOk_list_tuple, isOk_tuple_tuple, isOk_tuple_list, isK_dict_dict, isOk_dict_dict, isK_none_int, isK_none_bool, isOk_none_int, isOk_none_bool, tyV, S_inj, S_cat, L2.start, Nat.reduceSub, List.replicate_succ, List.replicate_zero, and_assoc, List.append_nil, Nat.reduceEqDiff, Option.some.injEq, Int.natCast_inj, upd_upd, Int.reducePow, Int.reduceToNat, Int.reduceMul, Int.reduceAdd, Int.reduceSub, Int.reduceLT, Int.reduceLE, Int.reduceNeg, Int.reduceDiv, Int.reduceMod, Nat.reducePow, Nat.reduceMul, S_len, List.length_append, List.length_map, List.length_range, not_true_eq_false, not_false_eq_true, ne_eq, uAdd_e1, uAdd_e2, uSub_e1, uMod_e1, uDiv_e1, uPow_e1, uShl_e1, uNeg_e1, uIAdd_e1, uIAdd_e2, uIAdd_e3, uISub_e1, uLt_e1, uLt_e2, uLe_e1, uGt_e1, uGe_e1, uEq_e1, uEq_e2, uEq_e3, uEq_e4, uEq_e5, uEq_e6, uEq_e7, uEq_e8, uEq_e9, uEq_e10, uEq_e11, uNe_e1, uNe_e2, uNe_e3, uNe_e4, uNe_e5, uNe_e6, uNe_e7, uNe_e8, uNe_e9, uNe_e10, uNe_e11, uIs_e1, uIs_e2, uIs_e3, uIs_e4, uIs_e5, uIs_e6, uNotIs_e1, uNotIs_e2, uNotIs_e3, uNotIs_e4, uNotIs_e5, uNotIs_e6, uIn_e1, uIn_e2, uIn_e3, uIn_e4, uNotIn_e1, uNotIn_e2, uNotIn_e3, uNotIn_e4, uTru_e1, uTru_e2, uTru_e3, uTru_e4, uIx_e2, uSl_e2, uLen_e1, uAbs_e1, uInt_e1, uInt_e2, uMin2_e1, uIsi_e1, uIsi_e2, uIsi_e3, uIsi_e4, cx_K, uVar_0, uVar_n, uFld, uSFld, uMet, uMake, tDG, tDI, tDNI, tDP, tDD, uMk, uRaise, uDelSl, tCallS, L2.WE, uStr_e1, uStr_e2, uMul2_e1, uMul2_e2, okS_i, okS_s, List.zip_cons_cons, List.zip_nil_left, List.drop_zero, List.drop_succ_cons, List.drop_nil, putF_nil, putF_cons, eq_self, tDNewK, tB, Option.isSome_some, Option.isSome_none, false_and, false_or, or_false, exists_false, Int.zero_add, uLc, wipe, tYes, K01.lit_0, K01.lit_1, K01.lit_2, K01.lit_3, K01.lit_4, K01.lit_5, K01.lit_6, K01.lit_7, K01.lit_8, K01.fe_most__texts, K01.fe_most__numbers, K01.fe__texts_most, K01.fe__texts__numbers, K01.fe__numbers_most, K01.fe__numbers__texts, K01.N_Symbols_init, K01.N_Symbols_count, K01.N_Symbols_number, K01.N_Symbols_knows, K01.N_Symbols_text, K01.N_Symbols_texts, K01.N_Symbols_cut, K01.N__law_number, K01.N__law_text, K01.N__law_is, K01.N__law_asked, K01.N__law_agrees, K01.N__law_deed, K01.N_law, sp_Symbols_init, sp_Symbols_count, sp_Symbols_knows, sp_Symbols_text, sp_Symbols_texts, sp_Symbols_cut, sp_Symbols_number, sp__law_number, sp__law_text, sp__law_is, sp__law_asked, sp__law_agrees, sp__law_deed])
local macro_rules | `(tactic| walk_at "nn") => `(tactic| first | assumption | exact ne_un (by assumption) | exact ne_un (ne_un (by assumption)) | exact ne_un (ne_un (ne_un (by assumption))) | exact ne_un (ne_un (ne_un (ne_un (by assumption)))))
local macro_rules | `(tactic| walk_at "ne") => `(tactic| first | assumption | (apply Ne.symm; assumption) | exact ne_ud (by assumption) | exact Ne.symm (ne_ud (by assumption)) | exact ne_ud (ne_un (by assumption)) | exact Ne.symm (ne_ud (ne_un (by assumption))) | exact ne_ud (ne_un (ne_un (by assumption))) | exact Ne.symm (ne_ud (ne_un (ne_un (by assumption)))) | exact ne_m (by assumption) (by assumption) | exact Ne.symm (ne_m (by assumption) (by assumption)) | exact ne_n (by assumption) (by walk_at "nn") | exact Ne.symm (ne_n (by assumption) (by walk_at "nn")))
local macro_rules | `(tactic| walk_at "hp") => `(tactic| first | assumption | exact upd_same | (refine Eq.trans (upd_ne ?_) ?_; (focus walk_at "ne"); walk_at "hp"))
local macro_rules | `(tactic| walk_at "sc") => `(tactic| first | (with_reducible assumption) | omega | exact le_line (by (try simp only [List.length_map, List.length_append, List.length_cons, List.length_nil, S_len]); omega) | exact div_s (by omega) | exact mul_r (by omega) | exact mul_l (by omega) | exact pow_s (by omega) | exact mul2_r (by omega) | exact mul2_l (by omega) | exact small4300 (by omega) | exact lt_line (by (try simp only [List.length_map, List.length_append, List.length_cons, List.length_nil, S_len]); omega) | exact ⟨_, by assumption⟩ | (guard_target =~ Exists _; exact ⟨_, .of (by walk_at "hp")⟩) | (guard_target =~ _ ∨ _; exact .inl ⟨_, by assumption⟩) | (guard_target =~ _ ∨ _; exact .inl ⟨_, .of (by walk_at "hp")⟩) | (guard_target =~ _ ∨ _; exact .inr (.inr (.inl ⟨rfl, .inl ⟨_, by walk_at "hp"⟩⟩))) | decide)
local macro_rules | `(tactic| walk_at "kr") => `(tactic| first | (guard_target =~ _ ∧ _; first | refine And.intro (by walk_at "sc") ?_) | (guard_target =~ KW.uIx _ _ _ _ _; first | refine ix_l (by walk_at "hp") (by first | walk_at "hv" | rfl) ?_ | refine ix_t (by walk_at "hp") (by first | walk_at "hv" | rfl) ?_ | refine ix_sl (by assumption) (by walk_at "hv") ?_) | (guard_target =~ KW.uLen _ _ _ _; first | refine len_l (by walk_at "hp") ?_ | refine len_t (by walk_at "hp") ?_ | refine len_sl (by assumption) ?_) | (guard_target =~ KW.uSet _ _ _ _ _; first | refine set_l (by walk_at "hp") (by first | walk_at "hv" | rfl) ?_) | (guard_target =~ L2.gTup _ _ _ _ _ _ _; first | refine tup_l (by walk_at "hp") (by rfl) ?_) | (guard_target =~ KW.uGet _ _ _ _ _; first | refine get_l (by walk_at "hp") (by walk_at "hc") (by decide) (by rfl) ?_) | (guard_target =~ KW.uPut _ _ _ _ _ _; first | refine put_l (by walk_at "hp") (by walk_at "hc") (by decide) (by simp) ?_) | (guard_target =~ KW.uMet.uMt _ _ _ _ _ _ _ _ _; first | refine met_l (by walk_at "hp") (by rfl) ?_) | (guard_target =~ KW.uDIn _ _ _ _; first | refine din_i (by walk_at "hp") ?_ | refine din_s (by walk_at "hp") ?_) | (guard_target =~ KW.uDGet _ _ _ _; first | refine dget_i (by walk_at "hp") (by walk_at "hv") ?_ | refine dget_s (by walk_at "hp") (by walk_at "hv") ?_) | (guard_target =~ KW.uDPut _ _ _ _ _; first | refine dput_i (by walk_at "hp") (by walk_at "sc") ?_ | refine dput_s (by walk_at "hp") (by walk_at "sc") ?_) | (guard_target =~ KW.uDDel _ _ _ _; first | refine ddel_i (by walk_at "hp") (by walk_at "hv") ?_ | refine ddel_s (by walk_at "hp") (by walk_at "hv") ?_) | (guard_target =~ KW.uMul2 _ _ _ _; first | refine rep_l (by walk_at "hp") (by walk_at "sc") (by walk_at "sc") (by walk_at "sc") ?_) | (guard_target =~ L2.rAppend _ _ _ _; first | refine app_l (by walk_at "hp") (by walk_at "sc") ?_) | (guard_target =~ L2.rPop _ _ _ _; first | refine pop_l (by walk_at "hp") (by walk_at "hv") ?_ | refine pops_l (by walk_at "hp") ?_) | (guard_target =~ L2.rClear _ _ _ _; first | refine clr_l (by walk_at "hp") ?_) | (guard_target =~ L2.rReverse _ _ _ _; first | refine rev_l (by walk_at "hp") ?_) | (guard_target =~ L2.rExtend _ _ _ _; first | refine ext_l (by walk_at "hp") (by walk_at "hp") (by walk_at "sc") ?_) | (guard_target =~ KW.uAdd _ _ _ _ _; first | refine ucat_l (by walk_at "hp") (by walk_at "hp") (by walk_at "sc") ?_) | (guard_target =~ KW.uSl _ _ _ _ _ _; first | refine usl_l (by walk_at "hp") ?_) | (guard_target =~ KW.uTru _ _ _ _; first | refine tru_l (by walk_at "hp") ?_ | refine tru_t (by walk_at "hp") ?_ | refine tru_d (by walk_at "hp") ?_ | refine tru_sl (by assumption) ?_) | (guard_target =~ L2.rIndex _ _ _ _ _; first | refine idx_s (by walk_at "hp") (by assumption) ?_ | refine idx_i (by walk_at "hp") (by assumption) ?_) | (guard_target =~ L2.rIn _ _ _ _ _ _; first | refine in_s (by walk_at "hp") ?_ | refine nin_s (by walk_at "hp") ?_ | refine in_i (by walk_at "hp") ?_ | refine nin_i (by walk_at "hp") ?_) | (guard_target =~ KW.uIsi _ _ _ _; first | refine isi_l (by walk_at "hp") (by decide +kernel) ?_ | refine isi_t (by walk_at "hp") (by decide +kernel) ?_ | refine isi_d (by walk_at "hp") (by decide +kernel) ?_) | (guard_target =~ KW.uList _ _ _ _; first | refine list_l (by walk_at "hp") ?_ | refine list_t (by walk_at "hp") ?_ | refine list_sl (by assumption) ?_) | (guard_target =~ KW.uDelC _ _ _ _; first | refine dels_l (by walk_at "hp") (by walk_at "sc") ?_) | (guard_target =~ L2.wAs _ _ _ _ _ _ _ _ _ _; first | refine as_yes (by walk_at "hx") ?_ | refine as_no (by walk_at "hx") ?_) | (guard_target =~ KW.uEf _ _ _ _ _ _ _ _ _; first | refine ef_l (by walk_at "he") (by decide) (by rfl) (by walk_at "hp") (by rfl) ?_) | (guard_target =~ KW.uIsE _ _ _ _ _ _ _; first | refine isE_r (by walk_at "he") (by walk_at "hp") (by walk_at "hk") ?_ | refine isE_t (by walk_at "he") (by walk_at "hp") (by walk_at "hk") ?_))
local macro_rules | `(tactic| walk_at "hv") => `(tactic| first | assumption)
local macro_rules | `(tactic| walk_at "kk") => `(tactic| repeat (first | walk_at "kw" | walk_at "kr"))
local macro_rules | `(tactic| walk_at "hc") => `(tactic| first | exact K01.Txt.c_Symbols (by assumption))
local macro_rules | `(tactic| walk_at "he") => `(tactic| first | exact K01.Txt.e_NoSymbol (by assumption))
local macro_rules | `(tactic| walk_at "hx") => `(tactic| first | exact K01.Txt.x_NoSymbol_KilnwardenError (by assumption))
local macro_rules | `(tactic| walk_at "hk") => `(tactic| first | exact K01.Txt.i_NoSymbol_NoSymbol (by assumption) | exact K01.Txt.i_NoSymbol_ValueError (by assumption))

section
variable {P : Program} {w : World} {K : Frag} {mg : Str → Option Value} {base : Heap} {a : Ads}
theorem ok__law_agrees (T : Txt P w K mg a) : Cal P w K mg base 2 "_law_agrees" (sp__law_agrees a) := by
  have C__law_is := ok__law_is (P := P) (w := w) (base := base) T
  have M_Symbols_number := ok_Symbols_number (P := P) (w := w) (base := base) T
  have M_Symbols_texts := ok_Symbols_texts (P := P) (w := w) (base := base) T
  have M_Symbols_text := ok_Symbols_text (P := P) (w := w) (base := base) T
  have M_Symbols_count := ok_Symbols_count (P := P) (w := w) (base := base) T
  have M_Symbols_knows := ok_Symbols_knows (P := P) (w := w) (base := base) T
  refine T.d__law_agrees.ok sc__law_agrees (fun vs H Q E h => ?_) (fun f cdv A outer s H vs Q E hr h => ⟨_, (pss_cons (ps_set (i := 2) sc__law_agrees.nd rfl (Or.inl rfl) (km0 M_Symbols_texts (hr.mono (by decide)) (kv 0)))
      (pss_cons (ps_if (PW.pt (pw_or (pt_not (kt (kc C__law_is (hr.mono (by decide)) (pa_cons (km0 M_Symbols_count (hr.mono (by decide)) (kv 0)) (pa_cons (pe_callB c_len (by rfl) T.n_len (by decide +kernel) (pa_cons (kv 1) pa_nil)) pa_nil))))) (pw_or (pt_not (kt (pe_callB c_isi (by rfl) T.n_isinstance (by decide +kernel) (pa_cons (kv 2) (pa_cons (pe_bltn (v := .ty "list") (by rfl) T.n_list (by decide +kernel) rfl) pa_nil))))) (pw_or1 (pt_cmpR (o_ne hr.units) (pe_callB c_len (by rfl) T.n_len (by decide +kernel) (pa_cons (kv 2) pa_nil)) (pe_callB c_len (by rfl) T.n_len (by decide +kernel) (pa_cons (kv 1) pa_nil)) (nomark _))))))
      (pss_one (ps_ret pe_bl))
      pss_nil)
      (pss_cons (k_for (passes_of rfl) rfl (pi_range1 (by rfl) T.n_range (pa_cons (pe_callB c_len (by rfl) T.n_len (by decide +kernel) (pa_cons (kv 1) pa_nil)) pa_nil)) (pg_name (i := 3) sc__law_agrees.nd rfl (Or.inl rfl))
      (pss_cons (ps_if (PW.pt (pw_or (pt_not (kt (kc C__law_is (hr.mono (by decide)) (pa_cons (pe_ix o_ix (kv 2) (kv 3) (fun _ _ => rfl)) (pa_cons (pe_ix o_ix (kv 1) (kv 3) (fun _ _ => rfl)) pa_nil))))) (pw_or1 (pt_not (kt (kc C__law_is (hr.mono (by decide)) (pa_cons (km M_Symbols_text (hr.mono (by decide)) (kv 0) (pa_cons (kv 3) pa_nil)) (pa_cons (pe_ix o_ix (kv 1) (kv 3) (fun _ _ => rfl)) pa_nil))))))))
      (pss_one (ps_ret pe_bl))
      pss_nil)
      (pss_one (ps_if (PW.pt (pw_or (pt_not (kt (kc C__law_is (hr.mono (by decide)) (pa_cons (kmX (takes_of rfl rfl rfl rfl) M_Symbols_number (hr.mono (by decide)) (kv 0) (pa_cons (pe_ix o_ix (kv 1) (kv 3) (fun _ _ => rfl)) pa_nil)) (pa_cons (kv 3) pa_nil))))) (pw_or1 (pt_cmpR o_isnot (km M_Symbols_knows (hr.mono (by decide)) (kv 0) (pa_cons (pe_ix o_ix (kv 1) (kv 3) (fun _ _ => rfl)) pa_nil)) pe_bl (nomark _)))))
      (pss_one (ps_ret pe_bl))
      pss_nil))))
      (pss_one (ps_ret pe_bl))))), ?_⟩)
  · obtain ⟨_, _, _, _, _, _, rfl, _⟩ := h; rfl
  · obtain ⟨st, p, q, tx, m, xs, rfl, S, ht, tp, hl, m0, m1, h⟩ := h
    obtain ⟨⟨dx, ob⟩, ptx, ⟨kvs, nu, kok⟩, nd, pq, sp, sq⟩ := id S
    have n1 : tx ≠ st := fun e => by subst e; rw [ht] at ob; cases ob
    have n2 : tx ≠ q := fun e => by subst e; rw [ht] at nu; cases nu
    walk_at "kk"
    refine ⟨p, q, m, xs, S, ?_⟩
    intro u hu
    walk_at "kk"
    refine ⟨p, q, m, xs, S.new hu, by omega, ?_⟩
    walk_at "kk"
    refine for_rng (fun i σ H' => ∃ v, σ = [some (.ref st), some (.ref tx), some (.ref u), v] ∧ H' = upd H u (.lst (xs.map .str))) ⟨_, rfl, rfl⟩ ?_ ?_
    · rintro i σ H' hi ⟨v, rfl, rfl⟩
      have hi2 : i < xs.length := by omega
      obtain ⟨x, hx⟩ : ∃ x, xs[i]? = some x := ⟨_, List.getElem?_eq_getElem hi2⟩
      have hxm := List.mem_of_getElem? hx
      have hv := atI_map (f := V.str) hx
      have hid : xs.idxOf x = i := (List.getElem?_inj (idxOf_lt hxm) nd).mp ((idxOf_get hxm).1.trans hx.symm)
      walk_at "kk"
      refine ⟨p, q, m, xs, S.new hu, x, hx, ?_⟩
      walk_at "kk"
      refine ⟨p, q, m, xs, S.new hu, by omega, fun z => absurd hxm z, m0, m1, fun _ => ?_, fun z => absurd hxm z, fun z => absurd hxm z, fun z => absurd hxm z⟩
      rw [hid]
      walk_at "kk"
      refine ⟨p, q, m, xs, S.new hu, ?_⟩
      walk_at "kk"
      rw [if_neg (fun z => z hxm)]
      trivial
    · rintro σ H' ⟨v, rfl, rfl⟩
      walk_at "kk"
      exact h _ (Fr.new hu)
theorem ok__law_deed (T : Txt P w K mg a) : Cal P w K mg base 3 "_law_deed" (sp__law_deed a) := by
  have C__law_is := ok__law_is (P := P) (w := w) (base := base) T
  have C__law_text := ok__law_text (P := P) (w := w) (base := base) T
  have C__law_asked := ok__law_asked (P := P) (w := w) (base := base) T
  have M_Symbols_texts := ok_Symbols_texts (P := P) (w := w) (base := base) T
  have M_Symbols_text := ok_Symbols_text (P := P) (w := w) (base := base) T
  have M_Symbols_knows := ok_Symbols_knows (P := P) (w := w) (base := base) T
  have M_Symbols_cut := ok_Symbols_cut (P := P) (w := w) (base := base) T
  refine T.d__law_deed.ok sc__law_deed (fun vs H Q E h => ?_) (fun f cdv A outer s H vs Q E hr h => ⟨_, (pss_cons (ps_set (i := 4) sc__law_deed.nd rfl (Or.inl rfl) (pe_op o_mod (pe_callTy c_int (by rfl) T.n_int (by decide +kernel) (pa_cons (kv 3) pa_nil)) pe_int))
      (pss_cons (ps_set (i := 5) sc__law_deed.nd rfl (Or.inl rfl) (pe_op o_fdiv (kv 3) pe_int))
      (pss_cons (ps_if (pt_cmpR o_lt (kv 4) pe_int (nomark _))
      (pss_one (ps_ret (kc C__law_asked (hr.mono (by decide)) (pa_cons (kv 0) (pa_cons (kv 1) (pa_cons (kv 2) (pa_cons (kc C__law_text (hr.mono (by decide)) (pa_cons (kv 5) pa_nil)) pa_nil)))))))
      pss_nil)
      (pss_cons (ps_if (pt_cmpR (o_eq hr.units) (kv 4) pe_int (nomark _))
      (pss_cons (ps_set (i := 6) sc__law_deed.nd rfl (Or.inl rfl) (kc C__law_text (hr.mono (by decide)) (pa_cons (kv 5) pa_nil)))
      (pss_cons (ps_if (pt_cmpR o_in (kv 6) (kv 1) (by rfl))
      (pss_one (ps_ret (pe_cmpR o_is (km M_Symbols_knows (hr.mono (by decide)) (kv 0) (pa_cons (kv 6) pa_nil)) pe_bl (nomark _))))
      pss_nil)
      (pss_one (ps_ret (pe_cmpR o_is (km M_Symbols_knows (hr.mono (by decide)) (kv 0) (pa_cons (kv 6) pa_nil)) pe_bl (nomark _))))))
      pss_nil)
      (pss_cons (ps_if (pt_cmpR (o_eq hr.units) (kv 4) pe_int (nomark _))
      (pss_cons (ps_if (pt_not (kt (kv 1)))
      (pss_one (ps_ret pe_bl))
      pss_nil)
      (pss_one (ps_ret (kc C__law_is (hr.mono (by decide)) (pa_cons (km M_Symbols_text (hr.mono (by decide)) (kv 0) (pa_cons (pe_op o_mod (pe_callTy c_int (by rfl) T.n_int (by decide +kernel) (pa_cons (kv 5) pa_nil)) (pe_callB c_len (by rfl) T.n_len (by decide +kernel) (pa_cons (kv 1) pa_nil))) pa_nil)) (pa_cons (pe_ix o_ix (kv 1) (pe_op o_mod (pe_callTy c_int (by rfl) T.n_int (by decide +kernel) (pa_cons (kv 5) pa_nil)) (pe_callB c_len (by rfl) T.n_len (by decide +kernel) (pa_cons (kv 1) pa_nil))) (fun _ _ => rfl)) pa_nil))))))
      pss_nil)
      (pss_cons (ps_if (pt_cmpR (o_eq hr.units) (kv 4) pe_int (nomark _))
      (pss_cons (ps_set (i := 7) sc__law_deed.nd rfl (Or.inl rfl) (pe_op o_mod (pe_callTy c_int (by rfl) T.n_int (by decide +kernel) (pa_cons (kv 5) pa_nil)) (pe_op o_add (pe_callB c_len (by rfl) T.n_len (by decide +kernel) (pa_cons (kv 1) pa_nil)) pe_int)))
      (pss_cons (ps_expr (km M_Symbols_cut (hr.mono (by decide)) (kv 0) (pa_cons (kv 7) pa_nil)))
      (pss_cons (k_for (passes_of rfl) rfl (pi_range1 (by rfl) T.n_range (pa_cons (pe_op o_sub (pe_callB c_len (by rfl) T.n_len (by decide +kernel) (pa_cons (kv 1) pa_nil)) (kv 7)) pa_nil)) (pg_name (i := 8) sc__law_deed.nd rfl (Or.inl rfl))
      (pss_one (ps_expr (pe_bm0 PySem.F.plainAttrs_list PySem.F.slot_list_pop PySem.F.type_list_pop mt_pop (kv 1)))))
      (pss_one (ps_ret pe_bl)))))
      pss_nil)
      (pss_cons (ps_expr (pe_bm PySem.F.plainAttrs_list PySem.F.slot_list_append PySem.F.type_list_append mt_append (km0 M_Symbols_texts (hr.mono (by decide)) (kv 0)) (pa_cons pe_str pa_nil)))
      (pss_cons (ps_expr (pe_bm0 PySem.F.plainAttrs_list PySem.F.slot_list_clear PySem.F.type_list_clear mt_clear (km0 M_Symbols_texts (hr.mono (by decide)) (kv 0))))
      (pss_one (ps_ret pe_bl)))))))))), ?_⟩)
  · obtain ⟨_, _, _, _, _, _, _, rfl, _⟩ := h; rfl
  · obtain ⟨st, p, q, tx, m, xs, x, rfl, S, ht, tp, hl, hx, m0, m1, h⟩ := h
    obtain ⟨⟨dx, ob⟩, ptx, ⟨kvs, nu, kok⟩, nd, pq, sp, sq⟩ := id S
    have n1 : tx ≠ st := fun e => by subst e; rw [ht] at ob; cases ob
    have n2 : tx ≠ q := fun e => by subst e; rw [ht] at nu; cases nu
    walk_at "kk"
    split
    · walk_at "kk"
      intro t lt
      walk_at "kk"
      exact ⟨p, q, xs, S, ht, tp, hl, lt, m0, m1, h⟩
    · walk_at "kk"
      split
      · walk_at "kk"
        intro t lt
        walk_at "kk"
        split
        · rename_i c
          walk_at "kk"
          refine ⟨p, q, m, xs, S, ?_⟩
          walk_at "kk"
          rw [decide_eq_true c]
          exact h _ xs S ht (by omega) (Fr.refl _)
        · rename_i c
          walk_at "kk"
          refine ⟨p, q, m, xs, S, ?_⟩
          walk_at "kk"
          rw [decide_eq_true c]
          exact h _ xs S ht (by omega) (Fr.refl _)
      · walk_at "kk"
        split
        · walk_at "kk"
          split
          · exact h _ xs S ht (by omega) (Fr.refl _)
          · rename_i c
            have lp : 0 < xs.length := by
              rcases xs with _ | ⟨y, ys⟩
              · exact absurd rfl c
              · exact Nat.succ_pos _
            obtain ⟨j, hj⟩ := Int.eq_ofNat_of_zero_le (Int.emod_nonneg (x / 7) (show (xs.length : Int) ≠ 0 by omega))
            have hj2 : x / 7 % (xs.length : Int) < xs.length := Int.emod_lt_of_pos _ (by omega)
            obtain ⟨y, hy⟩ : ∃ y, xs[j]? = some y := ⟨_, List.getElem?_eq_getElem (show j < xs.length by omega)⟩
            have hv := atI_map (f := V.str) hy
            walk_at "kk"
            refine ⟨p, q, m, xs, j, hj, S, y, hy, ?_⟩
            walk_at "kk"
            rw [hj]
            walk_at "kk"
            exact h _ xs S ht (by omega) (Fr.refl _)
        · walk_at "kk"
          split
          · walk_at "kk"
            obtain ⟨n, hn⟩ := Int.eq_ofNat_of_zero_le (Int.emod_nonneg (x / 7) (show (xs.length : Int) + 3 ≠ 0 by omega))
            have hn2 : x / 7 % ((xs.length : Int) + 3) < xs.length + 3 := Int.emod_lt_of_pos _ (by omega)
            refine ⟨p, q, m, xs, n, hn, S, by omega, fun H3 S3 f3 => ?_⟩
            have ht3 := f3 _ _ (by simp [tp, n2]) ht
            rw [hn]
            walk_at "kk"
            refine for_rng (fun i σ H' => ∃ v, σ = [some (V.ref st), some (V.ref tx), some (V.int m), some (V.int x), some (V.int (x % 7)), some (V.int (x / 7)), none, some (V.int (n : Int)), v] ∧ Sym a H' st p q m (xs.take n) ∧ H' tx = some (.lst ((xs.take (xs.length - i)).map .str)) ∧ Fr [p, q, tx] H H') ?_ ?_ ?_
            · exact ⟨_, rfl, S3, by rw [ht3, Nat.sub_zero, List.take_length], f3.mono (by simp)⟩
            · rintro i σ H' hi ⟨v, rfl, S4, h4, f4⟩
              have hi2 : xs.length - (i + 1) < xs.length := by omega
              obtain ⟨y, hy⟩ : ∃ y, xs[xs.length - (i + 1)]? = some y := ⟨_, List.getElem?_eq_getElem hi2⟩
              have e : xs.take (xs.length - i) = xs.take (xs.length - (i + 1)) ++ [y] := by
                rw [show xs.length - i = (xs.length - (i + 1)) + 1 by omega, List.take_add_one, hy]
                rfl
              rw [e, List.map_append] at h4
              walk_at "kk"
              exact ⟨S4.fr (l := [tx]) (Fr.upd (by simp)) (by simp [Ne.symm n1]) (by simp [Ne.symm tp]) (by simp [Ne.symm n2]), upd_same, f4.trans (Fr.upd (by simp))⟩
            · rintro σ H' ⟨v, rfl, S4, h4, f4⟩
              walk_at "kk"
              have e : xs.take (xs.length - ((xs.length : Int) - (n : Int)).toNat) = xs.take n := by
                by_cases c : n ≤ xs.length
                · rw [show xs.length - ((xs.length : Int) - (n : Int)).toNat = n by omega]
                · rw [show xs.length - ((xs.length : Int) - (n : Int)).toNat = xs.length by omega, List.take_length, List.take_of_length_le (by omega)]
              rw [e] at h4
              exact h _ _ S4 h4 (by rw [List.length_take]; omega) f4
          · walk_at "kk"
            refine ⟨p, q, m, xs, S, fun l hl2 => ?_⟩
            walk_at "kk"
            have z1 : st ≠ l := by walk_at "ne"
            have z2 : p ≠ l := by walk_at "ne"
            have z3 : q ≠ l := by walk_at "ne"
            have z4 : tx ≠ l := by walk_at "ne"
            have S2 := S.new (o := .lst (List.map V.str xs ++ [.str (KW.S [115, 112, 111, 105, 108, 116])])) hl2
            refine ⟨p, q, m, xs, S2, fun u hu => ?_⟩
            walk_at "kk"
            exact h _ xs (S2.new hu) (by walk_at "hp") (by omega) ((Fr.new hl2).trans (Fr.new hu))
end
end K01

set_option Elab.async false
set_option linter.all false
set_option maxRecDepth 100000
set_option maxHeartbeats 4000000
namespace K01
open PySem PySem.Spec PyProof.Rows L2 KW
theorem fr_none {H H' : Hp} {p : Addr} (f : KW.Fr [] H H') (h : H' p = none) : H p = none := by
  cases e : H p with
  | none => rfl
  | some o => have := f _ _ (by simp) e; rw [h] at this; cases this
theorem fr_make {H H' : Hp} {x dx : Addr} {o1 o2 : HO} (hx : H x = none) (hd : H dx = none) (f : Fr [x] (upd (upd H dx o1) x o2) H') : Fr [] H H' := fun b o _ h => by
  have n1 : b ≠ x := fun z => by subst z; rw [hx] at h; cases h
  have n2 : b ≠ dx := fun z => by subst z; rw [hd] at h; cases h
  exact f b o (by simp [n1]) (by rw [upd_ne n1, upd_ne n2]; exact h)
local macro_rules | `(tactic| walk_at "kw") => `(tactic| simp only [tSeq, tNext, tIfS, tTest, tAnd, tOr, tNot, tAndV, tOrV, tNotV, tIf, tChain, tOp, tUn, tC, tAsg, gName, gSub, gCons, gNil, tRet, tRetN, tDrop, tCons, tNil, tCB, tAug, tSl, tPart, tNoPart, tLst, tTup, tBM, tBM0, uTest, uFor, iRng1, iRng2, iList, uCall, List.map_cons, List.map_nil, List.length_cons, List.length_nil, List.cons_append, List.nil_append, List.replicate, Nat.zero_add, Nat.reduceAdd, Nat.reduceSub, List.getElem?_cons_zero, List.getElem?_cons_succ, List.set_cons_zero, List.set_cons_succ, V.bl.injEq, V.int.injEq, V.str.injEq, V.ref.injEq, V.ty.injEq, List.cons.injEq, and_true, true_and, exists_eq_left', exists_eq_right, exists_eq_left, exists_and_left, exists_and_right, decide_eq_true_eq, Bool.not_eq_true', decide_eq_false_iff_not, Bool.false_eq_true, if_true, if_false, ite_true, ite_false, Bool.not_true, Bool.not_false, reduceCtorEq, decide_true, decide_false, Bool.not_not, isK_int_int, isK_int_bool, isK_int_str, isK_int_list, isK_int_tuple, isK_bool_int, isK_bool_bool, isK_bool_str, isK_str_str, isK_str_int, isK_str_bool, isK_str_tuple, isK_str_list, isK_list_list, isK_list_tuple, isK_tuple_tuple, isK_tuple_list, isOk_int_int, isOk_int_bool, isOk_int_str, isOk_int_list, isOk_int_tuple, isOk_bool_int, isOk_bool_bool, isOk_bool_str, isOk_str_str, isOk_str_int, isOk_str_bool, isOk_str_tuple, isOk_str_list, isOk_list_list, isOk_list_tuple, isOk_tuple_tuple, isOk_tuple_list, isK_dict_dict, isOk_dict_dict, isK_none_int, isK_none_bool, isOk_none_int, isOk_none_bool, tyV, S_inj, S_cat, L2.start, Nat.reduceSub, List.replicate_succ, List.replicate_zero, and_assoc, List.append_nil, Nat.reduceEqDiff, Option.some.injEq, Int.natCast_inj, upd_upd, Int.reducePow, Int.reduceToNat, Int.reduceMul, Int.reduceAdd, Int.reduceSub, Int.reduceLT, Int.reduceLE, Int.reduceNeg, Int.reduceDiv, Int.reduceMod, Nat.reducePow, Nat.reduceMul, S_len, List.length_append, List.length_map, List.length_range, not_true_eq_false, not_false_eq_true, ne_eq, uAdd_e1, uAdd_e2, uSub_e1, uMod_e1, uDiv_e1, uPow_e1, uShl_e1, uNeg_e1, uIAdd_e1, uIAdd_e2, uIAdd_e3, uISub_e1, uLt_e1, uLt_e2, uLe_e1, uGt_e1, uGe_e1, uEq_e1, uEq_e2, uEq_e3, uEq_e4, uEq_e5, uEq_e6, uEq_e7, uEq_e8, uEq_e9, uEq_e10, uEq_e11, uNe_e1, uNe_e2, uNe_e3, uNe_e4, uNe_e5, uNe_e6, uNe_e7, uNe_e8, uNe_e9, uNe_e10, uNe_e11, uIs_e1, uIs_e2, uIs_e3, uIs_e4, uIs_e5, uIs_e6, uNotIs_e1, uNotIs_e2, uNotIs_e3, uNotIs_e4, uNotIs_e5, uNotIs_e6, uIn_e1, uIn_e2, uIn_e3, uIn_e4, uNotIn_e1, uNotIn_e2, uNotIn_e3, uNotIn_e4, uTru_e1, uTru_e2, uTru_e3, uTru_e4, uIx_e2, uSl_e2, uLen_e1, uAbs_e1, uInt_e1, uInt_e2, uMin2_e1, uIsi_e1, uIsi_e2, uIsi_e3, uIsi_e4, cx_K, uVar_0, uVar_n, uFld, uSFld, uMet, uMake, tDG, tDI, tDNI, tDP, tDD, uMk, uRaise, uDelSl, tCallS, L2.WE, uStr_e1, uStr_e2, uMul2_e1, uMul2_e2, okS_i, okS_s, List.zip_cons_cons, List.zip_nil_left, List.drop_zero, List.drop_succ_cons, List.drop_nil, putF_nil, putF_cons, eq_self, tDNewK, tB, Option.isSome_some, Option.isSome_none, false_and, false_or, or_false, exists_false, Int.zero_add, uLc, wipe, tYes, K01.lit_0, K01.lit_1, K01.lit_2, K01.lit_3, K01.lit_4, K01.lit_5, K01.lit_6, K01.lit_7, K01.lit_8, K01.fe_most__texts, K01.fe_most__numbers, K01.fe__texts_most, K01.fe__texts__numbers, K01.fe__numbers_most, K01.fe__numbers__texts, K01.N_Symbols_init, K01.N_Symbols_count, K01.N_Symbols_number, K01.N_Symbols_knows, K01.N_Symbols_text, K01.N_Symbols_texts, K01.N_Symbols_cut, K01.N__law_number, K01.N__law_text, K01.N__law_is, K01.N__law_asked, K01.N__law_agrees, K01.N__law_deed, K01.N_law, sp_Symbols_init, sp_Symbols_count, sp_Symbols_knows, sp_Symbols_text, sp_Symbols_texts, sp_Symbols_cut, sp_Symbols_number, sp__law_number, sp__law_text, sp__law_is, sp__law_asked, sp__law_agrees, sp__law_deed])
local macro_rules | `(tactic| walk_at "nn") => `(tactic| first | assumption | exact ne_un (by assumption) | exact ne_un (ne_un (by assumption)) | exact ne_un (ne_un (ne_un (by assumption))) | exact ne_un (ne_un (ne_un (ne_un (by assumption)))))
local macro_rules | `(tactic| walk_at "ne") => `(tactic| first | assumption | (apply Ne.symm; assumption) | exact ne_ud (by assumption) | exact Ne.symm (ne_ud (by assumption)) | exact ne_ud (ne_un (by assumption)) | exact Ne.symm (ne_ud (ne_un (by assumption))) | exact ne_ud (ne_un (ne_un (by assumption))) | exact Ne.symm (ne_ud (ne_un (ne_un (by assumption)))) | exact ne_m (by assumption) (by assumption) | exact Ne.symm (ne_m (by assumption) (by assumption)) | exact ne_n (by assumption) (by walk_at "nn") | exact Ne.symm (ne_n (by assumption) (by walk_at "nn")))
local macro_rules | `(tactic| walk_at "hp") => `(tactic| first | assumption | exact upd_same | (refine Eq.trans (upd_ne ?_) ?_; (focus walk_at "ne"); walk_at "hp"))
local macro_rules | `(tactic| walk_at "sc") => `(tactic| first | (with_reducible assumption) | omega | exact le_line (by (try simp only [List.length_map, List.length_append, List.length_cons, List.length_nil, S_len]); omega) | exact div_s (by omega) | exact mul_r (by omega) | exact mul_l (by omega) | exact pow_s (by omega) | exact mul2_r (by omega) | exact mul2_l (by omega) | exact small4300 (by omega) | exact lt_line (by (try simp only [List.length_map, List.length_append, List.length_cons, List.length_nil, S_len]); omega) | exact ⟨_, by assumption⟩ | (guard_target =~ Exists _; exact ⟨_, .of (by walk_at "hp")⟩) | (guard_target =~ _ ∨ _; exact .inl ⟨_, by assumption⟩) | (guard_target =~ _ ∨ _; exact .inl ⟨_, .of (by walk_at "hp")⟩) | (guard_target =~ _ ∨ _; exact .inr (.inr (.inl ⟨rfl, .inl ⟨_, by walk_at "hp"⟩⟩))) | decide)
local macro_rules | `(tactic| walk_at "kr") => `(tactic| first | (guard_target =~ _ ∧ _; first | refine And.intro (by walk_at "sc") ?_) | (guard_target =~ KW.uIx _ _ _ _ _; first | refine ix_l (by walk_at "hp") (by first | walk_at "hv" | rfl) ?_ | refine ix_t (by walk_at "hp") (by first | walk_at "hv" | rfl) ?_ | refine ix_sl (by assumption) (by walk_at "hv") ?_) | (guard_target =~ KW.uLen _ _ _ _; first | refine len_l (by walk_at "hp") ?_ | refine len_t (by walk_at "hp") ?_ | refine len_sl (by assumption) ?_) | (guard_target =~ KW.uSet _ _ _ _ _; first | refine set_l (by walk_at "hp") (by first | walk_at "hv" | rfl) ?_) | (guard_target =~ L2.gTup _ _ _ _ _ _ _; first | refine tup_l (by walk_at "hp") (by rfl) ?_) | (guard_target =~ KW.uGet _ _ _ _ _; first | refine get_l (by walk_at "hp") (by walk_at "hc") (by decide) (by rfl) ?_) | (guard_target =~ KW.uPut _ _ _ _ _ _; first | refine put_l (by walk_at "hp") (by walk_at "hc") (by decide) (by simp) ?_) | (guard_target =~ KW.uMet.uMt _ _ _ _ _ _ _ _ _; first | refine met_l (by walk_at "hp") (by rfl) ?_) | (guard_target =~ KW.uDIn _ _ _ _; first | refine din_i (by walk_at "hp") ?_ | refine din_s (by walk_at "hp") ?_) | (guard_target =~ KW.uDGet _ _ _ _; first | refine dget_i (by walk_at "hp") (by walk_at "hv") ?_ | refine dget_s (by walk_at "hp") (by walk_at "hv") ?_) | (guard_target =~ KW.uDPut _ _ _ _ _; first | refine dput_i (by walk_at "hp") (by walk_at "sc") ?_ | refine dput_s (by walk_at "hp") (by walk_at "sc") ?_) | (guard_target =~ KW.uDDel _ _ _ _; first | refine ddel_i (by walk_at "hp") (by walk_at "hv") ?_ | refine ddel_s (by walk_at "hp") (by walk_at "hv") ?_) | (guard_target =~ KW.uMul2 _ _ _ _; first | refine rep_l (by walk_at "hp") (by walk_at "sc") (by walk_at "sc") (by walk_at "sc") ?_) | (guard_target =~ L2.rAppend _ _ _ _; first | refine app_l (by walk_at "hp") (by walk_at "sc") ?_) | (guard_target =~ L2.rPop _ _ _ _; first | refine pop_l (by walk_at "hp") (by walk_at "hv") ?_ | refine pops_l (by walk_at "hp") ?_) | (guard_target =~ L2.rClear _ _ _ _; first | refine clr_l (by walk_at "hp") ?_) | (guard_target =~ L2.rReverse _ _ _ _; first | refine rev_l (by walk_at "hp") ?_) | (guard_target =~ L2.rExtend _ _ _ _; first | refine ext_l (by walk_at "hp") (by walk_at "hp") (by walk_at "sc") ?_) | (guard_target =~ KW.uAdd _ _ _ _ _; first | refine ucat_l (by walk_at "hp") (by walk_at "hp") (by walk_at "sc") ?_) | (guard_target =~ KW.uSl _ _ _ _ _ _; first | refine usl_l (by walk_at "hp") ?_) | (guard_target =~ KW.uTru _ _ _ _; first | refine tru_l (by walk_at "hp") ?_ | refine tru_t (by walk_at "hp") ?_ | refine tru_d (by walk_at "hp") ?_ | refine tru_sl (by assumption) ?_) | (guard_target =~ L2.rIndex _ _ _ _ _; first | refine idx_s (by walk_at "hp") (by assumption) ?_ | refine idx_i (by walk_at "hp") (by assumption) ?_) | (guard_target =~ L2.rIn _ _ _ _ _ _; first | refine in_s (by walk_at "hp") ?_ | refine nin_s (by walk_at "hp") ?_ | refine in_i (by walk_at "hp") ?_ | refine nin_i (by walk_at "hp") ?_) | (guard_target =~ KW.uIsi _ _ _ _; first | refine isi_l (by walk_at "hp") (by decide +kernel) ?_ | refine isi_t (by walk_at "hp") (by decide +kernel) ?_ | refine isi_d (by walk_at "hp") (by decide +kernel) ?_) | (guard_target =~ KW.uList _ _ _ _; first | refine list_l (by walk_at "hp") ?_ | refine list_t (by walk_at "hp") ?_ | refine list_sl (by assumption) ?_) | (guard_target =~ KW.uDelC _ _ _ _; first | refine dels_l (by walk_at "hp") (by walk_at "sc") ?_) | (guard_target =~ L2.wAs _ _ _ _ _ _ _ _ _ _; first | refine as_yes (by walk_at "hx") ?_ | refine as_no (by walk_at "hx") ?_) | (guard_target =~ KW.uEf _ _ _ _ _ _ _ _ _; first | refine ef_l (by walk_at "he") (by decide) (by rfl) (by walk_at "hp") (by rfl) ?_) | (guard_target =~ KW.uIsE _ _ _ _ _ _ _; first | refine isE_r (by walk_at "he") (by walk_at "hp") (by walk_at "hk") ?_ | refine isE_t (by walk_at "he") (by walk_at "hp") (by walk_at "hk") ?_))
local macro_rules | `(tactic| walk_at "hv") => `(tactic| first | assumption)
local macro_rules | `(tactic| walk_at "kk") => `(tactic| repeat (first | walk_at "kw" | walk_at "kr"))
local macro_rules | `(tactic| walk_at "hc") => `(tactic| first | exact K01.Txt.c_Symbols (by assumption))
local macro_rules | `(tactic| walk_at "he") => `(tactic| first | exact K01.Txt.e_NoSymbol (by assumption))
local macro_rules | `(tactic| walk_at "hx") => `(tactic| first | exact K01.Txt.x_NoSymbol_KilnwardenError (by assumption))
local macro_rules | `(tactic| walk_at "hk") => `(tactic| first | exact K01.Txt.i_NoSymbol_NoSymbol (by assumption) | exact K01.Txt.i_NoSymbol_ValueError (by assumption))

section
variable {P : Program} {w : World} {K : Frag} {mg : Str → Option Value} {base : Heap} {a : Ads}
theorem ok_law (T : Txt P w K mg a) : ∀ f fd, Fun K "law" "law" s_law f fd → FnOk P w K mg base (L2.CX P w) 4 f fd ["script"] (sp_law63 K) := by
  have C__law_is := ok__law_is (P := P) (w := w) (base := base) T
  have C__law_number := ok__law_number (P := P) (w := w) (base := base) T
  have C__law_deed := ok__law_deed (P := P) (w := w) (base := base) T
  have C__law_agrees := ok__law_agrees (P := P) (w := w) (base := base) T
  have I_Symbols := ok_Symbols_init (P := P) (w := w) (base := base) T
  have M_Symbols_count := ok_Symbols_count (P := P) (w := w) (base := base) T
  have M_Symbols_number := ok_Symbols_number (P := P) (w := w) (base := base) T
  refine DefAt.fn sc_law (fun vs H Q E h => ?_) (fun f cdv A outer s H vs Q E hr h => ⟨_, (C8.pss_cut (k_setLc (i := 1) (own := [("cell", 2)]) (g := gName 2) (by rfl) sc_law.nd rfl rfl (sw_true rfl rfl rfl (by decide +kernel)) (pi_list (kv 0)) (blkOk_by (own := [("cell", 2)]) (N := ["script", "cells", "cell", "limit", "most", "symbols", "other", "texts", "k"]) (sc := defScope s_law) (by decide +kernel)) (fun _ _ _ _ _ => pg_name (i := 2) sc_law.nd rfl (Or.inl rfl)) (fun _ _ _ _ _ => pts_nil) (fun _ _ _ _ _ => (pe_callTy c_int (by rfl) T.n_int (by decide +kernel) (pa_cons (kv 2) pa_nil))))
      (pss_cons (ps_set (i := 3) sc_law.nd rfl (Or.inl rfl) pe_int)
      (C8.pss_cut (ps_if (kt (kv 1))
      (pss_one (ps_set (i := 3) sc_law.nd rfl (Or.inl rfl) (pe_op o_mod (pe_callTy c_int (by rfl) T.n_int (by decide +kernel) (pa_cons (pe_ix o_ix (kv 1) pe_int (fun _ _ => rfl)) pa_nil)) pe_int)))
      pss_nil)
      (pss_cons (ps_set (i := 4) sc_law.nd rfl (Or.inl rfl) pe_int)
      (C8.pss_cut (ps_set (i := 5) sc_law.nd rfl (Or.inl rfl) (kmk0 I_Symbols (hr.mono (by decide))))
      (C8.pss_cut (ps_if (pt_cmpR o_lt (kv 3) pe_int (nomark _))
      (pss_cons (ps_set (i := 4) sc_law.nd rfl (Or.inl rfl) (kv 3))
      (pss_one (ps_set (i := 5) sc_law.nd rfl (Or.inl rfl) (kmk 1 I_Symbols (hr.mono (by decide)) (pa_cons (kv 4) pa_nil)))))
      pss_nil)
      (C8.pss_cut (ps_if (PW.pt (pw_or (pt_not (kt (kc C__law_is (hr.mono (by decide)) (pa_cons (k_g T.g_LONGEST) (pa_cons pe_int pa_nil))))) (pw_or1 (pt_not (kt (kc C__law_is (hr.mono (by decide)) (pa_cons (k_fld (kv 5) rfl) (pa_cons (kv 4) pa_nil))))))))
      (pss_one (ps_ret pe_bl))
      pss_nil)
      (C8.pss_cut (ps_set (i := 6) sc_law.nd rfl (Or.inl rfl) (kmk 1 I_Symbols (hr.mono (by decide)) (pa_cons pe_int pa_nil)))
      (pss_cons (ps_set (i := 7) sc_law.nd rfl (Or.inl rfl) (pe_lst pa_nil))
      (pss_cons (k_for (passes_of rfl) rfl (pi_range2 (by rfl) T.n_range (pa_cons pe_int (pa_cons (pe_callB c_len (by rfl) T.n_len (by decide +kernel) (pa_cons (kv 1) pa_nil)) pa_nil))) (pg_name (i := 8) sc_law.nd rfl (Or.inl rfl))
      (pss_one (ps_if (PW.pt (pw_or (pt_not (kt (kc C__law_deed (hr.mono (by decide)) (pa_cons (kv 5) (pa_cons (kv 7) (pa_cons (kv 4) (pa_cons (kc C__law_number (hr.mono (by decide)) (pa_cons (pe_ix o_ix (kv 1) (kv 8) (fun _ _ => rfl)) (pa_cons (kv 8) pa_nil))) pa_nil))))))) (pw_or1 (pt_not (kt (kc C__law_agrees (hr.mono (by decide)) (pa_cons (kv 5) (pa_cons (kv 7) pa_nil))))))))
      (pss_one (ps_ret pe_bl))
      pss_nil)))
      (pss_one (ps_ret (pe_and (pe_cmpR (o_eq hr.units) (km0 M_Symbols_count (hr.mono (by decide)) (kv 6)) pe_int (nomark _)) (pe_one (pe_cmpR (o_eq hr.units) (kmX (takes_of rfl rfl rfl rfl) M_Symbols_number (hr.mono (by decide)) (kv 6) (pa_cons pe_str pa_nil)) pe_int (nomark _)))))))))))))))), ?_⟩)
  · obtain ⟨sc, ns, rfl, _⟩ := h; rfl
  · obtain ⟨sc, ns, rfl, hS, hn, h⟩ := h
    refine ⟨fun σ H' => ∃ D, H D = none ∧ σ = [some (.ref sc), some (.ref D), none, none, none, none, none, none, none] ∧ H' = upd H D (.lst (ns.map .int)), ?_, ?_⟩
    · walk_at "kw"
      refine ⟨⟨_, hS⟩, ?_⟩
      refine lc_pl some hS (lt_line (by rw [List.length_map]; omega)) ?_ ?_
      · intro i x D acc Cy Cn hx hD h1 h2
        rw [List.getElem?_map] at hx
        cases ex : ns[i]? with
        | none => rw [ex] at hx; cases hx
        | some z =>
          rw [ex] at hx
          cases hx
          walk_at "kk"
          exact h1 _ rfl
      intro D hD
      walk_at "kw"
      exact ⟨D, hD, rfl, by rw [List.filterMap_some]⟩
    rintro σ H0 ⟨D, hD, rfl, e0⟩
    have h0 : H0 D = some (.lst (ns.map .int)) := by rw [e0]; exact upd_same
    walk_at "kk"
    refine ⟨fun σ H' => ∃ l : Int, 0 ≤ l ∧ l < 18 ∧ σ = [some (.ref sc), some (.ref D), none, some (.int l), none, none, none, none, none] ∧ H' = H0, ?_, ?_⟩
    · walk_at "kk"
      cases ns with
      | nil => exact ⟨0, by omega, by omega, rfl⟩
      | cons z zs =>
        rw [if_pos (by rfl)]
        have hv : atI ((z :: zs).map V.int) (0 : Int) = some (.int z) := atI_map (i := 0) rfl
        walk_at "kk"
        try exact ⟨_, Int.emod_nonneg _ (by decide), Int.emod_lt_of_pos _ (by decide), rfl⟩
        try omega
    rintro σ H1 ⟨l, l0, l1, rfl, rfl⟩
    walk_at "kk"
    refine ⟨fun σ H' => ∃ st p q, σ = [some (.ref sc), some (.ref D), none, some (.int l), some (.int 100000), some (.ref st), none, none, none] ∧ Sym a H' st p q 100000 [] ∧ Fr [] H1 H' ∧ H1 st = none ∧ H1 p = none ∧ H1 q = none, ?_, ?_⟩
    · walk_at "kk"
      intro st dx hs hd hne
      walk_at "kk"
      exact ⟨⟨dx, upd_same⟩, fun H2 p q S2 f2 hp hq => ⟨p, q, S2, fr_make hs hd f2, hs, ne_un (ne_un hp), ne_un (ne_un hq)⟩⟩
    rintro σ H2 ⟨st0, p0, q0, rfl, S0, f0, b1, b2, b3⟩
    walk_at "kk"
    refine ⟨fun σ H' => ∃ st p q m, 0 ≤ m ∧ m ≤ 100000 ∧ σ = [some (.ref sc), some (.ref D), none, some (.int l), some (.int m), some (.ref st), none, none, none] ∧ Sym a H' st p q m [] ∧ Fr [] H1 H' ∧ H1 st = none ∧ H1 p = none ∧ H1 q = none, ?_, ?_⟩
    · walk_at "kk"
      split
      · walk_at "kk"
        intro st dx hs hd hne
        walk_at "kk"
        exact ⟨⟨dx, upd_same⟩, fun H3 p q S3 f3 hp hq => ⟨st, p, q, l, by omega, by omega, rfl, rfl, S3, f0.trans (fr_make hs hd f3), fr_none f0 hs, fr_none f0 (ne_un (ne_un hp)), fr_none f0 (ne_un (ne_un hq))⟩⟩
      · walk_at "kk"
        exact ⟨st0, p0, q0, 100000, by omega, by omega, rfl, rfl, S0, f0, b1, b2, b3⟩
    rintro σ H3 ⟨st, p, q, m, m0, m1, rfl, S3, f3, b4, b5, b6⟩
    obtain ⟨⟨dx, ob⟩, ptx, ⟨kvs, nu, kok⟩, nd, pq, sp, sq⟩ := id S3
    walk_at "kk"
    refine ⟨fun σ H' => σ = [some (.ref sc), some (.ref D), none, some (.int l), some (.int m), some (.ref st), none, none, none] ∧ H' = H3, ?_, ?_⟩
    · walk_at "kk"
    rintro σ H4 ⟨rfl, rfl⟩
    walk_at "kk"
    refine ⟨fun σ H' => ∃ ot p2 q2, σ = [some (.ref sc), some (.ref D), none, some (.int l), some (.int m), some (.ref st), some (.ref ot), none, none] ∧ Sym a H' ot p2 q2 1 [] ∧ Fr [] H4 H' ∧ H4 ot = none ∧ H4 p2 = none ∧ H4 q2 = none, ?_, ?_⟩
    · walk_at "kk"
      intro st dx hs hd hne
      walk_at "kk"
      exact ⟨⟨dx, upd_same⟩, fun H5 p q S5 f5 hp hq => ⟨p, q, S5, fr_make hs hd f5, hs, ne_un (ne_un hp), ne_un (ne_un hq)⟩⟩
    rintro σ H5 ⟨ot, p2, q2, rfl, S5, f5, o1, o2, o3⟩
    walk_at "kk"
    intro tx htx
    have g5 : KW.Fr [] H1 H5 := f3.trans f5
    have hD5 := g5 _ _ (by simp) h0
    obtain ⟨⟨dx2, ob2⟩, ptx2, ⟨kvs2, nu2, kok2⟩, nd2, pq2, sp2, sq2⟩ := id S5
    have S3' := S3.fr f5 (by simp) (by simp) (by simp)
    obtain ⟨⟨dx', ob'⟩, ptx', ⟨kvs', nu', kok'⟩, -, -, -, -⟩ := id S3'
    have hs4 : ∀ b o, H4 b = some o → b ≠ ot ∧ b ≠ p2 ∧ b ≠ q2 := fun b o e => ⟨fun z => (by rw [z, o1] at e; cases e), fun z => (by rw [z, o2] at e; cases e), fun z => (by rw [z, o3] at e; cases e)⟩
    obtain ⟨a1, a2, a3⟩ := hs4 _ _ ob
    obtain ⟨a4, a5, a6⟩ := hs4 _ _ ptx
    obtain ⟨a7, a8, a9⟩ := hs4 _ _ nu
    have t1 : tx ≠ p := by walk_at "ne"
    have t2 : tx ≠ q := by walk_at "ne"
    have t3 : tx ≠ st := by walk_at "ne"
    have t4 : tx ≠ ot := by walk_at "ne"
    have t5 : tx ≠ p2 := by walk_at "ne"
    have t6 : tx ≠ q2 := by walk_at "ne"
    have t7 : tx ≠ D := by walk_at "ne"
    have d1 : D ≠ p := Ne.symm (ne_m b5 h0)
    have d2 : D ≠ q := Ne.symm (ne_m b6 h0)
    walk_at "kk"
    refine for_rng (fun i σ H' => ∃ xs v, σ = [some (.ref sc), some (.ref D), none, some (.int l), some (.int m), some (.ref st), some (.ref ot), some (.ref tx), v] ∧ Sym a H' st p q m xs ∧ H' tx = some (.lst (xs.map .str)) ∧ xs.length ≤ i ∧ Sym a H' ot p2 q2 1 [] ∧ H' D = some (.lst (ns.map .int))) ?_ ?_ ?_
    · exact ⟨[], _, rfl, S3'.new htx, upd_same, Nat.le_refl _, S5.new htx, (upd_ne t7.symm).trans hD5⟩
    · rintro i σ H' hi ⟨xs, v, rfl, S6, x6, l6, o6, c6⟩
      obtain ⟨z, hz⟩ : ∃ z, ns[i + 1]? = some z := ⟨_, List.getElem?_eq_getElem (show i + 1 < ns.length by omega)⟩
      have hv : atI (ns.map V.int) (1 + (i : Int)) = some (.int z) := by
        rw [show (1 + (i : Int)) = ((i + 1 : Nat) : Int) by omega]
        exact atI_map hz
      walk_at "kk"
      refine ⟨⟨_, rfl⟩, by omega, by omega, fun v hv0 => ⟨p, q, xs, S6, x6, t1, by omega, hv0, m0, by omega, fun H7 xs' S7 x7 l7 f7 => ⟨p, q, m, xs', S7, x7, t1, by omega, m0, by omega, fun H8 f8 => ?_⟩⟩⟩
      have o7 := o6.fr f7 (by simp [a1.symm, a4.symm, a7.symm, t4.symm, Ne.symm]) (by simp [Ne.symm, a5.symm, a8.symm, t5.symm]) (by simp [Ne.symm, a6.symm, a9.symm, t6.symm])
      exact ⟨xs', S7.fr f8 (by simp) (by simp) (by simp), f8 _ _ (by simp) x7, by omega, o7.fr f8 (by simp) (by simp) (by simp), f8 _ _ (by simp) (f7 _ _ (by simp [d1, d2, t7.symm]) c6)⟩
    · rintro σ H' ⟨xs, v, rfl, S6, x6, l6, o6, c6⟩
      obtain ⟨⟨dx6, ob6⟩, -, -, -, -, -, -⟩ := id o6
      walk_at "kk"
      refine ⟨p2, q2, 1, [], o6, by simp, ?_⟩
      walk_at "kk"
      rw [if_pos (by rfl)]
      walk_at "kk"
      refine ⟨p2, q2, 1, [], o6, by simp, fun _ => (by first | omega | decide), by omega, by omega, fun z => (by cases z), fun _ z => ?_, fun _ _ z => ?_, fun _ _ _ H9 _ _ => ?_⟩
      · exact absurd z (by decide)
      · simp at z
      · walk_at "kk"
        exact h _
end
end K01

set_option Elab.async false
set_option linter.all false
set_option maxRecDepth 100000
namespace K01
end K01
open PySem PySem.W PyProof.Rows
set_option maxRecDepth 100000 in
set_option maxHeartbeats 0 in
theorem PySem.Challenge.cw_kilnwarden_k01_symbols_keep_numbers_holds : PySem.Challenge.rw_kilnwarden_k01_symbols_keep_numbers.Holds := by
  w_on; o_law; k_head; (case hw => w_witness2)
  k_fill
  refine KW.walk63 (k := 4) (l := PySem.Challenge.rw_kilnwarden_k01_symbols_keep_numbers) (st := K01.s_law) rfl rfl rfl ⟨rfl, by decide, by decide⟩ (fun w h Y => PySem.W.kIn_of Y) (fun _ _ _ _ _ _ us hl => match us, hl with | [_], _ => rfl) ?F
  case F =>
    intro w mg h KX G
    have T : ∃ a : K01.Ads, K01.Txt PySem.Challenge.rw_kilnwarden_k01_symbols_keep_numbers.prog w (L2.KOf KX) mg a := by
      delta L2.KOf
      refine' K01.Txt.ex ?T
      case T =>
        constructor
        all_goals (try dsimp only)
        case g_KilnwardenError => refine' PySem.W.mg_of KX G ?za; (case za => k_is)
        case g_NoSymbol => refine' PySem.W.mg_of KX G ?za; (case za => k_is)
        case g_Symbols => refine' PySem.W.mg_of KX G ?za; (case za => k_is)
        case e_NoSymbol =>
          refine' PySem.KErr_limit.err_mk K01.s_NoSymbol_init KX G ?zaC ?zxL ?zbmv ?zsup ?zsa ?zno ?za1 ?zt1 ?zkC ?zeC ?zvC ?ztC ?zown ?ztp ?zdg ?znsup ?znstr ?zhst ?zl1 ?zc1 ?zmc ?zac ?zce ?zco ?zcf ?zcg ?ztop ?zhg ?zhk ?zhd ?zha ?zhn ?zht ?zhm
          (case zaC => k_is)
          (case zxL => k_is)
          (case zbmv => first | rfl | decide +kernel)
          (case zsup => ks_is)
          (case zsa => k_is)
          (case zno => k_is)
          (case za1 => k_is)
          (case zt1 => k_is)
          (case zkC => k_is)
          (case zeC => k_is)
          (case zvC => k_is)
          (case ztC => k_is)
          (case zown => k_is)
          (case ztp => k_is)
          (case zdg => k_is)
          (case znsup => k_is)
          (case znstr => k_is)
          (case zhst => exact ⟨rfl, rfl, rfl⟩)
          (case zl1 => k_is)
          (case zc1 => k_is)
          (case zmc => exact fun env => ⟨_, rfl⟩)
          (case zac => exact fun env => rfl)
          (case zce => k_is)
          (case zco => k_is)
          (case zcf => first | rfl | k_is)
          (case zcg => first | decide +kernel | k_is)
          (case ztop => first | decide +kernel | k_is)
          (case zhg => k_is)
          (case zhk => k_is)
          (case zhd => k_is)
          (case zha => k_is)
          (case zhn => k_is)
          (case zht => k_is)
          (case zhm => k_is)
        case x_NoSymbol_KilnwardenError => refine' PySem.W.exm_ref ?za ?zb ?zc ?zd; (case za => k_is); (case zb => k_is); (case zc => k_is); (case zd => k_is)
        case i_NoSymbol_NoSymbol => kit_is
        case i_NoSymbol_ValueError => kit_is
        case c_Symbols => refine' KW.clsA_mk KX G ?za ?zb ?zc ?zd ?ze ?zf; (case za => k_is); (case zb => k_is); (case zc => k_is); (case zd => k_is); (case ze => k_is); (case zf => (intro f hf; simp only [List.mem_cons, List.not_mem_nil, or_false] at hf; rcases hf with rfl | rfl | rfl <;> k_is))
        case ini_Symbols => refine' KW.iniAt_mkD ?zkc ?zmk ?za ?zf ?zk ?zl ?zc ?zlT ?zoT ?zr ?zhd ?zhl ?zb; (case zkc => k_is); (case zmk => k_is); (case za => k_is); (case zf => k_is); (case zk => k_is); (case zl => k_is); (case zc => k_is); (case zlT => k_is); (case zoT => rfl); (case zr => repeat (first | exact .nil | refine .cons ⟨_, rfl⟩ ?_ | refine .cons rfl ?_)); (case zhd => decide); (case zhl => decide); (case zb => exact fun j hj => match j, hj with | 0, _ => (fun _ _ _ _ _ _ _ us its hl hi => match us, its, hl, hi with | [_], [_], _, _ => ⟨_, rfl, rfl⟩) | 1, _ => (fun _ _ _ _ _ _ _ us its hl hi => match us, its, hl, hi with | [_, _], [_], _, _ => ⟨_, rfl, rfl⟩))
        case m_Symbols_count => refine' KW.metAt_mk ?za ?zf ?zk ?zl ?zc ?zb; (case za => k_is); (case zf => k_is); (case zk => k_is); (case zl => k_is); (case zc => k_is); (case zb => exact fun _ _ _ _ _ _ us hl => match us, hl with | [_], _ => rfl)
        case m_Symbols_number => refine' KW.metAt_mk ?za ?zf ?zk ?zl ?zc ?zb; (case za => k_is); (case zf => k_is); (case zk => k_is); (case zl => k_is); (case zc => k_is); (case zb => exact fun _ _ _ _ _ _ us hl => match us, hl with | [_, _], _ => rfl)
        case m_Symbols_knows => refine' KW.metAt_mk ?za ?zf ?zk ?zl ?zc ?zb; (case za => k_is); (case zf => k_is); (case zk => k_is); (case zl => k_is); (case zc => k_is); (case zb => exact fun _ _ _ _ _ _ us hl => match us, hl with | [_, _], _ => rfl)
        case m_Symbols_text => refine' KW.metAt_mk ?za ?zf ?zk ?zl ?zc ?zb; (case za => k_is); (case zf => k_is); (case zk => k_is); (case zl => k_is); (case zc => k_is); (case zb => exact fun _ _ _ _ _ _ us hl => match us, hl with | [_, _], _ => rfl)
        case m_Symbols_texts => refine' KW.metAt_mk ?za ?zf ?zk ?zl ?zc ?zb; (case za => k_is); (case zf => k_is); (case zk => k_is); (case zl => k_is); (case zc => k_is); (case zb => exact fun _ _ _ _ _ _ us hl => match us, hl with | [_], _ => rfl)
        case m_Symbols_cut => refine' KW.metAt_mk ?za ?zf ?zk ?zl ?zc ?zb; (case za => k_is); (case zf => k_is); (case zk => k_is); (case zl => k_is); (case zc => k_is); (case zb => exact fun _ _ _ _ _ _ us hl => match us, hl with | [_, _], _ => rfl)
        case n_ValueError => exact PySem.W.mg_none_of KX G (by k_is)
        case n_bool => exact PySem.W.mg_none_of KX G (by k_is)
        case n_int => exact PySem.W.mg_none_of KX G (by k_is)
        case n_isinstance => exact PySem.W.mg_none_of KX G (by k_is)
        case n_len => exact PySem.W.mg_none_of KX G (by k_is)
        case n_list => exact PySem.W.mg_none_of KX G (by k_is)
        case n_range => exact PySem.W.mg_none_of KX G (by k_is)
        case n_str => exact PySem.W.mg_none_of KX G (by k_is)
        case g_MOST => refine' KW.gv_mk KX G ?za ?zr; (case za => k_is); (case zr => exact ⟨_, rfl⟩)
        case g_LONGEST => refine' KW.gv_mk KX G ?za ?zr; (case za => k_is); (case zr => exact ⟨_, rfl⟩)
        case d__law_number => refine' KW.defAt_mk KX G ?za ?zl ?zc ?zk ?zb; (case za => k_is); (case zl => k_is); (case zc => k_is); (case zk => k_is); (case zb => exact fun _ _ _ _ _ _ us hl => match us, hl with | [_, _], _ => rfl)
        case d__law_text => refine' KW.defAt_mk KX G ?za ?zl ?zc ?zk ?zb; (case za => k_is); (case zl => k_is); (case zc => k_is); (case zk => k_is); (case zb => exact fun _ _ _ _ _ _ us hl => match us, hl with | [_], _ => rfl)
        case d__law_is => refine' KW.defAt_mk KX G ?za ?zl ?zc ?zk ?zb; (case za => k_is); (case zl => k_is); (case zc => k_is); (case zk => k_is); (case zb => exact fun _ _ _ _ _ _ us hl => match us, hl with | [_, _], _ => rfl)
        case d__law_asked => refine' KW.defAt_mk KX G ?za ?zl ?zc ?zk ?zb; (case za => k_is); (case zl => k_is); (case zc => k_is); (case zk => k_is); (case zb => exact fun _ _ _ _ _ _ us hl => match us, hl with | [_, _, _, _], _ => rfl)
        case d__law_agrees => refine' KW.defAt_mk KX G ?za ?zl ?zc ?zk ?zb; (case za => k_is); (case zl => k_is); (case zc => k_is); (case zk => k_is); (case zb => exact fun _ _ _ _ _ _ us hl => match us, hl with | [_, _], _ => rfl)
        case d__law_deed => refine' KW.defAt_mk KX G ?za ?zl ?zc ?zk ?zb; (case za => k_is); (case zl => k_is); (case zc => k_is); (case zk => k_is); (case zb => exact fun _ _ _ _ _ _ us hl => match us, hl with | [_, _, _, _], _ => rfl)
        case d_law => refine' KW.defAt_mk KX G ?za ?zl ?zc ?zk ?zb; (case za => k_is); (case zl => k_is); (case zc => k_is); (case zk => k_is); (case zb => exact fun _ _ _ _ _ _ us hl => match us, hl with | [_], _ => rfl)
    obtain ⟨a, T⟩ := T
    exact ⟨T.d_law, fun base f fd F => K01.ok_law T f fd F⟩
#print axioms PySem.Challenge.cw_kilnwarden_k01_symbols_keep_numbers_holds
