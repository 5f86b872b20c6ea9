import PyProof.Rows.All
import Wide.All
import OpenK.AllK
import Wide.FinOn
import HandS.Call
import HandS.List
import HandS.Ends
import HandS.Words
import HandS.Exc
import HandS.ExcOwn
import HandS.TryOnly
import HandS.Text
import HandS.Codes
import HandS.Style
import HandS.IsInst
import HandS.Wide
import PySem.Challenge.RW_kilnwarden_k10_names_and_selectors
set_option Elab.async false
set_option linter.all false
set_option maxRecDepth 100000
set_option maxHeartbeats 2000000
/-! Kw: universal readings over HandS: one rule a construct, whatever the kinds of its parts are; the readings go by cases of the values and so reduce by simp. -/
namespace KW
open PySem PySem.Spec PyProof.Rows L2
abbrev Frag := PySem.W.Frag
abbrev S (l : List Nat) : Str := SX.S l

section
variable {X : Cx}
theorem PEw {e : Expr} {t t' : TE} (h : PE X e t) (w : ∀ σ H Q, t' σ H Q → t σ H Q) : PE X e t' := ⟨fun pins s σ H Q I q => h.run pins s σ H Q I (w σ H Q q)⟩
theorem PTw {e : Expr} {t t' : TT} (h : PT X e t) (w : ∀ σ H Q, t' σ H Q → t σ H Q) : PT X e t' := ⟨fun pins s σ H Q I q => h.run pins s σ H Q I (w σ H Q q)⟩
theorem PSw {st : Stmt} {t t' : TS} (h : PS X st t) (w : ∀ D σ H, t' D σ H → t D σ H) : PS X st t' := ⟨fun pins s σ H D I q => h.run pins s σ H D I (w D σ H q)⟩
theorem OpRw {f : Value → Value → Sem Value} {r r' : R2} (h : OpR X f r) (w : ∀ x y H Q, r' x y H Q → r x y H Q) : OpR X f r' := fun pins s σ H x y v u Q I rx ry q => h pins s σ H x y v u Q I rx ry (w _ _ _ _ q)
theorem UnRw {f : Value → Sem Value} {r r' : V → Hp → VK → Prop} (h : UnR X f r) (w : ∀ x H Q, r' x H Q → r x H Q) : UnR X f r' := fun pins s σ H x v Q I rx q => h pins s σ H x v Q I rx (w _ _ _ q)
theorem CallRw {f : Value} {r r' : List V → Hp → VK → Prop} (h : CallR X f r) (w : ∀ xs H Q, r' xs H Q → r xs H Q) : CallR X f r' := fun pins s σ H xs us Q I rx q => h pins s σ H xs us Q I rx (w _ _ _ q)
theorem IxRw {r r' : R2} (h : IxR X r) (w : ∀ x y H Q, r' x y H Q → r x y H Q) : IxR X r' := fun a b pins s σ H x y v u Q I rx ry q => h a b pins s σ H x y v u Q I rx ry (w _ _ _ _ q)
theorem SlRw {r r' : V → Option Int → Option Int → Hp → VK → Prop} (h : SlR X r) (w : ∀ x l u H Q, r' x l u H Q → r x l u H Q) : SlR X r' := fun pins s σ H x v vl vu lo hi sl Q I rx a b c q => h pins s σ H x v vl vu lo hi sl Q I rx a b c (w _ _ _ _ _ q)

/-! ### names -/
def uVar (i : Nat) : TE := fun σ H Q => match σ[i]? with
  | some (some v) => Q v H
  | _ => False
theorem kv (i : Nat) {x : Str} {pos : Pos} (hN : X.N[i]? = some x := by rfl) (hv : Vis X.env.scope x := by first | exact Or.inl rfl | exact Or.inr (Or.inl rfl) | exact Or.inr (Or.inr rfl)) (hd : (x == ("__debug__" : Str)) = false := by decide)
    (hcd : (x == ("__classdict__" : Str)) = false := by decide) : PE X (.Name x pos) (uVar i) := PEw (pe_var hN hv hd hcd) fun σ H Q h => by
  unfold uVar at h
  split at h
  · rename_i v e
    exact ⟨v, e, h⟩
  · exact h.elim

/-! ### operators -/
def uAdd (K : Frag) : R2
  | .int i, .int j, H, Q => Q (.int (i + j)) H
  | .str i, .str j, H, Q => i.length + j.length ≤ sizeLine ∧ Q (.str (i ++ j)) H
  | .ref a, .ref b, H, Q => rCat (.ref a) (.ref b) H Q ∨ rCatT K (.ref a) (.ref b) H Q
  | _, _, _, _ => False
theorem o_add : OpR X (binaryOp .Add) (uAdd X.K) := OpRw (op_add.or (op_add_str.or (op_cat.or op_catT))) fun x y H Q h => by
  unfold uAdd at h
  split at h
  · exact .inl ⟨_, _, rfl, rfl, h⟩
  · exact .inr (.inl ⟨_, _, rfl, rfl, h⟩)
  · exact .inr (.inr h)
  · exact h.elim
def uSub : R2
  | .int i, .int j, H, Q => Q (.int (i - j)) H
  | _, _, _, _ => False
theorem o_sub : OpR X (binaryOp .Sub) uSub := OpRw op_sub fun x y H Q h => by
  unfold uSub at h
  split at h
  · exact ⟨_, _, rfl, rfl, h⟩
  · exact h.elim
def uMul : R2
  | .int i, .int j, H, Q => (CMul i j ∨ CMulW i j) ∧ Q (.int (i * j)) H
  | .ref l, .int k, H, Q => rRep (.ref l) (.int k) H Q
  | _, _, _, _ => False
theorem o_mul : OpR X (binaryOp .Mult) uMul := OpRw (op_mul.or (op_mulW.or op_rep)) fun x y H Q h => by
  unfold uMul at h
  split at h
  · obtain ⟨c | c, h⟩ := h
    · exact .inl ⟨_, _, rfl, rfl, c, h⟩
    · exact .inr (.inl ⟨_, _, rfl, rfl, c, h⟩)
  · exact .inr (.inr h)
  · exact h.elim
def uMod : R2
  | .int i, .int j, H, Q => 0 < j ∧ Q (.int (i % j)) H
  | _, _, _, _ => False
theorem o_mod : OpR X (binaryOp .Mod) uMod := OpRw op_mod fun x y H Q h => by
  unfold uMod at h
  split at h
  · exact ⟨_, _, rfl, rfl, h⟩
  · exact h.elim
def uDiv : R2
  | .int i, .int j, H, Q => (CDiv i j ∨ CDivW i j) ∧ Q (.int (i / j)) H
  | _, _, _, _ => False
theorem o_fdiv : OpR X (binaryOp .FloorDiv) uDiv := OpRw (op_fdiv.or op_fdivW) fun x y H Q h => by
  unfold uDiv at h
  split at h
  · obtain ⟨c | c, h⟩ := h
    · exact .inl ⟨_, _, rfl, rfl, c, h⟩
    · exact .inr ⟨_, _, rfl, rfl, c, h⟩
  · exact h.elim
def uPow : R2
  | .int i, .int j, H, Q => CPow i j ∧ Q (.int (i ^ j.toNat)) H
  | _, _, _, _ => False
theorem o_pow : OpR X (binaryOp .Pow) uPow := OpRw op_pow fun x y H Q h => by
  unfold uPow at h
  split at h
  · exact ⟨_, _, rfl, rfl, h⟩
  · exact h.elim
def uShl : R2
  | .int i, .int j, H, Q => CPow i j ∧ Q (.int (i * 2 ^ j.toNat)) H
  | _, _, _, _ => False
theorem o_shl : OpR X (binaryOp .LShift) uShl := OpRw op_shl fun x y H Q h => by
  unfold uShl at h
  split at h
  · exact ⟨_, _, rfl, rfl, h⟩
  · exact h.elim
def uNeg : V → Hp → VK → Prop
  | .int i, H, Q => Q (.int (-i)) H
  | _, _, _ => False
theorem o_neg : UnR X (unaryOp .USub) uNeg := UnRw un_neg fun x H Q h => by
  unfold uNeg at h
  split at h
  · exact ⟨_, rfl, h⟩
  · exact h.elim
/-- in place: ints and texts; a list is lengthened -/
def uIAdd : R2
  | .int i, .int j, H, Q => Q (.int (i + j)) H
  | .str i, .str j, H, Q => i.length + j.length ≤ sizeLine ∧ Q (.str (i ++ j)) H
  | .ref a, .ref b, H, Q => rExt2 (.ref a) (.ref b) H Q
  | _, _, _, _ => False
theorem o_iadd : OpR X (inplaceOp .Add) uIAdd := OpRw (iop_add.or (iop_add_str.or iop_ext)) fun x y H Q h => by
  unfold uIAdd at h
  split at h
  · exact .inl ⟨_, _, rfl, rfl, h⟩
  · exact .inr (.inl ⟨_, _, rfl, rfl, h⟩)
  · exact .inr (.inr h)
  · exact h.elim
def uISub : R2
  | .int i, .int j, H, Q => Q (.int (i - j)) H
  | _, _, _, _ => False
theorem o_isub : OpR X (inplaceOp .Sub) uISub := OpRw iop_sub fun x y H Q h => by
  unfold uISub at h
  split at h
  · exact ⟨_, _, rfl, rfl, h⟩
  · exact h.elim

/-! ### comparisons -/
def uLt : R2
  | .int i, .int j, H, Q => Q (.bl (decide (i < j))) H
  | .str i, .str j, H, Q => Q (.bl (decide (i.cps.toList < j.cps.toList))) H
  | _, _, _, _ => False
theorem o_lt : OpR X (compareOp .Lt) uLt := OpRw (op_lt.or op_lt_str) fun x y H Q h => by
  unfold uLt at h
  split at h
  · exact .inl ⟨_, _, rfl, rfl, h⟩
  · exact .inr ⟨_, _, rfl, rfl, h⟩
  · exact h.elim
def uLe : R2
  | .int i, .int j, H, Q => Q (.bl (decide (i ≤ j))) H
  | _, _, _, _ => False
theorem o_le : OpR X (compareOp .LtE) uLe := OpRw op_le fun x y H Q h => by
  unfold uLe at h
  split at h
  · exact ⟨_, _, rfl, rfl, h⟩
  · exact h.elim
def uGt : R2
  | .int i, .int j, H, Q => Q (.bl (decide (j < i))) H
  | _, _, _, _ => False
theorem o_gt : OpR X (compareOp .Gt) uGt := OpRw op_gt fun x y H Q h => by
  unfold uGt at h
  split at h
  · exact ⟨_, _, rfl, rfl, h⟩
  · exact h.elim
def uGe : R2
  | .int i, .int j, H, Q => Q (.bl (decide (j ≤ i))) H
  | _, _, _, _ => False
theorem o_ge : OpR X (compareOp .GtE) uGe := OpRw op_ge fun x y H Q h => by
  unfold uGe at h
  split at h
  · exact ⟨_, _, rfl, rfl, h⟩
  · exact h.elim
def uEq (K : Frag) : R2
  | .int i, .int j, H, Q => Q (.bl (decide (i = j))) H
  | .str i, .str j, H, Q => Q (.bl (decide (i = j))) H
  | .bl i, .bl j, H, Q => Q (.bl (decide (i = j))) H
  | .non, .non, H, Q => Q (.bl true) H
  | .int _, .str _, H, Q => Q (.bl false) H
  | .str _, .int _, H, Q => Q (.bl false) H
  | .int _, .non, H, Q => Q (.bl false) H
  | .non, .int _, H, Q => Q (.bl false) H
  | .str _, .non, H, Q => Q (.bl false) H
  | .non, .str _, H, Q => Q (.bl false) H
  | .ref a, .ref b, H, Q => rEqD K (.ref a) (.ref b) H Q
  | _, _, _, _ => False
theorem o_eq (hu : X.A.units + 64 < cLine) : OpR X (compareOp .Eq) (uEq X.K) := OpRw (op_eq.or (op_eqD hu)) fun x y H Q h => by
  unfold uEq at h
  split at h <;> first
    | exact .inl ⟨rfl, by simpa using h⟩
    | exact .inr h
    | exact h.elim
def uNe (K : Frag) : R2
  | .int i, .int j, H, Q => Q (.bl (!decide (i = j))) H
  | .str i, .str j, H, Q => Q (.bl (!decide (i = j))) H
  | .bl i, .bl j, H, Q => Q (.bl (!decide (i = j))) H
  | .non, .non, H, Q => Q (.bl false) H
  | .int _, .str _, H, Q => Q (.bl true) H
  | .str _, .int _, H, Q => Q (.bl true) H
  | .int _, .non, H, Q => Q (.bl true) H
  | .non, .int _, H, Q => Q (.bl true) H
  | .str _, .non, H, Q => Q (.bl true) H
  | .non, .str _, H, Q => Q (.bl true) H
  | .ref a, .ref b, H, Q => rNeD K (.ref a) (.ref b) H Q
  | _, _, _, _ => False
theorem o_ne (hu : X.A.units + 64 < cLine) : OpR X (compareOp .NotEq) (uNe X.K) := OpRw (op_ne.or (op_neD hu)) fun x y H Q h => by
  unfold uNe at h
  split at h <;> first
    | exact .inl ⟨rfl, by simpa using h⟩
    | exact .inr h
    | exact h.elim
/-- is, is not: None and bools on the right -/
def uIs : R2
  | .non, .non, H, Q => Q (.bl true) H
  | .int _, .non, H, Q => Q (.bl false) H
  | .str _, .non, H, Q => Q (.bl false) H
  | .ref _, .non, H, Q => Q (.bl false) H
  | .bl _, .non, H, Q => Q (.bl false) H
  | .bl a, .bl b, H, Q => Q (.bl (decide (a = b))) H
  | _, _, _, _ => False
theorem o_is : OpR X (compareOp .Is) uIs := OpRw (op_isN.or op_isBl) fun x y H Q h => by
  unfold uIs at h
  split at h <;> first
    | exact .inl ⟨rfl, by simpa using h⟩
    | exact .inr ⟨_, _, rfl, rfl, h⟩
    | exact h.elim
def uNotIs : R2
  | .non, .non, H, Q => Q (.bl false) H
  | .int _, .non, H, Q => Q (.bl true) H
  | .str _, .non, H, Q => Q (.bl true) H
  | .ref _, .non, H, Q => Q (.bl true) H
  | .bl _, .non, H, Q => Q (.bl true) H
  | .bl a, .bl b, H, Q => Q (.bl (!decide (a = b))) H
  | _, _, _, _ => False
theorem o_isnot : OpR X (compareOp .IsNot) uNotIs := OpRw (op_notN.or op_notBl) fun x y H Q h => by
  unfold uNotIs at h
  split at h <;> first
    | exact .inl ⟨rfl, by simpa using h⟩
    | exact .inr ⟨_, _, rfl, rfl, h⟩
    | exact h.elim
/-- one text within another -/
def subStr (i j : Str) : Bool := !(Builtin.Str.occurrences j i 0 j.length 1).isEmpty
theorem subStr_one (c : Nat) (a : List Nat) : subStr (S [c]) (S a) = decide (c ∈ a) := SX.in_one a c
def uIn (K : Frag) : R2
  | .str i, .str j, H, Q => Q (.bl (subStr i j)) H
  | .int i, .ref p, H, Q => rIn K false (.int i) (.ref p) H Q
  | .str i, .ref p, H, Q => rIn K false (.str i) (.ref p) H Q
  | .non, .ref p, H, Q => rIn K false .non (.ref p) H Q
  | _, _, _, _ => False
theorem o_in : OpR X (compareOp .In) (uIn X.K) := OpRw (op_in_str.or op_in_seq) fun x y H Q h => by
  unfold uIn at h
  split at h <;> first
    | exact .inl ⟨_, _, rfl, rfl, h⟩
    | exact .inr h
    | exact h.elim
def uNotIn (K : Frag) : R2
  | .str i, .str j, H, Q => Q (.bl (!subStr i j)) H
  | .int i, .ref p, H, Q => rIn K true (.int i) (.ref p) H Q
  | .str i, .ref p, H, Q => rIn K true (.str i) (.ref p) H Q
  | .non, .ref p, H, Q => rIn K true .non (.ref p) H Q
  | _, _, _, _ => False
theorem o_notin : OpR X (compareOp .NotIn) (uNotIn X.K) := OpRw (op_notin_str.or op_notIn_seq) fun x y H Q h => by
  unfold uNotIn at h
  split at h <;> first
    | exact .inl ⟨_, _, rfl, rfl, h⟩
    | exact .inr h
    | exact h.elim

/-! ### tests -/
def uTru (K : Frag) : V → Hp → (Bool → Prop) → Prop
  | .non, _, k => k false
  | .bl b, _, k => k b
  | .int i, _, k => k (i != 0)
  | .str y, _, k => y.length ≤ sizeLine ∧ k ((y.length : Int) != 0)
  | .ref p, H, k => ∃ b, TruV K (.ref p) H b ∧ k b
  | _, _, _ => False
def uTest (K : Frag) (t : TE) : TT := fun σ H Q => t σ H fun x H1 => uTru K x H1 fun b => Q b H1
theorem kt {e : Expr} {t : TE} (h : PE X e t) (he : ∀ whole, isTrue e X.env whole = (do let v ← whole; standAt e.pos; holding [v] (truthy v)) := by intro _; rfl) : PT X e (uTest X.K t) := by
  refine ⟨fun pins s σ H Q I hq => ?_⟩
  refine isTrue_plain (thn (h.run pins s σ H _ I hq) fun v s1 ⟨x, H1, I1, r1, q1⟩ => tru_ok pins s1 σ H1 x v Q I1 r1 ?_) (he _)
  cases x with
  | non => exact ⟨false, rfl, q1⟩
  | bl b => exact ⟨b, rfl, q1⟩
  | int i => exact ⟨_, rfl, q1⟩
  | str y => exact ⟨_, ⟨q1.1, rfl⟩, q1.2⟩
  | ref p => exact q1
  | _ => exact False.elim q1

/-! ### subscripts -/
def uIx (K : Frag) : R2
  | .ref p, .int i, H, Q => ∃ xs v, (SqL K H p xs ∨ SqT K H p xs) ∧ atI xs i = some v ∧ Q v H
  | .str z, .int i, H, Q => z.length ≤ sizeLine ∧ ∃ c, atI z.cps.toList i = some c ∧ Q (.str (S [c])) H
  | _, _, _, _ => False
theorem o_ix : IxR X (uIx X.K) := IxRw ix_seq fun x y H Q h => by
  unfold uIx at h
  split at h
  · obtain ⟨xs, v, hs | hs, e, q⟩ := h
    · exact .inl ⟨_, xs, _, v, rfl, rfl, hs, e, q⟩
    · exact .inr (.inl ⟨_, xs, _, v, rfl, rfl, hs, e, q⟩)
  · obtain ⟨hz, c, e, q⟩ := h
    exact .inr (.inr ⟨_, _, c, rfl, rfl, hz, e, q⟩)
  · exact h.elim
def uSl (K : Frag) : V → Option Int → Option Int → Hp → VK → Prop
  | .ref a, lo, hi, H, Q => rSlL K (.ref a) lo hi H Q ∨ rSlT K (.ref a) lo hi H Q
  | .str z, lo, hi, H, Q => z.length ≤ sizeLine ∧ Q (.str (cutS z lo hi)) H
  | _, _, _, _, _ => False
theorem o_sl : SlR X (uSl X.K) := SlRw (sl_list.or (sl_tup.or sl_str)) fun x lo hi H Q h => by
  unfold uSl at h
  split at h
  · exact h.elim .inl fun z => .inr (.inl z)
  · exact .inr (.inr ⟨_, rfl, h.1, h.2⟩)
  · exact h.elim
theorem S_len (a : List Nat) : (S a).length = a.length := SX.S_len a
theorem S_nil : (S []).length = 0 := rfl
theorem S_tl (x : Str) : S x.cps.toList = x := SX.S_tl x
theorem cps_S (a : List Nat) : (S a).cps.toList = a := rfl
theorem S_cat (a b : List Nat) : S a ++ S b = S (a ++ b) := SX.S_cat a b
theorem S_inj {a b : List Nat} : S a = S b ↔ a = b := ⟨SX.S_inj, fun h => congrArg S h⟩
theorem cutS_S (a : List Nat) (i j : Nat) : cutS (S a) (some (i : Int)) (some (j : Int)) = S ((a.drop i).take (j - i)) := by
  unfold cutS
  rw [HT.sIx_nat, HT.sIx_nat, cps_S]
  have e : (S a).length = a.length := S_len a
  rw [e]
  refine congrArg S ?_
  rw [show a.drop (min i a.length) = a.drop i by
    by_cases h : i ≤ a.length
    · rw [Nat.min_eq_left h]
    · rw [Nat.min_eq_right (by omega), List.drop_length, List.drop_eq_nil_of_le (by omega)]]
  refine List.take_eq_take_iff.mpr ?_
  rw [List.length_drop]
  omega

/-! ### calls of built-ins -/
def uLen (K : Frag) : List V → Hp → VK → Prop
  | [.str y], H, Q => y.length ≤ sizeLine ∧ Q (.int y.length) H
  | [.ref p], H, Q => ∃ xs, (SqL K H p xs ∨ SqT K H p xs) ∧ Q (.int xs.length) H
  | _, _, _ => False
theorem c_len : CallR X (.builtin "len") (uLen X.K) := CallRw call_len fun xs H Q h => by
  unfold uLen at h
  split at h
  · exact ⟨_, _, rfl, ⟨h.1, rfl⟩, h.2⟩
  · obtain ⟨xs, hs | hs, q⟩ := h
    · exact ⟨_, _, rfl, .inl ⟨xs, hs, rfl⟩, q⟩
    · exact ⟨_, _, rfl, .inr ⟨xs, hs, rfl⟩, q⟩
  · exact h.elim
def uAbs : List V → Hp → VK → Prop
  | [.int i], H, Q => Q (.int (if i < 0 then -i else i)) H
  | _, _, _ => False
theorem c_abs : CallR X (.builtin "abs") uAbs := CallRw call_abs fun xs H Q h => by
  unfold uAbs at h
  split at h
  · exact ⟨_, rfl, h⟩
  · exact h.elim
def uInt : List V → Hp → VK → Prop
  | [.int i], H, Q => Q (.int i) H
  | [.bl k], H, Q => Q (.int (if k then 1 else 0)) H
  | _, _, _ => False
theorem c_int : CallR X (.type "int") uInt := CallRw call_int1 fun xs H Q h => by
  unfold uInt at h
  split at h
  · exact .inl ⟨_, rfl, h⟩
  · exact .inr ⟨_, rfl, h⟩
  · exact h.elim
def uMin2 : List V → Hp → VK → Prop
  | [.int i, .int j], H, Q => Q (.int (if j < i then j else i)) H
  | _, _, _ => False
theorem c_min2 (hc : X.calm = true) : CallR X (.builtin "min") uMin2 := CallRw (call_min2 hc) fun xs H Q h => by
  unfold uMin2 at h
  split at h
  · exact ⟨_, _, rfl, h⟩
  · exact h.elim
/-- isinstance against a built-in type -/
def isK (a b : String) : Bool := match kitB a b with
  | some r => r
  | none => false
def isOk (a b : String) : Bool := (kitB a b).isSome
theorem isK_of {a b : String} (h : isOk a b = true) {K : Frag} : PySem.W.kitOne K (.type a) (.type b) = some (isK a b) := by
  refine kit_ty ?_
  unfold isOk at h
  unfold isK
  cases e : kitB a b with
  | none => rw [e] at h; cases h
  | some r => rfl
def uIsi (K : Frag) : List V → Hp → VK → Prop
  | [.non, .ty n], H, Q => isOk "NoneType" n = true ∧ Q (.bl (isK "NoneType" n)) H
  | [.bl _, .ty n], H, Q => isOk "bool" n = true ∧ Q (.bl (isK "bool" n)) H
  | [.int _, .ty n], H, Q => isOk "int" n = true ∧ Q (.bl (isK "int" n)) H
  | [.str _, .ty n], H, Q => isOk "str" n = true ∧ Q (.bl (isK "str" n)) H
  | [.ref p, .ty n], H, Q => ∃ T, TyX K H (.ref p) (.type T) ∧ isOk T n = true ∧ Q (.bl (isK T n)) H
  | _, _, _ => False
theorem c_isi : CallR X (.builtin "isinstance") (uIsi X.K) := CallRw call_isi fun xs H Q h => by
  unfold uIsi at h
  split at h
  · exact ⟨_, _, _, _, _, rfl, .ty _, .base .non, isK_of h.1, h.2⟩
  · exact ⟨_, _, _, _, _, rfl, .ty _, .base (.bl _), isK_of h.1, h.2⟩
  · exact ⟨_, _, _, _, _, rfl, .ty _, .base (.int _), isK_of h.1, h.2⟩
  · exact ⟨_, _, _, _, _, rfl, .ty _, .base (.str _), isK_of h.1, h.2⟩
  · obtain ⟨T, ty, o, q⟩ := h
    exact ⟨_, _, _, _, _, rfl, .ty _, ty, isK_of o, q⟩
  · exact h.elim
theorem isK_int_int : isK "int" "int" = true := by decide +kernel
theorem isK_int_bool : isK "int" "bool" = false := by decide +kernel
theorem isK_int_str : isK "int" "str" = false := by decide +kernel
theorem isK_int_list : isK "int" "list" = false := by decide +kernel
theorem isK_int_tuple : isK "int" "tuple" = false := by decide +kernel
theorem isK_bool_int : isK "bool" "int" = true := by decide +kernel
theorem isK_bool_bool : isK "bool" "bool" = true := by decide +kernel
theorem isK_bool_str : isK "bool" "str" = false := by decide +kernel
theorem isK_str_str : isK "str" "str" = true := by decide +kernel
theorem isK_str_int : isK "str" "int" = false := by decide +kernel
theorem isK_str_bool : isK "str" "bool" = false := by decide +kernel
theorem isK_str_tuple : isK "str" "tuple" = false := by decide +kernel
theorem isK_str_list : isK "str" "list" = false := by decide +kernel
theorem isK_list_list : isK "list" "list" = true := by decide +kernel
theorem isK_list_tuple : isK "list" "tuple" = false := by decide +kernel
theorem isK_tuple_tuple : isK "tuple" "tuple" = true := by decide +kernel
theorem isK_tuple_list : isK "tuple" "list" = false := by decide +kernel
theorem isK_dict_dict : isK "dict" "dict" = true := by decide +kernel
theorem isK_none_int : isK "NoneType" "int" = false := by decide +kernel
theorem isK_none_bool : isK "NoneType" "bool" = false := by decide +kernel
theorem isOk_int_int : isOk "int" "int" = true := by decide +kernel
theorem isOk_int_bool : isOk "int" "bool" = true := by decide +kernel
theorem isOk_int_str : isOk "int" "str" = true := by decide +kernel
theorem isOk_int_list : isOk "int" "list" = true := by decide +kernel
theorem isOk_int_tuple : isOk "int" "tuple" = true := by decide +kernel
theorem isOk_bool_int : isOk "bool" "int" = true := by decide +kernel
theorem isOk_bool_bool : isOk "bool" "bool" = true := by decide +kernel
theorem isOk_bool_str : isOk "bool" "str" = true := by decide +kernel
theorem isOk_str_str : isOk "str" "str" = true := by decide +kernel
theorem isOk_str_int : isOk "str" "int" = true := by decide +kernel
theorem isOk_str_bool : isOk "str" "bool" = true := by decide +kernel
theorem isOk_str_tuple : isOk "str" "tuple" = true := by decide +kernel
theorem isOk_str_list : isOk "str" "list" = true := by decide +kernel
theorem isOk_list_list : isOk "list" "list" = true := by decide +kernel
theorem isOk_list_tuple : isOk "list" "tuple" = true := by decide +kernel
theorem isOk_tuple_tuple : isOk "tuple" "tuple" = true := by decide +kernel
theorem isOk_tuple_list : isOk "tuple" "list" = true := by decide +kernel
theorem isOk_dict_dict : isOk "dict" "dict" = true := by decide +kernel
theorem isOk_none_int : isOk "NoneType" "int" = true := by decide +kernel
theorem isOk_none_bool : isOk "NoneType" "bool" = true := by decide +kernel
end

/-! ### loops -/
/-- the loop itself, behind the making of its iterator: not opened by simp -/
def forK (J : It) (g : TG) (tb : TS) (D : Ends) (σ : L2.St) (H : Hp) : Prop :=
  ∃ W : Nat → Nat → L2.St → Hp → Prop, (∃ m, W 0 m σ H) ∧ ∀ i m σ H, W i m σ H →
    (J.stop i H ∧ D.nx σ H) ∨ (J.go i H ∧ ∃ N : L2.St → Hp → Prop, (∀ σ' H', N σ' H' → ∃ m', m' < m ∧ W (i + 1) m' σ' H') ∧ ∀ x H', J.yld i H x H' → g x σ H' fun σ2 H2 => tb { D with nx := N, ct := N, bk := D.nx } σ2 H2)
def uFor (wi : TI) (g : TG) (tb : TS) : TS := fun D σ H => wi σ H fun J H1 => forK J g tb D σ H1
theorem for_rng {lo : Int} {n : Nat} {g : TG} {tb : TS} {D : Ends} {σ : L2.St} {H : Hp} (Pv : Nat → L2.St → Hp → Prop) (h0 : Pv 0 σ H)
    (hs : ∀ i σ H, i < n → Pv i σ H → g (.int (lo + i)) σ H fun σ2 H2 => tb { D with nx := Pv (i + 1), ct := Pv (i + 1), bk := D.nx } σ2 H2) (hd : ∀ σ H, Pv n σ H → D.nx σ H) : forK (Itr lo n) g tb D σ H := for_range Pv h0 hs hd
theorem for_lst {K : Frag} {a : Addr} {xs : List V} {g : TG} {tb : TS} {D : Ends} {σ : L2.St} {H : Hp} (Pv : Nat → L2.St → Hp → Prop) (h0 : Pv 0 σ H) (hl : ∀ i σ H, i ≤ xs.length → Pv i σ H → SqL K H a xs)
    (hs : ∀ i x σ H, xs[i]? = some x → Pv i σ H → g x σ H fun σ2 H2 => tb { D with nx := Pv (i + 1), ct := Pv (i + 1), bk := D.nx } σ2 H2) (hd : ∀ σ H, Pv xs.length σ H → D.nx σ H) : forK (Itl K a) g tb D σ H := for_list Pv h0 hl hs hd
/-- while: what holds, by a measure -/
def uWhile (c : TT) (tb : TS) : TS := fun D σ H => ∃ W : Nat → L2.St → Hp → Prop, (∃ m, W m σ H) ∧ ∀ m σ H, W m σ H →
  c σ H fun b H1 => if b = true then tb { D with nx := fun σ' H' => ∃ m', m' < m ∧ W m' σ' H', ct := fun σ' H' => ∃ m', m' < m ∧ W m' σ' H', bk := D.nx } σ H1 else D.nx σ H1
section
variable {X : Cx}
theorem k_for {tg iter : Expr} {body : List Stmt} {wi : TI} {g : TG} {tb : TS} {pos : Pos} (hp : PassesOwn (model X.prog X.w) X.A X.env X.xe) (hc : X.calm = true) (hi : PI X tg iter wi) (hg : PG X tg g) (hb : PSs X body tb)
    (hs : ∀ x, foldedSetIterable iter X.env x = pure x := by intro _; rfl) : PS X (.For tg iter body [] pos) (uFor wi g tb) := ⟨(ps_for hp hc hi hg hb hs).run⟩
theorem k_while {c : Expr} {body : List Stmt} {tc : TT} {tb : TS} {pos : Pos} (hp : PassesOwn (model X.prog X.w) X.A X.env X.xe) (hc : PT X c tc) (hb : PSs X body tb) : PS X (.While c body [] pos) (uWhile tc tb) := by
  refine ⟨fun pins s σ H D I h => ?_⟩
  obtain ⟨W, ⟨m0, w0⟩, turn⟩ := h
  refine wpAny_While (codeAny_whileLoop (fun n s' => ∃ σ' H', Inv X pins σ' H' s' ∧ W n σ' H') ?_ m0 ⟨σ, H, I, w0⟩)
  rintro n s1 ⟨σ1, H1, I1, w1⟩
  refine wpAny_passesOwn hp (thn (hc.run pins s1 σ1 H1 _ I1 (turn n σ1 H1 w1)) fun b s2 ⟨H2, I2, q2⟩ => ?_)
  cases b with
  | true =>
    rw [if_pos rfl] at q2
    rw [if_pos rfl]
    refine wpAny_passesOwn hp (thn (hb.run pins s2 σ1 H2 _ I2 q2) fun f s3 q3 => ?_)
    cases f with
    | next =>
      obtain ⟨σ3, H3, I3, m', hm, w3⟩ := q3
      exact ⟨m', hm, σ3, H3, I3, w3⟩
    | cont =>
      obtain ⟨σ3, H3, I3, m', hm, w3⟩ := q3
      exact ⟨m', hm, σ3, H3, I3, w3⟩
    | brk => exact q3
    | ret v => exact q3
  | false =>
    rw [if_neg Bool.false_ne_true] at q2
    rw [if_neg Bool.false_ne_true]
    exact wpAny_execs_nil ⟨σ1, H2, I2, q2⟩

/-! ### defs of the text, called by their names -/
/-- the def x of the module keeps the promise sp, at level k; ps its parameters, dvs the defaults that a call leaves open -/
structure Cal (P : Program) (w : World) (K : Frag) (mg : Str → Option Value) (base : Heap) (k : Nat) (x : Str) (sp : Sp) : Prop where
  ex : ∃ (f : Addr) (fd : FuncData) (ps : List Str), mg x = some (.ref f) ∧ PySem.W.keepIn K (.ref f) = true ∧ Binds K fd ps [] ∧ FnOk P w K mg base (L2.CX P w) k f fd ps sp
def uCall (sp : Sp) (t : TA) : TE := fun σ H Q => t σ H fun vs H1 => sp vs H1 Q E0
theorem passAt0 {σ : L2.St} : PassesAt (L2.CX X.prog X.w) X σ E0 := fun _ _ _ _ _ _ h => by
  obtain ⟨_, _, _, _, _, _, _, _, _, _, _, _, z⟩ := h
  exact z.elim
section
variable {k : Nat} {x : Str} {sp : Sp} {p pos : Pos} {e : Expr} {es : List Expr} {t : TA}
/-- f(e, ..), f a def that raises nothing here -/
theorem kc (c : Cal X.prog X.w X.K X.mg X.base k x sp) (hr : Room k X.A) (ha : PA X (e :: es) t) (hg : Gl X x := by rfl) (hdb : (x == ("__debug__" : Str)) = false := by decide)
    (he : starEach (e :: es) X.env = (false, eval e X.env) :: starEach es X.env := by rfl) (hpl : (backTo pos (starEach es X.env)).any (·.1) = false := by rfl) : PE X (.Call (.Name x p) (e :: es) [] pos) (uCall sp t) := by
  obtain ⟨f, fd, ps, hm, hk, hb, F⟩ := c.ex
  exact pe_callS F hr hg hm hk hb (fun _ => passAt0) ha hdb he hpl
theorem kc0 (c : Cal X.prog X.w X.K X.mg X.base k x sp) (hr : Room k X.A) (hg : Gl X x := by rfl) (hdb : (x == ("__debug__" : Str)) = false := by decide) : PE X (.Call (.Name x p) [] [] pos) (uCall sp tNil) := by
  obtain ⟨f, fd, ps, hm, hk, hb, F⟩ := c.ex
  refine ⟨fun pins s σ H Q I h => ?_⟩
  refine wpAny_Call_Name_kw (ld_glob I hg hm ?_ hdb)
  exact PySem.W.callWith_K0 I.kIn hk (run_fnS (E := fun _ => E0) F hr hb passAt0 I .nil h)
/-- f(e, ..), f a def that may raise: W is what is wanted of it -/
theorem kcX {W : WX} (tk : Takes X W) (c : Cal X.prog X.w X.K X.mg X.base k x sp) (hr : Room k X.A) (ha : PA X (e :: es) t) (hg : Gl X x := by rfl) (hdb : (x == ("__debug__" : Str)) = false := by decide)
    (he : starEach (e :: es) X.env = (false, eval e X.env) :: starEach es X.env := by rfl) (hpl : (backTo pos (starEach es X.env)).any (·.1) = false := by rfl) : PE X (.Call (.Name x p) (e :: es) [] pos) (tCallS sp (WE W) t) := by
  obtain ⟨f, fd, ps, hm, hk, hb, F⟩ := c.ex
  exact pe_callS F hr hg hm hk hb (fun σ => passAt tk σ) ha hdb he hpl
end
end
/-- a def of the text, with what binds its arguments -/
structure DefAt (K : Frag) (mg : Str → Option Value) (x qual : Str) (st : Stmt) (ps : List Str) : Prop where
  ex : ∃ (f : Addr) (fd : FuncData), mg x = some (.ref f) ∧ Fun K x qual st f fd ∧ Binds K fd ps []
section
variable {P : Program} {w : World} {K : Frag} {mg : Str → Option Value} {base : Heap}
theorem DefAt.ok {x qual : Str} {st : Stmt} {N ps : List Str} {k : Nat} {sp : Sp} (D : DefAt K mg x qual st ps) (S : FnScope N ps (defScope st)) (len : ∀ vs H Q E, sp vs H Q E → vs.length = ps.length)
    (hbody : ∀ (f : Addr) (cdv : Value) (A : Around) (outer : List Env) (s : Shared) (H : Hp) (vs : List V) (Q : VK) (E : XK), Room k (A.deeper (envOfC qual (defScope st) s.heap.objs.size f cdv)) → sp vs H Q E →
      ∃ t, PSs (cxOf (L2.CX P w) P w K mg base N qual (defScope st) f cdv A outer s H E) (defBody st) t ∧ t { nx := fun _ H' => Q .non H', rt := Q } (start N vs) H) : Cal P w K mg base (k + 1) x sp := by
  obtain ⟨f, fd, hm, F, hb⟩ := D.ex
  refine ⟨f, fd, ps, hm, F.kp, hb, ?_⟩
  obtain ⟨oc, od, kV, doc, pm, an, cdv, ct, osl, rfl, lk, hcd⟩ := F.ex
  exact fn_of lk hcd S len fun A outer s H vs Q E hr hsp => hbody f cdv A outer s H vs Q E hr hsp
theorem Cal.mono {j k : Nat} {x : Str} {sp : Sp} (c : Cal P w K mg base j x sp) (h : j ≤ k) : Cal P w K mg base k x sp := by
  obtain ⟨f, fd, ps, hm, hk, hb, F⟩ := c.ex
  exact ⟨f, fd, ps, hm, hk, hb, F.mono h⟩
end
end KW
namespace KW
open PySem PySem.Spec PyProof.Rows L2
/-- the module's name x holds the constant v -/
def GV (mg : Str → Option Value) (x : Str) (v : V) : Prop := ∃ u, mg x = some u ∧ RelV v u
theorem k_g {X : Cx} {x : Str} {v : V} {pos : Pos} (h : GV X.mg x v) (hg : Gl X x := by rfl) (hd : (x == ("__debug__" : Str)) = false := by decide) : PE X (.Name x pos) (tC v) := by
  obtain ⟨u, hm, r⟩ := h
  exact pe_glob hg hm r hd
/-- an object that stands by itself may be changed while all else stands -/
def But (a : Addr) (H H' : Hp) : Prop := ∀ b o, b ≠ a → H b = some o → H' b = some o
theorem But.refl {a : Addr} (H : Hp) : But a H H := fun _ _ _ h => h
theorem But.trans {a : Addr} {H H1 H2 : Hp} (x : But a H H1) (y : But a H1 H2) : But a H H2 := fun b o n h => y b o n (x b o n h)
theorem But.upd {a : Addr} {H : Hp} {o : HO} : But a H (upd H a o) := fun b _ n h => by rw [upd_ne n]; exact h
theorem But.seq {a b : Addr} {K : Frag} {H H' : Hp} {xs : List V} (e : But a H H') (n : b ≠ a) (h : SqL K H b xs) : SqL K H' b xs := by
  rcases h with (h | ⟨o, h⟩) | h
  · exact .inl (.inl (e _ _ n h))
  · exact .inl (.inr ⟨o, e _ _ n h⟩)
  · exact .inr h
end KW
namespace KW
open PySem PySem.Spec PyProof.Rows L2
/-! ### reads and stores of lists and tuples: by lemmas, not by simp -/
section
variable {K : Frag} {H : Hp} {p : Addr} {xs : List V} {i : Int} {v : V} {Q : VK}
theorem ix_l (h : H p = some (.lst xs)) (e : atI xs i = some v) (q : Q v H) : uIx K (.ref p) (.int i) H Q := ⟨xs, v, .inl (.of h), e, q⟩
theorem ix_t (h : H p = some (.tup xs)) (e : atI xs i = some v) (q : Q v H) : uIx K (.ref p) (.int i) H Q := ⟨xs, v, .inr (.of h), e, q⟩
theorem ix_sl (h : SqL K H p xs) (e : atI xs i = some v) (q : Q v H) : uIx K (.ref p) (.int i) H Q := ⟨xs, v, .inl h, e, q⟩
theorem ix_st (h : SqT K H p xs) (e : atI xs i = some v) (q : Q v H) : uIx K (.ref p) (.int i) H Q := ⟨xs, v, .inr h, e, q⟩
theorem len_l (h : H p = some (.lst xs)) (q : Q (.int xs.length) H) : uLen K [.ref p] H Q := ⟨xs, .inl (.of h), q⟩
theorem len_t (h : H p = some (.tup xs)) (q : Q (.int xs.length) H) : uLen K [.ref p] H Q := ⟨xs, .inr (.of h), q⟩
theorem len_sl (h : SqL K H p xs) (q : Q (.int xs.length) H) : uLen K [.ref p] H Q := ⟨xs, .inl h, q⟩
theorem len_st (h : SqT K H p xs) (q : Q (.int xs.length) H) : uLen K [.ref p] H Q := ⟨xs, .inr h, q⟩
end
/-- o[i] = v -/
def uSet : TSet
  | .ref p, .int k, v, H, Q => ∃ xs j, H p = some (.lst xs) ∧ ixN xs.length k = some j ∧ Q (upd H p (.lst (xs.set j v)))
  | _, _, _, _, _ => False
theorem s_set {X : Cx} : PSet X uSet := fun pins s σ H o i v ov iv u Q I ro ri rv h => by
  unfold uSet at h
  split at h
  · obtain ⟨xs, j, h1, h2, q⟩ := h
    exact set_list pins s σ H _ _ _ ov iv u Q I ro ri rv ⟨_, xs, _, j, rfl, rfl, h1, h2, q⟩
  · exact h.elim
theorem set_l {H : Hp} {p : Addr} {xs : List V} {k : Int} {j : Nat} {v : V} {Q : Hp → Prop} (h : H p = some (.lst xs)) (e : ixN xs.length k = some j) (q : Q (upd H p (.lst (xs.set j v)))) : uSet (.ref p) (.int k) v H Q := ⟨xs, j, h, e, q⟩
end KW
namespace KW
open PySem PySem.Spec PyProof.Rows L2
theorem le_line {n : Nat} (h : n ≤ 1000000) : n ≤ sizeLine := by rw [sizeLine_eq]; omega
theorem lt_line {n : Nat} (h : n ≤ 1000000) : n < sizeLine := by rw [sizeLine_eq]; omega
theorem mul_l {i j : Int} (h : -18446744073709551616 < i ∧ i < 18446744073709551616) : CMul i j ∨ CMulW i j := .inl (.inl ⟨by omega, by omega⟩)
theorem mul_r {i j : Int} (h : -18446744073709551616 < j ∧ j < 18446744073709551616) : CMul i j ∨ CMulW i j := .inl (.inr ⟨by omega, by omega⟩)
theorem div_s {i j : Int} (h : 0 < j ∧ j < 1073741824) : CDiv i j ∨ CDivW i j := .inl h
theorem pow_s {i j : Int} (h : 0 ≤ j ∧ j ≤ 1000000 ∧ -18446744073709551616 < i ∧ i < 18446744073709551616) : CPow i j := ⟨h.1, h.2.1, by omega⟩
end KW
namespace KW
open PySem PySem.Spec PyProof.Rows L2
theorem But.new {st p : Addr} {H : Hp} {o : HO} (h : H p = none) : But st H (L2.upd H p o) := fun b u _ e => by rw [upd_ne (ne_of_none e h)]; exact e
theorem SqL.new {K : Frag} {H : Hp} {sc p : Addr} {o : HO} {xs : List V} (h : H p = none) (hS : SqL K H sc xs) : SqL K (upd H p o) sc xs := by
  rcases hS with (q | ⟨o, q⟩) | q
  · exact .inl (.inl (by rw [upd_ne (ne_of_none q h)]; exact q))
  · exact .inl (.inr ⟨o, by rw [upd_ne (ne_of_none q h)]; exact q⟩)
  · exact .inr q
theorem atI_int {α : Type} {xs : List α} {r : Int} (h0 : 0 ≤ r) (h1 : r < xs.length) : ∃ v, xs[r.toNat]? = some v ∧ atI xs r = some v := by
  obtain ⟨j, rfl⟩ := Int.eq_ofNat_of_zero_le h0
  have h : j < xs.length := by omega
  exact ⟨xs[j], List.getElem?_eq_getElem h, atI_nat (List.getElem?_eq_getElem h)⟩
end KW
namespace KW
open PySem PySem.Spec PyProof.Rows L2
theorem tup_l {K : Frag} {n : Nat} {t : TGs} {a : Addr} {xs : List V} {σ : L2.St} {H : Hp} {Q : L2.St → Hp → Prop} (h : H a = some (.tup xs)) (hn : xs.length = n) (q : t xs σ H Q) : gTup K n t (.ref a) σ H Q := ⟨a, xs, rfl, .of h, hn, q⟩
theorem tup_s {K : Frag} {n : Nat} {t : TGs} {a : Addr} {xs : List V} {σ : L2.St} {H : Hp} {Q : L2.St → Hp → Prop} (h : SqT K H a xs) (hn : xs.length = n) (q : t xs σ H Q) : gTup K n t (.ref a) σ H Q := ⟨a, xs, rfl, h, hn, q⟩
end KW
namespace KW
open PySem PySem.Spec PyProof.Rows L2
section
variable {P : Program} {w : World} {K : Frag} {mg : Str → Option Value} {base : Heap}
theorem DefAt.fn {x qual : Str} {st : Stmt} {N ps : List Str} {k : Nat} {sp : Sp} (S : FnScope N ps (defScope st)) (len : ∀ vs H Q E, sp vs H Q E → vs.length = ps.length)
    (hbody : ∀ (f : Addr) (cdv : Value) (A : Around) (outer : List Env) (s : Shared) (H : Hp) (vs : List V) (Q : VK) (E : XK), Room k (A.deeper (envOfC qual (defScope st) s.heap.objs.size f cdv)) → sp vs H Q E →
      ∃ t, PSs (cxOf (L2.CX P w) P w K mg base N qual (defScope st) f cdv A outer s H E) (defBody st) t ∧ t { nx := fun _ H' => Q .non H', rt := Q } (start N vs) H) :
    ∀ f fd, Fun K x qual st f fd → FnOk P w K mg base (L2.CX P w) (k + 1) f fd ps sp := by
  intro f fd F
  obtain ⟨oc, od, kV, doc, pm, an, cdv, ct, osl, rfl, lk, hcd⟩ := F.ex
  exact fn_of lk hcd S len fun A outer s H vs Q E hr hsp => hbody f cdv A outer s H vs Q E hr hsp
theorem defAt_mk {x qual : Str} {st : Stmt} {ps : List Str} {h : Heap} {f : Addr} {oc : Value} {od an : Option Addr} {osl : Array (Option Value)} {kV doc pm cdv ct : Value}
    (X : K.In h) (G : h.Ns mainGlobals mg) (a : PySem.W.nsIn K mainGlobals x = some (some (.ref f)))
    (l : K.lookup f = some ⟨oc, od, .func (PySem.W.fnOf x qual (defArgs st) (defBody st) (defScope st) .none kV doc pm an cdv ct), osl⟩) (c : PySem.W.codeIn K cdv qual = true) (k : PySem.W.keepIn K (.ref f) = true)
    (hb : ∀ (kV doc pm : Value) (an : Option Addr) (cdv ct : Value) (us : List Value), us.length = ps.length → bindArgs (PySem.W.fnOf x qual (defArgs st) (defBody st) (defScope st) .none kV doc pm an cdv ct) ⟨us, []⟩ = pure (ps.zip us)) : DefAt K mg x qual st ps := by
  have F := fun_mk (st := st) l c k
  exact ⟨f, _, PySem.W.mg_of X G a, F, F.binds hb⟩
theorem gv_mk {x : Str} {v : V} {u : Value} {h : Heap} (X : K.In h) (G : h.Ns mainGlobals mg) (a : PySem.W.nsIn K mainGlobals x = some (some u)) (r : RelV v u) : GV mg x v := ⟨u, PySem.W.mg_of X G a, r⟩
/-- the law's promise: True for every list of at most 63 ints -/
def sp_law63 (K : Frag) : Sp := fun vs H Q _ => ∃ (sc : Addr) (ns : List Int), vs = [.ref sc] ∧ SqL K H sc (ns.map .int) ∧ ns.length ≤ 63 ∧ ∀ H', Q (.bl true) H'
end
theorem CX_none {P : Program} {w : World} {l : List Env} {H : Hp} {s : Shared} {e : Value} {s' : Shared} (h : L2.CX P w l H s (fun _ _ _ => False) e s') : False := by
  obtain ⟨_, _, _, _, _, _, _, _, _, _, _, _, z⟩ := h
  exact z.elim
theorem walk63 {l : PySem.W.OpenLaw} {k : Nat} {st : Stmt} {q : Program} {loose : List Str} {XP : (Str → Option Value) → Heap → Prop} {YP : World → Heap → Prop} {d : DefRec} {K : Params → PySem.W.Frag} (hn : l.most = some 63) (hdf : d.params.defaults = []) (hd : d.name = "law") (hr : Room k callerA)
    (hY : ∀ (w : World) (h : Heap), YP w h → (K w.params).In h)
    (hb : ∀ (kV doc pm : Value) (an : Option Addr) (cdv ct : Value) (us : List Value), us.length = ["script"].length → bindArgs (PySem.W.fnOf "law" "law" (defArgs st) (defBody st) (defScope st) .none kV doc pm an cdv ct) ⟨us, []⟩ = pure ((["script"] : List Str).zip us))
    (F : ∀ (w : World) (mg : Str → Option Value) (h : Heap), (K w.params).In h → h.Ns mainGlobals mg →
      DefAt (K w.params) mg "law" "law" st ["script"] ∧ ∀ base f fd, Fun (K w.params) "law" "law" st f fd → FnOk l.prog w (K w.params) mg base (L2.CX l.prog w) k f fd ["script"] (sp_law63 (K w.params))) :
    PySem.W.WalkO q loose XP YP l.row.toRowW d [] (fun f vs => PySem.call f vs) := by
  refine L2.walk_of (n := 63) (k := k) (x := "script") (CX := fun w => L2.CX l.prog w) (sp := fun w => sp_law63 (K w.params)) hn (by decide) hdf hr hY ?_ (fun _ _ a ns hl _ hS => ⟨a, ns, rfl, hS, hl, fun _ => rfl⟩) fun _ _ _ _ _ h => CX_none h
  intro w mg fa h KX G hmg
  obtain ⟨D, ok⟩ := F w mg h KX G
  obtain ⟨f, fd, hm, Fu, _⟩ := D.ex
  rw [hd, hm] at hmg
  cases hmg
  have Fu' := Fu
  obtain ⟨oc, od, kV, doc, pm, an, cdv, ct, osl, rfl, lk, hcd⟩ := Fu.ex
  exact ⟨_, fun s u => .of_eq (hb kV doc pm an cdv ct [u] rfl), fun base _ _ => ok base _ _ Fu'⟩
end KW
/-! ### case lemmas -/
namespace KW
open PySem PySem.Spec PyProof.Rows L2
theorem uAdd_e1 {K : Frag} {i : Int} {j : Int} {H : Hp} {Q : VK} : uAdd K (.int i) (.int j) H Q = (Q (.int (i + j)) H) := rfl
theorem uAdd_e2 {K : Frag} {i : Str} {j : Str} {H : Hp} {Q : VK} : uAdd K (.str i) (.str j) H Q = (i.length + j.length ≤ sizeLine ∧ Q (.str (i ++ j)) H) := rfl
theorem uAdd_e3 {K : Frag} {a : Addr} {b : Addr} {H : Hp} {Q : VK} : uAdd K (.ref a) (.ref b) H Q = (rCat (.ref a) (.ref b) H Q ∨ rCatT K (.ref a) (.ref b) H Q) := rfl
theorem uSub_e1 {i : Int} {j : Int} {H : Hp} {Q : VK} : uSub (.int i) (.int j) H Q = (Q (.int (i - j)) H) := rfl
theorem uMul_e1 {i : Int} {j : Int} {H : Hp} {Q : VK} : uMul (.int i) (.int j) H Q = ((CMul i j ∨ CMulW i j) ∧ Q (.int (i * j)) H) := rfl
theorem uMul_e2 {l : Addr} {k : Int} {H : Hp} {Q : VK} : uMul (.ref l) (.int k) H Q = (rRep (.ref l) (.int k) H Q) := rfl
theorem uMod_e1 {i : Int} {j : Int} {H : Hp} {Q : VK} : uMod (.int i) (.int j) H Q = (0 < j ∧ Q (.int (i % j)) H) := rfl
theorem uDiv_e1 {i : Int} {j : Int} {H : Hp} {Q : VK} : uDiv (.int i) (.int j) H Q = ((CDiv i j ∨ CDivW i j) ∧ Q (.int (i / j)) H) := rfl
theorem uPow_e1 {i : Int} {j : Int} {H : Hp} {Q : VK} : uPow (.int i) (.int j) H Q = (CPow i j ∧ Q (.int (i ^ j.toNat)) H) := rfl
theorem uShl_e1 {i : Int} {j : Int} {H : Hp} {Q : VK} : uShl (.int i) (.int j) H Q = (CPow i j ∧ Q (.int (i * 2 ^ j.toNat)) H) := rfl
theorem uNeg_e1 {i : Int} {H : Hp} {Q : VK} : uNeg (.int i) H Q = (Q (.int (-i)) H) := rfl
theorem uIAdd_e1 {i : Int} {j : Int} {H : Hp} {Q : VK} : uIAdd (.int i) (.int j) H Q = (Q (.int (i + j)) H) := rfl
theorem uIAdd_e2 {i : Str} {j : Str} {H : Hp} {Q : VK} : uIAdd (.str i) (.str j) H Q = (i.length + j.length ≤ sizeLine ∧ Q (.str (i ++ j)) H) := rfl
theorem uIAdd_e3 {a : Addr} {b : Addr} {H : Hp} {Q : VK} : uIAdd (.ref a) (.ref b) H Q = (rExt2 (.ref a) (.ref b) H Q) := rfl
theorem uISub_e1 {i : Int} {j : Int} {H : Hp} {Q : VK} : uISub (.int i) (.int j) H Q = (Q (.int (i - j)) H) := rfl
theorem uLt_e1 {i : Int} {j : Int} {H : Hp} {Q : VK} : uLt (.int i) (.int j) H Q = (Q (.bl (decide (i < j))) H) := rfl
theorem uLt_e2 {i : Str} {j : Str} {H : Hp} {Q : VK} : uLt (.str i) (.str j) H Q = (Q (.bl (decide (i.cps.toList < j.cps.toList))) H) := rfl
theorem uLe_e1 {i : Int} {j : Int} {H : Hp} {Q : VK} : uLe (.int i) (.int j) H Q = (Q (.bl (decide (i ≤ j))) H) := rfl
theorem uGt_e1 {i : Int} {j : Int} {H : Hp} {Q : VK} : uGt (.int i) (.int j) H Q = (Q (.bl (decide (j < i))) H) := rfl
theorem uGe_e1 {i : Int} {j : Int} {H : Hp} {Q : VK} : uGe (.int i) (.int j) H Q = (Q (.bl (decide (j ≤ i))) H) := rfl
theorem uEq_e1 {K : Frag} {i : Int} {j : Int} {H : Hp} {Q : VK} : uEq K (.int i) (.int j) H Q = (Q (.bl (decide (i = j))) H) := rfl
theorem uEq_e2 {K : Frag} {i : Str} {j : Str} {H : Hp} {Q : VK} : uEq K (.str i) (.str j) H Q = (Q (.bl (decide (i = j))) H) := rfl
theorem uEq_e3 {K : Frag} {i : Bool} {j : Bool} {H : Hp} {Q : VK} : uEq K (.bl i) (.bl j) H Q = (Q (.bl (decide (i = j))) H) := rfl
theorem uEq_e4 {K : Frag} {H : Hp} {Q : VK} : uEq K (.non) (.non) H Q = (Q (.bl true) H) := rfl
theorem uEq_e5 {K : Frag} {w1 : Int} {w2 : Str} {H : Hp} {Q : VK} : uEq K (.int w1) (.str w2) H Q = (Q (.bl false) H) := rfl
theorem uEq_e6 {K : Frag} {w1 : Str} {w2 : Int} {H : Hp} {Q : VK} : uEq K (.str w1) (.int w2) H Q = (Q (.bl false) H) := rfl
theorem uEq_e7 {K : Frag} {w1 : Int} {H : Hp} {Q : VK} : uEq K (.int w1) (.non) H Q = (Q (.bl false) H) := rfl
theorem uEq_e8 {K : Frag} {w1 : Int} {H : Hp} {Q : VK} : uEq K (.non) (.int w1) H Q = (Q (.bl false) H) := rfl
theorem uEq_e9 {K : Frag} {w1 : Str} {H : Hp} {Q : VK} : uEq K (.str w1) (.non) H Q = (Q (.bl false) H) := rfl
theorem uEq_e10 {K : Frag} {w1 : Str} {H : Hp} {Q : VK} : uEq K (.non) (.str w1) H Q = (Q (.bl false) H) := rfl
theorem uEq_e11 {K : Frag} {a : Addr} {b : Addr} {H : Hp} {Q : VK} : uEq K (.ref a) (.ref b) H Q = (rEqD K (.ref a) (.ref b) H Q) := rfl
theorem uNe_e1 {K : Frag} {i : Int} {j : Int} {H : Hp} {Q : VK} : uNe K (.int i) (.int j) H Q = (Q (.bl (!decide (i = j))) H) := rfl
theorem uNe_e2 {K : Frag} {i : Str} {j : Str} {H : Hp} {Q : VK} : uNe K (.str i) (.str j) H Q = (Q (.bl (!decide (i = j))) H) := rfl
theorem uNe_e3 {K : Frag} {i : Bool} {j : Bool} {H : Hp} {Q : VK} : uNe K (.bl i) (.bl j) H Q = (Q (.bl (!decide (i = j))) H) := rfl
theorem uNe_e4 {K : Frag} {H : Hp} {Q : VK} : uNe K (.non) (.non) H Q = (Q (.bl false) H) := rfl
theorem uNe_e5 {K : Frag} {w1 : Int} {w2 : Str} {H : Hp} {Q : VK} : uNe K (.int w1) (.str w2) H Q = (Q (.bl true) H) := rfl
theorem uNe_e6 {K : Frag} {w1 : Str} {w2 : Int} {H : Hp} {Q : VK} : uNe K (.str w1) (.int w2) H Q = (Q (.bl true) H) := rfl
theorem uNe_e7 {K : Frag} {w1 : Int} {H : Hp} {Q : VK} : uNe K (.int w1) (.non) H Q = (Q (.bl true) H) := rfl
theorem uNe_e8 {K : Frag} {w1 : Int} {H : Hp} {Q : VK} : uNe K (.non) (.int w1) H Q = (Q (.bl true) H) := rfl
theorem uNe_e9 {K : Frag} {w1 : Str} {H : Hp} {Q : VK} : uNe K (.str w1) (.non) H Q = (Q (.bl true) H) := rfl
theorem uNe_e10 {K : Frag} {w1 : Str} {H : Hp} {Q : VK} : uNe K (.non) (.str w1) H Q = (Q (.bl true) H) := rfl
theorem uNe_e11 {K : Frag} {a : Addr} {b : Addr} {H : Hp} {Q : VK} : uNe K (.ref a) (.ref b) H Q = (rNeD K (.ref a) (.ref b) H Q) := rfl
theorem uIs_e1 {H : Hp} {Q : VK} : uIs (.non) (.non) H Q = (Q (.bl true) H) := rfl
theorem uIs_e2 {w1 : Int} {H : Hp} {Q : VK} : uIs (.int w1) (.non) H Q = (Q (.bl false) H) := rfl
theorem uIs_e3 {w1 : Str} {H : Hp} {Q : VK} : uIs (.str w1) (.non) H Q = (Q (.bl false) H) := rfl
theorem uIs_e4 {w1 : Addr} {H : Hp} {Q : VK} : uIs (.ref w1) (.non) H Q = (Q (.bl false) H) := rfl
theorem uIs_e5 {w1 : Bool} {H : Hp} {Q : VK} : uIs (.bl w1) (.non) H Q = (Q (.bl false) H) := rfl
theorem uIs_e6 {a : Bool} {b : Bool} {H : Hp} {Q : VK} : uIs (.bl a) (.bl b) H Q = (Q (.bl (decide (a = b))) H) := rfl
theorem uNotIs_e1 {H : Hp} {Q : VK} : uNotIs (.non) (.non) H Q = (Q (.bl false) H) := rfl
theorem uNotIs_e2 {w1 : Int} {H : Hp} {Q : VK} : uNotIs (.int w1) (.non) H Q = (Q (.bl true) H) := rfl
theorem uNotIs_e3 {w1 : Str} {H : Hp} {Q : VK} : uNotIs (.str w1) (.non) H Q = (Q (.bl true) H) := rfl
theorem uNotIs_e4 {w1 : Addr} {H : Hp} {Q : VK} : uNotIs (.ref w1) (.non) H Q = (Q (.bl true) H) := rfl
theorem uNotIs_e5 {w1 : Bool} {H : Hp} {Q : VK} : uNotIs (.bl w1) (.non) H Q = (Q (.bl true) H) := rfl
theorem uNotIs_e6 {a : Bool} {b : Bool} {H : Hp} {Q : VK} : uNotIs (.bl a) (.bl b) H Q = (Q (.bl (!decide (a = b))) H) := rfl
theorem uIn_e1 {K : Frag} {i : Str} {j : Str} {H : Hp} {Q : VK} : uIn K (.str i) (.str j) H Q = (Q (.bl (subStr i j)) H) := rfl
theorem uIn_e2 {K : Frag} {i : Int} {p : Addr} {H : Hp} {Q : VK} : uIn K (.int i) (.ref p) H Q = (rIn K false (.int i) (.ref p) H Q) := rfl
theorem uIn_e3 {K : Frag} {i : Str} {p : Addr} {H : Hp} {Q : VK} : uIn K (.str i) (.ref p) H Q = (rIn K false (.str i) (.ref p) H Q) := rfl
theorem uIn_e4 {K : Frag} {p : Addr} {H : Hp} {Q : VK} : uIn K (.non) (.ref p) H Q = (rIn K false .non (.ref p) H Q) := rfl
theorem uNotIn_e1 {K : Frag} {i : Str} {j : Str} {H : Hp} {Q : VK} : uNotIn K (.str i) (.str j) H Q = (Q (.bl (!subStr i j)) H) := rfl
theorem uNotIn_e2 {K : Frag} {i : Int} {p : Addr} {H : Hp} {Q : VK} : uNotIn K (.int i) (.ref p) H Q = (rIn K true (.int i) (.ref p) H Q) := rfl
theorem uNotIn_e3 {K : Frag} {i : Str} {p : Addr} {H : Hp} {Q : VK} : uNotIn K (.str i) (.ref p) H Q = (rIn K true (.str i) (.ref p) H Q) := rfl
theorem uNotIn_e4 {K : Frag} {p : Addr} {H : Hp} {Q : VK} : uNotIn K (.non) (.ref p) H Q = (rIn K true .non (.ref p) H Q) := rfl
theorem uTru_e1 {K : Frag} {w1 : Hp} {k : Bool → Prop} : uTru K (.non) w1 k = (k false) := rfl
theorem uTru_e2 {K : Frag} {b : Bool} {w1 : Hp} {k : Bool → Prop} : uTru K (.bl b) w1 k = (k b) := rfl
theorem uTru_e3 {K : Frag} {i : Int} {w1 : Hp} {k : Bool → Prop} : uTru K (.int i) w1 k = (k (i != 0)) := rfl
theorem uTru_e4 {K : Frag} {y : Str} {w1 : Hp} {k : Bool → Prop} : uTru K (.str y) w1 k = (y.length ≤ sizeLine ∧ k ((y.length : Int) != 0)) := rfl
theorem uTru_e5 {K : Frag} {p : Addr} {H : Hp} {k : Bool → Prop} : uTru K (.ref p) H k = (∃ b, TruV K (.ref p) H b ∧ k b) := rfl
theorem uIx_e1 {K : Frag} {p : Addr} {i : Int} {H : Hp} {Q : VK} : uIx K (.ref p) (.int i) H Q = (∃ xs v, (SqL K H p xs ∨ SqT K H p xs) ∧ atI xs i = some v ∧ Q v H) := rfl
theorem uIx_e2 {K : Frag} {z : Str} {i : Int} {H : Hp} {Q : VK} : uIx K (.str z) (.int i) H Q = (z.length ≤ sizeLine ∧ ∃ c, atI z.cps.toList i = some c ∧ Q (.str (S [c])) H) := rfl
theorem uSl_e1 {K : Frag} {a : Addr} {lo : Option Int} {hi : Option Int} {H : Hp} {Q : VK} : uSl K (.ref a) lo hi H Q = (rSlL K (.ref a) lo hi H Q ∨ rSlT K (.ref a) lo hi H Q) := rfl
theorem uSl_e2 {K : Frag} {z : Str} {lo : Option Int} {hi : Option Int} {H : Hp} {Q : VK} : uSl K (.str z) lo hi H Q = (z.length ≤ sizeLine ∧ Q (.str (cutS z lo hi)) H) := rfl
theorem uLen_e1 {K : Frag} {y : Str} {H : Hp} {Q : VK} : uLen K [.str y] H Q = (y.length ≤ sizeLine ∧ Q (.int y.length) H) := rfl
theorem uLen_e2 {K : Frag} {p : Addr} {H : Hp} {Q : VK} : uLen K [.ref p] H Q = (∃ xs, (SqL K H p xs ∨ SqT K H p xs) ∧ Q (.int xs.length) H) := rfl
theorem uAbs_e1 {i : Int} {H : Hp} {Q : VK} : uAbs [.int i] H Q = (Q (.int (if i < 0 then -i else i)) H) := rfl
theorem uInt_e1 {i : Int} {H : Hp} {Q : VK} : uInt [.int i] H Q = (Q (.int i) H) := rfl
theorem uInt_e2 {k : Bool} {H : Hp} {Q : VK} : uInt [.bl k] H Q = (Q (.int (if k then 1 else 0)) H) := rfl
theorem uMin2_e1 {i : Int} {j : Int} {H : Hp} {Q : VK} : uMin2 [.int i, .int j] H Q = (Q (.int (if j < i then j else i)) H) := rfl
theorem uIsi_e1 {K : Frag} {n : String} {H : Hp} {Q : VK} : uIsi K [.non, .ty n] H Q = (isOk "NoneType" n = true ∧ Q (.bl (isK "NoneType" n)) H) := rfl
theorem uIsi_e2 {K : Frag} {w1 : Bool} {n : String} {H : Hp} {Q : VK} : uIsi K [.bl w1, .ty n] H Q = (isOk "bool" n = true ∧ Q (.bl (isK "bool" n)) H) := rfl
theorem uIsi_e3 {K : Frag} {w1 : Int} {n : String} {H : Hp} {Q : VK} : uIsi K [.int w1, .ty n] H Q = (isOk "int" n = true ∧ Q (.bl (isK "int" n)) H) := rfl
theorem uIsi_e4 {K : Frag} {w1 : Str} {n : String} {H : Hp} {Q : VK} : uIsi K [.str w1, .ty n] H Q = (isOk "str" n = true ∧ Q (.bl (isK "str" n)) H) := rfl
theorem uIsi_e5 {K : Frag} {p : Addr} {n : String} {H : Hp} {Q : VK} : uIsi K [.ref p, .ty n] H Q = (∃ T, TyX K H (.ref p) (.type T) ∧ isOk T n = true ∧ Q (.bl (isK T n)) H) := rfl
theorem cx_K {CX : CXT} {P : Program} {w : World} {K : Frag} {mg : Str → Option Value} {base : Heap} {N : List Str} {qual : Str} {scope : Scope} {f : Addr} {cd : Value} {A : Around} {outer : List Env} {s : Shared} {H : Hp} {E : XK} : (cxOf CX P w K mg base N qual scope f cd A outer s H E).K = K := rfl
theorem uVar_s {i : Nat} {σ : L2.St} {H : Hp} {Q : VK} {v : V} (h : σ[i]? = some (some v)) : uVar i σ H Q = Q v H := by unfold uVar; rw [h]
theorem uVar_0 {a : V} {l : L2.St} {H : Hp} {Q : VK} : uVar 0 (some a :: l) H Q = Q a H := rfl
theorem uVar_n {i : Nat} {a : Option V} {l : L2.St} {H : Hp} {Q : VK} : uVar (i + 1) (a :: l) H Q = uVar i l H Q := rfl
end KW

set_option Elab.async false
set_option linter.all false
set_option maxRecDepth 100000
set_option maxHeartbeats 4000000
namespace K10
open PySem PySem.Spec PyProof.Rows L2 KW
def topS (i : Nat) : Stmt := PySem.Challenge.pw_kilnwarden_k10_names_and_selectors.main.body.getD i (.Pass ⟨0, 0, 0, 0⟩)

def str_0 : List Nat := [65, 66, 67, 68, 69, 70, 71, 72, 73, 74, 75, 76, 77, 78, 79, 80, 81, 82, 83, 84, 85, 86, 87, 88, 89, 90, 97, 98, 99, 100, 101, 102, 103, 104, 105, 106, 107, 108, 109, 110, 111, 112, 113, 114, 115, 116, 117, 118, 119, 120, 121, 122]
theorem lit_0 : (PySem.Str.ofString "ABCDEFGHIJKLMNOPQRSTUVWXYZabcdefghijklmnopqrstuvwxyz") = S str_0 := by decide +kernel
def str_1 : List Nat := [48, 49, 50, 51, 52, 53, 54, 55, 56, 57]
theorem lit_1 : (PySem.Str.ofString "0123456789") = S str_1 := by decide +kernel
def str_2 : List Nat := [43, 45, 42, 47, 60, 62, 61, 126, 38, 44, 64]
theorem lit_2 : (PySem.Str.ofString "+-*/<>=~&,@") = S str_2 := by decide +kernel
theorem lit_3 : (PySem.Str.ofString "") = S [] := by decide +kernel
theorem lit_4 : (PySem.Str.ofString ":") = S [58] := by decide +kernel
def str_5 : List Nat := [58, 32, 95, 45, 43, 39, 35, 46, 10]
theorem lit_5 : (PySem.Str.ofString ": _-+'#.\n") = S str_5 := by decide +kernel
abbrev s_char_at : Stmt := topS 5
abbrev N_char_at : List Str := ["source", "at"]
theorem sc_char_at : FnScope N_char_at ["source", "at"] (defScope s_char_at) := ⟨rfl, rfl, rfl, by decide +kernel, rfl, by decide +kernel, by decide +kernel⟩
abbrev s_is_in : Stmt := topS 6
abbrev N_is_in : List Str := ["char", "chars"]
theorem sc_is_in : FnScope N_is_in ["char", "chars"] (defScope s_is_in) := ⟨rfl, rfl, rfl, by decide +kernel, rfl, by decide +kernel, by decide +kernel⟩
abbrev s_end_of : Stmt := topS 7
abbrev N_end_of : List Str := ["source", "at", "chars"]
theorem sc_end_of : FnScope N_end_of ["source", "at", "chars"] (defScope s_end_of) := ⟨rfl, rfl, rfl, by decide +kernel, rfl, by decide +kernel, by decide +kernel⟩
abbrev s_is_name : Stmt := topS 8
abbrev N_is_name : List Str := ["text"]
theorem sc_is_name : FnScope N_is_name ["text"] (defScope s_is_name) := ⟨rfl, rfl, rfl, by decide +kernel, rfl, by decide +kernel, by decide +kernel⟩
abbrev s_arity : Stmt := topS 9
abbrev N_arity : List Str := ["selector"]
theorem sc_arity : FnScope N_arity ["selector"] (defScope s_arity) := ⟨rfl, rfl, rfl, by decide +kernel, rfl, by decide +kernel, by decide +kernel⟩
abbrev s__law_start : Stmt := topS 11
abbrev N__law_start : List Str := ["script"]
theorem sc__law_start : FnScope N__law_start ["script"] (defScope s__law_start) := ⟨rfl, rfl, rfl, by decide +kernel, rfl, by decide +kernel, by decide +kernel⟩
abbrev s__law_pick : Stmt := topS 12
abbrev N__law_pick : List Str := ["state", "limit", "cell", "drawn"]
theorem sc__law_pick : FnScope N__law_pick ["state", "limit"] (defScope s__law_pick) := ⟨rfl, rfl, rfl, by decide +kernel, rfl, by decide +kernel, by decide +kernel⟩
abbrev s__law_letters : Stmt := topS 13
abbrev N__law_letters : List Str := []
theorem sc__law_letters : FnScope N__law_letters [] (defScope s__law_letters) := ⟨rfl, rfl, rfl, by decide +kernel, rfl, by decide +kernel, by decide +kernel⟩
abbrev s__law_string : Stmt := topS 14
abbrev N__law_string : List Str := ["state", "size", "chars", "string", "k"]
theorem sc__law_string : FnScope N__law_string ["state"] (defScope s__law_string) := ⟨rfl, rfl, rfl, by decide +kernel, rfl, by decide +kernel, by decide +kernel⟩
abbrev s__law_is_name : Stmt := topS 15
abbrev N__law_is_name : List Str := ["string", "k"]
theorem sc__law_is_name : FnScope N__law_is_name ["string"] (defScope s__law_is_name) := ⟨rfl, rfl, rfl, by decide +kernel, rfl, by decide +kernel, by decide +kernel⟩
abbrev s__law_name : Stmt := topS 16
abbrev N__law_name : List Str := ["state", "size", "name", "k"]
theorem sc__law_name : FnScope N__law_name ["state"] (defScope s__law_name) := ⟨rfl, rfl, rfl, by decide +kernel, rfl, by decide +kernel, by decide +kernel⟩
abbrev s__law_selector : Stmt := topS 17
abbrev N__law_selector : List Str := ["state", "choice", "selector", "k", "count"]
theorem sc__law_selector : FnScope N__law_selector ["state"] (defScope s__law_selector) := ⟨rfl, rfl, rfl, by decide +kernel, rfl, by decide +kernel, by decide +kernel⟩
abbrev s_law : Stmt := topS 18
abbrev N_law : List Str := ["script", "state", "k", "string", "actual", "name", "selector", "count", "found"]
theorem sc_law : FnScope N_law ["script"] (defScope s_law) := ⟨rfl, rfl, rfl, by decide +kernel, rfl, by decide +kernel, by decide +kernel⟩
structure Txt (K : Frag) (mg : Str → Option Value) : Prop where
  n_abs : mg "abs" = none
  n_bool : mg "bool" = none
  n_int : mg "int" = none
  n_isinstance : mg "isinstance" = none
  n_len : mg "len" = none
  n_range : mg "range" = none
  g_MOST_NAME : GV mg "MOST_NAME" (.int (32))
  g_LETTERS : GV mg "LETTERS" (.str (S str_0))
  g_DIGITS : GV mg "DIGITS" (.str (S str_1))
  g_SIGNS : GV mg "SIGNS" (.str (S str_2))
  d_char_at : DefAt K mg "char_at" "char_at" s_char_at ["source", "at"]
  d_is_in : DefAt K mg "is_in" "is_in" s_is_in ["char", "chars"]
  d_end_of : DefAt K mg "end_of" "end_of" s_end_of ["source", "at", "chars"]
  d_is_name : DefAt K mg "is_name" "is_name" s_is_name ["text"]
  d_arity : DefAt K mg "arity" "arity" s_arity ["selector"]
  d__law_start : DefAt K mg "_law_start" "_law_start" s__law_start ["script"]
  d__law_pick : DefAt K mg "_law_pick" "_law_pick" s__law_pick ["state", "limit"]
  d__law_letters : DefAt K mg "_law_letters" "_law_letters" s__law_letters []
  d__law_string : DefAt K mg "_law_string" "_law_string" s__law_string ["state"]
  d__law_is_name : DefAt K mg "_law_is_name" "_law_is_name" s__law_is_name ["string"]
  d__law_name : DefAt K mg "_law_name" "_law_name" s__law_name ["state"]
  d__law_selector : DefAt K mg "_law_selector" "_law_selector" s__law_selector ["state"]
  d_law : DefAt K mg "law" "law" s_law ["script"]
end K10

set_option Elab.async false
set_option linter.all false
set_option maxRecDepth 100000
set_option maxHeartbeats 4000000
namespace K10
open PySem PySem.Spec PyProof.Rows L2 KW
/-! ### plain functions -/
def isIn : List Nat → List Nat → Bool
  | [x], cs => decide (x ∈ cs)
  | _, _ => false
def endOf (l : List Nat) (i : Nat) (cs : List Nat) : Nat := i + ((l.drop i).takeWhile (fun c => decide (c ∈ cs))).length
theorem drop_one {l : List Nat} {i : Nat} {c : Nat} (h : l[i]? = some c) : l.drop i = c :: l.drop (i + 1) := by
  obtain ⟨h1, h2⟩ := List.getElem?_eq_some_iff.mp h
  rw [← h2]; exact List.drop_eq_getElem_cons h1
theorem isIn_at (l cs : List Nat) (i : Nat) : isIn ((l.drop i).take 1) cs = match l[i]? with | some c => decide (c ∈ cs) | none => false := by
  cases e : l[i]? with
  | none => rw [List.drop_eq_nil_of_le (List.getElem?_eq_none_iff.mp e)]; rfl
  | some c => rw [drop_one e]; rfl
theorem endOf_in {l cs : List Nat} {i : Nat} (h : isIn ((l.drop i).take 1) cs = true) : i < l.length ∧ endOf l i cs = endOf l (i + 1) cs := by
  rw [isIn_at] at h
  cases e : l[i]? with
  | none => rw [e] at h; cases h
  | some c =>
    rw [e] at h
    refine ⟨(List.getElem?_eq_some_iff.mp e).1, ?_⟩
    unfold endOf
    have hc : c ∈ cs := of_decide_eq_true h
    rw [drop_one e, List.takeWhile_cons_of_pos (p := fun c => decide (c ∈ cs)) (decide_eq_true hc), List.length_cons]
    omega
theorem endOf_out {l cs : List Nat} {i : Nat} (h : isIn ((l.drop i).take 1) cs = false) : endOf l i cs = i := by
  rw [isIn_at] at h
  unfold endOf
  cases e : l[i]? with
  | none => rw [List.drop_eq_nil_of_le (List.getElem?_eq_none_iff.mp e)]; rfl
  | some c =>
    rw [e] at h
    rw [drop_one e, List.takeWhile_cons_of_neg (by simpa using h)]
    rfl
def LD : List Nat := str_0 ++ str_1
def isName (l : List Nat) : Bool := isIn (l.take 1) str_0 && decide (l.length ≤ 32) && decide (endOf l 0 LD = l.length)
def arity (l : List Nat) : Int := match l with
  | [] => 0
  | c :: _ => if c ∈ str_2 then 1 else (l.count 58 : Nat)

theorem count_S (c : Nat) (l : List Nat) : Txt.count (S l) (S [c]) = (l.count c : Nat) := by
  rw [show S [c] = (⟨#[c]⟩ : Str) from rfl, count_is]
  show cnt c l = _
  induction l with
  | nil => rfl
  | cons n r ih => rw [cnt_cons, ih, List.count_cons]; by_cases h : n = c <;> simp [h] <;> omega
/-! ### promises -/
def sp_char_at : Sp := fun vs H Q _ => ∃ (l : List Nat) (i : Nat), vs = [.str (S l), .int i] ∧ l.length ≤ 10000 ∧ Q (.str (S ((l.drop i).take 1))) H
def sp_is_in : Sp := fun vs H Q _ => ∃ (c cs : List Nat), vs = [.str (S c), .str (S cs)] ∧ c.length ≤ 1 ∧ Q (.bl (isIn c cs)) H
def sp_end_of : Sp := fun vs H Q _ => ∃ (l cs : List Nat) (i : Nat), vs = [.str (S l), .int i, .str (S cs)] ∧ l.length ≤ 10000 ∧ Q (.int (endOf l i cs)) H
def sp_is_name : Sp := fun vs H Q _ => ∃ (l : List Nat), vs = [.str (S l)] ∧ l.length ≤ 10000 ∧ Q (.bl (isName l)) H
def sp_arity : Sp := fun vs H Q _ => ∃ (l : List Nat), vs = [.str (S l)] ∧ l ≠ [] ∧ l.length ≤ 10000 ∧ Q (.int (arity l)) H
/-- the state of the drawing stands at st -/
def Sta (K : Frag) (H : Hp) (st : Addr) : Prop := ∃ (sc : Addr) (ns : List Int) (i : Nat) (b s : Int), H st = some (.lst [.ref sc, .int i, .int b, .int s]) ∧ SqL K H sc (ns.map .int) ∧ i ≤ ns.length ∧ ns.length ≤ 63 ∧ 0 ≤ b ∧ 0 ≤ s ∧ s < 2147483648
def sp_start (K : Frag) : Sp := fun vs H Q _ => ∃ (sc : Addr) (ns : List Int), vs = [.ref sc] ∧ SqL K H sc (ns.map .int) ∧ ns.length ≤ 63 ∧ ∀ st H', Sta K H' st → Q (.ref st) H'
def sp_pick (K : Frag) : Sp := fun vs H Q _ => ∃ (st : Addr) (n : Int), vs = [.ref st, .int n] ∧ 0 < n ∧ n ≤ 1000000 ∧ Sta K H st ∧ ∀ r H', Sta K H' st → But st H H' → 0 ≤ r → r < n → Q (.int r) H'
def sp_letters : Sp := fun vs H Q _ => vs = [] ∧ Q (.str (S str_0)) H
def sp_string (K : Frag) : Sp := fun vs H Q _ => ∃ (st : Addr), vs = [.ref st] ∧ Sta K H st ∧ ∀ l H', Sta K H' st → But st H H' → l.length ≤ 40 → Q (.str (S l)) H'
def sp_law_is_name : Sp := fun vs H Q _ => ∃ (l : List Nat), vs = [.str (S l)] ∧ l.length ≤ 10000 ∧ Q (.bl (isName l)) H
def sp_name (K : Frag) : Sp := fun vs H Q _ => ∃ (st : Addr), vs = [.ref st] ∧ Sta K H st ∧ ∀ l H', Sta K H' st → But st H H' → isName l = true → Q (.str (S l)) H'
def sp_selector (K : Frag) : Sp := fun vs H Q _ => ∃ (st : Addr), vs = [.ref st] ∧ Sta K H st ∧ ∀ p l H', Sta K H' st → But st H H' → H' p = some (.tup [.str (S l), .int (arity l)]) → l ≠ [] → l.length ≤ 10000 → Q (.ref p) H'
def sp_law (K : Frag) : Sp := fun vs H Q _ => ∃ (sc : Addr) (ns : List Int), vs = [.ref sc] ∧ SqL K H sc (ns.map .int) ∧ ns.length ≤ 63 ∧ ∀ H', Q (.bl true) H'
theorem But.int {K : Frag} {H H' : Hp} {st sc : Addr} {a : Addr} {r : List V} {ns : List Int} (h : H st = some (.lst (.ref a :: r))) (b : But st H H') (hS : SqL K H sc (ns.map .int)) : SqL K H' sc (ns.map .int) := by
  have ne : ∀ u, H sc = some u → (u = .lst (ns.map .int) ∨ ∃ o, u = .frz o (.lst (ns.map .int))) → sc ≠ st := by
    rintro u e hu rfl
    rw [h] at e
    cases e
    rcases hu with hu | ⟨o, hu⟩
    · injection hu with hu
      cases ns <;> cases hu
    · cases hu
  rcases hS with (q | ⟨o, q⟩) | q
  · exact .inl (.inl (b _ _ (ne _ q (.inl rfl)) q))
  · exact .inl (.inr ⟨o, b _ _ (ne _ q (.inr ⟨o, rfl⟩)) q⟩)
  · exact .inr q
local macro_rules | `(tactic| walk_at "kw") => `(tactic| simp only [tSeq, tNext, tIfS, tTest, tAnd, tOr, tNot, tAndV, tOrV, tNotV, tIf, tChain, tOp, tUn, tC, tAsg, gName, gSub, gCons, gNil, tRet, tRetN, tDrop, tCons, tNil, tCB, tAug, tSl, tPart, tNoPart, tLst, tTup, tBM, tBM0, uTest, uFor, iRng1, iRng2, iList, uCall, List.map_cons, List.map_nil, List.length_cons, List.length_nil, List.cons_append, List.nil_append, List.replicate, Nat.zero_add, Nat.reduceAdd, Nat.reduceSub, List.getElem?_cons_zero, List.getElem?_cons_succ, List.set_cons_zero, List.set_cons_succ, V.bl.injEq, V.int.injEq, V.str.injEq, V.ref.injEq, V.ty.injEq, List.cons.injEq, and_true, true_and, exists_eq_left', exists_eq_right, exists_eq_left, exists_and_left, exists_and_right, decide_eq_true_eq, Bool.not_eq_true', decide_eq_false_iff_not, Bool.false_eq_true, if_true, if_false, ite_true, ite_false, Bool.not_true, Bool.not_false, reduceCtorEq, decide_true, decide_false, Bool.not_not, isK_int_int, isK_int_bool, isK_int_str, isK_int_list, isK_int_tuple, isK_bool_int, isK_bool_bool, isK_bool_str, isK_str_str, isK_str_int, isK_str_bool, isK_str_tuple, isK_str_list, isK_list_list, isK_list_tuple, isK_tuple_tuple, isK_tuple_list, isOk_int_int, isOk_int_bool, isOk_int_str, isOk_int_list, isOk_int_tuple, isOk_bool_int, isOk_bool_bool, isOk_bool_str, isOk_str_str, isOk_str_int, isOk_str_bool, isOk_str_tuple, isOk_str_list, isOk_list_list, isOk_list_tuple, isOk_tuple_tuple, isOk_tuple_list, isK_dict_dict, isOk_dict_dict, isK_none_int, isK_none_bool, isOk_none_int, isOk_none_bool, tyV, S_inj, S_cat, L2.start, Nat.reduceSub, List.replicate_succ, List.replicate_zero, and_assoc, List.append_nil, Nat.reduceEqDiff, Option.some.injEq, Int.natCast_inj, upd_upd, Int.reducePow, Int.reduceToNat, Int.reduceMul, Int.reduceAdd, Int.reduceSub, Int.reduceLT, Int.reduceLE, Int.reduceNeg, Int.reduceDiv, Int.reduceMod, Nat.reducePow, Nat.reduceMul, S_len, List.length_append, List.length_map, List.length_range, not_true_eq_false, not_false_eq_true, ne_eq, uAdd_e1, uAdd_e2, uAdd_e3, uSub_e1, uMul_e1, uMul_e2, uMod_e1, uDiv_e1, uPow_e1, uShl_e1, uNeg_e1, uIAdd_e1, uIAdd_e2, uIAdd_e3, uISub_e1, uLt_e1, uLt_e2, uLe_e1, uGt_e1, uGe_e1, uEq_e1, uEq_e2, uEq_e3, uEq_e4, uEq_e5, uEq_e6, uEq_e7, uEq_e8, uEq_e9, uEq_e10, uEq_e11, uNe_e1, uNe_e2, uNe_e3, uNe_e4, uNe_e5, uNe_e6, uNe_e7, uNe_e8, uNe_e9, uNe_e10, uNe_e11, uIs_e1, uIs_e2, uIs_e3, uIs_e4, uIs_e5, uIs_e6, uNotIs_e1, uNotIs_e2, uNotIs_e3, uNotIs_e4, uNotIs_e5, uNotIs_e6, uIn_e1, uIn_e2, uIn_e3, uIn_e4, uNotIn_e1, uNotIn_e2, uNotIn_e3, uNotIn_e4, uTru_e1, uTru_e2, uTru_e3, uTru_e4, uIx_e2, uSl_e1, uSl_e2, uLen_e1, uAbs_e1, uInt_e1, uInt_e2, uMin2_e1, uIsi_e1, uIsi_e2, uIsi_e3, uIsi_e4, uIsi_e5, cx_K, uVar_0, uVar_n, K10.lit_0, K10.lit_1, K10.lit_2, K10.lit_3, K10.lit_4, K10.lit_5, K10.N_char_at, K10.N_is_in, K10.N_end_of, K10.N_is_name, K10.N_arity, K10.N__law_start, K10.N__law_pick, K10.N__law_letters, K10.N__law_string, K10.N__law_is_name, K10.N__law_name, K10.N__law_selector, K10.N_law, sp_char_at, sp_is_in, sp_end_of, sp_is_name, sp_arity, sp_start, sp_pick, sp_letters, sp_string, sp_law_is_name, sp_name, sp_selector, sp_law])
local macro_rules | `(tactic| walk_at "ne") => `(tactic| first | assumption | (apply Ne.symm; assumption))
local macro_rules | `(tactic| walk_at "hp") => `(tactic| first | assumption | exact upd_same | (refine Eq.trans (upd_ne ?_) ?_; (focus walk_at "ne"); walk_at "hp"))
local macro_rules | `(tactic| walk_at "sc") => `(tactic| first | assumption | omega | exact le_line (by (try simp only [S_len]); omega) | exact div_s (by omega) | exact mul_r (by omega) | exact mul_l (by omega) | exact pow_s (by omega) | decide)
local macro_rules | `(tactic| walk_at "kr") => `(tactic| first | (refine And.intro (by walk_at "sc") ?_) | (refine ix_l (by walk_at "hp") (by rfl) ?_) | (refine ix_t (by walk_at "hp") (by rfl) ?_) | (refine len_l (by walk_at "hp") ?_) | (refine len_t (by walk_at "hp") ?_) | (refine set_l (by walk_at "hp") (by rfl) ?_) | (refine tup_l (by walk_at "hp") (by rfl) ?_))
local macro_rules | `(tactic| walk_at "kk") => `(tactic| repeat (first | walk_at "kw" | walk_at "kr"))

variable {P : Program} {w : World} {K : Frag} {mg : Str → Option Value} {base : Heap}
/-! ### the program's defs -/
theorem ok_char_at (T : Txt K mg) : Cal P w K mg base 1 "char_at" sp_char_at := by
  refine T.d_char_at.ok sc_char_at (fun vs H Q E h => ?_) (fun f cdv A outer s H vs Q E hr h => ⟨_, (pss_one (ps_ret (pe_slice o_sl (kv 0) (po_some (kv 1)) (po_some (pe_op o_add (kv 1) pe_int))))), ?_⟩)
  · obtain ⟨l, i, rfl, _⟩ := h; rfl
  · obtain ⟨l, i, rfl, hl, h⟩ := h
    walk_at "kw"
    refine ⟨le_line (by omega), ?_⟩
    have e := cutS_S l i (i + 1)
    rw [show i + 1 - i = 1 by omega] at e
    rw [show ((i : Int) + 1) = ((i + 1 : Nat) : Int) from rfl, e]
    exact h
theorem ok_is_in (T : Txt K mg) : Cal P w K mg base 1 "is_in" sp_is_in := by
  refine T.d_is_in.ok sc_is_in (fun vs H Q E h => ?_) (fun f cdv A outer s H vs Q E hr h => ⟨_, (pss_one (ps_ret (pe_and (pe_cmpR (o_ne hr.units) (kv 0) pe_str (nomark _)) (pe_one (pe_cmpR o_in (kv 0) (kv 1) (by rfl)))))), ?_⟩)
  · obtain ⟨l, i, rfl, _⟩ := h; rfl
  · obtain ⟨c, cs, rfl, hl, h⟩ := h
    walk_at "kw"
    match c, hl with
    | [], _ => rw [if_neg (by simp)]; exact h
    | [x], _ => rw [if_pos (by simp), subStr_one]; exact h
theorem take1_len (l : List Nat) : (l.take 1).length ≤ 1 := by rw [List.length_take]; omega
theorem ok_end_of (T : Txt K mg) : Cal P w K mg base 2 "end_of" sp_end_of := by
  have C_char_at := ok_char_at (P := P) (w := w) (base := base) T
  have C_is_in := ok_is_in (P := P) (w := w) (base := base) T
  refine T.d_end_of.ok sc_end_of (fun vs H Q E h => ?_) (fun f cdv A outer s H vs Q E hr h => ⟨_, (pss_cons (k_while (passes_of rfl) (kt (kc C_is_in (hr.mono (by decide)) (pa_cons (kc C_char_at (hr.mono (by decide)) (pa_cons (kv 0) (pa_cons (kv 1) pa_nil))) (pa_cons (kv 2) pa_nil))))
      (pss_one (ps_aug (i := 1) sc_end_of.nd rfl (Or.inl rfl) pe_int o_iadd)))
      (pss_one (ps_ret (kv 1)))), ?_⟩)
  · obtain ⟨l, cs, i, rfl, _⟩ := h; rfl
  · obtain ⟨l, cs, i, rfl, hl, h⟩ := h
    walk_at "kw"
    refine ⟨fun m σ H' => ∃ j : Nat, σ = [some (.str (S l)), some (.int j), some (.str (S cs))] ∧ H' = H ∧ m = l.length - j ∧ endOf l j cs = endOf l i cs, ⟨_, i, rfl, rfl, rfl, rfl⟩, ?_⟩
    rintro m σ _ ⟨j, rfl, rfl, rfl, he⟩
    walk_at "kw"
    refine ⟨hl, take1_len _, ?_⟩
    split
    · rename_i c
      have := endOf_in c
      exact ⟨_, by omega, j + 1, rfl, rfl, by omega⟩
    · rename_i c
      have c' := endOf_out (by simpa using c)
      rw [← c', he]
      exact h
theorem ok_is_name (T : Txt K mg) : Cal P w K mg base 3 "is_name" sp_is_name := by
  have C_char_at := ok_char_at (P := P) (w := w) (base := base) T
  have C_is_in := ok_is_in (P := P) (w := w) (base := base) T
  have C_end_of := ok_end_of (P := P) (w := w) (base := base) T
  refine T.d_is_name.ok sc_is_name (fun vs H Q E h => ?_) (fun f cdv A outer s H vs Q E hr h => ⟨_, (pss_cons (ps_if (PW.pt (pw_or (pt_not (kt (kc C_is_in (hr.mono (by decide)) (pa_cons (kc C_char_at (hr.mono (by decide)) (pa_cons (kv 0) (pa_cons pe_int pa_nil))) (pa_cons (k_g T.g_LETTERS) pa_nil))))) (pw_or1 (pt_cmpR o_gt (pe_callB c_len (by rfl) T.n_len (by decide +kernel) (pa_cons (kv 0) pa_nil)) (k_g T.g_MOST_NAME) (nomark _)))))
      (pss_one (ps_ret pe_bl))
      pss_nil)
      (pss_one (ps_ret (pe_cmpR (o_eq hr.units) (kc C_end_of (hr.mono (by decide)) (pa_cons (kv 0) (pa_cons pe_int (pa_cons (pe_op o_add (k_g T.g_LETTERS) (k_g T.g_DIGITS)) pa_nil)))) (pe_callB c_len (by rfl) T.n_len (by decide +kernel) (pa_cons (kv 0) pa_nil)) (nomark _))))), ?_⟩)
  · obtain ⟨l, rfl, _⟩ := h; rfl
  · obtain ⟨l, rfl, hl, h⟩ := h
    walk_at "kw"
    refine ⟨0, rfl, hl, take1_len _, ?_⟩
    have e0 : isName l = (isIn (l.take 1) str_0 && decide (l.length ≤ 32) && decide (endOf l 0 LD = l.length)) := rfl
    rw [List.drop_zero]
    split
    · rename_i c
      rw [c] at e0
      rw [e0] at h
      exact h
    · rename_i c
      have c1 : isIn (l.take 1) str_0 = true := by simpa using c
      rw [c1] at e0
      have hl' := le_line (n := (S l).length) (by rw [S_len]; omega)
      refine ⟨hl', ?_⟩
      split
      · rename_i c2
        rw [decide_eq_false (by omega)] at e0
        rw [e0] at h
        exact h
      · rename_i c2
        rw [decide_eq_true (by omega)] at e0
        refine ⟨le_line (by decide), str_0 ++ str_1, 0, rfl, rfl, hl, hl', ?_⟩
        rw [e0] at h
        exact h
theorem ok_arity (T : Txt K mg) : Cal P w K mg base 1 "arity" sp_arity := by
  refine T.d_arity.ok sc_arity (fun vs H Q E h => ?_) (fun f cdv A outer s H vs Q E hr h => ⟨_, (pss_cons (ps_if (pt_cmpR o_in (pe_ix o_ix (kv 0) pe_int (fun _ _ => rfl)) (k_g T.g_SIGNS) (by rfl))
      (pss_one (ps_ret pe_int))
      pss_nil)
      (pss_one (ps_ret (pe_bm PySem.F.plainAttrs_str PySem.F.slot_str_count PySem.F.type_str_count mt_count (kv 0) (pa_cons pe_str pa_nil))))), ?_⟩)
  · obtain ⟨l, rfl, _⟩ := h; rfl
  · obtain ⟨l, rfl, hn, hl, h⟩ := h
    walk_at "kw"
    match l, hn with
    | c :: r, _ =>
      refine ⟨le_line (by omega), c, atI_nat (j := 0) rfl, ?_⟩
      rw [subStr_one]
      simp only [decide_eq_true_eq]
      have e : arity (c :: r) = if c ∈ str_2 then 1 else (((c :: r).count 58 : Nat) : Int) := rfl
      rw [e] at h
      split
      · rename_i c'
        rw [if_pos c'] at h
        exact h
      · rename_i c'
        rw [if_neg c'] at h
        rw [count_S]
        exact h
theorem ok_start (T : Txt K mg) : Cal P w K mg base 1 "_law_start" (sp_start K) := by
  refine T.d__law_start.ok sc__law_start (fun vs H Q E h => ?_) (fun f cdv A outer s H vs Q E hr h => ⟨_, (pss_one (ps_ret (pe_lst (pa_cons (kv 0) (pa_cons pe_int (pa_cons pe_int (pa_cons pe_int pa_nil))))))), ?_⟩)
  · obtain ⟨l, ns, rfl, _⟩ := h; rfl
  · obtain ⟨sc, ns, rfl, hS, hn, h⟩ := h
    walk_at "kw"
    exact ⟨le_line (by decide), fun p hp => h p _ ⟨sc, ns, 0, 0, 7, upd_same, KW.SqL.new hp hS, Nat.zero_le _, hn, by omega, by omega, by omega⟩⟩
theorem ok_pick (T : Txt K mg) : Cal P w K mg base 1 "_law_pick" (sp_pick K) := by
  refine T.d__law_pick.ok sc__law_pick (fun vs H Q E h => ?_) (fun f cdv A outer s H vs Q E hr h => ⟨_, (C8.pss_cut (ps_if (PW.pt (pw_and (pt_cmpR (o_eq hr.units) (pe_ix o_ix (kv 0) pe_int (fun _ _ => rfl)) pe_int (nomark _)) (pw_and1 (pt_cmpR o_lt (pe_ix o_ix (kv 0) pe_int (fun _ _ => rfl)) (pe_callB c_len (by rfl) T.n_len (by decide +kernel) (pa_cons (pe_ix o_ix (kv 0) pe_int (fun _ _ => rfl)) pa_nil)) (nomark _)))))
      (pss_cons (ps_set (i := 2) sc__law_pick.nd rfl (Or.inl rfl) (pe_callB c_abs (by rfl) T.n_abs (by decide +kernel) (pa_cons (pe_ix o_ix (pe_ix o_ix (kv 0) pe_int (fun _ _ => rfl)) (pe_ix o_ix (kv 0) pe_int (fun _ _ => rfl)) (fun _ _ => rfl)) pa_nil)))
      (pss_cons (ps_asg (pe_op o_add (pe_ix o_ix (kv 0) pe_int (fun _ _ => rfl)) pe_int) (pg_sub (kv 0) pe_int s_set))
      (pss_one (ps_if (pt_cmpR o_ge (kv 2) (pe_op o_pow pe_int pe_int) (nomark _))
      (pss_one (ps_asg (kv 2) (pg_sub (kv 0) pe_int s_set)))
      (pss_one (ps_asg (pe_op o_add (pe_op o_mod (pe_callTy c_int (by rfl) T.n_int (by decide +kernel) (pa_cons (pe_op o_add (pe_op o_mul (pe_ix o_ix (kv 0) pe_int (fun _ _ => rfl)) pe_int) (kv 2)) pa_nil)) pe_int) pe_int) (pg_sub (kv 0) pe_int s_set)))))))
      pss_nil)
      (pss_cons (ps_if (pt_cmpR o_gt (pe_ix o_ix (kv 0) pe_int (fun _ _ => rfl)) pe_int (nomark _))
      (pss_cons (ps_set (i := 3) sc__law_pick.nd rfl (Or.inl rfl) (pe_op o_mod (pe_callTy c_int (by rfl) T.n_int (by decide +kernel) (pa_cons (pe_ix o_ix (kv 0) pe_int (fun _ _ => rfl)) pa_nil)) (kv 1)))
      (pss_cons (ps_asg (pe_op o_fdiv (pe_ix o_ix (kv 0) pe_int (fun _ _ => rfl)) (kv 1)) (pg_sub (kv 0) pe_int s_set))
      (pss_one (ps_ret (kv 3)))))
      pss_nil)
      (pss_cons (ps_asg (pe_op o_mod (pe_callTy c_int (by rfl) T.n_int (by decide +kernel) (pa_cons (pe_op o_mul (pe_ix o_ix (kv 0) pe_int (fun _ _ => rfl)) pe_int) pa_nil)) pe_int) (pg_sub (kv 0) pe_int s_set))
      (pss_one (ps_ret (pe_op o_mod (pe_callTy c_int (by rfl) T.n_int (by decide +kernel) (pa_cons (pe_op o_add (pe_op o_fdiv (pe_ix o_ix (kv 0) pe_int (fun _ _ => rfl)) pe_int) (pe_op o_mod (pe_callTy c_int (by rfl) T.n_int (by decide +kernel) (pa_cons (pe_op o_mul (pe_ix o_ix (kv 0) pe_int (fun _ _ => rfl)) (pe_ix o_ix (kv 0) pe_int (fun _ _ => rfl))) pa_nil)) pe_int)) pa_nil)) (kv 1))))))), ?_⟩)
  · obtain ⟨l, ns, rfl, _⟩ := h; rfl
  · obtain ⟨st, n, rfl, hn0, hn1, ⟨sc, ns, i, b, s, hst, hS, hi, hl, hb, hs0, hs1⟩, h⟩ := h
    walk_at "kk"
    refine ⟨fun σ H' => ∃ (i : Nat) (b s : Int) (c : Option V), σ = [some (.ref st), some (.int n), c, none] ∧ H' st = some (.lst [.ref sc, .int i, .int b, .int s]) ∧ But st H H' ∧ i ≤ ns.length ∧ 0 ≤ b ∧ 0 ≤ s ∧ s < 2147483648, ?_, ?_⟩
    · have hbut : But st H H := .refl _
      walk_at "kk"
      split
      · walk_at "kk"
        refine len_sl hS ?_
        walk_at "kk"
        split
        · walk_at "kk"
          obtain ⟨c, hc⟩ : ∃ c, ns[i]? = some c := ⟨_, List.getElem?_eq_getElem (by omega)⟩
          refine ix_sl hS (atI_nat (v := .int c) (by rw [List.getElem?_map, hc]; rfl)) ?_
          walk_at "kk"
          have hd : 0 ≤ (if c < 0 then -c else c) := by split <;> omega
          generalize (if c < 0 then -c else c) = d at hd ⊢
          split
          · walk_at "kk"
            exact ⟨i + 1, _, _, upd_same, .upd, by omega, by omega, by omega, by omega⟩
          · walk_at "kk"
            exact ⟨i + 1, _, _, upd_same, .upd, by omega, by omega, by omega, by omega⟩
        · exact ⟨i, b, s, hst, hbut, hi, hb, hs0, hs1⟩
      · exact ⟨i, b, s, hst, hbut, hi, hb, hs0, hs1⟩
    · rintro σ H' ⟨i, b, s, c, rfl, hst', hbut, hi, hb, hs0, hs1⟩
      walk_at "kk"
      split
      · walk_at "kk"
        exact h _ _ ⟨sc, ns, i, _, _, upd_same, But.int hst (hbut.trans .upd) hS, hi, hl, Int.ediv_nonneg hb (by omega), hs0, hs1⟩ (hbut.trans .upd) (Int.emod_nonneg _ (by omega)) (Int.emod_lt_of_pos _ hn0)
      · walk_at "kk"
        exact h _ _ ⟨sc, ns, i, _, _, upd_same, But.int hst (hbut.trans .upd) hS, hi, hl, hb, by omega, by omega⟩ (hbut.trans .upd) (Int.emod_nonneg _ (by omega)) (Int.emod_lt_of_pos _ hn0)
theorem ok_letters (T : Txt K mg) : Cal P w K mg base 1 "_law_letters" sp_letters := by
  refine T.d__law_letters.ok sc__law_letters (fun vs H Q E h => ?_) (fun f cdv A outer s H vs Q E hr h => ⟨_, (pss_one (ps_ret pe_str)), ?_⟩)
  · obtain ⟨rfl, _⟩ := h; rfl
  · obtain ⟨rfl, h⟩ := h
    walk_at "kk"
    exact h
theorem isName_all (l : List Nat) : endOf l 0 LD = l.length ↔ ∀ c ∈ l, c ∈ LD := by
  unfold endOf
  rw [List.drop_zero, Nat.zero_add]
  induction l with
  | nil => simp
  | cons a r ih =>
    by_cases h : a ∈ LD
    · rw [List.takeWhile_cons_of_pos (by simpa using h), List.length_cons, List.length_cons, List.forall_mem_cons]
      simp only [h, true_and, ← ih]
      omega
    · rw [List.takeWhile_cons_of_neg (by simpa using h), List.forall_mem_cons]
      simp [h]
theorem isName_iff (l : List Nat) : isName l = true ↔ l ≠ [] ∧ l.length ≤ 32 ∧ ∀ (j c : Nat), l[j]? = some c → c ∈ str_0 ∨ (j ≠ 0 ∧ c ∈ str_1) := by
  have hm : ∀ c, c ∈ LD ↔ c ∈ str_0 ∨ c ∈ str_1 := fun c => List.mem_append
  unfold isName
  rw [Bool.and_eq_true, Bool.and_eq_true, decide_eq_true_eq, decide_eq_true_eq, isName_all]
  cases l with
  | nil => simp [isIn]
  | cons a r =>
    have e : isIn ((a :: r).take 1) str_0 = decide (a ∈ str_0) := rfl
    rw [e, decide_eq_true_eq]
    constructor
    · rintro ⟨⟨h1, h2⟩, h3⟩
      refine ⟨by simp, h2, fun j c hc => ?_⟩
      cases j with
      | zero =>
        have : a = c := by simpa using hc
        subst this
        exact .inl h1
      | succ j =>
        rcases (hm c).mp (h3 c (List.mem_of_getElem? hc)) with z | z
        · exact .inl z
        · exact .inr ⟨by omega, z⟩
    · rintro ⟨_, h2, h3⟩
      refine ⟨⟨?_, h2⟩, fun c hc => ?_⟩
      · rcases h3 0 a rfl with z | z
        · exact z
        · exact absurd rfl z.1
      · obtain ⟨j, hj⟩ := List.getElem?_of_mem hc
        rcases h3 j c hj with z | z
        · exact (hm c).mpr (.inl z)
        · exact (hm c).mpr (.inr z.2)
theorem ok_law_is_name (T : Txt K mg) : Cal P w K mg base 2 "_law_is_name" sp_law_is_name := by
  have C__law_letters := ok_letters (P := P) (w := w) (base := base) T
  refine T.d__law_is_name.ok sc__law_is_name (fun vs H Q E h => ?_) (fun f cdv A outer s H vs Q E hr h => ⟨_, (pss_cons (ps_if (PW.pt (pw_or (pt_cmpR (o_eq hr.units) (pe_callB c_len (by rfl) T.n_len (by decide +kernel) (pa_cons (kv 0) pa_nil)) pe_int (nomark _)) (pw_or1 (pt_cmpR o_gt (pe_callB c_len (by rfl) T.n_len (by decide +kernel) (pa_cons (kv 0) pa_nil)) pe_int (nomark _)))))
      (pss_one (ps_ret pe_bl))
      pss_nil)
      (pss_cons (k_for (passes_of rfl) rfl (pi_range1 (by rfl) T.n_range (pa_cons (pe_callB c_len (by rfl) T.n_len (by decide +kernel) (pa_cons (kv 0) pa_nil)) pa_nil)) (pg_name (i := 1) sc__law_is_name.nd rfl (Or.inl rfl))
      (pss_one (ps_if (PW.pt (pw_and (pt_cmpR o_notin (pe_ix o_ix (kv 0) (kv 1) (fun _ _ => rfl)) (kc0 C__law_letters (hr.mono (by decide))) (by rfl)) (pw_and1 (PW.pt (pw_or (pt_cmpR (o_eq hr.units) (kv 1) pe_int (nomark _)) (pw_or1 (pt_cmpR o_notin (pe_ix o_ix (kv 0) (kv 1) (fun _ _ => rfl)) pe_str (by rfl))))))))
      (pss_one (ps_ret pe_bl))
      pss_nil)))
      (pss_one (ps_ret pe_bl)))), ?_⟩)
  · obtain ⟨l, rfl, _⟩ := h; rfl
  · obtain ⟨l, rfl, hl, h⟩ := h
    walk_at "kk"
    have e0 : isName l = (isIn (l.take 1) str_0 && decide (l.length ≤ 32) && decide (endOf l 0 LD = l.length)) := rfl
    split
    · rename_i c
      have : l = [] := List.eq_nil_of_length_eq_zero (by omega)
      subst this
      exact h
    · rename_i c0
      refine ⟨le_line (by omega), ?_⟩
      split
      · rename_i c
        rw [decide_eq_false (show ¬ l.length ≤ 32 by omega), Bool.and_false, Bool.false_and] at e0
        rw [e0] at h
        exact h
      · rename_i c1
        refine ⟨le_line (by omega), by omega, by omega, ?_⟩
        rw [show ((l.length : Int)).toNat = l.length from rfl]
        refine for_rng (fun i σ H' => (∃ v, σ = [some (.str (S l)), v]) ∧ H' = H ∧ ∀ j c, j < i → l[j]? = some c → c ∈ str_0 ∨ (j ≠ 0 ∧ c ∈ str_1)) ⟨⟨none, rfl⟩, rfl, fun j c h => by omega⟩ ?_ ?_
        · rintro i σ _ hi ⟨⟨v, rfl⟩, rfl, hall⟩
          obtain ⟨c, hc⟩ : ∃ c, l[i]? = some c := ⟨_, List.getElem?_eq_getElem hi⟩
          have hat : atI l (i : Int) = some c := atI_nat hc
          rw [Int.zero_add]
          walk_at "kw"
          refine ⟨le_line (by omega), c, hat, ?_⟩
          simp only [subStr_one]
          walk_at "kw"
          have bad : ¬ c ∈ str_0 → ¬ (i ≠ 0 ∧ c ∈ str_1) → isName l = false := fun n1 n2 => by
            rw [← Bool.not_eq_true, isName_iff]
            rintro ⟨_, _, z⟩
            exact (z i c hc).elim n1 n2
          have good : (c ∈ str_0 ∨ (i ≠ 0 ∧ c ∈ str_1)) → ∀ (j c : Nat), j < i + 1 → l[j]? = some c → c ∈ str_0 ∨ j ≠ 0 ∧ c ∈ str_1 := fun g j d hj hd => by
            by_cases e : j = i
            · subst e
              rw [hc] at hd
              cases hd
              exact g
            · exact hall j d (by omega) hd
          split
          · rename_i n1
            split
            · rename_i n2
              rw [bad n1 fun z => z.1 (by omega)] at h
              exact h
            · rename_i n2
              refine ⟨le_line (by omega), c, hat, ?_⟩
              split
              · rename_i n3
                rw [bad n1 fun z => n3 z.2] at h
                exact h
              · rename_i n3
                exact ⟨⟨_, rfl⟩, good (.inr ⟨by omega, by simpa using n3⟩)⟩
          · rename_i n1
            exact ⟨⟨_, rfl⟩, good (.inl (by simpa using n1))⟩
        · rintro σ _ ⟨⟨v, rfl⟩, rfl, hall⟩
          walk_at "kw"
          have e : isName l = true := (isName_iff l).mpr ⟨fun z => c0 (by rw [z]; rfl), by omega, fun j c hc => hall j c (List.getElem?_eq_some_iff.mp hc).1 hc⟩
          rw [e] at h
          exact h
end K10

set_option Elab.async false
set_option linter.all false
set_option maxRecDepth 100000
set_option maxHeartbeats 4000000
namespace K10
open PySem PySem.Spec PyProof.Rows L2 KW
local macro_rules | `(tactic| walk_at "kw") => `(tactic| simp only [tSeq, tNext, tIfS, tTest, tAnd, tOr, tNot, tAndV, tOrV, tNotV, tIf, tChain, tOp, tUn, tC, tAsg, gName, gSub, gCons, gNil, tRet, tRetN, tDrop, tCons, tNil, tCB, tAug, tSl, tPart, tNoPart, tLst, tTup, tBM, tBM0, uTest, uFor, iRng1, iRng2, iList, uCall, List.map_cons, List.map_nil, List.length_cons, List.length_nil, List.cons_append, List.nil_append, List.replicate, Nat.zero_add, Nat.reduceAdd, Nat.reduceSub, List.getElem?_cons_zero, List.getElem?_cons_succ, List.set_cons_zero, List.set_cons_succ, V.bl.injEq, V.int.injEq, V.str.injEq, V.ref.injEq, V.ty.injEq, List.cons.injEq, and_true, true_and, exists_eq_left', exists_eq_right, exists_eq_left, exists_and_left, exists_and_right, decide_eq_true_eq, Bool.not_eq_true', decide_eq_false_iff_not, Bool.false_eq_true, if_true, if_false, ite_true, ite_false, Bool.not_true, Bool.not_false, reduceCtorEq, decide_true, decide_false, Bool.not_not, isK_int_int, isK_int_bool, isK_int_str, isK_int_list, isK_int_tuple, isK_bool_int, isK_bool_bool, isK_bool_str, isK_str_str, isK_str_int, isK_str_bool, isK_str_tuple, isK_str_list, isK_list_list, isK_list_tuple, isK_tuple_tuple, isK_tuple_list, isOk_int_int, isOk_int_bool, isOk_int_str, isOk_int_list, isOk_int_tuple, isOk_bool_int, isOk_bool_bool, isOk_bool_str, isOk_str_str, isOk_str_int, isOk_str_bool, isOk_str_tuple, isOk_str_list, isOk_list_list, isOk_list_tuple, isOk_tuple_tuple, isOk_tuple_list, isK_dict_dict, isOk_dict_dict, isK_none_int, isK_none_bool, isOk_none_int, isOk_none_bool, tyV, S_inj, S_cat, L2.start, Nat.reduceSub, List.replicate_succ, List.replicate_zero, and_assoc, List.append_nil, Nat.reduceEqDiff, Option.some.injEq, Int.natCast_inj, upd_upd, Int.reducePow, Int.reduceToNat, Int.reduceMul, Int.reduceAdd, Int.reduceSub, Int.reduceLT, Int.reduceLE, Int.reduceNeg, Int.reduceDiv, Int.reduceMod, Nat.reducePow, Nat.reduceMul, S_len, List.length_append, List.length_map, List.length_range, not_true_eq_false, not_false_eq_true, ne_eq, uAdd_e1, uAdd_e2, uAdd_e3, uSub_e1, uMul_e1, uMul_e2, uMod_e1, uDiv_e1, uPow_e1, uShl_e1, uNeg_e1, uIAdd_e1, uIAdd_e2, uIAdd_e3, uISub_e1, uLt_e1, uLt_e2, uLe_e1, uGt_e1, uGe_e1, uEq_e1, uEq_e2, uEq_e3, uEq_e4, uEq_e5, uEq_e6, uEq_e7, uEq_e8, uEq_e9, uEq_e10, uEq_e11, uNe_e1, uNe_e2, uNe_e3, uNe_e4, uNe_e5, uNe_e6, uNe_e7, uNe_e8, uNe_e9, uNe_e10, uNe_e11, uIs_e1, uIs_e2, uIs_e3, uIs_e4, uIs_e5, uIs_e6, uNotIs_e1, uNotIs_e2, uNotIs_e3, uNotIs_e4, uNotIs_e5, uNotIs_e6, uIn_e1, uIn_e2, uIn_e3, uIn_e4, uNotIn_e1, uNotIn_e2, uNotIn_e3, uNotIn_e4, uTru_e1, uTru_e2, uTru_e3, uTru_e4, uIx_e2, uSl_e1, uSl_e2, uLen_e1, uAbs_e1, uInt_e1, uInt_e2, uMin2_e1, uIsi_e1, uIsi_e2, uIsi_e3, uIsi_e4, uIsi_e5, cx_K, uVar_0, uVar_n, K10.lit_0, K10.lit_1, K10.lit_2, K10.lit_3, K10.lit_4, K10.lit_5, K10.N_char_at, K10.N_is_in, K10.N_end_of, K10.N_is_name, K10.N_arity, K10.N__law_start, K10.N__law_pick, K10.N__law_letters, K10.N__law_string, K10.N__law_is_name, K10.N__law_name, K10.N__law_selector, K10.N_law, sp_char_at, sp_is_in, sp_end_of, sp_is_name, sp_arity, sp_start, sp_pick, sp_letters, sp_string, sp_law_is_name, sp_name, sp_selector, sp_law])
local macro_rules | `(tactic| walk_at "ne") => `(tactic| first | assumption | (apply Ne.symm; assumption))
local macro_rules | `(tactic| walk_at "hp") => `(tactic| first | assumption | exact upd_same | (refine Eq.trans (upd_ne ?_) ?_; (focus walk_at "ne"); walk_at "hp"))
local macro_rules | `(tactic| walk_at "sc") => `(tactic| first | assumption | omega | exact le_line (by (try simp only [S_len]); omega) | exact div_s (by omega) | exact mul_r (by omega) | exact mul_l (by omega) | exact pow_s (by omega) | decide)
local macro_rules | `(tactic| walk_at "kr") => `(tactic| first | (refine And.intro (by walk_at "sc") ?_) | (refine ix_l (by walk_at "hp") (by rfl) ?_) | (refine ix_t (by walk_at "hp") (by rfl) ?_) | (refine len_l (by walk_at "hp") ?_) | (refine len_t (by walk_at "hp") ?_) | (refine set_l (by walk_at "hp") (by rfl) ?_) | (refine tup_l (by walk_at "hp") (by rfl) ?_))
local macro_rules | `(tactic| walk_at "kk") => `(tactic| repeat (first | walk_at "kw" | walk_at "kr"))

variable {P : Program} {w : World} {K : Frag} {mg : Str → Option Value} {base : Heap}
theorem ok_string (T : Txt K mg) : Cal P w K mg base 2 "_law_string" (sp_string K) := by
  have C__law_letters := ok_letters (P := P) (w := w) (base := base) T
  have C__law_pick := ok_pick (P := P) (w := w) (base := base) T
  refine T.d__law_string.ok sc__law_string (fun vs H Q E h => ?_) (fun f cdv A outer s H vs Q E hr h => ⟨_, (pss_cons (ps_set (i := 1) sc__law_string.nd rfl (Or.inl rfl) (kc C__law_pick (hr.mono (by decide)) (pa_cons (kv 0) (pa_cons pe_int pa_nil))))
      (C8.pss_cut (ps_if (pt_cmpR (o_eq hr.units) (kc C__law_pick (hr.mono (by decide)) (pa_cons (kv 0) (pa_cons pe_int pa_nil))) pe_int (nomark _))
      (pss_one (ps_set (i := 1) sc__law_string.nd rfl (Or.inl rfl) (pe_op o_add pe_int (kc C__law_pick (hr.mono (by decide)) (pa_cons (kv 0) (pa_cons pe_int pa_nil))))))
      pss_nil)
      (pss_cons (ps_set (i := 2) sc__law_string.nd rfl (Or.inl rfl) (pe_op o_add (kc0 C__law_letters (hr.mono (by decide))) pe_str))
      (C8.pss_cut (ps_if (pt_cmpR (o_eq hr.units) (kc C__law_pick (hr.mono (by decide)) (pa_cons (kv 0) (pa_cons pe_int pa_nil))) pe_int (nomark _))
      (pss_one (ps_set (i := 2) sc__law_string.nd rfl (Or.inl rfl) (pe_op o_add (kv 2) pe_str)))
      pss_nil)
      (pss_cons (ps_set (i := 3) sc__law_string.nd rfl (Or.inl rfl) pe_str)
      (pss_cons (k_for (passes_of rfl) rfl (pi_range1 (by rfl) T.n_range (pa_cons (kv 1) pa_nil)) (pg_name (i := 4) sc__law_string.nd rfl (Or.inl rfl))
      (pss_one (ps_set (i := 3) sc__law_string.nd rfl (Or.inl rfl) (pe_op o_add (kv 3) (pe_ix o_ix (kv 2) (kc C__law_pick (hr.mono (by decide)) (pa_cons (kv 0) (pa_cons (pe_callB c_len (by rfl) T.n_len (by decide +kernel) (pa_cons (kv 2) pa_nil)) pa_nil))) (fun _ _ => rfl))))))
      (pss_one (ps_ret (kv 3))))))))), ?_⟩)
  · obtain ⟨st, rfl, _⟩ := h; rfl
  · obtain ⟨st, rfl, hst, h⟩ := h
    walk_at "kk"
    intro r1 H1 s1 b1 g1 l1
    refine ⟨fun σ H' => ∃ n : Int, σ = [some (.ref st), some (.int n), none, none, none] ∧ 0 ≤ n ∧ n ≤ 40 ∧ Sta K H' st ∧ But st H H', ?_, ?_⟩
    · walk_at "kk"
      intro r2 H2 s2 b2 g2 l2
      split
      · walk_at "kk"
        intro r3 H3 s3 b3 g3 l3
        exact ⟨by omega, by omega, s3, b1.trans (b2.trans b3)⟩
      · walk_at "kk"
        exact b1.trans b2
    rintro σ H4 ⟨n, rfl, hn0, hn1, s4, b4⟩
    walk_at "kk"
    refine ⟨fun σ H' => ∃ cs : List Nat, σ = [some (.ref st), some (.int n), some (.str (S cs)), none, none] ∧ 0 < cs.length ∧ cs.length ≤ 100 ∧ Sta K H' st ∧ But st H H', ?_, ?_⟩
    · walk_at "kk"
      intro r2 H2 s2 b2 g2 l2
      have e0 : str_0.length = 52 := rfl
      have e1 : str_1.length = 10 := rfl
      have e5 : str_5.length = 9 := rfl
      split
      · walk_at "kk"
        exact b4.trans b2
      · walk_at "kk"
        exact b4.trans b2
    rintro σ H5 ⟨cs, rfl, hc0, hc1, s5, b5⟩
    walk_at "kk"
    refine for_rng (fun i σ H' => (∃ l v, σ = [some (.ref st), some (.int n), some (.str (S cs)), some (.str (S l)), v] ∧ l.length = i) ∧ Sta K H' st ∧ But st H H') ?_ ?_ ?_
    · exact ⟨⟨[], _, rfl, rfl⟩, s5, b5⟩
    · rintro i σ H6 hi ⟨⟨l, v, rfl, hl⟩, s6, b6⟩
      walk_at "kk"
      intro r H7 s7 b7 g7 l7
      obtain ⟨c, _, hc⟩ := atI_int g7 l7
      have := hi
      exact ⟨le_line (by omega), ⟨c, hc⟩, le_line (by omega), by omega, s7, b6.trans b7⟩
    · rintro σ H6 ⟨⟨l, v, rfl, hl⟩, s6, b6⟩
      walk_at "kk"
      exact h _ _ s6 b6 (by omega)
theorem ok_name (T : Txt K mg) : Cal P w K mg base 2 "_law_name" (sp_name K) := by
  have C__law_letters := ok_letters (P := P) (w := w) (base := base) T
  have C__law_pick := ok_pick (P := P) (w := w) (base := base) T
  refine T.d__law_name.ok sc__law_name (fun vs H Q E h => ?_) (fun f cdv A outer s H vs Q E hr h => ⟨_, (pss_cons (ps_set (i := 1) sc__law_name.nd rfl (Or.inl rfl) (pe_op o_add pe_int (kc C__law_pick (hr.mono (by decide)) (pa_cons (kv 0) (pa_cons pe_int pa_nil)))))
      (C8.pss_cut (ps_if (pt_cmpR (o_eq hr.units) (kc C__law_pick (hr.mono (by decide)) (pa_cons (kv 0) (pa_cons pe_int pa_nil))) pe_int (nomark _))
      (pss_one (ps_set (i := 1) sc__law_name.nd rfl (Or.inl rfl) (pe_op o_add pe_int (kc C__law_pick (hr.mono (by decide)) (pa_cons (kv 0) (pa_cons pe_int pa_nil))))))
      pss_nil)
      (pss_cons (ps_set (i := 2) sc__law_name.nd rfl (Or.inl rfl) (pe_ix o_ix (kc0 C__law_letters (hr.mono (by decide))) (kc C__law_pick (hr.mono (by decide)) (pa_cons (kv 0) (pa_cons pe_int pa_nil))) (fun _ _ => rfl)))
      (pss_cons (k_for (passes_of rfl) rfl (pi_range1 (by rfl) T.n_range (pa_cons (pe_op o_sub (kv 1) pe_int) pa_nil)) (pg_name (i := 3) sc__law_name.nd rfl (Or.inl rfl))
      (pss_one (ps_set (i := 2) sc__law_name.nd rfl (Or.inl rfl) (pe_op o_add (kv 2) (pe_ix o_ix (pe_op o_add (kc0 C__law_letters (hr.mono (by decide))) pe_str) (kc C__law_pick (hr.mono (by decide)) (pa_cons (kv 0) (pa_cons pe_int pa_nil))) (fun _ _ => rfl))))))
      (pss_one (ps_ret (kv 2))))))), ?_⟩)
  · obtain ⟨st, rfl, _⟩ := h; rfl
  · obtain ⟨st, rfl, hst, h⟩ := h
    have e0 : str_0.length = 52 := rfl
    have e1 : str_1.length = 10 := rfl
    walk_at "kk"
    intro r1 H1 s1 b1 g1 l1
    refine ⟨fun σ H' => ∃ n : Int, σ = [some (.ref st), some (.int n), none, none] ∧ 1 ≤ n ∧ n ≤ 32 ∧ Sta K H' st ∧ But st H H', ?_, ?_⟩
    · walk_at "kk"
      intro r2 H2 s2 b2 g2 l2
      split
      · walk_at "kk"
        intro r3 H3 s3 b3 g3 l3
        exact ⟨by omega, by omega, s3, b1.trans (b2.trans b3)⟩
      · walk_at "kk"
        exact b1.trans b2
    rintro σ H4 ⟨n, rfl, hn0, hn1, s4, b4⟩
    walk_at "kk"
    intro r5 H5 s5 b5 g5 l5
    obtain ⟨c, hc, hc'⟩ := atI_int (xs := str_0) g5 (by omega)
    refine ⟨le_line (by omega), c, hc', ?_⟩
    walk_at "kk"
    refine for_rng (fun i σ H' => (∃ l v, σ = [some (.ref st), some (.int n), some (.str (S (c :: l))), v] ∧ l.length = i ∧ ∀ d ∈ l, d ∈ LD) ∧ Sta K H' st ∧ But st H H') ?_ ?_ ?_
    · exact ⟨⟨[], _, rfl, rfl, fun d hd => nomatch hd⟩, s5, b4.trans b5⟩
    · rintro i σ H6 hi ⟨⟨l, v, rfl, hl, hd⟩, s6, b6⟩
      walk_at "kk"
      intro r H7 s7 b7 g7 l7
      obtain ⟨d, hd1, hd2⟩ := atI_int (xs := str_0 ++ str_1) g7 (by rw [List.length_append]; omega)
      refine ⟨le_line (by omega), d, hd2, le_line (by omega), ?_⟩
      refine ⟨by simp [hl], fun x hx => ?_, s7, b6.trans b7⟩
      rcases List.mem_append.mp hx with z | z
      · exact hd x z
      · rw [List.mem_singleton.mp z]
        exact List.mem_of_getElem? hd1
    · rintro σ H6 ⟨⟨l, v, rfl, hl, hd⟩, s6, b6⟩
      walk_at "kk"
      refine h _ _ s6 b6 ((isName_iff _).mpr ⟨by simp, by rw [List.length_cons]; omega, fun j x hx => ?_⟩)
      cases j with
      | zero =>
        have : c = x := by simpa using hx
        rw [← this]
        exact .inl (List.mem_of_getElem? hc)
      | succ j =>
        rcases List.mem_append.mp (hd x (List.mem_of_getElem? hx)) with z | z
        · exact .inl z
        · exact .inr ⟨by omega, z⟩
theorem name_facts {l : List Nat} (h : isName l = true) : l ≠ [] ∧ l.length ≤ 32 ∧ (∀ c ∈ l, c ∈ LD) ∧ ∀ c r, l = c :: r → c ∈ str_0 := by
  obtain ⟨h1, h2, h3⟩ := (isName_iff l).mp h
  refine ⟨h1, h2, fun c hc => ?_, fun c r e => ?_⟩
  · obtain ⟨j, hj⟩ := List.getElem?_of_mem hc
    rcases h3 j c hj with z | z
    · exact List.mem_append_left _ z
    · exact List.mem_append_right _ z.2
  · subst e
    rcases h3 0 c rfl with z | z
    · exact z
    · exact absurd rfl z.1
theorem LD_no : ∀ c ∈ LD, c ≠ 58 ∧ ¬ c ∈ str_2 := by decide +kernel
theorem count_name {l : List Nat} (h : ∀ c ∈ l, c ∈ LD) : l.count 58 = 0 := List.count_eq_zero.mpr fun hm => (LD_no 58 (h 58 hm)).1 rfl
theorem arity_name {l : List Nat} (h : isName l = true) : arity l = 0 := by
  obtain ⟨h1, h2, h3, h4⟩ := name_facts h
  cases l with
  | nil => exact absurd rfl h1
  | cons c r =>
    show (if c ∈ str_2 then (1 : Int) else (((c :: r).count 58 : Nat) : Int)) = 0
    rw [if_neg (LD_no c (h3 c (List.mem_cons_self ..))).2, count_name h3]
    rfl
theorem Sta.new {st p : Addr} {H : Hp} {o : HO} (h : H p = none) (s : Sta K H st) : Sta K (upd H p o) st := by
  obtain ⟨sc, ns, i, b, s, hst, hS, r⟩ := s
  exact ⟨sc, ns, i, b, s, by rw [upd_ne (ne_of_none hst h)]; exact hst, KW.SqL.new h hS, r⟩
theorem arity_sign {l : List Nat} (h : l ≠ []) (hm : ∀ c ∈ l, c ∈ str_2) : arity l = 1 := by
  cases l with
  | nil => exact absurd rfl h
  | cons c r => exact if_pos (hm c (List.mem_cons_self ..))
/-- keywords so far: k of them, by a name begun -/
def Kws (l : List Nat) (k : Nat) : Prop := l.count 58 = k ∧ (k = 0 → l = []) ∧ ∀ c r, l = c :: r → c ∈ str_0
theorem Kws.nil : Kws [] 0 := ⟨rfl, fun _ => rfl, fun _ _ h => nomatch h⟩
theorem Kws.add {l n : List Nat} {k : Nat} (h : Kws l k) (hn : isName n = true) : Kws (l ++ n ++ [58]) (k + 1) := by
  obtain ⟨h1, h2, h3⟩ := h
  obtain ⟨n1, n2, n3, n4⟩ := name_facts hn
  refine ⟨?_, fun z => absurd z (by omega), fun c r e => ?_⟩
  · rw [List.count_append, List.count_append, h1, count_name n3]
    rfl
  · cases l with
    | nil =>
      cases n with
      | nil => exact absurd rfl n1
      | cons a m =>
        have : a = c := by simpa using (List.cons.inj e).1
        rw [← this]
        exact n4 a m rfl
    | cons a m =>
      have : a = c := by simpa using (List.cons.inj e).1
      rw [← this]
      exact h3 a m rfl
theorem L0_LD : ∀ c ∈ str_0, c ∈ LD := fun c h => List.mem_append_left _ h
theorem Kws.arity {l : List Nat} {k : Nat} (h : Kws l k) (hk : 0 < k) : arity l = k := by
  obtain ⟨h1, h2, h3⟩ := h
  cases l with
  | nil => rw [List.count_nil] at h1; omega
  | cons c r =>
    show (if c ∈ str_2 then (1 : Int) else (((c :: r).count 58 : Nat) : Int)) = k
    rw [if_neg (LD_no c (L0_LD c (h3 c r rfl))).2, h1]
theorem ok_selector (T : Txt K mg) : Cal P w K mg base 3 "_law_selector" (sp_selector K) := by
  have C__law_pick := ok_pick (P := P) (w := w) (base := base) T
  have C__law_name := ok_name (P := P) (w := w) (base := base) T
  refine T.d__law_selector.ok sc__law_selector (fun vs H Q E h => ?_) (fun f cdv A outer s H vs Q E hr h => ⟨_, (pss_cons (ps_set (i := 1) sc__law_selector.nd rfl (Or.inl rfl) (kc C__law_pick (hr.mono (by decide)) (pa_cons (kv 0) (pa_cons pe_int pa_nil))))
      (pss_cons (ps_if (pt_cmpR (o_eq hr.units) (kv 1) pe_int (nomark _))
      (pss_one (ps_ret (pe_tup (pa_cons (kc C__law_name (hr.mono (by decide)) (pa_cons (kv 0) pa_nil)) (pa_cons pe_int pa_nil)))))
      pss_nil)
      (pss_cons (ps_if (pt_cmpR (o_eq hr.units) (kv 1) pe_int (nomark _))
      (pss_cons (ps_set (i := 2) sc__law_selector.nd rfl (Or.inl rfl) pe_str)
      (pss_cons (k_for (passes_of rfl) rfl (pi_range1 (by rfl) T.n_range (pa_cons (pe_op o_add pe_int (kc C__law_pick (hr.mono (by decide)) (pa_cons (kv 0) (pa_cons pe_int pa_nil)))) pa_nil)) (pg_name (i := 3) sc__law_selector.nd rfl (Or.inl rfl))
      (pss_one (ps_set (i := 2) sc__law_selector.nd rfl (Or.inl rfl) (pe_op o_add (kv 2) (pe_ix o_ix pe_str (kc C__law_pick (hr.mono (by decide)) (pa_cons (kv 0) (pa_cons pe_int pa_nil))) (fun _ _ => rfl))))))
      (pss_one (ps_ret (pe_tup (pa_cons (kv 2) (pa_cons pe_int pa_nil)))))))
      pss_nil)
      (pss_cons (ps_set (i := 4) sc__law_selector.nd rfl (Or.inl rfl) (pe_op o_add pe_int (kc C__law_pick (hr.mono (by decide)) (pa_cons (kv 0) (pa_cons pe_int pa_nil)))))
      (C8.pss_cut (ps_if (pt_cmpR (o_eq hr.units) (kc C__law_pick (hr.mono (by decide)) (pa_cons (kv 0) (pa_cons pe_int pa_nil))) pe_int (nomark _))
      (pss_one (ps_set (i := 4) sc__law_selector.nd rfl (Or.inl rfl) (pe_op o_add pe_int (kc C__law_pick (hr.mono (by decide)) (pa_cons (kv 0) (pa_cons pe_int pa_nil))))))
      pss_nil)
      (pss_cons (ps_set (i := 2) sc__law_selector.nd rfl (Or.inl rfl) pe_str)
      (pss_cons (k_for (passes_of rfl) rfl (pi_range1 (by rfl) T.n_range (pa_cons (kv 4) pa_nil)) (pg_name (i := 3) sc__law_selector.nd rfl (Or.inl rfl))
      (pss_one (ps_set (i := 2) sc__law_selector.nd rfl (Or.inl rfl) (pe_op o_add (pe_op o_add (kv 2) (kc C__law_name (hr.mono (by decide)) (pa_cons (kv 0) pa_nil))) pe_str))))
      (pss_one (ps_ret (pe_tup (pa_cons (kv 2) (pa_cons (kv 4) pa_nil)))))))))))), ?_⟩)
  · obtain ⟨st, rfl, _⟩ := h; rfl
  · obtain ⟨st, rfl, hst, h⟩ := h
    walk_at "kk"
    intro r1 H1 s1 b1 g1 l1
    split
    · walk_at "kk"
      intro l H2 s2 b2 hl
      obtain ⟨n1, n2, _, _⟩ := name_facts hl
      refine ⟨le_line (by decide), fun p hp => h p l _ ?_ ?_ ?_ n1 (by omega)⟩
      · exact s2.new hp
      · exact b1.trans (b2.trans (.new hp))
      · rw [upd_same, arity_name hl]
    · split
      · walk_at "kk"
        intro r2 H2 s2 b2 g2 l2
        walk_at "kk"
        refine for_rng (fun i σ H' => (∃ l v, σ = [some (.ref st), some (.int r1), some (.str (S l)), v, none] ∧ l.length = i ∧ ∀ c ∈ l, c ∈ str_2) ∧ Sta K H' st ∧ But st H H') ?_ ?_ ?_
        · exact ⟨⟨[], _, rfl, rfl, fun d hd => nomatch hd⟩, s2, b1.trans b2⟩
        · rintro i σ H6 hi ⟨⟨l, v, rfl, hl, hd⟩, s6, b6⟩
          have e2 : str_2.length = 11 := rfl
          walk_at "kk"
          intro r H7 s7 b7 g7 l7
          obtain ⟨d, hd1, hd2⟩ := atI_int (xs := str_2) g7 (by omega)
          refine ⟨le_line (by omega), d, hd2, le_line (by omega), ?_⟩
          refine ⟨by simp [hl], fun x hx => ?_, s7, b6.trans b7⟩
          rcases List.mem_append.mp hx with z | z
          · exact hd x z
          · rw [List.mem_singleton.mp z]
            exact List.mem_of_getElem? hd1
        · rintro σ H6 ⟨⟨l, v, rfl, hl, hd⟩, s6, b6⟩
          have hne : l ≠ [] := fun z => by rw [z] at hl; simp at hl; omega
          walk_at "kk"
          refine fun p hp => h p l _ (s6.new hp) (b6.trans (.new hp)) ?_ hne (by omega)
          rw [upd_same, arity_sign hne hd]
      · walk_at "kk"
        intro r2 H2 s2 b2 g2 l2
        refine ⟨fun σ H' => ∃ n : Int, σ = [some (.ref st), some (.int r1), none, none, some (.int n)] ∧ 1 ≤ n ∧ n ≤ 15 ∧ Sta K H' st ∧ But st H H', ?_, ?_⟩
        · walk_at "kk"
          intro r3 H3 s3 b3 g3 l3
          split
          · walk_at "kk"
            intro r4 H4 s4 b4 g4 l4
            exact ⟨by omega, by omega, s4, b1.trans (b2.trans (b3.trans b4))⟩
          · walk_at "kk"
            exact b1.trans (b2.trans b3)
        rintro σ H4 ⟨n, rfl, hn0, hn1, s4, b4⟩
        walk_at "kk"
        refine for_rng (fun i σ H' => (∃ l v, σ = [some (.ref st), some (.int r1), some (.str (S l)), v, some (.int n)] ∧ l.length ≤ 40 * i ∧ Kws l i) ∧ Sta K H' st ∧ But st H H') ?_ ?_ ?_
        · exact ⟨⟨[], _, rfl, Nat.le_refl _, .nil⟩, s4, b4⟩
        · rintro i σ H6 hi ⟨⟨l, v, rfl, hl, hk⟩, s6, b6⟩
          walk_at "kk"
          intro m H7 s7 b7 hm
          obtain ⟨n1, n2, _, _⟩ := name_facts hm
          exact ⟨le_line (by omega), le_line (by omega), by omega, hk.add hm, s7, b6.trans b7⟩
        · rintro σ H6 ⟨⟨l, v, rfl, hl, hk⟩, s6, b6⟩
          walk_at "kk"
          have hne : l ≠ [] := fun z => by subst z; have := hk.1; simp at this; omega
          refine fun p hp => h p l _ (s6.new hp) (b6.trans (.new hp)) ?_ hne (by omega)
          rw [upd_same, hk.arity (by omega), Int.toNat_of_nonneg (by omega)]
theorem ok_law (T : Txt K mg) : ∀ f fd, Fun K "law" "law" s_law f fd → FnOk P w K mg base (L2.CX P w) 5 f fd ["script"] (sp_law63 K) := by
  have C__law_start := ok_start (P := P) (w := w) (base := base) T
  have C__law_string := ok_string (P := P) (w := w) (base := base) T
  have C_is_name := ok_is_name (P := P) (w := w) (base := base) T
  have C__law_is_name := ok_law_is_name (P := P) (w := w) (base := base) T
  have C__law_name := ok_name (P := P) (w := w) (base := base) T
  have C__law_selector := ok_selector (P := P) (w := w) (base := base) T
  have C_arity := ok_arity (P := P) (w := w) (base := base) T
  refine DefAt.fn sc_law (fun vs H Q E h => ?_) (fun f cdv A outer s H vs Q E hr h => ⟨_, (pss_cons (ps_set (i := 1) sc_law.nd rfl (Or.inl rfl) (kc C__law_start (hr.mono (by decide)) (pa_cons (kv 0) pa_nil)))
      (pss_cons (k_for (passes_of rfl) rfl (pi_range1 (by rfl) T.n_range (pa_cons pe_int pa_nil)) (pg_name (i := 2) sc_law.nd rfl (Or.inl rfl))
      (pss_cons (ps_set (i := 3) sc_law.nd rfl (Or.inl rfl) (kc C__law_string (hr.mono (by decide)) (pa_cons (kv 1) pa_nil)))
      (pss_cons (ps_set (i := 4) sc_law.nd rfl (Or.inl rfl) (kc C_is_name (hr.mono (by decide)) (pa_cons (kv 3) pa_nil)))
      (pss_cons (ps_if (PW.pt (pw_or (pt_not (kt (pe_callB c_isi (by rfl) T.n_isinstance (by decide +kernel) (pa_cons (kv 4) (pa_cons (pe_bltn (v := .ty "bool") (by rfl) T.n_bool (by decide +kernel) rfl) pa_nil))))) (pw_or1 (pt_cmpR (o_ne hr.units) (kv 4) (kc C__law_is_name (hr.mono (by decide)) (pa_cons (kv 3) pa_nil)) (nomark _)))))
      (pss_one (ps_ret pe_bl))
      pss_nil)
      (pss_cons (ps_set (i := 5) sc_law.nd rfl (Or.inl rfl) (kc C__law_name (hr.mono (by decide)) (pa_cons (kv 1) pa_nil)))
      (pss_cons (ps_if (pt_cmpR o_isnot (kc C_is_name (hr.mono (by decide)) (pa_cons (kv 5) pa_nil)) pe_bl (nomark _))
      (pss_one (ps_ret pe_bl))
      pss_nil)
      (pss_cons (ps_asg (kc C__law_selector (hr.mono (by decide)) (pa_cons (kv 1) pa_nil)) (pg_tup (n := 2) (by rfl) (pgs_cons (pg_name (i := 6) sc_law.nd rfl (Or.inl rfl)) (pgs_cons (pg_name (i := 7) sc_law.nd rfl (Or.inl rfl)) pgs_nil))))
      (pss_cons (ps_set (i := 8) sc_law.nd rfl (Or.inl rfl) (kc C_arity (hr.mono (by decide)) (pa_cons (kv 6) pa_nil)))
      (pss_one (ps_if (PW.pt (pw_or (pt_not (kt (pe_callB c_isi (by rfl) T.n_isinstance (by decide +kernel) (pa_cons (kv 8) (pa_cons (pe_bltn (v := .ty "int") (by rfl) T.n_int (by decide +kernel) rfl) pa_nil))))) (pw_or (kt (pe_callB c_isi (by rfl) T.n_isinstance (by decide +kernel) (pa_cons (kv 8) (pa_cons (pe_bltn (v := .ty "bool") (by rfl) T.n_bool (by decide +kernel) rfl) pa_nil)))) (pw_or1 (pt_cmpR (o_ne hr.units) (kv 8) (kv 7) (nomark _))))))
      (pss_one (ps_ret pe_bl))
      pss_nil))))))))))
      (pss_one (ps_ret pe_bl)))), ?_⟩)
  · obtain ⟨sc, ns, rfl, _⟩ := h; rfl
  · obtain ⟨sc, ns, rfl, hS, hn, h⟩ := h
    walk_at "kk"
    refine ⟨ns, hS, hn, ?_⟩
    intro st H1 s1
    refine for_rng (fun i σ H' => (∃ a b c d e f g, σ = [some (.ref sc), some (.ref st), a, b, c, d, e, f, g]) ∧ Sta K H' st) ⟨⟨_, _, _, _, _, _, _, rfl⟩, s1⟩ ?_ ?_
    · rintro i σ H2 hi ⟨⟨a, b, c, d, e, f, g, rfl⟩, s2⟩
      walk_at "kk"
      intro l H3 s3 b3 hl
      refine ⟨by omega, ?_⟩
      walk_at "kk"
      intro n H4 s4 b4 hn'
      have hn2 := name_facts hn'
      refine ⟨by omega, ?_⟩
      rw [hn']
      walk_at "kk"
      intro p m H5 s5 b5 hp hm0 hm1
      walk_at "kk"
      exact ⟨⟨_, rfl⟩, s5⟩
    · rintro σ H2 ⟨⟨a, b, c, d, e, f, g, rfl⟩, s2⟩
      walk_at "kk"
      exact h _
end K10

set_option Elab.async false
set_option linter.all false
set_option maxRecDepth 100000
namespace K10
end K10
open PySem PySem.W PyProof.Rows
set_option maxRecDepth 100000 in
set_option maxHeartbeats 0 in
theorem PySem.Challenge.cw_kilnwarden_k10_names_and_selectors_holds : PySem.Challenge.rw_kilnwarden_k10_names_and_selectors.Holds := by
  w_on; o_law; k_head; (case hw => w_witness2)
  k_fill
  refine KW.walk63 (k := 5) (l := PySem.Challenge.rw_kilnwarden_k10_names_and_selectors) (st := K10.s_law) rfl rfl rfl ⟨rfl, by decide, by decide⟩ (fun w h Y => PySem.W.kIn_of Y) (fun _ _ _ _ _ _ us hl => match us, hl with | [_], _ => rfl) ?F
  case F =>
    intro w mg h KX G
    have T : K10.Txt (L2.KOf KX) mg := by
      delta L2.KOf
      constructor
      case n_abs => exact PySem.W.mg_none_of KX G (by k_is)
      case n_bool => exact PySem.W.mg_none_of KX G (by k_is)
      case n_int => exact PySem.W.mg_none_of KX G (by k_is)
      case n_isinstance => exact PySem.W.mg_none_of KX G (by k_is)
      case n_len => exact PySem.W.mg_none_of KX G (by k_is)
      case n_range => exact PySem.W.mg_none_of KX G (by k_is)
      case g_MOST_NAME => refine' KW.gv_mk KX G ?a ?r; (case a => k_is); (case r => exact ⟨_, rfl⟩)
      case g_LETTERS => refine' KW.gv_mk KX G ?a ?r; (case a => k_is); (case r => exact ⟨_, rfl⟩)
      case g_DIGITS => refine' KW.gv_mk KX G ?a ?r; (case a => k_is); (case r => exact ⟨_, rfl⟩)
      case g_SIGNS => refine' KW.gv_mk KX G ?a ?r; (case a => k_is); (case r => exact ⟨_, rfl⟩)
      case d_char_at => refine' KW.defAt_mk KX G ?a ?l ?c ?k ?b; (case a => k_is); (case l => k_is); (case c => k_is); (case k => k_is); (case b => exact fun _ _ _ _ _ _ us hl => match us, hl with | [_, _], _ => rfl)
      case d_is_in => refine' KW.defAt_mk KX G ?a ?l ?c ?k ?b; (case a => k_is); (case l => k_is); (case c => k_is); (case k => k_is); (case b => exact fun _ _ _ _ _ _ us hl => match us, hl with | [_, _], _ => rfl)
      case d_end_of => refine' KW.defAt_mk KX G ?a ?l ?c ?k ?b; (case a => k_is); (case l => k_is); (case c => k_is); (case k => k_is); (case b => exact fun _ _ _ _ _ _ us hl => match us, hl with | [_, _, _], _ => rfl)
      case d_is_name => refine' KW.defAt_mk KX G ?a ?l ?c ?k ?b; (case a => k_is); (case l => k_is); (case c => k_is); (case k => k_is); (case b => exact fun _ _ _ _ _ _ us hl => match us, hl with | [_], _ => rfl)
      case d_arity => refine' KW.defAt_mk KX G ?a ?l ?c ?k ?b; (case a => k_is); (case l => k_is); (case c => k_is); (case k => k_is); (case b => exact fun _ _ _ _ _ _ us hl => match us, hl with | [_], _ => rfl)
      case d__law_start => refine' KW.defAt_mk KX G ?a ?l ?c ?k ?b; (case a => k_is); (case l => k_is); (case c => k_is); (case k => k_is); (case b => exact fun _ _ _ _ _ _ us hl => match us, hl with | [_], _ => rfl)
      case d__law_pick => refine' KW.defAt_mk KX G ?a ?l ?c ?k ?b; (case a => k_is); (case l => k_is); (case c => k_is); (case k => k_is); (case b => exact fun _ _ _ _ _ _ us hl => match us, hl with | [_, _], _ => rfl)
      case d__law_letters => refine' KW.defAt_mk KX G ?a ?l ?c ?k ?b; (case a => k_is); (case l => k_is); (case c => k_is); (case k => k_is); (case b => exact fun _ _ _ _ _ _ us hl => match us, hl with | [], _ => rfl)
      case d__law_string => refine' KW.defAt_mk KX G ?a ?l ?c ?k ?b; (case a => k_is); (case l => k_is); (case c => k_is); (case k => k_is); (case b => exact fun _ _ _ _ _ _ us hl => match us, hl with | [_], _ => rfl)
      case d__law_is_name => refine' KW.defAt_mk KX G ?a ?l ?c ?k ?b; (case a => k_is); (case l => k_is); (case c => k_is); (case k => k_is); (case b => exact fun _ _ _ _ _ _ us hl => match us, hl with | [_], _ => rfl)
      case d__law_name => refine' KW.defAt_mk KX G ?a ?l ?c ?k ?b; (case a => k_is); (case l => k_is); (case c => k_is); (case k => k_is); (case b => exact fun _ _ _ _ _ _ us hl => match us, hl with | [_], _ => rfl)
      case d__law_selector => refine' KW.defAt_mk KX G ?a ?l ?c ?k ?b; (case a => k_is); (case l => k_is); (case c => k_is); (case k => k_is); (case b => exact fun _ _ _ _ _ _ us hl => match us, hl with | [_], _ => rfl)
      case d_law => refine' KW.defAt_mk KX G ?a ?l ?c ?k ?b; (case a => k_is); (case l => k_is); (case c => k_is); (case k => k_is); (case b => exact fun _ _ _ _ _ _ us hl => match us, hl with | [_], _ => rfl)
    exact ⟨T.d_law, fun base f fd F => K10.ok_law T f fd F⟩
#print axioms PySem.Challenge.cw_kilnwarden_k10_names_and_selectors_holds
