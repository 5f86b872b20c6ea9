import PyProof.Rows.All
import Wide.All
import OpenK.AllK
import HandS.ExcCtx
import HandS.HotCalls
import Wide.FinOn
import HandS.Call
import HandS.List
import HandS.Ends
import HandS.Words
import HandS.Exc
import HandS.ExcOwn
import HandS.TryOnly
import HandS.Text
import HandS.Codes
import HandS.Style
import HandS.IsInst
import HandS.Wide
import KE.KExcSuper
import HandS.ExcField
import HandS.ExcIs
import HandS.TryMany
import HandS.Defaults
import HandS.Dict
import HandS.BoundDict
import HandS.NoneIn
import HandS.Flow
import HandS.WideBits
import HandS.Conv
import HandS.SortInts
import HandS.RaiseMore
import KE.RegKIsAll
import HandS.Comp
import HandS.More
import HandS.Iter
import KE.SortKeyHeap
import KE.SortData
import KE.KSortKey
import HandS.Lambda
import HandS.EndTab
import KE.KNestM
import PySem.Challenge.RW_kilnwarden_k02_store_is_a_list
set_option Elab.async false
set_option linter.all false
set_option maxRecDepth 100000
set_option maxHeartbeats 2000000
/-! Kw: universal readings over HandS: one rule a construct, whatever the kinds of its parts are; the readings go by cases of the values and so reduce by simp. -/
namespace KW
open PySem PySem.Spec PyProof.Rows L2
abbrev Frag := PySem.W.Frag
abbrev S (l : List Nat) : Str := SX.S l

section
variable {X : Cx}
theorem PEw {e : Expr} {t t' : TE} (h : PE X e t) (w : ∀ σ H Q, t' σ H Q → t σ H Q) : PE X e t' := ⟨fun pins s σ H Q I q => h.run pins s σ H Q I (w σ H Q q)⟩
theorem PTw {e : Expr} {t t' : TT} (h : PT X e t) (w : ∀ σ H Q, t' σ H Q → t σ H Q) : PT X e t' := ⟨fun pins s σ H Q I q => h.run pins s σ H Q I (w σ H Q q)⟩
theorem PSw {st : Stmt} {t t' : TS} (h : PS X st t) (w : ∀ D σ H, t' D σ H → t D σ H) : PS X st t' := ⟨fun pins s σ H D I q => h.run pins s σ H D I (w D σ H q)⟩
theorem OpRw {f : Value → Value → Sem Value} {r r' : R2} (h : OpR X f r) (w : ∀ x y H Q, r' x y H Q → r x y H Q) : OpR X f r' := fun pins s σ H x y v u Q I rx ry q => h pins s σ H x y v u Q I rx ry (w _ _ _ _ q)
theorem UnRw {f : Value → Sem Value} {r r' : V → Hp → VK → Prop} (h : UnR X f r) (w : ∀ x H Q, r' x H Q → r x H Q) : UnR X f r' := fun pins s σ H x v Q I rx q => h pins s σ H x v Q I rx (w _ _ _ q)
theorem CallRw {f : Value} {r r' : List V → Hp → VK → Prop} (h : CallR X f r) (w : ∀ xs H Q, r' xs H Q → r xs H Q) : CallR X f r' := fun pins s σ H xs us Q I rx q => h pins s σ H xs us Q I rx (w _ _ _ q)
theorem IxRw {r r' : R2} (h : IxR X r) (w : ∀ x y H Q, r' x y H Q → r x y H Q) : IxR X r' := fun a b pins s σ H x y v u Q I rx ry q => h a b pins s σ H x y v u Q I rx ry (w _ _ _ _ q)
theorem SlRw {r r' : V → Option Int → Option Int → Hp → VK → Prop} (h : SlR X r) (w : ∀ x l u H Q, r' x l u H Q → r x l u H Q) : SlR X r' := fun pins s σ H x v vl vu lo hi sl Q I rx a b c q => h pins s σ H x v vl vu lo hi sl Q I rx a b c (w _ _ _ _ _ q)

/-! ### names -/
def uVar (i : Nat) : TE := fun σ H Q => match σ[i]? with
  | some (some v) => Q v H
  | _ => False
theorem kv (i : Nat) {x : Str} {pos : Pos} (hN : X.N[i]? = some x := by rfl) (hv : Vis X.env.scope x := by first | exact Or.inl rfl | exact Or.inr (Or.inl rfl) | exact Or.inr (Or.inr rfl)) (hd : (x == ("__debug__" : Str)) = false := by decide)
    (hcd : (x == ("__classdict__" : Str)) = false := by decide) : PE X (.Name x pos) (uVar i) := PEw (pe_var hN hv hd hcd) fun σ H Q h => by
  unfold uVar at h
  split at h
  · rename_i v e
    exact ⟨v, e, h⟩
  · exact h.elim

/-! ### operators -/
def uAdd (K : Frag) : R2
  | .int i, .int j, H, Q => Q (.int (i + j)) H
  | .str i, .str j, H, Q => i.length + j.length ≤ sizeLine ∧ Q (.str (i ++ j)) H
  | .ref a, .ref b, H, Q => rCat (.ref a) (.ref b) H Q ∨ rCatT K (.ref a) (.ref b) H Q
  | _, _, _, _ => False
theorem o_add : OpR X (binaryOp .Add) (uAdd X.K) := OpRw (op_add.or (op_add_str.or (op_cat.or op_catT))) fun x y H Q h => by
  unfold uAdd at h
  split at h
  · exact .inl ⟨_, _, rfl, rfl, h⟩
  · exact .inr (.inl ⟨_, _, rfl, rfl, h⟩)
  · exact .inr (.inr h)
  · exact h.elim
def uSub : R2
  | .int i, .int j, H, Q => Q (.int (i - j)) H
  | _, _, _, _ => False
theorem o_sub : OpR X (binaryOp .Sub) uSub := OpRw op_sub fun x y H Q h => by
  unfold uSub at h
  split at h
  · exact ⟨_, _, rfl, rfl, h⟩
  · exact h.elim
def uMul : R2
  | .int i, .int j, H, Q => (CMul i j ∨ CMulW i j) ∧ Q (.int (i * j)) H
  | .ref l, .int k, H, Q => rRep (.ref l) (.int k) H Q
  | _, _, _, _ => False
theorem o_mul : OpR X (binaryOp .Mult) uMul := OpRw (op_mul.or (op_mulW.or op_rep)) fun x y H Q h => by
  unfold uMul at h
  split at h
  · obtain ⟨c | c, h⟩ := h
    · exact .inl ⟨_, _, rfl, rfl, c, h⟩
    · exact .inr (.inl ⟨_, _, rfl, rfl, c, h⟩)
  · exact .inr (.inr h)
  · exact h.elim
def uMod : R2
  | .int i, .int j, H, Q => 0 < j ∧ Q (.int (i % j)) H
  | _, _, _, _ => False
theorem o_mod : OpR X (binaryOp .Mod) uMod := OpRw op_mod fun x y H Q h => by
  unfold uMod at h
  split at h
  · exact ⟨_, _, rfl, rfl, h⟩
  · exact h.elim
def uDiv : R2
  | .int i, .int j, H, Q => (CDiv i j ∨ CDivW i j) ∧ Q (.int (i / j)) H
  | _, _, _, _ => False
theorem o_fdiv : OpR X (binaryOp .FloorDiv) uDiv := OpRw (op_fdiv.or op_fdivW) fun x y H Q h => by
  unfold uDiv at h
  split at h
  · obtain ⟨c | c, h⟩ := h
    · exact .inl ⟨_, _, rfl, rfl, c, h⟩
    · exact .inr ⟨_, _, rfl, rfl, c, h⟩
  · exact h.elim
def uPow : R2
  | .int i, .int j, H, Q => CPow i j ∧ Q (.int (i ^ j.toNat)) H
  | _, _, _, _ => False
theorem o_pow : OpR X (binaryOp .Pow) uPow := OpRw op_pow fun x y H Q h => by
  unfold uPow at h
  split at h
  · exact ⟨_, _, rfl, rfl, h⟩
  · exact h.elim
def uShl : R2
  | .int i, .int j, H, Q => CPow i j ∧ Q (.int (i * 2 ^ j.toNat)) H
  | _, _, _, _ => False
theorem o_shl : OpR X (binaryOp .LShift) uShl := OpRw op_shl fun x y H Q h => by
  unfold uShl at h
  split at h
  · exact ⟨_, _, rfl, rfl, h⟩
  · exact h.elim
def uNeg : V → Hp → VK → Prop
  | .int i, H, Q => Q (.int (-i)) H
  | _, _, _ => False
theorem o_neg : UnR X (unaryOp .USub) uNeg := UnRw un_neg fun x H Q h => by
  unfold uNeg at h
  split at h
  · exact ⟨_, rfl, h⟩
  · exact h.elim
/-- in place: ints and texts; a list is lengthened -/
def uIAdd : R2
  | .int i, .int j, H, Q => Q (.int (i + j)) H
  | .str i, .str j, H, Q => i.length + j.length ≤ sizeLine ∧ Q (.str (i ++ j)) H
  | .ref a, .ref b, H, Q => rExt2 (.ref a) (.ref b) H Q
  | _, _, _, _ => False
theorem o_iadd : OpR X (inplaceOp .Add) uIAdd := OpRw (iop_add.or (iop_add_str.or iop_ext)) fun x y H Q h => by
  unfold uIAdd at h
  split at h
  · exact .inl ⟨_, _, rfl, rfl, h⟩
  · exact .inr (.inl ⟨_, _, rfl, rfl, h⟩)
  · exact .inr (.inr h)
  · exact h.elim
def uISub : R2
  | .int i, .int j, H, Q => Q (.int (i - j)) H
  | _, _, _, _ => False
theorem o_isub : OpR X (inplaceOp .Sub) uISub := OpRw iop_sub fun x y H Q h => by
  unfold uISub at h
  split at h
  · exact ⟨_, _, rfl, rfl, h⟩
  · exact h.elim

/-! ### comparisons -/
def uLt : R2
  | .int i, .int j, H, Q => Q (.bl (decide (i < j))) H
  | .str i, .str j, H, Q => Q (.bl (decide (i.cps.toList < j.cps.toList))) H
  | _, _, _, _ => False
theorem o_lt : OpR X (compareOp .Lt) uLt := OpRw (op_lt.or op_lt_str) fun x y H Q h => by
  unfold uLt at h
  split at h
  · exact .inl ⟨_, _, rfl, rfl, h⟩
  · exact .inr ⟨_, _, rfl, rfl, h⟩
  · exact h.elim
def uLe : R2
  | .int i, .int j, H, Q => Q (.bl (decide (i ≤ j))) H
  | _, _, _, _ => False
theorem o_le : OpR X (compareOp .LtE) uLe := OpRw op_le fun x y H Q h => by
  unfold uLe at h
  split at h
  · exact ⟨_, _, rfl, rfl, h⟩
  · exact h.elim
def uGt : R2
  | .int i, .int j, H, Q => Q (.bl (decide (j < i))) H
  | _, _, _, _ => False
theorem o_gt : OpR X (compareOp .Gt) uGt := OpRw op_gt fun x y H Q h => by
  unfold uGt at h
  split at h
  · exact ⟨_, _, rfl, rfl, h⟩
  · exact h.elim
def uGe : R2
  | .int i, .int j, H, Q => Q (.bl (decide (j ≤ i))) H
  | _, _, _, _ => False
theorem o_ge : OpR X (compareOp .GtE) uGe := OpRw op_ge fun x y H Q h => by
  unfold uGe at h
  split at h
  · exact ⟨_, _, rfl, rfl, h⟩
  · exact h.elim
def uEq (K : Frag) : R2
  | .int i, .int j, H, Q => Q (.bl (decide (i = j))) H
  | .str i, .str j, H, Q => Q (.bl (decide (i = j))) H
  | .bl i, .bl j, H, Q => Q (.bl (decide (i = j))) H
  | .non, .non, H, Q => Q (.bl true) H
  | .int _, .str _, H, Q => Q (.bl false) H
  | .str _, .int _, H, Q => Q (.bl false) H
  | .int _, .non, H, Q => Q (.bl false) H
  | .non, .int _, H, Q => Q (.bl false) H
  | .str _, .non, H, Q => Q (.bl false) H
  | .non, .str _, H, Q => Q (.bl false) H
  | .ref a, .ref b, H, Q => rEqD K (.ref a) (.ref b) H Q
  | _, _, _, _ => False
theorem o_eq (hu : X.A.units + 64 < cLine) : OpR X (compareOp .Eq) (uEq X.K) := OpRw (op_eq.or (op_eqD hu)) fun x y H Q h => by
  unfold uEq at h
  split at h <;> first
    | exact .inl ⟨rfl, by simpa using h⟩
    | exact .inr h
    | exact h.elim
def uNe (K : Frag) : R2
  | .int i, .int j, H, Q => Q (.bl (!decide (i = j))) H
  | .str i, .str j, H, Q => Q (.bl (!decide (i = j))) H
  | .bl i, .bl j, H, Q => Q (.bl (!decide (i = j))) H
  | .non, .non, H, Q => Q (.bl false) H
  | .int _, .str _, H, Q => Q (.bl true) H
  | .str _, .int _, H, Q => Q (.bl true) H
  | .int _, .non, H, Q => Q (.bl true) H
  | .non, .int _, H, Q => Q (.bl true) H
  | .str _, .non, H, Q => Q (.bl true) H
  | .non, .str _, H, Q => Q (.bl true) H
  | .ref a, .ref b, H, Q => rNeD K (.ref a) (.ref b) H Q
  | _, _, _, _ => False
theorem o_ne (hu : X.A.units + 64 < cLine) : OpR X (compareOp .NotEq) (uNe X.K) := OpRw (op_ne.or (op_neD hu)) fun x y H Q h => by
  unfold uNe at h
  split at h <;> first
    | exact .inl ⟨rfl, by simpa using h⟩
    | exact .inr h
    | exact h.elim
/-- is, is not: None and bools on the right -/
def uIs : R2
  | .non, .non, H, Q => Q (.bl true) H
  | .int _, .non, H, Q => Q (.bl false) H
  | .str _, .non, H, Q => Q (.bl false) H
  | .ref _, .non, H, Q => Q (.bl false) H
  | .bl _, .non, H, Q => Q (.bl false) H
  | .bl a, .bl b, H, Q => Q (.bl (decide (a = b))) H
  | _, _, _, _ => False
theorem o_is : OpR X (compareOp .Is) uIs := OpRw (op_isN.or op_isBl) fun x y H Q h => by
  unfold uIs at h
  split at h <;> first
    | exact .inl ⟨rfl, by simpa using h⟩
    | exact .inr ⟨_, _, rfl, rfl, h⟩
    | exact h.elim
def uNotIs : R2
  | .non, .non, H, Q => Q (.bl false) H
  | .int _, .non, H, Q => Q (.bl true) H
  | .str _, .non, H, Q => Q (.bl true) H
  | .ref _, .non, H, Q => Q (.bl true) H
  | .bl _, .non, H, Q => Q (.bl true) H
  | .bl a, .bl b, H, Q => Q (.bl (!decide (a = b))) H
  | _, _, _, _ => False
theorem o_isnot : OpR X (compareOp .IsNot) uNotIs := OpRw (op_notN.or op_notBl) fun x y H Q h => by
  unfold uNotIs at h
  split at h <;> first
    | exact .inl ⟨rfl, by simpa using h⟩
    | exact .inr ⟨_, _, rfl, rfl, h⟩
    | exact h.elim
/-- one text within another -/
def subStr (i j : Str) : Bool := !(Builtin.Str.occurrences j i 0 j.length 1).isEmpty
theorem subStr_one (c : Nat) (a : List Nat) : subStr (S [c]) (S a) = decide (c ∈ a) := SX.in_one a c
def uIn (K : Frag) : R2
  | .str i, .str j, H, Q => Q (.bl (subStr i j)) H
  | .int i, .ref p, H, Q => rIn K false (.int i) (.ref p) H Q
  | .str i, .ref p, H, Q => rIn K false (.str i) (.ref p) H Q
  | .non, .ref p, H, Q => rIn K false .non (.ref p) H Q
  | _, _, _, _ => False
theorem o_in : OpR X (compareOp .In) (uIn X.K) := OpRw (op_in_str.or op_in_seq) fun x y H Q h => by
  unfold uIn at h
  split at h <;> first
    | exact .inl ⟨_, _, rfl, rfl, h⟩
    | exact .inr h
    | exact h.elim
def uNotIn (K : Frag) : R2
  | .str i, .str j, H, Q => Q (.bl (!subStr i j)) H
  | .int i, .ref p, H, Q => rIn K true (.int i) (.ref p) H Q
  | .str i, .ref p, H, Q => rIn K true (.str i) (.ref p) H Q
  | .non, .ref p, H, Q => rIn K true .non (.ref p) H Q
  | _, _, _, _ => False
theorem o_notin : OpR X (compareOp .NotIn) (uNotIn X.K) := OpRw (op_notin_str.or op_notIn_seq) fun x y H Q h => by
  unfold uNotIn at h
  split at h <;> first
    | exact .inl ⟨_, _, rfl, rfl, h⟩
    | exact .inr h
    | exact h.elim

/-! ### tests -/
def uTru (K : Frag) : V → Hp → (Bool → Prop) → Prop
  | .non, _, k => k false
  | .bl b, _, k => k b
  | .int i, _, k => k (i != 0)
  | .str y, _, k => y.length ≤ sizeLine ∧ k ((y.length : Int) != 0)
  | .ref p, H, k => ∃ b, TruV K (.ref p) H b ∧ k b
  | _, _, _ => False
def uTest (K : Frag) (t : TE) : TT := fun σ H Q => t σ H fun x H1 => uTru K x H1 fun b => Q b H1
theorem kt {e : Expr} {t : TE} (h : PE X e t) (he : ∀ whole, isTrue e X.env whole = (do let v ← whole; standAt e.pos; holding [v] (truthy v)) := by intro _; rfl) : PT X e (uTest X.K t) := by
  refine ⟨fun pins s σ H Q I hq => ?_⟩
  refine isTrue_plain (thn (h.run pins s σ H _ I hq) fun v s1 ⟨x, H1, I1, r1, q1⟩ => tru_ok pins s1 σ H1 x v Q I1 r1 ?_) (he _)
  cases x with
  | non => exact ⟨false, rfl, q1⟩
  | bl b => exact ⟨b, rfl, q1⟩
  | int i => exact ⟨_, rfl, q1⟩
  | str y => exact ⟨_, ⟨q1.1, rfl⟩, q1.2⟩
  | ref p => exact q1
  | _ => exact False.elim q1

/-! ### subscripts -/
def uIx (K : Frag) : R2
  | .ref p, .int i, H, Q => ∃ xs v, (SqL K H p xs ∨ SqT K H p xs) ∧ atI xs i = some v ∧ Q v H
  | .str z, .int i, H, Q => z.length ≤ sizeLine ∧ ∃ c, atI z.cps.toList i = some c ∧ Q (.str (S [c])) H
  | _, _, _, _ => False
theorem o_ix : IxR X (uIx X.K) := IxRw ix_seq fun x y H Q h => by
  unfold uIx at h
  split at h
  · obtain ⟨xs, v, hs | hs, e, q⟩ := h
    · exact .inl ⟨_, xs, _, v, rfl, rfl, hs, e, q⟩
    · exact .inr (.inl ⟨_, xs, _, v, rfl, rfl, hs, e, q⟩)
  · obtain ⟨hz, c, e, q⟩ := h
    exact .inr (.inr ⟨_, _, c, rfl, rfl, hz, e, q⟩)
  · exact h.elim
def uSl (K : Frag) : V → Option Int → Option Int → Hp → VK → Prop
  | .ref a, lo, hi, H, Q => rSlL K (.ref a) lo hi H Q ∨ rSlT K (.ref a) lo hi H Q
  | .str z, lo, hi, H, Q => z.length ≤ sizeLine ∧ Q (.str (cutS z lo hi)) H
  | _, _, _, _, _ => False
theorem o_sl : SlR X (uSl X.K) := SlRw (sl_list.or (sl_tup.or sl_str)) fun x lo hi H Q h => by
  unfold uSl at h
  split at h
  · exact h.elim .inl fun z => .inr (.inl z)
  · exact .inr (.inr ⟨_, rfl, h.1, h.2⟩)
  · exact h.elim
theorem S_len (a : List Nat) : (S a).length = a.length := SX.S_len a
theorem S_nil : (S []).length = 0 := rfl
theorem S_tl (x : Str) : S x.cps.toList = x := SX.S_tl x
theorem cps_S (a : List Nat) : (S a).cps.toList = a := rfl
theorem S_cat (a b : List Nat) : S a ++ S b = S (a ++ b) := SX.S_cat a b
theorem S_inj {a b : List Nat} : S a = S b ↔ a = b := ⟨SX.S_inj, fun h => congrArg S h⟩
theorem cutS_S (a : List Nat) (i j : Nat) : cutS (S a) (some (i : Int)) (some (j : Int)) = S ((a.drop i).take (j - i)) := by
  unfold cutS
  rw [HT.sIx_nat, HT.sIx_nat, cps_S]
  have e : (S a).length = a.length := S_len a
  rw [e]
  refine congrArg S ?_
  rw [show a.drop (min i a.length) = a.drop i by
    by_cases h : i ≤ a.length
    · rw [Nat.min_eq_left h]
    · rw [Nat.min_eq_right (by omega), List.drop_length, List.drop_eq_nil_of_le (by omega)]]
  refine List.take_eq_take_iff.mpr ?_
  rw [List.length_drop]
  omega

/-! ### calls of built-ins -/
def uLen (K : Frag) : List V → Hp → VK → Prop
  | [.str y], H, Q => y.length ≤ sizeLine ∧ Q (.int y.length) H
  | [.ref p], H, Q => ∃ xs, (SqL K H p xs ∨ SqT K H p xs) ∧ Q (.int xs.length) H
  | _, _, _ => False
theorem c_len : CallR X (.builtin "len") (uLen X.K) := CallRw call_len fun xs H Q h => by
  unfold uLen at h
  split at h
  · exact ⟨_, _, rfl, ⟨h.1, rfl⟩, h.2⟩
  · obtain ⟨xs, hs | hs, q⟩ := h
    · exact ⟨_, _, rfl, .inl ⟨xs, hs, rfl⟩, q⟩
    · exact ⟨_, _, rfl, .inr ⟨xs, hs, rfl⟩, q⟩
  · exact h.elim
def uAbs : List V → Hp → VK → Prop
  | [.int i], H, Q => Q (.int (if i < 0 then -i else i)) H
  | _, _, _ => False
theorem c_abs : CallR X (.builtin "abs") uAbs := CallRw call_abs fun xs H Q h => by
  unfold uAbs at h
  split at h
  · exact ⟨_, rfl, h⟩
  · exact h.elim
def uInt : List V → Hp → VK → Prop
  | [.int i], H, Q => Q (.int i) H
  | [.bl k], H, Q => Q (.int (if k then 1 else 0)) H
  | _, _, _ => False
theorem c_int : CallR X (.type "int") uInt := CallRw call_int1 fun xs H Q h => by
  unfold uInt at h
  split at h
  · exact .inl ⟨_, rfl, h⟩
  · exact .inr ⟨_, rfl, h⟩
  · exact h.elim
def uMin2 : List V → Hp → VK → Prop
  | [.int i, .int j], H, Q => Q (.int (if j < i then j else i)) H
  | _, _, _ => False
theorem c_min2 (hc : X.calm = true) : CallR X (.builtin "min") uMin2 := CallRw (call_min2 hc) fun xs H Q h => by
  unfold uMin2 at h
  split at h
  · exact ⟨_, _, rfl, h⟩
  · exact h.elim
/-- isinstance against a built-in type -/
def isK (a b : String) : Bool := match kitB a b with
  | some r => r
  | none => false
def isOk (a b : String) : Bool := (kitB a b).isSome
theorem isK_of {a b : String} (h : isOk a b = true) {K : Frag} : PySem.W.kitOne K (.type a) (.type b) = some (isK a b) := by
  refine kit_ty ?_
  unfold isOk at h
  unfold isK
  cases e : kitB a b with
  | none => rw [e] at h; cases h
  | some r => rfl
def uIsi (K : Frag) : List V → Hp → VK → Prop
  | [.non, .ty n], H, Q => isOk "NoneType" n = true ∧ Q (.bl (isK "NoneType" n)) H
  | [.bl _, .ty n], H, Q => isOk "bool" n = true ∧ Q (.bl (isK "bool" n)) H
  | [.int _, .ty n], H, Q => isOk "int" n = true ∧ Q (.bl (isK "int" n)) H
  | [.str _, .ty n], H, Q => isOk "str" n = true ∧ Q (.bl (isK "str" n)) H
  | [.ref p, .ty n], H, Q => ∃ T, TyX K H (.ref p) (.type T) ∧ isOk T n = true ∧ Q (.bl (isK T n)) H
  | _, _, _ => False
theorem c_isi : CallR X (.builtin "isinstance") (uIsi X.K) := CallRw call_isi fun xs H Q h => by
  unfold uIsi at h
  split at h
  · exact ⟨_, _, _, _, _, rfl, .ty _, .base .non, isK_of h.1, h.2⟩
  · exact ⟨_, _, _, _, _, rfl, .ty _, .base (.bl _), isK_of h.1, h.2⟩
  · exact ⟨_, _, _, _, _, rfl, .ty _, .base (.int _), isK_of h.1, h.2⟩
  · exact ⟨_, _, _, _, _, rfl, .ty _, .base (.str _), isK_of h.1, h.2⟩
  · obtain ⟨T, ty, o, q⟩ := h
    exact ⟨_, _, _, _, _, rfl, .ty _, ty, isK_of o, q⟩
  · exact h.elim
theorem isK_int_int : isK "int" "int" = true := by decide +kernel
theorem isK_int_bool : isK "int" "bool" = false := by decide +kernel
theorem isK_int_str : isK "int" "str" = false := by decide +kernel
theorem isK_int_list : isK "int" "list" = false := by decide +kernel
theorem isK_int_tuple : isK "int" "tuple" = false := by decide +kernel
theorem isK_bool_int : isK "bool" "int" = true := by decide +kernel
theorem isK_bool_bool : isK "bool" "bool" = true := by decide +kernel
theorem isK_bool_str : isK "bool" "str" = false := by decide +kernel
theorem isK_str_str : isK "str" "str" = true := by decide +kernel
theorem isK_str_int : isK "str" "int" = false := by decide +kernel
theorem isK_str_bool : isK "str" "bool" = false := by decide +kernel
theorem isK_str_tuple : isK "str" "tuple" = false := by decide +kernel
theorem isK_str_list : isK "str" "list" = false := by decide +kernel
theorem isK_list_list : isK "list" "list" = true := by decide +kernel
theorem isK_list_tuple : isK "list" "tuple" = false := by decide +kernel
theorem isK_tuple_tuple : isK "tuple" "tuple" = true := by decide +kernel
theorem isK_tuple_list : isK "tuple" "list" = false := by decide +kernel
theorem isK_dict_dict : isK "dict" "dict" = true := by decide +kernel
theorem isK_none_int : isK "NoneType" "int" = false := by decide +kernel
theorem isK_none_bool : isK "NoneType" "bool" = false := by decide +kernel
theorem isOk_int_int : isOk "int" "int" = true := by decide +kernel
theorem isOk_int_bool : isOk "int" "bool" = true := by decide +kernel
theorem isOk_int_str : isOk "int" "str" = true := by decide +kernel
theorem isOk_int_list : isOk "int" "list" = true := by decide +kernel
theorem isOk_int_tuple : isOk "int" "tuple" = true := by decide +kernel
theorem isOk_bool_int : isOk "bool" "int" = true := by decide +kernel
theorem isOk_bool_bool : isOk "bool" "bool" = true := by decide +kernel
theorem isOk_bool_str : isOk "bool" "str" = true := by decide +kernel
theorem isOk_str_str : isOk "str" "str" = true := by decide +kernel
theorem isOk_str_int : isOk "str" "int" = true := by decide +kernel
theorem isOk_str_bool : isOk "str" "bool" = true := by decide +kernel
theorem isOk_str_tuple : isOk "str" "tuple" = true := by decide +kernel
theorem isOk_str_list : isOk "str" "list" = true := by decide +kernel
theorem isOk_list_list : isOk "list" "list" = true := by decide +kernel
theorem isOk_list_tuple : isOk "list" "tuple" = true := by decide +kernel
theorem isOk_tuple_tuple : isOk "tuple" "tuple" = true := by decide +kernel
theorem isOk_tuple_list : isOk "tuple" "list" = true := by decide +kernel
theorem isOk_dict_dict : isOk "dict" "dict" = true := by decide +kernel
theorem isOk_none_int : isOk "NoneType" "int" = true := by decide +kernel
theorem isOk_none_bool : isOk "NoneType" "bool" = true := by decide +kernel
end

/-! ### loops -/
/-- the loop itself, behind the making of its iterator: not opened by simp -/
def forK (J : It) (g : TG) (tb : TS) (D : Ends) (σ : L2.St) (H : Hp) : Prop :=
  ∃ W : Nat → Nat → L2.St → Hp → Prop, (∃ m, W 0 m σ H) ∧ ∀ i m σ H, W i m σ H →
    (J.stop i H ∧ D.nx σ H) ∨ (J.go i H ∧ ∃ N : L2.St → Hp → Prop, (∀ σ' H', N σ' H' → ∃ m', m' < m ∧ W (i + 1) m' σ' H') ∧ ∀ x H', J.yld i H x H' → g x σ H' fun σ2 H2 => tb { D with nx := N, ct := N, bk := D.nx } σ2 H2)
def uFor (wi : TI) (g : TG) (tb : TS) : TS := fun D σ H => wi σ H fun J H1 => forK J g tb D σ H1
theorem for_rng {lo : Int} {n : Nat} {g : TG} {tb : TS} {D : Ends} {σ : L2.St} {H : Hp} (Pv : Nat → L2.St → Hp → Prop) (h0 : Pv 0 σ H)
    (hs : ∀ i σ H, i < n → Pv i σ H → g (.int (lo + i)) σ H fun σ2 H2 => tb { D with nx := Pv (i + 1), ct := Pv (i + 1), bk := D.nx } σ2 H2) (hd : ∀ σ H, Pv n σ H → D.nx σ H) : forK (Itr lo n) g tb D σ H := for_range Pv h0 hs hd
theorem for_lst {K : Frag} {a : Addr} {xs : List V} {g : TG} {tb : TS} {D : Ends} {σ : L2.St} {H : Hp} (Pv : Nat → L2.St → Hp → Prop) (h0 : Pv 0 σ H) (hl : ∀ i σ H, i ≤ xs.length → Pv i σ H → SqL K H a xs)
    (hs : ∀ i x σ H, xs[i]? = some x → Pv i σ H → g x σ H fun σ2 H2 => tb { D with nx := Pv (i + 1), ct := Pv (i + 1), bk := D.nx } σ2 H2) (hd : ∀ σ H, Pv xs.length σ H → D.nx σ H) : forK (Itl K a) g tb D σ H := for_list Pv h0 hl hs hd
/-- while: what holds, by a measure -/
def uWhile (c : TT) (tb : TS) : TS := fun D σ H => ∃ W : Nat → L2.St → Hp → Prop, (∃ m, W m σ H) ∧ ∀ m σ H, W m σ H →
  c σ H fun b H1 => if b = true then tb { D with nx := fun σ' H' => ∃ m', m' < m ∧ W m' σ' H', ct := fun σ' H' => ∃ m', m' < m ∧ W m' σ' H', bk := D.nx } σ H1 else D.nx σ H1
section
variable {X : Cx}
theorem k_for {tg iter : Expr} {body : List Stmt} {wi : TI} {g : TG} {tb : TS} {pos : Pos} (hp : PassesOwn (model X.prog X.w) X.A X.env X.xe) (hc : X.calm = true) (hi : PI X tg iter wi) (hg : PG X tg g) (hb : PSs X body tb)
    (hs : ∀ x, foldedSetIterable iter X.env x = pure x := by intro _; rfl) : PS X (.For tg iter body [] pos) (uFor wi g tb) := ⟨(ps_for hp hc hi hg hb hs).run⟩
theorem k_while {c : Expr} {body : List Stmt} {tc : TT} {tb : TS} {pos : Pos} (hp : PassesOwn (model X.prog X.w) X.A X.env X.xe) (hc : PT X c tc) (hb : PSs X body tb) : PS X (.While c body [] pos) (uWhile tc tb) := by
  refine ⟨fun pins s σ H D I h => ?_⟩
  obtain ⟨W, ⟨m0, w0⟩, turn⟩ := h
  refine wpAny_While (codeAny_whileLoop (fun n s' => ∃ σ' H', Inv X pins σ' H' s' ∧ W n σ' H') ?_ m0 ⟨σ, H, I, w0⟩)
  rintro n s1 ⟨σ1, H1, I1, w1⟩
  refine wpAny_passesOwn hp (thn (hc.run pins s1 σ1 H1 _ I1 (turn n σ1 H1 w1)) fun b s2 ⟨H2, I2, q2⟩ => ?_)
  cases b with
  | true =>
    rw [if_pos rfl] at q2
    rw [if_pos rfl]
    refine wpAny_passesOwn hp (thn (hb.run pins s2 σ1 H2 _ I2 q2) fun f s3 q3 => ?_)
    cases f with
    | next =>
      obtain ⟨σ3, H3, I3, m', hm, w3⟩ := q3
      exact ⟨m', hm, σ3, H3, I3, w3⟩
    | cont =>
      obtain ⟨σ3, H3, I3, m', hm, w3⟩ := q3
      exact ⟨m', hm, σ3, H3, I3, w3⟩
    | brk => exact q3
    | ret v => exact q3
  | false =>
    rw [if_neg Bool.false_ne_true] at q2
    rw [if_neg Bool.false_ne_true]
    exact wpAny_execs_nil ⟨σ1, H2, I2, q2⟩

/-! ### defs of the text, called by their names -/
/-- the def x of the module keeps the promise sp, at level k; ps its parameters, dvs the defaults that a call leaves open -/
structure Cal (P : Program) (w : World) (K : Frag) (mg : Str → Option Value) (base : Heap) (k : Nat) (x : Str) (sp : Sp) : Prop where
  ex : ∃ (f : Addr) (fd : FuncData) (ps : List Str), mg x = some (.ref f) ∧ PySem.W.keepIn K (.ref f) = true ∧ Binds K fd ps [] ∧ FnOk P w K mg base (L2N.CX P w) k f fd ps sp
def uCall (sp : Sp) (t : TA) : TE := fun σ H Q => t σ H fun vs H1 => sp vs H1 Q E0
theorem passAt0 {σ : L2.St} : PassesAt (L2N.CX X.prog X.w) X σ E0 := fun _ _ _ _ _ _ h => by
  obtain ⟨_, _, _, _, _, _, _, _, _, _, _, _, z⟩ := h
  exact z.elim
section
variable {k : Nat} {x : Str} {sp : Sp} {p pos : Pos} {e : Expr} {es : List Expr} {t : TA}
/-- f(e, ..), f a def that raises nothing here -/
theorem kc (c : Cal X.prog X.w X.K X.mg X.base k x sp) (hr : Room k X.A) (ha : PA X (e :: es) t) (hg : Gl X x := by rfl) (hdb : (x == ("__debug__" : Str)) = false := by decide)
    (he : starEach (e :: es) X.env = (false, eval e X.env) :: starEach es X.env := by rfl) (hpl : (backTo pos (starEach es X.env)).any (·.1) = false := by rfl) : PE X (.Call (.Name x p) (e :: es) [] pos) (uCall sp t) := by
  obtain ⟨f, fd, ps, hm, hk, hb, F⟩ := c.ex
  exact pe_callS F hr hg hm hk hb (fun _ => passAt0) ha hdb he hpl
theorem kc0 (c : Cal X.prog X.w X.K X.mg X.base k x sp) (hr : Room k X.A) (hg : Gl X x := by rfl) (hdb : (x == ("__debug__" : Str)) = false := by decide) : PE X (.Call (.Name x p) [] [] pos) (uCall sp tNil) := by
  obtain ⟨f, fd, ps, hm, hk, hb, F⟩ := c.ex
  refine ⟨fun pins s σ H Q I h => ?_⟩
  refine wpAny_Call_Name_kw (ld_glob I hg hm ?_ hdb)
  exact PySem.W.callWith_K0 I.kIn hk (run_fnS (E := fun _ => E0) F hr hb passAt0 I .nil h)
/-- f(e, ..), f a def that may raise: W is what is wanted of it -/
theorem kcX {W : WX} (tk : L2N.Takes X W) (c : Cal X.prog X.w X.K X.mg X.base k x sp) (hr : Room k X.A) (ha : PA X (e :: es) t) (hg : Gl X x := by rfl) (hdb : (x == ("__debug__" : Str)) = false := by decide)
    (he : starEach (e :: es) X.env = (false, eval e X.env) :: starEach es X.env := by rfl) (hpl : (backTo pos (starEach es X.env)).any (·.1) = false := by rfl) : PE X (.Call (.Name x p) (e :: es) [] pos) (tCallS sp (WE W) t) := by
  obtain ⟨f, fd, ps, hm, hk, hb, F⟩ := c.ex
  exact pe_callS F hr hg hm hk hb (fun σ => L2N.passAt tk σ) ha hdb he hpl
end
end
/-- a def of the text, with what binds its arguments -/
structure DefAt (K : Frag) (mg : Str → Option Value) (x qual : Str) (st : Stmt) (ps : List Str) : Prop where
  ex : ∃ (f : Addr) (fd : FuncData), mg x = some (.ref f) ∧ Fun K x qual st f fd ∧ Binds K fd ps []
section
variable {P : Program} {w : World} {K : Frag} {mg : Str → Option Value} {base : Heap}
theorem DefAt.ok {x qual : Str} {st : Stmt} {N ps : List Str} {k : Nat} {sp : Sp} (D : DefAt K mg x qual st ps) (S : FnScope N ps (defScope st)) (len : ∀ vs H Q E, sp vs H Q E → vs.length = ps.length)
    (hbody : ∀ (f : Addr) (cdv : Value) (A : Around) (outer : List Env) (s : Shared) (H : Hp) (vs : List V) (Q : VK) (E : XK), Room k (A.deeper (envOfC qual (defScope st) s.heap.objs.size f cdv)) → sp vs H Q E →
      ∃ t, PSs (cxOf (L2N.CX P w) P w K mg base N qual (defScope st) f cdv A outer s H E) (defBody st) t ∧ t { nx := fun _ H' => Q .non H', rt := Q } (start N vs) H) : Cal P w K mg base (k + 1) x sp := by
  obtain ⟨f, fd, hm, F, hb⟩ := D.ex
  refine ⟨f, fd, ps, hm, F.kp, hb, ?_⟩
  obtain ⟨oc, od, kV, doc, pm, an, cdv, ct, osl, rfl, lk, hcd⟩ := F.ex
  exact fn_of lk hcd S len fun A outer s H vs Q E hr hsp => hbody f cdv A outer s H vs Q E hr hsp
theorem Cal.mono {j k : Nat} {x : Str} {sp : Sp} (c : Cal P w K mg base j x sp) (h : j ≤ k) : Cal P w K mg base k x sp := by
  obtain ⟨f, fd, ps, hm, hk, hb, F⟩ := c.ex
  exact ⟨f, fd, ps, hm, hk, hb, F.mono h⟩
end
end KW
namespace KW
open PySem PySem.Spec PyProof.Rows L2
/-- the module's name x holds the constant v -/
def GV (mg : Str → Option Value) (x : Str) (v : V) : Prop := ∃ u, mg x = some u ∧ RelV v u
theorem k_g {X : Cx} {x : Str} {v : V} {pos : Pos} (h : GV X.mg x v) (hg : Gl X x := by rfl) (hd : (x == ("__debug__" : Str)) = false := by decide) : PE X (.Name x pos) (tC v) := by
  obtain ⟨u, hm, r⟩ := h
  exact pe_glob hg hm r hd
/-- an object that stands by itself may be changed while all else stands -/
def But (a : Addr) (H H' : Hp) : Prop := ∀ b o, b ≠ a → H b = some o → H' b = some o
theorem But.refl {a : Addr} (H : Hp) : But a H H := fun _ _ _ h => h
theorem But.trans {a : Addr} {H H1 H2 : Hp} (x : But a H H1) (y : But a H1 H2) : But a H H2 := fun b o n h => y b o n (x b o n h)
theorem But.upd {a : Addr} {H : Hp} {o : HO} : But a H (upd H a o) := fun b _ n h => by rw [upd_ne n]; exact h
theorem But.seq {a b : Addr} {K : Frag} {H H' : Hp} {xs : List V} (e : But a H H') (n : b ≠ a) (h : SqL K H b xs) : SqL K H' b xs := by
  rcases h with (h | ⟨o, h⟩) | h
  · exact .inl (.inl (e _ _ n h))
  · exact .inl (.inr ⟨o, e _ _ n h⟩)
  · exact .inr h
end KW
namespace KW
open PySem PySem.Spec PyProof.Rows L2
/-! ### reads and stores of lists and tuples: by lemmas, not by simp -/
section
variable {K : Frag} {H : Hp} {p : Addr} {xs : List V} {i : Int} {v : V} {Q : VK}
theorem ix_l (h : H p = some (.lst xs)) (e : atI xs i = some v) (q : Q v H) : uIx K (.ref p) (.int i) H Q := ⟨xs, v, .inl (.of h), e, q⟩
theorem ix_t (h : H p = some (.tup xs)) (e : atI xs i = some v) (q : Q v H) : uIx K (.ref p) (.int i) H Q := ⟨xs, v, .inr (.of h), e, q⟩
theorem ix_sl (h : SqL K H p xs) (e : atI xs i = some v) (q : Q v H) : uIx K (.ref p) (.int i) H Q := ⟨xs, v, .inl h, e, q⟩
theorem ix_st (h : SqT K H p xs) (e : atI xs i = some v) (q : Q v H) : uIx K (.ref p) (.int i) H Q := ⟨xs, v, .inr h, e, q⟩
theorem len_l (h : H p = some (.lst xs)) (q : Q (.int xs.length) H) : uLen K [.ref p] H Q := ⟨xs, .inl (.of h), q⟩
theorem len_t (h : H p = some (.tup xs)) (q : Q (.int xs.length) H) : uLen K [.ref p] H Q := ⟨xs, .inr (.of h), q⟩
theorem len_sl (h : SqL K H p xs) (q : Q (.int xs.length) H) : uLen K [.ref p] H Q := ⟨xs, .inl h, q⟩
theorem len_st (h : SqT K H p xs) (q : Q (.int xs.length) H) : uLen K [.ref p] H Q := ⟨xs, .inr h, q⟩
end
/-- o[i] = v -/
def uSet : TSet
  | .ref p, .int k, v, H, Q => ∃ xs j, H p = some (.lst xs) ∧ ixN xs.length k = some j ∧ Q (upd H p (.lst (xs.set j v)))
  | _, _, _, _, _ => False
theorem s_set {X : Cx} : PSet X uSet := fun pins s σ H o i v ov iv u Q I ro ri rv h => by
  unfold uSet at h
  split at h
  · obtain ⟨xs, j, h1, h2, q⟩ := h
    exact set_list pins s σ H _ _ _ ov iv u Q I ro ri rv ⟨_, xs, _, j, rfl, rfl, h1, h2, q⟩
  · exact h.elim
theorem set_l {H : Hp} {p : Addr} {xs : List V} {k : Int} {j : Nat} {v : V} {Q : Hp → Prop} (h : H p = some (.lst xs)) (e : ixN xs.length k = some j) (q : Q (upd H p (.lst (xs.set j v)))) : uSet (.ref p) (.int k) v H Q := ⟨xs, j, h, e, q⟩
end KW
namespace KW
open PySem PySem.Spec PyProof.Rows L2
theorem le_line {n : Nat} (h : n ≤ 16000000) : n ≤ sizeLine := by rw [sizeLine_eq]; omega
theorem lt_line {n : Nat} (h : n ≤ 16000000) : n < sizeLine := by rw [sizeLine_eq]; omega
theorem mul_l {i j : Int} (h : -18446744073709551616 < i ∧ i < 18446744073709551616) : CMul i j ∨ CMulW i j := .inl (.inl ⟨by omega, by omega⟩)
theorem mul_r {i j : Int} (h : -18446744073709551616 < j ∧ j < 18446744073709551616) : CMul i j ∨ CMulW i j := .inl (.inr ⟨by omega, by omega⟩)
theorem div_s {i j : Int} (h : 0 < j ∧ j < 1073741824) : CDiv i j ∨ CDivW i j := .inl h
theorem pow_s {i j : Int} (h : 0 ≤ j ∧ j ≤ 1000000 ∧ -18446744073709551616 < i ∧ i < 18446744073709551616) : CPow i j := ⟨h.1, h.2.1, by omega⟩
end KW
namespace KW
open PySem PySem.Spec PyProof.Rows L2
theorem But.new {st p : Addr} {H : Hp} {o : HO} (h : H p = none) : But st H (L2.upd H p o) := fun b u _ e => by rw [upd_ne (ne_of_none e h)]; exact e
theorem SqL.new {K : Frag} {H : Hp} {sc p : Addr} {o : HO} {xs : List V} (h : H p = none) (hS : SqL K H sc xs) : SqL K (upd H p o) sc xs := by
  rcases hS with (q | ⟨o, q⟩) | q
  · exact .inl (.inl (by rw [upd_ne (ne_of_none q h)]; exact q))
  · exact .inl (.inr ⟨o, by rw [upd_ne (ne_of_none q h)]; exact q⟩)
  · exact .inr q
theorem atI_int {α : Type} {xs : List α} {r : Int} (h0 : 0 ≤ r) (h1 : r < xs.length) : ∃ v, xs[r.toNat]? = some v ∧ atI xs r = some v := by
  obtain ⟨j, rfl⟩ := Int.eq_ofNat_of_zero_le h0
  have h : j < xs.length := by omega
  exact ⟨xs[j], List.getElem?_eq_getElem h, atI_nat (List.getElem?_eq_getElem h)⟩
end KW
namespace KW
open PySem PySem.Spec PyProof.Rows L2
theorem tup_l {K : Frag} {n : Nat} {t : TGs} {a : Addr} {xs : List V} {σ : L2.St} {H : Hp} {Q : L2.St → Hp → Prop} (h : H a = some (.tup xs)) (hn : xs.length = n) (q : t xs σ H Q) : gTup K n t (.ref a) σ H Q := ⟨a, xs, rfl, .of h, hn, q⟩
theorem tup_s {K : Frag} {n : Nat} {t : TGs} {a : Addr} {xs : List V} {σ : L2.St} {H : Hp} {Q : L2.St → Hp → Prop} (h : SqT K H a xs) (hn : xs.length = n) (q : t xs σ H Q) : gTup K n t (.ref a) σ H Q := ⟨a, xs, rfl, h, hn, q⟩
end KW
namespace KW
open PySem PySem.Spec PyProof.Rows L2
section
variable {P : Program} {w : World} {K : Frag} {mg : Str → Option Value} {base : Heap}
theorem DefAt.fn {x qual : Str} {st : Stmt} {N ps : List Str} {k : Nat} {sp : Sp} (S : FnScope N ps (defScope st)) (len : ∀ vs H Q E, sp vs H Q E → vs.length = ps.length)
    (hbody : ∀ (f : Addr) (cdv : Value) (A : Around) (outer : List Env) (s : Shared) (H : Hp) (vs : List V) (Q : VK) (E : XK), Room k (A.deeper (envOfC qual (defScope st) s.heap.objs.size f cdv)) → sp vs H Q E →
      ∃ t, PSs (cxOf (L2N.CX P w) P w K mg base N qual (defScope st) f cdv A outer s H E) (defBody st) t ∧ t { nx := fun _ H' => Q .non H', rt := Q } (start N vs) H) :
    ∀ f fd, Fun K x qual st f fd → FnOk P w K mg base (L2N.CX P w) (k + 1) f fd ps sp := by
  intro f fd F
  obtain ⟨oc, od, kV, doc, pm, an, cdv, ct, osl, rfl, lk, hcd⟩ := F.ex
  exact fn_of lk hcd S len fun A outer s H vs Q E hr hsp => hbody f cdv A outer s H vs Q E hr hsp
theorem defAt_mk {x qual : Str} {st : Stmt} {ps : List Str} {h : Heap} {f : Addr} {oc : Value} {od an : Option Addr} {osl : Array (Option Value)} {kV doc pm cdv ct : Value}
    (X : K.In h) (G : h.Ns mainGlobals mg) (a : PySem.W.nsIn K mainGlobals x = some (some (.ref f)))
    (l : K.lookup f = some ⟨oc, od, .func (PySem.W.fnOf x qual (defArgs st) (defBody st) (defScope st) .none kV doc pm an cdv ct), osl⟩) (c : PySem.W.codeIn K cdv qual = true) (k : PySem.W.keepIn K (.ref f) = true)
    (hb : ∀ (kV doc pm : Value) (an : Option Addr) (cdv ct : Value) (us : List Value), us.length = ps.length → bindArgs (PySem.W.fnOf x qual (defArgs st) (defBody st) (defScope st) .none kV doc pm an cdv ct) ⟨us, []⟩ = pure (ps.zip us)) : DefAt K mg x qual st ps := by
  have F := fun_mk (st := st) l c k
  exact ⟨f, _, PySem.W.mg_of X G a, F, F.binds hb⟩
theorem gv_mk {x : Str} {v : V} {u : Value} {h : Heap} (X : K.In h) (G : h.Ns mainGlobals mg) (a : PySem.W.nsIn K mainGlobals x = some (some u)) (r : RelV v u) : GV mg x v := ⟨u, PySem.W.mg_of X G a, r⟩
/-- the law's promise: True for every list of at most 63 ints -/
def sp_law63 (K : Frag) : Sp := fun vs H Q _ => ∃ (sc : Addr) (ns : List Int), vs = [.ref sc] ∧ SqL K H sc (ns.map .int) ∧ ns.length ≤ 63 ∧ ∀ H', Q (.bl true) H'
end
theorem CX_none {P : Program} {w : World} {l : List Env} {H : Hp} {s : Shared} {e : Value} {s' : Shared} (h : L2N.CX P w l H s (fun _ _ _ => False) e s') : False := by
  obtain ⟨_, _, _, _, _, _, _, _, _, _, _, _, z⟩ := h
  exact z.elim
theorem walk63 {l : PySem.W.OpenLaw} {k : Nat} {st : Stmt} {q : Program} {loose : List Str} {XP : (Str → Option Value) → Heap → Prop} {YP : World → Heap → Prop} {d : DefRec} {K : Params → PySem.W.Frag} (hn : l.most = some 63) (hdf : d.params.defaults = []) (hd : d.name = "law") (hr : Room k callerA)
    (hY : ∀ (w : World) (h : Heap), YP w h → (K w.params).In h)
    (hb : ∀ (kV doc pm : Value) (an : Option Addr) (cdv ct : Value) (us : List Value), us.length = ["script"].length → bindArgs (PySem.W.fnOf "law" "law" (defArgs st) (defBody st) (defScope st) .none kV doc pm an cdv ct) ⟨us, []⟩ = pure ((["script"] : List Str).zip us))
    (F : ∀ (w : World) (mg : Str → Option Value) (h : Heap), (K w.params).In h → h.Ns mainGlobals mg →
      DefAt (K w.params) mg "law" "law" st ["script"] ∧ ∀ base f fd, Fun (K w.params) "law" "law" st f fd → FnOk l.prog w (K w.params) mg base (L2N.CX l.prog w) k f fd ["script"] (sp_law63 (K w.params))) :
    PySem.W.WalkO q loose XP YP l.row.toRowW d [] (fun f vs => PySem.call f vs) := by
  refine L2.walk_of (n := 63) (k := k) (x := "script") (CX := fun w => L2N.CX l.prog w) (sp := fun w => sp_law63 (K w.params)) hn (by decide) hdf hr hY ?_ (fun _ _ a ns hl _ hS => ⟨a, ns, rfl, hS, hl, fun _ => rfl⟩) fun _ _ _ _ _ h => CX_none h
  intro w mg fa h KX G hmg
  obtain ⟨D, ok⟩ := F w mg h KX G
  obtain ⟨f, fd, hm, Fu, _⟩ := D.ex
  rw [hd, hm] at hmg
  cases hmg
  have Fu' := Fu
  obtain ⟨oc, od, kV, doc, pm, an, cdv, ct, osl, rfl, lk, hcd⟩ := Fu.ex
  exact ⟨_, fun s u => .of_eq (hb kV doc pm an cdv ct [u] rfl), fun base _ _ => ok base _ _ Fu'⟩
end KW
/-! ### case lemmas -/
namespace KW
open PySem PySem.Spec PyProof.Rows L2
theorem uAdd_e1 {K : Frag} {i : Int} {j : Int} {H : Hp} {Q : VK} : uAdd K (.int i) (.int j) H Q = (Q (.int (i + j)) H) := rfl
theorem uAdd_e2 {K : Frag} {i : Str} {j : Str} {H : Hp} {Q : VK} : uAdd K (.str i) (.str j) H Q = (i.length + j.length ≤ sizeLine ∧ Q (.str (i ++ j)) H) := rfl
theorem uAdd_e3 {K : Frag} {a : Addr} {b : Addr} {H : Hp} {Q : VK} : uAdd K (.ref a) (.ref b) H Q = (rCat (.ref a) (.ref b) H Q ∨ rCatT K (.ref a) (.ref b) H Q) := rfl
theorem uSub_e1 {i : Int} {j : Int} {H : Hp} {Q : VK} : uSub (.int i) (.int j) H Q = (Q (.int (i - j)) H) := rfl
theorem uMul_e1 {i : Int} {j : Int} {H : Hp} {Q : VK} : uMul (.int i) (.int j) H Q = ((CMul i j ∨ CMulW i j) ∧ Q (.int (i * j)) H) := rfl
theorem uMul_e2 {l : Addr} {k : Int} {H : Hp} {Q : VK} : uMul (.ref l) (.int k) H Q = (rRep (.ref l) (.int k) H Q) := rfl
theorem uMod_e1 {i : Int} {j : Int} {H : Hp} {Q : VK} : uMod (.int i) (.int j) H Q = (0 < j ∧ Q (.int (i % j)) H) := rfl
theorem uDiv_e1 {i : Int} {j : Int} {H : Hp} {Q : VK} : uDiv (.int i) (.int j) H Q = ((CDiv i j ∨ CDivW i j) ∧ Q (.int (i / j)) H) := rfl
theorem uPow_e1 {i : Int} {j : Int} {H : Hp} {Q : VK} : uPow (.int i) (.int j) H Q = (CPow i j ∧ Q (.int (i ^ j.toNat)) H) := rfl
theorem uShl_e1 {i : Int} {j : Int} {H : Hp} {Q : VK} : uShl (.int i) (.int j) H Q = (CPow i j ∧ Q (.int (i * 2 ^ j.toNat)) H) := rfl
theorem uNeg_e1 {i : Int} {H : Hp} {Q : VK} : uNeg (.int i) H Q = (Q (.int (-i)) H) := rfl
theorem uIAdd_e1 {i : Int} {j : Int} {H : Hp} {Q : VK} : uIAdd (.int i) (.int j) H Q = (Q (.int (i + j)) H) := rfl
theorem uIAdd_e2 {i : Str} {j : Str} {H : Hp} {Q : VK} : uIAdd (.str i) (.str j) H Q = (i.length + j.length ≤ sizeLine ∧ Q (.str (i ++ j)) H) := rfl
theorem uIAdd_e3 {a : Addr} {b : Addr} {H : Hp} {Q : VK} : uIAdd (.ref a) (.ref b) H Q = (rExt2 (.ref a) (.ref b) H Q) := rfl
theorem uISub_e1 {i : Int} {j : Int} {H : Hp} {Q : VK} : uISub (.int i) (.int j) H Q = (Q (.int (i - j)) H) := rfl
theorem uLt_e1 {i : Int} {j : Int} {H : Hp} {Q : VK} : uLt (.int i) (.int j) H Q = (Q (.bl (decide (i < j))) H) := rfl
theorem uLt_e2 {i : Str} {j : Str} {H : Hp} {Q : VK} : uLt (.str i) (.str j) H Q = (Q (.bl (decide (i.cps.toList < j.cps.toList))) H) := rfl
theorem uLe_e1 {i : Int} {j : Int} {H : Hp} {Q : VK} : uLe (.int i) (.int j) H Q = (Q (.bl (decide (i ≤ j))) H) := rfl
theorem uGt_e1 {i : Int} {j : Int} {H : Hp} {Q : VK} : uGt (.int i) (.int j) H Q = (Q (.bl (decide (j < i))) H) := rfl
theorem uGe_e1 {i : Int} {j : Int} {H : Hp} {Q : VK} : uGe (.int i) (.int j) H Q = (Q (.bl (decide (j ≤ i))) H) := rfl
theorem uEq_e1 {K : Frag} {i : Int} {j : Int} {H : Hp} {Q : VK} : uEq K (.int i) (.int j) H Q = (Q (.bl (decide (i = j))) H) := rfl
theorem uEq_e2 {K : Frag} {i : Str} {j : Str} {H : Hp} {Q : VK} : uEq K (.str i) (.str j) H Q = (Q (.bl (decide (i = j))) H) := rfl
theorem uEq_e3 {K : Frag} {i : Bool} {j : Bool} {H : Hp} {Q : VK} : uEq K (.bl i) (.bl j) H Q = (Q (.bl (decide (i = j))) H) := rfl
theorem uEq_e4 {K : Frag} {H : Hp} {Q : VK} : uEq K (.non) (.non) H Q = (Q (.bl true) H) := rfl
theorem uEq_e5 {K : Frag} {w1 : Int} {w2 : Str} {H : Hp} {Q : VK} : uEq K (.int w1) (.str w2) H Q = (Q (.bl false) H) := rfl
theorem uEq_e6 {K : Frag} {w1 : Str} {w2 : Int} {H : Hp} {Q : VK} : uEq K (.str w1) (.int w2) H Q = (Q (.bl false) H) := rfl
theorem uEq_e7 {K : Frag} {w1 : Int} {H : Hp} {Q : VK} : uEq K (.int w1) (.non) H Q = (Q (.bl false) H) := rfl
theorem uEq_e8 {K : Frag} {w1 : Int} {H : Hp} {Q : VK} : uEq K (.non) (.int w1) H Q = (Q (.bl false) H) := rfl
theorem uEq_e9 {K : Frag} {w1 : Str} {H : Hp} {Q : VK} : uEq K (.str w1) (.non) H Q = (Q (.bl false) H) := rfl
theorem uEq_e10 {K : Frag} {w1 : Str} {H : Hp} {Q : VK} : uEq K (.non) (.str w1) H Q = (Q (.bl false) H) := rfl
theorem uEq_e11 {K : Frag} {a : Addr} {b : Addr} {H : Hp} {Q : VK} : uEq K (.ref a) (.ref b) H Q = (rEqD K (.ref a) (.ref b) H Q) := rfl
theorem uNe_e1 {K : Frag} {i : Int} {j : Int} {H : Hp} {Q : VK} : uNe K (.int i) (.int j) H Q = (Q (.bl (!decide (i = j))) H) := rfl
theorem uNe_e2 {K : Frag} {i : Str} {j : Str} {H : Hp} {Q : VK} : uNe K (.str i) (.str j) H Q = (Q (.bl (!decide (i = j))) H) := rfl
theorem uNe_e3 {K : Frag} {i : Bool} {j : Bool} {H : Hp} {Q : VK} : uNe K (.bl i) (.bl j) H Q = (Q (.bl (!decide (i = j))) H) := rfl
theorem uNe_e4 {K : Frag} {H : Hp} {Q : VK} : uNe K (.non) (.non) H Q = (Q (.bl false) H) := rfl
theorem uNe_e5 {K : Frag} {w1 : Int} {w2 : Str} {H : Hp} {Q : VK} : uNe K (.int w1) (.str w2) H Q = (Q (.bl true) H) := rfl
theorem uNe_e6 {K : Frag} {w1 : Str} {w2 : Int} {H : Hp} {Q : VK} : uNe K (.str w1) (.int w2) H Q = (Q (.bl true) H) := rfl
theorem uNe_e7 {K : Frag} {w1 : Int} {H : Hp} {Q : VK} : uNe K (.int w1) (.non) H Q = (Q (.bl true) H) := rfl
theorem uNe_e8 {K : Frag} {w1 : Int} {H : Hp} {Q : VK} : uNe K (.non) (.int w1) H Q = (Q (.bl true) H) := rfl
theorem uNe_e9 {K : Frag} {w1 : Str} {H : Hp} {Q : VK} : uNe K (.str w1) (.non) H Q = (Q (.bl true) H) := rfl
theorem uNe_e10 {K : Frag} {w1 : Str} {H : Hp} {Q : VK} : uNe K (.non) (.str w1) H Q = (Q (.bl true) H) := rfl
theorem uNe_e11 {K : Frag} {a : Addr} {b : Addr} {H : Hp} {Q : VK} : uNe K (.ref a) (.ref b) H Q = (rNeD K (.ref a) (.ref b) H Q) := rfl
theorem uIs_e1 {H : Hp} {Q : VK} : uIs (.non) (.non) H Q = (Q (.bl true) H) := rfl
theorem uIs_e2 {w1 : Int} {H : Hp} {Q : VK} : uIs (.int w1) (.non) H Q = (Q (.bl false) H) := rfl
theorem uIs_e3 {w1 : Str} {H : Hp} {Q : VK} : uIs (.str w1) (.non) H Q = (Q (.bl false) H) := rfl
theorem uIs_e4 {w1 : Addr} {H : Hp} {Q : VK} : uIs (.ref w1) (.non) H Q = (Q (.bl false) H) := rfl
theorem uIs_e5 {w1 : Bool} {H : Hp} {Q : VK} : uIs (.bl w1) (.non) H Q = (Q (.bl false) H) := rfl
theorem uIs_e6 {a : Bool} {b : Bool} {H : Hp} {Q : VK} : uIs (.bl a) (.bl b) H Q = (Q (.bl (decide (a = b))) H) := rfl
theorem uNotIs_e1 {H : Hp} {Q : VK} : uNotIs (.non) (.non) H Q = (Q (.bl false) H) := rfl
theorem uNotIs_e2 {w1 : Int} {H : Hp} {Q : VK} : uNotIs (.int w1) (.non) H Q = (Q (.bl true) H) := rfl
theorem uNotIs_e3 {w1 : Str} {H : Hp} {Q : VK} : uNotIs (.str w1) (.non) H Q = (Q (.bl true) H) := rfl
theorem uNotIs_e4 {w1 : Addr} {H : Hp} {Q : VK} : uNotIs (.ref w1) (.non) H Q = (Q (.bl true) H) := rfl
theorem uNotIs_e5 {w1 : Bool} {H : Hp} {Q : VK} : uNotIs (.bl w1) (.non) H Q = (Q (.bl true) H) := rfl
theorem uNotIs_e6 {a : Bool} {b : Bool} {H : Hp} {Q : VK} : uNotIs (.bl a) (.bl b) H Q = (Q (.bl (!decide (a = b))) H) := rfl
theorem uIn_e1 {K : Frag} {i : Str} {j : Str} {H : Hp} {Q : VK} : uIn K (.str i) (.str j) H Q = (Q (.bl (subStr i j)) H) := rfl
theorem uIn_e2 {K : Frag} {i : Int} {p : Addr} {H : Hp} {Q : VK} : uIn K (.int i) (.ref p) H Q = (rIn K false (.int i) (.ref p) H Q) := rfl
theorem uIn_e3 {K : Frag} {i : Str} {p : Addr} {H : Hp} {Q : VK} : uIn K (.str i) (.ref p) H Q = (rIn K false (.str i) (.ref p) H Q) := rfl
theorem uIn_e4 {K : Frag} {p : Addr} {H : Hp} {Q : VK} : uIn K (.non) (.ref p) H Q = (rIn K false .non (.ref p) H Q) := rfl
theorem uNotIn_e1 {K : Frag} {i : Str} {j : Str} {H : Hp} {Q : VK} : uNotIn K (.str i) (.str j) H Q = (Q (.bl (!subStr i j)) H) := rfl
theorem uNotIn_e2 {K : Frag} {i : Int} {p : Addr} {H : Hp} {Q : VK} : uNotIn K (.int i) (.ref p) H Q = (rIn K true (.int i) (.ref p) H Q) := rfl
theorem uNotIn_e3 {K : Frag} {i : Str} {p : Addr} {H : Hp} {Q : VK} : uNotIn K (.str i) (.ref p) H Q = (rIn K true (.str i) (.ref p) H Q) := rfl
theorem uNotIn_e4 {K : Frag} {p : Addr} {H : Hp} {Q : VK} : uNotIn K (.non) (.ref p) H Q = (rIn K true .non (.ref p) H Q) := rfl
theorem uTru_e1 {K : Frag} {w1 : Hp} {k : Bool → Prop} : uTru K (.non) w1 k = (k false) := rfl
theorem uTru_e2 {K : Frag} {b : Bool} {w1 : Hp} {k : Bool → Prop} : uTru K (.bl b) w1 k = (k b) := rfl
theorem uTru_e3 {K : Frag} {i : Int} {w1 : Hp} {k : Bool → Prop} : uTru K (.int i) w1 k = (k (i != 0)) := rfl
theorem uTru_e4 {K : Frag} {y : Str} {w1 : Hp} {k : Bool → Prop} : uTru K (.str y) w1 k = (y.length ≤ sizeLine ∧ k ((y.length : Int) != 0)) := rfl
theorem uTru_e5 {K : Frag} {p : Addr} {H : Hp} {k : Bool → Prop} : uTru K (.ref p) H k = (∃ b, TruV K (.ref p) H b ∧ k b) := rfl
theorem uIx_e1 {K : Frag} {p : Addr} {i : Int} {H : Hp} {Q : VK} : uIx K (.ref p) (.int i) H Q = (∃ xs v, (SqL K H p xs ∨ SqT K H p xs) ∧ atI xs i = some v ∧ Q v H) := rfl
theorem uIx_e2 {K : Frag} {z : Str} {i : Int} {H : Hp} {Q : VK} : uIx K (.str z) (.int i) H Q = (z.length ≤ sizeLine ∧ ∃ c, atI z.cps.toList i = some c ∧ Q (.str (S [c])) H) := rfl
theorem uSl_e1 {K : Frag} {a : Addr} {lo : Option Int} {hi : Option Int} {H : Hp} {Q : VK} : uSl K (.ref a) lo hi H Q = (rSlL K (.ref a) lo hi H Q ∨ rSlT K (.ref a) lo hi H Q) := rfl
theorem uSl_e2 {K : Frag} {z : Str} {lo : Option Int} {hi : Option Int} {H : Hp} {Q : VK} : uSl K (.str z) lo hi H Q = (z.length ≤ sizeLine ∧ Q (.str (cutS z lo hi)) H) := rfl
theorem uLen_e1 {K : Frag} {y : Str} {H : Hp} {Q : VK} : uLen K [.str y] H Q = (y.length ≤ sizeLine ∧ Q (.int y.length) H) := rfl
theorem uLen_e2 {K : Frag} {p : Addr} {H : Hp} {Q : VK} : uLen K [.ref p] H Q = (∃ xs, (SqL K H p xs ∨ SqT K H p xs) ∧ Q (.int xs.length) H) := rfl
theorem uAbs_e1 {i : Int} {H : Hp} {Q : VK} : uAbs [.int i] H Q = (Q (.int (if i < 0 then -i else i)) H) := rfl
theorem uInt_e1 {i : Int} {H : Hp} {Q : VK} : uInt [.int i] H Q = (Q (.int i) H) := rfl
theorem uInt_e2 {k : Bool} {H : Hp} {Q : VK} : uInt [.bl k] H Q = (Q (.int (if k then 1 else 0)) H) := rfl
theorem uMin2_e1 {i : Int} {j : Int} {H : Hp} {Q : VK} : uMin2 [.int i, .int j] H Q = (Q (.int (if j < i then j else i)) H) := rfl
theorem uIsi_e1 {K : Frag} {n : String} {H : Hp} {Q : VK} : uIsi K [.non, .ty n] H Q = (isOk "NoneType" n = true ∧ Q (.bl (isK "NoneType" n)) H) := rfl
theorem uIsi_e2 {K : Frag} {w1 : Bool} {n : String} {H : Hp} {Q : VK} : uIsi K [.bl w1, .ty n] H Q = (isOk "bool" n = true ∧ Q (.bl (isK "bool" n)) H) := rfl
theorem uIsi_e3 {K : Frag} {w1 : Int} {n : String} {H : Hp} {Q : VK} : uIsi K [.int w1, .ty n] H Q = (isOk "int" n = true ∧ Q (.bl (isK "int" n)) H) := rfl
theorem uIsi_e4 {K : Frag} {w1 : Str} {n : String} {H : Hp} {Q : VK} : uIsi K [.str w1, .ty n] H Q = (isOk "str" n = true ∧ Q (.bl (isK "str" n)) H) := rfl
theorem uIsi_e5 {K : Frag} {p : Addr} {n : String} {H : Hp} {Q : VK} : uIsi K [.ref p, .ty n] H Q = (∃ T, TyX K H (.ref p) (.type T) ∧ isOk T n = true ∧ Q (.bl (isK T n)) H) := rfl
theorem cx_K {CX : CXT} {P : Program} {w : World} {K : Frag} {mg : Str → Option Value} {base : Heap} {N : List Str} {qual : Str} {scope : Scope} {f : Addr} {cd : Value} {A : Around} {outer : List Env} {s : Shared} {H : Hp} {E : XK} : (cxOf CX P w K mg base N qual scope f cd A outer s H E).K = K := rfl
theorem uVar_s {i : Nat} {σ : L2.St} {H : Hp} {Q : VK} {v : V} (h : σ[i]? = some (some v)) : uVar i σ H Q = Q v H := by unfold uVar; rw [h]
theorem uVar_0 {a : V} {l : L2.St} {H : Hp} {Q : VK} : uVar 0 (some a :: l) H Q = Q a H := rfl
theorem uVar_n {i : Nat} {a : Option V} {l : L2.St} {H : Hp} {Q : VK} : uVar (i + 1) (a :: l) H Q = uVar i l H Q := rfl
end KW

set_option Elab.async false
set_option linter.all false
set_option maxRecDepth 100000
set_option maxHeartbeats 4000000
/-! KErr: own exception classes whose __init__(self, f) says super().__init__(str(f)); self.f = f -/
namespace PySem
namespace KErr
open PySem.W PySem.Calls PyProof.Rows PySem.HandSPX
/-- str(v) is made: some text -/
def StrOk (prog : Program) (w : World) (v : Value) : Prop := ∀ (A : Around) (s : Shared) (Q : Value → Shared → Prop) (E : Value → Shared → Prop), A.handled = none → s.heap.NoDigits → (∀ txt tk k, Q (.str txt tk) { s with toks := k }) → wpAny (model prog w) A (call (.type "str") [v]) Q E s
theorem strOk_int {prog : Program} {w : World} {n : Int} {t : Tok} (h : n.natAbs < 10 ^ 4300) : StrOk prog w (.int n t) := fun A s Q E hh hn q => str_of_int_or hh hn (fun _ => q _ _ _) fun z => absurd h (Nat.not_lt.mpr z)
theorem one_size (v : Value) : [v].length ≤ sizeLine := by
  rw [sizeLine_eq]
  exact (by decide : 1 ≤ 16777216)
theorem kept_but {K : Frag} {h h' : Heap} {x : Addr} (X : K.In h) (hx : K.lookup x = none) (k : ∀ b o, b ≠ x → h.get? b = some o → h'.get? b = some o) : K.In h' := fun a o e =>
  k a o (fun z => by rw [z, hx] at e; cases e) (X a o e)
structure InitEnd (h h' : Heap) (x C dx t1 : Addr) (f : Str) (v : Value) : Prop where
  keep : ∀ b o, b ≠ x → h.get? b = some o → h'.get? b = some o
  obj : h'.get? x = some { cls := .ref C, dict := some dx, data := .fields #[.ref t1, .none, .none, .none, .bool false, .none] }
  dbig : h.objs.size ≤ dx
  dne : dx ≠ x
  ns : h'.Ns1 dx (fun y => if y = f then some v else none)
section
variable {prog : Program} {w : World} {A : Around} {E : Value → Shared → Prop} {h : Heap} {g : Array GenState} {d : Drawn} {t : Nat} {os : OsState}
variable {nm q : Str} {C N : Addr} {bs bm : List Value} {hdct : Bool} {sn : List Str} {sub : List Value} {ab : Bool} {col : Option Bool} {dd : Option Addr} {k0 k1 k2 k3 k5 : Option Value}
theorem init_call {u e t0 : Addr} {rest : List Value} {Q : Value → Shared → Prop}
    (hC : h.get? C = some (excClassObj nm q C N bs bm hdct sn sub ab col dd k0 k1 k2 k3 k5 "ValueError.__new__")) (he : h.get? e = some (excO C t0)) (hu : h.get? u = some (kxs_mw "ValueError.__init__" e)) (hrest : rest.length ≤ sizeLine)
    (hq : ∀ h' t1, (∀ b o, b ≠ e → h.get? b = some o → h'.get? b = some o) → h'.get? e = some (excO C t1) → Q .none ⟨h', g, d, t, os⟩) :
    wpAny (model prog w) A (call (.ref u) rest) Q E ⟨h, g, d, t, os⟩ := by
  have FB := F.excBase_ValueError
  refine wpAny_call (codeAny_of_tree ?_)
  show wpAny _ A.in1 (callAny (.ref u) ⟨rest, []⟩) _ _ _
  simp only [callAny]
  refine wpAny_bind (wpAny_load hu ?_)
  simp only [kxs_mw, show (Value.type "method-wrapper" == Value.type "method" || Value.type "method-wrapper" == Value.type "builtin_function_or_method" || Value.type "method-wrapper" == Value.type "method-wrapper") = true by decide, if_true]
  refine KFB.if_so (by decide) ?_
  refine wpAny_bind (check_bound_init FB.toExcCallFacts hC he rfl ?_)
  refine wpAny_bind (wpAny_pure (wpAny_pure ?_))
  refine ⟨plainId_quiet FB.init.plain _, codeAny_builtin FB.initEntry ?_⟩
  rw [Around.under_plainId FB.init.plain _]
  exact exc_init_tree (cls := .ref C) (t0 := t0) (dv := none) (c2 := .none) (c3 := .none) (b4 := .bool false) he hrest (fun h' k e' _ => hq h' _ k e')
end
/-- a made own error -/
structure OwnMade (h h' : Heap) (e C d : Addr) (fs : List (Str × Value)) : Prop where
  keep : ∀ b o, h.get? b = some o → h'.get? b = some o
  new : h.objs.size ≤ e
  obj : ∃ oe vs, h'.get? e = some oe ∧ oe.cls = .ref C ∧ oe.dict = some d ∧ oe.data = .fields vs ∧ vs[1]? = some .none ∧ vs[2]? = some .none
  dbig : h.objs.size ≤ d
  dne : d ≠ e
  ns : h'.Ns1 d (fun y => fs.lookup y)
/-- C(us): made, where us are the values of vs and ok vs -/
def Mkd (prog : Program) (w : World) (K : Frag) (mg : Str → Option Value) (C : Addr) (ns : List Str) (ok : List L2.V → Prop) : Prop :=
  ∀ {A : Around} {s : Shared} {R : Result → Shared → Prop} {vs : List L2.V} {us : List Value}, L2.Vals vs us → ok vs → K.In s.heap → s.heap.NoLimit → s.heap.Ns mainGlobals mg → (∃ mb, s.heap.Ns builtinsNs mb ∧ ∀ x : Str, x ≠ "__name__" → mb x = bootBuiltins x) → A.handled = none → A.depth + 1 < recursionLimit →
    (∀ h' tk e d, OwnMade s.heap h' e C d (ns.zip us) → R (.ok (.ret (.ref e))) { s with heap := h', toks := tk }) → codeAny (model prog w) A (.call (.ref C) ⟨us, []⟩) R s
/-- str of the value is some text -/
def okS : L2.V → Prop
  | .int n => n.natAbs < 10 ^ 4300
  | .str _ => True
  | _ => False
theorem strOk_str {prog : Program} {w : World} {x : Str} {t : Tok} : StrOk prog w (.str x t) := fun _ _ _ _ _ _ q => PySem.P.str_of_str (q _ _ _)
theorem okS_ok {prog : Program} {w : World} {v : L2.V} {u : Value} (r : L2.RelV v u) (h : okS v) : StrOk prog w u := by
  cases v <;> simp only [okS] at h
  · obtain ⟨t, rfl⟩ := r
    exact strOk_int h
  · obtain ⟨t, rfl⟩ := r
    exact strOk_str
end KErr
end PySem

set_option Elab.async false
set_option linter.all false
set_option maxRecDepth 100000
set_option maxHeartbeats 4000000
/-! Kw2a: errors at the readings' level: made, raised, caught, asked -/
namespace PySem.W
open PySem PySem.Spec PySem.Calls PyProof.Rows
section
variable {prog : Program} {w : World} {A : Around} {E : Value → Shared → Prop} {s : Shared} {K : Frag} {x D : Addr} {ox : Obj} {od : Option Obj}
theorem kw_findCls {C : Addr} {name : Str} {a g : Value} (hc : (clsIn K C).isSome = true) (ha : findIn K (.ref C) name = some (some a)) (hg : specialIn K a "__get__" = some (some g)) (ht : takesIn K a = some true) : findObj K C od name = some (.bind g a) := by
  obtain ⟨cd, hc⟩ := Option.isSome_iff_exists.mp hc
  unfold findObj
  rw [hc, Option.bind_some, ha, Option.bind_some]
  simp [hg, ht]
/-- the class of an own error, asked by __class__, whatever its own dict holds -/
theorem kw_class {Q : Option Value → Shared → Prop} (C : L2.ExcC K D) (X : K.In s.heap) (I : InstAt s.heap x ox D od) (h : Q (some (.ref D)) { s with toks := s.toks + 1 }) : wpAny (model prog w) A (getAttr? (.ref x) "__class__") Q E s := by
  have hf : findObj K D od "__class__" = some (.bind (.builtin "getset_descriptor.__get__") (.builtin "object.__class__")) := kw_findCls (by obtain ⟨cd, hc, _⟩ := any_some C.hd; rw [hc]; rfl) C.ha C.hn C.ht
  obtain ⟨hp, g, d, t, os⟩ := s
  have L0 := I.type (M := model prog w)
  have L1 := looks_findIn (M := model prog w) X C.hg
  have L2 := looks_findIn (M := model prog w) X C.hk
  have L3 := looks_find (M := model prog w) X I hf
  have sub : Looks (model prog w) hp (isInstance (.ref x) (.type "BaseException")) true := L0.andThen (looks_subIn X C.hs)
  have hx2 : (Value.builtin "BaseException.__getattribute__" == Value.builtin "object.__getattribute__") = false := by decide +kernel
  have hx1 : (onTheHeap (Value.ref D) && Value.builtin "BaseException.__getattribute__" == Value.builtin "object.__getattribute__") = false := by rw [hx2]; rfl
  have hx0 : (false && onTheHeap (Value.builtin "BaseException.__getattribute__")) = false := rfl
  unfold getAttr? getAttrBy? getAttrBy
  refine wpAny_bind (wpAny_mkText (wpAny_bind (wpAny_attempt (wpAny_holding (wpAny_bind (L0.at (wpAny_bind (L1.at ?_))))))))
  show wpAny _ _ (if (onTheHeap (Value.ref D) && Value.builtin "BaseException.__getattribute__" == Value.builtin "object.__getattribute__") = true then _ else _) _ _ _
  rw [hx1, if_neg Bool.false_ne_true]
  unfold getAttrByItsOwn hookBefore
  refine wpAny_bind ?_
  rw [if_pos (show onTheHeap (Value.ref D) = true from rfl)]
  refine L2.at ?_
  refine wpAny_bind (wpAny_attempt (wpAny_holding ?_))
  unfold callGetattribute
  rw [hx0, if_neg Bool.false_ne_true]
  unfold boundAndCalled
  rw [PySem.F.excAttr_ValueError.ga.bind (.ref x)]
  refine wpAny_bind (wpAny_pure ?_)
  refine wpAny_call (codeAny_call_builtin PySem.F.excAttr_ValueError.ga.plain PySem.F.entry_bexc_ga ?_)
  refine @check_slot (model prog w) _ _ ⟨hp, g, d, t + 1, os⟩ "BaseException.__getattribute__" "BaseException" "__getattribute__" (.ref x) [.str "__class__" t] [] _ (by decide +kernel) (by decide +kernel) sub (PySem.F.args_bexc_ga (.ref x) (.str "__class__" t)) ?_
  unfold Builtin.«object.__getattribute__»
  refine wpAny_bind (wpAny_of_eq (a := ((Value.ref x : Value), [Value.str "__class__" t])) (by first | rfl | (simp only [slotArgs]; rfl)) ?_)
  refine wpAny_bind (wpAny_pure (wpAny_bind (L0.at (wpAny_bind (L3.at ?_)))))
  refine wpAny_bind (wpAny_holding (wpAny_call (class_get (s := ⟨hp, g, d, t + 1, os⟩) (ox := ox) (od := od) X I C.hm ?_)))
  refine wpAny_pure ?_
  show wpAny _ _ (handedOut (.ref D)) _ _ _
  rw [handedOut_of (v := .ref D) rfl]
  first
    | exact wpAny_pure (wpAny_pure h)
    | exact wpAny_pure h
    | exact wpAny_pure (wpAny_bind (wpAny_pure (wpAny_pure h)))
theorem kw_kitx (C : L2.ExcC K D) : KitX K (.ref x) (.ref D) (fun h => InstAt h x ox D od) where
  ty := fun _ _ _ I => I.type
  it := fun _ _ X _ => by
    obtain ⟨cdD, hcD, _⟩ := any_some C.hd
    unfold clsIn at hcD
    split at hcD
    · rename_i c' d' cd' sl' ho
      intro A' Q' E' s' k q
      unfold isType loadHead
      exact wpAny_bind (wpAny_loadPart (k _ _ (X _ _ ho)) (wpAny_pure q))
    · cases hcD
  ne := fun h tp dd its n sl X htp => by
    obtain ⟨cdD, hcD, _⟩ := any_some C.hd
    refine Bool.eq_false_iff.mpr fun q => ?_
    have e : D = tp := Value.ref.inj (beq_iff_eq.mp q)
    subst e
    unfold clsIn at hcD
    split at hcD
    · rename_i c' d' cd' sl' ho
      have z := (X _ _ ho).symm.trans htp
      cases z
    · cases hcD
  ca := fun X I k => kw_class C X I k
end
end PySem.W
namespace KW
open PySem PySem.Spec PyProof.Rows L2
/-- an own error class of the text: x its name, C its place, ns its fields, ok what its arguments must be -/
structure ErrC (P : Program) (w : World) (K : Frag) (mg : Str → Option Value) (x : Str) (C : Addr) (ns : List Str) (ok : List V → Prop) : Prop where
  gC : mg x = some (.ref C)
  made : PySem.KErr.Mkd P w K mg C ns ok
  kC : PySem.W.keepIn K (.ref C) = true
  exC : PySem.W.subIn K (.ref C) (.type "BaseException") = some true
  tyC : PySem.W.typeIn K (.ref C) = some (.type "type")
  xf : XfC K C
  is : ExcC K C
  no : ∀ f ∈ ns, PySem.W.findIn K (.ref C) f = some none
section
variable {X : Cx} {x : Str} {C : Addr} {ns : List Str} {ok : List V → Prop}
theorem relO_zip : ∀ {ns : List Str} {vs : List V} {us : List Value}, Vals vs us → ∀ f, RelO (List.lookup f (ns.zip vs)) (List.lookup f (ns.zip us))
  | [], _, _, _, f => by simp [List.lookup, RelO]
  | n :: ns, _, _, .nil, f => by simp [List.lookup, RelO]
  | n :: ns, _, _, .cons r rs, f => by
    rw [List.zip_cons_cons, List.zip_cons_cons]
    by_cases h : f = n
    · subst h
      simp only [List.lookup, beq_self_eq_true]
      exact r
    · have q : (f == n) = false := by simpa using h
      simp only [List.lookup, q]
      exact relO_zip rs f
/-- x(args): the error made -/
def uMk (C : Addr) (ns : List Str) (ok : List V → Prop) (t : TA) : L2.St → Hp → XK → Prop := fun σ H Q => t σ H fun vs H1 => ok vs ∧ ∀ d, H1 d = none → Q (.ref C) (some d) (upd H1 d (.xd (ns.zip vs)))
theorem k_mk {e : Expr} {es : List Expr} {t : TA} {p pos : Pos} {k : Nat} (T : ErrC X.prog X.w X.K X.mg x C ns ok) (hr : Room k X.A) (ha : PA X (e :: es) t) (hg : Gl X x := by rfl) (hdb : (x == ("__debug__" : Str)) = false := by decide)
    (he : starEach (e :: es) X.env = (false, eval e X.env) :: starEach es X.env := by rfl) (hpl : (backTo pos (starEach es X.env)).any (·.1) = false := by rfl) : L2N.PMk X (.Call (.Name x p) (e :: es) [] pos) (uMk C ns ok t) := by
  intro pins s σ H Q I h
  refine wpAny_Call_Name_kw (ld_glob I hg T.gC ?_ hdb)
  refine PySem.W.callWith_K (h₀ := X.base) I.ok.mod.kin T.kC (thn (ha.run pos pins s σ H _ I h) fun us s1 hh => ?_) he hpl
  obtain ⟨vs, H1, I1, r1, okv, q1⟩ := hh
  refine ⟨I1.kIn, ?_⟩
  show wpAny _ _ (call (.ref C) us) _ _ _
  have hlim := I1.nolimit
  have G := I1.mod.glob.keeps I1.bk
  have B : ∃ mb, s1.heap.Ns builtinsNs mb ∧ ∀ x : Str, x ≠ "__name__" → mb x = bootBuiltins x := by
    obtain ⟨mb, h1, h2⟩ := I1.mod.blt
    exact ⟨mb, h1.keeps I1.bk, h2⟩
  obtain ⟨hp, g, dr, tk, os⟩ := s1
  refine wpAny_call (T.made r1 okv I1.kIn hlim G B (by exact hr.hd) (by show X.A.depth + 1 < _; have := hr.dp; omega) fun h' tk' e d M => ?_)
  show L2N.MkP X pins σ Q (.ref e) ⟨h', g, dr, tk', os⟩
  obtain ⟨oe, fv, hoe, hc, hd, hdat, h1, h2⟩ := M.obj
  have hns := M.ns
  obtain ⟨G', g1, g2⟩ := restrict h' fun b => decide (b ≠ e)
  have gk : ∀ b, b ≠ e → G'.get? b = h'.get? b := fun b hb => g1 b (decide_eq_true hb)
  have ge : G'.get? e = none := g2 e (by simp)
  have old : ∀ b o, hp.get? b = some o → G'.get? b = some o := fun b o q => (gk b (Nat.ne_of_lt (Nat.lt_of_lt_of_le (Heap.lt_size q) M.new))).trans (M.keep b o q)
  have ob : ObjOk X.prog X.w (upd H1 d (.xd (ns.zip vs))) G' d (.xd (ns.zip vs)) := ⟨_, hns.at (fun o q => (gk d M.dne).trans q), fun f => relO_zip r1 f⟩
  have J : Inv X pins σ (upd H1 d (.xd (ns.zip vs))) ⟨G', g, dr, tk', os⟩ := I1.laid (t' := tk') old M.dbig ob
  refine ⟨e, oe, fv, ⟨G', g, dr, tk', os⟩, _, .ref C, some d, rfl, J, fun b o q => ?_, ge, hoe, ⟨hc, hd, fun vs' e' => by rw [hdat] at e'; cases e'; exact h2⟩, hdat, h1, ?_, rfl, I1.bare, raises_own T.exC T.tyC, q1 d (I1.hok.fresh M.dbig)⟩
  · by_cases hb : b = e
    · have q' : G'.get? b = some o := q
      rw [hb, ge] at q'; cases q'
    · exact (gk b hb).symm.trans q
  · rw [upd_ne (Ne.symm M.dne)]
    exact I1.hok.fresh M.new
/-- raise x(..) -/
def uRaise (W : WX) (t : L2.St → Hp → XK → Prop) : TS := fun _ σ H => t σ H fun cls d H' => W cls d σ H'
theorem k_raise {W : WX} {e : Expr} {t : L2.St → Hp → XK → Prop} {pos : Pos} (tk : L2N.Takes X W) (he : L2N.PMk X e t) (hc : X.calm = true := by rfl) : PS X (.Raise (some e) none pos) (uRaise W t) := L2N.ps_raise hc tk he
/-- what does not come about -/
def uDead : TE := fun _ _ _ => False
def sDead : TS := fun _ _ _ => False
theorem k_dead {e : Expr} : PE X e uDead := ⟨fun _ _ _ _ _ _ h => h.elim⟩
theorem k_deadS {st : Stmt} : PS X st sDead := ⟨fun _ _ _ _ _ _ h => h.elim⟩
/-- e.f in the suite that holds e -/
def uEf (K : Frag) (a : Addr) (cls : Value) (d : Option Addr) (i : Nat) (f : Str) : TE := fun σ H Q => ∃ (C dd : Addr) (fs : List (Str × V)) (v : V), σ[i]? = some (some (.ref a)) ∧ cls = .ref C ∧ XfC K C ∧ PySem.W.findIn K (.ref C) f = some none ∧ d = some dd ∧ H dd = some (.xd fs) ∧ fs.lookup f = some v ∧ Q v H
theorem k_ef (i : Nat) {a : Addr} {oe : Obj} {cls : Value} {d : Option Addr} {pn : List (Addr × Obj)} {n f : Str} {p pos : Pos} (hz : Zc cls d oe) (hf : ∃ vs, oe.data = .fields vs) (hN : X.N[i]? = some n := by rfl)
    (hv : Vis X.env.scope n := by first | exact Or.inl rfl | exact Or.inr (Or.inl rfl) | exact Or.inr (Or.inr rfl)) (hd : (n == ("__debug__" : Str)) = false := by decide) (hcd : (n == ("__classdict__" : Str)) = false := by decide)
    (hb : attributeBase (.Name n p) f X.env (eval (.Name n p) X.env) = eval (.Name n p) X.env := by rfl) : PE (X.suite a ((a, oe) :: pn)) (.Attribute (.Name n p) f pos) (uEf X.K a cls d i f) := by
  refine ⟨fun pins s σ H Q I h => ?_⟩
  obtain ⟨C, dd, fs, v, e0, e1, xf, no, e2, e3, e4, q⟩ := h
  exact (pe_xf (X := X) xf no hz hf (pe_var (X := X.suite a ((a, oe) :: pn)) hN hv hd hcd) hb).run pins s σ H Q I ⟨.ref a, e0, rfl, e1, dd, fs, v, e2, e3, e4, q⟩
/-- isinstance(e, c) in the suite that holds e -/
def uIsE (K : Frag) (a : Addr) (cls : Value) (d : Option Addr) : List V → Hp → VK → Prop
  | [.ref b, .ref c], H, Q => ∃ (D dd : Addr) (fs : List (Str × V)) (r : Bool), b = a ∧ cls = .ref D ∧ ExcC K D ∧ d = some dd ∧ H dd = some (.xd fs) ∧ PySem.W.kitOne K (.ref D) (.ref c) = some r ∧ Q (.bl r) H
  | [.ref b, .ty T], H, Q => ∃ (D dd : Addr) (fs : List (Str × V)) (r : Bool), b = a ∧ cls = .ref D ∧ ExcC K D ∧ d = some dd ∧ H dd = some (.xd fs) ∧ PySem.W.kitOne K (.ref D) (.type T) = some r ∧ Q (.bl r) H
  | _, _, _ => False
theorem c_isE {a : Addr} {oe : Obj} {cls : Value} {d : Option Addr} {pn : List (Addr × Obj)} (hz : Zc cls d oe) (hf : ∃ vs, oe.data = .fields vs) : CallR (X.suite a ((a, oe) :: pn)) (.builtin "isinstance") (uIsE X.K a cls d) := by
  intro pins s σ H xs us Q I r h
  have key : ∀ {D dd : Addr} {fs : List (Str × V)} {cv : Value} {b : Bool}, cls = .ref D → ExcC X.K D → d = some dd → H dd = some (.xd fs) → PySem.W.kitOne X.K (.ref D) cv = some b → Q (.bl b) H →
      wpAny (model X.prog X.w) (X.A.mark (some (.ref a))) (call (.builtin "isinstance") [.ref a, cv]) (EP (X.suite a ((a, oe) :: pn)) pins σ Q) (fun _ _ => False) s := fun {D dd fs cv b} e1 C e2 e3 e4 q => by
    subst e1 e2
    obtain ⟨hget, _⟩ := I.pin (a, oe) (List.mem_append.mpr (.inl List.mem_cons_self))
    obtain ⟨vs, hv⟩ := hf
    obtain ⟨mA, hns, hr⟩ := (show ObjOk X.prog X.w H s.heap dd (.xd fs) from I.hok dd _ e3)
    obtain ⟨od, ho, hl⟩ := lookIn_ns hns
    have J : PySem.W.InstAt s.heap a oe D (some od) := by
      refine ⟨hget, hz.1, by unfold PySem.W.notCls; rw [hv] <;> rfl, ?_⟩
      rw [hz.2]
      exact ho
    exact PySem.W.kia_one (PySem.W.kw_kitx C) I.kIn J e4 (fun z => nomatch z) fun tk => ⟨.bl b, H, I.kept (t' := tk) fun _ _ z => z, rfl, q⟩
  unfold uIsE at h
  split at h
  · obtain ⟨D, dd, fs, b, rfl, e1, C, e2, e3, e4, q⟩ := h
    cases r with
    | cons rx rr =>
      cases rr with
      | cons rt rr =>
        cases rr
        cases rx
        cases rt
        exact key e1 C e2 e3 e4 q
  · obtain ⟨D, dd, fs, b, rfl, e1, C, e2, e3, e4, q⟩ := h
    cases r with
    | cons rx rr =>
      cases rr with
      | cons rt rr =>
        cases rr
        cases rx
        cases rt
        exact key e1 C e2 e3 e4 q
  · exact h.elim
theorem k_isE {a : Addr} {oe : Obj} {cls : Value} {d : Option Addr} {pn : List (Addr × Obj)} {e : Expr} {es : List Expr} {t : TA} {p pos : Pos} (hz : Zc cls d oe) (hf : ∃ vs, oe.data = .fields vs) (hm : X.mg "isinstance" = none) (ha : PA (X.suite a ((a, oe) :: pn)) (e :: es) t) (hg : Gl X "isinstance" := by rfl)
    (he : starEach (e :: es) X.env = (false, eval e X.env) :: starEach es X.env := by rfl) (hpl : (backTo pos (starEach es X.env)).any (·.1) = false := by rfl) : PE (X.suite a ((a, oe) :: pn)) (.Call (.Name "isinstance" p) (e :: es) [] pos) (tCB (uIsE X.K a cls d) t) :=
  pe_callB (c_isE hz hf) hg hm (by decide +kernel) ha (by decide) (by decide) he hpl
end
end KW

set_option Elab.async false
set_option linter.all false
set_option maxRecDepth 100000
set_option maxHeartbeats 4000000
/-! Kw2b: instances of plain classes: made, their fields and methods -/
namespace KW
open PySem PySem.Spec PyProof.Rows L2
/-- a plain class of the text and the names of its fields -/
structure ClsA (K : Frag) (mg : Str → Option Value) (x : Str) (C : Addr) (ns : List Str) : Prop where
  gC : mg x = some (.ref C)
  cls : Cls K C
  no : ∀ f ∈ ns, NoAttr K C f
/-- e.f -/
def uGet (K : Frag) (f : Str) : V → Hp → VK → Prop
  | .ref a, H, Q => ∃ C dx fs v, H a = some (.ins C dx fs) ∧ Cls K C ∧ NoAttr K C f ∧ fs.lookup f = some v ∧ Q v H
  | _, _, _ => False
def uFld (K : Frag) (t : TE) (f : Str) : TE := fun σ H Q => t σ H fun x H1 => uGet K f x H1 Q
section
variable {X : Cx}
theorem k_fld {e : Expr} {t : TE} {f : Str} {pos : Pos} (he : PE X e t) (hb : attributeBase e f X.env (eval e X.env) = eval e X.env) : PE X (.Attribute e f pos) (uFld X.K t f) := by
  refine PEw (pe_fld (PEw he (t' := fun σ H Q => t σ H Q) fun _ _ _ h => h) hb) fun σ H Q h => ?_
  unfold uFld at h
  unfold tFld
  have e : (fun x H1 => uGet X.K f x H1 Q) = fun x H1 => ∃ a C dx fs v, x = .ref a ∧ H1 a = some (.ins C dx fs) ∧ Cls X.K C ∧ NoAttr X.K C f ∧ fs.lookup f = some v ∧ Q v H1 := by
    funext x H1
    cases x <;> simp only [uGet, eq_iff_iff] <;> first
      | exact ⟨False.elim, fun ⟨_, _, _, _, _, z, _⟩ => nomatch z⟩
      | (rename_i p
         exact ⟨fun ⟨C, dx, fs, v, h⟩ => ⟨p, C, dx, fs, v, rfl, h⟩, fun ⟨a, C, dx, fs, v, z, h⟩ => by cases z; exact ⟨C, dx, fs, v, h⟩⟩)
  rw [e] at h
  exact h
/-- o.f = v -/
def uPut (K : Frag) (f : Str) : V → V → Hp → (Hp → Prop) → Prop
  | .ref a, y, H, Q => ∃ C dx fs, H a = some (.ins C dx fs) ∧ Cls K C ∧ NoAttr K C f ∧ fs.length < 1000 ∧ Q (upd H a (.ins C dx (putF f y fs)))
  | _, _, _, _ => False
def uSFld (K : Frag) (ta tv : TE) (f : Str) : TS := fun D σ H => tv σ H fun y H1 => ta σ H1 fun x H2 => uPut K f x y H2 fun H3 => D.nx σ H3
theorem k_sfld {o value : Expr} {ta tv : TE} {f : Str} {pos' pos : Pos} (ha : PE X o ta) (hv : PE X value tv) (hs : swapsWith value (some (.Attribute o f pos')) pos.line X.env = pure false) : PS X (.Assign [.Attribute o f pos'] value pos) (uSFld X.K ta tv f) := by
  refine PSw (ps_fld ha hv hs) fun D σ H h => ?_
  unfold uSFld at h
  unfold sFld
  have e : (fun (y : V) (H1 : Hp) => ta σ H1 fun x H2 => uPut X.K f x y H2 fun H3 => D.nx σ H3) = fun y H1 => ta σ H1 fun x H2 => ∃ a C dx fs, x = .ref a ∧ H2 a = some (.ins C dx fs) ∧ Cls X.K C ∧ NoAttr X.K C f ∧ fs.length < 1000 ∧ D.nx σ (upd H2 a (.ins C dx (putF f y fs))) := by
    funext y H1
    refine congrArg (ta σ H1) ?_
    funext x H2
    cases x <;> simp only [uPut, eq_iff_iff] <;> first
      | exact ⟨False.elim, fun ⟨_, _, _, _, z, _⟩ => nomatch z⟩
      | (rename_i p
         exact ⟨fun ⟨C, dx, fs, h⟩ => ⟨p, C, dx, fs, rfl, h⟩, fun ⟨a, C, dx, fs, z, h⟩ => by cases z; exact ⟨C, dx, fs, h⟩⟩)
  rw [e] at h
  exact h
end
section
variable {K : Frag} {mg : Str → Option Value} {x f : Str} {C a dx : Addr} {ns : List Str} {fs fs' : List (Str × V)} {v y : V} {H : Hp}
theorem get_l {Q : VK} (h : H a = some (.ins C dx fs)) (c : ClsA K mg x C ns) (m : f ∈ ns) (l : fs.lookup f = some v) (q : Q v H) : uGet K f (.ref a) H Q := ⟨C, dx, fs, v, h, c.cls, c.no f m, l, q⟩
theorem put_l {Q : Hp → Prop} (h : H a = some (.ins C dx fs)) (c : ClsA K mg x C ns) (m : f ∈ ns) (z : fs.length < 1000) (q : Q (upd H a (.ins C dx (putF f y fs)))) : uPut K f (.ref a) y H Q := ⟨C, dx, fs, h, c.cls, c.no f m, z, q⟩
end
/-! ### methods -/
/-- a def at f: ps its parameters, dvs its defaults -/
structure DfnAt (K : Frag) (x qual : Str) (st : Stmt) (ps : List Str) (dvs : List V) (f : Addr) : Prop where
  ex : ∃ fd, FunD K x qual (defArgs st) (defBody st) (defScope st) dvs [] f fd ∧ ∀ j, j ≤ dvs.length → ∃ ds, Vals (dvs.drop j) ds ∧ Binds K fd ps ds
/-- the method m of the class C -/
structure MetAt (K : Frag) (C : Addr) (m qual : Str) (st : Stmt) (ps : List Str) : Prop where
  ex : ∃ f, Meth K C m f ∧ DfnAt K m qual st ps [] f
/-- the __init__ of the class x at C -/
structure IniAt (K : Frag) (C : Addr) (qual : Str) (st : Stmt) (ps : List Str) (dvs : List V) : Prop where
  ex : ∃ f, Mk K C f ∧ DfnAt K "__init__" qual st ps dvs f
structure CalM (P : Program) (w : World) (K : Frag) (mg : Str → Option Value) (base : Heap) (k : Nat) (C : Addr) (m : Str) (sp : Sp) : Prop where
  cls : Cls K C
  ex : ∃ (f : Addr) (fd : FuncData) (ps : List Str), Meth K C m f ∧ Binds K fd ps [] ∧ FnOk P w K mg base (L2N.CX P w) k f fd ps sp
structure CalI (P : Program) (w : World) (K : Frag) (mg : Str → Option Value) (base : Heap) (k : Nat) (x : Str) (C : Addr) (dvs : List V) (sp : Sp) : Prop where
  ex : mg x = some (.ref C) ∧ ∃ (f : Addr) (fd : FuncData) (ps : List Str), Mk K C f ∧ FnOk P w K mg base (L2N.CX P w) k f fd ps sp ∧ ∀ j, j ≤ dvs.length → ∃ ds, Vals (dvs.drop j) ds ∧ Binds K fd ps ds
section
variable {P : Program} {w : World} {K : Frag} {mg : Str → Option Value} {base : Heap}
theorem DfnAt.fn {x qual : Str} {st : Stmt} {N ps : List Str} {dvs : List V} {f : Addr} {k : Nat} {sp : Sp} (D : DfnAt K x qual st ps dvs f) (S : FnScope N ps (defScope st)) (len : ∀ vs H Q E, sp vs H Q E → vs.length = ps.length)
    (hbody : ∀ (f : Addr) (cdv : Value) (A : Around) (outer : List Env) (s : Shared) (H : Hp) (vs : List V) (Q : VK) (E : XK), Room k (A.deeper (envOfC qual (defScope st) s.heap.objs.size f cdv)) → sp vs H Q E →
      ∃ t, PSs (cxOf (L2N.CX P w) P w K mg base N qual (defScope st) f cdv A outer s H E) (defBody st) t ∧ t { nx := fun _ H' => Q .non H', rt := Q } (start N vs) H) :
    ∃ fd, FnOk P w K mg base (L2N.CX P w) (k + 1) f fd ps sp ∧ ∀ j, j ≤ dvs.length → ∃ ds, Vals (dvs.drop j) ds ∧ Binds K fd ps ds := by
  obtain ⟨fd, F, hb⟩ := D.ex
  exact ⟨fd, F.ok S len fun cdv A outer s H vs Q E hr hsp => hbody f cdv A outer s H vs Q E hr hsp, hb⟩
theorem MetAt.ok {C : Addr} {m qual : Str} {st : Stmt} {N ps : List Str} {k : Nat} {sp : Sp} (D : MetAt K C m qual st ps) (c : Cls K C) (S : FnScope N ps (defScope st)) (len : ∀ vs H Q E, sp vs H Q E → vs.length = ps.length)
    (hbody : ∀ (f : Addr) (cdv : Value) (A : Around) (outer : List Env) (s : Shared) (H : Hp) (vs : List V) (Q : VK) (E : XK), Room k (A.deeper (envOfC qual (defScope st) s.heap.objs.size f cdv)) → sp vs H Q E →
      ∃ t, PSs (cxOf (L2N.CX P w) P w K mg base N qual (defScope st) f cdv A outer s H E) (defBody st) t ∧ t { nx := fun _ H' => Q .non H', rt := Q } (start N vs) H) : CalM P w K mg base (k + 1) C m sp := by
  obtain ⟨f, M, D⟩ := D.ex
  obtain ⟨fd, F, hb⟩ := D.fn S len hbody
  obtain ⟨ds, hd, b⟩ := hb 0 (Nat.le_refl _)
  cases hd
  exact ⟨c, f, fd, ps, M, b, F⟩
theorem IniAt.ok {x : Str} {C : Addr} {qual : Str} {st : Stmt} {N ps : List Str} {dvs : List V} {k : Nat} {sp : Sp} (D : IniAt K C qual st ps dvs) (g : mg x = some (.ref C)) (S : FnScope N ps (defScope st)) (len : ∀ vs H Q E, sp vs H Q E → vs.length = ps.length)
    (hbody : ∀ (f : Addr) (cdv : Value) (A : Around) (outer : List Env) (s : Shared) (H : Hp) (vs : List V) (Q : VK) (E : XK), Room k (A.deeper (envOfC qual (defScope st) s.heap.objs.size f cdv)) → sp vs H Q E →
      ∃ t, PSs (cxOf (L2N.CX P w) P w K mg base N qual (defScope st) f cdv A outer s H E) (defBody st) t ∧ t { nx := fun _ H' => Q .non H', rt := Q } (start N vs) H) : CalI P w K mg base (k + 1) x C dvs sp := by
  obtain ⟨f, M, D⟩ := D.ex
  obtain ⟨fd, F, hb⟩ := D.fn S len hbody
  exact ⟨g, f, fd, ps, M, F, hb⟩
end
/-- o.m(args): what it may let out is taken at the slots as they stand -/
def uMet (C : Addr) (m : Str) (sp : Sp) (E : L2.St → XK) (ta : TE) (t : TA) : TE := fun σ H Q => ta σ H fun x H1 => uMt C m sp (E σ) t σ x H1 Q
where uMt (C : Addr) (m : Str) (sp : Sp) (E : XK) (t : TA) (σ : L2.St) : V → Hp → VK → Prop
  | .ref a, H1, Q => ∃ dx fs, H1 a = some (.ins C dx fs) ∧ fs.lookup m = none ∧ t σ H1 fun vs H2 => sp (.ref a :: vs) H2 Q E
  | _, _, _ => False
section
variable {X : Cx} {k : Nat} {C : Addr} {m x : Str} {sp : Sp} {o e : Expr} {es : List Expr} {ta : TE} {t : TA} {apos p pos : Pos} {pl : Sem Bool}
theorem uMt_of {E : XK} {σ : L2.St} {x : V} {H : Hp} {Q : VK} (h : uMet.uMt C m sp E t σ x H Q) : ∃ a dx fs, x = .ref a ∧ H a = some (.ins C dx fs) ∧ fs.lookup m = none ∧ t σ H fun vs H2 => sp (.ref a :: vs) H2 Q E := by
  cases x with
  | ref a => obtain ⟨dx, fs, h⟩ := h; exact ⟨a, dx, fs, rfl, h⟩
  | _ => exact False.elim h
theorem km_of {E : L2.St → XK} (hx : ∀ σ, PassesAt (L2N.CX X.prog X.w) X σ (E σ)) (c : CalM X.prog X.w X.K X.mg X.base k C m sp) (hr : Room k X.A) (he : PE X o ta) (ha : PA X (e :: es) t)
    (hst : starEach (e :: es) X.env = (false, eval e X.env) :: starEach es X.env) (hpl : (backTo pos (starEach es X.env)).any (·.1) = false)
    (ht : eval (.Call (.Attribute o m apos) (e :: es) [] pos) X.env = (do
      let ov ← eval o X.env
      standAt apos.atName
      let (f, first) ← holding [ov] (getMethod ov m pl)
      callWith pos f first (backTo pos (starEach (e :: es) X.env)) (backToKw pos (keywordEach [] X.env)))) :
    PE X (.Call (.Attribute o m apos) (e :: es) [] pos) (uMet C m sp E ta t) := by
  obtain ⟨cl, f, fd, ps, hm, hb, F⟩ := c
  refine ⟨fun pins s σ H Q I h => ?_⟩
  refine PySem.W.methodCall_KW (pl := pl) (thn (he.run pins s σ H _ I h) fun u s1 ⟨x, H1, I1, rx, hu⟩ => ?_) ht
  obtain ⟨a, dx, fs, ex, ea, l, q⟩ := uMt_of hu
  subst ex
  obtain rfl : u = Value.ref a := rx
  refine getmeth_ok I1 ea cl hm l ?_
  refine PySem.W.callWith_K (h₀ := X.base) I.ok.mod.kin hm.kp (thn (ha.run pos pins s1 σ H1 _ I1 q) fun us s2 ⟨vs, H2, I2, r, q2⟩ => ⟨I2.kIn, ?_⟩) hst hpl
  exact run_fnS (us := .ref a :: us) (vs := .ref a :: vs) F hr hb (hx σ) I2 (.cons rfl r) q2
theorem km0_of {E : L2.St → XK} (hx : ∀ σ, PassesAt (L2N.CX X.prog X.w) X σ (E σ)) (c : CalM X.prog X.w X.K X.mg X.base k C m sp) (hr : Room k X.A) (he : PE X o ta)
    (ht : eval (.Call (.Attribute o m apos) [] [] pos) X.env = (do
      let ov ← eval o X.env
      standAt apos.atName
      let (f, first) ← holding [ov] (getMethod ov m pl)
      callWith pos f first (backTo pos (starEach [] X.env)) (backToKw pos (keywordEach [] X.env)))) :
    PE X (.Call (.Attribute o m apos) [] [] pos) (uMet C m sp E ta tNil) := by
  obtain ⟨cl, f, fd, ps, hm, hb, F⟩ := c
  refine ⟨fun pins s σ H Q I h => ?_⟩
  refine PySem.W.methodCall_KW (pl := pl) (thn (he.run pins s σ H _ I h) fun u s1 ⟨x, H1, I1, rx, hu⟩ => ?_) ht
  obtain ⟨a, dx, fs, ex, ea, l, q⟩ := uMt_of hu
  subst ex
  obtain rfl : u = Value.ref a := rx
  refine getmeth_ok I1 ea cl hm l ?_
  exact PySem.W.callWith_K0 (first := [.ref a]) I1.kIn hm.kp (run_fnS (us := [.ref a]) (vs := [.ref a]) F hr hb (hx σ) I1 (.cons rfl .nil) q)
theorem km (c : CalM X.prog X.w X.K X.mg X.base k C m sp) (hr : Room k X.A) (he : PE X o ta) (ha : PA X (e :: es) t)
    (hst : starEach (e :: es) X.env = (false, eval e X.env) :: starEach es X.env := by rfl) (hpl : (backTo pos (starEach es X.env)).any (·.1) = false := by rfl)
    (ht : eval (.Call (.Attribute o m apos) (e :: es) [] pos) X.env = (do
      let ov ← eval o X.env
      standAt apos.atName
      let (f, first) ← holding [ov] (getMethod ov m pl)
      callWith pos f first (backTo pos (starEach (e :: es) X.env)) (backToKw pos (keywordEach [] X.env))) := by rfl) :
    PE X (.Call (.Attribute o m apos) (e :: es) [] pos) (uMet C m sp (fun _ => E0) ta t) := km_of (fun _ => passAt0) c hr he ha hst hpl ht
theorem km0 (c : CalM X.prog X.w X.K X.mg X.base k C m sp) (hr : Room k X.A) (he : PE X o ta)
    (ht : eval (.Call (.Attribute o m apos) [] [] pos) X.env = (do
      let ov ← eval o X.env
      standAt apos.atName
      let (f, first) ← holding [ov] (getMethod ov m pl)
      callWith pos f first (backTo pos (starEach [] X.env)) (backToKw pos (keywordEach [] X.env))) := by rfl) :
    PE X (.Call (.Attribute o m apos) [] [] pos) (uMet C m sp (fun _ => E0) ta tNil) := km0_of (fun _ => passAt0) c hr he ht
theorem kmX {W : WX} (tk : L2N.Takes X W) (c : CalM X.prog X.w X.K X.mg X.base k C m sp) (hr : Room k X.A) (he : PE X o ta) (ha : PA X (e :: es) t)
    (hst : starEach (e :: es) X.env = (false, eval e X.env) :: starEach es X.env := by rfl) (hpl : (backTo pos (starEach es X.env)).any (·.1) = false := by rfl)
    (ht : eval (.Call (.Attribute o m apos) (e :: es) [] pos) X.env = (do
      let ov ← eval o X.env
      standAt apos.atName
      let (f, first) ← holding [ov] (getMethod ov m pl)
      callWith pos f first (backTo pos (starEach (e :: es) X.env)) (backToKw pos (keywordEach [] X.env))) := by rfl) :
    PE X (.Call (.Attribute o m apos) (e :: es) [] pos) (uMet C m sp (WE W) ta t) := km_of (fun σ => L2N.passAt tk σ) c hr he ha hst hpl ht
theorem kmX0 {W : WX} (tk : L2N.Takes X W) (c : CalM X.prog X.w X.K X.mg X.base k C m sp) (hr : Room k X.A) (he : PE X o ta)
    (ht : eval (.Call (.Attribute o m apos) [] [] pos) X.env = (do
      let ov ← eval o X.env
      standAt apos.atName
      let (f, first) ← holding [ov] (getMethod ov m pl)
      callWith pos f first (backTo pos (starEach [] X.env)) (backToKw pos (keywordEach [] X.env))) := by rfl) :
    PE X (.Call (.Attribute o m apos) [] [] pos) (uMet C m sp (WE W) ta tNil) := km0_of (fun σ => L2N.passAt tk σ) c hr he ht
theorem met_l {E : XK} {a dx : Addr} {fs : List (Str × V)} {σ : L2.St} {H : Hp} {Q : VK} (h : H a = some (.ins C dx fs)) (l : fs.lookup m = none) (q : t σ H fun vs H2 => sp (.ref a :: vs) H2 Q E) : uMet.uMt C m sp E t σ (.ref a) H Q := ⟨dx, fs, h, l, q⟩
/-- x(args): an instance made; the last defaults fill up -/
def uMake (C : Addr) (sp : Sp) (dvs : List V) (t : TA) : TE := fun σ H Q => t σ H fun vs H1 => ∀ x dx, H1 x = none → H1 dx = none → dx ≠ x → sp (.ref x :: (vs ++ dvs)) (upd (upd H1 dx (.own x)) x (.ins C dx [])) (fun v H2 => v = .non ∧ Q (.ref x) H2) E0
theorem pass0 : Passes (L2N.CX X.prog X.w) X E0 := fun _ _ _ _ _ _ _ h => by
  obtain ⟨_, _, _, _, _, _, _, _, _, _, _, _, z⟩ := h
  exact z.elim
theorem kmk {dvs : List V} (j : Nat) (c : CalI X.prog X.w X.K X.mg X.base k x C dvs sp) (hr : Room (k + 1) X.A) (ha : PA X (e :: es) t) (hj : j ≤ dvs.length := by decide) (hg : Gl X x := by rfl) (hdb : (x == ("__debug__" : Str)) = false := by decide)
    (he : starEach (e :: es) X.env = (false, eval e X.env) :: starEach es X.env := by rfl) (hpl : (backTo pos (starEach es X.env)).any (·.1) = false := by rfl) : PE X (.Call (.Name x p) (e :: es) [] pos) (uMake C sp (dvs.drop j) t) := by
  obtain ⟨hm, f, fd, ps, M, F, hb⟩ := c
  obtain ⟨ds, hd, b⟩ := hb j hj
  exact pe_make M F hr hg hm b hd pass0 ha hdb he hpl
theorem kmk0 {dvs : List V} (c : CalI X.prog X.w X.K X.mg X.base k x C dvs sp) (hr : Room (k + 1) X.A) (hg : Gl X x := by rfl) (hdb : (x == ("__debug__" : Str)) = false := by decide) : PE X (.Call (.Name x p) [] [] pos) (uMake C sp dvs tNil) := by
  obtain ⟨hm, f, fd, ps, M, F, hb⟩ := c
  obtain ⟨ds, hd, b⟩ := hb 0 (Nat.zero_le _)
  exact pe_make0 M F hr hg hm b hd pass0 hdb
end
end KW

set_option Elab.async false
set_option linter.all false
set_option maxRecDepth 100000
set_option maxHeartbeats 4000000
/-! Kw2c: del xs[a:] of a list -/
namespace KW
open PySem PySem.Spec PyProof.Rows L2
theorem fm_take {α : Type} (p : Nat → Bool) (a : Nat) : ∀ (l : List α) (j : Nat), (∀ k, j ≤ k → k < j + l.length → p k = decide (a ≤ k)) → (l.zipIdx j).filterMap (fun x => if p x.2 = true then none else some x.1) = l.take (a - j)
  | [], j, _ => by simp
  | x :: l, j, h => by
    have h0 := h j (Nat.le_refl _) (by simp)
    have ih := fm_take p a l (j + 1) fun k h1 h2 => h k (by omega) (by simp only [List.length_cons]; omega)
    rw [List.zipIdx_cons, List.filterMap_cons]
    by_cases c : a ≤ j
    · simp only [h0, c, decide_true, if_true]
      rw [ih, show a - j = 0 by omega, show a - (j + 1) = 0 by omega]
      simp
    · simp only [h0, c, decide_false, Bool.false_eq_true, if_false]
      rw [ih, show a - j = (a - (j + 1)) + 1 by omega]
      rfl
section
variable {prog : Program} {w : World} {A : Around} {E : Value → Shared → Prop} {s : Shared}
theorem bounds_from (a n : Nat) : sliceBounds (some (a : Int)) none none n = (((min a n : Nat) : Int), (n : Int), 1) := by
  simp only [sliceBounds, Option.getD_none]
  have h1 : ¬ ((a : Int) < 0) := by omega
  simp only [h1, if_false, show (1 : Int) > 0 by decide, if_true]
  congr 1
  omega
theorem delItem_cut {l sl : Addr} {items : Array Value} {n : Nat} {vl : Value} {a : Nat} {Q : Unit → Shared → Prop}
    (e : s.heap.get? l = some { cls := .type "list", data := .seq items n })
    (hs : s.heap.IsSliceOf sl vl .none .none) (pl : IsPart vl (some (a : Int)))
    (hsz : items.size ≤ sizeLine) (h : ∀ F : Array Value → Array Value, F items = (items.toList.take a).toArray → Q () { s with heap := s.heap.update l (Obj.mapSeq F) }) :
    wpAny (model prog w) A (delItem (.ref l) (.ref sl)) Q E s := by
  have hl : s.heap.IsList l items := PySem.IsL.isList e
  obtain ⟨os, hos, hcs, hds⟩ := id hs
  have hTs : s.TypeIs (.ref sl) "slice" := ⟨os, hos, hcs⟩
  have hstep : ¬ ((rawPart none == rawInt 0) = true) := Bool.false_ne_true
  refine wpAny_delItem_slot hl.typeIs (by decide) PySem.F.slot_list_delitem ?_
  refine wpAny_call_entry PySem.F.slot_list_delitem hl.typeIs PySem.F.entry_list_delitem ?_ (PySem.F.args_list_delitem_2 _ _)
  show wpAny _ _ (Builtin.List.listSubscript? (.ref sl) >>= _) _ _ s
  refine wpAny_bind ?_
  unfold Builtin.List.listSubscript?
  refine wpAny_bind (wpAny_specialOf hTs slice_no_index ?_)
  simp only [Option.isNone_none, if_true]
  refine wpAny_pure ?_
  show wpAny _ _ (typeOf (.ref sl) >>= _) _ _ s
  refine wpAny_bind (wpAny_typeOf hTs ?_)
  first
    | rw [if_neg (by decide)]
    | refine PySem.W.KFB.if_not (by decide) ?_
  rw [listSliceParts_eq]
  refine wpAny_bind (wpAny_bind (wpAny_field hos hds (x := .none) rfl (wpAny_bind (wpAny_listPart .none ?_))))
  rw [if_neg hstep]
  refine wpAny_bind (wpAny_field hos hds (x := vl) rfl (wpAny_bind (wpAny_listPart pl ?_)))
  refine wpAny_bind (wpAny_field hos hds (x := .none) rfl (wpAny_bind (wpAny_listPart .none (wpAny_pure ?_))))
  unfold Builtin.List.listItems
  refine wpAny_bind (wpAny_bind (wpAny_seqItems e rfl (wpAny_pure ?_)))
  refine wpAny_bind (wpAny_of_eq ((sliceIndices_raw (some (a : Int)) none none items.size (by simp)).trans (congrArg (pure : Int × Int × Int → Sem (Int × Int × Int)) (bounds_from a items.size))) ?_)
  refine wpAny_bind (wpAny_rule ?_)
  have key : ∀ (p : Nat → Bool), (∀ k, k < items.size → p k = decide (a ≤ k)) → (List.filterMap (fun x : Value × Nat => if p x.2 = true then none else some x.1) items.toList.zipIdx).toArray = (items.toList.take a).toArray := fun p hp => by
    rw [fm_take p a items.toList 0 fun k _ h2 => hp k (by rw [Array.length_toList] at h2; omega)]
    rfl
  refine wpAny_bind (m := Builtin.List.listUpdate (.ref l) _) ?_
  show wpAny _ _ (updateSeq l _) _ _ _
  have kk : ∀ k, k < items.size → (if (1 : Int) > 0 then decide (((min a items.size : Nat) : Int) ≤ (k : Int)) && decide ((k : Int) < (items.size : Int)) && (((k : Int) - ((min a items.size : Nat) : Int)) % 1 == 0) else false) = decide (a ≤ k) := fun k hk => by
    rw [if_pos (by decide)]
    have e1 : (((k : Int) - ((min a items.size : Nat) : Int)) % 1 == 0) = true := by rw [Int.emod_one]; rfl
    rw [e1, Bool.and_true]
    by_cases c : a ≤ k
    · rw [decide_eq_true c, decide_eq_true (by omega), decide_eq_true (by omega)]
      rfl
    · rw [decide_eq_false c, decide_eq_false (by omega)]
      rfl
  refine wpAny_updateSeq (hz := hsz) (_hz' := ?z) e rfl ?_
  case z =>
    refine Nat.le_trans (Nat.le_of_eq (congrArg Array.size (key _ ?_))) ?_
    · exact fun k hk => (kk k hk)
    · rw [List.size_toArray, List.length_take, Array.length_toList]
      omega
  refine wpAny_bind (wpAny_letGo ?_)
  refine wpAny_pure ⟨.none, rfl, h _ (key _ ?_)⟩
  exact fun k hk => (kk k hk)
end
section
variable {X : Cx}
/-- del xs[a:] -/
def uDelC : V → Option Int → Hp → (Hp → Prop) → Prop
  | .ref l, some a, H, Q => ∃ xs, H l = some (.lst xs) ∧ 0 ≤ a ∧ Q (upd H l (.lst (xs.take a.toNat)))
  | _, _, _, _ => False
def uDelSl (to ti : TE) : TS := fun D σ H => to σ H fun x H1 => tPart ti σ H1 fun l H2 => uDelC x l H2 fun H3 => D.nx σ H3
theorem dels_l {H : Hp} {p : Addr} {xs : List V} {a : Int} {Q : Hp → Prop} (h : H p = some (.lst xs)) (e : 0 ≤ a) (q : Q (upd H p (.lst (xs.take a.toNat)))) : uDelC (.ref p) (some a) H Q := ⟨xs, h, e, q⟩
theorem k_delsl {o i : Expr} {to ti : TE} {p2 tpos pos : Pos} (ho : PE X o to) (hi : PE X i ti) : PS X (.Delete [.Subscript o (.Slice (some i) none none p2) tpos] pos) (uDelSl to ti) := by
  refine ⟨fun pins s σ H D I h => ?_⟩
  refine wpAny_Delete (wpAny_deleteEach_cons (wpAny_delete_Subscript (thn (ho.run pins s σ H _ I h) fun u s1 ⟨x, H1, I1, rx, q1⟩ => ?_)))
  refine wpAny_Slice (thn ((po_some hi).run pins s1 σ H1 _ I1 q1) fun vl s2 ⟨l, H2, I2, pl, q2⟩ => ?_)
  rw [evalPart_none]
  refine wpAny_pure (wpAny_pure ?_)
  have I4 : Inv X pins σ H2 { s2 with heap := s2.heap.push { cls := .type "slice", data := .fields #[vl, .none, .none] } } := I2.kept (t' := s2.toks) fun b ob q => Heap.get?_push_of_some _ q
  unfold uDelC at q2
  split at q2
  · rename_i w1 p a w2
    obtain ⟨xs, hH, h0, q2⟩ := q2
    obtain rfl : u = Value.ref p := rx
    obtain ⟨a', rfl⟩ := Int.eq_ofNat_of_zero_le h0
    obtain ⟨z, its, n, r, hl, e⟩ := I4.lstM hH
    rw [Int.toNat_natCast] at q2
    refine delItem_cut (a := a') e (Heap.IsSliceOf.new ..) pl (by rw [List.size_toArray]; omega) fun F hF => wpAny_deleteEach_nil ⟨σ, _, ?_, q2⟩
    refine I4.lset (its' := its.take a') (t' := s2.toks) hH e hF (r.take _) ?_
    rw [List.length_take]
    omega
  · exact q2.elim
end
end KW

set_option Elab.async false
set_option linter.all false
set_option maxRecDepth 100000
set_option maxHeartbeats 4000000
/-! Kw2d: dicts, texts and built-ins -/
namespace KW
open PySem PySem.Spec PyProof.Rows L2
section
variable {X : Cx} {o i e value : Expr} {pos pos' tpos : Pos} {td ty tv : TE}
/-- d[y] -/
def uDGet : V → V → Hp → VK → Prop
  | .ref a, .int i, H, Q => ∃ kvs v, H a = some (.dK kvs) ∧ valV kvs (.inl i) = some v ∧ Q v H
  | .ref a, .str i, H, Q => ∃ kvs v, H a = some (.dK kvs) ∧ valV kvs (.inr i) = some v ∧ Q v H
  | _, _, _, _ => False
theorem uDGet_of {x y : V} {H2 : Hp} {Q : VK} (q : uDGet x y H2 Q) : ∃ a v, x = .ref a ∧ DGet H2 a y (some v) ∧ Q v H2 := by
  unfold uDGet at q
  split at q
  · obtain ⟨kvs, v, h1, h2, q⟩ := q
    exact ⟨_, v, rfl, by rw [← h2]; exact DGet.k (k := .inl _) h1, q⟩
  · obtain ⟨kvs, v, h1, h2, q⟩ := q
    exact ⟨_, v, rfl, by rw [← h2]; exact DGet.k (k := .inr _) h1, q⟩
  · exact q.elim
def tDG (td ty : TE) : TE := fun σ H Q => td σ H fun x H1 => ty σ H1 fun y H2 => uDGet x y H2 Q
theorem k_dget (hu : X.A.units + 1 < cLine) (ho : PE X o td) (hi : PE X i ty) (hs : NoSl i := by intro _ _; rfl) : PE X (.Subscript o i pos) (tDG td ty) := by
  refine ⟨fun pins s σ H Q I h => ?_⟩
  refine subD_of PySem.F.slot_dict_getitem.lookup hs (thn (ho.run pins s σ H _ I h) fun u s1 ⟨x, H1, I1, rx, q1⟩ => thn (hi.run pins s1 σ H1 _ I1 q1) fun iv s2 ⟨y, H2, I2, ry, q2⟩ => ?_)
  obtain ⟨a, v, ex, g, q5⟩ := uDGet_of q2
  subst ex
  obtain rfl : u = Value.ref a := rx
  exact ⟨dict_typeIs I2 g, d_getItem hu I2 g ry fun w' s3 I3 rw' => ⟨v, H2, I3, rw', q5⟩⟩
/-- y in d -/
def uDIn : V → V → Hp → (Bool → Prop) → Prop
  | .int i, .ref a, H, Q => ∃ kvs, H a = some (.dK kvs) ∧ Q (valV kvs (.inl i)).isSome
  | .str i, .ref a, H, Q => ∃ kvs, H a = some (.dK kvs) ∧ Q (valV kvs (.inr i)).isSome
  | _, _, _, _ => False
theorem uDIn_of {x y : V} {H2 : Hp} {Q : Bool → Prop} (q : uDIn y x H2 Q) : ∃ a o, x = .ref a ∧ DGet H2 a y o ∧ Q o.isSome := by
  unfold uDIn at q
  split at q
  · obtain ⟨kvs, h1, q⟩ := q
    exact ⟨_, _, rfl, DGet.k (k := .inl _) h1, q⟩
  · obtain ⟨kvs, h1, q⟩ := q
    exact ⟨_, _, rfl, DGet.k (k := .inr _) h1, q⟩
  · exact q.elim
def tDI (ty td : TE) : TE := fun σ H Q => ty σ H fun y H1 => td σ H1 fun x H2 => uDIn y x H2 fun b => Q (.bl b) H2
def tDNI (ty td : TE) : TE := fun σ H Q => ty σ H fun y H1 => td σ H1 fun x H2 => uDIn y x H2 fun b => Q (.bl (!b)) H2
theorem k_din (hu : X.A.units + 1 < cLine) (hi : PE X i ty) (ho : PE X o td) : PC X .In i o (tDI ty td) := by
  refine ⟨fun pins s σ H Q I h => ?_⟩
  refine thn (hi.run pins s σ H _ I h) fun iv s1 ⟨y, H1, I1, ry, q1⟩ => thn (ho.run pins s1 σ H1 _ I1 q1) fun u s2 ⟨x, H2, I2, rx, q2⟩ => ?_
  obtain ⟨a, ov, ex, g, q5⟩ := uDIn_of q2
  subst ex
  obtain rfl : u = Value.ref a := rx
  exact d_in hu I2 g ry fun s3 I3 => ⟨.bl ov.isSome, H2, I3, rfl, q5⟩
theorem k_dnotin (hu : X.A.units + 1 < cLine) (hi : PE X i ty) (ho : PE X o td) : PC X .NotIn i o (tDNI ty td) := by
  refine ⟨fun pins s σ H Q I h => ?_⟩
  refine thn (hi.run pins s σ H _ I h) fun iv s1 ⟨y, H1, I1, ry, q1⟩ => thn (ho.run pins s1 σ H1 _ I1 q1) fun u s2 ⟨x, H2, I2, rx, q2⟩ => ?_
  obtain ⟨a, ov, ex, g, q5⟩ := uDIn_of q2
  subst ex
  obtain rfl : u = Value.ref a := rx
  exact d_notIn hu I2 g ry fun s3 I3 => ⟨.bl (!ov.isSome), H2, I3, rfl, q5⟩
/-- d[y] = v -/
def uDPut : V → V → V → Hp → (Hp → Prop) → Prop
  | .ref a, .int i, v, H, Q => ∃ kvs, H a = some (.dK kvs) ∧ kvs.length < sizeLine ∧ Q (upd H a (.dK (putK kvs (.inl i) v)))
  | .ref a, .str i, v, H, Q => ∃ kvs, H a = some (.dK kvs) ∧ kvs.length < sizeLine ∧ Q (upd H a (.dK (putK kvs (.inr i) v)))
  | _, _, _, _, _ => False
theorem uDPut_of {x y v : V} {H : Hp} {Q : Hp → Prop} (q : uDPut x y v H Q) : ∃ a H4, x = .ref a ∧ DPut H a y v H4 ∧ Q H4 := by
  unfold uDPut at q
  split at q
  · obtain ⟨kvs, h1, h2, q⟩ := q
    exact ⟨_, _, rfl, DPut.k (k := .inl _) h1 h2, q⟩
  · obtain ⟨kvs, h1, h2, q⟩ := q
    exact ⟨_, _, rfl, DPut.k (k := .inr _) h1 h2, q⟩
  · exact q.elim
def tDP (td ty tv : TE) : TS := fun D σ H => tv σ H fun v H1 => td σ H1 fun x H2 => ty σ H2 fun y H3 => uDPut x y v H3 fun H4 => D.nx σ H4
theorem k_dput (hu : X.A.units + 1 < cLine) (ho : PE X o td) (hi : PE X i ty) (hv : PE X value tv) (hs : swapsWith value (some (.Subscript o i pos')) pos.line X.env = pure false := by rfl) :
    PS X (.Assign [.Subscript o i pos'] value pos) (tDP td ty tv) := by
  refine ⟨fun pins s σ H D I h => ?_⟩
  refine wpAny_Assign_Subscript (thn (hv.run pins s σ H _ I h) fun r s1 ⟨v, H1, I1, rv, q1⟩ => thn (ho.run pins s1 σ H1 _ I1 q1) fun u s2 ⟨x, H2, I2, rx, q2⟩ => thn (hi.run pins s2 σ H2 _ I2 q2) fun iv s3 ⟨y, H3, I3, ry, q3⟩ => ?_) hs
  obtain ⟨a, H4, ex, g, q5⟩ := uDPut_of q3
  subst ex
  obtain rfl : u = Value.ref a := rx
  exact d_setItem hu I3 g ry rv fun s4 I4 => ⟨σ, H4, I4, q5⟩
/-- del d[y] -/
def uDDel : V → V → Hp → (Hp → Prop) → Prop
  | .ref a, .int i, H, Q => ∃ kvs, H a = some (.dK kvs) ∧ (valV kvs (.inl i)).isSome = true ∧ Q (upd H a (.dK (dropK kvs (.inl i))))
  | .ref a, .str i, H, Q => ∃ kvs, H a = some (.dK kvs) ∧ (valV kvs (.inr i)).isSome = true ∧ Q (upd H a (.dK (dropK kvs (.inr i))))
  | _, _, _, _ => False
theorem uDDel_of {x y : V} {H2 : Hp} {Q : Hp → Prop} (q : uDDel x y H2 Q) : ∃ a kvs k, x = .ref a ∧ H2 a = some (.dK kvs) ∧ y = kV k ∧ (valV kvs k).isSome = true ∧ Q (upd H2 a (.dK (dropK kvs k))) := by
  unfold uDDel at q
  split at q
  · obtain ⟨kvs, h1, h2, q⟩ := q
    exact ⟨_, kvs, .inl _, rfl, h1, rfl, h2, q⟩
  · obtain ⟨kvs, h1, h2, q⟩ := q
    exact ⟨_, kvs, .inr _, rfl, h1, rfl, h2, q⟩
  · exact q.elim
def tDD (td ty : TE) : TS := fun D σ H => td σ H fun x H1 => ty σ H1 fun y H2 => uDDel x y H2 fun H3 => D.nx σ H3
theorem k_ddel (ho : PE X o td) (hi : PE X i ty) : PS X (.Delete [.Subscript o i tpos] pos) (tDD td ty) := by
  refine ⟨fun pins s σ H D I h => ?_⟩
  refine wpAny_Delete (wpAny_deleteEach_cons (wpAny_delete_Subscript (thn (ho.run pins s σ H _ I h) fun u s1 ⟨x, H1, I1, rx, q1⟩ => thn (hi.run pins s1 σ H1 _ I1 q1) fun iv s2 ⟨y, H2, I2, ry, q2⟩ => ?_)))
  obtain ⟨a, kvs, k, ex, e, ey, l, q5⟩ := uDDel_of q2
  subst ex ey
  obtain rfl : u = Value.ref a := rx
  exact d_delItem I2 e ry l fun s3 I3 => wpAny_deleteEach_nil ⟨σ, _, I3, q5⟩
end
section
variable {H : Hp} {a : Addr} {kvs : List (Key × V)} {v : V} {i : Int} {x : Str}
theorem dget_i {Q : VK} (h : H a = some (.dK kvs)) (e : valV kvs (.inl i) = some v) (q : Q v H) : uDGet (.ref a) (.int i) H Q := ⟨kvs, v, h, e, q⟩
theorem dget_s {Q : VK} (h : H a = some (.dK kvs)) (e : valV kvs (.inr x) = some v) (q : Q v H) : uDGet (.ref a) (.str x) H Q := ⟨kvs, v, h, e, q⟩
theorem din_i {Q : Bool → Prop} (h : H a = some (.dK kvs)) (q : Q (valV kvs (.inl i)).isSome) : uDIn (.int i) (.ref a) H Q := ⟨kvs, h, q⟩
theorem din_s {Q : Bool → Prop} (h : H a = some (.dK kvs)) (q : Q (valV kvs (.inr x)).isSome) : uDIn (.str x) (.ref a) H Q := ⟨kvs, h, q⟩
theorem dput_i {Q : Hp → Prop} (h : H a = some (.dK kvs)) (e : kvs.length < sizeLine) (q : Q (upd H a (.dK (putK kvs (.inl i) v)))) : uDPut (.ref a) (.int i) v H Q := ⟨kvs, h, e, q⟩
theorem dput_s {Q : Hp → Prop} (h : H a = some (.dK kvs)) (e : kvs.length < sizeLine) (q : Q (upd H a (.dK (putK kvs (.inr x) v)))) : uDPut (.ref a) (.str x) v H Q := ⟨kvs, h, e, q⟩
theorem ddel_i {Q : Hp → Prop} (h : H a = some (.dK kvs)) (e : (valV kvs (.inl i)).isSome = true) (q : Q (upd H a (.dK (dropK kvs (.inl i))))) : uDDel (.ref a) (.int i) H Q := ⟨kvs, h, e, q⟩
theorem ddel_s {Q : Hp → Prop} (h : H a = some (.dK kvs)) (e : (valV kvs (.inr x)).isSome = true) (q : Q (upd H a (.dK (dropK kvs (.inr x))))) : uDDel (.ref a) (.str x) H Q := ⟨kvs, h, e, q⟩
end
/-! ### built-ins -/
section
variable {X : Cx}
/-- list(xs): of a list or a tuple -/
def uList (K : Frag) : List V → Hp → VK → Prop
  | [.ref p], H, Q => ∃ ys, (SqL K H p ys ∨ SqT K H p ys) ∧ ∀ l, H l = none → Q (.ref l) (upd H l (.lst ys))
  | _, _, _ => False
theorem c_list : CallR X (.type "list") (uList X.K) := CallRw call_list_of fun xs H Q h => by
  unfold uList at h
  split at h
  · obtain ⟨ys, hs, q⟩ := h
    exact ⟨_, ys, rfl, hs, q⟩
  · exact h.elim
theorem list_l {K : Frag} {H : Hp} {p : Addr} {ys : List V} {Q : VK} (h : H p = some (.lst ys)) (q : ∀ l, H l = none → Q (.ref l) (upd H l (.lst ys))) : uList K [.ref p] H Q := ⟨ys, .inl (.of h), q⟩
theorem list_t {K : Frag} {H : Hp} {p : Addr} {ys : List V} {Q : VK} (h : H p = some (.tup ys)) (q : ∀ l, H l = none → Q (.ref l) (upd H l (.lst ys))) : uList K [.ref p] H Q := ⟨ys, .inr (.of h), q⟩
theorem list_sl {K : Frag} {H : Hp} {p : Addr} {ys : List V} {Q : VK} (h : SqL K H p ys) (q : ∀ l, H l = none → Q (.ref l) (upd H l (.lst ys))) : uList K [.ref p] H Q := ⟨ys, .inl h, q⟩
/-- str(x) -/
def uStr : List V → Hp → VK → Prop
  | [.int i], H, Q => i.natAbs.log2 < 1920 ∧ Q (.str (toString i)) H
  | [.str a], H, Q => Q (.str a) H
  | _, _, _ => False
theorem c_str : CallR X (.type "str") uStr := CallRw (r := fun xs H Q => (∃ i, xs = [.int i] ∧ i.natAbs.log2 < 1920 ∧ Q (.str (toString i)) H) ∨ ∃ a, xs = [.str a] ∧ Q (.str a) H) (by
  intro pins s σ H xs us Q I r h
  rcases h with h | h
  · exact call_str_int pins s σ H xs us Q I r h
  · exact SkE.call_str_str pins s σ H xs us Q I r h) fun xs H Q h => by
  unfold uStr at h
  split at h
  · exact .inl ⟨_, rfl, h.1, h.2⟩
  · exact .inr ⟨_, rfl, h⟩
  · exact h.elim
/-- text * k -/
theorem foldl_cps (a : Array Nat) : ∀ (m : Nat) (acc : Array Nat), (List.replicate m a).foldl (· ++ ·) acc = acc ++ (List.replicate m a.toList).flatten.toArray
  | 0, acc => by simp
  | m + 1, acc => by
    rw [List.replicate_succ, List.foldl_cons, foldl_cps a m, List.replicate_succ, List.flatten_cons]
    apply Array.toList_inj.mp
    simp
def repS (a : Str) (k : Nat) : Str := S (List.replicate k a.cps.toList).flatten
theorem repS_len (a : Str) (k : Nat) : (repS a k).length = a.length * k := by
  unfold repS
  rw [S_len]
  have : ∀ k, ((List.replicate k a.cps.toList).flatten).length = a.cps.toList.length * k := fun k => by
    induction k with
    | zero => simp
    | succ k ih => rw [List.replicate_succ, List.flatten_cons, List.length_append, ih, Nat.mul_succ, Nat.add_comm]
  rw [this]
  rfl
theorem op_repS : OpR X (binaryOp .Mult) (fun x y H Q => ∃ a k, x = .str a ∧ y = .int k ∧ 0 ≤ k ∧ k ≤ 1000000 ∧ a.length * k.toNat ≤ sizeLine ∧ Q (.str (repS a k.toNat)) H) := by
  intro pins s σ H x y v u Q I rx ry h
  obtain ⟨a, k, rfl, rfl, h0, h1, hz, q⟩ := h
  obtain ⟨t, rfl⟩ := rx
  obtain ⟨tu, rfl⟩ := ry
  have e1 : (decide (k < -(2 ^ 63 : Int)) || decide (k ≥ 2 ^ 63)) = false := by
    rw [decide_eq_false (by omega), decide_eq_false (by omega)]; rfl
  have hs : sizeLine = 16777216 := sizeLine_eq
  have tl : Builtin.Str.tooLong (a.length * k.toNat) = false := by
    first
      | exact decide_eq_false (by omega)
      | (unfold Builtin.Str.tooLong; exact decide_eq_false (by omega))
      | (unfold Builtin.Str.tooLong; simp; omega)
  refine PySem.P.mul_str e1 (fun h2 h3 => ?_) (fun _ _ => tl) ?_
  · have h4 : (k == 1 || a.length == 0) = false := h3
    have p : 1 ≤ k := by omega
    have hl : (a.length : Int) ≤ 16777216 := by
      have : a.length * 1 ≤ a.length * k.toNat := Nat.mul_le_mul_left _ (by omega)
      omega
    have : (16777216 : Int) ≤ (2 ^ 63 - 1) / k := by
      rw [Int.le_ediv_iff_mul_le (by omega)]
      omega
    omega
  · by_cases c : k < 1
    · rw [if_pos c]
      have e : k = 0 := by omega
      subst e
      exact ⟨by decide, ⟨.str _, H, I.tok _, ⟨_, rfl⟩, q⟩⟩
    · rw [if_neg c]
      by_cases c2 : (k == 1 || a.length == 0) = true
      · rw [if_pos c2]
        have e : repS a k.toNat = a := by
          rcases (by simpa using c2 : k = 1 ∨ a.length = 0) with e | e
          · subst e
            show S (List.replicate 1 a.cps.toList).flatten = a
            rw [show (List.replicate 1 a.cps.toList).flatten = a.cps.toList by simp, S_tl]
          · have l0 : (repS a k.toNat).length = 0 := by rw [repS_len, e, Nat.zero_mul]
            have z : ∀ x : Str, x.length = 0 → x = S [] := fun x hx => by
              rw [← S_tl x]
              have : x.cps.toList = [] := List.eq_nil_of_length_eq_zero (by have : x.cps.toList.length = x.length := rfl; omega)
              rw [this]
            rw [z _ l0, z _ e]
        rw [e] at q
        exact ⟨.str _, H, I, ⟨_, rfl⟩, q⟩
      · rw [if_neg c2]
        have e : (⟨(List.replicate k.toNat a.cps).foldl (· ++ ·) #[]⟩ : Str) = repS a k.toNat := by
          rw [foldl_cps]
          unfold repS
          show _ = Str.mk _
          congr 1
          simp
        rw [e]
        exact ⟨by rw [repS_len]; exact hz, ⟨.str _, H, I.tok _, ⟨_, rfl⟩, q⟩⟩
/-- times: ints, texts, lists -/
def uMul2 : R2
  | .int i, .int j, H, Q => (CMul i j ∨ CMulW i j ∨ CMulX i j) ∧ Q (.int (i * j)) H
  | .str a, .int k, H, Q => 0 ≤ k ∧ k ≤ 1000000 ∧ a.length * k.toNat ≤ sizeLine ∧ Q (.str (repS a k.toNat)) H
  | .ref l, .int k, H, Q => ∃ xs, H l = some (.lst xs) ∧ 0 ≤ k ∧ k ≤ 1000000 ∧ xs.length * k.toNat ≤ sizeLine ∧ ∀ p, H p = none → Q (.ref p) (upd H p (.lst (List.replicate k.toNat xs).flatten))
  | _, _, _, _ => False
theorem o_mul2 : OpR X (binaryOp .Mult) uMul2 := OpRw (op_mul.or (op_mulW.or (op_mulX.or (op_repS.or op_rep)))) fun x y H Q h => by
  unfold uMul2 at h
  split at h
  · obtain ⟨c | c | c, h⟩ := h
    · exact .inl ⟨_, _, rfl, rfl, c, h⟩
    · exact .inr (.inl ⟨_, _, rfl, rfl, c, h⟩)
    · exact .inr (.inr (.inl ⟨_, _, rfl, rfl, c, h⟩))
  · exact .inr (.inr (.inr (.inl ⟨_, _, rfl, rfl, h.1, h.2.1, h.2.2.1, h.2.2.2⟩)))
  · obtain ⟨xs, h1, h2, h3, h4, q⟩ := h
    exact .inr (.inr (.inr (.inr ⟨_, _, xs, rfl, rfl, h1, by omega, by omega, h4, q⟩)))
  · exact h.elim
theorem mul2_l {i j : Int} (h : -18446744073709551616 < i ∧ i < 18446744073709551616) : CMul i j ∨ CMulW i j ∨ CMulX i j := .inl (.inl ⟨by omega, by omega⟩)
theorem mul2_r {i j : Int} (h : -18446744073709551616 < j ∧ j < 18446744073709551616) : CMul i j ∨ CMulW i j ∨ CMulX i j := .inl (.inr ⟨by omega, by omega⟩)
theorem rep_l {H : Hp} {l : Addr} {k : Int} {xs : List V} {Q : VK} (h : H l = some (.lst xs)) (h0 : 0 ≤ k) (h1 : k ≤ 1000000) (h2 : xs.length * k.toNat ≤ sizeLine) (q : ∀ p, H p = none → Q (.ref p) (upd H p (.lst (List.replicate k.toNat xs).flatten))) : uMul2 (.ref l) (.int k) H Q := ⟨xs, h, h0, h1, h2, q⟩
end
end KW

set_option Elab.async false
set_option linter.all false
set_option maxRecDepth 100000
set_option maxHeartbeats 4000000
/-! Kw2e: what the top leaves, made; case lemmas; steps -/
namespace KW
open PySem PySem.Spec PyProof.Rows L2
section
variable {K : Frag} {mg : Str → Option Value} {h : Heap} {x m qual : Str} {C f T : Addr} {st : Stmt} {ns ps : List Str} {oc : Value} {od an : Option Addr} {osl : Array (Option Value)} {kV doc pm cdv ct : Value}
theorem clsA_mk (X : K.In h) (G : h.Ns mainGlobals mg) (a : PySem.W.nsIn K mainGlobals x = some (some (.ref C))) (pg : PySem.W.plainGet K C Str.empty = true) (hd : PySem.W.hasDictIn K C = true) (po : PySem.W.plainOver K C = true)
    (sa : PySem.W.findIn K (.ref C) "__setattr__" = some (some (.builtin "object.__setattr__"))) (no : ∀ f ∈ ns, PySem.W.findIn K (.ref C) f = some none) : ClsA K mg x C ns :=
  ⟨PySem.W.mg_of X G a, ⟨pg, hd, po, sa⟩, no⟩
theorem metAt_mk (a : PySem.W.findIn K (.ref C) m = some (some (.ref f))) (fn : PySem.W.isFn K (.ref f) = true) (kp : PySem.W.keepIn K (.ref f) = true)
    (l : K.lookup f = some ⟨oc, od, .func (PySem.W.fnOf m qual (defArgs st) (defBody st) (defScope st) .none kV doc pm an cdv ct), osl⟩) (c : PySem.W.codeIn K cdv qual = true)
    (hb : ∀ (kV doc pm : Value) (an : Option Addr) (cdv ct : Value) (us : List Value), us.length = ps.length → bindArgs (PySem.W.fnOf m qual (defArgs st) (defBody st) (defScope st) .none kV doc pm an cdv ct) ⟨us, []⟩ = pure (ps.zip us)) : MetAt K C m qual st ps := by
  have F : FunD K m qual (defArgs st) (defBody st) (defScope st) [] [] f _ := ⟨⟨oc, od, .none, kV, doc, pm, an, cdv, ct, osl, rfl, l, c, .inl ⟨rfl, rfl⟩, .inl rfl⟩, kp⟩
  exact ⟨f, ⟨a, fn, kp⟩, _, F, fun j hj => ⟨[], by simpa using Paired.nil, F.bindsN hb⟩⟩
theorem iniAt_mk (kc : PySem.W.keepIn K (.ref C) = true) (mk : PySem.W.makesIn K C = true) (a : PySem.W.findIn K (.ref C) "__init__" = some (some (.ref f))) (fn : PySem.W.isFn K (.ref f) = true) (kp : PySem.W.keepIn K (.ref f) = true)
    (l : K.lookup f = some ⟨oc, od, .func (PySem.W.fnOf "__init__" qual (defArgs st) (defBody st) (defScope st) .none kV doc pm an cdv ct), osl⟩) (c : PySem.W.codeIn K cdv qual = true)
    (hb : ∀ (kV doc pm : Value) (an : Option Addr) (cdv ct : Value) (us : List Value), us.length = ps.length → bindArgs (PySem.W.fnOf "__init__" qual (defArgs st) (defBody st) (defScope st) .none kV doc pm an cdv ct) ⟨us, []⟩ = pure (ps.zip us)) : IniAt K C qual st ps [] := by
  have F : FunD K "__init__" qual (defArgs st) (defBody st) (defScope st) [] [] f _ := ⟨⟨oc, od, .none, kV, doc, pm, an, cdv, ct, osl, rfl, l, c, .inl ⟨rfl, rfl⟩, .inl rfl⟩, kp⟩
  exact ⟨f, ⟨mk, a, fn, kc⟩, _, F, fun j hj => ⟨[], by simpa using Paired.nil, F.bindsN hb⟩⟩
theorem iniAt_mkD {dvs : List V} {its : List Value} {o : Obj} {n : Nat} (kc : PySem.W.keepIn K (.ref C) = true) (mk : PySem.W.makesIn K C = true) (a : PySem.W.findIn K (.ref C) "__init__" = some (some (.ref f))) (fn : PySem.W.isFn K (.ref f) = true) (kp : PySem.W.keepIn K (.ref f) = true)
    (l : K.lookup f = some ⟨oc, od, .func (PySem.W.fnOf "__init__" qual (defArgs st) (defBody st) (defScope st) (.ref T) kV doc pm an cdv ct), osl⟩) (c : PySem.W.codeIn K cdv qual = true)
    (lT : K.lookup T = some o) (oT : o.data = .seq its.toArray n) (r : Vals dvs its) (hd : dvs ≠ []) (hl : dvs.length ≤ ps.length)
    (hb : ∀ j, j ≤ dvs.length → ∀ (T : Addr) (kV doc pm : Value) (an : Option Addr) (cdv ct : Value) (us its : List Value), us.length = ps.length - (dvs.length - j) → its.length = dvs.length →
      ∃ k, bindArgs (PySem.W.fnOf "__init__" qual (defArgs st) (defBody st) (defScope st) (.ref T) kV doc pm an cdv ct) ⟨us, []⟩ = seqItems? (.ref T) >>= k ∧ k (some its.toArray) = pure (ps.zip (us ++ its.drop j))) : IniAt K C qual st ps dvs := by
  have F : FunD K "__init__" qual (defArgs st) (defBody st) (defScope st) dvs [] f _ := ⟨⟨oc, od, .ref T, kV, doc, pm, an, cdv, ct, osl, rfl, l, c, .inr ⟨hd, T, o, its, n, rfl, lT, oT, r⟩, .inl rfl⟩, kp⟩
  exact ⟨f, ⟨mk, a, fn, kc⟩, _, F, fun j hj => F.binds1 (ps.length - (dvs.length - j)) j hd (by omega) (hb j hj)⟩
end
/-! ### case lemmas -/
theorem uStr_e1 {i : Int} {H : Hp} {Q : VK} : uStr [.int i] H Q = (i.natAbs.log2 < 1920 ∧ Q (.str (toString i)) H) := rfl
theorem uStr_e2 {a : Str} {H : Hp} {Q : VK} : uStr [.str a] H Q = Q (.str a) H := rfl
theorem uMul2_e1 {i j : Int} {H : Hp} {Q : VK} : uMul2 (.int i) (.int j) H Q = ((CMul i j ∨ CMulW i j ∨ CMulX i j) ∧ Q (.int (i * j)) H) := rfl
theorem uMul2_e2 {a : Str} {k : Int} {H : Hp} {Q : VK} : uMul2 (.str a) (.int k) H Q = (0 ≤ k ∧ k ≤ 1000000 ∧ a.length * k.toNat ≤ sizeLine ∧ Q (.str (repS a k.toNat)) H) := rfl
theorem okS_i {n : Int} : PySem.KErr.okS (.int n) = (n.natAbs < 10 ^ 4300) := rfl
theorem okS_s {x : Str} : PySem.KErr.okS (.str x) = True := rfl
theorem small4300 {n : Int} (h : -100000000000000000000000000000000000000000000000000000000000000000000000000000000 < n ∧ n < 100000000000000000000000000000000000000000000000000000000000000000000000000000000) : n.natAbs < 10 ^ 4300 := by
  refine Nat.lt_of_lt_of_le (show n.natAbs < 10 ^ 80 by omega) (Nat.pow_le_pow_right (by decide) (by decide))
theorem WE_e {W : WX} {σ : L2.St} {c : Value} {d : Option Addr} {H : Hp} : WE W σ c d H = W c d σ H := rfl
/-! ### errors caught or let through -/
section
variable {K : Frag} {c cls : Value} {d : Option Addr} {i : Nat} {ts : Addr → Value → Option Addr → TS} {W : WX} {D : Ends} {σ : L2.St} {H : Hp}
theorem as_yes (h : PySem.W.exmOne K cls c = some true) (q : ∀ a, H a = none → ts a cls d { nx := fun σ' H' => D.nx (σ'.set i none) H', rt := D.rt, bk := fun σ' H' => D.bk (σ'.set i none) H', ct := fun σ' H' => D.ct (σ'.set i none) H' } (σ.set i (some (.ref a))) H) : wAs K c i ts W D cls d σ H :=
  ⟨true, h, ⟨fun _ => q, fun z => absurd z.symm Bool.false_ne_true⟩⟩
theorem as_no (h : PySem.W.exmOne K cls c = some false) (q : W cls d σ H) : wAs K c i ts W D cls d σ H := ⟨false, h, ⟨fun z => absurd z Bool.false_ne_true, fun _ => q⟩⟩
variable {a C dd : Addr} {fs : List (Str × V)} {v : V} {f : Str} {Q : VK} {P : Program} {w : World} {mg : Str → Option Value} {x : Str} {ns : List Str} {ok : List V → Prop}
theorem ef_l (c : ErrC P w K mg x C ns ok) (m : f ∈ ns) (e : σ[i]? = some (some (.ref a))) (h : H dd = some (.xd fs)) (l : fs.lookup f = some v) (q : Q v H) : uEf K a (.ref C) (some dd) i f σ H Q := ⟨C, dd, fs, v, e, rfl, c.xf, c.no f m, rfl, h, l, q⟩
theorem isE_r {b : Addr} {r : Bool} (c : ErrC P w K mg x C ns ok) (h : H dd = some (.xd fs)) (k : PySem.W.kitOne K (.ref C) (.ref b) = some r) (q : Q (.bl r) H) : uIsE K a (.ref C) (some dd) [.ref a, .ref b] H Q := ⟨C, dd, fs, r, rfl, rfl, c.is, rfl, h, k, q⟩
theorem isE_t {T : String} {r : Bool} (c : ErrC P w K mg x C ns ok) (h : H dd = some (.xd fs)) (k : PySem.W.kitOne K (.ref C) (.type T) = some r) (q : Q (.bl r) H) : uIsE K a (.ref C) (some dd) [.ref a, .ty T] H Q := ⟨C, dd, fs, r, rfl, rfl, c.is, rfl, h, k, q⟩
end
section
variable {H : Hp} {a b p : Addr} {o : HO}
theorem upd_none : upd H a o p = none ↔ p ≠ a ∧ H p = none := by
  by_cases h : p = a
  · subst h; rw [upd_same]; simp
  · rw [upd_ne h]; simp [h]
theorem ne_ud (h : upd H a o p = none) : p ≠ a := (upd_none.mp h).1
theorem ne_un (h : upd H a o p = none) : H p = none := (upd_none.mp h).2
theorem ne_n (h2 : H b = some o) (h : H p = none) : p ≠ b := fun e => by subst e; rw [h] at h2; cases h2
theorem ne_m (h : H p = none) (h2 : H b = some o) : p ≠ b := ne_n h2 h
theorem putF_nil {f : Str} {v : V} : putF f v [] = [(f, v)] := rfl
theorem putF_cons {f g : Str} {v x : V} {r : List (Str × V)} : putF f v ((g, x) :: r) = if g = f then (g, v) :: r else (g, x) :: putF f v r := rfl
end
end KW

set_option Elab.async false
set_option linter.all false
set_option maxRecDepth 100000
set_option maxHeartbeats 4000000
/-! Kw2f: methods of lists, stepwise; lists of texts and of ints -/
namespace KW
open PySem PySem.Spec PyProof.Rows L2
section
variable {K : Frag} {H : Hp} {l b p : Addr} {xs zs : List V} {y v : V} {Q : VK}
theorem app_l (h : H l = some (.lst xs)) (z : xs.length < sizeLine) (q : Q .non (upd H l (.lst (xs ++ [y])))) : rAppend (.ref l) [y] H Q := ⟨l, xs, y, rfl, rfl, h, z, q⟩
theorem ext_l (h : H l = some (.lst xs)) (h2 : H b = some (.lst zs)) (z : xs.length + zs.length ≤ sizeLine) (q : Q .non (upd H l (.lst (xs ++ zs)))) : rExtend (.ref l) [.ref b] H Q := ⟨l, b, xs, zs, rfl, rfl, h, h2, z, q⟩
theorem pop_l (h : H l = some (.lst xs)) (e : xs[xs.length - 1]? = some y) (q : Q y (upd H l (.lst xs.dropLast))) : rPop (.ref l) [] H Q := ⟨l, xs, y, rfl, rfl, h, e, q⟩
theorem pops_l {y : V} (h : H l = some (.lst (xs ++ [y]))) (q : Q y (upd H l (.lst xs))) : rPop (.ref l) [] H Q := ⟨l, _, y, rfl, rfl, h, by simp, by rw [List.dropLast_concat]; exact q⟩
theorem rev_l (h : H l = some (.lst xs)) (q : Q .non (upd H l (.lst xs.reverse))) : rReverse (.ref l) [] H Q := ⟨l, xs, rfl, rfl, h, q⟩
theorem clr_l (h : H l = some (.lst xs)) (q : Q .non (upd H l (.lst []))) : rClear (.ref l) [] H Q := ⟨l, xs, rfl, rfl, h, q⟩
theorem cat_l (h : H l = some (.lst xs)) (h2 : H b = some (.lst zs)) (z : xs.length + zs.length ≤ sizeLine) (q : ∀ p, H p = none → Q (.ref p) (upd H p (.lst (xs ++ zs)))) : rCat (.ref l) (.ref b) H Q := ⟨l, b, xs, zs, rfl, rfl, h, h2, z, q⟩
theorem sll_l {lo hi : Option Int} (h : H l = some (.lst xs)) (q : ∀ p, H p = none → Q (.ref p) (upd H p (.lst (cutV xs lo hi)))) : rSlL K (.ref l) lo hi H Q := ⟨l, xs, rfl, .of h, q⟩
theorem usl_l {lo hi : Option Int} (h : H l = some (.lst xs)) (q : ∀ p, H p = none → Q (.ref p) (upd H p (.lst (cutV xs lo hi)))) : uSl K (.ref l) lo hi H Q := .inl (sll_l h q)
theorem ucat_l (h : H l = some (.lst xs)) (h2 : H b = some (.lst zs)) (z : xs.length + zs.length ≤ sizeLine) (q : ∀ p, H p = none → Q (.ref p) (upd H p (.lst (xs ++ zs)))) : uAdd K (.ref l) (.ref b) H Q := .inl (cat_l h h2 z q)
theorem tru_l {k : Bool → Prop} (h : H l = some (.lst xs)) (q : k (!xs.isEmpty)) : uTru K (.ref l) H k := ⟨_, .inl ⟨xs, .of h, rfl⟩, q⟩
theorem tru_sl {k : Bool → Prop} (h : SqL K H l xs) (q : k (!xs.isEmpty)) : uTru K (.ref l) H k := ⟨_, .inl ⟨xs, h, rfl⟩, q⟩
theorem tru_t {k : Bool → Prop} (h : H l = some (.tup xs)) (q : k (!xs.isEmpty)) : uTru K (.ref l) H k := ⟨_, .inr (.inl ⟨xs, .of h, rfl⟩), q⟩
theorem tru_d {k : Bool → Prop} {kvs : List (Key × V)} (h : H l = some (.dK kvs)) (q : k (!kvs.isEmpty)) : uTru K (.ref l) H k := ⟨_, .inr (.inr ⟨kvs, h, rfl⟩), q⟩
end
section
variable {K : Frag} {H : Hp} {p : Addr} {xs : List V} {Q : VK} {n : String}
theorem isi_l (h : H p = some (.lst xs)) (o : isOk "list" n = true) (q : Q (.bl (isK "list" n)) H) : uIsi K [.ref p, .ty n] H Q := ⟨"list", .base (.lst h), o, q⟩
theorem isi_t (h : H p = some (.tup xs)) (o : isOk "tuple" n = true) (q : Q (.bl (isK "tuple" n)) H) : uIsi K [.ref p, .ty n] H Q := ⟨"tuple", .base (.tup h), o, q⟩
theorem isi_d {kvs : List (Key × V)} (h : H p = some (.dK kvs)) (o : isOk "dict" n = true) (q : Q (.bl (isK "dict" n)) H) : uIsi K [.ref p, .ty n] H Q := ⟨"dict", .base (.dK h), o, q⟩
end
/-! ### lists of texts, of ints -/
section
variable {K : Frag} {H : Hp} {l : Addr} {Q : VK}
theorem flat_strs (xs : List Str) : (xs.map V.str).all flatV = true := by simp [flatV]
theorem flat_ints (xs : List Int) : (xs.map V.int).all flatV = true := by simp [flatV]
theorem inV_strs (x : Str) : ∀ xs : List Str, inV (.str x) (xs.map V.str) = decide (x ∈ xs)
  | [] => rfl
  | a :: r => by
    show ((a == x) || inV (.str x) (r.map V.str)) = decide (x ∈ a :: r)
    rw [inV_strs x r]
    by_cases e : a = x
    · subst e; simp
    · have e2 : ¬ x = a := fun z => e z.symm
      have e3 : (a == x) = false := by simpa using e
      simp [e2, e3]
theorem inV_ints (x : Int) : ∀ xs : List Int, inV (.int x) (xs.map V.int) = decide (x ∈ xs)
  | [] => rfl
  | a :: r => by
    show ((a == x) || inV (.int x) (r.map V.int)) = decide (x ∈ a :: r)
    rw [inV_ints x r]
    by_cases e : a = x
    · subst e; simp
    · have e2 : ¬ x = a := fun z => e z.symm
      have e3 : (a == x) = false := by simpa using e
      simp [e2, e3]
theorem in_s {x : Str} {xs : List Str} (h : H l = some (.lst (xs.map V.str))) (q : Q (.bl (decide (x ∈ xs))) H) : rIn K false (.str x) (.ref l) H Q := ⟨l, _, rfl, .inl (.of h), rfl, flat_strs xs, by rw [inV_strs]; exact q⟩
theorem nin_s {x : Str} {xs : List Str} (h : H l = some (.lst (xs.map V.str))) (q : Q (.bl (!decide (x ∈ xs))) H) : rIn K true (.str x) (.ref l) H Q := ⟨l, _, rfl, .inl (.of h), rfl, flat_strs xs, by rw [inV_strs]; exact q⟩
theorem in_i {x : Int} {xs : List Int} (h : H l = some (.lst (xs.map V.int))) (q : Q (.bl (decide (x ∈ xs))) H) : rIn K false (.int x) (.ref l) H Q := ⟨l, _, rfl, .inl (.of h), rfl, flat_ints xs, by rw [inV_ints]; exact q⟩
theorem nin_i {x : Int} {xs : List Int} (h : H l = some (.lst (xs.map V.int))) (q : Q (.bl (!decide (x ∈ xs))) H) : rIn K true (.int x) (.ref l) H Q := ⟨l, _, rfl, .inl (.of h), rfl, flat_ints xs, by rw [inV_ints]; exact q⟩
theorem idxOf_get {α : Type} [BEq α] [LawfulBEq α] {x : α} : ∀ {xs : List α}, x ∈ xs → xs[xs.idxOf x]? = some x ∧ ∀ m z, m < xs.idxOf x → xs[m]? = some z → z ≠ x
  | [], h => by cases h
  | a :: r, h => by
    by_cases e : a = x
    · subst e
      rw [List.idxOf_cons_self]
      exact ⟨rfl, fun m z hm => absurd hm (Nat.not_lt_zero _)⟩
    · have hm : x ∈ r := by
        rcases List.mem_cons.mp h with q | q
        · exact absurd q.symm e
        · exact q
      obtain ⟨h1, h2⟩ := idxOf_get hm
      have hi : (a :: r).idxOf x = r.idxOf x + 1 := by
        rw [List.idxOf_cons]
        have : (a == x) = false := by simpa using e
        rw [this]
        rfl
      rw [hi]
      refine ⟨h1, fun m z hm hz => ?_⟩
      cases m with
      | zero => simp at hz; rw [← hz]; exact e
      | succ m => exact h2 m z (by omega) hz
theorem idx_s {x : Str} {xs : List Str} (h : H l = some (.lst (xs.map V.str))) (m : x ∈ xs) (q : Q (.int (xs.idxOf x : Nat)) H) : rIndex K (.ref l) [.str x] H Q := by
  obtain ⟨h1, h2⟩ := idxOf_get m
  refine ⟨l, _, .str x, xs.idxOf x, .str x, rfl, rfl, .of h, rfl, flat_strs xs, ?_, by simp [eqV], fun m z hm hz => ?_, q⟩
  · rw [List.getElem?_map, h1]; rfl
  · rw [List.getElem?_map] at hz
    cases e : xs[m]? with
    | none => rw [e] at hz; cases hz
    | some w =>
      rw [e] at hz
      cases hz
      simpa [eqV] using h2 m w hm e
theorem idx_i {x : Int} {xs : List Int} (h : H l = some (.lst (xs.map V.int))) (m : x ∈ xs) (q : Q (.int (xs.idxOf x : Nat)) H) : rIndex K (.ref l) [.int x] H Q := by
  obtain ⟨h1, h2⟩ := idxOf_get m
  refine ⟨l, _, .int x, xs.idxOf x, .int x, rfl, rfl, .of h, rfl, flat_ints xs, ?_, by simp [eqV], fun m z hm hz => ?_, q⟩
  · rw [List.getElem?_map, h1]; rfl
  · rw [List.getElem?_map] at hz
    cases e : xs[m]? with
    | none => rw [e] at hz; cases hz
    | some w =>
      rw [e] at hz
      cases hz
      simpa [eqV] using h2 m w hm e
theorem atI_map {α β : Type} {f : α → β} {xs : List α} {i : Nat} {x : α} (h : xs[i]? = some x) : atI (xs.map f) (i : Int) = some (f x) := atI_nat (by rw [List.getElem?_map, h]; rfl)
end
theorem cutV_from (xs : List V) (n : Nat) : cutV xs (some (n : Int)) none = xs.drop n := by
  unfold cutV
  rw [HT.sIx_nat]
  show (xs.drop (min n xs.length)).take (xs.length - min n xs.length) = xs.drop n
  by_cases h : n ≤ xs.length
  · rw [Nat.min_eq_left h, List.take_of_length_le (by rw [List.length_drop]; omega)]
  · rw [Nat.min_eq_right (by omega), List.drop_length, List.drop_eq_nil_of_le (by omega)]
    simp
theorem cutV_nat (xs : List V) (i j : Nat) : cutV xs (some (i : Int)) (some (j : Int)) = (xs.drop i).take (j - i) := by
  unfold cutV
  rw [HT.sIx_nat, HT.sIx_nat]
  have e : xs.drop (min i xs.length) = xs.drop i := by
    by_cases h : i ≤ xs.length
    · rw [Nat.min_eq_left h]
    · rw [Nat.min_eq_right (by omega), List.drop_length, List.drop_eq_nil_of_le (by omega)]
  rw [e]
  refine List.take_eq_take_iff.mpr ?_
  rw [List.length_drop]
  omega
theorem valV_drop (kvs : List (Key × V)) (k j : Key) : valV (dropK kvs k) j = if j = k then none else valV kvs j := by
  unfold valV dropK
  rw [List.find?_filter]
  by_cases e : j = k
  · subst e
    rw [if_pos rfl]
    have : (kvs.find? fun a => decide (a.1 ≠ j) && decide (a.1 = j)) = none := by
      rw [List.find?_eq_none]
      intro a _
      simp
    simp [this]
  · rw [if_neg e]
    congr 1
    congr 1
    funext a
    by_cases c : a.1 = j
    · have : ¬ a.1 = k := fun z => e (c.symm.trans z)
      simp [c, this, e]
    · simp [c]
/-! ### places in a text -/
def nthS (l : List Stmt) (i : Nat) : Stmt := l.getD i (.Pass ⟨0, 0, 0, 0⟩)
def ifB : Stmt → List Stmt | .If _ b _ _ => b | _ => []
def ifE : Stmt → List Stmt | .If _ _ b _ => b | _ => []
def whB : Stmt → List Stmt | .While _ b _ _ => b | _ => []
def forB : Stmt → List Stmt | .For _ _ b _ _ => b | _ => []
def tryB : Stmt → List Stmt | .Try b _ _ _ _ => b | _ => []
def suB : Stmt → List Stmt | .Try _ [.ExceptHandler _ _ b _] _ _ _ => b | _ => []
/-! ### all but some stands -/
def Fr (l : List Addr) (H H' : Hp) : Prop := ∀ b o, b ∉ l → H b = some o → H' b = some o
theorem Fr.refl {l : List Addr} (H : Hp) : Fr l H H := fun _ _ _ h => h
theorem Fr.trans {l : List Addr} {H H1 H2 : Hp} (x : Fr l H H1) (y : Fr l H1 H2) : Fr l H H2 := fun b o n h => y b o n (x b o n h)
theorem Fr.mono {l m : List Addr} {H H1 : Hp} (x : Fr l H H1) (y : ∀ b, b ∈ l → b ∈ m) : Fr m H H1 := fun b o n h => x b o (fun z => n (y b z)) h
theorem Fr.upd {l : List Addr} {a : Addr} {H : Hp} {o : HO} (h : a ∈ l) : Fr l H (L2.upd H a o) := fun b _ n e => by rw [upd_ne (fun z => n (by rw [z]; exact h))]; exact e
theorem Fr.new {l : List Addr} {p : Addr} {H : Hp} {o : HO} (h : H p = none) : Fr l H (L2.upd H p o) := fun b u _ e => by rw [upd_ne (ne_of_none e h)]; exact e
theorem Fr.lst {l : List Addr} {H H' : Hp} {b : Addr} {o : HO} (x : Fr l H H') (h : H b = some o) (n : b ∉ l) : H' b = some o := x b o n h
theorem Fr.seq {l : List Addr} {b : Addr} {K : Frag} {H H' : Hp} {xs : List V} (e : Fr l H H') (n : b ∉ l) (h : SqL K H b xs) : SqL K H' b xs := by
  rcases h with (h | ⟨o, h⟩) | h
  · exact .inl (.inl (e _ _ n h))
  · exact .inl (.inr ⟨o, e _ _ n h⟩)
  · exact .inr h
end KW

set_option Elab.async false
set_option linter.all false
set_option maxRecDepth 100000
set_option maxHeartbeats 4000000
/-! Kw2g: list comprehensions -/
namespace KW
open PySem PySem.Spec PyProof.Rows L2
/-- the loop of a comprehension, behind the making of its iterator: not opened by simp -/
def lcK (J : It) (g : TG) (tt : TT) (te : TE) (vs : List Nat) (σ : L2.St) (H1 : Hp) (Q : VK) : Prop := ∀ D, H1 D = none → ∃ W : Nat → Nat → Hp → Prop, (∃ m, W 0 m (upd H1 D (.lst []))) ∧ ∀ i m H, W i m H →
  (J.stop i H ∧ Q (.ref D) H) ∨ (J.go i H ∧ ∃ Nx : Hp → Prop, (∀ H', Nx H' → ∃ m', m' < m ∧ W (i + 1) m' H') ∧ ∀ x H', J.yld i H x H' → g x (wipe σ vs) H' fun σ2 H2 => wipe σ2 vs = wipe σ vs ∧ tt σ2 H2 fun b H3 =>
    if b = true then te σ2 H3 fun y H4 => ∃ acc, H4 D = some (.lst acc) ∧ acc.length < sizeLine ∧ Nx (upd H4 D (.lst (acc ++ [y]))) else Nx H3)
def uLc (wi : TI) (g : TG) (tt : TT) (te : TE) (vs : List Nat) : TE := fun σ H Q => wi σ H fun J H1 => lcK J g tt te vs σ H1 Q
section
variable {X : Cx}
theorem k_lc {elt tg iter : Expr} {ifs : List Expr} {scope : Scope} {own : List (Str × Nat)} {pos : Pos} {wi : TI} {g : TG} {tt : TT} {te : TE} (hc : X.calm = true) (hN : X.N.Nodup) (hi : PI X tg iter wi) (ok : BlkOk X.N X.env.scope scope own)
    (hg : ∀ (s : Shared) (H : Hp) (C : Addr) (cl : List (Str × Addr)) (fp : List Addr), PG (X.blk s H scope (compEnvC scope cl C X.env) fp) tg g) (ht : ∀ (s : Shared) (H : Hp) (C : Addr) (cl : List (Str × Addr)) (fp : List Addr), PTs (X.blk s H scope (compEnvC scope cl C X.env) fp) ifs tt)
    (he : ∀ (s : Shared) (H : Hp) (C : Addr) (cl : List (Str × Addr)) (fp : List Addr), PE (X.blk s H scope (compEnvC scope cl C X.env) fp) elt te) (hs : ∀ x, foldedSetIterable iter X.env x = pure x := by intro _; rfl) :
    PE X (.ListComp elt [⟨tg, iter, ifs, 0⟩] scope pos) (uLc wi g tt te (own.map (·.2))) := ⟨(pe_lc hc hN hi ok hg ht he hs).run⟩
theorem k_setLc {i : Nat} {y : Str} {py : Pos} {elt tg iter : Expr} {ifs : List Expr} {scope : Scope} {own : List (Str × Nat)} {pos spos : Pos} {wi : TI} {g : TG} {tt : TT} {te : TE} (hc : X.calm = true) (hN : X.N.Nodup) (hy : X.N[i]? = some y) (hyl : X.env.scope.names.lookup y = some .local)
    (hsw : swapsWith (.ListComp elt [⟨tg, iter, ifs, 0⟩] scope pos) (some (.Name y py)) spos.line X.env = pure true) (hi : PI X tg iter wi) (ok : BlkOk X.N X.env.scope scope own)
    (hg : ∀ (s : Shared) (H : Hp) (C : Addr) (cl : List (Str × Addr)) (fp : List Addr), PG (X.blk s H scope (compEnvC scope cl C X.env) fp) tg g) (ht : ∀ (s : Shared) (H : Hp) (C : Addr) (cl : List (Str × Addr)) (fp : List Addr), PTs (X.blk s H scope (compEnvC scope cl C X.env) fp) ifs tt)
    (he : ∀ (s : Shared) (H : Hp) (C : Addr) (cl : List (Str × Addr)) (fp : List Addr), PE (X.blk s H scope (compEnvC scope cl C X.env) fp) elt te) (hs : ∀ x, foldedSetIterable iter X.env x = pure x := by intro _; rfl) :
    PS X (.Assign [.Name y py] (.ListComp elt [⟨tg, iter, ifs, 0⟩] scope pos) spos) (tAsg (uLc wi g tt te (own.map (·.2))) (gName i)) := ⟨(ps_setLc hc hN hy hyl hsw hi ok hg ht he hs).run⟩
end
/-- over a list, where the items are made without a change of the heap: f tells what each gives -/
theorem lc_pl {K : Frag} {a : Addr} {xs : List V} {g : TG} {tt : TT} {te : TE} {vs : List Nat} {σ : L2.St} {H : Hp} {Q : VK} (f : V → Option V) (hS : SqL K H a xs) (hz : xs.length < sizeLine)
    (hs : ∀ (i : Nat) (x : V) (D : Addr) (acc : List V) (Cy : V → Hp → Prop) (Cn : Hp → Prop), xs[i]? = some x → H D = none → (∀ y, f x = some y → Cy y (upd H D (.lst acc))) → (f x = none → Cn (upd H D (.lst acc))) →
      g x (wipe σ vs) (upd H D (.lst acc)) fun σ2 H2 => wipe σ2 vs = wipe σ vs ∧ tt σ2 H2 fun b H3 => if b = true then te σ2 H3 fun y H4 => Cy y H4 else Cn H3)
    (hq : ∀ D, H D = none → Q (.ref D) (upd H D (.lst (xs.filterMap f)))) : lcK (Itl K a) g tt te vs σ H Q := by
  intro D hD
  refine ⟨fun i m H' => m = xs.length - i ∧ i ≤ xs.length ∧ H' = upd H D (.lst ((xs.take i).filterMap f)), ⟨xs.length, by simp⟩, ?_⟩
  rintro i m H' ⟨rfl, hi, rfl⟩
  have q := SqL.new (o := .lst ((xs.take i).filterMap f)) hD hS
  by_cases hlt : i < xs.length
  · refine .inr ⟨⟨xs, xs[i], q, by simp [hlt]⟩, fun H'' => H'' = upd H D (.lst ((xs.take (i + 1)).filterMap f)), fun H'' e => ⟨xs.length - (i + 1), by omega, rfl, hlt, e⟩, fun x H' y => ?_⟩
    obtain ⟨e, y⟩ := y
    subst e
    have hx := y xs q
    have et : xs.take (i + 1) = xs.take i ++ [x] := by
      rw [List.take_add_one, hx]; rfl
    refine hs i x D _ _ _ hx hD (fun y hy => ⟨_, upd_same, ?_, ?_⟩) fun hn => ?_
    · have h1 : ((xs.take i).filterMap f).length ≤ (xs.take i).length := List.length_filterMap_le _ _
      have h2 : (xs.take i).length ≤ xs.length := by rw [List.length_take]; omega
      omega
    · rw [upd_upd, et, List.filterMap_append]
      simp [hy]
    · rw [et, List.filterMap_append]
      simp [hn]
  · have e : i = xs.length := by omega
    subst e
    refine .inl ⟨⟨xs, q, Nat.le_refl _⟩, ?_⟩
    rw [List.take_length]
    exact hq D hD
theorem lc_pr {lo : Int} {n : Nat} {g : TG} {tt : TT} {te : TE} {vs : List Nat} {σ : L2.St} {H : Hp} {Q : VK} (f : Nat → Option V) (hz : n < sizeLine)
    (hs : ∀ (i : Nat) (D : Addr) (acc : List V) (Cy : V → Hp → Prop) (Cn : Hp → Prop), i < n → H D = none → (∀ y, f i = some y → Cy y (upd H D (.lst acc))) → (f i = none → Cn (upd H D (.lst acc))) →
      g (.int (lo + i)) (wipe σ vs) (upd H D (.lst acc)) fun σ2 H2 => wipe σ2 vs = wipe σ vs ∧ tt σ2 H2 fun b H3 => if b = true then te σ2 H3 fun y H4 => Cy y H4 else Cn H3)
    (hq : ∀ D, H D = none → Q (.ref D) (upd H D (.lst ((List.range n).filterMap f)))) : lcK (Itr lo n) g tt te vs σ H Q := by
  intro D hD
  refine ⟨fun i m H' => m = n - i ∧ i ≤ n ∧ H' = upd H D (.lst ((List.range i).filterMap f)), ⟨n, by simp⟩, ?_⟩
  rintro i m H' ⟨rfl, hi, rfl⟩
  by_cases hlt : i < n
  · refine .inr ⟨hlt, fun H'' => H'' = upd H D (.lst ((List.range (i + 1)).filterMap f)), fun H'' e => ⟨n - (i + 1), by omega, rfl, hlt, e⟩, fun x H' y => ?_⟩
    obtain ⟨e, rfl⟩ := y
    subst e
    refine hs i D _ _ _ hlt hD (fun y hy => ⟨_, upd_same, ?_, ?_⟩) fun hn => ?_
    · have h1 : ((List.range i).filterMap f).length ≤ (List.range i).length := List.length_filterMap_le _ _
      rw [List.length_range] at h1
      omega
    · rw [upd_upd, List.range_succ, List.filterMap_append]
      simp [hy]
    · rw [List.range_succ, List.filterMap_append]
      simp [hn]
  · have e : i = n := by omega
    subst e
    exact .inl ⟨Nat.le_refl _, hq D hD⟩
end KW

set_option Elab.async false
set_option linter.all false
set_option maxRecDepth 100000
set_option maxHeartbeats 4000000
/-! Kw2h: sorted, sum, walks over dicts -/
namespace KW
open PySem PySem.Spec PyProof.Rows L2
section
variable {X : Cx}
theorem pe_or {e : Expr} {t t' : TE} (h : PE X e t) (h' : PE X e t') : PE X e (fun σ H Q => t σ H Q ∨ t' σ H Q) := ⟨fun pins s σ H Q I q => q.elim (h.run pins s σ H Q I) (h'.run pins s σ H Q I)⟩
theorem ps_or {e : Stmt} {t t' : TS} (h : PS X e t) (h' : PS X e t') : PS X e (fun D σ H => t D σ H ∨ t' D σ H) := ⟨fun pins s σ H D I q => q.elim (h.run pins s σ H D I) (h'.run pins s σ H D I)⟩
/-- sorted(d) of a dict whose keys are ints -/
theorem call_sortedDN (hcalm : X.calm = true) : CallR X (.builtin "sorted") (fun xs H Q => ∃ (a : Addr) (kvs : List (Key × V)) (ks : List Int), xs = [.ref a] ∧ Rd H a (.dK kvs) ∧ kvs.map (·.1) = ks.map Sum.inl ∧ ks.length ≤ sizeLine ∧
    ∀ (ys : List Int) (p : Addr), ys.Perm ks → ys.Pairwise (· ≤ ·) → H p = none → Q (.ref p) (upd H p (.lst (ys.map V.int)))) := by
  intro pins s σ H xs us Q I r q
  obtain ⟨a, kvs, ks, ex, hd, hks, h64, q⟩ := q
  subst ex
  obtain ⟨u, eu, rx⟩ := vals1 r
  subst eu
  cases rx
  obtain ⟨z, lo, vs, rel, dd⟩ := dk_rd I.hok hd
  obtain ⟨ep, hat⟩ := dd.dictAt
  have hkeys : vs.map (·.1) = ks.map Sum.inl := rel.keys.symm.trans hks
  have hl : vs.length = ks.length := by
    have e := congrArg List.length hkeys
    rw [List.length_map, List.length_map] at e
    exact e
  have h16 : vs.length ≤ sizeLine := by rw [hl]; exact h64
  refine Calls.call_function_entry PyProof.Rows.kind_sorted PyProof.Rows.plain_sorted PyProof.Rows.entry_sorted (PyProof.Rows.args_sorted1 _) ?_
  unfold Builtin.«sorted»
  refine wpAny_bind (m := checkCount "sorted" 1 1 _) (wpAny_pure ?_)
  refine wpAny_bind (PySem.W.kdu_collect (A := X.A.in1) (PySem.W.kdl_dict (knd := mixKind X.prog X.w) (kvs := vs) (ep := ep) lo) (I.ok.hd hcalm) hat h16 fun h' tk acc hk hacc => ?_)
  have hal : acc.toList.length = ks.length := by rw [Array.length_toList, hacc.1, hl]
  have hS : IntsAre acc.toList ks := ints_each hal fun j v e => by
    obtain ⟨k, x, e1, e2⟩ := hacc.2 j v (by rw [← Array.getElem?_toList]; exact e)
    have e3 : (vs.map (·.1))[j]? = some k := by rw [List.getElem?_map, e1]; rfl
    rw [hkeys, List.getElem?_map] at e3
    cases e4 : ks[j]? with
    | none => rw [e4] at e3; cases e3
    | some y =>
      rw [e4] at e3
      have e5 : Sum.inl y = k := Option.some.inj e3
      subst e5
      rcases keyIs_shape (show keyIs (Sum.inl y) v = true from e2) with ⟨i, t, ek, ev⟩ | ⟨z, t, ek, ev⟩
      · cases ek
        exact ⟨y, t, rfl, ev⟩
      · cases ek
  have I1 : Inv X pins σ H { s with heap := h', toks := tk } := I.kept hk
  refine wpAny_bind (wpAny_newList ?_ (by rw [hal]; exact h64))
  have hoL : (h'.push (seqObj "list" acc.toList.toArray 0)).get? h'.objs.size = some (seqObj "list" acc.toList.toArray 0) := Heap.get?_push_size _ rfl
  show wpAny _ _ _ _ _ { s with heap := h'.push (seqObj "list" acc.toList.toArray 0), toks := tk }
  refine wpAny_bind (wpAny_holding (wpAny_call_entry PyProof.Rows.slot_list_sort ⟨_, hoL, rfl⟩ PyProof.Rows.entry_list_sort
    (SrtO.list_sort_ord (s := { s with heap := h'.push (seqObj "list" acc.toList.toArray 0), toks := tk }) SrtO.swo_int hoL (by rw [hal]; exact h64) (fun h2 => SrtO.ints_sortable hS h2) fun out hs hb => ⟨_, rfl, ?_⟩) (PyProof.Rows.args_list_sort _)))
  obtain ⟨g1, g2, g3⟩ := SrtO.ints_out hS hs hb
  obtain ⟨e', he'⟩ := PyProof.Rows.sortedHeap_at (vs := acc.toList) (out := out.toArray) hoL
  have hlen : ((out.map SrtO.iv).map V.int).length ≤ sizeLine := by
    rw [List.length_map, g2.length_eq]
    exact h64
  refine wpAny_pure ⟨_, rfl, .ref h'.objs.size, upd H h'.objs.size (.lst ((out.map SrtO.iv).map V.int)), I1.laid (t' := tk) (fun b u e => ?_) (Nat.le_refl _)
    (show ObjOk X.prog X.w _ _ _ (.lst ((out.map SrtO.iv).map V.int)) from ⟨hlen, out, e', vals_of_ints g1, he'⟩), rfl, q _ _ g2 g3 (I1.hok.fresh (Nat.le_refl _))⟩
  have hb : b < h'.objs.size := Heap.lt_size e
  rw [PyProof.Rows.sortedHeap_old (Nat.ne_of_lt hb) (by rw [size_push']; exact Nat.lt_succ_of_lt hb)]
  exact Heap.get?_push_of_some _ e
/-- sorted(x): a list of ints, a dict with ints as keys -/
def uSorted (K : Frag) : List V → Hp → VK → Prop := fun xs H Q => (∃ (a : Addr) (ns : List Int), xs = [V.ref a] ∧ SqL K H a (ns.map V.int) ∧ ∀ (ys : List Int) (p : Addr), ys.Perm ns → ys.Pairwise (· ≤ ·) → H p = none → Q (.ref p) (upd H p (.lst (ys.map V.int)))) ∨
  (∃ (a : Addr) (kvs : List (Key × V)) (ks : List Int), xs = [.ref a] ∧ Rd H a (.dK kvs) ∧ kvs.map (·.1) = ks.map Sum.inl ∧ ks.length ≤ sizeLine ∧ ∀ (ys : List Int) (p : Addr), ys.Perm ks → ys.Pairwise (· ≤ ·) → H p = none → Q (.ref p) (upd H p (.lst (ys.map V.int))))
theorem c_sorted (hcalm : X.calm = true) : CallR X (.builtin "sorted") (uSorted X.K) := fun pins s σ H xs us Q I r h => by
  rcases h with h | h
  · exact cr_sortedI pins s σ H xs us Q I r h
  · exact call_sortedDN hcalm pins s σ H xs us Q I r h
theorem srt_l {K : Frag} {H : Hp} {a : Addr} {ns : List Int} {Q : VK} (h : H a = some (.lst (ns.map V.int))) (q : ∀ (ys : List Int) (p : Addr), ys.Perm ns → ys.Pairwise (· ≤ ·) → H p = none → Q (.ref p) (upd H p (.lst (ys.map V.int)))) : uSorted K [.ref a] H Q := .inl ⟨a, ns, rfl, .of h, q⟩
theorem srt_d {K : Frag} {H : Hp} {a : Addr} {kvs : List (Key × V)} {ks : List Int} {Q : VK} (h : H a = some (.dK kvs)) (e : kvs.map (·.1) = ks.map Sum.inl) (z : ks.length ≤ sizeLine) (q : ∀ (ys : List Int) (p : Addr), ys.Perm ks → ys.Pairwise (· ≤ ·) → H p = none → Q (.ref p) (upd H p (.lst (ys.map V.int)))) : uSorted K [.ref a] H Q := .inr ⟨a, kvs, ks, rfl, .inl h, e, z, q⟩
/-- sum(xs), ints -/
def uSum (K : Frag) : List V → Hp → VK → Prop := rSum K
theorem c_sum (hc : X.calm = true) : CallR X (.builtin "sum") (uSum X.K) := cr_sum hc
theorem sum_l {K : Frag} {H : Hp} {a : Addr} {ns : List Int} {Q : VK} (h : H a = some (.lst (ns.map V.int))) (q : Q (.int ns.sum) H) : uSum K [.ref a] H Q := ⟨a, ns, rfl, .of h, q⟩
end
/-- a comprehension over a locked dict's keys (ints), where the items are made without a change of the heap -/
theorem lc_pk {d : Addr} {o : Obj} {kvs : List (Key × V)} {ks : List Int} {g : TG} {tt : TT} {te : TE} {vs : List Nat} {σ : L2.St} {H : Hp} {Q : VK} (f : Int → Option V) (hS : H d = some (.frz o (.dK kvs))) (hk : kvs.map (·.1) = ks.map Sum.inl) (hz : ks.length < sizeLine)
    (hs : ∀ (i : Nat) (x : Int) (D : Addr) (acc : List V) (Cy : V → Hp → Prop) (Cn : Hp → Prop), ks[i]? = some x → H D = none → (∀ y, f x = some y → Cy y (upd H D (.lst acc))) → (f x = none → Cn (upd H D (.lst acc))) →
      g (.int x) (wipe σ vs) (upd H D (.lst acc)) fun σ2 H2 => wipe σ2 vs = wipe σ vs ∧ tt σ2 H2 fun b H3 => if b = true then te σ2 H3 fun y H4 => Cy y H4 else Cn H3)
    (hq : ∀ D, H D = none → Q (.ref D) (upd H D (.lst (ks.filterMap f)))) : lcK (Itk d o kvs) g tt te vs σ H Q := by
  intro D hD
  have hl : kvs.length = ks.length := by
    have := congrArg List.length hk
    rw [List.length_map, List.length_map] at this
    exact this
  refine ⟨fun i m H' => m = ks.length - i ∧ i ≤ ks.length ∧ H' = upd H D (.lst ((ks.take i).filterMap f)), ⟨ks.length, by simp⟩, ?_⟩
  rintro i m H' ⟨rfl, hi, rfl⟩
  have hne : d ≠ D := ne_of_none hS hD
  have q : upd H D (.lst ((ks.take i).filterMap f)) d = some (.frz o (.dK kvs)) := by rw [upd_ne hne]; exact hS
  by_cases hlt : i < ks.length
  · refine .inr ⟨⟨q, by omega⟩, fun H'' => H'' = upd H D (.lst ((ks.take (i + 1)).filterMap f)), fun H'' e => ⟨ks.length - (i + 1), by omega, rfl, hlt, e⟩, fun x H' y => ?_⟩
    obtain ⟨e, k, v, hkv, rfl⟩ := y
    subst e
    have e3 : (kvs.map (·.1))[i]? = some k := by rw [List.getElem?_map, hkv]; rfl
    rw [hk, List.getElem?_map] at e3
    obtain ⟨x, hx⟩ : ∃ x, ks[i]? = some x := ⟨_, List.getElem?_eq_getElem hlt⟩
    rw [hx] at e3
    have e5 : Sum.inl x = k := Option.some.inj e3
    subst e5
    have et : ks.take (i + 1) = ks.take i ++ [x] := by
      rw [List.take_add_one, hx]; rfl
    refine hs i x D _ _ _ hx hD (fun y hy => ⟨_, upd_same, ?_, ?_⟩) fun hn => ?_
    · have h1 : ((ks.take i).filterMap f).length ≤ (ks.take i).length := List.length_filterMap_le _ _
      have h2 : (ks.take i).length ≤ ks.length := by rw [List.length_take]; omega
      omega
    · rw [upd_upd, et, List.filterMap_append]
      simp [hy]
    · rw [et, List.filterMap_append]
      simp [hn]
  · have e : i = ks.length := by omega
    subst e
    refine .inl ⟨⟨q, by omega⟩, ?_⟩
    rw [List.take_length]
    exact hq D hD
end KW

set_option Elab.async false
set_option linter.all false
set_option maxRecDepth 100000
set_option maxHeartbeats 4000000
/-! Kw2i: the rules with the frag told (within comprehensions) -/
namespace KW
theorem isEmpty_app {α : Type} (xs ys : List α) : (xs ++ ys).isEmpty = (xs.isEmpty && ys.isEmpty) := by cases xs <;> simp
open PySem PySem.Spec PyProof.Rows L2
section
variable {X : Cx} (K : Frag)
theorem ktK {e : Expr} {t : TE} (h : PE X e t) (he : ∀ whole, isTrue e X.env whole = (do let v ← whole; standAt e.pos; holding [v] (truthy v)) := by intro _; rfl) (hK : X.K = K := by rfl) : PT X e (uTest K t) := hK ▸ kt h he
theorem o_addK (hK : X.K = K := by rfl) : OpR X (binaryOp .Add) (uAdd K) := hK ▸ o_add
theorem o_eqK (hu : X.A.units + 64 < cLine) (hK : X.K = K := by rfl) : OpR X (compareOp .Eq) (uEq K) := hK ▸ o_eq hu
theorem o_neK (hu : X.A.units + 64 < cLine) (hK : X.K = K := by rfl) : OpR X (compareOp .NotEq) (uNe K) := hK ▸ o_ne hu
theorem o_inK (hK : X.K = K := by rfl) : OpR X (compareOp .In) (uIn K) := hK ▸ o_in
theorem o_notinK (hK : X.K = K := by rfl) : OpR X (compareOp .NotIn) (uNotIn K) := hK ▸ o_notin
theorem o_ixK (hK : X.K = K := by rfl) : IxR X (uIx K) := hK ▸ o_ix
theorem o_slK (hK : X.K = K := by rfl) : SlR X (uSl K) := hK ▸ o_sl
theorem c_lenK (hK : X.K = K := by rfl) : CallR X (.builtin "len") (uLen K) := hK ▸ c_len
theorem c_isiK (hK : X.K = K := by rfl) : CallR X (.builtin "isinstance") (uIsi K) := hK ▸ c_isi
theorem c_listK (hK : X.K = K := by rfl) : CallR X (.type "list") (uList K) := hK ▸ c_list
theorem c_sortedK (hc : X.calm = true) (hK : X.K = K := by rfl) : CallR X (.builtin "sorted") (uSorted K) := hK ▸ c_sorted hc
theorem c_sumK (hc : X.calm = true) (hK : X.K = K := by rfl) : CallR X (.builtin "sum") (uSum K) := hK ▸ c_sum hc
theorem k_fldK {e : Expr} {t : TE} {f : Str} {pos : Pos} (he : PE X e t) (hb : attributeBase e f X.env (eval e X.env) = eval e X.env) (hK : X.K = K := by rfl) : PE X (.Attribute e f pos) (uFld K t f) := hK ▸ k_fld he hb
theorem mt_indexK (hK : X.K = K := by rfl) : MtR X "list.index" (rIndex K) := hK ▸ mt_index
theorem pi_listK {tg l : Expr} {tl : TE} (hl : PE X l tl) (hK : X.K = K := by rfl) : PI X tg l (iList K tl) := hK ▸ pi_list hl
end
/-- of a list of ints, ints again -/
theorem lc_ii {K : Frag} {a : Addr} {xs : List Int} {g : TG} {tt : TT} {te : TE} {vs : List Nat} {σ : L2.St} {H : Hp} {Q : VK} (f : Int → Option Int) (hS : SqL K H a (xs.map V.int)) (hz : xs.length < sizeLine)
    (hs : ∀ (i : Nat) (x : Int) (D : Addr) (acc : List V) (Cy : V → Hp → Prop) (Cn : Hp → Prop), xs[i]? = some x → H D = none → (∀ y, f x = some y → Cy (.int y) (upd H D (.lst acc))) → (f x = none → Cn (upd H D (.lst acc))) →
      g (.int x) (wipe σ vs) (upd H D (.lst acc)) fun σ2 H2 => wipe σ2 vs = wipe σ vs ∧ tt σ2 H2 fun b H3 => if b = true then te σ2 H3 fun y H4 => Cy y H4 else Cn H3)
    (hq : ∀ D, H D = none → Q (.ref D) (upd H D (.lst ((xs.filterMap f).map V.int)))) : lcK (Itl K a) g tt te vs σ H Q := by
  refine lc_pl (fun v => match v with | .int i => (f i).map V.int | _ => none) hS (by rw [List.length_map]; exact hz) (fun i x D acc Cy Cn hx hD h1 h2 => ?_) fun D hD => ?_
  · rw [List.getElem?_map] at hx
    cases e : xs[i]? with
    | none => rw [e] at hx; cases hx
    | some z =>
      rw [e] at hx
      cases hx
      exact hs i z D acc Cy Cn e hD (fun y hy => h1 _ (by simp [hy])) fun hn => h2 (by simp [hn])
  · have e : (xs.map V.int).filterMap (fun v => match v with | .int i => (f i).map V.int | _ => none) = (xs.filterMap f).map V.int := by
      rw [List.filterMap_map, List.map_filterMap]; rfl
    rw [e]
    exact hq D hD
/-- over a list of anything told by F -/
theorem lc_f {α : Type} {K : Frag} {a : Addr} {xs : List α} {F : α → V} {g : TG} {tt : TT} {te : TE} {vs : List Nat} {σ : L2.St} {H : Hp} {Q : VK} (f : α → Option V) (hS : SqL K H a (xs.map F)) (hz : xs.length < sizeLine)
    (hs : ∀ (i : Nat) (x : α) (D : Addr) (acc : List V) (Cy : V → Hp → Prop) (Cn : Hp → Prop), xs[i]? = some x → H D = none → (∀ y, f x = some y → Cy y (upd H D (.lst acc))) → (f x = none → Cn (upd H D (.lst acc))) →
      g (F x) (wipe σ vs) (upd H D (.lst acc)) fun σ2 H2 => wipe σ2 vs = wipe σ vs ∧ tt σ2 H2 fun b H3 => if b = true then te σ2 H3 fun y H4 => Cy y H4 else Cn H3)
    (hq : ∀ D, H D = none → Q (.ref D) (upd H D (.lst (xs.filterMap f)))) : lcK (Itl K a) g tt te vs σ H Q := by
  intro D hD
  refine ⟨fun i m H' => m = xs.length - i ∧ i ≤ xs.length ∧ H' = upd H D (.lst ((xs.take i).filterMap f)), ⟨xs.length, by simp⟩, ?_⟩
  rintro i m H' ⟨rfl, hi, rfl⟩
  have q := SqL.new (o := .lst ((xs.take i).filterMap f)) hD hS
  by_cases hlt : i < xs.length
  · refine .inr ⟨⟨_, F xs[i], q, by simp [hlt]⟩, fun H'' => H'' = upd H D (.lst ((xs.take (i + 1)).filterMap f)), fun H'' e => ⟨xs.length - (i + 1), by omega, rfl, hlt, e⟩, fun x H' y => ?_⟩
    obtain ⟨e, y⟩ := y
    subst e
    have hx := y _ q
    obtain ⟨z, hz1⟩ : ∃ z, xs[i]? = some z := ⟨_, List.getElem?_eq_getElem hlt⟩
    rw [List.getElem?_map, hz1] at hx
    cases hx
    have et : xs.take (i + 1) = xs.take i ++ [z] := by
      rw [List.take_add_one, hz1]; rfl
    refine hs i z D _ _ _ hz1 hD (fun y hy => ⟨_, upd_same, ?_, ?_⟩) fun hn => ?_
    · have h1 : ((xs.take i).filterMap f).length ≤ (xs.take i).length := List.length_filterMap_le _ _
      have h2 : (xs.take i).length ≤ xs.length := by rw [List.length_take]; omega
      omega
    · rw [upd_upd, et, List.filterMap_append]
      simp [hy]
    · rw [et, List.filterMap_append]
      simp [hn]
  · have e : i = xs.length := by omega
    subst e
    refine .inl ⟨⟨_, q, by simp⟩, ?_⟩
    rw [List.take_length]
    exact hq D hD
/-- over a range, any answers, the heap may change: Pv tells the list made so far (at D) and the heap -/
theorem lc_rG {lo : Int} {n : Nat} {g : TG} {tt : TT} {te : TE} {vs : List Nat} {σ : L2.St} {H : Hp} {Q : VK} (Pv : Nat → Addr → List V → Hp → Prop) (h0 : ∀ D, H D = none → Pv 0 D [] (upd H D (.lst [])))
    (hs : ∀ (i : Nat) (D : Addr) (acc : List V) (H' : Hp) (Nx : Hp → Prop), i < n → H D = none → Pv i D acc H' → (∀ acc H'', Pv (i + 1) D acc H'' → Nx H'') → g (.int (lo + i)) (wipe σ vs) H' fun σ2 H2 => wipe σ2 vs = wipe σ vs ∧ tt σ2 H2 fun b H3 => if b = true then te σ2 H3 fun y H4 => ∃ acc, H4 D = some (.lst acc) ∧ acc.length < sizeLine ∧ Nx (upd H4 D (.lst (acc ++ [y]))) else Nx H3)
    (hq : ∀ D acc H', H D = none → Pv n D acc H' → Q (.ref D) H') : lcK (Itr lo n) g tt te vs σ H Q := by
  intro D hD
  refine ⟨fun i m H' => m = n - i ∧ i ≤ n ∧ ∃ acc, Pv i D acc H', ⟨n, rfl, Nat.zero_le _, [], h0 D hD⟩, ?_⟩
  rintro i m H' ⟨rfl, hi, acc, hP⟩
  by_cases hlt : i < n
  · refine .inr ⟨hlt, fun H'' => ∃ acc, Pv (i + 1) D acc H'', fun H'' e => ⟨n - (i + 1), by omega, rfl, hlt, e⟩, fun x H2 y => ?_⟩
    obtain ⟨e, rfl⟩ := y
    subst e
    exact hs i D acc _ _ hlt hD hP fun acc H'' h => ⟨acc, h⟩
  · have e : i = n := by omega
    subst e
    exact .inl ⟨Nat.le_refl _, hq D acc H' hD hP⟩
/-- over a list -/
theorem lc_lG {α : Type} {K : Frag} {a : Addr} {xs : List α} {F : α → V} {g : TG} {tt : TT} {te : TE} {vs : List Nat} {σ : L2.St} {H : Hp} {Q : VK} (Pv : Nat → Addr → List V → Hp → Prop) (h0 : ∀ D, H D = none → Pv 0 D [] (upd H D (.lst [])))
    (hl : ∀ i D acc H', Pv i D acc H' → SqL K H' a (xs.map F))
    (hs : ∀ (i : Nat) (x : α) (D : Addr) (acc : List V) (H' : Hp) (Nx : Hp → Prop), xs[i]? = some x → H D = none → Pv i D acc H' → (∀ acc H'', Pv (i + 1) D acc H'' → Nx H'') → g (F x) (wipe σ vs) H' fun σ2 H2 => wipe σ2 vs = wipe σ vs ∧ tt σ2 H2 fun b H3 => if b = true then te σ2 H3 fun y H4 => ∃ acc, H4 D = some (.lst acc) ∧ acc.length < sizeLine ∧ Nx (upd H4 D (.lst (acc ++ [y]))) else Nx H3)
    (hq : ∀ D acc H', H D = none → Pv xs.length D acc H' → Q (.ref D) H') : lcK (Itl K a) g tt te vs σ H Q := by
  intro D hD
  refine ⟨fun i m H' => m = xs.length - i ∧ i ≤ xs.length ∧ ∃ acc, Pv i D acc H', ⟨xs.length, rfl, Nat.zero_le _, [], h0 D hD⟩, ?_⟩
  rintro i m H' ⟨rfl, hi, acc, hP⟩
  have q := hl i D acc H' hP
  by_cases hlt : i < xs.length
  · refine .inr ⟨⟨_, F xs[i], q, by simp [hlt]⟩, fun H'' => ∃ acc, Pv (i + 1) D acc H'', fun H'' e => ⟨xs.length - (i + 1), by omega, rfl, hlt, e⟩, fun x H2 y => ?_⟩
    obtain ⟨e, y⟩ := y
    subst e
    have hx := y _ q
    obtain ⟨z, hz1⟩ : ∃ z, xs[i]? = some z := ⟨_, List.getElem?_eq_getElem hlt⟩
    rw [List.getElem?_map, hz1] at hx
    cases hx
    exact hs i z D acc _ _ hz1 hD hP fun acc H'' h => ⟨acc, h⟩
  · have e : i = xs.length := by omega
    subst e
    exact .inl ⟨⟨_, q, by simp⟩, hq D acc H' hD hP⟩
/-- over reversed(xs) -/
theorem for_rev {K : Frag} {a : Addr} {xs : List V} {g : TG} {tb : TS} {D : Ends} {σ : L2.St} {H : Hp} (Pv : Nat → L2.St → Hp → Prop) (h0 : Pv 0 σ H) (hl : ∀ i σ H, i ≤ xs.length → Pv i σ H → SqL K H a xs)
    (hs : ∀ i x σ H, i < xs.length → xs[xs.length - 1 - i]? = some x → Pv i σ H → g x σ H fun σ2 H2 => tb { D with nx := Pv (i + 1), ct := Pv (i + 1), bk := D.nx } σ2 H2) (hd : ∀ σ H, Pv xs.length σ H → D.nx σ H) : forK (Itv K a xs.length) g tb D σ H := by
  refine ⟨fun i m σ H => m = xs.length - i ∧ i ≤ xs.length ∧ Pv i σ H, ⟨xs.length, rfl, Nat.zero_le _, h0⟩, ?_⟩
  rintro i m σ H ⟨rfl, hi, p⟩
  have q := hl i σ H hi p
  by_cases hlt : i < xs.length
  · refine .inr ⟨⟨hlt, xs, xs[xs.length - 1 - i], q, by rw [List.getElem?_eq_getElem]⟩, Pv (i + 1), fun σ' H' p' => ⟨xs.length - (i + 1), by omega, rfl, hlt, p'⟩, fun x H' y => ?_⟩
    obtain ⟨e, y⟩ := y
    subst e
    exact hs i x σ _ hlt (y xs q) p
  · have e : i = xs.length := by omega
    subst e
    exact .inl ⟨Nat.le_refl _, hd σ H p⟩
end KW
namespace KW
open PySem PySem.Spec PyProof.Rows L2
/-- dict(d): a copy -/
def uDict : List V → Hp → VK → Prop
  | [.ref a], H, Q => ∃ kvs, H a = some (.dK kvs) ∧ ∀ p, H p = none → Q (.ref p) (upd H p (.dK kvs))
  | _, _, _ => False
theorem c_dict {X : Cx} : CallR X (.type "dict") uDict := CallRw call_dictD fun xs H Q h => by
  unfold uDict at h
  split at h
  · obtain ⟨kvs, hs, q⟩ := h
    exact ⟨_, kvs, rfl, .of hs, q⟩
  · exact h.elim
theorem dict_d {H : Hp} {a : Addr} {kvs : List (Key × V)} {Q : VK} (h : H a = some (.dK kvs)) (q : ∀ p, H p = none → Q (.ref p) (upd H p (.dK kvs))) : uDict [.ref a] H Q := ⟨kvs, h, q⟩
end KW

set_option Elab.async false
set_option linter.all false
set_option maxRecDepth 100000
/-! StT: stores of blocks, in plain Lean -/
namespace ST
structure Blk where
  n : Int
  k : Int
  s : List Int
  al : Bool
def Blk.ws (e : Blk) : List Int := e.n :: (e.s.length : Int) :: e.k :: e.s
theorem Blk.ws_len (e : Blk) : e.ws.length = e.s.length + 3 := by simp [Blk.ws]
def flat (B : List Blk) : List Int := B.flatMap Blk.ws
theorem flat_nil : flat [] = [] := rfl
theorem flat_cons (e : Blk) (B : List Blk) : flat (e :: B) = e.ws ++ flat B := by simp [flat]
theorem flat_app (B C : List Blk) : flat (B ++ C) = flat B ++ flat C := by simp [flat]
def off (B : List Blk) (i : Nat) : Nat := (flat (B.take i)).length
def lv (B : List Blk) (n : Int) : Bool := B.any fun e => e.al && decide (e.n = n)
theorem lv_iff {B : List Blk} {n : Int} : lv B n = true ↔ ∃ (i : Nat) (e : Blk), B[i]? = some e ∧ e.al = true ∧ e.n = n := by
  simp only [lv, List.any_eq_true, Bool.and_eq_true, decide_eq_true_eq]
  constructor
  · rintro ⟨e, he, h1, h2⟩
    obtain ⟨i, hi⟩ := List.getElem?_of_mem he
    exact ⟨i, e, hi, h1, h2⟩
  · rintro ⟨i, e, hi, h1, h2⟩
    exact ⟨e, List.mem_of_getElem? hi, h1, h2⟩
/-- living blocks have different numbers -/
def Nd (B : List Blk) : Prop := ∀ (i j : Nat) (e f : Blk), B[i]? = some e → B[j]? = some f → e.al = true → f.al = true → e.n = f.n → i = j
theorem split_at {B : List Blk} {i : Nat} {e : Blk} (h : B[i]? = some e) : B = B.take i ++ e :: B.drop (i + 1) := by
  obtain ⟨h1, h2⟩ := List.getElem?_eq_some_iff.mp h
  conv => lhs; rw [← List.take_append_drop i B]
  rw [List.drop_eq_getElem_cons h1, h2]
theorem flat_at {B : List Blk} {i : Nat} {e : Blk} (h : B[i]? = some e) : flat B = flat (B.take i) ++ (e.ws ++ flat (B.drop (i + 1))) := by
  conv => lhs; rw [split_at h]
  rw [flat_app, flat_cons]
theorem set_at {B : List Blk} {i : Nat} {e f : Blk} (h : B[i]? = some e) : B.set i f = B.take i ++ f :: B.drop (i + 1) := by
  obtain ⟨h1, h2⟩ := List.getElem?_eq_some_iff.mp h
  rw [List.set_eq_take_append_cons_drop, if_pos h1]
theorem flat_set {B : List Blk} {i : Nat} {e f : Blk} (h : B[i]? = some e) : flat (B.set i f) = flat (B.take i) ++ (f.ws ++ flat (B.drop (i + 1))) := by
  rw [set_at h, flat_app, flat_cons]
theorem off_add {B : List Blk} {i : Nat} {e : Blk} (h : B[i]? = some e) : off B i + (e.s.length + 3) ≤ (flat B).length := by
  rw [flat_at h]
  simp only [List.length_append, Blk.ws_len, off]
  omega
theorem off_get {B : List Blk} {i j : Nat} {e : Blk} (h : B[i]? = some e) (hj : j < e.s.length + 3) : (flat B)[off B i + j]? = e.ws[j]? := by
  rw [flat_at h, List.getElem?_append_right (by simp only [off]; omega), List.getElem?_append_left (by rw [Blk.ws_len]; simp only [off]; omega)]
  simp [off]
theorem get_num {B : List Blk} {i : Nat} {e : Blk} (h : B[i]? = some e) : (flat B)[off B i]? = some e.n := by
  have := off_get (j := 0) h (by omega); simpa [Blk.ws] using this
theorem get_size {B : List Blk} {i : Nat} {e : Blk} (h : B[i]? = some e) : (flat B)[off B i + 1]? = some (e.s.length : Int) := by
  have := off_get (j := 1) h (by omega); simpa [Blk.ws] using this
theorem get_kind {B : List Blk} {i : Nat} {e : Blk} (h : B[i]? = some e) : (flat B)[off B i + 2]? = some e.k := by
  have := off_get (j := 2) h (by omega); simpa [Blk.ws] using this
theorem get_slot {B : List Blk} {i j : Nat} {e : Blk} (h : B[i]? = some e) (hj : j < e.s.length) : (flat B)[off B i + 3 + j]? = e.s[j]? := by
  have := off_get (j := 3 + j) h (by omega)
  rw [Nat.add_assoc, this, Nat.add_comm 3 j]
  simp [Blk.ws]
theorem get_slots {B : List Blk} {i : Nat} {e : Blk} (h : B[i]? = some e) : ((flat B).drop (off B i + 3)).take e.s.length = e.s := by
  rw [flat_at h, List.drop_append, List.drop_eq_nil_of_le (by simp only [off]; omega), List.nil_append]
  have : off B i + 3 - (flat (B.take i)).length = 3 := by simp only [off]; omega
  rw [this]
  simp [Blk.ws]
theorem set_ws {B : List Blk} {i j : Nat} {e f : Blk} {z : Int} (h : B[i]? = some e) (hj : j < e.s.length + 3) (hf : e.ws.set j z = f.ws) : (flat B).set (off B i + j) z = flat (B.set i f) := by
  rw [flat_set h, flat_at h, List.set_append_right _ _ (by simp only [off]; omega)]
  congr 1
  rw [List.set_append_left _ _ (by rw [Blk.ws_len]; simp only [off]; omega)]
  have : off B i + j - (flat (B.take i)).length = j := by simp only [off]; omega
  rw [this, hf]
theorem set_num {B : List Blk} {i : Nat} {e : Blk} {z : Int} (h : B[i]? = some e) : (flat B).set (off B i) z = flat (B.set i { e with n := z }) := set_ws (j := 0) h (by omega) (by simp [Blk.ws])
theorem set_kind {B : List Blk} {i : Nat} {e : Blk} {z : Int} (h : B[i]? = some e) : (flat B).set (off B i + 2) z = flat (B.set i { e with k := z }) := set_ws h (by omega) (by simp [Blk.ws])
theorem set_slot {B : List Blk} {i j : Nat} {e : Blk} {z : Int} (h : B[i]? = some e) (hj : j < e.s.length) : (flat B).set (off B i + 3 + j) z = flat (B.set i { e with s := e.s.set j z }) := by
  rw [Nat.add_assoc]
  exact set_ws h (by omega) (by rw [Nat.add_comm 3 j]; simp [Blk.ws])
theorem flat_al {B : List Blk} {i : Nat} {e : Blk} {b : Bool} (h : B[i]? = some e) : flat (B.set i { e with al := b }) = flat B := by
  rw [flat_set h, flat_at h]; rfl
/-! ### where blocks begin -/
theorem off_set {B : List Blk} {i j : Nat} {e f : Blk} (h : B[i]? = some e) (hl : f.s.length = e.s.length) : off (B.set i f) j = off B j := by
  unfold off
  rw [List.take_set]
  by_cases c : i < j
  · have ht : (B.take j)[i]? = some e := by rw [List.getElem?_take_of_lt c]; exact h
    rw [flat_set ht, flat_at ht]
    simp only [List.length_append, Blk.ws_len, hl]
  · rw [List.set_eq_of_length_le (by rw [List.length_take]; omega)]
theorem off_app {B C : List Blk} {j : Nat} (h : j ≤ B.length) : off (B ++ C) j = off B j := by
  unfold off
  rw [List.take_append_of_le_length h]
theorem off_len (B : List Blk) : off B B.length = (flat B).length := by unfold off; rw [List.take_length]
theorem off_lt {B : List Blk} {i j : Nat} {e : Blk} (h : B[i]? = some e) (hij : i < j) : off B i + 3 ≤ off B j := by
  have ht : (B.take j)[i]? = some e := by rw [List.getElem?_take_of_lt hij]; exact h
  have := off_add ht
  have e1 : off (B.take j) i = off B i := by unfold off; rw [List.take_take, Nat.min_eq_left (Nat.le_of_lt hij)]
  have e2 : (flat (B.take j)).length = off B j := rfl
  omega
theorem off_inj {B : List Blk} {i j : Nat} {e f : Blk} (h : B[i]? = some e) (h2 : B[j]? = some f) (ho : off B i = off B j) : i = j := by
  rcases Nat.lt_trichotomy i j with c | c | c
  · have := off_lt h c; omega
  · exact c
  · have := off_lt h2 c; omega
/-! ### living numbers -/
theorem lv_set {B : List Blk} {i : Nat} {e f : Blk} (h : B[i]? = some e) (h1 : f.al = e.al) (h2 : f.n = e.n) (n : Int) : lv (B.set i f) n = lv B n := by
  unfold lv
  rw [set_at h]
  conv => rhs; rw [split_at h]
  simp [h1, h2]
theorem lv_app (B C : List Blk) (n : Int) : lv (B ++ C) n = (lv B n || lv C n) := by simp [lv]
theorem lv_at {B : List Blk} {i : Nat} {e : Blk} (h : B[i]? = some e) (ha : e.al = true) : lv B e.n = true := lv_iff.mpr ⟨i, e, h, ha, rfl⟩
theorem get_set {B : List Blk} {i j : Nat} {e f : Blk} (h : B[i]? = some e) : (B.set i f)[j]? = if j = i then some f else B[j]? := by
  rw [List.getElem?_set]
  have := (List.getElem?_eq_some_iff.mp h).1
  by_cases c : i = j
  · subst c; simp [this]
  · rw [if_neg c, if_neg (fun z => c z.symm)]
theorem Nd.set {B : List Blk} {i : Nat} {e f : Blk} (nd : Nd B) (h : B[i]? = some e) (h1 : f.al = e.al) (h2 : f.n = e.n) : Nd (B.set i f) := by
  intro a b u v ha hb ua va uv
  rw [get_set h] at ha hb
  split at ha <;> split at hb
  · omega
  · rename_i c1 c2; cases ha; exact c1.trans (nd i b e v h hb (h1 ▸ ua) va (h2 ▸ uv))
  · rename_i c1 c2; cases hb; exact (nd a i u e ha h ua (h1 ▸ va) (h2 ▸ uv)).trans c2.symm
  · exact nd a b u v ha hb ua va uv
theorem Nd.drop {B : List Blk} {i : Nat} {e : Blk} (nd : Nd B) (h : B[i]? = some e) : Nd (B.set i { e with al := false }) := by
  intro a b u v ha hb ua va uv
  rw [get_set h] at ha hb
  split at ha
  · cases ha; cases ua
  · split at hb
    · cases hb; cases va
    · exact nd a b u v ha hb ua va uv
theorem lv_drop {B : List Blk} {i : Nat} {e : Blk} (nd : Nd B) (h : B[i]? = some e) (ha : e.al = true) (n : Int) : lv (B.set i { e with al := false }) n = (lv B n && !decide (n = e.n)) := by
  by_cases c : n = e.n
  · subst c
    rw [decide_eq_true rfl, Bool.not_true, Bool.and_false]
    apply Bool.eq_false_iff.mpr
    intro z
    obtain ⟨j, f, hj, fa, fn⟩ := lv_iff.mp z
    rw [get_set h] at hj
    split at hj
    · cases hj; cases fa
    · rename_i c; exact c (nd j i f e hj h fa ha fn)
  · rw [decide_eq_false c, Bool.not_false, Bool.and_true]
    apply Bool.eq_iff_iff.mpr
    rw [lv_iff, lv_iff]
    constructor
    · rintro ⟨j, f, hj, fa, fn⟩
      rw [get_set h] at hj
      split at hj
      · cases hj; cases fa
      · exact ⟨j, f, hj, fa, fn⟩
    · rintro ⟨j, f, hj, fa, fn⟩
      refine ⟨j, f, ?_, fa, fn⟩
      rw [get_set h, if_neg]
      · exact hj
      · rintro rfl; rw [h] at hj; cases hj; exact c fn.symm
theorem Nd.app {B : List Blk} {e : Blk} (nd : Nd B) (h : e.al = true → lv B e.n = false) : Nd (B ++ [e]) := by
  intro a b u v ha hb ua va uv
  have key : ∀ c w, (B ++ [e])[c]? = some w → (B[c]? = some w ∧ c < B.length) ∨ (c = B.length ∧ w = e) := fun c w hc => by
    rw [List.getElem?_append] at hc
    split at hc
    · rename_i z; exact .inl ⟨hc, z⟩
    · rename_i z
      have hx : c - B.length = 0 := by
        have := (List.getElem?_eq_some_iff.mp hc).1
        simpa using this
      rw [hx] at hc
      exact .inr ⟨by omega, by simpa using hc.symm⟩
  have no : ∀ (c : Nat) (w : Blk), B[c]? = some w → w.al = true → e.al = true → w.n ≠ e.n := fun c w hc wa ea z => by
    have := h ea
    rw [← z, lv_at hc wa] at this
    cases this
  rcases key a u ha with ⟨h1, _⟩ | ⟨h1, rfl⟩ <;> rcases key b v hb with ⟨h2, _⟩ | ⟨h2, rfl⟩
  · exact nd a b u v h1 h2 ua va uv
  · exact absurd uv (no a u h1 ua va)
  · exact absurd uv.symm (no b v h2 va ua)
  · omega
/-- two blocks exchange their numbers -/
def exch (B : List Blk) (i j : Nat) (e f : Blk) : List Blk := (B.set i { e with n := f.n }).set j { f with n := e.n }
theorem get_mid {B : List Blk} {i j : Nat} {e f : Blk} (h : B[i]? = some e) (h2 : B[j]? = some f) : ∃ g, (B.set i { e with n := f.n })[j]? = some g ∧ g.s.length = f.s.length ∧ (i = j → g = { f with n := f.n }) ∧ (i ≠ j → g = f) := by
  rw [get_set h]
  by_cases c : j = i
  · subst c; rw [h] at h2; cases h2
    exact ⟨_, if_pos rfl, rfl, fun _ => rfl, fun z => absurd rfl z⟩
  · rw [if_neg c, h2]
    exact ⟨_, rfl, rfl, fun z => absurd z.symm c, fun _ => rfl⟩
theorem get_exch {B : List Blk} {i j : Nat} {e f : Blk} (h : B[i]? = some e) (h2 : B[j]? = some f) (a : Nat) : (exch B i j e f)[a]? = if a = j then some { f with n := e.n } else if a = i then some { e with n := f.n } else B[a]? := by
  obtain ⟨g, hg, _⟩ := get_mid h h2
  unfold exch
  rw [get_set hg, get_set h]
theorem off_exch {B : List Blk} {i j a : Nat} {e f : Blk} (h : B[i]? = some e) (h2 : B[j]? = some f) : off (exch B i j e f) a = off B a := by
  obtain ⟨g, hg, hl, _⟩ := get_mid h h2
  unfold exch
  rw [off_set (f := { f with n := e.n }) hg hl.symm, off_set (f := { e with n := f.n }) h rfl]
theorem flat_exch {B : List Blk} {i j : Nat} {e f : Blk} (h : B[i]? = some e) (h2 : B[j]? = some f) : flat (exch B i j e f) = ((flat B).set (off B i) f.n).set (off B j) e.n := by
  obtain ⟨g, hg, hl, hg1, hg2⟩ := get_mid h h2
  unfold exch
  rw [set_num h]
  have := set_num (z := e.n) hg
  rw [off_set (f := { e with n := f.n }) h rfl] at this
  rw [this]
  by_cases c : i = j
  · rw [hg1 c]
  · rw [hg2 c]
theorem Nd.exch {B : List Blk} {i j : Nat} {e f : Blk} (nd : Nd B) (h : B[i]? = some e) (h2 : B[j]? = some f) (ea : e.al = true) (fa : f.al = true) : Nd (exch B i j e f) := by
  have key : ∀ a u, (ST.exch B i j e f)[a]? = some u → u.al = true → (a = j ∧ u.n = e.n) ∨ (a ≠ j ∧ a = i ∧ u.n = f.n) ∨ (a ≠ j ∧ a ≠ i ∧ B[a]? = some u) := fun a u ha ua => by
    rw [get_exch h h2] at ha
    split at ha
    · rename_i c; cases ha; exact .inl ⟨c, rfl⟩
    · split at ha
      · rename_i c d; cases ha; exact .inr (.inl ⟨c, d, rfl⟩)
      · rename_i c d; exact .inr (.inr ⟨c, d, ha⟩)
  intro a b u v ha hb ua va uv
  rcases key a u ha ua with ⟨h3, h4⟩ | ⟨h3, h4, h5⟩ | ⟨h3, h4, h5⟩ <;> rcases key b v hb va with ⟨k3, k4⟩ | ⟨k3, k4, k5⟩ | ⟨k3, k4, k5⟩
  · omega
  · have := nd i j e f h h2 ea fa (by omega); omega
  · have := nd i b e v h k5 ea va (by omega); omega
  · have := nd i j e f h h2 ea fa (by omega); omega
  · omega
  · have := nd j b f v h2 k5 fa va (by omega); omega
  · have := nd a i u e h5 h ua ea (by omega); omega
  · have := nd a j u f h5 h2 ua fa (by omega); omega
  · exact nd a b u v h5 k5 ua va uv
theorem lv_exch {B : List Blk} {i j : Nat} {e f : Blk} (h : B[i]? = some e) (h2 : B[j]? = some f) (ea : e.al = true) (fa : f.al = true) (n : Int) : lv (exch B i j e f) n = lv B n := by
  apply Bool.eq_iff_iff.mpr
  rw [lv_iff, lv_iff]
  constructor
  · rintro ⟨a, u, ha, ua, un⟩
    rw [get_exch h h2] at ha
    split at ha
    · cases ha; exact ⟨i, e, h, ea, un⟩
    · split at ha
      · cases ha; exact ⟨j, f, h2, fa, un⟩
      · exact ⟨a, u, ha, ua, un⟩
  · rintro ⟨a, u, ha, ua, un⟩
    by_cases c : a = i
    · subst c; rw [h] at ha; cases ha
      exact ⟨j, { f with n := e.n }, by rw [get_exch h h2, if_pos rfl], fa, un⟩
    · by_cases d : a = j
      · subst d; rw [h2] at ha; cases ha
        exact ⟨i, { e with n := f.n }, by rw [get_exch h h2, if_neg (fun z => c z.symm), if_pos rfl], ea, un⟩
      · exact ⟨a, u, by rw [get_exch h h2, if_neg d, if_neg c]; exact ha, ua, un⟩
theorem flat_len_app (B : List Blk) (e : Blk) : (flat (B ++ [e])).length = (flat B).length + (e.s.length + 3) := by
  rw [flat_app, List.length_append, flat_cons, List.length_append, Blk.ws_len]; rfl
/-! ### the least free number -/
structure Free (B : List Blk) (f : Int) : Prop where
  pos : 0 ≤ f
  no : lv B f = false
  all : ∀ i, 0 ≤ i → i < f → lv B i = true
theorem Free.uniq {B : List Blk} {f g : Int} (a : Free B f) (b : Free B g) : f = g := by
  rcases Int.lt_trichotomy f g with c | c | c
  · have := b.all f a.pos c; rw [a.no] at this; cases this
  · exact c
  · have := a.all g b.pos c; rw [b.no] at this; cases this
/-- the numbers of the living blocks, in the order in which they lie -/
def nums (B : List Blk) : List Int := (B.filter fun e => e.al).map fun e => e.n
theorem mem_nums {B : List Blk} {n : Int} : n ∈ nums B ↔ lv B n = true := by
  simp only [nums, List.mem_map, List.mem_filter, lv, List.any_eq_true, Bool.and_eq_true, decide_eq_true_eq]
  exact ⟨fun ⟨e, ⟨h1, h2⟩, h3⟩ => ⟨e, h1, h2, h3⟩, fun ⟨e, h1, h2, h3⟩ => ⟨e, ⟨h1, h2⟩, h3⟩⟩
theorem nums_len (B : List Blk) : (nums B).length ≤ B.length := by unfold nums; rw [List.length_map]; exact List.length_filter_le _ _
theorem full_len {B : List Blk} {m : Nat} (h : ∀ i : Int, 0 ≤ i → i < m → lv B i = true) : m ≤ (nums B).length := by
  have hn : ((List.range m).map fun i : Nat => (i : Int)).Nodup := by
    rw [List.Nodup, List.pairwise_map]
    exact List.nodup_range.imp fun {a b} h z => h (Int.ofNat.inj z)
  have := List.Nodup.length_le_of_subset hn (l₂ := nums B) fun x hx => by
    obtain ⟨i, hi, rfl⟩ := List.mem_map.mp hx
    exact mem_nums.mpr (h i (by omega) (by have := List.mem_range.mp hi; omega))
  simpa using this
theorem free_ex (B : List Blk) : ∃ f, Free B f ∧ f ≤ (nums B).length := by
  have key : ∀ k : Nat, (∀ i : Int, 0 ≤ i → i < k → lv B i = true) ∨ ∃ f : Int, Free B f ∧ f < k := by
    intro k
    induction k with
    | zero => exact .inl fun i h0 h1 => by omega
    | succ k ih =>
      rcases ih with h | ⟨f, h, l⟩
      · cases c : lv B (k : Int) with
        | false => exact .inr ⟨k, ⟨by omega, c, h⟩, by omega⟩
        | true =>
          refine .inl fun i h0 h1 => ?_
          by_cases d : i = k
          · rw [d]; exact c
          · exact h i h0 (by omega)
      · exact .inr ⟨f, h, by omega⟩
  rcases key ((nums B).length + 1) with h | ⟨f, h, l⟩
  · have := full_len h; omega
  · exact ⟨f, h, by omega⟩
theorem Free.le {B : List Blk} {f : Int} (h : Free B f) : f ≤ (nums B).length := by
  obtain ⟨g, hg, l⟩ := free_ex B
  rw [h.uniq hg]; exact l
theorem nums_nodup {B : List Blk} (nd : Nd B) : (nums B).Nodup := by
  unfold nums
  rw [List.Nodup, List.pairwise_map, List.pairwise_filter]
  rw [List.pairwise_iff_getElem]
  intro i j hi hj hij h1 h2 h3
  exact absurd (nd i j _ _ (List.getElem?_eq_getElem hi) (List.getElem?_eq_getElem hj) h1 h2 h3) (by omega)
end ST
namespace ST
/-! ### what roots reach -/
inductive Rch (B : List Blk) (R : List Int) : Int → Prop
  | root (w : Int) : w ∈ R → w % 2 = 0 → lv B (w / 2) = true → Rch B R (w / 2)
  | step (i : Nat) (e : Blk) (w : Int) : B[i]? = some e → e.al = true → Rch B R e.n → w ∈ e.k :: e.s → w % 2 = 0 → lv B (w / 2) = true → Rch B R (w / 2)
theorem Rch.lv {B : List Blk} {R : List Int} {n : Int} (h : Rch B R n) : ST.lv B n = true := by cases h <;> assumption
/-- the references among some words -/
def refs (l : List Int) : List Int := l.filterMap fun w => if w % 2 = 0 then some (w / 2) else none
theorem mem_refs {l : List Int} {n : Int} : n ∈ refs l ↔ ∃ w, w ∈ l ∧ w % 2 = 0 ∧ w / 2 = n := by
  simp only [refs, List.mem_filterMap]
  constructor
  · rintro ⟨w, h1, h2⟩
    split at h2
    · cases h2; exact ⟨w, h1, by assumption, rfl⟩
    · cases h2
  · rintro ⟨w, h1, h2, h3⟩
    exact ⟨w, h1, by rw [if_pos h2, h3]⟩
theorem refs_len (l : List Int) : (refs l).length ≤ l.length := List.length_filterMap_le _ _
structure DI (B : List Blk) (R F W : List Int) : Prop where
  sF : ∀ n ∈ F, Rch B R n
  sW : ∀ n ∈ W, lv B n = true → Rch B R n
  ro : ∀ w ∈ R, w % 2 = 0 → lv B (w / 2) = true → w / 2 ∈ F ∨ w / 2 ∈ W
  cl : ∀ (i : Nat) (e : Blk), B[i]? = some e → e.al = true → e.n ∈ F → ∀ w ∈ e.k :: e.s, w % 2 = 0 → lv B (w / 2) = true → w / 2 ∈ F ∨ w / 2 ∈ W
  nd : F.Nodup
theorem DI.init (B : List Blk) (R : List Int) : DI B R [] (refs R) where
  sF := fun n h => by cases h
  sW := fun n h l => by
    obtain ⟨w, h1, h2, rfl⟩ := mem_refs.mp h
    exact .root w h1 h2 l
  ro := fun w h1 h2 _ => .inr (mem_refs.mpr ⟨w, h1, h2, rfl⟩)
  cl := fun i e _ _ h => by cases h
  nd := List.nodup_nil
theorem DI.skip {B : List Blk} {R F W : List Int} {n : Int} (d : DI B R F (W ++ [n])) (h : n ∈ F ∨ lv B n = false) : DI B R F W where
  sF := d.sF
  sW := fun m hm l => d.sW m (by simp [hm]) l
  ro := fun w h1 h2 h3 => by
    rcases d.ro w h1 h2 h3 with q | q
    · exact .inl q
    · rcases List.mem_append.mp q with q | q
      · exact .inr q
      · have e : w / 2 = n := by simpa using q
        rcases h with h | h
        · exact .inl (e ▸ h)
        · rw [e, h] at h3; cases h3
  cl := fun i e h1 h2 h3 w h4 h5 h6 => by
    rcases d.cl i e h1 h2 h3 w h4 h5 h6 with q | q
    · exact .inl q
    · rcases List.mem_append.mp q with q | q
      · exact .inr q
      · have e : w / 2 = n := by simpa using q
        rcases h with h | h
        · exact .inl (e ▸ h)
        · rw [e, h] at h6; cases h6
  nd := d.nd
/-- taken: the block i is found; X are its references that are put on the waiting ones, at least all that are not found yet -/
theorem DI.take {B : List Blk} {R F W X : List Int} {i : Nat} {e : Blk} (d : DI B R F (W ++ [e.n])) (N : Nd B) (h : B[i]? = some e) (ha : e.al = true) (hn : e.n ∉ F) (x1 : ∀ m ∈ X, m ∈ refs (e.k :: e.s)) (x2 : ∀ m ∈ refs (e.k :: e.s), m ∈ F ++ [e.n] ∨ m ∈ X) : DI B R (F ++ [e.n]) (W ++ X) := by
  have re : Rch B R e.n := d.sW e.n (by simp) (lv_at h ha)
  refine ⟨fun n hm => ?_, fun n hm l => ?_, fun w h1 h2 h3 => ?_, fun j f h1 h2 h3 w h4 h5 h6 => ?_, ?_⟩
  · rcases List.mem_append.mp hm with q | q
    · exact d.sF n q
    · have : n = e.n := by simpa using q
      rw [this]; exact re
  · rcases List.mem_append.mp hm with q | q
    · exact d.sW n (by simp [q]) l
    · obtain ⟨w, h1, h2, rfl⟩ := mem_refs.mp (x1 n q)
      exact .step i e w h ha re h1 h2 l
  · rcases d.ro w h1 h2 h3 with q | q
    · exact .inl (by simp [q])
    · rcases List.mem_append.mp q with q | q
      · exact .inr (by simp [q])
      · exact .inl (by simp at q; simp [q])
  · by_cases c : f.n ∈ F
    · rcases d.cl j f h1 h2 c w h4 h5 h6 with q | q
      · exact .inl (by simp [q])
      · rcases List.mem_append.mp q with q | q
        · exact .inr (by simp [q])
        · exact .inl (by simp at q; simp [q])
    · have en : f.n = e.n := by
        rcases List.mem_append.mp h3 with q | q
        · exact absurd q c
        · simpa using q
      have := N j i f e h1 h h2 ha en
      subst this
      rw [h] at h1; cases h1
      rcases x2 (w / 2) (mem_refs.mpr ⟨w, h4, h5, rfl⟩) with q | q
      · exact .inl q
      · exact .inr (by simp [q])
  · exact List.nodup_append.mpr ⟨d.nd, by simp, fun a ha b hb => by simp at hb; subst hb; exact fun z => hn (z ▸ ha)⟩
theorem DI.done {B : List Blk} {R F : List Int} (d : DI B R F []) (N : Nd B) : ∀ n, n ∈ F ↔ Rch B R n := fun n => by
  refine ⟨d.sF n, fun h => ?_⟩
  induction h with
  | root w h1 h2 h3 => exact (d.ro w h1 h2 h3).elim id fun z => by cases z
  | step i e w h1 h2 h3 h4 h5 h6 ih => exact (d.cl i e h1 h2 ih w h4 h5 h6).elim id fun z => by cases z
/-- how much may still be found -/
def pot (F : List Int) : List Blk → Nat
  | [] => 0
  | e :: B => (if e.al = true ∧ e.n ∉ F then e.s.length + 2 else 0) + pot F B
theorem pot_le (F : List Int) (n : Int) : ∀ B, pot (F ++ [n]) B ≤ pot F B
  | [] => Nat.le_refl _
  | e :: B => by
    have := pot_le F n B
    unfold pot
    by_cases c : e.al = true ∧ e.n ∉ F ++ [n]
    · rw [if_pos c, if_pos ⟨c.1, fun z => c.2 (by simp [z])⟩]; omega
    · rw [if_neg c]; omega
theorem pot_lt {F : List Int} {e : Blk} : ∀ {B : List Blk} {i : Nat}, B[i]? = some e → e.al = true → e.n ∉ F → pot (F ++ [e.n]) B + (e.s.length + 2) ≤ pot F B
  | [], i, h, _, _ => by simp at h
  | f :: B, 0, h, ha, hn => by
    have := pot_le F e.n B
    have : f = e := by simpa using h
    subst this
    have e1 : pot F (f :: B) = (f.s.length + 2) + pot F B := by conv => lhs; unfold pot; rw [if_pos ⟨ha, hn⟩]
    have e2 : pot (F ++ [f.n]) (f :: B) = 0 + pot (F ++ [f.n]) B := by conv => lhs; unfold pot; rw [if_neg (fun z => z.2 (by simp))]
    omega
  | f :: B, i + 1, h, ha, hn => by
    have ih := pot_lt (F := F) (e := e) (B := B) (i := i) (by simpa using h) ha hn
    unfold pot
    by_cases c : f.al = true ∧ f.n ∉ F ++ [e.n]
    · rw [if_pos c, if_pos ⟨c.1, fun z => c.2 (by simp [z])⟩]; omega
    · rw [if_neg c]; omega
theorem pot_flat (F : List Int) : ∀ B, pot F B ≤ (flat B).length
  | [] => Nat.le_refl _
  | e :: B => by
    have := pot_flat F B
    rw [flat_cons, List.length_append, Blk.ws_len]
    unfold pot
    split <;> omega
/-! ### sorted lists -/
theorem srt_uniq {a b : List Int} (h : ∀ x, x ∈ a ↔ x ∈ b) (na : a.Nodup) (nb : b.Nodup) {a' b' : List Int} (pa : a'.Perm a) (pb : b'.Perm b) (sa : a'.Pairwise (· ≤ ·)) (sb : b'.Pairwise (· ≤ ·)) : a' = b' := by
  have p : a.Perm b := (List.perm_ext_iff_of_nodup na nb).mpr h
  exact List.Perm.eq_of_pairwise (le := (· ≤ ·)) (fun x y _ _ h1 h2 => Int.le_antisymm h1 h2) sa sb (pa.trans (p.trans pb.symm))
theorem perm_sum {a b : List Int} (p : a.Perm b) : a.sum = b.sum := by
  induction p with
  | nil => rfl
  | cons x _ ih => rw [List.sum_cons, List.sum_cons, ih]
  | swap x y l => rw [List.sum_cons, List.sum_cons, List.sum_cons, List.sum_cons]; omega
  | trans _ _ h1 h2 => exact h1.trans h2
theorem fm_if {α β : Type} (p : α → Bool) (f : α → β) : ∀ l : List α, l.filterMap (fun r => if p r = true then some (f r) else none) = (l.filter p).map f
  | [] => rfl
  | x :: l => by
    rw [List.filterMap_cons, List.filter_cons, fm_if p f l]
    cases p x <;> rfl
end ST

set_option Elab.async false
set_option linter.all false
set_option maxRecDepth 100000
set_option maxHeartbeats 4000000
/-! StH: a store in the heap; its promises -/
namespace KW
open PySem PySem.Spec PyProof.Rows L2
/-- from H to H' at most the things of f changed; the things of g are of f or new -/
def Stp (f g : List Addr) (H H' : Hp) : Prop := KW.Fr f H H' ∧ ∀ x ∈ g, x ∈ f ∨ H x = none
theorem Fr.none {l : List Addr} {H H' : Hp} (f : KW.Fr l H H') {b : Addr} (n : b ∉ l) (h : H' b = none) : H b = none := by
  cases e : H b with
  | none => rfl
  | some o => have := f b o n e; rw [h] at this; cases this
theorem Stp.refl {f : List Addr} (H : Hp) : Stp f f H H := ⟨Fr.refl H, fun _ h => .inl h⟩
theorem Stp.of {f : List Addr} {H H' : Hp} (h : KW.Fr f H H') : Stp f f H H' := ⟨h, fun _ h => .inl h⟩
theorem Stp.trans {f g k : List Addr} {H H1 H2 : Hp} (a : Stp f g H H1) (b : Stp g k H1 H2) : Stp f k H H2 := by
  refine ⟨fun x o n h => ?_, fun x hx => ?_⟩
  · have h1 := a.1 x o n h
    refine b.1 x o (fun z => ?_) h1
    rcases a.2 x z with q | q
    · exact n q
    · rw [h] at q; cases q
  · by_cases hf : x ∈ f
    · exact .inl hf
    · rcases b.2 x hx with q | q
      · exact a.2 x q
      · exact .inr (a.1.none hf q)
theorem Stp.out {f g : List Addr} {H H' : Hp} (a : Stp f g H H') {x : Addr} {o : HO} (n : x ∉ f) (h : H x = some o) : H' x = some o ∧ x ∉ g := by
  refine ⟨a.1 x o n h, fun z => ?_⟩
  rcases a.2 x z with q | q
  · exact n q
  · rw [h] at q; cases q
theorem Fr.stp {l f g : List Addr} {H H' H2 : Hp} (a : KW.Fr l H H') (n : ∀ x ∈ l, x ∈ f) (b : Stp f g H' H2) : Stp f g H H2 := (Stp.of (a.mono n)).trans b
/-- a tuple, a list of ints, a thing that stands -/
abbrev IL (H : Hp) (p : Addr) (xs : List Int) : Prop := H p = some (.lst (xs.map V.int))
theorem notin_of {l : List Addr} {H : Hp} {p : Addr} (h : H p = none) (k : ∀ x ∈ l, ∃ o, H x = some o) : p ∉ l := fun z => by
  obtain ⟨o, e⟩ := k p z
  rw [h] at e; cases e
end KW
namespace ST
open PySem PySem.Spec PyProof.Rows L2 KW
abbrev KVs := List (Key × V)
structure PlOk (kvs : KVs) (B : List Blk) : Prop where
  at_ : ∀ (i : Nat) (e : Blk), B[i]? = some e → e.al = true → valV kvs (.inl e.n) = some (.int (off B i : Nat))
  ks : ∃ ns : List Int, kvs.map (·.1) = ns.map Sum.inl ∧ ns.Nodup ∧ ∀ n, n ∈ ns ↔ lv B n = true
theorem valV_some {kvs : KVs} {k : Key} : (valV kvs k).isSome = true ↔ k ∈ kvs.map (·.1) := by
  rw [← valV_any, List.any_eq_true]
  constructor
  · rintro ⟨a, ha, h⟩
    have : a.1 = k := by simpa using h
    exact List.mem_map.mpr ⟨a, ha, this⟩
  · intro h
    obtain ⟨a, ha, rfl⟩ := List.mem_map.mp h
    exact ⟨a, ha, by simp⟩
theorem PlOk.isS {kvs : KVs} {B : List Blk} (h : PlOk kvs B) (n : Int) : (valV kvs (.inl n)).isSome = lv B n := by
  obtain ⟨ns, e, _, m⟩ := h.ks
  apply Bool.eq_iff_iff.mpr
  rw [valV_some, e, ← m n, List.mem_map]
  exact ⟨fun ⟨a, ha, z⟩ => by cases z; exact ha, fun ha => ⟨n, ha, rfl⟩⟩
theorem PlOk.isN {kvs : KVs} {B : List Blk} (h : PlOk kvs B) {n : Int} (l : lv B n = false) : valV kvs (.inl n) = none := by
  have := h.isS n
  rw [l] at this
  cases e : valV kvs (.inl n) with
  | none => rfl
  | some v => rw [e] at this; cases this
theorem PlOk.len {kvs : KVs} {B : List Blk} (h : PlOk kvs B) : kvs.length ≤ B.length := by
  obtain ⟨ns, e, nd, m⟩ := h.ks
  have e1 := congrArg List.length e
  rw [List.length_map, List.length_map] at e1
  have := nd.length_le_of_subset (l₂ := nums B) fun x hx => mem_nums.mpr ((m x).mp hx)
  have := nums_len B
  omega
theorem PlOk.nil : PlOk [] [] := ⟨fun i e h => by simp at h, [], rfl, List.nodup_nil, fun n => by simp [lv]⟩
theorem PlOk.congr {kvs : KVs} {B C : List Blk} (h : PlOk kvs B) (h1 : ∀ (i : Nat) (e : Blk), C[i]? = some e → e.al = true → ∃ (e' : Blk), B[i]? = some e' ∧ e'.al = true ∧ e'.n = e.n ∧ off B i = off C i) (h2 : ∀ n, lv C n = lv B n) : PlOk kvs C := by
  obtain ⟨ns, e, nd, m⟩ := h.ks
  refine ⟨fun i e hi ha => ?_, ns, e, nd, fun n => by rw [h2]; exact m n⟩
  obtain ⟨e', q1, q2, q3, q4⟩ := h1 i e hi ha
  rw [← q3, ← q4]; exact h.at_ i e' q1 q2
theorem PlOk.same {kvs : KVs} {B : List Blk} {i : Nat} {e f : Blk} (h : PlOk kvs B) (hi : B[i]? = some e) (h1 : f.al = e.al) (h2 : f.n = e.n) (h3 : f.s.length = e.s.length) : PlOk kvs (B.set i f) := by
  refine h.congr (fun j u hj ua => ?_) (lv_set hi h1 h2)
  rw [get_set hi] at hj
  rw [off_set hi h3]
  split at hj
  · rename_i c; subst c; cases hj; exact ⟨e, hi, h1 ▸ ua, h2.symm, rfl⟩
  · exact ⟨u, hj, ua, rfl, rfl⟩
theorem putK_new {kvs : KVs} {k : Key} {v : V} (h : valV kvs k = none) : (putK kvs k v).map (·.1) = kvs.map (·.1) ++ [k] := by
  unfold putK
  rw [if_neg (by rw [valV_any, h]; simp), List.map_append]; rfl
theorem putK_old {kvs : KVs} {k : Key} {v : V} (h : (valV kvs k).isSome = true) : (putK kvs k v).map (·.1) = kvs.map (·.1) := by
  unfold putK
  rw [if_pos (by rw [valV_any]; exact h), List.map_map]
  apply List.map_congr_left
  rintro ⟨a, b⟩ _
  simp only [Function.comp]
  split
  · rename_i c; simp_all
  · rfl
theorem valV_putI {kvs : KVs} {n m : Int} {v : V} : valV (putK kvs (.inl n) v) (.inl m) = if m = n then some v else valV kvs (.inl m) := by
  rw [valV_put]
  by_cases c : m = n
  · subst c; rw [if_pos rfl, if_pos rfl]
  · rw [if_neg (fun z => c (by cases z; rfl)), if_neg c]
theorem valV_dropI {kvs : KVs} {n m : Int} : valV (dropK kvs (.inl n)) (.inl m) = if m = n then none else valV kvs (.inl m) := by
  rw [valV_drop]
  by_cases c : m = n
  · subst c; rw [if_pos rfl, if_pos rfl]
  · rw [if_neg (fun z => c (by cases z; rfl)), if_neg c]
theorem inl_eq {u v : Int} : ((Sum.inl u : Key) = .inl v) = (u = v) := propext ⟨fun z => by cases z; rfl, fun z => by rw [z]⟩
theorem PlOk.app {kvs : KVs} {B : List Blk} {e : Blk} (h : PlOk kvs B) (ha : e.al = true) (hn : lv B e.n = false) : PlOk (putK kvs (.inl e.n) (.int ((flat B).length : Nat))) (B ++ [e]) := by
  have nn := h.isN hn
  obtain ⟨ns, ek, nd, m⟩ := h.ks
  refine ⟨fun i u hi ua => ?_, ns ++ [e.n], by rw [putK_new nn, ek]; simp, ?_, fun n => ?_⟩
  · rw [valV_putI]
    rw [List.getElem?_append] at hi
    split at hi
    · rename_i c
      rw [off_app (by omega), if_neg (fun z => ?_)]
      · exact h.at_ i u hi ua
      · rw [← z, lv_at hi ua] at hn; cases hn
    · rename_i c
      have hx : i - B.length = 0 := by
        have := (List.getElem?_eq_some_iff.mp hi).1
        simpa using this
      rw [hx] at hi
      have : u = e := by simpa using hi.symm
      subst this
      have hi2 : i = B.length := by omega
      subst hi2
      rw [if_pos rfl, off_app (Nat.le_refl _), off_len]
  · rw [List.nodup_append]
    refine ⟨nd, by simp, fun a ha b hb => ?_⟩
    simp at hb; subst hb
    intro z; subst z
    rw [(m _).mp ha] at hn; cases hn
  · rw [List.mem_append, m n, lv_app]
    have : lv [e] n = decide (e.n = n) := by simp [lv, ha]
    rw [this, Bool.or_eq_true, decide_eq_true_eq, List.mem_singleton]
    exact ⟨fun z => z.elim .inl fun q => .inr q.symm, fun z => z.elim .inl fun q => .inr q.symm⟩
theorem PlOk.drop {kvs : KVs} {B : List Blk} {i : Nat} {e : Blk} (h : PlOk kvs B) (N : Nd B) (hi : B[i]? = some e) (ha : e.al = true) : PlOk (dropK kvs (.inl e.n)) (B.set i { e with al := false }) := by
  obtain ⟨ns, ek, nd, m⟩ := h.ks
  refine ⟨fun j u hj ua => ?_, ns.filter (fun n => decide (n ≠ e.n)), ?_, nd.sublist List.filter_sublist, fun n => ?_⟩
  · rw [valV_dropI, off_set (f := { e with al := false }) hi rfl]
    rw [get_set hi] at hj
    split at hj
    · cases hj; cases ua
    · rename_i c
      rw [if_neg (fun z => c (N j i u e hj hi ua ha z))]
      exact h.at_ j u hj ua
  · unfold dropK
    have : ∀ (l : KVs) (ns : List Int), l.map (·.1) = ns.map Sum.inl → (l.filter fun a => decide (a.1 ≠ .inl e.n)).map (·.1) = (ns.filter fun n => decide (n ≠ e.n)).map Sum.inl := by
      intro l
      induction l with
      | nil => intro ns h; cases ns with | nil => rfl | cons _ _ => cases h
      | cons a l ih =>
        intro ns h
        cases ns with
        | nil => cases h
        | cons n ns =>
          simp only [List.map_cons, List.cons.injEq] at h
          have e1 := ih ns h.2
          rw [List.filter_cons, List.filter_cons]
          by_cases c : n = e.n
          · rw [if_neg (by simp [h.1, c]), if_neg (by simp [c])]; exact e1
          · rw [if_pos (by simp [h.1, c]), if_pos (by simp [c]), List.map_cons, List.map_cons, e1, h.1]
    exact this kvs ns ek
  · rw [List.mem_filter, m n, lv_drop N hi ha]
    simp
theorem PlOk.exch {kvs : KVs} {B : List Blk} {i j : Nat} {e f : Blk} (h : PlOk kvs B) (N : Nd B) (hi : B[i]? = some e) (hj : B[j]? = some f) (ea : e.al = true) (fa : f.al = true) :
    PlOk (putK (putK kvs (.inl e.n) (.int (off B j : Nat))) (.inl f.n) (.int (off B i : Nat))) (exch B i j e f) := by
  obtain ⟨ns, ek, nd, m⟩ := h.ks
  have l1 : (valV kvs (.inl e.n)).isSome = true := by rw [h.isS]; exact lv_at hi ea
  have l2 : (valV (putK kvs (.inl e.n) (.int (off B j : Nat))) (.inl f.n)).isSome = true := by
    rw [valV_putI]
    split
    · rfl
    · rw [h.isS]; exact lv_at hj fa
  refine ⟨fun a u ha ua => ?_, ns, by rw [putK_old l2, putK_old l1]; exact ek, nd, fun n => by rw [lv_exch hi hj ea fa]; exact m n⟩
  rw [off_exch hi hj, valV_putI, valV_putI]
  rw [get_exch hi hj] at ha
  split at ha
  · rename_i c; subst c; cases ha
    dsimp only
    by_cases d : e.n = f.n
    · have := N i a e f hi hj ea fa d
      subst this
      rw [if_pos d]
    · rw [if_neg d, if_pos rfl]
  · split at ha
    · rename_i c d; subst d; cases ha
      rw [if_pos rfl]
    · rename_i c d
      rw [if_neg (fun z => c (N a j u f ha hj ua fa z)), if_neg (fun z => d (N a i u e ha hi ua ea z))]
      exact h.at_ a u ha ua
/-- a store at st: its words at wd, its places at pl -/
structure Sto (C : Addr) (H : Hp) (st wd pl : Addr) (rm en : Int) (B : List Blk) : Prop where
  ob : ∃ dx lo, H st = some (.ins C dx [("room", .int rm), ("entries", .int en), ("words", .ref wd), ("_places", .ref pl), ("_least", .int lo)]) ∧ 0 ≤ lo ∧ ∀ i, 0 ≤ i → i < lo → lv B i = true
  wo : H wd = some (.lst ((flat B).map V.int))
  pa : ∃ kvs, H pl = some (.dK kvs) ∧ PlOk kvs B
  nd : Nd B
  nn : ∀ (i : Nat) (e : Blk), B[i]? = some e → e.al = true → 0 ≤ e.n
  wp : wd ≠ pl
  sw : st ≠ wd
  sp : st ≠ pl
abbrev fpS (st wd pl : Addr) : List Addr := [st, wd, pl]
theorem Sto.fr {C : Addr} {H H' : Hp} {st wd pl : Addr} {rm en : Int} {B : List Blk} {l : List Addr} (s : Sto C H st wd pl rm en B) (f : KW.Fr l H H') (h1 : st ∉ l) (h2 : wd ∉ l) (h3 : pl ∉ l) : Sto C H' st wd pl rm en B := by
  obtain ⟨⟨dx, lo, ob, l1⟩, wo, ⟨kvs, pa, ok⟩, nd, nn, wp, sw, sp⟩ := s
  exact ⟨⟨dx, lo, f _ _ h1 ob, l1⟩, f _ _ h2 wo, ⟨kvs, f _ _ h3 pa, ok⟩, nd, nn, wp, sw, sp⟩
theorem Sto.new {C : Addr} {H : Hp} {st wd pl t : Addr} {rm en : Int} {B : List Blk} {o : HO} (s : Sto C H st wd pl rm en B) (h : H t = none) : Sto C (upd H t o) st wd pl rm en B := s.fr (l := []) (Fr.new h) (by simp) (by simp) (by simp)
theorem Sto.fr0 {C : Addr} {H H' : Hp} {st wd pl : Addr} {rm en : Int} {B : List Blk} (s : Sto C H st wd pl rm en B) (f : KW.Fr [] H H') : Sto C H' st wd pl rm en B := s.fr f (by simp) (by simp) (by simp)
theorem Sto.there {C : Addr} {H : Hp} {st wd pl : Addr} {rm en : Int} {B : List Blk} (s : Sto C H st wd pl rm en B) : ∀ x ∈ fpS st wd pl, ∃ o, H x = some o := by
  obtain ⟨⟨dx, lo, ob, l1⟩, wo, ⟨kvs, pa, ok⟩, nd, nn, wp, sw, sp⟩ := s
  intro x hx
  simp only [List.mem_cons, List.not_mem_nil, or_false] at hx
  rcases hx with rfl | rfl | rfl
  · exact ⟨_, ob⟩
  · exact ⟨_, wo⟩
  · exact ⟨_, pa⟩
/-! ### promises of its methods -/
def spInit (C : Addr) : Sp := fun vs H Q _ => ∃ (st dx : Addr) (rm en : Int), vs = [.ref st, .int rm, .int en] ∧ H st = some (.ins C dx []) ∧ ∀ H' wd pl, Sto C H' st wd pl rm en [] → KW.Fr [st] H H' → H wd = none → H pl = none → Q .non H'
def spUsed (C : Addr) : Sp := fun vs H Q _ => ∃ (st wd pl : Addr) (rm en : Int) (B : List Blk), vs = [.ref st] ∧ Sto C H st wd pl rm en B ∧ Q (.int (flat B).length) H
def spExists (C : Addr) : Sp := fun vs H Q _ => ∃ (st wd pl : Addr) (rm en : Int) (B : List Blk) (n : Int), vs = [.ref st, .int n] ∧ Sto C H st wd pl rm en B ∧ Q (.bl (lv B n)) H
def spNumbers (C : Addr) : Sp := fun vs H Q _ => ∃ (st wd pl : Addr) (rm en : Int) (B : List Blk), vs = [.ref st] ∧ Sto C H st wd pl rm en B ∧ B.length ≤ 1000000 ∧ ∀ (ys : List Int) (l : Addr), ys.Perm (nums B) → ys.Pairwise (· ≤ ·) → H l = none → Q (.ref l) (upd H l (.lst (ys.map V.int)))
def spSize (C : Addr) : Sp := fun vs H Q _ => ∃ (st wd pl : Addr) (rm en : Int) (B : List Blk) (n : Int) (i : Nat) (e : Blk), vs = [.ref st, .int n] ∧ Sto C H st wd pl rm en B ∧ B[i]? = some e ∧ e.al = true ∧ e.n = n ∧ Q (.int e.s.length) H
def spKind (C : Addr) : Sp := fun vs H Q _ => ∃ (st wd pl : Addr) (rm en : Int) (B : List Blk) (n : Int) (i : Nat) (e : Blk), vs = [.ref st, .int n] ∧ Sto C H st wd pl rm en B ∧ B[i]? = some e ∧ e.al = true ∧ e.n = n ∧ Q (.int e.k) H
def spGet (C : Addr) : Sp := fun vs H Q _ => ∃ (st wd pl : Addr) (rm en : Int) (B : List Blk) (n : Int) (i j : Nat) (e : Blk) (z : Int), vs = [.ref st, .int n, .int j] ∧ Sto C H st wd pl rm en B ∧ B[i]? = some e ∧ e.al = true ∧ e.n = n ∧ e.s[j]? = some z ∧ Q (.int z) H
def spSlots (C : Addr) : Sp := fun vs H Q _ => ∃ (st wd pl : Addr) (rm en : Int) (B : List Blk) (n : Int) (i : Nat) (e : Blk), vs = [.ref st, .int n] ∧ Sto C H st wd pl rm en B ∧ B[i]? = some e ∧ e.al = true ∧ e.n = n ∧ ∀ l, H l = none → Q (.ref l) (upd H l (.lst (e.s.map V.int)))
def spSetKind (C : Addr) : Sp := fun vs H Q _ => ∃ (st wd pl : Addr) (rm en : Int) (B : List Blk) (n z : Int) (i : Nat) (e : Blk), vs = [.ref st, .int n, .int z] ∧ Sto C H st wd pl rm en B ∧ B[i]? = some e ∧ e.al = true ∧ e.n = n ∧ ∀ H', Sto C H' st wd pl rm en (B.set i { e with k := z }) → KW.Fr [wd] H H' → Q .non H'
def spPut (C : Addr) : Sp := fun vs H Q _ => ∃ (st wd pl : Addr) (rm en : Int) (B : List Blk) (n z : Int) (i j : Nat) (e : Blk), vs = [.ref st, .int n, .int j, .int z] ∧ Sto C H st wd pl rm en B ∧ B[i]? = some e ∧ e.al = true ∧ e.n = n ∧ j < e.s.length ∧ ∀ H', Sto C H' st wd pl rm en (B.set i { e with s := e.s.set j z }) → KW.Fr [wd] H H' → Q .non H'
def spDrop (C : Addr) : Sp := fun vs H Q _ => ∃ (st wd pl : Addr) (rm en : Int) (B : List Blk) (n : Int) (i : Nat) (e : Blk), vs = [.ref st, .int n] ∧ Sto C H st wd pl rm en B ∧ B[i]? = some e ∧ e.al = true ∧ e.n = n ∧ ∀ H', Sto C H' st wd pl rm en (B.set i { e with al := false }) → KW.Fr [st, pl] H H' → Q .non H'
def spExchange (C : Addr) : Sp := fun vs H Q _ => ∃ (st wd pl : Addr) (rm en : Int) (B : List Blk) (m n : Int) (i j : Nat) (e f : Blk), vs = [.ref st, .int m, .int n] ∧ Sto C H st wd pl rm en B ∧ B.length ≤ 1000000 ∧ B[i]? = some e ∧ e.al = true ∧ e.n = m ∧ B[j]? = some f ∧ f.al = true ∧ f.n = n ∧
  ∀ H', Sto C H' st wd pl rm en (exch B i j e f) → KW.Fr [wd, pl] H H' → Q .non H'
def spFree (C NN : Addr) : Sp := fun vs H Q E => ∃ (st wd pl : Addr) (rm en : Int) (B : List Blk), vs = [.ref st] ∧ Sto C H st wd pl rm en B ∧ 0 ≤ en ∧ en ≤ 1000000 ∧ ∀ f, Free B f →
  (f < en → ∀ H', Sto C H' st wd pl rm en B → KW.Fr [st] H H' → Q (.int f) H') ∧
  (en ≤ f → ∀ H', Sto C H' st wd pl rm en B → KW.Fr [st] H H' → ∀ d, H' d = none → E (.ref NN) (some d) (upd H' d (.xd [("limit", .int en)])))
def spAllocate (C NR NN : Addr) : Sp := fun vs H Q E => ∃ (st wd pl : Addr) (rm en : Int) (B : List Blk) (kd : Int) (n : Nat), vs = [.ref st, .int kd, .int n] ∧ Sto C H st wd pl rm en B ∧ 0 ≤ en ∧ en ≤ 1000000 ∧ rm ≤ 1000000 ∧ n ≤ 1000000 ∧
  (rm < ((flat B).length : Int) + 3 + n → ∀ d, H d = none → E (.ref NR) (some d) (upd H d (.xd [("need", .int (3 + n))]))) ∧
  (((flat B).length : Int) + 3 + n ≤ rm → ∀ f, Free B f →
    (f < en → ∀ H', Sto C H' st wd pl rm en (B ++ [⟨f, kd, List.replicate n 0, true⟩]) → KW.Fr [st, wd, pl] H H' → Q (.int f) H') ∧
    (en ≤ f → ∀ H', Sto C H' st wd pl rm en B → KW.Fr [st] H H' → ∀ d, H' d = none → E (.ref NN) (some d) (upd H' d (.xd [("limit", .int en)]))))
theorem len_flat (B : List Blk) : 3 * B.length ≤ (flat B).length := by
  induction B with
  | nil => simp
  | cons e B ih => rw [flat_cons, List.length_append, Blk.ws_len, List.length_cons]; omega
end ST
namespace ST
open PySem PySem.Spec PyProof.Rows L2 KW
/-- a dict of found numbers -/
structure Fnd (kvs : KVs) (F : List Int) : Prop where
  ks : kvs.map (·.1) = F.map Sum.inl
  tr : ∀ n ∈ F, valV kvs (.inl n) = some (.bl true)
theorem Fnd.nil : Fnd [] [] := ⟨rfl, fun n h => by cases h⟩
theorem Fnd.mem {kvs : KVs} {F : List Int} (h : Fnd kvs F) (n : Int) : (valV kvs (.inl n)).isSome = decide (n ∈ F) := by
  apply Bool.eq_iff_iff.mpr
  rw [valV_some, h.ks, List.mem_map, decide_eq_true_eq]
  exact ⟨fun ⟨a, ha, z⟩ => by cases z; exact ha, fun ha => ⟨n, ha, rfl⟩⟩
theorem Fnd.put {kvs : KVs} {F : List Int} {n : Int} (h : Fnd kvs F) (hn : n ∉ F) : Fnd (putK kvs (.inl n) (.bl true)) (F ++ [n]) := by
  have e : valV kvs (.inl n) = none := by
    have := h.mem n
    rw [decide_eq_false hn] at this
    cases q : valV kvs (.inl n) with
    | none => rfl
    | some v => rw [q] at this; cases this
  refine ⟨by rw [putK_new e, h.ks, List.map_append]; rfl, fun m hm => ?_⟩
  rw [valV_putI]
  split
  · rfl
  · rename_i c
    refine h.tr m ?_
    rcases List.mem_append.mp hm with q | q
    · exact q
    · exact absurd (by simpa using q) c
theorem Fnd.len {kvs : KVs} {F : List Int} (h : Fnd kvs F) : kvs.length = F.length := by
  have := congrArg List.length h.ks
  rwa [List.length_map, List.length_map] at this
theorem rch_len {B : List Blk} {R F : List Int} (nd : F.Nodup) (h : ∀ n ∈ F, Rch B R n) : F.length ≤ B.length :=
  Nat.le_trans (nd.length_le_of_subset (l₂ := nums B) fun x hx => mem_nums.mpr (h x hx).lv) (nums_len B)
/-- reached(store, roots) -/
def spReached (C : Addr) : Sp := fun vs H Q _ => ∃ (st wd pl rt : Addr) (rm en : Int) (B : List Blk) (R : List Int), vs = [.ref st, .ref rt] ∧ Sto C H st wd pl rm en B ∧ IL H rt R ∧ (flat B).length ≤ 2000000 ∧ R.length ≤ 1000000 ∧
  ∀ (p : Addr) (F : List Int) (kvs : KVs) (H' : Hp), H p = none → KW.Fr [] H H' → H' p = some (.dK kvs) → Fnd kvs F → F.Nodup → (∀ n, n ∈ F ↔ Rch B R n) → Q (.ref p) H'
/-- words_of(store, numbers): a list, or a dict of found ones -/
def blkAt (B : List Blk) (n : Int) : Option Blk := B.find? fun e => e.al && decide (e.n = n)
theorem blkAt_ex {B : List Blk} {n : Int} (h : lv B n = true) : ∃ (i : Nat) (e : Blk), blkAt B n = some e ∧ B[i]? = some e ∧ e.al = true ∧ e.n = n := by
  unfold blkAt
  cases q : B.find? fun e => e.al && decide (e.n = n) with
  | none =>
    rw [List.find?_eq_none] at q
    obtain ⟨i, e, h1, h2, h3⟩ := lv_iff.mp h
    exact absurd (by simp [h2, h3]) (q e (List.mem_of_getElem? h1))
  | some e =>
    have h1 := List.find?_some q
    obtain ⟨i, hi⟩ := List.getElem?_of_mem (List.mem_of_find?_eq_some q)
    simp at h1
    exact ⟨i, e, rfl, hi, h1.1, h1.2⟩
theorem blkAt_eq {B : List Blk} (N : Nd B) {i : Nat} {e : Blk} (h : B[i]? = some e) (ha : e.al = true) : blkAt B e.n = some e := by
  obtain ⟨j, f, h1, h2, h3, h4⟩ := blkAt_ex (lv_at h ha)
  have := N i j e f h h2 ha h3 h4.symm
  subst this
  rw [h] at h2; cases h2; exact h1
/-- the words that the block n takes -/
def wof (B : List Blk) (n : Int) : Int := 3 + ((blkAt B n).map fun e => (e.s.length : Int)).getD 0
theorem wof_eq {B : List Blk} (N : Nd B) {i : Nat} {e : Blk} (h : B[i]? = some e) (ha : e.al = true) : wof B e.n = 3 + (e.s.length : Int) := by unfold wof; rw [blkAt_eq N h ha]; rfl
def spWordsOf (C : Addr) : Sp := fun vs H Q _ => ∃ (st wd pl nu : Addr) (rm en : Int) (B : List Blk) (F : List Int), vs = [.ref st, .ref nu] ∧ Sto C H st wd pl rm en B ∧ (IL H nu F ∨ nu ≠ pl ∧ ∃ kvs, H nu = some (.dK kvs) ∧ Fnd kvs F) ∧ F.length ≤ 1000000 ∧ (∀ n ∈ F, lv B n = true) ∧
  ∀ H', KW.Fr [] H H' → Q (.int (F.map (wof B)).sum) H'
end ST
namespace ST
open PySem PySem.Spec PyProof.Rows L2 KW
section
variable {C : Addr} {H : Hp} {st wd pl : Addr} {rm en : Int} {B : List Blk} {Q : VK} {E : XK} {m : Str} {sp : Sp} {t : TA} {σ : L2.St}
theorem met_s (S : Sto C H st wd pl rm en B) (l : (["room", "entries", "words", "_places", "_least"] : List Str).contains m = false) (q : t σ H fun vs H2 => sp (.ref st :: vs) H2 Q E) : uMet.uMt C m sp E t σ (.ref st) H Q := by
  obtain ⟨dx, lo, ob, _⟩ := S.ob
  refine ⟨dx, _, ob, ?_, q⟩
  simp only [List.contains_cons, List.contains_nil, Bool.or_eq_false_iff, Bool.or_false] at l
  simp only [List.lookup, l]
theorem words_s {Q : VK} {K : Frag} {mg : Str → Option Value} {x : Str} {ns : List Str} (S : Sto C H st wd pl rm en B) (c : ClsA K mg x C ns) (h : (PySem.Str.ofString "words" : Str) ∈ ns) (q : Q (.ref wd) H) : uGet K "words" (.ref st) H Q := by
  obtain ⟨dx, lo, ob, _⟩ := S.ob
  exact get_l ob c h (by rfl) q
theorem exists_s {n : Int} (S : Sto C H st wd pl rm en B) (q : Q (.bl (lv B n)) H) : spExists C [.ref st, .int n] H Q E := ⟨st, wd, pl, rm, en, B, n, rfl, S, q⟩
theorem used_s (S : Sto C H st wd pl rm en B) (q : Q (.int (flat B).length) H) : spUsed C [.ref st] H Q E := ⟨st, wd, pl, rm, en, B, rfl, S, q⟩
theorem numbers_s (S : Sto C H st wd pl rm en B) (hB : B.length ≤ 1000000) (q : ∀ (ys : List Int) (l : Addr), ys.Perm (nums B) → ys.Pairwise (· ≤ ·) → H l = none → Q (.ref l) (upd H l (.lst (ys.map V.int)))) : spNumbers C [.ref st] H Q E := ⟨st, wd, pl, rm, en, B, rfl, S, hB, q⟩
variable {n z : Int} {i j : Nat} {e f : Blk}
theorem size_s (S : Sto C H st wd pl rm en B) (hi : B[i]? = some e) (ha : e.al = true) (hn : e.n = n) (q : Q (.int e.s.length) H) : spSize C [.ref st, .int n] H Q E := ⟨st, wd, pl, rm, en, B, n, i, e, rfl, S, hi, ha, hn, q⟩
theorem kind_s (S : Sto C H st wd pl rm en B) (hi : B[i]? = some e) (ha : e.al = true) (hn : e.n = n) (q : Q (.int e.k) H) : spKind C [.ref st, .int n] H Q E := ⟨st, wd, pl, rm, en, B, n, i, e, rfl, S, hi, ha, hn, q⟩
theorem get_s (S : Sto C H st wd pl rm en B) (hi : B[i]? = some e) (ha : e.al = true) (hn : e.n = n) (hz : e.s[j]? = some z) (q : Q (.int z) H) : spGet C [.ref st, .int n, .int j] H Q E := ⟨st, wd, pl, rm, en, B, n, i, j, e, z, rfl, S, hi, ha, hn, hz, q⟩
theorem slots_s (S : Sto C H st wd pl rm en B) (hi : B[i]? = some e) (ha : e.al = true) (hn : e.n = n) (q : ∀ l, H l = none → Q (.ref l) (upd H l (.lst (e.s.map V.int)))) : spSlots C [.ref st, .int n] H Q E := ⟨st, wd, pl, rm, en, B, n, i, e, rfl, S, hi, ha, hn, q⟩
theorem setKind_s (S : Sto C H st wd pl rm en B) (hi : B[i]? = some e) (ha : e.al = true) (hn : e.n = n) (q : ∀ H', Sto C H' st wd pl rm en (B.set i { e with k := z }) → KW.Fr [wd] H H' → Q .non H') : spSetKind C [.ref st, .int n, .int z] H Q E := ⟨st, wd, pl, rm, en, B, n, z, i, e, rfl, S, hi, ha, hn, q⟩
theorem put_s (S : Sto C H st wd pl rm en B) (hi : B[i]? = some e) (ha : e.al = true) (hn : e.n = n) (hj : j < e.s.length) (q : ∀ H', Sto C H' st wd pl rm en (B.set i { e with s := e.s.set j z }) → KW.Fr [wd] H H' → Q .non H') : spPut C [.ref st, .int n, .int j, .int z] H Q E := ⟨st, wd, pl, rm, en, B, n, z, i, j, e, rfl, S, hi, ha, hn, hj, q⟩
theorem drop_s (S : Sto C H st wd pl rm en B) (hi : B[i]? = some e) (ha : e.al = true) (hn : e.n = n) (q : ∀ H', Sto C H' st wd pl rm en (B.set i { e with al := false }) → KW.Fr [st, pl] H H' → Q .non H') : spDrop C [.ref st, .int n] H Q E := ⟨st, wd, pl, rm, en, B, n, i, e, rfl, S, hi, ha, hn, q⟩
theorem exchange_s {k : Int} (S : Sto C H st wd pl rm en B) (hB : B.length ≤ 1000000) (hi : B[i]? = some e) (ha : e.al = true) (hn : e.n = n) (hj : B[j]? = some f) (fa : f.al = true) (fn : f.n = k) (q : ∀ H', Sto C H' st wd pl rm en (exch B i j e f) → KW.Fr [wd, pl] H H' → Q .non H') : spExchange C [.ref st, .int n, .int k] H Q E := ⟨st, wd, pl, rm, en, B, n, k, i, j, e, f, rfl, S, hB, hi, ha, hn, hj, fa, fn, q⟩
theorem reached_s {rt : Addr} {R : List Int} (S : Sto C H st wd pl rm en B) (hR : IL H rt R) (hB : (flat B).length ≤ 2000000) (hl : R.length ≤ 1000000) (q : ∀ (p : Addr) (F : List Int) (kvs : KVs) (H' : Hp), H p = none → KW.Fr [] H H' → H' p = some (.dK kvs) → Fnd kvs F → F.Nodup → (∀ n, n ∈ F ↔ Rch B R n) → Q (.ref p) H') : spReached C [.ref st, .ref rt] H Q E := ⟨st, wd, pl, rt, rm, en, B, R, rfl, S, hR, hB, hl, q⟩
theorem wordsOf_s {nu : Addr} {F : List Int} (S : Sto C H st wd pl rm en B) (h : IL H nu F ∨ nu ≠ pl ∧ ∃ kvs, H nu = some (.dK kvs) ∧ Fnd kvs F) (hl : F.length ≤ 1000000) (hF : ∀ n ∈ F, lv B n = true) (q : ∀ H', KW.Fr [] H H' → Q (.int (F.map (wof B)).sum) H') : spWordsOf C [.ref st, .ref nu] H Q E := ⟨st, wd, pl, nu, rm, en, B, F, rfl, S, h, hl, hF, q⟩
end
end ST

set_option Elab.async false
set_option linter.all false
set_option maxRecDepth 100000
set_option maxHeartbeats 4000000
/-! Kw3: sorted(d, key=lambda x: d[x]), d a local dict that the lambda captures -/
namespace KW
open PySem PySem.Spec PyProof.Rows L2 LamX PySem.W
theorem ints_eachIs : ∀ {vs : List Value} {ks : List Int}, IntsAre vs ks → EachIs (fun v (n : Int) => ∃ t, v = Value.int n t) vs ks
  | _, _, .nil => .nil
  | _, _, .cons n t r => .cons ⟨t, rfl⟩ (ints_eachIs r)
theorem eachIs_ints : ∀ {vs : List Value} {ks : List Int}, EachIs (fun v (n : Int) => ∃ t, v = Value.int n t) vs ks → IntsAre vs ks
  | _, _, .nil => .nil
  | _, _, .cons ⟨t, e⟩ r => by subst e; exact .cons _ t (eachIs_ints r)
theorem alike_ints (pv : Int → Int) (ks : List Int) : AllAlike (ks.map fun n => PyData.int (pv n)) := by
  intro d hd d' hd'
  obtain ⟨n, _, rfl⟩ := List.mem_map.mp hd
  obtain ⟨m, _, rfl⟩ := List.mem_map.mp hd'
  rfl
theorem sortable_ints (pv : Int → Int) (ks : List Int) : Sortable (ks.map fun n => PyData.int (pv n)) := by
  refine .inr fun d hd => ?_
  obtain ⟨n, _, rfl⟩ := List.mem_map.mp hd
  exact ⟨fun z => (by cases z), fun xs z => (by cases z)⟩
/-- a lambda is made: at most the table at P changes -/
theorem lam_made {X : Cx} {pins : List (Addr × Obj)} {σ : L2.St} {H : Hp} {s : Shared} {c P : Addr} {params : Arguments} {body : Expr} {scope : Scope} {pos : Pos} {E : Value → Shared → Prop} {Q : Value → Shared → Prop} (I : L2.Inv X pins σ H s) (TB : TabB X.base X.mg c P) (hcode : X.env.code = .ref c)
    (hT : TabS H P (X.env.qual ++ "<lambda>")) (hdef : defaultsOf params X.env = ([], [])) (hfree : ∀ y ∈ scope.names, y.2 = .free → ∃ c, X.env.cells.lookup y.1 = some c)
    (h : ∀ (f c' : Addr) (pm ctv : Value) (H1 : Hp) (s' : Shared), L2.Inv X pins σ H1 s' → KW.Fr [P] H H1 → TabS H1 P (X.env.qual ++ "<lambda>") →
      s'.heap.get? f = some (PySem.W.kla_obj "<lambda>" (X.env.qual ++ "<lambda>") params body scope (cloFrom X.env.cells scope.names []) pm c' ctv) → H1 c' = some (CodeO c' (X.env.qual ++ "<lambda>")) → Q (.ref f) s') :
    wpAny (model X.prog X.w) X.A (eval (.Lambda params body scope pos) X.env) Q E s := by
  obtain ⟨ps, hP, ht, ha⟩ := hT
  have bP := TB.bm.keeps I.bk
  have hP' := I.hok P _ hP
  refine PySem.W.kla_eval hdef ?_
  cases hc : codeAmong pos ps.toList with
  | some cv =>
    obtain ⟨c', rfl, hco⟩ := ha pos cv hc
    exact PySem.W.kla_makeFunctionHit (mg := X.mg) (c := c) (P := P) (ps := ps) (closure_ok hfree) I.ok.glob (I.mod.glob.keeps I.bk) hcode (TB.code.keeps I.bk) hP' ht hc bP fun ctv h' tk hx hsz =>
      h h'.objs.size c' ((X.mg "__name__").getD .none) ctv H _ (I.kept fun b o e => Heap.get?_push_of_some _ (hx b o e)) (Fr.refl H) ⟨ps, hP, ht, ha⟩ (Heap.get?_push_size _ rfl) hco
  | none =>
    refine PySem.W.kla_makeFunction (mg := X.mg) (c := c) (P := P) (ps := ps) (closure_ok hfree) I.ok.glob (I.mod.glob.keeps I.bk) hcode (TB.code.keeps I.bk) hP' ht hc TB.gP bP fun c' ctv h' tk hx hge hlt hrec htb => ?_
    obtain ⟨_, oc, vs, t, e2, hoc, hd, hv⟩ := hrec
    cases e2
    have nC : H c' = none := I.hok.fresh hge
    have fr : KW.Fr [P] H (upd (upd H P (.tbl (ps ++ #[rawInt pos.line, rawInt pos.col, .ref c']))) c' (CodeO c' (X.env.qual ++ "<lambda>"))) := fun b o n e => by
      rw [upd_ne (ne_of_none e nC), upd_ne (by simpa using n)]; exact e
    refine h h'.objs.size c' ((X.mg "__name__").getD .none) ctv _ _ (inv_table (t' := tk) (more := #[rawInt pos.line, rawInt pos.col, .ref c']) I hP (fun b o hb e => Heap.get?_push_of_some _ (hx b o hb e)) (Heap.get?_push_of_some _ htb) hge ⟨oc, vs, t, Heap.get?_push_of_some _ hoc, hd, hv⟩) fr
      ⟨_, by rw [upd_ne (ne_of_none hP nC), upd_same], ?_, fun p' cv hcv => ?_⟩ (Heap.get?_push_size _ rfl) upd_same
    · simpa using PySem.TriplesOk_snoc _ _ _ _ ht
    · rcases among_app _ ht (by simpa using hcv) with z | z
      · obtain ⟨c0, e1, e2⟩ := ha p' cv z
        refine ⟨c0, e1, fr _ _ (fun m => ?_) e2⟩
        have : c0 = P := by simpa using m
        rw [this, hP] at e2
        exact absurd (Option.some.inj e2).symm (codeO_ne ps)
      · exact ⟨c', z, upd_same⟩
/-- the table at P, all of whose code objects bear the name q -/
def tSortLam (P : Addr) (q : Str) (i : Nat) (td : TE) : TE := fun σ H Q => td σ H fun x H1 => ∃ (a : Addr) (kvs : List (Key × V)) (ks : List Int) (pv : Int → Int), x = .ref a ∧ σ[i]? = some (some (.ref a)) ∧ H1 a = some (.dK kvs) ∧ kvs.map (·.1) = ks.map Sum.inl ∧ ks.length ≤ sizeLine ∧ (∀ n ∈ ks, valV kvs (.inl n) = some (.int (pv n))) ∧ TabS H1 P q ∧
  ∀ (H2 : Hp) (ys : List Int) (l : Addr), KW.Fr [P] H1 H2 → TabS H2 P q → H2 l = none → ys.Perm ks → ys.Pairwise (fun u v => pv u ≤ pv v) → Q (.ref l) (upd H2 l (.lst (ys.map V.int)))
theorem k_sortLam {X : Cx} {c P : Addr} {e : Expr} {dn pn : Str} {i k : Nat} {params : Arguments} {scope : Scope} {td : TE} {p p1 p2 p3 lpos kpos pos : Pos}
    (TB : TabB X.base X.mg c P) (hcode : X.env.code = .ref c) (hr : Room (k + 1) X.A) (hcalm : X.calm = true) (he : PE X e td) (hg : Gl X "sorted") (hm : X.mg "sorted" = none) (hN : X.N[i]? = some dn) (hvis : X.env.scope.names.lookup dn = some .cell)
    (hdef : defaultsOf params X.env = ([], [])) (hbind : ∀ (q : Str) (cl : List (Str × Addr)) (pm cv ctv v : Value), bindArgs (PySem.W.kla_fn "<lambda>" q params (.Subscript (.Name dn p1) (.Name pn p2) p3) scope cl pm cv ctv) ⟨[v], []⟩ = pure [(pn, v)])
    (hk : scope.kind = .function) (hco : scope.isCoroutine = false) (hgen : scope.isGenerator = false) (hnc : ∀ y ∈ scope.names, y.2 ≠ .cell) (hpn : scope.names.lookup pn = some .local) (hdn : scope.names.lookup dn = some .free) (hfree : ∀ y ∈ scope.names, y.2 = .free → y.1 = dn)
    (hd1 : (dn == ("__debug__" : Str)) = false := by decide) (hd2 : (dn == ("__classdict__" : Str)) = false := by decide) (hd3 : (pn == ("__debug__" : Str)) = false := by decide)
    (hst : backTo pos (starEach [e] X.env) = (false, eval e X.env) :: backTo pos (starEach [] X.env) := by rfl) (hpl : (backTo pos (starEach [e] X.env)).any (·.1) = false := by rfl) (hst2 : starEach [e] X.env = (false, eval e X.env) :: starEach [] X.env := by rfl) (ht : ∀ o r, letTemporaryGo (.Name dn p1) o r = pure () := by intro _ _; rfl) :
    PE X (.Call (.Name "sorted" p) [e] [⟨some "key", .Lambda params (.Subscript (.Name dn p1) (.Name pn p2) p3) scope lpos, kpos⟩] pos) (tSortLam P (X.env.qual ++ "<lambda>") i td) := by
  refine ⟨fun pins s σ H Q I h => ?_⟩
  refine wpAny_Call_Name_kw (ld_blt (u := .builtin "sorted") I hg hm (by decide +kernel) ?_ (by decide) (by decide))
  refine PyProof.Rows.callWith_kw (thn ((pa_cons he pa_nil hst2).run pos pins s σ H (fun vs H1 => ∃ (a : Addr) (kvs : List (Key × V)) (ks : List Int) (pv : Int → Int), vs = [.ref a] ∧ σ[i]? = some (some (.ref a)) ∧ H1 a = some (.dK kvs) ∧ kvs.map (·.1) = ks.map Sum.inl ∧ ks.length ≤ sizeLine ∧ (∀ n ∈ ks, valV kvs (.inl n) = some (.int (pv n))) ∧ TabS H1 P (X.env.qual ++ "<lambda>") ∧
      ∀ (H2 : Hp) (ys : List Int) (l : Addr), KW.Fr [P] H1 H2 → TabS H2 P (X.env.qual ++ "<lambda>") → H2 l = none → ys.Perm ks → ys.Pairwise (fun u v => pv u ≤ pv v) → Q (.ref l) (upd H2 l (.lst (ys.map V.int)))) I ?A) fun us s1 ⟨vs, H1, I1, r1, q1⟩ => ?_) hst hpl (by rfl) (by rfl)
  case A =>
    unfold tSortLam at h
    show td σ H _
    have : (fun (x : V) (H1 : Hp) => tNil σ H1 fun vs H2 => ∃ (a : Addr) (kvs : List (Key × V)) (ks : List Int) (pv : Int → Int), x :: vs = [.ref a] ∧ σ[i]? = some (some (.ref a)) ∧ H2 a = some (.dK kvs) ∧ kvs.map (·.1) = ks.map Sum.inl ∧ ks.length ≤ sizeLine ∧ (∀ n ∈ ks, valV kvs (.inl n) = some (.int (pv n))) ∧ TabS H2 P (X.env.qual ++ "<lambda>") ∧
      ∀ (H3 : Hp) (ys : List Int) (l : Addr), KW.Fr [P] H2 H3 → TabS H3 P (X.env.qual ++ "<lambda>") → H3 l = none → ys.Perm ks → ys.Pairwise (fun u v => pv u ≤ pv v) → Q (.ref l) (upd H3 l (.lst (ys.map V.int)))) = fun x H1 => ∃ (a : Addr) (kvs : List (Key × V)) (ks : List Int) (pv : Int → Int), x = .ref a ∧ σ[i]? = some (some (.ref a)) ∧ H1 a = some (.dK kvs) ∧ kvs.map (·.1) = ks.map Sum.inl ∧ ks.length ≤ sizeLine ∧ (∀ n ∈ ks, valV kvs (.inl n) = some (.int (pv n))) ∧ TabS H1 P (X.env.qual ++ "<lambda>") ∧
      ∀ (H2 : Hp) (ys : List Int) (l : Addr), KW.Fr [P] H1 H2 → TabS H2 P (X.env.qual ++ "<lambda>") → H2 l = none → ys.Perm ks → ys.Pairwise (fun u v => pv u ≤ pv v) → Q (.ref l) (upd H2 l (.lst (ys.map V.int))) := by
      funext x H1
      unfold tNil
      simp only [List.cons.injEq, and_true]
    first
      | exact this ▸ h
      | (rw [this]; exact h)
      | exact (congrArg (td σ H) this).symm ▸ h
  obtain ⟨a, kvs, ks, pv, rfl, hs, hd, hks, hz, hpv, hT, q⟩ := q1
  show wpAny _ _ (evalAll ((do let v ← eval (.Lambda params (.Subscript (.Name dn p1) (.Name pn p2) p3) scope lpos) X.env; standAt pos; pure v) :: [])) _ _ s1
  have hhas : ∀ y ∈ scope.names, y.2 = .free → ∃ c, X.env.cells.lookup y.1 = some c := fun y hy e => by
    rw [hfree y hy e]
    exact I.ok.has _ (.inl hvis)
  refine wpAny_evalAll_cons (wpAny_bind (lam_made I1 TB hcode hT hdef hhas fun f c' pm ctv H2 s2 I2 eN hT2 hf hco' => ?_))
  refine wpAny_bind (wpAny_standAt (wpAny_pure ?_))
  refine wpAny_evalAll_nil ?_
  show wpAny _ _ (call (.builtin "sorted") us [(Str.ofString "key", .ref f)]) _ _ s2
  obtain ⟨u, eu, rx⟩ := vals1 r1
  subst eu
  cases rx
  have aP : a ≠ P := fun z => by
    obtain ⟨ps, hP, _⟩ := hT
    rw [z, hP] at hd; cases hd
  have hd2' : H2 a = some (.dK kvs) := eN _ _ (by simpa using aP) hd
  obtain ⟨z0, lo, vs, rel, dd⟩ := dk_rd I2.hok (.inl hd2')
  obtain ⟨ep, hat⟩ := dd.dictAt
  have hkeys : vs.map (·.1) = ks.map Sum.inl := rel.keys.symm.trans hks
  have hl : vs.length = ks.length := by
    have e := congrArg List.length hkeys
    rw [List.length_map, List.length_map] at e
    exact e
  have h16 : vs.length ≤ sizeLine := by rw [hl]; exact hz
  refine PyProof.Rows.call_function_entry_kw PyProof.Rows.kind_sorted PyProof.Rows.plain_sorted PyProof.Rows.entry_sorted (ksk_s1 _ _) ?_
  unfold Builtin.«sorted»
  refine wpAny_bind (m := checkCount "sorted" 1 1 _) (wpAny_pure ?_)
  refine wpAny_bind (PySem.W.kdu_collect (A := X.A.in1) (PySem.W.kdl_dict (knd := mixKind X.prog X.w) (kvs := vs) (ep := ep) lo) (I2.ok.hd hcalm) hat h16 fun h' tk acc hkp hacc => ?_)
  have hal : acc.toList.length = ks.length := by rw [Array.length_toList, hacc.1, hl]
  have hS : IntsAre acc.toList ks := ints_each hal fun j v e => by
    obtain ⟨k, x, e1, e2⟩ := hacc.2 j v (by rw [← Array.getElem?_toList]; exact e)
    have e3 : (vs.map (·.1))[j]? = some k := by rw [List.getElem?_map, e1]; rfl
    rw [hkeys, List.getElem?_map] at e3
    cases e4 : ks[j]? with
    | none => rw [e4] at e3; cases e3
    | some y =>
      rw [e4] at e3
      have e5 : Sum.inl y = k := Option.some.inj e3
      subst e5
      rcases keyIs_shape (show keyIs (Sum.inl y) v = true from e2) with ⟨i, t, ek, ev⟩ | ⟨z, t, ek, ev⟩
      · cases ek
        exact ⟨y, t, rfl, ev⟩
      · cases ek
  have I3 : L2.Inv X pins σ H2 { s2 with heap := h', toks := tk } := I2.kept hkp
  refine wpAny_bind (wpAny_newList ?_ (by rw [hal]; exact hz))
  have hoL : (h'.push (seqObj "list" acc.toList.toArray 0)).get? h'.objs.size = some (seqObj "list" acc.toList.toArray 0) := Heap.get?_push_size _ rfl
  show wpAny _ _ _ _ _ { s2 with heap := h'.push (seqObj "list" acc.toList.toArray 0), toks := tk }
  have I4 : L2.Inv X pins σ H2 { s2 with heap := h'.push (seqObj "list" acc.toList.toArray 0), toks := tk } := I3.kept (t' := tk) fun b o e => Heap.get?_push_of_some _ e
  have of4 : (h'.push (seqObj "list" acc.toList.toArray 0)).get? f = some (PySem.W.kla_obj "<lambda>" (X.env.qual ++ "<lambda>") params (.Subscript (.Name dn p1) (.Name pn p2) p3) scope (cloFrom X.env.cells scope.names []) pm c' ctv) := Heap.get?_push_of_some _ (hkp _ _ hf)
  obtain ⟨m0, hn0, hl0⟩ := I.loc
  obtain ⟨cA, hcA⟩ : ∃ cA, X.env.cells.lookup dn = some cA := I.ok.has _ (.inl hvis)
  have hcl : (cloFrom X.env.cells scope.names []).lookup dn = some cA := by
    have hy : (dn, NameKind.free) ∈ scope.names := PySem.mem_of_lookup hdn
    obtain ⟨c2, h2⟩ := mem_lookup (cloFrom_has (cells := X.env.cells) (acc := []) hy)
    rcases cloFrom_mem (PySem.mem_of_lookup h2) with hm | ⟨h1, h3⟩
    · cases hm
    · obtain ⟨c1, hc⟩ := hhas _ h1 rfl
      have hc : X.env.cells.lookup dn = some c1 := hc
      rw [hcA] at hc; cases hc
      rw [h2, h3]
      have : X.env.cells.lookup dn = some cA := hcA
      simp [this]
  have fin : ∀ (out : List Value) (h3 : Heap) (tk3 : Nat), KeepsBut h'.objs.size (h'.push (seqObj "list" acc.toList.toArray 0)) h3 → (∃ c, h3.get? h'.objs.size = some (seqObj "list" out.toArray c)) → EachIs (fun v (n : Int) => ∃ t, v = Value.int n t) out (ks.mergeSort (dataLe false fun n => PyData.int (pv n))) →
      EP X pins σ Q (.ref h'.objs.size) { s2 with heap := h3, toks := tk3 } := by
    rintro out h3 tk3 kb ⟨cc, ho⟩ ei
    have g1 := eachIs_ints ei
    have hn4 : H2 h'.objs.size = none := I3.hok.fresh (Nat.le_refl _)
    have hpm : (ks.mergeSort (dataLe false fun n => PyData.int (pv n))).Perm ks := List.mergeSort_perm _ _
    have hlen : ((ks.mergeSort (dataLe false fun n => PyData.int (pv n))).map V.int).length ≤ sizeLine := by
      rw [List.length_map, hpm.length_eq]
      exact hz
    refine ⟨.ref h'.objs.size, upd H2 h'.objs.size (.lst ((ks.mergeSort (dataLe false fun n => PyData.int (pv n))).map V.int)), I3.laid (t' := tk3) (fun b u e => ?_) (Nat.le_refl _)
      (show ObjOk X.prog X.w _ _ _ (.lst _) from ⟨hlen, out, cc, vals_of_ints g1, ho⟩), rfl, q H2 _ _ eN hT2 hn4 hpm ?_⟩
    · exact kb b u (Nat.ne_of_lt (Heap.lt_size e)) (Heap.get?_push_of_some _ e)
    · rw [dataLe_int]
      have := List.pairwise_mergeSort (le := fun a b => decide (pv a ≤ pv b)) (fun a b c h1 h2 => by simp at h1 h2 ⊢; omega) (fun a b => by simp; omega) ks
      exact this.imp fun {u v} h => by simpa using h
  have turn : ∀ (v : Value) (x : Int), (∃ t, v = Value.int x t) → x ∈ ks → ∀ (g : Heap) (tkg : Nat), KeepsBut h'.objs.size (h'.push (seqObj "list" acc.toList.toArray 0)) g →
      wpAny (model X.prog X.w) X.A.in1.in1 (call (.ref f) [v]) (KeyPure (PyData.int (pv x)) { s2 with heap := g, toks := tkg }) (fun _ _ => False) { s2 with heap := g, toks := tkg } := by
    rintro v x ⟨t, rfl⟩ hx g tkg kb
    have keep : ∀ b o, h'.get? b = some o → g.get? b = some o := fun b o e => kb b o (Nat.ne_of_lt (Heap.lt_size e)) (Heap.get?_push_of_some _ e)
    have I5 : L2.Inv X pins σ H2 { s2 with heap := g, toks := tkg } := I3.kept (t' := tkg) keep
    obtain ⟨⟨oc, cvs, ct, hoc, hdc, hvc⟩, _, _⟩ := I5.hok c' _ hco'
    refine wpAny_call (kla_callFunE (A := X.A.in1.in1) hr.depth (keep _ _ (hkp _ _ hf)) rfl hco hgen rfl ⟨c', oc, cvs, ct, rfl, hoc, hdc, hvc⟩ ?_)
    rw [hbind]
    refine wpAny_pure (wpAny_newFunctionEnv hnc (fun y hy => by simp at hy; subst hy; exact hpn) (fun h₁ hns hsb => ⟨I5.nolimit.fresh _ hsb, ?_⟩) hk)
    show codeAny _ _ (.expr _ (PySem.W.envX (X.env.qual ++ "<lambda>") scope g.objs.size f (.ref c') (cloFrom X.env.cells scope.names []))) _ _
    have kp1 : ∀ b o, g.get? b = some o → h₁.get? b = some o := fun b o e => hsb.extBut b o (Nat.ne_of_lt (Heap.lt_size e)) (Heap.get?_push_of_some _ e)
    have I6 : L2.Inv X pins σ H2 { s2 with heap := h₁, toks := tkg + 1 } := I5.kept (t' := tkg + 1) kp1
    obtain ⟨m, hn, hlm⟩ := I6.loc
    obtain ⟨u, r, l⟩ := hlm i dn (.ref a) hN hs (Or.inr (Or.inl hvis))
    cases r
    rcases l with ⟨hk', _⟩ | ⟨_, c3, e', hcell⟩
    · have hk' : X.env.scope.names.lookup dn = some .local := hk'
      rw [hvis] at hk'; cases hk'
    have e' : X.env.cells.lookup dn = some c3 := e'
    rw [hcA] at e'; cases e'
    have hcell : Heap.IsCell h₁ cA (some (.ref a)) := hcell
    obtain ⟨z6, lo6, vs6, rel6, dd6⟩ := dk_rd I6.hok (.inl hd2')
    obtain ⟨w', hw', rw'⟩ := RelO.some_of (v := .int (pv x)) (o := valueAt vs6 (.inl x)) (by rw [← hpv x hx]; exact rel6.val (.inl x))
    obtain ⟨tw, rfl⟩ := rw'
    refine kla_codeExpr (subD_of PySem.F.slot_dict_getitem.lookup (fun _ _ => rfl) (wpAny_Name (wpAny_loadName_free hk hdn hcl hcell (wpAny_Name (wpAny_loadName_local hk hpn hns (v := .int x t) ?L ⟨?T, ?G⟩) hd3) hd2) hd1))
    case L => simp
    case T => exact dd6.mapOf.typeIs
    case G => exact wpAny_getItem_of (show (mixKind X.prog X.w).is (.inl x) (.int x t) = true from kV_is (k := .inl x) (show RelV (V.int x) (.int x t) from ⟨t, rfl⟩)) dd6.mapOf hw' ⟨h₁, _, rfl, kp1, .int _ _⟩
  refine wpAny_bind (wpAny_holding (wpAny_call_entry_kw PyProof.Rows.slot_list_sort ⟨_, hoL, rfl⟩ PyProof.Rows.entry_list_sort ?body (ksk_l1 _ _)))
  case body =>
    rw [ksk_t1]
    refine keyH_tree (kz := ks.map fun n => PyData.int (pv n)) (s := { s2 with heap := h'.push (seqObj "list" acc.toList.toArray 0), toks := tk }) hoL (by rw [List.length_map]; exact hal.symm) (by rw [hal]; exact hz) (alike_ints pv ks) (sortable_ints pv ks) ?_
      (keyH_turns (s := { s2 with heap := h'.push (seqObj "list" acc.toList.toArray 0), toks := tk }) (ints_eachIs hS) turn) fun h3 tk3 out cc kp hD ko => ⟨_, rfl, ?_⟩
    · intro d hd
      obtain ⟨n, _, rfl⟩ := List.mem_map.mp hd
      have := hr.un
      show X.A.units + 1 + 1 + _ < _
      simp only [PyData.depth]
      omega
    · exact wpAny_pure ⟨_, rfl, fin out h3 tk3 kp ⟨cc, hD⟩ (keyedOut_each _ ko (ints_eachIs hS))⟩
end KW

set_option Elab.async false
set_option linter.all false
set_option maxRecDepth 100000
set_option maxHeartbeats 4000000
/-! Kw3b: methods whose code object is told; the end with a table -/
namespace KW
open PySem PySem.Spec PyProof.Rows L2 LamX
structure MetAtC (K : Frag) (C : Addr) (m qual : Str) (st : Stmt) (ps : List Str) (c : Addr) : Prop where
  ex : ∃ f, Meth K C m f ∧ ∃ fd, FunD K m qual (defArgs st) (defBody st) (defScope st) [] [] f fd ∧ fd.code = .ref c ∧ Binds K fd ps []
structure DefAtC (K : Frag) (mg : Str → Option Value) (x qual : Str) (st : Stmt) (ps : List Str) (c : Addr) : Prop where
  ex : ∃ (f : Addr) (fd : FuncData), mg x = some (.ref f) ∧ Fun K x qual st f fd ∧ fd.code = .ref c ∧ Binds K fd ps []
section
variable {P : Program} {w : World} {K : Frag} {mg : Str → Option Value} {base : Heap}
theorem MetAtC.ok {C c : Addr} {m qual : Str} {st : Stmt} {N ps : List Str} {k : Nat} {sp : Sp} (D : MetAtC K C m qual st ps c) (cl : Cls K C) (S : FnScope N ps (defScope st)) (len : ∀ vs H Q E, sp vs H Q E → vs.length = ps.length)
    (hbody : ∀ (f : Addr) (A : Around) (outer : List Env) (s : Shared) (H : Hp) (vs : List V) (Q : VK) (E : XK), Room k (A.deeper (envOfC qual (defScope st) s.heap.objs.size f (.ref c))) → sp vs H Q E →
      ∃ t, PSs (cxOf (L2N.CX P w) P w K mg base N qual (defScope st) f (.ref c) A outer s H E) (defBody st) t ∧ t { nx := fun _ H' => Q .non H', rt := Q } (start N vs) H) : CalM P w K mg base (k + 1) C m sp := by
  obtain ⟨f, M, fd, F, hc, hb⟩ := D.ex
  obtain ⟨oc, od, dV, kV, doc, pm, an, cdv, ct, osl, rfl, lk, hcd, _, _⟩ := F.ex
  have hc : cdv = .ref c := hc
  subst hc
  exact ⟨cl, f, _, ps, M, hb, fn_of lk hcd S len fun A outer s H vs Q E hr hsp => hbody f A outer s H vs Q E hr hsp⟩
theorem metAtC_mk {C f c : Addr} {m qual : Str} {st : Stmt} {ps : List Str} {oc : Value} {od an : Option Addr} {osl : Array (Option Value)} {kV doc pm ct : Value} (a : PySem.W.findIn K (.ref C) m = some (some (.ref f))) (fn : PySem.W.isFn K (.ref f) = true) (kp : PySem.W.keepIn K (.ref f) = true)
    (l : K.lookup f = some ⟨oc, od, .func (PySem.W.fnOf m qual (defArgs st) (defBody st) (defScope st) .none kV doc pm an (.ref c) ct), osl⟩) (hc : PySem.W.codeIn K (.ref c) qual = true)
    (hb : ∀ (kV doc pm : Value) (an : Option Addr) (cdv ct : Value) (us : List Value), us.length = ps.length → bindArgs (PySem.W.fnOf m qual (defArgs st) (defBody st) (defScope st) .none kV doc pm an cdv ct) ⟨us, []⟩ = pure (ps.zip us)) : MetAtC K C m qual st ps c := by
  have F : FunD K m qual (defArgs st) (defBody st) (defScope st) [] [] f _ := ⟨⟨oc, od, .none, kV, doc, pm, an, .ref c, ct, osl, rfl, l, hc, .inl ⟨rfl, rfl⟩, .inl rfl⟩, kp⟩
  exact ⟨f, ⟨a, fn, kp⟩, _, F, rfl, F.bindsN hb⟩
/-- the law's promise, a table of code objects at p -/
def sp_law63T (K : Frag) (p : Addr) (q : Str) : Sp := fun vs H Q _ => ∃ (sc : Addr) (ns : List Int), vs = [.ref sc] ∧ SqL K H sc (ns.map .int) ∧ ns.length ≤ 63 ∧ TabS H p q ∧ ∀ H', Q (.bl true) H'
end
theorem walk63T {l : PySem.W.OpenLaw} {k : Nat} {st : Stmt} {q : Program} {loose : List Str} {XP : (Str → Option Value) → Heap → Prop} {YP : World → Heap → Prop} {d : DefRec} {K : Params → PySem.W.Frag} (hn : l.most = some 63) (hdf : d.params.defaults = []) (hd : d.name = "law") (hr : Room k callerA)
    (hY : ∀ (w : World) (h : Heap), YP w h → (K w.params).In h)
    (hb : ∀ (kV doc pm : Value) (an : Option Addr) (cdv ct : Value) (us : List Value), us.length = ["script"].length → bindArgs (PySem.W.fnOf "law" "law" (defArgs st) (defBody st) (defScope st) .none kV doc pm an cdv ct) ⟨us, []⟩ = pure ((["script"] : List Str).zip us))
    (F : ∀ (w : World) (mg : Str → Option Value) (h : Heap), YP w h → (K w.params).In h → h.Ns mainGlobals mg →
      DefAt (K w.params) mg "law" "law" st ["script"] ∧ ∃ (c p : Addr) (qn : Str), h.get? p = some { cls := .none, data := .fields #[] } ∧ (K w.params).lookup p = none ∧ PySem.W.codeHdIn (K w.params) c p = true ∧
        ∀ base f fd, TabB base mg c p → Fun (K w.params) "law" "law" st f fd → FnOk l.prog w (K w.params) mg base (L2N.CX l.prog w) k f fd ["script"] (sp_law63T (K w.params) p qn)) :
    PySem.W.WalkO q loose XP YP l.row.toRowW d [] (fun f vs => PySem.call f vs) := by
  refine walk_ofTs (n := 63) (k := k) (x := "script") (K := K) (CX := fun w => L2N.CX l.prog w) hn (by decide) hdf hr hY ?_ fun _ _ _ _ _ h => CX_none h
  intro w mg fa h Y KX G hmg
  obtain ⟨D, c, p, qn, hT, nT, hC, ok⟩ := F w mg h Y KX G
  obtain ⟨f, fd, hm, Fu, _⟩ := D.ex
  rw [hd, hm] at hmg
  cases hmg
  have Fu' := Fu
  obtain ⟨oc, od, kV, doc, pm, an, cdv, ct, osl, rfl, lk, hcd⟩ := Fu.ex
  refine ⟨_, [(c, p)], sp_law63T (K w.params) p qn, fun z hz => ?_, fun z hz => ?_, fun z hz => ?_, fun s u => .of_eq (hb kV doc pm an cdv ct [u] rfl), fun H a ns hl _ hH hS => ⟨a, ns, rfl, hS, hl, TabS.nil (hH (c, p) (by simp)), fun _ => rfl⟩, fun base _ _ hB => ok base _ _ (hB (c, p) (by simp)) Fu'⟩
  · simp at hz; subst hz; exact hT
  · simp at hz; subst hz; exact nT
  · simp at hz; subst hz; exact PySem.W.codeHd_of_K KX hC
end KW

set_option Elab.async false
set_option linter.all false
set_option maxRecDepth 100000
set_option maxHeartbeats 4000000
/-! StC: closing up -/
namespace ST
open PySem PySem.Spec PyProof.Rows L2 KW LamX
abbrev alv (B : List Blk) : List Blk := B.filter fun e => e.al
theorem nums_alv (B : List Blk) : nums B = (alv B).map fun e => e.n := rfl
theorem lv_alv (B : List Blk) (n : Int) : lv (alv B) n = lv B n := by
  unfold lv alv
  rw [List.any_filter]
  congr 1
  funext e
  cases e.al <;> rfl
theorem mem_alv {B : List Blk} {i : Nat} {e : Blk} (h : (alv B)[i]? = some e) : ∃ j : Nat, B[j]? = some e ∧ e.al = true := by
  have := List.mem_of_getElem? h
  rw [List.mem_filter] at this
  obtain ⟨j, hj⟩ := List.getElem?_of_mem this.1
  exact ⟨j, hj, this.2⟩
theorem Nd.alv {B : List Blk} (N : Nd B) : Nd (alv B) := by
  intro i j e f h1 h2 _ _ hn
  have nd := nums_nodup N
  rw [nums_alv] at nd
  have e1 : ((ST.alv B).map fun e => e.n)[i]? = some e.n := by rw [List.getElem?_map, h1]; rfl
  have e2 : ((ST.alv B).map fun e => e.n)[j]? = some e.n := by rw [List.getElem?_map, h2, hn]; rfl
  exact (List.getElem?_inj (List.getElem?_eq_some_iff.mp e1).1 nd).mp (e1.trans e2.symm)
theorem get_ws {B : List Blk} {i : Nat} {e : Blk} (h : B[i]? = some e) : ((flat B).drop (off B i)).take (e.s.length + 3) = e.ws := by
  rw [flat_at h, List.drop_append, List.drop_eq_nil_of_le (by simp only [off]; omega), List.nil_append]
  have : off B i - (flat (B.take i)).length = 0 := by simp only [off]; omega
  rw [this, List.drop_zero, List.take_append_of_le_length (by rw [Blk.ws_len]; omega), List.take_of_length_le (by rw [Blk.ws_len]; omega)]
/-- the numbers, by their places -/
theorem nums_by {B : List Blk} {pv : Int → Int} (h : ∀ (i : Nat) (e : Blk), B[i]? = some e → e.al = true → pv e.n = (off B i : Nat)) : (nums B).Pairwise fun u v => pv u ≤ pv v := by
  unfold nums
  rw [List.pairwise_map, List.pairwise_filter, List.pairwise_iff_getElem]
  intro i j hi hj hij h1 h2
  rw [h i _ (List.getElem?_eq_getElem hi) h1, h j _ (List.getElem?_eq_getElem hj) h2]
  have := off_lt (List.getElem?_eq_getElem hi) hij
  omega
theorem by_uniq {B : List Blk} {pv : Int → Int} {ys : List Int} (h : ∀ (i : Nat) (e : Blk), B[i]? = some e → e.al = true → pv e.n = (off B i : Nat)) (p : ys.Perm (nums B)) (s : ys.Pairwise fun u v => pv u ≤ pv v) : ys = nums B := by
  refine List.Perm.eq_of_pairwise (le := fun u v => pv u ≤ pv v) (fun x y hx hy h1 h2 => ?_) s (nums_by h) p
  obtain ⟨i, e, hi, ha, rfl⟩ := lv_iff.mp (mem_nums.mp (p.mem_iff.mp hx))
  obtain ⟨j, f, hj, fa, rfl⟩ := lv_iff.mp (mem_nums.mp hy)
  rw [h i e hi ha, h j f hj fa] at h1 h2
  have := off_inj hi hj (by omega)
  subst this
  rw [hi] at hj; cases hj; rfl
theorem lv_take {B : List Blk} (N : Nd B) {i : Nat} {e : Blk} (h : B[i]? = some e) (ha : e.al = true) : lv (B.take i) e.n = false := by
  apply Bool.eq_false_iff.mpr
  intro z
  obtain ⟨j, f, hj, fa, fn⟩ := lv_iff.mp z
  have hj2 : j < i := by
    have := (List.getElem?_eq_some_iff.mp hj).1
    rw [List.length_take] at this; omega
  rw [List.getElem?_take_of_lt hj2] at hj
  have := N j i f e hj h fa ha fn
  omega
theorem flat_le {B : List Blk} : (flat (alv B)).length ≤ (flat B).length := by
  induction B with
  | nil => exact Nat.le_refl _
  | cons e B ih =>
    unfold alv
    rw [List.filter_cons]
    split
    · rw [flat_cons, flat_cons, List.length_append, List.length_append]
      have : (flat (B.filter fun e => e.al)).length ≤ (flat B).length := ih
      omega
    · rw [flat_cons, List.length_append]
      have : (flat (B.filter fun e => e.al)).length ≤ (flat B).length := ih
      omega
theorem flat_take_le {B : List Blk} (i : Nat) : (flat (B.take i)).length ≤ (flat B).length := by
  conv => rhs; rw [← List.take_append_drop i B, flat_app, List.length_append]
  omega
def spCloseUp (C p : Addr) (q : Str) : Sp := fun vs H Q _ => ∃ (st wd pl : Addr) (rm en : Int) (B : List Blk), vs = [.ref st] ∧ Sto C H st wd pl rm en B ∧ TabS H p q ∧ (flat B).length ≤ 2000000 ∧
  ∀ H' wd' pl', Sto C H' st wd' pl' rm en (alv B) → H wd' = none → H pl' = none → KW.Fr [st, p] H H' → TabS H' p q → Q .non H'
theorem _root_.LamX.TabS.new' {H H' : Hp} {p : Addr} {q : Str} {l : List Addr} (t : TabS H p q) (f : KW.Fr l H H') (n : ∀ x ∈ l, (∃ o, H x = some o ∧ (∀ ps, o ≠ .tbl ps) ∧ o ≠ CodeO x q) ∨ H x = none) : TabS H' p q := by
  have key : ∀ b o, H b = some o → ((∃ ps, o = .tbl ps) ∨ o = CodeO b q) → H' b = some o := fun b o e z => by
    refine f b o (fun m => ?_) e
    rcases n b m with ⟨o', e', h1, h2⟩ | e'
    · rw [e] at e'; cases e'
      rcases z with ⟨ps, z⟩ | z
      · exact h1 ps z
      · exact h2 z
    · rw [e] at e'; cases e'
  obtain ⟨ps, h1, h2, h3⟩ := t
  refine ⟨ps, key _ _ h1 (.inl ⟨ps, rfl⟩), h2, fun pos cv hc => ?_⟩
  obtain ⟨c, e1, e2⟩ := h3 pos cv hc
  exact ⟨c, e1, key _ _ e2 (.inr rfl)⟩
/-- no thing of the store, nor a list, is of the table -/
theorem codeO_lst {c : Addr} {q : Str} {xs : List V} : (HO.lst xs) ≠ CodeO c q := fun z => by unfold CodeO at z; cases z
theorem codeO_dK {c : Addr} {q : Str} {kvs : List (Key × V)} : (HO.dK kvs) ≠ CodeO c q := fun z => by unfold CodeO at z; cases z
theorem codeO_ins {c C dx : Addr} {q : Str} {fs : List (Str × V)} : (HO.ins C dx fs) ≠ CodeO c q := fun z => by unfold CodeO at z; cases z
theorem codeO_tup {c : Addr} {q : Str} {xs : List V} : (HO.tup xs) ≠ CodeO c q := fun z => by unfold CodeO at z; cases z
theorem _root_.LamX.TabS.fr0 {H H' : Hp} {p : Addr} {q : Str} (t : TabS H p q) (f : KW.Fr [] H H') : TabS H' p q := LamX.TabS.new' t f (by simp)
theorem _root_.LamX.TabS.ne {H : Hp} {p b : Addr} {q : Str} {o : HO} (t : TabS H p q) (h : H b = some o) (n : ∀ ps, o ≠ .tbl ps) : b ≠ p := fun z => by
  obtain ⟨ps, e, _⟩ := t
  rw [z, e] at h; cases h
  exact n ps rfl
/-- a thing that is no table and no code object -/
def Pln (o : HO) : Prop := (∀ ps, o ≠ .tbl ps) ∧ ∀ c q, o ≠ CodeO c q
theorem pln_lst {xs : List V} : Pln (.lst xs) := ⟨fun ps z => (by cases z), fun c q => codeO_lst⟩
theorem pln_tup {xs : List V} : Pln (.tup xs) := ⟨fun ps z => (by cases z), fun c q => codeO_tup⟩
theorem pln_dK {kvs : List (Key × V)} : Pln (.dK kvs) := ⟨fun ps z => (by cases z), fun c q => codeO_dK⟩
theorem pln_ins {C dx : Addr} {fs : List (Str × V)} : Pln (.ins C dx fs) := ⟨fun ps z => (by cases z), fun c q => codeO_ins⟩
theorem _root_.LamX.TabS.upd {H : Hp} {p b : Addr} {q : Str} {o o' : HO} (t : TabS H p q) (h : H b = some o) (n : Pln o) : TabS (L2.upd H b o') p q :=
  LamX.TabS.new' (l := [b]) t (Fr.upd (by simp)) fun x hx => by
    have : x = b := by simpa using hx
    subst this
    exact .inl ⟨o, h, n.1, n.2 _ _⟩
theorem _root_.LamX.TabS.add {H : Hp} {p b : Addr} {q : Str} {o' : HO} (t : TabS H p q) (h : H b = none) : TabS (L2.upd H b o') p q := t.fr0 (Fr.new h)
theorem _root_.LamX.TabS.frl {H H' : Hp} {p : Addr} {q : Str} {l : List Addr} (t : TabS H p q) (f : KW.Fr l H H') (n : ∀ x ∈ l, ∃ o, H x = some o ∧ Pln o) : TabS H' p q := LamX.TabS.new' t f fun x hx => by
  obtain ⟨o, h, n1, n2⟩ := n x hx
  exact .inl ⟨o, h, n1, n2 _ _⟩
theorem Sto.pln {C : Addr} {H : Hp} {st wd pl : Addr} {rm en : Int} {B : List Blk} (s : Sto C H st wd pl rm en B) : ∀ x ∈ fpS st wd pl, ∃ o, H x = some o ∧ Pln o := by
  obtain ⟨⟨dx, lo, ob, l1⟩, wo, ⟨kvs, pa, ok⟩, nd, nn, wp, sw, sp⟩ := s
  intro x hx
  simp only [List.mem_cons, List.not_mem_nil, or_false] at hx
  rcases hx with rfl | rfl | rfl
  · exact ⟨_, ob, pln_ins⟩
  · exact ⟨_, wo, pln_lst⟩
  · exact ⟨_, pa, pln_dK⟩
end ST
namespace ST
open PySem PySem.Spec PyProof.Rows L2 KW LamX
/-- the blocks with these numbers are dropped -/
def kill (D : List Int) (B : List Blk) : List Blk := B.map fun e => if e.n ∈ D then { e with al := false } else e
theorem kill_nil (B : List Blk) : kill [] B = B := by
  unfold kill
  simp
theorem kill_get {D : List Int} {B : List Blk} {i : Nat} : (kill D B)[i]? = (B[i]?).map fun e => if e.n ∈ D then { e with al := false } else e := by unfold kill; rw [List.getElem?_map]
theorem kill_len (D : List Int) (B : List Blk) : (kill D B).length = B.length := by unfold kill; rw [List.length_map]
theorem flat_kill (D : List Int) (B : List Blk) : flat (kill D B) = flat B := by
  induction B with
  | nil => rfl
  | cons e B ih =>
    have : kill D (e :: B) = (if e.n ∈ D then { e with al := false } else e) :: kill D B := rfl
    rw [this, flat_cons, flat_cons, ih]
    split <;> rfl
theorem kill_set {D : List Int} {B : List Blk} {j : Nat} {e : Blk} (N : Nd B) (h : B[j]? = some e) (ha : e.al = true) (hn : e.n ∉ D) : (kill D B)[j]? = some e ∧ (kill D B).set j { e with al := false } = kill (D ++ [e.n]) B := by
  have h1 : (kill D B)[j]? = some e := by rw [kill_get, h]; simp [hn]
  refine ⟨h1, ?_⟩
  apply List.ext_getElem?
  intro i
  rw [get_set h1, kill_get, kill_get]
  by_cases c : i = j
  · subst c
    rw [if_pos rfl, h]
    simp
  · rw [if_neg c]
    cases hi : B[i]? with
    | none => rfl
    | some f =>
      simp only [Option.map_some]
      by_cases d : f.n = e.n
      · have : f.al = false := by
          cases q : f.al with
          | false => rfl
          | true => exact absurd (N i j f e hi h q ha d) c
        have ff : ({ f with al := false } : Blk) = f := by cases f; simp_all
        rw [ff]
        simp
      · have : (f.n ∈ D ++ [e.n]) ↔ f.n ∈ D := by simp [d]
        simp only [this]
theorem alv_kill {D F : List Int} {B : List Blk} (hD : ∀ n, lv B n = true → (n ∈ D ↔ n ∉ F)) : alv (kill D B) = B.filter fun e => e.al && decide (e.n ∈ F) := by
  have key : ∀ C : List Blk, (∀ e ∈ C, e.al = true → (e.n ∈ D ↔ e.n ∉ F)) → alv (kill D C) = C.filter fun e => e.al && decide (e.n ∈ F) := by
    intro C
    induction C with
    | nil => intro _; rfl
    | cons e C ih =>
      intro hC
      have i1 := ih fun f hf => hC f (List.mem_cons_of_mem _ hf)
      have : kill D (e :: C) = (if e.n ∈ D then { e with al := false } else e) :: kill D C := rfl
      unfold alv at i1 ⊢
      rw [this, List.filter_cons, List.filter_cons, i1]
      cases q : e.al with
      | false => by_cases c : e.n ∈ D <;> simp [c, q]
      | true =>
        have := hC e List.mem_cons_self q
        by_cases c : e.n ∈ D
        · have c2 := this.mp c
          simp [c, c2]
        · have c2 : e.n ∈ F := Decidable.byContradiction fun z => c (this.mpr z)
          simp [c, c2, q]
  exact key B fun e he ha => by
    obtain ⟨i, hi⟩ := List.getElem?_of_mem he
    exact hD e.n (lv_at hi ha)
/-- what is kept: the living ones among F -/
abbrev kept (B : List Blk) (F : List Int) : List Blk := B.filter fun e => e.al && decide (e.n ∈ F)
def spCollect (C p : Addr) (q : Str) : Sp := fun vs H Q _ => ∃ (st wd pl rt : Addr) (rm en : Int) (B : List Blk) (R : List Int), vs = [.ref st, .ref rt] ∧ Sto C H st wd pl rm en B ∧ IL H rt R ∧ TabS H p q ∧ (flat B).length ≤ 2000000 ∧ R.length ≤ 1000000 ∧
  ∀ (F : List Int) (H' : Hp) (wd' pl' : Addr), F.Nodup → (∀ n, n ∈ F ↔ Rch B R n) → Sto C H' st wd' pl' rm en (kept B F) → H wd' = none → H pl' = none → KW.Fr [st, pl, p] H H' → TabS H' p q → Q (.int (((nums B).length : Int) - F.length)) H'
theorem gone_iff {B : List Blk} {F ns : List Int} (hns : ns.Perm (nums B)) (n : Int) (h : lv B n = true) : n ∈ (ns.filter fun m => !decide (m ∈ F)) ↔ n ∉ F := by
  rw [List.mem_filter, hns.mem_iff, mem_nums, h]
  simp
theorem gone_len {B : List Blk} {F ns : List Int} (nF : F.Nodup) (hF : ∀ n ∈ F, lv B n = true) (N : Nd B) (hns : ns.Perm (nums B)) : ((ns.filter fun m => !decide (m ∈ F)).length : Int) = ((nums B).length : Int) - F.length := by
  have h1 : (ns.filter fun m => decide (m ∈ F)).Perm F := (List.perm_ext_iff_of_nodup ((hns.nodup_iff.mpr (nums_nodup N)).sublist List.filter_sublist) nF).mpr fun x => by
    rw [List.mem_filter, hns.mem_iff, mem_nums, decide_eq_true_eq]
    exact ⟨fun h => h.2, fun h => ⟨hF x h, h⟩⟩
  have h2 : ∀ l : List Int, l.length = (l.filter fun m => decide (m ∈ F)).length + (l.filter fun m => !decide (m ∈ F)).length := fun l => by
    induction l with
    | nil => rfl
    | cons x l ih =>
      rw [List.filter_cons, List.filter_cons]
      by_cases c : x ∈ F <;> simp [c] <;> omega
  have h2 := h2 ns
  have h3 := h1.length_eq
  have h4 := hns.length_eq
  omega
end ST
namespace ST
open PySem PySem.Spec PyProof.Rows L2 KW LamX
theorem lv_kept {B : List Blk} {F : List Int} (n : Int) : lv (kept B F) n = (lv B n && decide (n ∈ F)) := by
  apply Bool.eq_iff_iff.mpr
  rw [Bool.and_eq_true, decide_eq_true_eq]
  unfold lv kept
  simp only [List.any_eq_true, List.mem_filter, Bool.and_eq_true, decide_eq_true_eq]
  constructor
  · rintro ⟨e, ⟨h1, h2, h3⟩, h4, h5⟩
    exact ⟨⟨e, h1, h4, h5⟩, h5 ▸ h3⟩
  · rintro ⟨⟨e, h1, h4, h5⟩, h3⟩
    exact ⟨e, ⟨h1, h4, h5 ▸ h3⟩, h4, h5⟩
theorem mem_kept {B : List Blk} {F : List Int} {i : Nat} {e : Blk} (h : (kept B F)[i]? = some e) : ∃ j : Nat, B[j]? = some e ∧ e.al = true ∧ e.n ∈ F := by
  have := List.mem_of_getElem? h
  rw [List.mem_filter, Bool.and_eq_true, decide_eq_true_eq] at this
  obtain ⟨j, hj⟩ := List.getElem?_of_mem this.1
  exact ⟨j, hj, this.2⟩
theorem kept_mem {B : List Blk} {F : List Int} {i : Nat} {e : Blk} (h : B[i]? = some e) (ha : e.al = true) (hn : e.n ∈ F) : ∃ j : Nat, (kept B F)[j]? = some e := by
  have : e ∈ kept B F := by
    rw [List.mem_filter, Bool.and_eq_true, decide_eq_true_eq]
    exact ⟨List.mem_of_getElem? h, ha, hn⟩
  exact List.getElem?_of_mem this
theorem rch_kept {B : List Blk} {R F : List Int} (hF : ∀ n, n ∈ F ↔ Rch B R n) (n : Int) : Rch (kept B F) R n ↔ Rch B R n := by
  constructor
  · intro h
    induction h with
    | root w h1 h2 h3 => rw [lv_kept, Bool.and_eq_true] at h3; exact .root w h1 h2 h3.1
    | step i e w h1 h2 _ h4 h5 h6 ih =>
      rw [lv_kept, Bool.and_eq_true] at h6
      obtain ⟨j, hj, _, _⟩ := mem_kept h1
      exact .step j e w hj h2 ih h4 h5 h6.1
  · intro h
    induction h with
    | root w h1 h2 h3 =>
      refine .root w h1 h2 ?_
      rw [lv_kept, h3, Bool.true_and, decide_eq_true_eq]
      exact (hF _).mpr (.root w h1 h2 h3)
    | step i e w h1 h2 h3 h4 h5 h6 ih =>
      obtain ⟨j, hj⟩ := kept_mem h1 h2 ((hF _).mpr h3)
      refine .step j e w hj h2 ih h4 h5 ?_
      rw [lv_kept, h6, Bool.true_and, decide_eq_true_eq]
      exact (hF _).mpr (.step i e w h1 h2 h3 h4 h5 h6)
theorem kept_same {B : List Blk} {F D : List Int} (h : ∀ n, n ∈ F ↔ n ∈ D) : kept B F = kept B D := by
  unfold kept
  congr 1
  funext e
  simp [h]
theorem kept_kept {B : List Blk} {F D : List Int} (h : ∀ n, n ∈ D ↔ n ∈ F) : kept (kept B F) D = kept B F := by
  unfold kept
  rw [List.filter_filter]
  congr 1
  funext e
  simp [h]
theorem nums_kept {B : List Blk} {F : List Int} (N : Nd B) (nF : F.Nodup) (hF : ∀ n ∈ F, lv B n = true) : (nums (kept B F)).Perm F := by
  have N2 : Nd (kept B F) := by
    intro i j e f h1 h2 e1 f1 hn
    have nd : ((kept B F).map fun e => e.n).Nodup := by
      refine (nums_nodup N).sublist ?_
      unfold nums kept
      refine List.Sublist.map _ ?_
      have : B.filter (fun e => e.al && decide (e.n ∈ F)) = (B.filter fun e => e.al).filter fun e => decide (e.n ∈ F) := by
        rw [List.filter_filter]; congr 1; funext e; cases e.al <;> simp
      rw [this]; exact List.filter_sublist
    have a1 : ((kept B F).map fun e => e.n)[i]? = some e.n := by rw [List.getElem?_map, h1]; rfl
    have a2 : ((kept B F).map fun e => e.n)[j]? = some e.n := by rw [List.getElem?_map, h2, hn]; rfl
    exact (List.getElem?_inj (List.getElem?_eq_some_iff.mp a1).1 nd).mp (a1.trans a2.symm)
  refine (List.perm_ext_iff_of_nodup (nums_nodup N2) nF).mpr fun x => ?_
  rw [mem_nums, lv_kept, Bool.and_eq_true, decide_eq_true_eq]
  exact ⟨fun h => h.2, fun h => ⟨hF x h, h⟩⟩
theorem flat_kept {B : List Blk} {F : List Int} : (flat (kept B F)).length ≤ (flat B).length := by
  induction B with
  | nil => exact Nat.le_refl _
  | cons e B ih =>
    unfold kept at ih ⊢
    rw [List.filter_cons]
    split
    · rw [flat_cons, flat_cons, List.length_append, List.length_append]; omega
    · rw [flat_cons, List.length_append]; omega
theorem lst_out {C : Addr} {H : Hp} {st wd pl p b : Addr} {rm en : Int} {B : List Blk} {q : Str} {xs : List V} (S : Sto C H st wd pl rm en B) (t : TabS H p q) (h : H b = some (.lst xs)) : b ∉ [st, pl, p] := by
  have n3 := t.ne h fun ps z => by cases z
  obtain ⟨⟨dx, lo, ob, l1⟩, wo, ⟨kvs, pa, ok⟩, -, -, -, -, -⟩ := S
  intro z
  simp only [List.mem_cons, List.not_mem_nil, or_false] at z
  rcases z with z | z | z
  · rw [z, ob] at h; cases h
  · rw [z, pa] at h; cases h
  · exact n3 z
/-- the least number that is not in a list -/
structure FreeL (ys : List Int) (f : Int) : Prop where
  pos : 0 ≤ f
  no : f ∉ ys
  all : ∀ i, 0 ≤ i → i < f → i ∈ ys
theorem FreeL.free {B : List Blk} {ys : List Int} {f : Int} (h : FreeL ys f) (e : ∀ n, lv B n = true ↔ n ∈ ys) : Free B f :=
  ⟨h.pos, Bool.eq_false_iff.mpr fun z => h.no ((e f).mp z), fun i h0 h1 => (e i).mpr (h.all i h0 h1)⟩
theorem fullL {ys : List Int} {m : Nat} (h : ∀ i : Int, 0 ≤ i → i < m → i ∈ ys) : m ≤ ys.length := by
  have hn : ((List.range m).map fun i : Nat => (i : Int)).Nodup := by
    rw [List.Nodup, List.pairwise_map]
    exact List.nodup_range.imp fun {a b} h z => h (Int.ofNat.inj z)
  have := List.Nodup.length_le_of_subset hn (l₂ := ys) fun x hx => by
    obtain ⟨i, hi, rfl⟩ := List.mem_map.mp hx
    exact h i (by omega) (by have := List.mem_range.mp hi; omega)
  simpa using this
def spLawFree : Sp := fun vs H Q _ => ∃ (l : Addr) (ys : List Int), vs = [.ref l] ∧ IL H l ys ∧ ys.length ≤ 1000000 ∧ ∀ f, FreeL ys f → Q (.int f) H
theorem collect_s {C p : Addr} {q : Str} {H : Hp} {st wd pl rt : Addr} {rm en : Int} {B : List Blk} {R : List Int} {Q : VK} {E : XK} (S : Sto C H st wd pl rm en B) (hR : IL H rt R) (t : TabS H p q) (h1 : (flat B).length ≤ 2000000) (h2 : R.length ≤ 1000000)
    (k : ∀ (F : List Int) (H' : Hp) (wd' pl' : Addr), F.Nodup → (∀ n, n ∈ F ↔ Rch B R n) → Sto C H' st wd' pl' rm en (kept B F) → H wd' = none → H pl' = none → KW.Fr [st, pl, p] H H' → TabS H' p q → Q (.int (((nums B).length : Int) - F.length)) H') : spCollect C p q [.ref st, .ref rt] H Q E := ⟨st, wd, pl, rt, rm, en, B, R, rfl, S, hR, t, h1, h2, k⟩
end ST
namespace ST
open PySem PySem.Spec PyProof.Rows L2 KW LamX
/-- what Store.snapshot gives out -/
structure Snp (H : Hp) (tp sw sp : Addr) (B : List Blk) : Prop where
  hd : H tp = some (.tup [.ref sw, .ref sp])
  wo : IL H sw (flat B)
  pa : ∃ kvs, H sp = some (.dK kvs) ∧ PlOk kvs B
  nd : Nd B
  nn : ∀ (i : Nat) (e : Blk), B[i]? = some e → e.al = true → 0 ≤ e.n
theorem Snp.fr {H H' : Hp} {tp sw sp : Addr} {B : List Blk} {l : List Addr} (s : Snp H tp sw sp B) (f : KW.Fr l H H') (n : ∀ x ∈ [tp, sw, sp], x ∉ l) : Snp H' tp sw sp B := by
  obtain ⟨hd, wo, ⟨kvs, pa, ok⟩, nd, nn⟩ := s
  exact ⟨f _ _ (n _ (by simp)) hd, f _ _ (n _ (by simp)) wo, ⟨kvs, f _ _ (n _ (by simp)) pa, ok⟩, nd, nn⟩
theorem Snp.there {H : Hp} {tp sw sp : Addr} {B : List Blk} (s : Snp H tp sw sp B) : ∀ x ∈ [tp, sw, sp], ∃ o, H x = some o := by
  obtain ⟨hd, wo, ⟨kvs, pa, ok⟩, nd, nn⟩ := s
  intro x hx
  simp only [List.mem_cons, List.not_mem_nil, or_false] at hx
  rcases hx with rfl | rfl | rfl
  · exact ⟨_, hd⟩
  · exact ⟨_, wo⟩
  · exact ⟨_, pa⟩
def spSnapshot (C : Addr) : Sp := fun vs H Q _ => ∃ (st wd pl : Addr) (rm en : Int) (B : List Blk), vs = [.ref st] ∧ Sto C H st wd pl rm en B ∧
  ∀ tp sw sp H', H tp = none → H sw = none → H sp = none → Snp H' tp sw sp B → KW.Fr [] H H' → Q (.ref tp) H'
def spRestore (C : Addr) : Sp := fun vs H Q _ => ∃ (st wd pl tp sw sp : Addr) (rm en : Int) (B B' : List Blk), vs = [.ref st, .ref tp] ∧ Sto C H st wd pl rm en B ∧ Snp H tp sw sp B' ∧
  ∀ H' wd' pl', Sto C H' st wd' pl' rm en B' → H wd' = none → H pl' = none → KW.Fr [st] H H' → Q .non H'
end ST

set_option Elab.async false
set_option linter.all false
set_option maxRecDepth 100000
set_option maxHeartbeats 4000000
namespace PySem
namespace KErr_limit
open PySem.W PySem.Calls PyProof.Rows PySem.HandSPX PySem.KErr
def eA (p1 p2 : Pos) : Arguments := { posonlyargs := [], args := [{ arg := "self", annotation := none, pos := p1 }, { arg := "limit", annotation := none, pos := p2 }], vararg := none, kwonlyargs := [], kw_defaults := [], kwarg := none, defaults := [] }
def eB (q : Nat → Pos) : List Stmt := [
  .Expr (.Call (.Attribute (.Call (.Name "super" (q 0)) [] [] (q 1)) "__init__" (q 2)) [.Call (.Name "str" (q 3)) [.Name "limit" (q 4)] [] (q 5)] [] (q 6)) (q 7),
  .Assign [.Attribute (.Name "self" (q 8)) "limit" (q 9)] (.Name "limit" (q 10)) (q 11)]
def eS : Scope := { kind := .function, names := [(PySem.Str.ofString "self", .local), (PySem.Str.ofString "limit", .local), (PySem.Str.ofString "__class__", .free), (PySem.Str.ofString "super", .globalImplicit), (PySem.Str.ofString "str", .globalImplicit)], isGenerator := false, isCoroutine := false, more := [] }
def MC (q : Nat → Pos) : Prop := ∀ env : Env, ∃ pl : Sem Bool, eval (.Call (.Attribute (.Call (.Name "super" (q 0)) [] [] (q 1)) "__init__" (q 2)) [.Call (.Name "str" (q 3)) [.Name "limit" (q 4)] [] (q 5)] [] (q 6)) env = (do
      let ov ← attributeBase (.Call (.Name "super" (q 0)) [] [] (q 1)) "__init__" env (eval (.Call (.Name "super" (q 0)) [] [] (q 1)) env)
      standAt (q 2).atName
      let (f, first) ← holding [ov] (getMethod ov "__init__" pl)
      callWith (q 6) f first (backTo (q 6) (starEach [.Call (.Name "str" (q 3)) [.Name "limit" (q 4)] [] (q 5)] env)) [])
def AC (q : Nat → Pos) : Prop := ∀ env : Env, swapsWith (.Name "limit" (q 10)) (some (.Attribute (.Name "self" (q 8)) "limit" (q 9))) (q 11).line env = pure false
/-- what the top leaves of the class x with the one field -/
structure ErrTxt (prog : Program) (K : Frag) (mg : Str → Option Value) (x qual : Str) (C fI cc cda : Addr) : Prop where
  gC : mg x = some (.ref C)
  cls : ∃ nm q N bs bm sn sub ab col dd k0 k1 k2 k3 k5, K.lookup C = some (excClassObj nm q C N bs bm true sn sub ab col dd k0 k1 k2 k3 k5 "ValueError.__new__") ∧ refsVE bm = true
  sup : ks_superIn K C C "__init__" = some (some (.builtin "ValueError.__init__"))
  sa : findIn K (.ref C) "__setattr__" = some (some (.builtin "object.__setattr__"))
  noN : findIn K (.ref C) "limit" = some none
  iC : findIn K (.ref C) "__init__" = some (some (.ref fI))
  tC : typeIn K (.ref fI) = some (.type "function")
  kC : keepIn K (.ref C) = true
  exC : subIn K (.ref C) (.type "BaseException") = some true
  veC : subIn K (.ref C) (.type "ValueError") = some true
  tyC : typeIn K (.ref C) = some (.type "type")
  own : mroIn K C (.ref C) = some true
  tp : nsIn K cStatics "thirdparty.any" = some none
  dg : nsIn K cStatics "sys.int_max_str_digits" = some none
  nsup : mg "super" = none
  nstr : mg "str" = none
  fn : ∃ (oc : Value) (od : Option Addr) (doc pm : Value) (an : Option Addr) (ct : Value) (osl : Array (Option Value)) (p1 p2 : Pos) (q : Nat → Pos),
    K.lookup fI = some ⟨oc, od, .func (ksFn "__init__" qual (eA p1 p2) (eB q) eS .none .none doc pm an (.ref cda) ct cc), osl⟩ ∧ codeIn K (.ref cda) qual = true ∧ MC q ∧ AC q
  cell : ∃ cl cld csl, K.lookup cc = some ⟨cl, cld, .cell (some (.ref C)), csl⟩
  code : ∃ ccl cdd vs ccs file tf, K.lookup cda = some ⟨ccl, cdd, .fields vs, ccs⟩ ∧ vs[2]? = some (.str file tf) ∧ ((prog.main.file : Str) == file) = true
  top : (prog.main.scope.names.lookup ("super" : Str)).isSome = false
section
variable {prog : Program} {w : World} {A : Around} {E : Value → Shared → Prop} {R : Result → Shared → Prop} {s : Shared} {K : Frag} {mg : Str → Option Value} {x qual : Str} {C fI cc cda : Addr}
theorem err_init (T : ErrTxt prog K mg x qual C fI cc cda) {e t0 : Addr} {v : Value} (X : K.In s.heap) (hlim : s.heap.NoLimit) (G : s.heap.Ns mainGlobals mg) (B : ∃ mb, s.heap.Ns builtinsNs mb ∧ ∀ x : Str, x ≠ "__name__" → mb x = bootBuiltins x)
    (hx : s.heap.get? e = some (excO C t0)) (hnx : K.lookup e = none) (hh : A.handled = none) (hroom : A.depth < recursionLimit) (hv : StrOk prog w v)
    (hq : ∀ h' tk dx t1, InitEnd s.heap h' e C dx t1 "limit" v → R (.ok (.ret .none)) { s with heap := h', toks := tk }) :
    codeAny (model prog w) A (.call (.ref fI) ⟨[.ref e, v], []⟩) R s := by
  obtain ⟨oc, od, doc, pm, an, ct, osl, p1, p2, q, ho, hcd, hMC, hAC⟩ := T.fn
  obtain ⟨nm, qn, N, bs, bm, sn, sub, ab, col, dd, k0, k1, k2, k3, k5, hC, hbm⟩ := T.cls
  obtain ⟨cl, cld, csl, hcell⟩ := T.cell
  obtain ⟨ccl, cdd, vs, ccs, file, tf, hcode, hvs, hfile⟩ := T.code
  obtain ⟨mb, Bn, Bb⟩ := B
  have hcl : clsIn K C = some { name := nm, bases := bs, mro := .ref C :: bm, ns := N, qualname := qn, hasDict := true, slotNames := sn, subclasses := sub, abstract := ab, collection := col, hasDel := false } := by unfold clsIn; rw [hC] <;> rfl
  refine ks_codeAny_call_defAt (fd := ksFn "__init__" qual (eA p1 p2) (eB q) eS .none .none doc pm an (.ref cda) ct cc) (body := eB q) (binds := [("self", .ref e), ("limit", v)]) hroom (X _ _ ho) rfl hlim (codeRec_of X hcd) rfl ?b ?c ?l (fun h₁ hns k₁ => ?_)
  case b => exact BindsTo.of_eq (by first | rfl | with_unfolding_all rfl)
  case c => show ∀ x ∈ eS.names, x.2 ≠ .cell; decide
  case l => exact locs rfl
  obtain ⟨sh, sg, sd, st, sos⟩ := s
  have X₁ : K.In h₁ := X.keeps k₁
  have hx₁ := k₁ _ _ hx
  have hC₁ := X₁ _ _ hC
  show _root_.PySem.wpAt (model prog w) _ (.func (eB q) (ksEnv qual eS sh.objs.size fI (.ref cda) cc)) (execs (eB q) (ksEnv qual eS sh.objs.size fI (.ref cda) cc)) _ _ _
  obtain ⟨pl, hpl⟩ := hMC (ksEnv qual eS sh.objs.size fI (.ref cda) cc)
  refine ks_wpAt_execs_cons (ks_wpAt_Expr_any (ks_wpAt_MethodCall ?_ hpl))
  refine ks_wpAt_super_base (env := ksEnv qual eS sh.objs.size fI (.ref cda) cc) (ar := { arg := "self", annotation := none, pos := p1 }) rfl rfl (by decide) rfl (X₁ _ _ ho) rfl rfl rfl (X₁ _ _ hcode) rfl hvs hfile T.top ?_
  refine ks_loadName_global rfl rfl (loadGlobal_builtin (env := ksEnv qual eS sh.objs.size fI (.ref cda) cc) (G.keeps k₁) T.nsup (Bn.keeps k₁) ((Bb _ (by decide +kernel)).trans (by first | boot_by_name | rfl | kernel_rfl)) ⟨rfl, ?_⟩)
  refine wpAny_loadName_free rfl rfl rfl ⟨_, X₁ _ _ hcell, rfl⟩ ?_
  refine wpAny_loadName_local rfl rfl hns (by first | rfl | with_unfolding_all rfl | kernel_rfl) ?_
  refine ks_wpAny_isType_cls hC₁ rfl ⟨rfl, ?_⟩
  refine ks_wpAny_call_super hC₁ rfl hx₁ rfl (fun c z => by cases z) (looks_mroIn X₁ T.own) (fun h₂ e2 k2 => ?_)
  have X₂ : K.In h₂ := X₁.keeps k2
  have hC₂ := k2 _ _ hC₁
  have hx₂ := k2 _ _ hx₁
  have I₂ : InstAt h₂ e (excO C t0) C none := ⟨hx₂, rfl, rfl, trivial⟩
  have hxC : e ≠ C := ks_ne X₂ I₂ hcl
  have hsup := T.sup
  unfold ks_superIn at hsup
  rw [hcl] at hsup
  refine kxs_getMethod kxs_ValueError e2 (looks_opaque X₂ T.tp) (l₀ := .ref C :: bm) (fun A Q E s k q => wpAny_bind ((looks_clsIn X₂ hcl) A _ E s k (wpAny_pure q))) rfl X₂ hsup (I₂.type.andThen (looks_subIn X₂ T.veC)) hxC rfl ?_
  refine kxs_callWith (i := "ValueError.__init__") (x := e) rfl ?_
  refine Calls.evalArgs_plain (Calls.spliced_cons ?_)
  have k3 : ∀ b o, h₂.get? b = some o → (h₂.push (kxs_mw "ValueError.__init__" e)).get? b = some o := fun b o z => Heap.get?_push_of_some _ z
  have X₃ := X₂.keeps k3
  have G₃ := ((G.keeps k₁).keeps k2).keeps k3
  have B₃ := ((Bn.keeps k₁).keeps k2).keeps k3
  have hns₃ := (hns.keeps k2).keeps k3
  have hu : (h₂.push (kxs_mw "ValueError.__init__" e)).get? h₂.objs.size = some (kxs_mw "ValueError.__init__" e) := by heap_get
  have hdg : (h₂.push (kxs_mw "ValueError.__init__" e)).NoDigits := let ⟨mc, a, _⟩ := ((hlim.keeps k₁).keeps k2).keeps k3; ⟨mc, a, ns_none_of X₃ a T.dg⟩
  generalize h₂.push (kxs_mw "ValueError.__init__" e) = h₃ at *
  refine wpAny_Call_NameR (wpAny_Name (ks_loadName_global rfl rfl (loadGlobal_builtin (env := ksEnv qual eS sh.objs.size fI (.ref cda) cc) G₃ T.nstr B₃ ((Bb _ (by decide +kernel)).trans (by first | boot_by_name | rfl | kernel_rfl)) ?_)) rfl)
  refine callWith_type1 ?_
  show wpAny _ _ (eval (.Name "limit" (q 4)) _) _ _ _
  refine wpAny_Name (wpAny_loadName_local rfl rfl hns₃ (by first | rfl | with_unfolding_all rfl | kernel_rfl) ?_) (by decide)
  refine hv _ _ _ _ hh hdg (fun txt tk tk' => ?_)
  refine Calls.spliced_nil ⟨hu, ?_⟩
  refine init_call (hC := k3 _ _ hC₂) (he := k3 _ _ hx₂) (hu := hu) (one_size _) (fun h₄ t1 k4 hx₄ => ?_)
  have hLe : sh.objs.size ≠ e := Nat.ne_of_gt (Heap.lt_size hx)
  have hns₄ : h₄.Ns sh.objs.size (fun x => List.lookup x [((PySem.Str.ofString "self" : Str), Value.ref e), ((PySem.Str.ofString "limit" : Str), v)].reverse) := by
    obtain ⟨oL, es, ep, hL, r⟩ := hns₃
    exact ⟨oL, es, ep, k4 _ _ hLe hL, r⟩
  have X₄ : K.In h₄ := kept_but X₃ hnx k4
  show wpAt _ _ _ (execs _ _) _ _ _
  refine ks_wpAt_execs_cons (ks_wpAt_Assign_Attr (wpAt_of_wpAny (wpAny_Name (wpAny_loadName_local rfl rfl hns₄ (by first | rfl | with_unfolding_all rfl | kernel_rfl) ?_) (by decide))) (hAC _))
  refine wpAny_Name (wpAny_loadName_local rfl rfl hns₄ (by first | rfl | with_unfolding_all rfl | kernel_rfl) ?_) (by decide)
  refine set_plain X₄ (ox := excO C t1) (od := none) ⟨hx₄, rfl, rfl, trivial⟩ T.sa ?_
  refine exc_osa X₄ hx₄ hcl (show refsVE (.ref C :: bm) = true from hbm) rfl T.noN (fun h₅ tk₅ dx k₅ dn dne hx₅ hn₅ => ?_)
  show wpAt _ _ _ (execs _ _) _ _ _
  have z : sh.objs.size < h₄.objs.size := hns₄.lt
  refine wpAt_of_wpAny (wpAny_execs_nil (hq h₅ tk₅ dx t1 ⟨fun b o hb e => k₅ b o hb (k4 b o hb (k3 _ _ (k2 _ _ (k₁ b o e)))), hx₅, Nat.le_of_lt (Nat.lt_of_lt_of_le z dn), dne, hn₅⟩))
theorem err_made (T : ErrTxt prog K mg x qual C fI cc cda) : Mkd prog w K mg C ["limit"] (fun vs => ∃ v, vs = [v] ∧ okS v) := by
  intro A s R vs us rl hok X hlim G B hh hroom hq
  obtain ⟨v, rfl, ov⟩ := hok
  cases rl with
  | cons rv rn =>
  rename_i u us'
  cases rn
  obtain ⟨nm, q, N, bs, bm, sn, sub, ab, col, dd, k0, k1, k2, k3, k5, hC, hbm⟩ := T.cls
  obtain ⟨hp, g, dr, tk, os⟩ := s
  have k : ∀ b o, hp.get? b = some o → ((hp.push (kdv_tup [u])).push (excO C hp.objs.size)).get? b = some o := fun b o e => Heap.get?_push_of_some _ (Heap.get?_push_of_some _ e)
  have hget : ((hp.push (kdv_tup [u])).push (excO C hp.objs.size)).get? (hp.objs.size + 1) = some (excO C hp.objs.size) := by heap_get
  have hnx : K.lookup (hp.objs.size + 1) = none := by
    cases e : K.lookup (hp.objs.size + 1) with
    | none => rfl
    | some o =>
      have z : hp.get? (hp.objs.size + 1) = some o := X _ _ e
      exact absurd (Nat.lt_of_succ_lt (Heap.lt_size z)) (Nat.lt_irrefl _)
  refine call_own F.excBase_ValueError (fun X => refsVE_contains X bm hbm) (X _ _ hC) (looks_findIn X T.iC) (fun self => bind_fn X self T.tC) (one_size u) ?_
  obtain ⟨mb, B1, B2⟩ := B
  refine err_init (s := ⟨(hp.push (kdv_tup [u])).push (excO C hp.objs.size), g, dr, tk, os⟩) T (X.keeps k) (hlim.keeps k) (G.keeps k) ⟨mb, B1.keeps k, B2⟩ hget hnx ?_ ?_ (okS_ok rv ov) fun h' tk' dx t1 ⟨k', hx, dn, dne, hns⟩ => ?_
  · exact hh
  · show A.depth + 1 < recursionLimit
    exact hroom
  · have old : ∀ b o, hp.get? b = some o → h'.get? b = some o := fun b o e => k' b o (Nat.ne_of_lt (Nat.lt_succ_of_lt (Heap.lt_size e))) (k b o e)
    have z : hp.objs.size + 1 + 1 ≤ dx := by
      first
        | (simpa only [Heap.size_push] using dn)
        | exact dn
        | (have q := dn; rw [Heap.size_push, Heap.size_push] at q; exact q)
    refine ⟨rfl, hq h' tk' (hp.objs.size + 1) dx ⟨old, Nat.le_succ _, ⟨_, _, hx, rfl, rfl, rfl, rfl, rfl⟩, Nat.le_trans (Nat.le_trans (Nat.le_succ _) (Nat.le_succ _)) z, dne, ?_⟩⟩
    have ef : (fun y : Str => List.lookup y ([(PySem.Str.ofString "limit" : Str)].zip [u])) = fun y => if y = PySem.Str.ofString "limit" then some u else none := by
      funext y
      by_cases h : y = PySem.Str.ofString "limit"
      · simp [List.lookup, h]
      · have h2 : (y == PySem.Str.ofString "limit") = false := by simpa using h
        simp [List.lookup, h, h2]
    rw [ef]
    exact hns
def p1Of (st : Stmt) : Pos := match (L2.defArgs st).args with | [a, _] => a.pos | _ => ⟨0, 0, 0, 0⟩
def p2Of (st : Stmt) : Pos := match (L2.defArgs st).args with | [_, a] => a.pos | _ => ⟨0, 0, 0, 0⟩
def qOf (st : Stmt) : Nat → Pos := match L2.defBody st with
  | [.Expr (.Call (.Attribute (.Call (.Name _ q0) _ _ q1) _ q2) [.Call (.Name _ q3) [.Name _ q4] _ q5] _ q6) q7, .Assign [.Attribute (.Name _ q8) _ q9] (.Name _ q10) q11] =>
    fun n => [q0, q1, q2, q3, q4, q5, q6, q7, q8, q9, q10, q11].getD n ⟨0, 0, 0, 0⟩
  | _ => fun _ => ⟨0, 0, 0, 0⟩
theorem err_mk (st : Stmt) {h : Heap} {nm q : Str} {N : Addr} {bs bm : List Value} {sn : List Str} {sub : List Value} {ab : Bool} {col : Option Bool} {dd : Option Addr} {k0 k1 k2 k3 k5 : Option Value} {oc : Value} {od : Option Addr} {doc pm : Value} {an : Option Addr} {ct : Value} {osl : Array (Option Value)}
    {cl : Value} {cld : Option Addr} {csl : Array (Option Value)} {ccl : Value} {cdd : Option Addr} {vs : Array Value} {ccs : Array (Option Value)} {file : Str} {tf : Tok}
    (X : K.In h) (G : h.Ns mainGlobals mg) (aC : nsIn K mainGlobals x = some (some (.ref C))) (xL : K.lookup C = some (excClassObj nm q C N bs bm true sn sub ab col dd k0 k1 k2 k3 k5 "ValueError.__new__")) (bmv : refsVE bm = true)
    (sup : ks_superIn K C C "__init__" = some (some (.builtin "ValueError.__init__"))) (sa : findIn K (.ref C) "__setattr__" = some (some (.builtin "object.__setattr__"))) (no : findIn K (.ref C) "limit" = some none)
    (a1 : findIn K (.ref C) "__init__" = some (some (.ref fI))) (t1 : typeIn K (.ref fI) = some (.type "function")) (kC : keepIn K (.ref C) = true) (eC : subIn K (.ref C) (.type "BaseException") = some true) (vC : subIn K (.ref C) (.type "ValueError") = some true)
    (tC : typeIn K (.ref C) = some (.type "type")) (own : mroIn K C (.ref C) = some true) (tp : nsIn K cStatics "thirdparty.any" = some none) (dg : nsIn K cStatics "sys.int_max_str_digits" = some none) (nsup : nsIn K mainGlobals "super" = some none) (nstr : nsIn K mainGlobals "str" = some none)
    (hst : L2.defArgs st = eA (p1Of st) (p2Of st) ∧ L2.defBody st = eB (qOf st) ∧ L2.defScope st = eS)
    (l1 : K.lookup fI = some ⟨oc, od, .func (ksFn "__init__" qual (L2.defArgs st) (L2.defBody st) (L2.defScope st) .none .none doc pm an (.ref cda) ct cc), osl⟩) (c1 : codeIn K (.ref cda) qual = true) (mc : MC (qOf st)) (ac : AC (qOf st))
    (ce : K.lookup cc = some ⟨cl, cld, .cell (some (.ref C)), csl⟩) (co : K.lookup cda = some ⟨ccl, cdd, .fields vs, ccs⟩) (cf : vs[2]? = some (.str file tf)) (cg : ((prog.main.file : Str) == file) = true) (top : (prog.main.scope.names.lookup ("super" : Str)).isSome = false)
    (hg : findIn K (.ref C) "__getattribute__" = some (some (.builtin "BaseException.__getattribute__"))) (hk : findIn K (.ref C) "__getattr__" = some none) (hd : hasDictIn K C = true) (ha : findIn K (.ref C) "__class__" = some (some (.builtin "object.__class__")))
    (hn : specialIn K (.builtin "object.__class__") "__get__" = some (some (.builtin "getset_descriptor.__get__"))) (ht : takesIn K (.builtin "object.__class__") = some true) (hm : mroIn K C (.type "object") = some true) :
    KW.ErrC prog w K mg x C ["limit"] (fun vs => ∃ v, vs = [v] ∧ okS v) := by
  have T : ErrTxt prog K mg x qual C fI cc cda :=
    { gC := mg_of X G aC, cls := ⟨nm, q, N, bs, bm, sn, sub, ab, col, dd, k0, k1, k2, k3, k5, xL, bmv⟩, sup := sup, sa := sa, noN := no, iC := a1, tC := t1, kC := kC, exC := eC, veC := vC, tyC := tC, own := own, tp := tp, dg := dg,
      nsup := mg_none_of X G nsup, nstr := mg_none_of X G nstr,
      fn := ⟨oc, od, doc, pm, an, ct, osl, p1Of st, p2Of st, qOf st, by rw [← hst.1, ← hst.2.1, ← hst.2.2]; exact l1, c1, mc, ac⟩,
      cell := ⟨cl, cld, csl, ce⟩, code := ⟨ccl, cdd, vs, ccs, file, tf, co, cf, cg⟩, top := top }
  exact ⟨T.gC, err_made T, kC, eC, tC, ⟨hg, hk, eC, hd⟩, ⟨hg, hk, eC, hd, ha, hn, ht, hm⟩, fun f hf => by cases hf with | head => exact no | tail _ z => cases z⟩
end
end KErr_limit
end PySem

set_option Elab.async false
set_option linter.all false
set_option maxRecDepth 100000
set_option maxHeartbeats 4000000
namespace PySem
namespace KErr_need
open PySem.W PySem.Calls PyProof.Rows PySem.HandSPX PySem.KErr
def eA (p1 p2 : Pos) : Arguments := { posonlyargs := [], args := [{ arg := "self", annotation := none, pos := p1 }, { arg := "need", annotation := none, pos := p2 }], vararg := none, kwonlyargs := [], kw_defaults := [], kwarg := none, defaults := [] }
def eB (q : Nat → Pos) : List Stmt := [
  .Expr (.Call (.Attribute (.Call (.Name "super" (q 0)) [] [] (q 1)) "__init__" (q 2)) [.Call (.Name "str" (q 3)) [.Name "need" (q 4)] [] (q 5)] [] (q 6)) (q 7),
  .Assign [.Attribute (.Name "self" (q 8)) "need" (q 9)] (.Name "need" (q 10)) (q 11)]
def eS : Scope := { kind := .function, names := [(PySem.Str.ofString "self", .local), (PySem.Str.ofString "need", .local), (PySem.Str.ofString "__class__", .free), (PySem.Str.ofString "super", .globalImplicit), (PySem.Str.ofString "str", .globalImplicit)], isGenerator := false, isCoroutine := false, more := [] }
def MC (q : Nat → Pos) : Prop := ∀ env : Env, ∃ pl : Sem Bool, eval (.Call (.Attribute (.Call (.Name "super" (q 0)) [] [] (q 1)) "__init__" (q 2)) [.Call (.Name "str" (q 3)) [.Name "need" (q 4)] [] (q 5)] [] (q 6)) env = (do
      let ov ← attributeBase (.Call (.Name "super" (q 0)) [] [] (q 1)) "__init__" env (eval (.Call (.Name "super" (q 0)) [] [] (q 1)) env)
      standAt (q 2).atName
      let (f, first) ← holding [ov] (getMethod ov "__init__" pl)
      callWith (q 6) f first (backTo (q 6) (starEach [.Call (.Name "str" (q 3)) [.Name "need" (q 4)] [] (q 5)] env)) [])
def AC (q : Nat → Pos) : Prop := ∀ env : Env, swapsWith (.Name "need" (q 10)) (some (.Attribute (.Name "self" (q 8)) "need" (q 9))) (q 11).line env = pure false
/-- what the top leaves of the class x with the one field -/
structure ErrTxt (prog : Program) (K : Frag) (mg : Str → Option Value) (x qual : Str) (C fI cc cda : Addr) : Prop where
  gC : mg x = some (.ref C)
  cls : ∃ nm q N bs bm sn sub ab col dd k0 k1 k2 k3 k5, K.lookup C = some (excClassObj nm q C N bs bm true sn sub ab col dd k0 k1 k2 k3 k5 "ValueError.__new__") ∧ refsVE bm = true
  sup : ks_superIn K C C "__init__" = some (some (.builtin "ValueError.__init__"))
  sa : findIn K (.ref C) "__setattr__" = some (some (.builtin "object.__setattr__"))
  noN : findIn K (.ref C) "need" = some none
  iC : findIn K (.ref C) "__init__" = some (some (.ref fI))
  tC : typeIn K (.ref fI) = some (.type "function")
  kC : keepIn K (.ref C) = true
  exC : subIn K (.ref C) (.type "BaseException") = some true
  veC : subIn K (.ref C) (.type "ValueError") = some true
  tyC : typeIn K (.ref C) = some (.type "type")
  own : mroIn K C (.ref C) = some true
  tp : nsIn K cStatics "thirdparty.any" = some none
  dg : nsIn K cStatics "sys.int_max_str_digits" = some none
  nsup : mg "super" = none
  nstr : mg "str" = none
  fn : ∃ (oc : Value) (od : Option Addr) (doc pm : Value) (an : Option Addr) (ct : Value) (osl : Array (Option Value)) (p1 p2 : Pos) (q : Nat → Pos),
    K.lookup fI = some ⟨oc, od, .func (ksFn "__init__" qual (eA p1 p2) (eB q) eS .none .none doc pm an (.ref cda) ct cc), osl⟩ ∧ codeIn K (.ref cda) qual = true ∧ MC q ∧ AC q
  cell : ∃ cl cld csl, K.lookup cc = some ⟨cl, cld, .cell (some (.ref C)), csl⟩
  code : ∃ ccl cdd vs ccs file tf, K.lookup cda = some ⟨ccl, cdd, .fields vs, ccs⟩ ∧ vs[2]? = some (.str file tf) ∧ ((prog.main.file : Str) == file) = true
  top : (prog.main.scope.names.lookup ("super" : Str)).isSome = false
section
variable {prog : Program} {w : World} {A : Around} {E : Value → Shared → Prop} {R : Result → Shared → Prop} {s : Shared} {K : Frag} {mg : Str → Option Value} {x qual : Str} {C fI cc cda : Addr}
theorem err_init (T : ErrTxt prog K mg x qual C fI cc cda) {e t0 : Addr} {v : Value} (X : K.In s.heap) (hlim : s.heap.NoLimit) (G : s.heap.Ns mainGlobals mg) (B : ∃ mb, s.heap.Ns builtinsNs mb ∧ ∀ x : Str, x ≠ "__name__" → mb x = bootBuiltins x)
    (hx : s.heap.get? e = some (excO C t0)) (hnx : K.lookup e = none) (hh : A.handled = none) (hroom : A.depth < recursionLimit) (hv : StrOk prog w v)
    (hq : ∀ h' tk dx t1, InitEnd s.heap h' e C dx t1 "need" v → R (.ok (.ret .none)) { s with heap := h', toks := tk }) :
    codeAny (model prog w) A (.call (.ref fI) ⟨[.ref e, v], []⟩) R s := by
  obtain ⟨oc, od, doc, pm, an, ct, osl, p1, p2, q, ho, hcd, hMC, hAC⟩ := T.fn
  obtain ⟨nm, qn, N, bs, bm, sn, sub, ab, col, dd, k0, k1, k2, k3, k5, hC, hbm⟩ := T.cls
  obtain ⟨cl, cld, csl, hcell⟩ := T.cell
  obtain ⟨ccl, cdd, vs, ccs, file, tf, hcode, hvs, hfile⟩ := T.code
  obtain ⟨mb, Bn, Bb⟩ := B
  have hcl : clsIn K C = some { name := nm, bases := bs, mro := .ref C :: bm, ns := N, qualname := qn, hasDict := true, slotNames := sn, subclasses := sub, abstract := ab, collection := col, hasDel := false } := by unfold clsIn; rw [hC] <;> rfl
  refine ks_codeAny_call_defAt (fd := ksFn "__init__" qual (eA p1 p2) (eB q) eS .none .none doc pm an (.ref cda) ct cc) (body := eB q) (binds := [("self", .ref e), ("need", v)]) hroom (X _ _ ho) rfl hlim (codeRec_of X hcd) rfl ?b ?c ?l (fun h₁ hns k₁ => ?_)
  case b => exact BindsTo.of_eq (by first | rfl | with_unfolding_all rfl)
  case c => show ∀ x ∈ eS.names, x.2 ≠ .cell; decide
  case l => exact locs rfl
  obtain ⟨sh, sg, sd, st, sos⟩ := s
  have X₁ : K.In h₁ := X.keeps k₁
  have hx₁ := k₁ _ _ hx
  have hC₁ := X₁ _ _ hC
  show _root_.PySem.wpAt (model prog w) _ (.func (eB q) (ksEnv qual eS sh.objs.size fI (.ref cda) cc)) (execs (eB q) (ksEnv qual eS sh.objs.size fI (.ref cda) cc)) _ _ _
  obtain ⟨pl, hpl⟩ := hMC (ksEnv qual eS sh.objs.size fI (.ref cda) cc)
  refine ks_wpAt_execs_cons (ks_wpAt_Expr_any (ks_wpAt_MethodCall ?_ hpl))
  refine ks_wpAt_super_base (env := ksEnv qual eS sh.objs.size fI (.ref cda) cc) (ar := { arg := "self", annotation := none, pos := p1 }) rfl rfl (by decide) rfl (X₁ _ _ ho) rfl rfl rfl (X₁ _ _ hcode) rfl hvs hfile T.top ?_
  refine ks_loadName_global rfl rfl (loadGlobal_builtin (env := ksEnv qual eS sh.objs.size fI (.ref cda) cc) (G.keeps k₁) T.nsup (Bn.keeps k₁) ((Bb _ (by decide +kernel)).trans (by first | boot_by_name | rfl | kernel_rfl)) ⟨rfl, ?_⟩)
  refine wpAny_loadName_free rfl rfl rfl ⟨_, X₁ _ _ hcell, rfl⟩ ?_
  refine wpAny_loadName_local rfl rfl hns (by first | rfl | with_unfolding_all rfl | kernel_rfl) ?_
  refine ks_wpAny_isType_cls hC₁ rfl ⟨rfl, ?_⟩
  refine ks_wpAny_call_super hC₁ rfl hx₁ rfl (fun c z => by cases z) (looks_mroIn X₁ T.own) (fun h₂ e2 k2 => ?_)
  have X₂ : K.In h₂ := X₁.keeps k2
  have hC₂ := k2 _ _ hC₁
  have hx₂ := k2 _ _ hx₁
  have I₂ : InstAt h₂ e (excO C t0) C none := ⟨hx₂, rfl, rfl, trivial⟩
  have hxC : e ≠ C := ks_ne X₂ I₂ hcl
  have hsup := T.sup
  unfold ks_superIn at hsup
  rw [hcl] at hsup
  refine kxs_getMethod kxs_ValueError e2 (looks_opaque X₂ T.tp) (l₀ := .ref C :: bm) (fun A Q E s k q => wpAny_bind ((looks_clsIn X₂ hcl) A _ E s k (wpAny_pure q))) rfl X₂ hsup (I₂.type.andThen (looks_subIn X₂ T.veC)) hxC rfl ?_
  refine kxs_callWith (i := "ValueError.__init__") (x := e) rfl ?_
  refine Calls.evalArgs_plain (Calls.spliced_cons ?_)
  have k3 : ∀ b o, h₂.get? b = some o → (h₂.push (kxs_mw "ValueError.__init__" e)).get? b = some o := fun b o z => Heap.get?_push_of_some _ z
  have X₃ := X₂.keeps k3
  have G₃ := ((G.keeps k₁).keeps k2).keeps k3
  have B₃ := ((Bn.keeps k₁).keeps k2).keeps k3
  have hns₃ := (hns.keeps k2).keeps k3
  have hu : (h₂.push (kxs_mw "ValueError.__init__" e)).get? h₂.objs.size = some (kxs_mw "ValueError.__init__" e) := by heap_get
  have hdg : (h₂.push (kxs_mw "ValueError.__init__" e)).NoDigits := let ⟨mc, a, _⟩ := ((hlim.keeps k₁).keeps k2).keeps k3; ⟨mc, a, ns_none_of X₃ a T.dg⟩
  generalize h₂.push (kxs_mw "ValueError.__init__" e) = h₃ at *
  refine wpAny_Call_NameR (wpAny_Name (ks_loadName_global rfl rfl (loadGlobal_builtin (env := ksEnv qual eS sh.objs.size fI (.ref cda) cc) G₃ T.nstr B₃ ((Bb _ (by decide +kernel)).trans (by first | boot_by_name | rfl | kernel_rfl)) ?_)) rfl)
  refine callWith_type1 ?_
  show wpAny _ _ (eval (.Name "need" (q 4)) _) _ _ _
  refine wpAny_Name (wpAny_loadName_local rfl rfl hns₃ (by first | rfl | with_unfolding_all rfl | kernel_rfl) ?_) (by decide)
  refine hv _ _ _ _ hh hdg (fun txt tk tk' => ?_)
  refine Calls.spliced_nil ⟨hu, ?_⟩
  refine init_call (hC := k3 _ _ hC₂) (he := k3 _ _ hx₂) (hu := hu) (one_size _) (fun h₄ t1 k4 hx₄ => ?_)
  have hLe : sh.objs.size ≠ e := Nat.ne_of_gt (Heap.lt_size hx)
  have hns₄ : h₄.Ns sh.objs.size (fun x => List.lookup x [((PySem.Str.ofString "self" : Str), Value.ref e), ((PySem.Str.ofString "need" : Str), v)].reverse) := by
    obtain ⟨oL, es, ep, hL, r⟩ := hns₃
    exact ⟨oL, es, ep, k4 _ _ hLe hL, r⟩
  have X₄ : K.In h₄ := kept_but X₃ hnx k4
  show wpAt _ _ _ (execs _ _) _ _ _
  refine ks_wpAt_execs_cons (ks_wpAt_Assign_Attr (wpAt_of_wpAny (wpAny_Name (wpAny_loadName_local rfl rfl hns₄ (by first | rfl | with_unfolding_all rfl | kernel_rfl) ?_) (by decide))) (hAC _))
  refine wpAny_Name (wpAny_loadName_local rfl rfl hns₄ (by first | rfl | with_unfolding_all rfl | kernel_rfl) ?_) (by decide)
  refine set_plain X₄ (ox := excO C t1) (od := none) ⟨hx₄, rfl, rfl, trivial⟩ T.sa ?_
  refine exc_osa X₄ hx₄ hcl (show refsVE (.ref C :: bm) = true from hbm) rfl T.noN (fun h₅ tk₅ dx k₅ dn dne hx₅ hn₅ => ?_)
  show wpAt _ _ _ (execs _ _) _ _ _
  have z : sh.objs.size < h₄.objs.size := hns₄.lt
  refine wpAt_of_wpAny (wpAny_execs_nil (hq h₅ tk₅ dx t1 ⟨fun b o hb e => k₅ b o hb (k4 b o hb (k3 _ _ (k2 _ _ (k₁ b o e)))), hx₅, Nat.le_of_lt (Nat.lt_of_lt_of_le z dn), dne, hn₅⟩))
theorem err_made (T : ErrTxt prog K mg x qual C fI cc cda) : Mkd prog w K mg C ["need"] (fun vs => ∃ v, vs = [v] ∧ okS v) := by
  intro A s R vs us rl hok X hlim G B hh hroom hq
  obtain ⟨v, rfl, ov⟩ := hok
  cases rl with
  | cons rv rn =>
  rename_i u us'
  cases rn
  obtain ⟨nm, q, N, bs, bm, sn, sub, ab, col, dd, k0, k1, k2, k3, k5, hC, hbm⟩ := T.cls
  obtain ⟨hp, g, dr, tk, os⟩ := s
  have k : ∀ b o, hp.get? b = some o → ((hp.push (kdv_tup [u])).push (excO C hp.objs.size)).get? b = some o := fun b o e => Heap.get?_push_of_some _ (Heap.get?_push_of_some _ e)
  have hget : ((hp.push (kdv_tup [u])).push (excO C hp.objs.size)).get? (hp.objs.size + 1) = some (excO C hp.objs.size) := by heap_get
  have hnx : K.lookup (hp.objs.size + 1) = none := by
    cases e : K.lookup (hp.objs.size + 1) with
    | none => rfl
    | some o =>
      have z : hp.get? (hp.objs.size + 1) = some o := X _ _ e
      exact absurd (Nat.lt_of_succ_lt (Heap.lt_size z)) (Nat.lt_irrefl _)
  refine call_own F.excBase_ValueError (fun X => refsVE_contains X bm hbm) (X _ _ hC) (looks_findIn X T.iC) (fun self => bind_fn X self T.tC) (one_size u) ?_
  obtain ⟨mb, B1, B2⟩ := B
  refine err_init (s := ⟨(hp.push (kdv_tup [u])).push (excO C hp.objs.size), g, dr, tk, os⟩) T (X.keeps k) (hlim.keeps k) (G.keeps k) ⟨mb, B1.keeps k, B2⟩ hget hnx ?_ ?_ (okS_ok rv ov) fun h' tk' dx t1 ⟨k', hx, dn, dne, hns⟩ => ?_
  · exact hh
  · show A.depth + 1 < recursionLimit
    exact hroom
  · have old : ∀ b o, hp.get? b = some o → h'.get? b = some o := fun b o e => k' b o (Nat.ne_of_lt (Nat.lt_succ_of_lt (Heap.lt_size e))) (k b o e)
    have z : hp.objs.size + 1 + 1 ≤ dx := by
      first
        | (simpa only [Heap.size_push] using dn)
        | exact dn
        | (have q := dn; rw [Heap.size_push, Heap.size_push] at q; exact q)
    refine ⟨rfl, hq h' tk' (hp.objs.size + 1) dx ⟨old, Nat.le_succ _, ⟨_, _, hx, rfl, rfl, rfl, rfl, rfl⟩, Nat.le_trans (Nat.le_trans (Nat.le_succ _) (Nat.le_succ _)) z, dne, ?_⟩⟩
    have ef : (fun y : Str => List.lookup y ([(PySem.Str.ofString "need" : Str)].zip [u])) = fun y => if y = PySem.Str.ofString "need" then some u else none := by
      funext y
      by_cases h : y = PySem.Str.ofString "need"
      · simp [List.lookup, h]
      · have h2 : (y == PySem.Str.ofString "need") = false := by simpa using h
        simp [List.lookup, h, h2]
    rw [ef]
    exact hns
def p1Of (st : Stmt) : Pos := match (L2.defArgs st).args with | [a, _] => a.pos | _ => ⟨0, 0, 0, 0⟩
def p2Of (st : Stmt) : Pos := match (L2.defArgs st).args with | [_, a] => a.pos | _ => ⟨0, 0, 0, 0⟩
def qOf (st : Stmt) : Nat → Pos := match L2.defBody st with
  | [.Expr (.Call (.Attribute (.Call (.Name _ q0) _ _ q1) _ q2) [.Call (.Name _ q3) [.Name _ q4] _ q5] _ q6) q7, .Assign [.Attribute (.Name _ q8) _ q9] (.Name _ q10) q11] =>
    fun n => [q0, q1, q2, q3, q4, q5, q6, q7, q8, q9, q10, q11].getD n ⟨0, 0, 0, 0⟩
  | _ => fun _ => ⟨0, 0, 0, 0⟩
theorem err_mk (st : Stmt) {h : Heap} {nm q : Str} {N : Addr} {bs bm : List Value} {sn : List Str} {sub : List Value} {ab : Bool} {col : Option Bool} {dd : Option Addr} {k0 k1 k2 k3 k5 : Option Value} {oc : Value} {od : Option Addr} {doc pm : Value} {an : Option Addr} {ct : Value} {osl : Array (Option Value)}
    {cl : Value} {cld : Option Addr} {csl : Array (Option Value)} {ccl : Value} {cdd : Option Addr} {vs : Array Value} {ccs : Array (Option Value)} {file : Str} {tf : Tok}
    (X : K.In h) (G : h.Ns mainGlobals mg) (aC : nsIn K mainGlobals x = some (some (.ref C))) (xL : K.lookup C = some (excClassObj nm q C N bs bm true sn sub ab col dd k0 k1 k2 k3 k5 "ValueError.__new__")) (bmv : refsVE bm = true)
    (sup : ks_superIn K C C "__init__" = some (some (.builtin "ValueError.__init__"))) (sa : findIn K (.ref C) "__setattr__" = some (some (.builtin "object.__setattr__"))) (no : findIn K (.ref C) "need" = some none)
    (a1 : findIn K (.ref C) "__init__" = some (some (.ref fI))) (t1 : typeIn K (.ref fI) = some (.type "function")) (kC : keepIn K (.ref C) = true) (eC : subIn K (.ref C) (.type "BaseException") = some true) (vC : subIn K (.ref C) (.type "ValueError") = some true)
    (tC : typeIn K (.ref C) = some (.type "type")) (own : mroIn K C (.ref C) = some true) (tp : nsIn K cStatics "thirdparty.any" = some none) (dg : nsIn K cStatics "sys.int_max_str_digits" = some none) (nsup : nsIn K mainGlobals "super" = some none) (nstr : nsIn K mainGlobals "str" = some none)
    (hst : L2.defArgs st = eA (p1Of st) (p2Of st) ∧ L2.defBody st = eB (qOf st) ∧ L2.defScope st = eS)
    (l1 : K.lookup fI = some ⟨oc, od, .func (ksFn "__init__" qual (L2.defArgs st) (L2.defBody st) (L2.defScope st) .none .none doc pm an (.ref cda) ct cc), osl⟩) (c1 : codeIn K (.ref cda) qual = true) (mc : MC (qOf st)) (ac : AC (qOf st))
    (ce : K.lookup cc = some ⟨cl, cld, .cell (some (.ref C)), csl⟩) (co : K.lookup cda = some ⟨ccl, cdd, .fields vs, ccs⟩) (cf : vs[2]? = some (.str file tf)) (cg : ((prog.main.file : Str) == file) = true) (top : (prog.main.scope.names.lookup ("super" : Str)).isSome = false)
    (hg : findIn K (.ref C) "__getattribute__" = some (some (.builtin "BaseException.__getattribute__"))) (hk : findIn K (.ref C) "__getattr__" = some none) (hd : hasDictIn K C = true) (ha : findIn K (.ref C) "__class__" = some (some (.builtin "object.__class__")))
    (hn : specialIn K (.builtin "object.__class__") "__get__" = some (some (.builtin "getset_descriptor.__get__"))) (ht : takesIn K (.builtin "object.__class__") = some true) (hm : mroIn K C (.type "object") = some true) :
    KW.ErrC prog w K mg x C ["need"] (fun vs => ∃ v, vs = [v] ∧ okS v) := by
  have T : ErrTxt prog K mg x qual C fI cc cda :=
    { gC := mg_of X G aC, cls := ⟨nm, q, N, bs, bm, sn, sub, ab, col, dd, k0, k1, k2, k3, k5, xL, bmv⟩, sup := sup, sa := sa, noN := no, iC := a1, tC := t1, kC := kC, exC := eC, veC := vC, tyC := tC, own := own, tp := tp, dg := dg,
      nsup := mg_none_of X G nsup, nstr := mg_none_of X G nstr,
      fn := ⟨oc, od, doc, pm, an, ct, osl, p1Of st, p2Of st, qOf st, by rw [← hst.1, ← hst.2.1, ← hst.2.2]; exact l1, c1, mc, ac⟩,
      cell := ⟨cl, cld, csl, ce⟩, code := ⟨ccl, cdd, vs, ccs, file, tf, co, cf, cg⟩, top := top }
  exact ⟨T.gC, err_made T, kC, eC, tC, ⟨hg, hk, eC, hd⟩, ⟨hg, hk, eC, hd, ha, hn, ht, hm⟩, fun f hf => by cases hf with | head => exact no | tail _ z => cases z⟩
end
end KErr_need
end PySem

set_option Elab.async false
set_option linter.all false
set_option maxRecDepth 100000
set_option maxHeartbeats 4000000
namespace K02
open PySem PySem.Spec PyProof.Rows L2 KW
def topS (i : Nat) : Stmt := PySem.Challenge.pw_kilnwarden_k02_store_is_a_list.main.body.getD i (.Pass ⟨0, 0, 0, 0⟩)

theorem lit_0 : (PySem.Str.ofString "number") = S [110, 117, 109, 98, 101, 114] := by decide +kernel
theorem lit_1 : (PySem.Str.ofString "room") = S [114, 111, 111, 109] := by decide +kernel
theorem lit_2 : (PySem.Str.ofString "none") = S [110, 111, 110, 101] := by decide +kernel
abbrev s_NoRoom_init : Stmt := inClass (topS 2) 0
abbrev s_NoNumber_init : Stmt := inClass (topS 3) 0
abbrev s_Store_init : Stmt := inClass (topS 7) 0
abbrev N_Store_init : List Str := ["self", "room", "entries"]
theorem sc_Store_init : FnScope N_Store_init ["self", "room", "entries"] (defScope s_Store_init) := ⟨rfl, rfl, rfl, by decide +kernel, rfl, by decide +kernel, by decide +kernel⟩
abbrev s_Store_used : Stmt := inClass (topS 7) 1
abbrev N_Store_used : List Str := ["self"]
theorem sc_Store_used : FnScope N_Store_used ["self"] (defScope s_Store_used) := ⟨rfl, rfl, rfl, by decide +kernel, rfl, by decide +kernel, by decide +kernel⟩
abbrev s_Store_exists : Stmt := inClass (topS 7) 2
abbrev N_Store_exists : List Str := ["self", "number"]
theorem sc_Store_exists : FnScope N_Store_exists ["self", "number"] (defScope s_Store_exists) := ⟨rfl, rfl, rfl, by decide +kernel, rfl, by decide +kernel, by decide +kernel⟩
abbrev s_Store_numbers : Stmt := inClass (topS 7) 3
abbrev N_Store_numbers : List Str := ["self"]
theorem sc_Store_numbers : FnScope N_Store_numbers ["self"] (defScope s_Store_numbers) := ⟨rfl, rfl, rfl, by decide +kernel, rfl, by decide +kernel, by decide +kernel⟩
abbrev s_Store_free_number : Stmt := inClass (topS 7) 4
abbrev N_Store_free_number : List Str := ["self"]
theorem sc_Store_free_number : FnScope N_Store_free_number ["self"] (defScope s_Store_free_number) := ⟨rfl, rfl, rfl, by decide +kernel, rfl, by decide +kernel, by decide +kernel⟩
abbrev s_Store_allocate : Stmt := inClass (topS 7) 5
abbrev N_Store_allocate : List Str := ["self", "kind", "size", "number"]
theorem sc_Store_allocate : FnScope N_Store_allocate ["self", "kind", "size"] (defScope s_Store_allocate) := ⟨rfl, rfl, rfl, by decide +kernel, rfl, by decide +kernel, by decide +kernel⟩
abbrev s_Store_size : Stmt := inClass (topS 7) 6
abbrev N_Store_size : List Str := ["self", "number"]
theorem sc_Store_size : FnScope N_Store_size ["self", "number"] (defScope s_Store_size) := ⟨rfl, rfl, rfl, by decide +kernel, rfl, by decide +kernel, by decide +kernel⟩
abbrev s_Store_kind : Stmt := inClass (topS 7) 7
abbrev N_Store_kind : List Str := ["self", "number"]
theorem sc_Store_kind : FnScope N_Store_kind ["self", "number"] (defScope s_Store_kind) := ⟨rfl, rfl, rfl, by decide +kernel, rfl, by decide +kernel, by decide +kernel⟩
abbrev s_Store_set_kind : Stmt := inClass (topS 7) 8
abbrev N_Store_set_kind : List Str := ["self", "number", "word"]
theorem sc_Store_set_kind : FnScope N_Store_set_kind ["self", "number", "word"] (defScope s_Store_set_kind) := ⟨rfl, rfl, rfl, by decide +kernel, rfl, by decide +kernel, by decide +kernel⟩
abbrev s_Store_get : Stmt := inClass (topS 7) 9
abbrev N_Store_get : List Str := ["self", "number", "at"]
theorem sc_Store_get : FnScope N_Store_get ["self", "number", "at"] (defScope s_Store_get) := ⟨rfl, rfl, rfl, by decide +kernel, rfl, by decide +kernel, by decide +kernel⟩
abbrev s_Store_put : Stmt := inClass (topS 7) 10
abbrev N_Store_put : List Str := ["self", "number", "at", "word"]
theorem sc_Store_put : FnScope N_Store_put ["self", "number", "at", "word"] (defScope s_Store_put) := ⟨rfl, rfl, rfl, by decide +kernel, rfl, by decide +kernel, by decide +kernel⟩
abbrev s_Store_slots : Stmt := inClass (topS 7) 11
abbrev N_Store_slots : List Str := ["self", "number", "place"]
theorem sc_Store_slots : FnScope N_Store_slots ["self", "number"] (defScope s_Store_slots) := ⟨rfl, rfl, rfl, by decide +kernel, rfl, by decide +kernel, by decide +kernel⟩
abbrev s_Store_drop : Stmt := inClass (topS 7) 12
abbrev N_Store_drop : List Str := ["self", "number"]
theorem sc_Store_drop : FnScope N_Store_drop ["self", "number"] (defScope s_Store_drop) := ⟨rfl, rfl, rfl, by decide +kernel, rfl, by decide +kernel, by decide +kernel⟩
abbrev s_Store_close_up : Stmt := inClass (topS 7) 13
abbrev N_Store_close_up : List Str := ["self", "words", "places", "old", "number", "place"]
theorem sc_Store_close_up : FnScope N_Store_close_up ["self"] (defScope s_Store_close_up) := ⟨rfl, rfl, rfl, by decide +kernel, rfl, by decide +kernel, by decide +kernel⟩
abbrev s_Store_snapshot : Stmt := inClass (topS 7) 14
abbrev N_Store_snapshot : List Str := ["self"]
theorem sc_Store_snapshot : FnScope N_Store_snapshot ["self"] (defScope s_Store_snapshot) := ⟨rfl, rfl, rfl, by decide +kernel, rfl, by decide +kernel, by decide +kernel⟩
abbrev s_Store_restore : Stmt := inClass (topS 7) 15
abbrev N_Store_restore : List Str := ["self", "snapshot", "words", "places"]
theorem sc_Store_restore : FnScope N_Store_restore ["self", "snapshot"] (defScope s_Store_restore) := ⟨rfl, rfl, rfl, by decide +kernel, rfl, by decide +kernel, by decide +kernel⟩
abbrev s_Store_exchange : Stmt := inClass (topS 7) 16
abbrev N_Store_exchange : List Str := ["self", "first", "second", "one", "other"]
theorem sc_Store_exchange : FnScope N_Store_exchange ["self", "first", "second"] (defScope s_Store_exchange) := ⟨rfl, rfl, rfl, by decide +kernel, rfl, by decide +kernel, by decide +kernel⟩
abbrev s__law_number : Stmt := topS 9
abbrev N__law_number : List Str := ["cell", "k", "mixed"]
theorem sc__law_number : FnScope N__law_number ["cell", "k"] (defScope s__law_number) := ⟨rfl, rfl, rfl, by decide +kernel, rfl, by decide +kernel, by decide +kernel⟩
abbrev s__law_deeds : Stmt := topS 10
abbrev N__law_deeds : List Str := ["cell", "k"]
theorem sc__law_deeds : FnScope N__law_deeds ["cell", "k"] (defScope s__law_deeds) := ⟨rfl, rfl, rfl, by decide +kernel, rfl, by decide +kernel, by decide +kernel⟩
abbrev s__law_word : Stmt := topS 11
abbrev N__law_word : List Str := ["x", "rest"]
theorem sc__law_word : FnScope N__law_word ["x"] (defScope s__law_word) := ⟨rfl, rfl, rfl, by decide +kernel, rfl, by decide +kernel, by decide +kernel⟩
abbrev s__law_is : Stmt := topS 12
abbrev N__law_is : List Str := ["actual", "due"]
theorem sc__law_is : FnScope N__law_is ["actual", "due"] (defScope s__law_is) := ⟨rfl, rfl, rfl, by decide +kernel, rfl, by decide +kernel, by decide +kernel⟩
abbrev s__law_same : Stmt := topS 13
abbrev N__law_same : List Str := ["actual", "due", "k"]
theorem sc__law_same : FnScope N__law_same ["actual", "due"] (defScope s__law_same) := ⟨rfl, rfl, rfl, by decide +kernel, rfl, by decide +kernel, by decide +kernel⟩
abbrev s__law_flat : Stmt := topS 14
abbrev N__law_flat : List Str := ["row", "flat", "one"]
theorem sc__law_flat : FnScope N__law_flat ["row"] (defScope s__law_flat) := ⟨rfl, rfl, rfl, by decide +kernel, rfl, by decide +kernel, by decide +kernel⟩
abbrev s__law_living : Stmt := topS 15
abbrev N__law_living : List Str := ["row", "k"]
theorem sc__law_living : FnScope N__law_living ["row"] (defScope s__law_living) := ⟨rfl, rfl, rfl, by decide +kernel, rfl, by decide +kernel, by decide +kernel⟩
abbrev s__law_free : Stmt := topS 16
abbrev N__law_free : List Str := ["row", "taken", "one", "number"]
theorem sc__law_free : FnScope N__law_free ["row"] (defScope s__law_free) := ⟨rfl, rfl, rfl, by decide +kernel, rfl, by decide +kernel, by decide +kernel⟩
abbrev s__law_copy : Stmt := topS 17
abbrev N__law_copy : List Str := ["row", "one"]
theorem sc__law_copy : FnScope N__law_copy ["row"] (defScope s__law_copy) := ⟨rfl, rfl, rfl, by decide +kernel, rfl, by decide +kernel, by decide +kernel⟩
abbrev s__law_allocated : Stmt := topS 18
abbrev N__law_allocated : List Str := ["store", "row", "limits", "kind", "size", "free", "need", "due", "told", "e"]
theorem sc__law_allocated : FnScope N__law_allocated ["store", "row", "limits", "kind", "size"] (defScope s__law_allocated) := ⟨rfl, rfl, rfl, by decide +kernel, rfl, by decide +kernel, by decide +kernel⟩
abbrev s__law_changed : Stmt := topS 19
abbrev N__law_changed : List Str := ["store", "row", "taken", "deed", "x", "rest", "kept", "one", "pick", "living", "other", "at", "number"]
theorem sc__law_changed : FnScope N__law_changed ["store", "row", "taken", "deed", "x"] (defScope s__law_changed) := ⟨rfl, rfl, rfl, by decide +kernel, rfl, by decide +kernel, by decide +kernel⟩
abbrev s__law_agrees : Stmt := topS 20
abbrev N__law_agrees : List Str := ["store", "row", "entries", "x", "flat", "living", "k", "free", "e", "one", "number", "contents", "at"]
theorem sc__law_agrees : FnScope N__law_agrees ["store", "row", "entries", "x"] (defScope s__law_agrees) := ⟨rfl, rfl, rfl, by decide +kernel, rfl, by decide +kernel, by decide +kernel⟩
abbrev s__law_deed : Stmt := topS 21
abbrev N__law_deed : List Str := ["store", "row", "taken", "limits", "x", "size"]
theorem sc__law_deed : FnScope N__law_deed ["store", "row", "taken", "limits", "x"] (defScope s__law_deed) := ⟨rfl, rfl, rfl, by decide +kernel, rfl, by decide +kernel, by decide +kernel⟩
abbrev s_law : Stmt := topS 22
abbrev N_law : List Str := ["script", "cells", "cell", "room", "entries", "store", "row", "taken", "k", "x"]
theorem sc_law : FnScope N_law ["script"] (defScope s_law) := ⟨rfl, rfl, rfl, by decide +kernel, rfl, by decide +kernel, by decide +kernel⟩
structure Ads where
  KilnwardenError : Addr
  NoRoom : Addr
  NoNumber : Addr
  Store : Addr
  c_Store_close_up : Addr
  p_Store_close_up : Addr
structure Txt (P : Program) (w : World) (K : Frag) (mg : Str → Option Value) (a : Ads) : Prop where
  g_KilnwardenError : mg "KilnwardenError" = some (.ref a.KilnwardenError)
  g_NoRoom : mg "NoRoom" = some (.ref a.NoRoom)
  g_NoNumber : mg "NoNumber" = some (.ref a.NoNumber)
  g_Store : mg "Store" = some (.ref a.Store)
  e_NoRoom : ErrC P w K mg "NoRoom" a.NoRoom ["need"] (fun vs => ∃ v, vs = [v] ∧ PySem.KErr.okS v)
  x_NoRoom_KilnwardenError : PySem.W.exmOne K (.ref a.NoRoom) (.ref a.KilnwardenError) = some true
  x_NoRoom_NoNumber : PySem.W.exmOne K (.ref a.NoRoom) (.ref a.NoNumber) = some false
  i_NoRoom_NoNumber : PySem.W.kitOne K (.ref a.NoRoom) (.ref a.NoNumber) = some false
  i_NoRoom_NoRoom : PySem.W.kitOne K (.ref a.NoRoom) (.ref a.NoRoom) = some true
  e_NoNumber : ErrC P w K mg "NoNumber" a.NoNumber ["limit"] (fun vs => ∃ v, vs = [v] ∧ PySem.KErr.okS v)
  x_NoNumber_KilnwardenError : PySem.W.exmOne K (.ref a.NoNumber) (.ref a.KilnwardenError) = some true
  x_NoNumber_NoNumber : PySem.W.exmOne K (.ref a.NoNumber) (.ref a.NoNumber) = some true
  i_NoNumber_NoNumber : PySem.W.kitOne K (.ref a.NoNumber) (.ref a.NoNumber) = some true
  i_NoNumber_NoRoom : PySem.W.kitOne K (.ref a.NoNumber) (.ref a.NoRoom) = some false
  c_Store : ClsA K mg "Store" a.Store ["room", "entries", "words", "_places", "_least"]
  ini_Store : IniAt K a.Store "Store.__init__" s_Store_init ["self", "room", "entries"] []
  m_Store_used : MetAt K a.Store "used" "Store.used" s_Store_used ["self"]
  m_Store_exists : MetAt K a.Store "exists" "Store.exists" s_Store_exists ["self", "number"]
  m_Store_numbers : MetAt K a.Store "numbers" "Store.numbers" s_Store_numbers ["self"]
  m_Store_free_number : MetAt K a.Store "free_number" "Store.free_number" s_Store_free_number ["self"]
  m_Store_allocate : MetAt K a.Store "allocate" "Store.allocate" s_Store_allocate ["self", "kind", "size"]
  m_Store_size : MetAt K a.Store "size" "Store.size" s_Store_size ["self", "number"]
  m_Store_kind : MetAt K a.Store "kind" "Store.kind" s_Store_kind ["self", "number"]
  m_Store_set_kind : MetAt K a.Store "set_kind" "Store.set_kind" s_Store_set_kind ["self", "number", "word"]
  m_Store_get : MetAt K a.Store "get" "Store.get" s_Store_get ["self", "number", "at"]
  m_Store_put : MetAt K a.Store "put" "Store.put" s_Store_put ["self", "number", "at", "word"]
  m_Store_slots : MetAt K a.Store "slots" "Store.slots" s_Store_slots ["self", "number"]
  m_Store_drop : MetAt K a.Store "drop" "Store.drop" s_Store_drop ["self", "number"]
  m_Store_close_up : MetAtC K a.Store "close_up" "Store.close_up" s_Store_close_up ["self"] a.c_Store_close_up
  kd_Store_close_up : PySem.W.codeHdIn K a.c_Store_close_up a.p_Store_close_up = true
  kn_Store_close_up : K.lookup a.p_Store_close_up = none
  m_Store_snapshot : MetAt K a.Store "snapshot" "Store.snapshot" s_Store_snapshot ["self"]
  m_Store_restore : MetAt K a.Store "restore" "Store.restore" s_Store_restore ["self", "snapshot"]
  m_Store_exchange : MetAt K a.Store "exchange" "Store.exchange" s_Store_exchange ["self", "first", "second"]
  n_bool : mg "bool" = none
  n_dict : mg "dict" = none
  n_int : mg "int" = none
  n_isinstance : mg "isinstance" = none
  n_len : mg "len" = none
  n_list : mg "list" = none
  n_min : mg "min" = none
  n_range : mg "range" = none
  n_sorted : mg "sorted" = none
  g_NIL : GV mg "NIL" (.int (0))
  g_HEADER : GV mg "HEADER" (.int (3))
  d__law_number : DefAt K mg "_law_number" "_law_number" s__law_number ["cell", "k"]
  d__law_deeds : DefAt K mg "_law_deeds" "_law_deeds" s__law_deeds ["cell", "k"]
  d__law_word : DefAt K mg "_law_word" "_law_word" s__law_word ["x"]
  d__law_is : DefAt K mg "_law_is" "_law_is" s__law_is ["actual", "due"]
  d__law_same : DefAt K mg "_law_same" "_law_same" s__law_same ["actual", "due"]
  d__law_flat : DefAt K mg "_law_flat" "_law_flat" s__law_flat ["row"]
  d__law_living : DefAt K mg "_law_living" "_law_living" s__law_living ["row"]
  d__law_free : DefAt K mg "_law_free" "_law_free" s__law_free ["row"]
  d__law_copy : DefAt K mg "_law_copy" "_law_copy" s__law_copy ["row"]
  d__law_allocated : DefAt K mg "_law_allocated" "_law_allocated" s__law_allocated ["store", "row", "limits", "kind", "size"]
  d__law_changed : DefAt K mg "_law_changed" "_law_changed" s__law_changed ["store", "row", "taken", "deed", "x"]
  d__law_agrees : DefAt K mg "_law_agrees" "_law_agrees" s__law_agrees ["store", "row", "entries", "x"]
  d__law_deed : DefAt K mg "_law_deed" "_law_deed" s__law_deed ["store", "row", "taken", "limits", "x"]
  d_law : DefAt K mg "law" "law" s_law ["script"]
theorem fe_room_entries : ((PySem.Str.ofString "room" : Str) = PySem.Str.ofString "entries") = False := eq_false (by decide)
theorem fe_room_words : ((PySem.Str.ofString "room" : Str) = PySem.Str.ofString "words") = False := eq_false (by decide)
theorem fe_room__places : ((PySem.Str.ofString "room" : Str) = PySem.Str.ofString "_places") = False := eq_false (by decide)
theorem fe_room__least : ((PySem.Str.ofString "room" : Str) = PySem.Str.ofString "_least") = False := eq_false (by decide)
theorem fe_entries_room : ((PySem.Str.ofString "entries" : Str) = PySem.Str.ofString "room") = False := eq_false (by decide)
theorem fe_entries_words : ((PySem.Str.ofString "entries" : Str) = PySem.Str.ofString "words") = False := eq_false (by decide)
theorem fe_entries__places : ((PySem.Str.ofString "entries" : Str) = PySem.Str.ofString "_places") = False := eq_false (by decide)
theorem fe_entries__least : ((PySem.Str.ofString "entries" : Str) = PySem.Str.ofString "_least") = False := eq_false (by decide)
theorem fe_words_room : ((PySem.Str.ofString "words" : Str) = PySem.Str.ofString "room") = False := eq_false (by decide)
theorem fe_words_entries : ((PySem.Str.ofString "words" : Str) = PySem.Str.ofString "entries") = False := eq_false (by decide)
theorem fe_words__places : ((PySem.Str.ofString "words" : Str) = PySem.Str.ofString "_places") = False := eq_false (by decide)
theorem fe_words__least : ((PySem.Str.ofString "words" : Str) = PySem.Str.ofString "_least") = False := eq_false (by decide)
theorem fe__places_room : ((PySem.Str.ofString "_places" : Str) = PySem.Str.ofString "room") = False := eq_false (by decide)
theorem fe__places_entries : ((PySem.Str.ofString "_places" : Str) = PySem.Str.ofString "entries") = False := eq_false (by decide)
theorem fe__places_words : ((PySem.Str.ofString "_places" : Str) = PySem.Str.ofString "words") = False := eq_false (by decide)
theorem fe__places__least : ((PySem.Str.ofString "_places" : Str) = PySem.Str.ofString "_least") = False := eq_false (by decide)
theorem fe__least_room : ((PySem.Str.ofString "_least" : Str) = PySem.Str.ofString "room") = False := eq_false (by decide)
theorem fe__least_entries : ((PySem.Str.ofString "_least" : Str) = PySem.Str.ofString "entries") = False := eq_false (by decide)
theorem fe__least_words : ((PySem.Str.ofString "_least" : Str) = PySem.Str.ofString "words") = False := eq_false (by decide)
theorem fe__least__places : ((PySem.Str.ofString "_least" : Str) = PySem.Str.ofString "_places") = False := eq_false (by decide)
theorem fl_room_0 : ((PySem.Str.ofString "room" : Str) = S [110, 117, 109, 98, 101, 114]) = False := eq_false (by decide)
theorem lf_room_0 : (S [110, 117, 109, 98, 101, 114] = (PySem.Str.ofString "room" : Str)) = False := eq_false (by decide)
theorem fl_room_2 : ((PySem.Str.ofString "room" : Str) = S [110, 111, 110, 101]) = False := eq_false (by decide)
theorem lf_room_2 : (S [110, 111, 110, 101] = (PySem.Str.ofString "room" : Str)) = False := eq_false (by decide)
theorem Txt.ex {P : Program} {w : World} {K : Frag} {mg : Str → Option Value} {A_KilnwardenError : Addr} {A_NoRoom : Addr} {A_NoNumber : Addr} {A_Store : Addr} {A_c_Store_close_up : Addr} {A_p_Store_close_up : Addr} (h : Txt P w K mg ⟨A_KilnwardenError, A_NoRoom, A_NoNumber, A_Store, A_c_Store_close_up, A_p_Store_close_up⟩) : ∃ a, Txt P w K mg a := ⟨_, h⟩
theorem Txt.exT {P : Program} {w : World} {K : Frag} {mg : Str → Option Value} {A_KilnwardenError : Addr} {A_NoRoom : Addr} {A_NoNumber : Addr} {A_Store : Addr} {A_c_Store_close_up : Addr} {A_p_Store_close_up : Addr} {hh : Heap} (h : Txt P w K mg ⟨A_KilnwardenError, A_NoRoom, A_NoNumber, A_Store, A_c_Store_close_up, A_p_Store_close_up⟩) (hp : hh.get? A_p_Store_close_up = some { cls := .none, data := .fields #[] }) : ∃ a, Txt P w K mg a ∧ hh.get? a.p_Store_close_up = some { cls := .none, data := .fields #[] } := ⟨_, h, hp⟩
end K02

set_option Elab.async false
set_option linter.all false
set_option maxRecDepth 100000
set_option maxHeartbeats 4000000
namespace K02
open PySem PySem.Spec PyProof.Rows L2 KW ST
local macro_rules | `(tactic| walk_at "kw") => `(tactic| simp only [tSeq, tNext, tIfS, tTest, tAnd, tOr, tNot, tAndV, tOrV, tNotV, tIf, tChain, tOp, tUn, tC, tAsg, gName, gSub, gCons, gNil, tRet, tRetN, tDrop, tCons, tNil, tCB, tAug, tSl, tPart, tNoPart, tLst, tTup, tBM, tBM0, uTest, uFor, iRng1, iRng2, iList, uCall, List.map_cons, List.map_nil, List.length_cons, List.length_nil, List.cons_append, List.nil_append, List.replicate, Nat.zero_add, Nat.reduceAdd, Nat.reduceSub, List.getElem?_cons_zero, List.getElem?_cons_succ, List.set_cons_zero, List.set_cons_succ, V.bl.injEq, V.int.injEq, V.str.injEq, V.ref.injEq, V.ty.injEq, List.cons.injEq, and_true, true_and, exists_eq_left', exists_eq_right, exists_eq_left, exists_and_left, exists_and_right, decide_eq_true_eq, Bool.not_eq_true', decide_eq_false_iff_not, Bool.false_eq_true, if_true, if_false, ite_true, ite_false, Bool.not_true, Bool.not_false, reduceCtorEq, decide_true, decide_false, Bool.not_not, isK_int_int, isK_int_bool, isK_int_str, isK_int_list, isK_int_tuple, isK_bool_int, isK_bool_bool, isK_bool_str, isK_str_str, isK_str_int, isK_str_bool, isK_str_tuple, isK_str_list, isK_list_list, isK_list_tuple, isK_tuple_tuple, isK_tuple_list, isOk_int_int, isOk_int_bool, isOk_int_str, isOk_int_list, isOk_int_tuple, isOk_bool_int, isOk_bool_bool, isOk_bool_str, isOk_str_str, isOk_str_int, isOk_str_bool, isOk_str_tuple, isOk_str_list, isOk_list_list, isOk_list_tuple, isOk_tuple_tuple, isOk_tuple_list, isK_dict_dict, isOk_dict_dict, isK_none_int, isK_none_bool, isOk_none_int, isOk_none_bool, tyV, S_inj, S_cat, L2.start, Nat.reduceSub, List.replicate_succ, List.replicate_zero, and_assoc, List.append_nil, Nat.reduceEqDiff, Option.some.injEq, Int.natCast_inj, upd_upd, Int.reducePow, Int.reduceToNat, Int.reduceMul, Int.reduceAdd, Int.reduceSub, Int.reduceLT, Int.reduceLE, Int.reduceNeg, Int.reduceDiv, Int.reduceMod, Nat.reducePow, Nat.reduceMul, S_len, List.length_append, List.length_map, List.length_range, not_true_eq_false, not_false_eq_true, ne_eq, uAdd_e1, uAdd_e2, uSub_e1, uMod_e1, uDiv_e1, uPow_e1, uShl_e1, uNeg_e1, uIAdd_e1, uIAdd_e2, uIAdd_e3, uISub_e1, uLt_e1, uLt_e2, uLe_e1, uGt_e1, uGe_e1, uEq_e1, uEq_e2, uEq_e3, uEq_e4, uEq_e5, uEq_e6, uEq_e7, uEq_e8, uEq_e9, uEq_e10, uEq_e11, uNe_e1, uNe_e2, uNe_e3, uNe_e4, uNe_e5, uNe_e6, uNe_e7, uNe_e8, uNe_e9, uNe_e10, uNe_e11, uIs_e1, uIs_e2, uIs_e3, uIs_e4, uIs_e5, uIs_e6, uNotIs_e1, uNotIs_e2, uNotIs_e3, uNotIs_e4, uNotIs_e5, uNotIs_e6, uIn_e1, uIn_e2, uIn_e3, uIn_e4, uNotIn_e1, uNotIn_e2, uNotIn_e3, uNotIn_e4, uTru_e1, uTru_e2, uTru_e3, uTru_e4, uIx_e2, uSl_e2, uLen_e1, uAbs_e1, uInt_e1, uInt_e2, uMin2_e1, uIsi_e1, uIsi_e2, uIsi_e3, uIsi_e4, cx_K, uVar_0, uVar_n, uFld, uSFld, uMet, uMake, tDG, tDI, tDNI, tDP, tDD, uMk, uRaise, uDelSl, tCallS, L2.WE, uStr_e1, uStr_e2, uMul2_e1, uMul2_e2, okS_i, okS_s, List.zip_cons_cons, List.zip_nil_left, List.drop_zero, List.drop_succ_cons, List.drop_nil, putF_nil, putF_cons, eq_self, tDNewK, tB, Option.isSome_some, Option.isSome_none, false_and, false_or, or_false, exists_false, Int.zero_add, uLc, wipe, tYes, isEmpty_app, List.isEmpty_cons, List.isEmpty_nil, List.isEmpty_map, Bool.and_false, Bool.and_true, iRev, K02.lit_0, K02.lit_2, K02.fe_room_entries, K02.fe_room_words, K02.fe_room__places, K02.fe_room__least, K02.fe_entries_room, K02.fe_entries_words, K02.fe_entries__places, K02.fe_entries__least, K02.fe_words_room, K02.fe_words_entries, K02.fe_words__places, K02.fe_words__least, K02.fe__places_room, K02.fe__places_entries, K02.fe__places_words, K02.fe__places__least, K02.fe__least_room, K02.fe__least_entries, K02.fe__least_words, K02.fe__least__places, K02.fl_room_0, K02.lf_room_0, K02.fl_room_2, K02.lf_room_2, K02.N_Store_init, K02.N_Store_used, K02.N_Store_exists, K02.N_Store_numbers, K02.N_Store_free_number, K02.N_Store_allocate, K02.N_Store_size, K02.N_Store_kind, K02.N_Store_set_kind, K02.N_Store_get, K02.N_Store_put, K02.N_Store_slots, K02.N_Store_drop, K02.N_Store_close_up, K02.N_Store_snapshot, K02.N_Store_restore, K02.N_Store_exchange, K02.N__law_number, K02.N__law_deeds, K02.N__law_word, K02.N__law_is, K02.N__law_same, K02.N__law_flat, K02.N__law_living, K02.N__law_free, K02.N__law_copy, K02.N__law_allocated, K02.N__law_changed, K02.N__law_agrees, K02.N__law_deed, K02.N_law])
local macro_rules | `(tactic| walk_at "nn") => `(tactic| first | assumption | exact ne_un (by assumption) | exact ne_un (ne_un (by assumption)) | exact ne_un (ne_un (ne_un (by assumption))) | exact ne_un (ne_un (ne_un (ne_un (by assumption)))))
local macro_rules | `(tactic| walk_at "ne") => `(tactic| first | assumption | (apply Ne.symm; assumption) | exact ne_ud (by assumption) | exact Ne.symm (ne_ud (by assumption)) | exact ne_ud (ne_un (by assumption)) | exact Ne.symm (ne_ud (ne_un (by assumption))) | exact ne_ud (ne_un (ne_un (by assumption))) | exact Ne.symm (ne_ud (ne_un (ne_un (by assumption)))) | exact ne_m (by assumption) (by assumption) | exact Ne.symm (ne_m (by assumption) (by assumption)) | exact ne_n (by assumption) (by walk_at "nn") | exact Ne.symm (ne_n (by assumption) (by walk_at "nn")))
local macro_rules | `(tactic| walk_at "hp") => `(tactic| first | assumption | exact upd_same | (refine Eq.trans (upd_ne ?_) ?_; (focus walk_at "ne"); walk_at "hp"))
local macro_rules | `(tactic| walk_at "sc") => `(tactic| first | (with_reducible assumption) | omega | exact le_line (by (try simp only [List.length_map, List.length_append, List.length_cons, List.length_nil, S_len]); omega) | exact div_s (by omega) | exact mul_r (by omega) | exact mul_l (by omega) | exact pow_s (by omega) | exact mul2_r (by omega) | exact mul2_l (by omega) | exact small4300 (by omega) | exact lt_line (by (try simp only [List.length_map, List.length_append, List.length_cons, List.length_nil, S_len]); omega) | exact ⟨_, by assumption⟩ | (guard_target =~ Exists _; exact ⟨_, .of (by walk_at "hp")⟩) | (guard_target =~ _ ∨ _; exact .inl ⟨_, by assumption⟩) | (guard_target =~ _ ∨ _; exact .inl ⟨_, .of (by walk_at "hp")⟩) | (guard_target =~ _ ∨ _; exact .inr (.inr (.inl ⟨rfl, .inl ⟨_, by walk_at "hp"⟩⟩))) | decide)
local macro_rules | `(tactic| walk_at "kr") => `(tactic| first | (guard_target =~ _ ∧ _; first | refine And.intro (by walk_at "sc") ?_) | (guard_target =~ KW.uIx _ _ _ _ _; first | refine ix_l (by walk_at "hp") (by first | walk_at "hv" | rfl) ?_ | refine ix_t (by walk_at "hp") (by first | walk_at "hv" | rfl) ?_ | refine ix_sl (by assumption) (by walk_at "hv") ?_) | (guard_target =~ KW.uLen _ _ _ _; first | refine len_l (by walk_at "hp") ?_ | refine len_t (by walk_at "hp") ?_ | refine len_sl (by assumption) ?_) | (guard_target =~ KW.uSet _ _ _ _ _; first | refine set_l (by walk_at "hp") (by first | walk_at "hv" | rfl) ?_) | (guard_target =~ L2.gTup _ _ _ _ _ _ _; first | refine tup_l (by walk_at "hp") (by rfl) ?_) | (guard_target =~ KW.uGet _ _ _ _ _; first | refine get_l (by walk_at "hp") (by walk_at "hc") (by decide) (by rfl) ?_) | (guard_target =~ KW.uPut _ _ _ _ _ _; first | refine put_l (by walk_at "hp") (by walk_at "hc") (by decide) (by simp) ?_) | (guard_target =~ KW.uMet.uMt _ _ _ _ _ _ _ _ _; first | refine met_l (by walk_at "hp") (by rfl) ?_) | (guard_target =~ KW.uMet.uMt _ _ _ _ _ _ _ _ _; first | refine ST.met_s (by assumption) (by decide) ?_) | (guard_target =~ ST.spExists _ _ _ _ _; first | refine ST.exists_s (by assumption) ?_) | (guard_target =~ ST.spUsed _ _ _ _ _; first | refine ST.used_s (by assumption) ?_) | (guard_target =~ KW.uGet _ _ _ _ _; first | refine ST.words_s (by assumption) (by walk_at "hc") (by decide) ?_) | (guard_target =~ KW.uDIn _ _ _ _; first | refine din_i (by walk_at "hp") ?_ | refine din_s (by walk_at "hp") ?_) | (guard_target =~ KW.uDGet _ _ _ _; first | refine dget_i (by walk_at "hp") (by walk_at "hv") ?_ | refine dget_s (by walk_at "hp") (by walk_at "hv") ?_) | (guard_target =~ KW.uDPut _ _ _ _ _; first | refine dput_i (by walk_at "hp") (by walk_at "sc") ?_ | refine dput_s (by walk_at "hp") (by walk_at "sc") ?_) | (guard_target =~ KW.uDDel _ _ _ _; first | refine ddel_i (by walk_at "hp") (by walk_at "hv") ?_ | refine ddel_s (by walk_at "hp") (by walk_at "hv") ?_) | (guard_target =~ KW.uMul2 _ _ _ _; first | refine rep_l (by walk_at "hp") (by walk_at "sc") (by walk_at "sc") (by walk_at "sc") ?_) | (guard_target =~ L2.rAppend _ _ _ _; first | refine app_l (by walk_at "hp") (by walk_at "sc") ?_) | (guard_target =~ L2.rPop _ _ _ _; first | refine pop_l (by walk_at "hp") (by walk_at "hv") ?_ | refine pops_l (by walk_at "hp") ?_) | (guard_target =~ L2.rClear _ _ _ _; first | refine clr_l (by walk_at "hp") ?_) | (guard_target =~ L2.rReverse _ _ _ _; first | refine rev_l (by walk_at "hp") ?_) | (guard_target =~ L2.rExtend _ _ _ _; first | refine ext_l (by walk_at "hp") (by walk_at "hp") (by walk_at "sc") ?_) | (guard_target =~ KW.uAdd _ _ _ _ _; first | refine ucat_l (by walk_at "hp") (by walk_at "hp") (by walk_at "sc") ?_) | (guard_target =~ KW.uSl _ _ _ _ _ _; first | refine usl_l (by walk_at "hp") ?_) | (guard_target =~ KW.uTru _ _ _ _; first | refine tru_l (by walk_at "hp") ?_ | refine tru_t (by walk_at "hp") ?_ | refine tru_d (by walk_at "hp") ?_ | refine tru_sl (by assumption) ?_) | (guard_target =~ L2.rIndex _ _ _ _ _; first | refine idx_s (by walk_at "hp") (by assumption) ?_ | refine idx_i (by walk_at "hp") (by assumption) ?_) | (guard_target =~ L2.rIn _ _ _ _ _ _; first | refine in_s (by walk_at "hp") ?_ | refine nin_s (by walk_at "hp") ?_ | refine in_i (by walk_at "hp") ?_ | refine nin_i (by walk_at "hp") ?_) | (guard_target =~ KW.uIsi _ _ _ _; first | refine isi_l (by walk_at "hp") (by decide +kernel) ?_ | refine isi_t (by walk_at "hp") (by decide +kernel) ?_ | refine isi_d (by walk_at "hp") (by decide +kernel) ?_) | (guard_target =~ KW.uList _ _ _ _; first | refine list_l (by walk_at "hp") ?_ | refine list_t (by walk_at "hp") ?_ | refine list_sl (by assumption) ?_) | (guard_target =~ KW.uDict _ _ _; first | refine dict_d (by walk_at "hp") ?_) | (guard_target =~ KW.uSorted _ _ _ _; first | refine srt_l (by walk_at "hp") ?_) | (guard_target =~ KW.uSum _ _ _ _; first | refine sum_l (by walk_at "hp") ?_) | (guard_target =~ KW.uDelC _ _ _ _; first | refine dels_l (by walk_at "hp") (by walk_at "sc") ?_) | (guard_target =~ L2.wAs _ _ _ _ _ _ _ _ _ _; first | refine as_yes (by walk_at "hx") ?_ | refine as_no (by walk_at "hx") ?_) | (guard_target =~ KW.uEf _ _ _ _ _ _ _ _ _; first | refine ef_l (by walk_at "he") (by decide) (by rfl) (by walk_at "hp") (by rfl) ?_) | (guard_target =~ KW.uIsE _ _ _ _ _ _ _; first | refine isE_r (by walk_at "he") (by walk_at "hp") (by walk_at "hk") ?_ | refine isE_t (by walk_at "he") (by walk_at "hp") (by walk_at "hk") ?_))
local macro_rules | `(tactic| walk_at "hv") => `(tactic| first | assumption)
local macro_rules | `(tactic| walk_at "kk") => `(tactic| repeat (first | walk_at "kw" | walk_at "kr"))
local macro_rules | `(tactic| walk_at "hc") => `(tactic| first | exact K02.Txt.c_Store (by assumption))
local macro_rules | `(tactic| walk_at "he") => `(tactic| first | exact K02.Txt.e_NoRoom (by assumption) | exact K02.Txt.e_NoNumber (by assumption))
local macro_rules | `(tactic| walk_at "hx") => `(tactic| first | exact K02.Txt.x_NoRoom_KilnwardenError (by assumption) | exact K02.Txt.x_NoRoom_NoNumber (by assumption) | exact K02.Txt.x_NoNumber_KilnwardenError (by assumption) | exact K02.Txt.x_NoNumber_NoNumber (by assumption))
local macro_rules | `(tactic| walk_at "hk") => `(tactic| first | exact K02.Txt.i_NoRoom_NoNumber (by assumption) | exact K02.Txt.i_NoRoom_NoRoom (by assumption) | exact K02.Txt.i_NoNumber_NoNumber (by assumption) | exact K02.Txt.i_NoNumber_NoRoom (by assumption))

section
variable {P : Program} {w : World} {K : Frag} {mg : Str → Option Value} {base : Heap} {a : Ads}
theorem ok_Store_init (T : Txt P w K mg a) : CalI P w K mg base 1 "Store" a.Store [] (spInit a.Store) := by
  refine T.ini_Store.ok T.g_Store sc_Store_init (fun vs H Q E h => ?_) (fun f cdv A outer s H vs Q E hr h => ⟨_, (pss_cons (k_sfld (kv 0) (kv 1) rfl)
      (pss_cons (k_sfld (kv 0) (kv 2) rfl)
      (pss_cons (k_sfld (kv 0) (pe_lst pa_nil) rfl)
      (pss_cons (k_sfld (kv 0) pe_dnewK rfl)
      (pss_one (k_sfld (kv 0) pe_int rfl)))))), ?_⟩)
  · obtain ⟨_, _, _, _, rfl, _⟩ := h; rfl
  · obtain ⟨st, dx, rm, en, rfl, hs, q⟩ := h
    walk_at "kk"
    intro p hp
    walk_at "kk"
    intro r hr2
    walk_at "kk"
    have e1 : p ≠ st := by walk_at "ne"
    have e2 : r ≠ p := by walk_at "ne"
    have e3 : r ≠ st := by walk_at "ne"
    refine q _ p r ?S ?F (by walk_at "nn") (by walk_at "nn")
    case S => exact ⟨⟨dx, 0, upd_same, Int.le_refl _, fun i h0 h1 => by omega⟩, by walk_at "hp", ⟨[], by walk_at "hp", .nil⟩, fun i j e f h => by simp at h, fun i e h => by simp at h, e2.symm, e1.symm, e3.symm⟩
    intro b o hb hH
    have b1 : b ≠ st := fun z => hb (by simp [z])
    have b2 : b ≠ p := by walk_at "ne"
    have b3 : b ≠ r := by walk_at "ne"
    walk_at "hp"
theorem ok_Store_used (T : Txt P w K mg a) : CalM P w K mg base 1 a.Store "used" (spUsed a.Store) := by
  refine T.m_Store_used.ok T.c_Store.cls sc_Store_used (fun vs H Q E h => ?_) (fun f cdv A outer s H vs Q E hr h => ⟨_, (pss_one (ps_ret (pe_callB c_len (by rfl) T.n_len (by decide +kernel) (pa_cons (k_fld (kv 0) rfl) pa_nil)))), ?_⟩)
  · obtain ⟨_, _, _, _, _, _, rfl, _⟩ := h; rfl
  · obtain ⟨st, wd, pl, rm, en, B, rfl, ⟨⟨dx, lo, ob, l1, l2⟩, wo, ⟨kvs, pa, ok⟩, nd, nn, wp, sw, sp⟩, h⟩ := h
    walk_at "kk"
    exact h
theorem ok_Store_exists (T : Txt P w K mg a) : CalM P w K mg base 1 a.Store "exists" (spExists a.Store) := by
  refine T.m_Store_exists.ok T.c_Store.cls sc_Store_exists (fun vs H Q E h => ?_) (fun f cdv A outer s H vs Q E hr h => ⟨_, (pss_one (ps_ret (pe_cmp (k_din (hu_of hr) (kv 1) (k_fld (kv 0) rfl))))), ?_⟩)
  · obtain ⟨_, _, _, _, _, _, _, rfl, _⟩ := h; rfl
  · obtain ⟨st, wd, pl, rm, en, B, n, rfl, ⟨⟨dx, lo, ob, l1, l2⟩, wo, ⟨kvs, pa, ok⟩, nd, nn, wp, sw, sp⟩, h⟩ := h
    walk_at "kk"
    rw [ok.isS n]
    exact h
theorem ok_Store_numbers (T : Txt P w K mg a) : CalM P w K mg base 1 a.Store "numbers" (spNumbers a.Store) := by
  refine T.m_Store_numbers.ok T.c_Store.cls sc_Store_numbers (fun vs H Q E h => ?_) (fun f cdv A outer s H vs Q E hr h => ⟨_, (pss_one (ps_ret (pe_callB (c_sorted rfl) (by rfl) T.n_sorted (by decide +kernel) (pa_cons (k_fld (kv 0) rfl) pa_nil)))), ?_⟩)
  · obtain ⟨_, _, _, _, _, _, rfl, _⟩ := h; rfl
  · obtain ⟨st, wd, pl, rm, en, B, rfl, ⟨⟨dx, lo, ob, l1, l2⟩, wo, ⟨kvs, pa, ok⟩, nd, nn, wp, sw, sp⟩, hB, h⟩ := h
    obtain ⟨ns, ek, nnd, m⟩ := id ok.ks
    have hl := ok.len
    have e1 := congrArg List.length ek
    rw [List.length_map, List.length_map] at e1
    walk_at "kk"
    refine srt_d pa ek (le_line (by omega)) fun ys p h1 h2 h3 => ?_
    exact h ys p (h1.trans ((List.perm_ext_iff_of_nodup nnd (nums_nodup nd)).mpr fun x => (m x).trans mem_nums.symm)) h2 h3
theorem ok_Store_size (T : Txt P w K mg a) : CalM P w K mg base 1 a.Store "size" (spSize a.Store) := by
  refine T.m_Store_size.ok T.c_Store.cls sc_Store_size (fun vs H Q E h => ?_) (fun f cdv A outer s H vs Q E hr h => ⟨_, (pss_one (ps_ret (pe_ix o_ix (k_fld (kv 0) rfl) (pe_op o_add (k_dget (hu_of hr) (k_fld (kv 0) rfl) (kv 1)) pe_int) (fun _ _ => rfl)))), ?_⟩)
  · obtain ⟨_, _, _, _, _, _, _, _, _, rfl, _⟩ := h; rfl
  · obtain ⟨st, wd, pl, rm, en, B, _, i, e, rfl, ⟨⟨dx, lo, ob, l1, l2⟩, wo, ⟨kvs, pa, ok⟩, nd, nn, wp, sw, sp⟩, hi, ha, rfl, h⟩ := h
    have hd := ok.at_ i e hi ha
    have hv : atI ((flat B).map V.int) ((off B i : Int) + 1) = some (.int (e.s.length : Nat)) := atI_map (i := off B i + 1) (get_size hi)
    walk_at "kk"
    exact h
theorem ok_Store_kind (T : Txt P w K mg a) : CalM P w K mg base 1 a.Store "kind" (spKind a.Store) := by
  refine T.m_Store_kind.ok T.c_Store.cls sc_Store_kind (fun vs H Q E h => ?_) (fun f cdv A outer s H vs Q E hr h => ⟨_, (pss_one (ps_ret (pe_ix o_ix (k_fld (kv 0) rfl) (pe_op o_add (k_dget (hu_of hr) (k_fld (kv 0) rfl) (kv 1)) pe_int) (fun _ _ => rfl)))), ?_⟩)
  · obtain ⟨_, _, _, _, _, _, _, _, _, rfl, _⟩ := h; rfl
  · obtain ⟨st, wd, pl, rm, en, B, _, i, e, rfl, ⟨⟨dx, lo, ob, l1, l2⟩, wo, ⟨kvs, pa, ok⟩, nd, nn, wp, sw, sp⟩, hi, ha, rfl, h⟩ := h
    have hd := ok.at_ i e hi ha
    have hv : atI ((flat B).map V.int) ((off B i : Int) + 2) = some (.int e.k) := atI_map (i := off B i + 2) (get_kind hi)
    walk_at "kk"
    exact h
theorem ok_Store_get (T : Txt P w K mg a) : CalM P w K mg base 1 a.Store "get" (spGet a.Store) := by
  refine T.m_Store_get.ok T.c_Store.cls sc_Store_get (fun vs H Q E h => ?_) (fun f cdv A outer s H vs Q E hr h => ⟨_, (pss_one (ps_ret (pe_ix o_ix (k_fld (kv 0) rfl) (pe_op o_add (pe_op o_add (k_dget (hu_of hr) (k_fld (kv 0) rfl) (kv 1)) (k_g T.g_HEADER)) (kv 2)) (fun _ _ => rfl)))), ?_⟩)
  · obtain ⟨_, _, _, _, _, _, _, _, _, _, _, rfl, _⟩ := h; rfl
  · obtain ⟨st, wd, pl, rm, en, B, _, i, j, e, z, rfl, ⟨⟨dx, lo, ob, l1, l2⟩, wo, ⟨kvs, pa, ok⟩, nd, nn, wp, sw, sp⟩, hi, ha, rfl, hz, h⟩ := h
    have hd := ok.at_ i e hi ha
    have hj := (List.getElem?_eq_some_iff.mp hz).1
    have hv : atI ((flat B).map V.int) ((off B i : Int) + 3 + j) = some (.int z) := atI_map (i := off B i + 3 + j) ((get_slot hi hj).trans hz)
    walk_at "kk"
    exact h
theorem ok_Store_set_kind (T : Txt P w K mg a) : CalM P w K mg base 1 a.Store "set_kind" (spSetKind a.Store) := by
  refine T.m_Store_set_kind.ok T.c_Store.cls sc_Store_set_kind (fun vs H Q E h => ?_) (fun f cdv A outer s H vs Q E hr h => ⟨_, (pss_one (ps_asg (kv 2) (pg_sub (k_fld (kv 0) rfl) (pe_op o_add (k_dget (hu_of hr) (k_fld (kv 0) rfl) (kv 1)) pe_int) s_set))), ?_⟩)
  · obtain ⟨_, _, _, _, _, _, _, _, _, _, rfl, _⟩ := h; rfl
  · obtain ⟨st, wd, pl, rm, en, B, _, z, i, e, rfl, ⟨⟨dx, lo, ob, l1, l2⟩, wo, ⟨kvs, pa, ok⟩, nd, nn, wp, sw, sp⟩, hi, ha, rfl, h⟩ := h
    have hd := ok.at_ i e hi ha
    have hl := off_add hi
    have hv : ixN ((flat B).map V.int).length ((off B i : Int) + 2) = some (off B i + 2) := by
      rw [List.length_map]; unfold ixN; rw [if_pos (by omega), if_pos (by omega)]; rfl
    walk_at "kk"
    refine h _ ⟨⟨dx, lo, by walk_at "hp", l1, fun i h0 h1 => ?_⟩, ?_, ⟨kvs, by walk_at "hp", ok.same hi rfl rfl rfl⟩, nd.set hi rfl rfl, fun j u hj ua => ?_, wp, sw, sp⟩ (Fr.upd (by simp))
    · rw [lv_set (f := { e with k := z }) hi rfl rfl]; exact l2 i h0 h1
    · rw [upd_same, ← ST.set_kind hi, List.map_set]
    · rw [get_set hi] at hj
      split at hj
      · cases hj; exact nn i e hi ha
      · exact nn j u hj ua
theorem ok_Store_put (T : Txt P w K mg a) : CalM P w K mg base 1 a.Store "put" (spPut a.Store) := by
  refine T.m_Store_put.ok T.c_Store.cls sc_Store_put (fun vs H Q E h => ?_) (fun f cdv A outer s H vs Q E hr h => ⟨_, (pss_one (ps_asg (kv 3) (pg_sub (k_fld (kv 0) rfl) (pe_op o_add (pe_op o_add (k_dget (hu_of hr) (k_fld (kv 0) rfl) (kv 1)) (k_g T.g_HEADER)) (kv 2)) s_set))), ?_⟩)
  · obtain ⟨_, _, _, _, _, _, _, _, _, _, _, rfl, _⟩ := h; rfl
  · obtain ⟨st, wd, pl, rm, en, B, _, z, i, j, e, rfl, ⟨⟨dx, lo, ob, l1, l2⟩, wo, ⟨kvs, pa, ok⟩, nd, nn, wp, sw, sp⟩, hi, ha, rfl, hj, h⟩ := h
    have hd := ok.at_ i e hi ha
    have hl := off_add hi
    have hv : ixN ((flat B).map V.int).length ((off B i : Int) + 3 + j) = some (off B i + 3 + j) := by
      rw [List.length_map]; unfold ixN; rw [if_pos (by omega), if_pos (by omega)]; congr 1
    walk_at "kk"
    refine h _ ⟨⟨dx, lo, by walk_at "hp", l1, fun i h0 h1 => ?_⟩, ?_, ⟨kvs, by walk_at "hp", ok.same hi rfl rfl (by simp)⟩, nd.set hi rfl rfl, fun j u hj ua => ?_, wp, sw, sp⟩ (Fr.upd (by simp))
    · rw [lv_set (f := { e with s := e.s.set j z }) hi rfl rfl]; exact l2 i h0 h1
    · rw [upd_same, ← set_slot hi hj, List.map_set]
    · rw [get_set hi] at hj
      split at hj
      · cases hj; exact nn i e hi ha
      · exact nn j u hj ua
theorem ok_Store_slots (T : Txt P w K mg a) : CalM P w K mg base 2 a.Store "slots" (spSlots a.Store) := by
  have M_Store_size := ok_Store_size (P := P) (w := w) (base := base) T
  refine T.m_Store_slots.ok T.c_Store.cls sc_Store_slots (fun vs H Q E h => ?_) (fun f cdv A outer s H vs Q E hr h => ⟨_, (pss_cons (ps_set (i := 2) sc_Store_slots.nd rfl (Or.inl rfl) (pe_op o_add (k_dget (hu_of hr) (k_fld (kv 0) rfl) (kv 1)) (k_g T.g_HEADER)))
      (pss_one (ps_ret (pe_slice o_sl (k_fld (kv 0) rfl) (po_some (kv 2)) (po_some (pe_op o_add (kv 2) (km M_Store_size (hr.mono (by decide)) (kv 0) (pa_cons (kv 1) pa_nil)))))))), ?_⟩)
  · obtain ⟨_, _, _, _, _, _, _, _, _, rfl, _⟩ := h; rfl
  · obtain ⟨st, wd, pl, rm, en, B, _, i, e, rfl, S, hi, ha, rfl, h⟩ := h
    obtain ⟨⟨dx, lo, ob, l1, l2⟩, wo, ⟨kvs, pa, ok⟩, nd, nn, wp, sw, sp⟩ := id S
    have hd := ok.at_ i e hi ha
    walk_at "kk"
    refine ⟨st, wd, pl, rm, en, B, _, i, e, rfl, S, hi, ha, rfl, ?_⟩
    walk_at "kk"
    intro l hl
    have ee : cutV ((flat B).map V.int) (some ((off B i : Int) + 3)) (some ((off B i : Int) + 3 + e.s.length)) = e.s.map V.int := by
      rw [show ((off B i : Int) + 3) = ((off B i + 3 : Nat) : Int) by omega, show (((off B i + 3 : Nat) : Int) + e.s.length) = ((off B i + 3 + e.s.length : Nat) : Int) by omega, cutV_nat, ← List.map_drop, ← List.map_take, show off B i + 3 + e.s.length - (off B i + 3) = e.s.length by omega, get_slots hi]
    rw [ee]
    exact h l hl
theorem ok_Store_drop (T : Txt P w K mg a) : CalM P w K mg base 1 a.Store "drop" (spDrop a.Store) := by
  refine T.m_Store_drop.ok T.c_Store.cls sc_Store_drop (fun vs H Q E h => ?_) (fun f cdv A outer s H vs Q E hr h => ⟨_, (pss_cons (k_ddel (k_fld (kv 0) rfl) (kv 1))
      (pss_one (k_sfld (kv 0) (pe_callB (c_min2 rfl) (by rfl) T.n_min (by decide +kernel) (pa_cons (k_fld (kv 0) rfl) (pa_cons (kv 1) pa_nil))) rfl))), ?_⟩)
  · obtain ⟨_, _, _, _, _, _, _, _, _, rfl, _⟩ := h; rfl
  · obtain ⟨st, wd, pl, rm, en, B, _, i, e, rfl, ⟨⟨dx, lo, ob, l1, l2⟩, wo, ⟨kvs, pa, ok⟩, nd, nn, wp, sw, sp⟩, hi, ha, rfl, h⟩ := h
    have hd : (valV kvs (.inl e.n)).isSome = true := by rw [ok.at_ i e hi ha]; rfl
    have h0 := nn i e hi ha
    walk_at "kk"
    refine h _ ⟨⟨dx, min lo e.n, ?_, by omega, fun i h0 h1 => ?_⟩, ?_, ⟨_, by walk_at "hp", ok.drop nd hi ha⟩, nd.drop hi, fun j u hj ua => ?_, wp, sw, sp⟩ ((Fr.upd (by simp)).trans (Fr.upd (by simp)))
    · rw [upd_same, show min lo e.n = if e.n < lo then e.n else lo by omega]
    · rw [lv_drop nd hi ha, l2 i h0 (by omega)]
      have : ¬ i = e.n := by omega
      simp [this]
    · rw [flat_al hi]; walk_at "hp"
    · rw [get_set hi] at hj
      split at hj
      · cases hj; cases ua
      · exact nn j u hj ua
theorem ok_Store_snapshot (T : Txt P w K mg a) : CalM P w K mg base 1 a.Store "snapshot" (spSnapshot a.Store) := by
  refine T.m_Store_snapshot.ok T.c_Store.cls sc_Store_snapshot (fun vs H Q E h => ?_) (fun f cdv A outer s H vs Q E hr h => ⟨_, (pss_one (ps_ret (pe_tup (pa_cons (pe_callTy c_list (by rfl) T.n_list (by decide +kernel) (pa_cons (k_fld (kv 0) rfl) pa_nil)) (pa_cons (pe_callTy c_dict (by rfl) T.n_dict (by decide +kernel) (pa_cons (k_fld (kv 0) rfl) pa_nil)) pa_nil))))), ?_⟩)
  · obtain ⟨_, _, _, _, _, _, rfl, _⟩ := h; rfl
  · obtain ⟨st, wd, pl, rm, en, B, rfl, S, h⟩ := h
    obtain ⟨⟨dx, lo, ob, l1, l2⟩, wo, ⟨kvs, pa, ok⟩, nd, nn, wp, sw, sp⟩ := S
    walk_at "kk"
    intro s1 q1
    walk_at "kk"
    intro s2 q2
    walk_at "kk"
    intro s3 q3
    exact h s3 s1 s2 _ (by walk_at "nn") q1 (by walk_at "nn") ⟨upd_same, by show _ = _; walk_at "hp", ⟨kvs, by walk_at "hp", ok⟩, nd, nn⟩ ((Fr.new q1).trans ((Fr.new q2).trans (Fr.new q3)))
theorem ok_Store_restore (T : Txt P w K mg a) : CalM P w K mg base 1 a.Store "restore" (spRestore a.Store) := by
  refine T.m_Store_restore.ok T.c_Store.cls sc_Store_restore (fun vs H Q E h => ?_) (fun f cdv A outer s H vs Q E hr h => ⟨_, (pss_cons (ps_asg (kv 1) (pg_tup (n := 2) (by rfl) (pgs_cons (pg_name (i := 2) sc_Store_restore.nd rfl (Or.inl rfl)) (pgs_cons (pg_name (i := 3) sc_Store_restore.nd rfl (Or.inl rfl)) pgs_nil))))
      (pss_cons (k_sfld (kv 0) (pe_callTy c_list (by rfl) T.n_list (by decide +kernel) (pa_cons (kv 2) pa_nil)) rfl)
      (pss_cons (k_sfld (kv 0) (pe_callTy c_dict (by rfl) T.n_dict (by decide +kernel) (pa_cons (kv 3) pa_nil)) rfl)
      (pss_one (k_sfld (kv 0) pe_int rfl))))), ?_⟩)
  · obtain ⟨_, _, _, _, _, _, _, _, _, _, rfl, _⟩ := h; rfl
  · obtain ⟨st, wd, pl, tp, sw', sp', rm, en, B, B', rfl, S, Z, h⟩ := h
    obtain ⟨⟨dx, lo, ob, l1, l2⟩, wo, ⟨kvs, pa, ok⟩, nd, nn, wp, sw, sp⟩ := S
    obtain ⟨zd, zw, ⟨kv2, zp, zok⟩, znd, znn⟩ := Z
    have zst : sp' ≠ st := fun z => by rw [z, ob] at zp; cases zp
    walk_at "kk"
    intro a1 q1
    walk_at "kk"
    intro a2 q2
    walk_at "kk"
    have f1 : st ≠ a1 := ne_of_none ob q1
    have f2 : st ≠ a2 := ne_of_none ob (by walk_at "nn")
    have f3 : a1 ≠ a2 := fun z => by rw [← z, upd_ne (Ne.symm f1), upd_same] at q2; cases q2
    refine h _ a1 a2 ⟨⟨dx, 0, by walk_at "hp", Int.le_refl _, fun i h0 h1 => by omega⟩, by walk_at "hp", ⟨kv2, by walk_at "hp", zok⟩, znd, znn, f3, f1, f2⟩ q1 (by walk_at "nn") ((Fr.new q1).trans ((Fr.upd (a := st) (by simp)).trans ((Fr.new q2).trans (Fr.upd (a := st) (by simp)))))
theorem ok_Store_exchange (T : Txt P w K mg a) : CalM P w K mg base 1 a.Store "exchange" (spExchange a.Store) := by
  refine T.m_Store_exchange.ok T.c_Store.cls sc_Store_exchange (fun vs H Q E h => ?_) (fun f cdv A outer s H vs Q E hr h => ⟨_, (pss_cons (ps_set (i := 3) sc_Store_exchange.nd rfl (Or.inl rfl) (k_dget (hu_of hr) (k_fld (kv 0) rfl) (kv 1)))
      (pss_cons (ps_set (i := 4) sc_Store_exchange.nd rfl (Or.inl rfl) (k_dget (hu_of hr) (k_fld (kv 0) rfl) (kv 2)))
      (pss_cons (k_dput (hu_of hr) (k_fld (kv 0) rfl) (kv 1) (kv 4))
      (pss_cons (k_dput (hu_of hr) (k_fld (kv 0) rfl) (kv 2) (kv 3))
      (pss_cons (ps_asg (kv 2) (pg_sub (k_fld (kv 0) rfl) (kv 3) s_set))
      (pss_one (ps_asg (kv 1) (pg_sub (k_fld (kv 0) rfl) (kv 4) s_set)))))))), ?_⟩)
  · obtain ⟨_, _, _, _, _, _, _, _, _, _, _, _, rfl, _⟩ := h; rfl
  · obtain ⟨st, wd, pl, rm, en, B, _, _, i, j, e, f, rfl, ⟨⟨dx, lo, ob, l1, l2⟩, wo, ⟨kvs, pa, ok⟩, nd, nn, wp, sw, sp⟩, hB, hi, ha, rfl, hj, fa, rfl, h⟩ := h
    have hd1 := ok.at_ i e hi ha
    have hd2 := ok.at_ j f hj fa
    have o1 := off_add hi
    have o2 := off_add hj
    have kl := ok.len
    have hv1 : ixN ((flat B).map V.int).length (off B i : Int) = some (off B i) := by
      rw [List.length_map]; unfold ixN; rw [if_pos (by omega), if_pos (by omega)]; rfl
    have hv2 : ixN (((flat B).map V.int).set (off B i) (.int f.n)).length (off B j : Int) = some (off B j) := by
      rw [List.length_set, List.length_map]; unfold ixN; rw [if_pos (by omega), if_pos (by omega)]; rfl
    have l3 : (putK kvs (.inl e.n) (.int (off B j : Nat))).length = kvs.length := by
      have := congrArg List.length (putK_old (kvs := kvs) (k := .inl e.n) (v := .int (off B j : Nat)) (by rw [hd1]; rfl))
      rw [List.length_map, List.length_map] at this
      exact this
    walk_at "kk"
    refine h _ ⟨⟨dx, lo, by walk_at "hp", l1, fun x h0 h1 => ?_⟩, ?_, ⟨_, by walk_at "hp", ok.exch nd hi hj ha fa⟩, nd.exch hi hj ha fa, fun x u hx ua => ?_, wp, sw, sp⟩ ((Fr.upd (by simp)).trans (Fr.upd (by simp)))
    · rw [lv_exch hi hj ha fa]; exact l2 x h0 h1
    · rw [upd_same, flat_exch hi hj, List.map_set, List.map_set]
    · rw [get_exch hi hj] at hx
      split at hx
      · cases hx; exact nn i e hi ha
      · split at hx
        · cases hx; exact nn j f hj fa
        · exact nn x u hx ua
theorem ok_Store_free_number (T : Txt P w K mg a) : CalM P w K mg base 1 a.Store "free_number" (spFree a.Store a.NoNumber) := by
  refine T.m_Store_free_number.ok T.c_Store.cls sc_Store_free_number (fun vs H Q E h => ?_) (fun f cdv A outer s H vs Q E hr h => ⟨_, (pss_cons (k_while (passes_of rfl) (pt_cmp (k_din (hu_of hr) (k_fld (kv 0) rfl) (k_fld (kv 0) rfl)))
      (pss_one (k_sfld (kv 0) (pe_op o_add (k_fld (kv 0) rfl) pe_int) rfl)))
      (pss_cons (ps_if (pt_cmpR o_ge (k_fld (kv 0) rfl) (k_fld (kv 0) rfl) (nomark _))
      (pss_one (k_raise (L2N.takes_of rfl rfl rfl rfl) (k_mk T.e_NoNumber hr (pa_cons (k_fld (kv 0) rfl) pa_nil))))
      pss_nil)
      (pss_one (ps_ret (k_fld (kv 0) rfl))))), ?_⟩)
  · obtain ⟨_, _, _, _, _, _, rfl, _⟩ := h; rfl
  · obtain ⟨st, wd, pl, rm, en, B, rfl, ⟨⟨dx, lo, ob, l1, l2⟩, wo, ⟨kvs, pa, ok⟩, nd, nn, wp, sw, sp⟩, en0, en1, h⟩ := h
    obtain ⟨f, hF, fl⟩ := free_ex B
    obtain ⟨h1, h2⟩ := h f hF
    walk_at "kk"
    refine ⟨fun m σ H' => ∃ l : Int, σ = [some (.ref st)] ∧ m = (f - l).toNat ∧ lo ≤ l ∧ l ≤ f ∧ (∀ i, 0 ≤ i → i < l → lv B i = true) ∧ H' st = some (.ins a.Store dx [("room", .int rm), ("entries", .int en), ("words", .ref wd), ("_places", .ref pl), ("_least", .int l)]) ∧ H' wd = some (.lst ((flat B).map V.int)) ∧ H' pl = some (.dK kvs) ∧ KW.Fr [st] H H', ⟨_, lo, rfl, rfl, Int.le_refl _, ?_, l2, ob, wo, pa, Fr.refl _⟩, ?_⟩
    · by_cases c : lo ≤ f
      · exact c
      · have := l2 f hF.pos (by omega); rw [hF.no] at this; cases this
    rintro m σ H' ⟨l, rfl, rfl, c1, c2, c3, ob', wo', pa', fr⟩
    walk_at "kk"
    rw [ok.isS l]
    split
    · rename_i c
      walk_at "kk"
      have hl : l ≠ f := fun z => by rw [z, hF.no] at c; cases c
      refine ⟨_, ?_, l + 1, rfl, by omega, by omega, fun i h0 h1 => ?_, upd_same, by walk_at "hp", by walk_at "hp", fr.trans (Fr.upd (by simp))⟩
      · omega
      · by_cases d : i = l
        · rw [d]; exact c
        · exact c3 i h0 (by omega)
    · rename_i c
      have c' : lv B l = false := by cases e : lv B l with | true => exact absurd e c | false => rfl
      have hl : f = l := hF.uniq ⟨by omega, c', c3⟩
      subst hl
      have S' : Sto a.Store H' st wd pl rm en B := ⟨⟨dx, f, ob', by omega, c3⟩, wo', ⟨kvs, pa', ok⟩, nd, nn, wp, sw, sp⟩
      walk_at "kk"
      split
      · walk_at "kk"
        exact h2 (by omega) H' S' fr
      · walk_at "kk"
        exact h1 (by omega) H' S' fr
theorem ok_Store_allocate (T : Txt P w K mg a) : CalM P w K mg base 2 a.Store "allocate" (spAllocate a.Store a.NoRoom a.NoNumber) := by
  have M_Store_free_number := ok_Store_free_number (P := P) (w := w) (base := base) T
  refine T.m_Store_allocate.ok T.c_Store.cls sc_Store_allocate (fun vs H Q E h => ?_) (fun f cdv A outer s H vs Q E hr h => ⟨_, (pss_cons (ps_if (pt_cmpR o_gt (pe_op o_add (pe_op o_add (pe_callB c_len (by rfl) T.n_len (by decide +kernel) (pa_cons (k_fld (kv 0) rfl) pa_nil)) (k_g T.g_HEADER)) (kv 2)) (k_fld (kv 0) rfl) (nomark _))
      (pss_one (k_raise (L2N.takes_of rfl rfl rfl rfl) (k_mk T.e_NoRoom hr (pa_cons (pe_op o_add (k_g T.g_HEADER) (kv 2)) pa_nil))))
      pss_nil)
      (pss_cons (ps_set (i := 3) sc_Store_allocate.nd rfl (Or.inl rfl) (kmX0 (L2N.takes_of rfl rfl rfl rfl) M_Store_free_number (hr.mono (by decide)) (kv 0)))
      (pss_cons (k_dput (hu_of hr) (k_fld (kv 0) rfl) (kv 3) (pe_callB c_len (by rfl) T.n_len (by decide +kernel) (pa_cons (k_fld (kv 0) rfl) pa_nil)))
      (pss_cons (ps_expr (pe_bm PySem.F.plainAttrs_list PySem.F.slot_list_extend PySem.F.type_list_extend mt_extend (k_fld (kv 0) rfl) (pa_cons (pe_lst (pa_cons (kv 3) (pa_cons (kv 2) (pa_cons (kv 1) pa_nil)))) pa_nil)))
      (pss_cons (ps_expr (pe_bm PySem.F.plainAttrs_list PySem.F.slot_list_extend PySem.F.type_list_extend mt_extend (k_fld (kv 0) rfl) (pa_cons (pe_op o_mul2 (pe_lst (pa_cons (k_g T.g_NIL) pa_nil)) (kv 2)) pa_nil)))
      (pss_one (ps_ret (kv 3)))))))), ?_⟩)
  · obtain ⟨_, _, _, _, _, _, _, _, rfl, _⟩ := h; rfl
  · obtain ⟨st, wd, pl, rm, en, B, kd, n, rfl, S, en0, en1, rm1, n1, q1, q2⟩ := h
    obtain ⟨⟨dx, lo, ob, l1, l2⟩, wo, ⟨kvs, pa, ok⟩, nd, nn, wp, sw, sp⟩ := id S
    walk_at "kk"
    split
    · walk_at "kk"
      exact q1 (by omega)
    · rename_i c
      have q2 := q2 (by omega)
      walk_at "kk"
      refine ⟨st, wd, pl, rm, en, B, rfl, S, en0, en1, fun f hF => ⟨fun hf H1 S1 f1 => ?_, fun hf H1 S1 f1 d hd => (q2 f hF).2 hf H1 S1 f1 d hd⟩⟩
      obtain ⟨⟨dx1, lo1, ob1, l11, l21⟩, wo1, ⟨kvs1, pa1, ok1⟩, -, -, -, -, -⟩ := id S1
      have lf := len_flat B
      have kl := ok1.len
      walk_at "kk"
      intro p hp
      walk_at "kk"
      have z1 : p ≠ pl := by walk_at "ne"
      have z2 : p ≠ wd := by walk_at "ne"
      have z3 : p ≠ st := by walk_at "ne"
      intro r hr0
      walk_at "kk"
      intro r2 hr2
      walk_at "kk"
      have u1 : r ≠ pl := by walk_at "ne"
      have u2 : r ≠ wd := by walk_at "ne"
      have u3 : r ≠ st := by walk_at "ne"
      have v1 : r2 ≠ pl := by walk_at "ne"
      have v2 : r2 ≠ wd := by walk_at "ne"
      have v3 : r2 ≠ st := by walk_at "ne"
      have er : (List.replicate (n : Int).toNat [V.int 0]).flatten = (List.replicate n (0 : Int)).map V.int := by
        rw [Int.toNat_natCast]; simp
      rw [er]
      refine ext_l (by walk_at "hp") (by walk_at "hp") (le_line (by simp only [List.length_append, List.length_map, List.length_replicate, List.length_cons, List.length_nil]; omega)) ?_
      have nf : lv B f = false := hF.no
      refine (q2 f hF).1 hf _ ⟨⟨dx1, lo1, ?_, l11, fun i h0 h1 => ?_⟩, ?_, ⟨_, ?_, ok1.app (e := ⟨f, kd, List.replicate n 0, true⟩) rfl nf⟩, nd.app fun _ => nf, fun j u hj ua => ?_, wp, sw, sp⟩ ?_
      · walk_at "hp"
      · rw [lv_app, l21 i h0 h1]; rfl
      · rw [upd_same, flat_app]
        simp [flat, Blk.ws]
      · walk_at "hp"
      · rw [List.getElem?_append] at hj
        split at hj
        · exact nn j u hj ua
        · have : u = ⟨f, kd, List.replicate n 0, true⟩ := by
            have hx : j - B.length = 0 := by
              have := (List.getElem?_eq_some_iff.mp hj).1
              simpa using this
            rw [hx] at hj
            simpa using hj.symm
          subst this
          exact hF.pos
      · intro b o hb hH
        simp only [List.mem_cons, List.not_mem_nil, or_false, not_or] at hb
        obtain ⟨b1, b2, b3⟩ := hb
        have hb1 := f1 b o (by simp [b1]) hH
        have w1 : p ≠ b := by walk_at "ne"
        have w2 : r ≠ b := by walk_at "ne"
        have w3 : r2 ≠ b := by walk_at "ne"
        walk_at "hp"
theorem ok_Store_close_up (T : Txt P w K mg a) (TB : LamX.TabB base mg a.c_Store_close_up a.p_Store_close_up) : CalM P w K mg base 2 a.Store "close_up" (spCloseUp a.Store a.p_Store_close_up ("Store.close_up" ++ ".<locals>." ++ "<lambda>")) := by
  refine T.m_Store_close_up.ok T.c_Store.cls sc_Store_close_up (fun vs H Q E h => ?_) (fun f A outer s H vs Q E hr h => ⟨_, (pss_cons (ps_set (i := 1) sc_Store_close_up.nd rfl (Or.inl rfl) (pe_lst pa_nil))
      (pss_cons (ps_set (i := 2) sc_Store_close_up.nd rfl (Or.inl rfl) pe_dnewK)
      (pss_cons (ps_set (i := 3) sc_Store_close_up.nd rfl (Or.inr rfl) (k_fld (kv 0) rfl))
      (pss_cons (k_for (passes_of rfl) rfl (pi_list (k_sortLam (i := 3) (k := 0) TB rfl (hr.mono (by decide)) rfl (kv 3) (by rfl) T.n_sorted rfl rfl rfl (fun _ _ _ _ _ _ => rfl) rfl rfl rfl (by decide +kernel) rfl rfl (by decide +kernel))) (pg_name (i := 4) sc_Store_close_up.nd rfl (Or.inl rfl))
      (pss_cons (ps_set (i := 5) sc_Store_close_up.nd rfl (Or.inl rfl) (k_dget (hu_of hr) (kv 3) (kv 4)))
      (pss_cons (k_dput (hu_of hr) (kv 2) (kv 4) (pe_callB c_len (by rfl) T.n_len (by decide +kernel) (pa_cons (kv 1) pa_nil)))
      (pss_one (ps_expr (pe_bm PySem.F.plainAttrs_list PySem.F.slot_list_extend PySem.F.type_list_extend mt_extend (kv 1) (pa_cons (pe_slice o_sl (k_fld (kv 0) rfl) (po_some (kv 5)) (po_some (pe_op o_add (pe_op o_add (kv 5) (k_g T.g_HEADER)) (pe_ix o_ix (k_fld (kv 0) rfl) (pe_op o_add (kv 5) pe_int) (fun _ _ => rfl))))) pa_nil)))))))
      (pss_cons (k_sfld (kv 0) (kv 1) rfl)
      (pss_one (k_sfld (kv 0) (kv 2) rfl))))))), ?_⟩)
  · obtain ⟨_, _, _, _, _, _, rfl, _⟩ := h; rfl
  · obtain ⟨st, wd, pl, rm, en, B, rfl, ⟨⟨dx, lo, ob, l1, l2⟩, wo, ⟨kvs, pa, ok⟩, nd, nn, wp, sw, sp⟩, hT, hB, h⟩ := h
    generalize hP : a.p_Store_close_up = P0 at hT h
    have nst : st ≠ P0 := hT.ne ob fun ps z => by cases z
    have nwd : wd ≠ P0 := hT.ne wo fun ps z => by cases z
    have npl : pl ≠ P0 := hT.ne pa fun ps z => by cases z
    have lB := len_flat B
    walk_at "kk"
    intro p hp r hr0
    have rp : r ≠ p := by walk_at "ne"
    have pst : p ≠ st := by walk_at "ne"
    have ppl : p ≠ pl := by walk_at "ne"
    have pwd : p ≠ wd := by walk_at "ne"
    have rst : r ≠ st := by walk_at "ne"
    have rpl : r ≠ pl := by walk_at "ne"
    have rwd : r ≠ wd := by walk_at "ne"
    have hr1 : H r = none := by walk_at "nn"
    have pP : p ≠ P0 := fun z => by obtain ⟨ps, e, _⟩ := hT; rw [z, e] at hp; cases hp
    have rP : r ≠ P0 := fun z => by obtain ⟨ps, e, _⟩ := hT; rw [z, e] at hr1; cases hr1
    walk_at "kk"
    obtain ⟨ns, ek, nnd, mem⟩ := id ok.ks
    have e1 := congrArg List.length ek
    rw [List.length_map, List.length_map] at e1
    have kl := ok.len
    obtain ⟨pv, hpv⟩ : ∃ pv : Int → Int, pv = fun n => match valV kvs (.inl n) with | some (.int p) => p | _ => 0 := ⟨_, rfl⟩
    have pvo : ∀ (i : Nat) (e : Blk), B[i]? = some e → e.al = true → pv e.n = (off B i : Nat) := fun i e hi ha => by rw [hpv]; dsimp only; rw [ok.at_ i e hi ha]
    refine ⟨pl, kvs, ns, pv, rfl, rfl, by walk_at "hp", ek, le_line (by omega), fun n hn => ?_, (hT.add hp).add hr0, fun H2 ys l f2 hT2 hl h1 h2 => ?_⟩
    · obtain ⟨i, e, hi, ha, rfl⟩ := lv_iff.mp ((mem n).mp hn)
      rw [ok.at_ i e hi ha, pvo i e hi ha]
    have hy : ys = nums B := by_uniq pvo (h1.trans ((List.perm_ext_iff_of_nodup nnd (nums_nodup nd)).mpr fun x => (mem x).trans mem_nums.symm)) h2
    subst hy
    have a1 := f2 st _ (by simpa using nst) (show upd (upd H p (.lst [])) r (.dK []) st = _ by walk_at "hp")
    have a2 := f2 wd _ (by simpa using nwd) (show upd (upd H p (.lst [])) r (.dK []) wd = _ by walk_at "hp")
    have a3 := f2 pl _ (by simpa using npl) (show upd (upd H p (.lst [])) r (.dK []) pl = _ by walk_at "hp")
    have a4 := f2 p _ (by simpa using pP) (show upd (upd H p (.lst [])) r (.dK []) p = some (.lst []) by walk_at "hp")
    have a5 := f2 r _ (by simpa using rP) (show upd (upd H p (.lst [])) r (.dK []) r = some (.dK []) by walk_at "hp")
    have fr0 : KW.Fr [P0] H H2 := ((Fr.new hp).trans (Fr.new hr0)).trans f2
    have n1 : st ≠ l := ne_of_none a1 hl
    have n2 : wd ≠ l := ne_of_none a2 hl
    have n3 : pl ≠ l := ne_of_none a3 hl
    have n4 : p ≠ l := ne_of_none a4 hl
    have n5 : r ≠ l := ne_of_none a5 hl
    have lP : l ≠ P0 := fun z => by obtain ⟨ps, e, _⟩ := hT2; rw [z, e] at hl; cases hl
    have hT3 := hT2.add (o' := .lst ((nums B).map V.int)) hl
    have b1 : upd H2 l (.lst ((nums B).map V.int)) st = some (.ins a.Store dx [("room", .int rm), ("entries", .int en), ("words", .ref wd), ("_places", .ref pl), ("_least", .int lo)]) := by walk_at "hp"
    have b2 : upd H2 l (.lst ((nums B).map V.int)) wd = some (.lst ((flat B).map V.int)) := by walk_at "hp"
    have b3 : upd H2 l (.lst ((nums B).map V.int)) pl = some (.dK kvs) := by walk_at "hp"
    have b4 : upd H2 l (.lst ((nums B).map V.int)) p = some (.lst []) := by walk_at "hp"
    have b5 : upd H2 l (.lst ((nums B).map V.int)) r = some (.dK []) := by walk_at "hp"
    have b6 : upd H2 l (.lst ((nums B).map V.int)) l = some (.lst ((nums B).map V.int)) := upd_same
    have fr1 : KW.Fr [P0] H (upd H2 l (.lst ((nums B).map V.int))) := fr0.trans (Fr.new hl)
    revert hT3 b1 b2 b3 b4 b5 b6 fr1
    generalize upd H2 l (.lst ((nums B).map V.int)) = H3
    intro hT3 b1 b2 b3 b4 b5 b6 fr1
    obtain ⟨G, hG⟩ : ∃ G, G = alv B := ⟨_, rfl⟩
    have nG : nums B = G.map fun e => e.n := by rw [hG]; exact nums_alv B
    have NG : Nd G := by rw [hG]; exact nd.alv
    have mG : ∀ (i : Nat) (e : Blk), G[i]? = some e → ∃ j : Nat, B[j]? = some e ∧ e.al = true := fun i e h => by rw [hG] at h; exact mem_alv h
    have lG : G.length ≤ B.length := by rw [hG]; exact List.length_filter_le _ _
    have fG : (flat G).length ≤ (flat B).length := by rw [hG]; exact flat_le
    rw [nG, List.map_map] at b6
    walk_at "kk"
    generalize hD : ({ nx := _, rt := Q } : Ends) = D
    obtain ⟨Pv, hPv⟩ : ∃ Pv : Nat → L2.St → Hp → Prop, Pv = fun i σ H' => ∃ kv2 v4 v5, σ = [some (.ref st), some (.ref p), some (.ref r), some (.ref pl), v4, v5] ∧ H' st = some (.ins a.Store dx [("room", .int rm), ("entries", .int en), ("words", .ref wd), ("_places", .ref pl), ("_least", .int lo)]) ∧ H' wd = some (.lst ((flat B).map V.int)) ∧ H' pl = some (.dK kvs) ∧ H' p = some (.lst ((flat (G.take i)).map V.int)) ∧ H' r = some (.dK kv2) ∧ PlOk kv2 (G.take i) ∧ H' l = some (.lst (G.map (V.int ∘ fun e => e.n))) ∧ KW.Fr [P0] H H' ∧ LamX.TabS H' P0 ("Store.close_up" ++ ".<locals>." ++ "<lambda>") := ⟨_, rfl⟩
    refine for_lst (xs := G.map (V.int ∘ fun e => e.n)) Pv (by rw [hPv]; exact ⟨[], _, _, rfl, b1, b2, b3, b4, b5, .nil, b6, fr1, hT3⟩) ?_ ?_ ?_
    · intro i σ H' _ hp
      rw [hPv] at hp
      obtain ⟨kv2, v4, v5, -, -, -, -, -, -, -, h8, -⟩ := hp
      exact .of h8
    · intro i x σ H' hx hp
      rw [hPv] at hp
      obtain ⟨kv2, v4, v5, rfl, h1, h2, h3, h4, h5, h6, h8, h9, h10⟩ := hp
      rw [List.getElem?_map] at hx
      obtain ⟨e, hy, rfl⟩ := Option.map_eq_some_iff.mp hx
      obtain ⟨j, hj, ha⟩ := mG i e hy
      have et : G.take (i + 1) = G.take i ++ [e] := by rw [List.take_add_one, hy]; rfl
      have lt := lv_take NG hy ha
      have hd := ok.at_ j e hj ha
      have oj := off_add hj
      have ki := h6.len
      have hfl := flat_take_le (B := G) i
      have hfl2 := flat_take_le (B := G) (i + 1)
      rw [et, flat_app, List.length_append, flat_cons, List.length_append, Blk.ws_len] at hfl2
      rw [List.length_take] at ki
      have hv : atI ((flat B).map V.int) ((off B j : Int) + 1) = some (.int (e.s.length : Nat)) := atI_map (i := off B j + 1) (get_size hj)
      simp only [Function.comp]
      walk_at "kk"
      intro t1 ht1
      have ec : cutV ((flat B).map V.int) (some ((off B j : Nat) : Int)) (some ((off B j : Int) + 3 + e.s.length)) = e.ws.map V.int := by
        rw [show ((off B j : Int) + 3 + e.s.length) = ((off B j + (e.s.length + 3) : Nat) : Int) by omega, cutV_nat, ← List.map_drop, ← List.map_take, show off B j + (e.s.length + 3) - off B j = e.s.length + 3 by omega, get_ws hj]
      rw [ec]
      have ht1' : H' t1 = none := by walk_at "nn"
      have u1 : t1 ≠ st := ne_n h1 ht1'
      have u2 : t1 ≠ wd := ne_n h2 ht1'
      have u3 : t1 ≠ pl := ne_n h3 ht1'
      have u4 : t1 ≠ p := ne_n h4 ht1'
      have u5 : t1 ≠ r := ne_n h5 ht1'
      have u6 : t1 ≠ l := ne_n h8 ht1'
      refine ext_l (xs := (flat (G.take i)).map V.int) (zs := e.ws.map V.int) (by walk_at "hp") (by walk_at "hp") (le_line (by simp only [List.length_map, Blk.ws_len]; omega)) ?_
      rw [hPv]
      refine ⟨_, _, _, rfl, by walk_at "hp", by walk_at "hp", by walk_at "hp", ?_, by walk_at "hp", ?_, by walk_at "hp", fun b o hb hH => ?_, ?_⟩
      · rw [upd_same, et, flat_app, flat_cons, ← List.map_append]; simp [flat_nil]
      · rw [et]; exact h6.app ha lt
      · have b1 : b ≠ p := ne_of_none hH hp
        have b2 : b ≠ r := ne_of_none hH hr1
        have hb2 := h9 b o hb hH
        have b3 : b ≠ t1 := ne_of_none hb2 ht1'
        walk_at "hp"
      · refine LamX.TabS.upd (LamX.TabS.add (LamX.TabS.upd h10 h5 pln_dK) ht1) (o := .lst ((flat (G.take i)).map V.int)) (by walk_at "hp") pln_lst
    · intro σ H' hpp
      rw [hPv] at hpp
      obtain ⟨kv2, v4, v5, rfl, h1, h2, h3, h4, h5, h6, h8, h9, h10⟩ := hpp
      rw [List.length_map, List.take_length] at h4 h6
      subst hD
      walk_at "kk"
      refine h _ p r ⟨⟨dx, lo, upd_same, l1, fun i h0 h1 => ?_⟩, ?_, ⟨kv2, by walk_at "hp", ?_⟩, nd.alv, fun i e hi ha => ?_, rp.symm, pst.symm, rst.symm⟩ hp hr1 (fun b o hb hH => ?_) (LamX.TabS.upd h10 h1 pln_ins)
      · rw [lv_alv]; exact l2 i h0 h1
      · rw [hG] at h4; walk_at "hp"
      · rw [← hG]; exact h6
      · obtain ⟨j, hj, _⟩ := mem_alv hi
        exact nn j e hj ha
      · simp only [List.mem_cons, List.not_mem_nil, or_false, not_or] at hb
        rw [upd_ne hb.1]
        exact h9 b o (by simp [hb.2]) hH
end
end K02

set_option Elab.async false
set_option linter.all false
set_option maxRecDepth 100000
set_option maxHeartbeats 4000000
/-! RowH: the law's row beside the store -/
namespace ST
open PySem PySem.Spec PyProof.Rows L2 KW
structure RE where
  el : Addr
  sl : Addr
  b : Blk
def reV (r : RE) : HO := .lst [.int r.b.n, .int r.b.k, .ref r.sl, .bl r.b.al]
structure Row (H : Hp) (rw : Addr) (L : List RE) : Prop where
  hd : H rw = some (.lst (L.map fun r => .ref r.el))
  it : ∀ (i : Nat) (r : RE), L[i]? = some r → H r.el = some (reV r) ∧ H r.sl = some (.lst (r.b.s.map V.int))
  d1 : ∀ (i j : Nat) (r s : RE), L[i]? = some r → L[j]? = some s → i ≠ j → r.el ≠ s.el ∧ r.sl ≠ s.sl
  d2 : ∀ (i j : Nat) (r s : RE), L[i]? = some r → L[j]? = some s → r.el ≠ s.sl
  d3 : ∀ (i : Nat) (r : RE), L[i]? = some r → r.el ≠ rw ∧ r.sl ≠ rw
def fpR (rw : Addr) (L : List RE) : List Addr := rw :: L.flatMap fun r => [r.el, r.sl]
theorem mem_fpR {rw x : Addr} {L : List RE} : x ∈ fpR rw L ↔ x = rw ∨ ∃ (i : Nat) (r : RE), L[i]? = some r ∧ (x = r.el ∨ x = r.sl) := by
  unfold fpR
  rw [List.mem_cons, List.mem_flatMap]
  constructor
  · rintro (h | ⟨r, hr, h⟩)
    · exact .inl h
    · obtain ⟨i, hi⟩ := List.getElem?_of_mem hr
      exact .inr ⟨i, r, hi, by simpa using h⟩
  · rintro (h | ⟨i, r, hi, h⟩)
    · exact .inl h
    · exact .inr ⟨r, List.mem_of_getElem? hi, by simpa using h⟩
theorem rw_fpR {rw : Addr} {L : List RE} : rw ∈ fpR rw L := mem_fpR.mpr (.inl rfl)
theorem el_fpR {rw : Addr} {L : List RE} {i : Nat} {r : RE} (h : L[i]? = some r) : r.el ∈ fpR rw L := mem_fpR.mpr (.inr ⟨i, r, h, .inl rfl⟩)
theorem sl_fpR {rw : Addr} {L : List RE} {i : Nat} {r : RE} (h : L[i]? = some r) : r.sl ∈ fpR rw L := mem_fpR.mpr (.inr ⟨i, r, h, .inr rfl⟩)
theorem Row.fr {H H' : Hp} {rw : Addr} {L : List RE} {l : List Addr} (R : Row H rw L) (f : KW.Fr l H H') (n : ∀ x ∈ fpR rw L, x ∉ l) : Row H' rw L :=
  ⟨f _ _ (n _ rw_fpR) R.hd, fun i r h => ⟨f _ _ (n _ (el_fpR h)) (R.it i r h).1, f _ _ (n _ (sl_fpR h)) (R.it i r h).2⟩, R.d1, R.d2, R.d3⟩
theorem Row.fr0 {H H' : Hp} {rw : Addr} {L : List RE} (R : Row H rw L) (f : KW.Fr [] H H') : Row H' rw L := R.fr f (by simp)
theorem Row.there {H : Hp} {rw : Addr} {L : List RE} (R : Row H rw L) : ∀ x ∈ fpR rw L, ∃ o, H x = some o := fun x hx => by
  rcases mem_fpR.mp hx with rfl | ⟨i, r, h, rfl | rfl⟩
  · exact ⟨_, R.hd⟩
  · exact ⟨_, (R.it i r h).1⟩
  · exact ⟨_, (R.it i r h).2⟩
theorem getR {L : List RE} {i j : Nat} {e f : RE} (h : L[i]? = some e) : (L.set i f)[j]? = if j = i then some f else L[j]? := by
  rw [List.getElem?_set]
  have := (List.getElem?_eq_some_iff.mp h).1
  by_cases c : i = j
  · subst c; simp [this]
  · rw [if_neg c, if_neg (fun z => c z.symm)]
theorem map_elems {L : List RE} {i : Nat} {r r' : RE} (h : L[i]? = some r) (e : r'.el = r.el) : (L.set i r').map (fun r => V.ref r.el) = L.map fun r => V.ref r.el := by
  apply List.ext_getElem?
  intro j
  rw [List.getElem?_map, List.getElem?_map, getR h]
  split
  · rename_i c; subst c; rw [h]; simp [e]
  · rfl
theorem mem_set {rw x : Addr} {L : List RE} {i : Nat} {r r' : RE} (h : L[i]? = some r) (e1 : r'.el = r.el) (e2 : r'.sl = r.sl) : x ∈ fpR rw (L.set i r') ↔ x ∈ fpR rw L := by
  rw [mem_fpR, mem_fpR]
  constructor
  · rintro (q | ⟨j, s, hs, q⟩)
    · exact .inl q
    · rw [getR h] at hs
      split at hs
      · cases hs; exact .inr ⟨i, r, h, by rw [← e1, ← e2]; exact q⟩
      · exact .inr ⟨j, s, hs, q⟩
  · rintro (q | ⟨j, s, hs, q⟩)
    · exact .inl q
    · by_cases c : j = i
      · subst c; rw [h] at hs; cases hs
        exact .inr ⟨j, r', by rw [getR h, if_pos rfl], by rw [e1, e2]; exact q⟩
      · exact .inr ⟨j, s, by rw [getR h, if_neg c]; exact hs, q⟩
/-- the element i is written anew -/
theorem Row.setE {H : Hp} {rw : Addr} {L : List RE} {i : Nat} {r r' : RE} (R : Row H rw L) (h : L[i]? = some r) (e1 : r'.el = r.el) (e2 : r'.sl = r.sl) (e3 : r'.b.s = r.b.s) : Row (upd H r.el (reV r')) rw (L.set i r') := by
  have key : ∀ (j : Nat) (s : RE), (L.set i r')[j]? = some s → ∃ s', L[j]? = some s' ∧ s.el = s'.el ∧ s.sl = s'.sl := fun j s hs => by
    rw [getR h] at hs
    split at hs
    · rename_i c; subst c; cases hs; exact ⟨r, h, e1, e2⟩
    · exact ⟨s, hs, rfl, rfl⟩
  refine ⟨?_, fun j s hs => ?_, fun j k s t hs ht n => ?_, fun j k s t hs ht => ?_, fun j s hs => ?_⟩
  · rw [map_elems h e1, upd_ne (R.d3 i r h).1.symm]; exact R.hd
  · rw [getR h] at hs
    split at hs
    · cases hs
      exact ⟨by rw [e1, upd_same], by rw [e2, e3, upd_ne (R.d2 i i r r h h).symm]; exact (R.it i r h).2⟩
    · rename_i c
      exact ⟨by rw [upd_ne (R.d1 j i s r hs h c).1]; exact (R.it j s hs).1, by rw [upd_ne (R.d2 i j r s h hs).symm]; exact (R.it j s hs).2⟩
  · obtain ⟨s', h1, h2, h3⟩ := key j s hs
    obtain ⟨t', k1, k2, k3⟩ := key k t ht
    rw [h2, h3, k2, k3]; exact R.d1 j k s' t' h1 k1 n
  · obtain ⟨s', h1, h2, h3⟩ := key j s hs
    obtain ⟨t', k1, k2, k3⟩ := key k t ht
    rw [h2, k3]; exact R.d2 j k s' t' h1 k1
  · obtain ⟨s', h1, h2, h3⟩ := key j s hs
    rw [h2, h3]; exact R.d3 j s' h1
/-- its slots are written anew -/
theorem Row.setS {H : Hp} {rw : Addr} {L : List RE} {i : Nat} {r r' : RE} (R : Row H rw L) (h : L[i]? = some r) (e1 : r'.el = r.el) (e2 : r'.sl = r.sl) (e3 : r'.b.n = r.b.n) (e4 : r'.b.k = r.b.k) (e5 : r'.b.al = r.b.al) : Row (upd H r.sl (.lst (r'.b.s.map V.int))) rw (L.set i r') := by
  have key : ∀ (j : Nat) (s : RE), (L.set i r')[j]? = some s → ∃ s', L[j]? = some s' ∧ s.el = s'.el ∧ s.sl = s'.sl := fun j s hs => by
    rw [getR h] at hs
    split at hs
    · rename_i c; subst c; cases hs; exact ⟨r, h, e1, e2⟩
    · exact ⟨s, hs, rfl, rfl⟩
  refine ⟨?_, fun j s hs => ?_, fun j k s t hs ht n => ?_, fun j k s t hs ht => ?_, fun j s hs => ?_⟩
  · rw [map_elems h e1, upd_ne (R.d3 i r h).2.symm]; exact R.hd
  · rw [getR h] at hs
    split at hs
    · cases hs
      refine ⟨?_, by rw [e2, upd_same]⟩
      rw [e1, upd_ne (R.d2 i i r r h h)]
      have := (R.it i r h).1
      unfold reV at this ⊢
      rw [e2, e3, e4, e5]; exact this
    · rename_i c
      exact ⟨by rw [upd_ne (R.d2 j i s r hs h)]; exact (R.it j s hs).1, by rw [upd_ne (R.d1 j i s r hs h c).2]; exact (R.it j s hs).2⟩
  · obtain ⟨s', h1, h2, h3⟩ := key j s hs
    obtain ⟨t', k1, k2, k3⟩ := key k t ht
    rw [h2, h3, k2, k3]; exact R.d1 j k s' t' h1 k1 n
  · obtain ⟨s', h1, h2, h3⟩ := key j s hs
    obtain ⟨t', k1, k2, k3⟩ := key k t ht
    rw [h2, k3]; exact R.d2 j k s' t' h1 k1
  · obtain ⟨s', h1, h2, h3⟩ := key j s hs
    rw [h2, h3]; exact R.d3 j s' h1
theorem getA {α : Type} {L : List α} {x y : α} {j : Nat} (h : (L ++ [x])[j]? = some y) : (L[j]? = some y ∧ j < L.length) ∨ (j = L.length ∧ y = x) := by
  rw [List.getElem?_append] at h
  split at h
  · rename_i z; exact .inl ⟨h, z⟩
  · rename_i z
    have hx : j - L.length = 0 := by
      have := (List.getElem?_eq_some_iff.mp h).1
      simpa using this
    rw [hx] at h
    exact .inr ⟨by omega, by simpa using h.symm⟩
/-- an element more -/
theorem Row.app {H : Hp} {rw : Addr} {L : List RE} {r : RE} (R : Row H rw L) (h1 : H r.el = some (reV r)) (h2 : H r.sl = some (.lst (r.b.s.map V.int))) (n1 : r.el ∉ fpR rw L) (n2 : r.sl ∉ fpR rw L) (n3 : r.el ≠ r.sl) : Row (upd H rw (.lst ((L ++ [r]).map fun r => .ref r.el))) rw (L ++ [r]) := by
  have m1 : r.el ≠ rw := fun z => n1 (z ▸ rw_fpR)
  have m2 : r.sl ≠ rw := fun z => n2 (z ▸ rw_fpR)
  refine ⟨upd_same, fun j s hs => ?_, fun j k s t hs ht n => ?_, fun j k s t hs ht => ?_, fun j s hs => ?_⟩
  · rcases getA hs with ⟨q, _⟩ | ⟨_, rfl⟩
    · rw [upd_ne (R.d3 j s q).1, upd_ne (R.d3 j s q).2]; exact R.it j s q
    · rw [upd_ne m1, upd_ne m2]; exact ⟨h1, h2⟩
  · rcases getA hs with ⟨q, l⟩ | ⟨q, rfl⟩ <;> rcases getA ht with ⟨p, l'⟩ | ⟨p, rfl⟩
    · exact R.d1 j k s t q p n
    · exact ⟨fun z => n1 (z ▸ el_fpR q), fun z => n2 (z ▸ sl_fpR q)⟩
    · exact ⟨fun z => n1 (z ▸ el_fpR p), fun z => n2 (z ▸ sl_fpR p)⟩
    · omega
  · rcases getA hs with ⟨q, l⟩ | ⟨q, rfl⟩ <;> rcases getA ht with ⟨p, l'⟩ | ⟨p, rfl⟩
    · exact R.d2 j k s t q p
    · exact fun z => n2 (z ▸ el_fpR q)
    · exact fun z => n1 (z ▸ sl_fpR p)
    · exact n3
  · rcases getA hs with ⟨q, l⟩ | ⟨q, rfl⟩
    · exact R.d3 j s q
    · exact ⟨m1, m2⟩
theorem Row.nil {H : Hp} {rw : Addr} (h : H rw = some (.lst [])) : Row H rw [] := ⟨h, fun i r h => by simp at h, fun i j r s h => by simp at h, fun i j r s h => by simp at h, fun i r h => by simp at h⟩
abbrev blks (L : List RE) : List Blk := L.map fun r => r.b
theorem blks_at {L : List RE} {i : Nat} {r : RE} (h : L[i]? = some r) : (blks L)[i]? = some r.b := by rw [List.getElem?_map, h]; rfl
theorem blks_set (L : List RE) (i : Nat) (r : RE) : blks (L.set i r) = (blks L).set i r.b := by rw [blks, List.map_set]
theorem flat_len_set {B : List Blk} {i : Nat} {e f : Blk} (h : B[i]? = some e) (l : f.s.length = e.s.length) : (flat (B.set i f)).length = (flat B).length := by
  rw [flat_set h, flat_at h]; simp only [List.length_append, Blk.ws_len, l]
theorem flatlen_set {L : List RE} {i : Nat} {r r' : RE} (h : L[i]? = some r) (l : r'.b.s.length = r.b.s.length) : (flat (blks (L.set i r'))).length = (flat (blks L)).length := by
  rw [blks_set]; exact flat_len_set (blks_at h) l
/-- store and row -/
structure SR (C : Addr) (H : Hp) (st wd pl rw : Addr) (rm en : Int) (L : List RE) : Prop where
  S : Sto C H st wd pl rm en (blks L)
  R : Row H rw L
  sep : ∀ x ∈ fpS st wd pl, x ∉ fpR rw L
def fpSR (st wd pl rw : Addr) (L : List RE) : List Addr := fpS st wd pl ++ fpR rw L
section
variable {C : Addr} {H H' : Hp} {st wd pl rw : Addr} {rm en : Int} {L L' : List RE} {l : List Addr}
theorem inS {x : Addr} (h : x ∈ fpS st wd pl) : x ∈ fpSR st wd pl rw L := List.mem_append.mpr (.inl h)
theorem inR {x : Addr} (h : x ∈ fpR rw L) : x ∈ fpSR st wd pl rw L := List.mem_append.mpr (.inr h)
theorem SR.fr (Z : SR C H st wd pl rw rm en L) (f : KW.Fr l H H') (n : ∀ x ∈ fpSR st wd pl rw L, x ∉ l) : SR C H' st wd pl rw rm en L :=
  ⟨Z.S.fr f (n _ (inS (by simp))) (n _ (inS (by simp))) (n _ (inS (by simp))), Z.R.fr f fun x hx => n x (inR hx), Z.sep⟩
theorem SR.fr0 (Z : SR C H st wd pl rw rm en L) (f : KW.Fr [] H H') : SR C H' st wd pl rw rm en L := Z.fr f (by simp)
theorem SR.there (Z : SR C H st wd pl rw rm en L) : ∀ x ∈ fpSR st wd pl rw L, ∃ o, H x = some o := fun x hx => by
  rcases List.mem_append.mp hx with h | h
  · exact Z.S.there x h
  · exact Z.R.there x h
theorem sep_set {i : Nat} {r r' : RE} (sep : ∀ x ∈ fpS st wd pl, x ∉ fpR rw L) (h : L[i]? = some r) (e1 : r'.el = r.el) (e2 : r'.sl = r.sl) : ∀ x ∈ fpS st wd pl, x ∉ fpR rw (L.set i r') := fun x hx z => sep x hx ((mem_set h e1 e2).mp z)
theorem fpSR_set {i : Nat} {r r' : RE} {x : Addr} (h : L[i]? = some r) (e1 : r'.el = r.el) (e2 : r'.sl = r.sl) : x ∈ fpSR st wd pl rw (L.set i r') ↔ x ∈ fpSR st wd pl rw L := by
  unfold fpSR
  rw [List.mem_append, List.mem_append, mem_set h e1 e2]
theorem stp_set {i : Nat} {r r' : RE} (h : L[i]? = some r) (e1 : r'.el = r.el) (e2 : r'.sl = r.sl) (f : KW.Fr (fpSR st wd pl rw L) H H') : Stp (fpSR st wd pl rw L) (fpSR st wd pl rw (L.set i r')) H H' := ⟨f, fun x hx => .inl ((fpSR_set h e1 e2).mp hx)⟩
end
section
variable {C : Addr} {H H1 H2 : Hp} {st wd pl rw : Addr} {rm en : Int} {L : List RE} {l : List Addr} {i : Nat} {r r' : RE} {o : HO}
theorem SR.stE (Z : SR C H st wd pl rw rm en L) (h : L[i]? = some r) : Sto C (upd H r.el o) st wd pl rm en (blks L) := by
  have n : r.el ∉ fpS st wd pl := fun z => Z.sep _ z (el_fpR h)
  simp only [List.mem_cons, List.not_mem_nil, or_false, not_or] at n
  exact Z.S.fr (l := [r.el]) (Fr.upd (by simp)) (by simp [Ne.symm n.1]) (by simp [Ne.symm n.2.1]) (by simp [Ne.symm n.2.2])
theorem SR.stS (Z : SR C H st wd pl rw rm en L) (h : L[i]? = some r) : Sto C (upd H r.sl o) st wd pl rm en (blks L) := by
  have n : r.sl ∉ fpS st wd pl := fun z => Z.sep _ z (sl_fpR h)
  simp only [List.mem_cons, List.not_mem_nil, or_false, not_or] at n
  exact Z.S.fr (l := [r.sl]) (Fr.upd (by simp)) (by simp [Ne.symm n.1]) (by simp [Ne.symm n.2.1]) (by simp [Ne.symm n.2.2])
theorem SR.upE (Z : SR C H st wd pl rw rm en L) (h : L[i]? = some r) (e1 : r'.el = r.el) (e2 : r'.sl = r.sl) (e3 : r'.b.s = r.b.s) (S2 : Sto C H2 st wd pl rm en ((blks L).set i r'.b)) (f2 : KW.Fr l (upd H r.el (reV r')) H2) (hl : ∀ x ∈ l, x ∈ fpS st wd pl) :
    SR C H2 st wd pl rw rm en (L.set i r') ∧ Stp (fpSR st wd pl rw L) (fpSR st wd pl rw (L.set i r')) H H2 := by
  have sp1 := sep_set (r' := r') Z.sep h e1 e2
  exact ⟨⟨by rw [blks_set]; exact S2, (Z.R.setE h e1 e2 e3).fr f2 fun y hy z => sp1 y (hl y z) hy, sp1⟩, stp_set h e1 e2 ((Fr.upd (inR (el_fpR h))).trans (f2.mono fun y hy => inS (hl y hy)))⟩
theorem SR.upS (Z : SR C H st wd pl rw rm en L) (h : L[i]? = some r) (e1 : r'.el = r.el) (e2 : r'.sl = r.sl) (e3 : r'.b.n = r.b.n) (e4 : r'.b.k = r.b.k) (e5 : r'.b.al = r.b.al) (S2 : Sto C H2 st wd pl rm en ((blks L).set i r'.b)) (f2 : KW.Fr l (upd H r.sl (.lst (r'.b.s.map V.int))) H2) (hl : ∀ x ∈ l, x ∈ fpS st wd pl) :
    SR C H2 st wd pl rw rm en (L.set i r') ∧ Stp (fpSR st wd pl rw L) (fpSR st wd pl rw (L.set i r')) H H2 := by
  have sp1 := sep_set (r' := r') Z.sep h e1 e2
  exact ⟨⟨by rw [blks_set]; exact S2, (Z.R.setS h e1 e2 e3 e4 e5).fr f2 fun y hy z => sp1 y (hl y z) hy, sp1⟩, stp_set h e1 e2 ((Fr.upd (inR (sl_fpR h))).trans (f2.mono fun y hy => inS (hl y hy)))⟩
end
/-- among the living ones -/
theorem mem_living {L : List RE} {j : Nat} {r : RE} (h : (L.filter fun r => r.b.al)[j]? = some r) : ∃ i : Nat, L[i]? = some r ∧ r.b.al = true := by
  have := List.mem_of_getElem? h
  rw [List.mem_filter] at this
  obtain ⟨i, hi⟩ := List.getElem?_of_mem this.1
  exact ⟨i, hi, this.2⟩
/-! ### promises of the law's own defs -/
def spNumber : Sp := fun vs H Q _ => ∃ (c k : Int), vs = [.int c, .int k] ∧ 0 ≤ k ∧ k ≤ 100000 ∧ ∀ v, 0 ≤ v → Q (.int v) H
def spIs : Sp := fun vs H Q _ => ∃ (b c : V), vs = [b, c] ∧ ((∃ x y, b = .int x ∧ c = .int y ∧ Q (.bl (decide (x = y))) H))
def spSame : Sp := fun vs H Q _ => ∃ (p q : Addr) (xs : List Int), vs = [.ref p, .ref q] ∧ IL H p xs ∧ IL H q xs ∧ xs.length ≤ 16000000 ∧ Q (.bl true) H
def spLiving : Sp := fun vs H Q _ => ∃ (rw : Addr) (L : List RE), vs = [.ref rw] ∧ Row H rw L ∧ L.length ≤ 1000000 ∧ ∀ l, H l = none → Q (.ref l) (upd H l (.lst ((L.filter fun r => r.b.al).map fun r => .ref r.el)))
def spFlat : Sp := fun vs H Q _ => ∃ (rw : Addr) (L : List RE), vs = [.ref rw] ∧ Row H rw L ∧ (flat (blks L)).length ≤ 2000000 ∧ ∀ l H', H l = none → KW.Fr [] H H' → IL H' l (flat (blks L)) → Q (.ref l) H'
end ST

set_option Elab.async false
set_option linter.all false
set_option maxRecDepth 100000
set_option maxHeartbeats 4000000
namespace K02
open PySem PySem.Spec PyProof.Rows L2 KW ST
local macro_rules | `(tactic| walk_at "kw") => `(tactic| simp only [tSeq, tNext, tIfS, tTest, tAnd, tOr, tNot, tAndV, tOrV, tNotV, tIf, tChain, tOp, tUn, tC, tAsg, gName, gSub, gCons, gNil, tRet, tRetN, tDrop, tCons, tNil, tCB, tAug, tSl, tPart, tNoPart, tLst, tTup, tBM, tBM0, uTest, uFor, iRng1, iRng2, iList, uCall, List.map_cons, List.map_nil, List.length_cons, List.length_nil, List.cons_append, List.nil_append, List.replicate, Nat.zero_add, Nat.reduceAdd, Nat.reduceSub, List.getElem?_cons_zero, List.getElem?_cons_succ, List.set_cons_zero, List.set_cons_succ, V.bl.injEq, V.int.injEq, V.str.injEq, V.ref.injEq, V.ty.injEq, List.cons.injEq, and_true, true_and, exists_eq_left', exists_eq_right, exists_eq_left, exists_and_left, exists_and_right, decide_eq_true_eq, Bool.not_eq_true', decide_eq_false_iff_not, Bool.false_eq_true, if_true, if_false, ite_true, ite_false, Bool.not_true, Bool.not_false, reduceCtorEq, decide_true, decide_false, Bool.not_not, isK_int_int, isK_int_bool, isK_int_str, isK_int_list, isK_int_tuple, isK_bool_int, isK_bool_bool, isK_bool_str, isK_str_str, isK_str_int, isK_str_bool, isK_str_tuple, isK_str_list, isK_list_list, isK_list_tuple, isK_tuple_tuple, isK_tuple_list, isOk_int_int, isOk_int_bool, isOk_int_str, isOk_int_list, isOk_int_tuple, isOk_bool_int, isOk_bool_bool, isOk_bool_str, isOk_str_str, isOk_str_int, isOk_str_bool, isOk_str_tuple, isOk_str_list, isOk_list_list, isOk_list_tuple, isOk_tuple_tuple, isOk_tuple_list, isK_dict_dict, isOk_dict_dict, isK_none_int, isK_none_bool, isOk_none_int, isOk_none_bool, tyV, S_inj, S_cat, L2.start, Nat.reduceSub, List.replicate_succ, List.replicate_zero, and_assoc, List.append_nil, Nat.reduceEqDiff, Option.some.injEq, Int.natCast_inj, upd_upd, Int.reducePow, Int.reduceToNat, Int.reduceMul, Int.reduceAdd, Int.reduceSub, Int.reduceLT, Int.reduceLE, Int.reduceNeg, Int.reduceDiv, Int.reduceMod, Nat.reducePow, Nat.reduceMul, S_len, List.length_append, List.length_map, List.length_range, not_true_eq_false, not_false_eq_true, ne_eq, uAdd_e1, uAdd_e2, uSub_e1, uMod_e1, uDiv_e1, uPow_e1, uShl_e1, uNeg_e1, uIAdd_e1, uIAdd_e2, uIAdd_e3, uISub_e1, uLt_e1, uLt_e2, uLe_e1, uGt_e1, uGe_e1, uEq_e1, uEq_e2, uEq_e3, uEq_e4, uEq_e5, uEq_e6, uEq_e7, uEq_e8, uEq_e9, uEq_e10, uEq_e11, uNe_e1, uNe_e2, uNe_e3, uNe_e4, uNe_e5, uNe_e6, uNe_e7, uNe_e8, uNe_e9, uNe_e10, uNe_e11, uIs_e1, uIs_e2, uIs_e3, uIs_e4, uIs_e5, uIs_e6, uNotIs_e1, uNotIs_e2, uNotIs_e3, uNotIs_e4, uNotIs_e5, uNotIs_e6, uIn_e1, uIn_e2, uIn_e3, uIn_e4, uNotIn_e1, uNotIn_e2, uNotIn_e3, uNotIn_e4, uTru_e1, uTru_e2, uTru_e3, uTru_e4, uIx_e2, uSl_e2, uLen_e1, uAbs_e1, uInt_e1, uInt_e2, uMin2_e1, uIsi_e1, uIsi_e2, uIsi_e3, uIsi_e4, cx_K, uVar_0, uVar_n, uFld, uSFld, uMet, uMake, tDG, tDI, tDNI, tDP, tDD, uMk, uRaise, uDelSl, tCallS, L2.WE, uStr_e1, uStr_e2, uMul2_e1, uMul2_e2, okS_i, okS_s, List.zip_cons_cons, List.zip_nil_left, List.drop_zero, List.drop_succ_cons, List.drop_nil, putF_nil, putF_cons, eq_self, tDNewK, tB, Option.isSome_some, Option.isSome_none, false_and, false_or, or_false, exists_false, Int.zero_add, uLc, wipe, tYes, isEmpty_app, List.isEmpty_cons, List.isEmpty_nil, List.isEmpty_map, Bool.and_false, Bool.and_true, iRev, K02.lit_0, K02.lit_2, K02.fe_room_entries, K02.fe_room_words, K02.fe_room__places, K02.fe_room__least, K02.fe_entries_room, K02.fe_entries_words, K02.fe_entries__places, K02.fe_entries__least, K02.fe_words_room, K02.fe_words_entries, K02.fe_words__places, K02.fe_words__least, K02.fe__places_room, K02.fe__places_entries, K02.fe__places_words, K02.fe__places__least, K02.fe__least_room, K02.fe__least_entries, K02.fe__least_words, K02.fe__least__places, K02.fl_room_0, K02.lf_room_0, K02.fl_room_2, K02.lf_room_2, K02.N_Store_init, K02.N_Store_used, K02.N_Store_exists, K02.N_Store_numbers, K02.N_Store_free_number, K02.N_Store_allocate, K02.N_Store_size, K02.N_Store_kind, K02.N_Store_set_kind, K02.N_Store_get, K02.N_Store_put, K02.N_Store_slots, K02.N_Store_drop, K02.N_Store_close_up, K02.N_Store_snapshot, K02.N_Store_restore, K02.N_Store_exchange, K02.N__law_number, K02.N__law_deeds, K02.N__law_word, K02.N__law_is, K02.N__law_same, K02.N__law_flat, K02.N__law_living, K02.N__law_free, K02.N__law_copy, K02.N__law_allocated, K02.N__law_changed, K02.N__law_agrees, K02.N__law_deed, K02.N_law])
local macro_rules | `(tactic| walk_at "nn") => `(tactic| first | assumption | exact ne_un (by assumption) | exact ne_un (ne_un (by assumption)) | exact ne_un (ne_un (ne_un (by assumption))) | exact ne_un (ne_un (ne_un (ne_un (by assumption)))))
local macro_rules | `(tactic| walk_at "ne") => `(tactic| first | assumption | (apply Ne.symm; assumption) | exact ne_ud (by assumption) | exact Ne.symm (ne_ud (by assumption)) | exact ne_ud (ne_un (by assumption)) | exact Ne.symm (ne_ud (ne_un (by assumption))) | exact ne_ud (ne_un (ne_un (by assumption))) | exact Ne.symm (ne_ud (ne_un (ne_un (by assumption)))) | exact ne_m (by assumption) (by assumption) | exact Ne.symm (ne_m (by assumption) (by assumption)) | exact ne_n (by assumption) (by walk_at "nn") | exact Ne.symm (ne_n (by assumption) (by walk_at "nn")))
local macro_rules | `(tactic| walk_at "hp") => `(tactic| first | assumption | exact upd_same | (refine Eq.trans (upd_ne ?_) ?_; (focus walk_at "ne"); walk_at "hp"))
local macro_rules | `(tactic| walk_at "sc") => `(tactic| first | (with_reducible assumption) | omega | exact le_line (by (try simp only [List.length_map, List.length_append, List.length_cons, List.length_nil, S_len]); omega) | exact div_s (by omega) | exact mul_r (by omega) | exact mul_l (by omega) | exact pow_s (by omega) | exact mul2_r (by omega) | exact mul2_l (by omega) | exact small4300 (by omega) | exact lt_line (by (try simp only [List.length_map, List.length_append, List.length_cons, List.length_nil, S_len]); omega) | exact ⟨_, by assumption⟩ | (guard_target =~ Exists _; exact ⟨_, .of (by walk_at "hp")⟩) | (guard_target =~ _ ∨ _; exact .inl ⟨_, by assumption⟩) | (guard_target =~ _ ∨ _; exact .inl ⟨_, .of (by walk_at "hp")⟩) | (guard_target =~ _ ∨ _; exact .inr (.inr (.inl ⟨rfl, .inl ⟨_, by walk_at "hp"⟩⟩))) | decide)
local macro_rules | `(tactic| walk_at "kr") => `(tactic| first | (guard_target =~ _ ∧ _; first | refine And.intro (by walk_at "sc") ?_) | (guard_target =~ KW.uIx _ _ _ _ _; first | refine ix_l (by walk_at "hp") (by first | walk_at "hv" | rfl) ?_ | refine ix_t (by walk_at "hp") (by first | walk_at "hv" | rfl) ?_ | refine ix_sl (by assumption) (by walk_at "hv") ?_) | (guard_target =~ KW.uLen _ _ _ _; first | refine len_l (by walk_at "hp") ?_ | refine len_t (by walk_at "hp") ?_ | refine len_sl (by assumption) ?_) | (guard_target =~ KW.uSet _ _ _ _ _; first | refine set_l (by walk_at "hp") (by first | walk_at "hv" | rfl) ?_) | (guard_target =~ L2.gTup _ _ _ _ _ _ _; first | refine tup_l (by walk_at "hp") (by rfl) ?_) | (guard_target =~ KW.uGet _ _ _ _ _; first | refine get_l (by walk_at "hp") (by walk_at "hc") (by decide) (by rfl) ?_) | (guard_target =~ KW.uPut _ _ _ _ _ _; first | refine put_l (by walk_at "hp") (by walk_at "hc") (by decide) (by simp) ?_) | (guard_target =~ KW.uMet.uMt _ _ _ _ _ _ _ _ _; first | refine met_l (by walk_at "hp") (by rfl) ?_) | (guard_target =~ KW.uMet.uMt _ _ _ _ _ _ _ _ _; first | refine ST.met_s (by assumption) (by decide) ?_) | (guard_target =~ ST.spExists _ _ _ _ _; first | refine ST.exists_s (by assumption) ?_) | (guard_target =~ ST.spUsed _ _ _ _ _; first | refine ST.used_s (by assumption) ?_) | (guard_target =~ KW.uGet _ _ _ _ _; first | refine ST.words_s (by assumption) (by walk_at "hc") (by decide) ?_) | (guard_target =~ KW.uDIn _ _ _ _; first | refine din_i (by walk_at "hp") ?_ | refine din_s (by walk_at "hp") ?_) | (guard_target =~ KW.uDGet _ _ _ _; first | refine dget_i (by walk_at "hp") (by walk_at "hv") ?_ | refine dget_s (by walk_at "hp") (by walk_at "hv") ?_) | (guard_target =~ KW.uDPut _ _ _ _ _; first | refine dput_i (by walk_at "hp") (by walk_at "sc") ?_ | refine dput_s (by walk_at "hp") (by walk_at "sc") ?_) | (guard_target =~ KW.uDDel _ _ _ _; first | refine ddel_i (by walk_at "hp") (by walk_at "hv") ?_ | refine ddel_s (by walk_at "hp") (by walk_at "hv") ?_) | (guard_target =~ KW.uMul2 _ _ _ _; first | refine rep_l (by walk_at "hp") (by walk_at "sc") (by walk_at "sc") (by walk_at "sc") ?_) | (guard_target =~ L2.rAppend _ _ _ _; first | refine app_l (by walk_at "hp") (by walk_at "sc") ?_) | (guard_target =~ L2.rPop _ _ _ _; first | refine pop_l (by walk_at "hp") (by walk_at "hv") ?_ | refine pops_l (by walk_at "hp") ?_) | (guard_target =~ L2.rClear _ _ _ _; first | refine clr_l (by walk_at "hp") ?_) | (guard_target =~ L2.rReverse _ _ _ _; first | refine rev_l (by walk_at "hp") ?_) | (guard_target =~ L2.rExtend _ _ _ _; first | refine ext_l (by walk_at "hp") (by walk_at "hp") (by walk_at "sc") ?_) | (guard_target =~ KW.uAdd _ _ _ _ _; first | refine ucat_l (by walk_at "hp") (by walk_at "hp") (by walk_at "sc") ?_) | (guard_target =~ KW.uSl _ _ _ _ _ _; first | refine usl_l (by walk_at "hp") ?_) | (guard_target =~ KW.uTru _ _ _ _; first | refine tru_l (by walk_at "hp") ?_ | refine tru_t (by walk_at "hp") ?_ | refine tru_d (by walk_at "hp") ?_ | refine tru_sl (by assumption) ?_) | (guard_target =~ L2.rIndex _ _ _ _ _; first | refine idx_s (by walk_at "hp") (by assumption) ?_ | refine idx_i (by walk_at "hp") (by assumption) ?_) | (guard_target =~ L2.rIn _ _ _ _ _ _; first | refine in_s (by walk_at "hp") ?_ | refine nin_s (by walk_at "hp") ?_ | refine in_i (by walk_at "hp") ?_ | refine nin_i (by walk_at "hp") ?_) | (guard_target =~ KW.uIsi _ _ _ _; first | refine isi_l (by walk_at "hp") (by decide +kernel) ?_ | refine isi_t (by walk_at "hp") (by decide +kernel) ?_ | refine isi_d (by walk_at "hp") (by decide +kernel) ?_) | (guard_target =~ KW.uList _ _ _ _; first | refine list_l (by walk_at "hp") ?_ | refine list_t (by walk_at "hp") ?_ | refine list_sl (by assumption) ?_) | (guard_target =~ KW.uDict _ _ _; first | refine dict_d (by walk_at "hp") ?_) | (guard_target =~ KW.uSorted _ _ _ _; first | refine srt_l (by walk_at "hp") ?_) | (guard_target =~ KW.uSum _ _ _ _; first | refine sum_l (by walk_at "hp") ?_) | (guard_target =~ KW.uDelC _ _ _ _; first | refine dels_l (by walk_at "hp") (by walk_at "sc") ?_) | (guard_target =~ L2.wAs _ _ _ _ _ _ _ _ _ _; first | refine as_yes (by walk_at "hx") ?_ | refine as_no (by walk_at "hx") ?_) | (guard_target =~ KW.uEf _ _ _ _ _ _ _ _ _; first | refine ef_l (by walk_at "he") (by decide) (by rfl) (by walk_at "hp") (by rfl) ?_) | (guard_target =~ KW.uIsE _ _ _ _ _ _ _; first | refine isE_r (by walk_at "he") (by walk_at "hp") (by walk_at "hk") ?_ | refine isE_t (by walk_at "he") (by walk_at "hp") (by walk_at "hk") ?_))
local macro_rules | `(tactic| walk_at "hv") => `(tactic| first | assumption)
local macro_rules | `(tactic| walk_at "kk") => `(tactic| repeat (first | walk_at "kw" | walk_at "kr"))
local macro_rules | `(tactic| walk_at "hc") => `(tactic| first | exact K02.Txt.c_Store (by assumption))
local macro_rules | `(tactic| walk_at "he") => `(tactic| first | exact K02.Txt.e_NoRoom (by assumption) | exact K02.Txt.e_NoNumber (by assumption))
local macro_rules | `(tactic| walk_at "hx") => `(tactic| first | exact K02.Txt.x_NoRoom_KilnwardenError (by assumption) | exact K02.Txt.x_NoRoom_NoNumber (by assumption) | exact K02.Txt.x_NoNumber_KilnwardenError (by assumption) | exact K02.Txt.x_NoNumber_NoNumber (by assumption))
local macro_rules | `(tactic| walk_at "hk") => `(tactic| first | exact K02.Txt.i_NoRoom_NoNumber (by assumption) | exact K02.Txt.i_NoRoom_NoRoom (by assumption) | exact K02.Txt.i_NoNumber_NoNumber (by assumption) | exact K02.Txt.i_NoNumber_NoRoom (by assumption))

section
variable {P : Program} {w : World} {K : Frag} {mg : Str → Option Value} {base : Heap} {a : Ads}
theorem ok__law_number (T : Txt P w K mg a) : Cal P w K mg base 1 "_law_number" spNumber := by
  refine T.d__law_number.ok sc__law_number (fun vs H Q E h => ?_) (fun f cdv A outer s H vs Q E hr h => ⟨_, (pss_cons (ps_if (pt_cmpR o_ge (kv 0) (pe_op o_pow pe_int pe_int) (nomark _))
      (pss_one (ps_ret (kv 0)))
      pss_nil)
      (pss_cons (ps_set (i := 2) sc__law_number.nd rfl (Or.inl rfl) (pe_op o_mod (pe_callTy c_int (by rfl) T.n_int (by decide +kernel) (pa_cons (pe_op o_add (pe_op o_add (pe_op o_mul2 (kv 0) pe_int) (pe_op o_mul2 (kv 1) pe_int)) pe_int) pa_nil)) pe_int))
      (pss_one (ps_ret (pe_op o_mod (pe_callTy c_int (by rfl) T.n_int (by decide +kernel) (pa_cons (pe_op o_add (pe_op o_mul2 (kv 2) (kv 2)) (pe_op o_mul2 (kv 1) pe_int)) pa_nil)) pe_int))))), ?_⟩)
  · obtain ⟨_, _, rfl, _⟩ := h; rfl
  · obtain ⟨c, k, rfl, hk, hk2, h⟩ := h
    walk_at "kk"
    split
    · exact h _ (by omega)
    · walk_at "kk"
      exact h _ (by omega)
theorem ok__law_is (T : Txt P w K mg a) : Cal P w K mg base 1 "_law_is" spIs := by
  refine T.d__law_is.ok sc__law_is (fun vs H Q E h => ?_) (fun f cdv A outer s H vs Q E hr h => ⟨_, (pss_one (ps_ret (pe_and (pe_callB c_isi (by rfl) T.n_isinstance (by decide +kernel) (pa_cons (kv 0) (pa_cons (pe_bltn (v := .ty "int") (by rfl) T.n_int (by decide +kernel) rfl) pa_nil))) (pe_and (pe_not (pe_callB c_isi (by rfl) T.n_isinstance (by decide +kernel) (pa_cons (kv 0) (pa_cons (pe_bltn (v := .ty "bool") (by rfl) T.n_bool (by decide +kernel) rfl) pa_nil)))) (pe_one (pe_cmpR (o_eq hr.units) (kv 0) (kv 1) (nomark _))))))), ?_⟩)
  · obtain ⟨_, _, rfl, _⟩ := h; rfl
  · obtain ⟨b, c, rfl, ⟨x, y, rfl, rfl, h⟩⟩ := h
    walk_at "kk"
    exact h
theorem ok__law_same (T : Txt P w K mg a) : Cal P w K mg base 2 "_law_same" spSame := by
  have C__law_is := ok__law_is (P := P) (w := w) (base := base) T
  refine T.d__law_same.ok sc__law_same (fun vs H Q E h => ?_) (fun f cdv A outer s H vs Q E hr h => ⟨_, (pss_cons (ps_if (PW.pt (pw_or (pt_not (kt (pe_callB c_isi (by rfl) T.n_isinstance (by decide +kernel) (pa_cons (kv 0) (pa_cons (pe_bltn (v := .ty "list") (by rfl) T.n_list (by decide +kernel) rfl) pa_nil))))) (pw_or1 (pt_cmpR (o_ne hr.units) (pe_callB c_len (by rfl) T.n_len (by decide +kernel) (pa_cons (kv 0) pa_nil)) (pe_callB c_len (by rfl) T.n_len (by decide +kernel) (pa_cons (kv 1) pa_nil)) (nomark _)))))
      (pss_one (ps_ret pe_bl))
      pss_nil)
      (pss_cons (k_for (passes_of rfl) rfl (pi_range1 (by rfl) T.n_range (pa_cons (pe_callB c_len (by rfl) T.n_len (by decide +kernel) (pa_cons (kv 1) pa_nil)) pa_nil)) (pg_name (i := 2) sc__law_same.nd rfl (Or.inl rfl))
      (pss_one (ps_if (pt_not (kt (kc C__law_is (hr.mono (by decide)) (pa_cons (pe_ix o_ix (kv 0) (kv 2) (fun _ _ => rfl)) (pa_cons (pe_ix o_ix (kv 1) (kv 2) (fun _ _ => rfl)) pa_nil)))))
      (pss_one (ps_ret pe_bl))
      pss_nil)))
      (pss_one (ps_ret pe_bl)))), ?_⟩)
  · obtain ⟨_, _, _, rfl, _⟩ := h; rfl
  · obtain ⟨p, q, xs, rfl, hp, hq, hl, h⟩ := h
    walk_at "kk"
    refine for_rng (fun i σ H' => ∃ v, σ = [some (.ref p), some (.ref q), v] ∧ H' = H) ⟨_, rfl, rfl⟩ ?_ ?_
    · rintro i σ H' hi ⟨v, rfl, rfl⟩
      obtain ⟨x, hx⟩ : ∃ x, xs[i]? = some x := ⟨_, List.getElem?_eq_getElem (show i < xs.length by omega)⟩
      have hv := atI_map (f := V.int) hx
      walk_at "kk"
      unfold spIs
      walk_at "kk"
    · rintro σ H' ⟨v, rfl, rfl⟩
      walk_at "kk"
      exact h
theorem ok__law_flat (T : Txt P w K mg a) : Cal P w K mg base 1 "_law_flat" spFlat := by
  refine T.d__law_flat.ok sc__law_flat (fun vs H Q E h => ?_) (fun f cdv A outer s H vs Q E hr h => ⟨_, (pss_cons (ps_set (i := 1) sc__law_flat.nd rfl (Or.inl rfl) (pe_lst pa_nil))
      (pss_cons (k_for (passes_of rfl) rfl (pi_list (kv 0)) (pg_name (i := 2) sc__law_flat.nd rfl (Or.inl rfl))
      (pss_cons (ps_expr (pe_bm PySem.F.plainAttrs_list PySem.F.slot_list_extend PySem.F.type_list_extend mt_extend (kv 1) (pa_cons (pe_lst (pa_cons (pe_ix o_ix (kv 2) pe_int (fun _ _ => rfl)) (pa_cons (pe_callB c_len (by rfl) T.n_len (by decide +kernel) (pa_cons (pe_ix o_ix (kv 2) pe_int (fun _ _ => rfl)) pa_nil)) (pa_cons (pe_ix o_ix (kv 2) pe_int (fun _ _ => rfl)) pa_nil)))) pa_nil)))
      (pss_one (ps_expr (pe_bm PySem.F.plainAttrs_list PySem.F.slot_list_extend PySem.F.type_list_extend mt_extend (kv 1) (pa_cons (pe_ix o_ix (kv 2) pe_int (fun _ _ => rfl)) pa_nil))))))
      (pss_one (ps_ret (kv 1))))), ?_⟩)
  · obtain ⟨_, _, rfl, _⟩ := h; rfl
  · obtain ⟨rw, L, rfl, R, hl, h⟩ := h
    have hd := R.hd
    walk_at "kk"
    intro p hp
    have np : p ∉ fpR rw L := notin_of hp R.there
    walk_at "kk"
    refine for_lst (xs := L.map fun r => .ref r.el) (fun i σ H' => ∃ v, σ = [some (.ref rw), some (.ref p), v] ∧ IL H' p (flat (blks (L.take i))) ∧ KW.Fr [] H H') ⟨_, rfl, upd_same, Fr.new hp⟩ ?_ ?_ ?_
    · rintro i σ H' - ⟨v, -, -, fr⟩
      exact .of (fr _ _ (by simp) hd)
    · rintro i x σ H' hx ⟨v, rfl, hI, fr⟩
      rw [List.getElem?_map] at hx
      obtain ⟨r, hy, rfl⟩ := Option.map_eq_some_iff.mp hx
      have R1 := R.fr0 fr
      obtain ⟨h3, h4⟩ := R1.it i r hy
      unfold reV at h3
      have et : L.take (i + 1) = L.take i ++ [r] := by rw [List.take_add_one, hy]; rfl
      have ef : flat (blks (L.take (i + 1))) = flat (blks (L.take i)) ++ (r.b.n :: (r.b.s.length : Int) :: r.b.k :: r.b.s) := by rw [et, blks, List.map_append, flat_app]; simp [flat, Blk.ws]
      have e5 : (flat (blks L)).length = (flat (blks (L.take (i + 1)))).length + (flat (blks (L.drop (i + 1)))).length := by
        conv => lhs; rw [← List.take_append_drop (i + 1) L, blks, List.map_append, flat_app, List.length_append]
      rw [ef] at e5
      simp at e5
      have pe : p ≠ r.el := fun z => np (z ▸ el_fpR hy)
      have ps : p ≠ r.sl := fun z => np (z ▸ sl_fpR hy)
      walk_at "kk"
      intro q hq
      have pq : q ≠ p := by walk_at "ne"
      have q1 : q ≠ r.el := by walk_at "ne"
      have q2 : q ≠ r.sl := by walk_at "ne"
      refine ext_l (xs := (flat (blks (L.take i))).map V.int) (by walk_at "hp") (by walk_at "hp") (le_line (by simp; omega)) ?_
      walk_at "kk"
      refine ext_l (by walk_at "hp") (by walk_at "hp") (le_line (by simp; omega)) ?_
      refine ⟨?_, ?_⟩
      · show _ = _
        rw [upd_same, ef]
        simp
      · intro b o hb hH
        have := fr b o hb hH
        have b1 : b ≠ p := ne_of_none hH hp
        have b2 : q ≠ b := by walk_at "ne"
        walk_at "hp"
    · rintro σ H' ⟨v, rfl, hI, fr⟩
      walk_at "kk"
      rw [List.length_map, List.take_length] at hI
      exact h p H' hp fr hI
end
end K02

set_option Elab.async false
set_option linter.all false
set_option maxRecDepth 100000
set_option maxHeartbeats 4000000
/-! RowP: promises of k04, k05 -/
namespace ST
open PySem PySem.Spec PyProof.Rows L2 KW
def spGrown (C : Addr) : Sp := fun vs H Q _ => ∃ (st wd pl rw : Addr) (L : List RE) (x : Int), vs = [.ref st, .ref rw, .int x] ∧ SR C H st wd pl rw 100000 100000 L ∧ L.length ≤ 200 ∧ (flat (blks L)).length ≤ 20000 ∧
  ∀ L' H', SR C H' st wd pl rw 100000 100000 L' → L'.length = L.length + 1 → (flat (blks L')).length ≤ (flat (blks L)).length + 50 → Stp (fpSR st wd pl rw L) (fpSR st wd pl rw L') H H' → Q .non H'
def spLinked (C : Addr) : Sp := fun vs H Q _ => ∃ (st wd pl rw : Addr) (L : List RE) (x : Int), vs = [.ref st, .ref rw, .int x] ∧ SR C H st wd pl rw 100000 100000 L ∧ L.length ≤ 200 ∧ (flat (blks L)).length ≤ 20000 ∧
  ∀ L' H', SR C H' st wd pl rw 100000 100000 L' → L'.length = L.length → (flat (blks L')).length = (flat (blks L)).length → Stp (fpSR st wd pl rw L) (fpSR st wd pl rw L') H H' → Q .non H'
def spChained (C : Addr) : Sp := fun vs H Q _ => ∃ (st wd pl rw : Addr) (L : List RE), vs = [.ref st, .ref rw] ∧ SR C H st wd pl rw 100000 100000 L ∧ L.length ≤ 200 ∧ (flat (blks L)).length ≤ 20000 ∧
  ∀ L' H', SR C H' st wd pl rw 100000 100000 L' → L'.length = L.length → (flat (blks L')).length = (flat (blks L)).length → Stp (fpSR st wd pl rw L) (fpSR st wd pl rw L') H H' → Q .non H'
def spBuilt (C : Addr) : Sp := fun vs H Q _ => ∃ (st wd pl ce : Addr) (cs : List Int), vs = [.ref st, .ref ce] ∧ Sto C H st wd pl 100000 100000 [] ∧ IL H ce cs ∧ ce ∉ fpS st wd pl ∧ 2 ≤ cs.length ∧
  ∀ L' rw H', SR C H' st wd pl rw 100000 100000 L' → L'.length ≤ 100 → (flat (blks L')).length ≤ 10000 → Stp (fpS st wd pl) (fpSR st wd pl rw L') H H' → Q (.ref rw) H'
def spDue : Sp := fun vs H Q _ => ∃ (rw rt : Addr) (L : List RE) (R : List Int), vs = [.ref rw, .ref rt] ∧ Row H rw L ∧ IL H rt R ∧ Nd (blks L) ∧ L.length ≤ 200 ∧ R.length ≤ 1000 ∧ (flat (blks L)).length ≤ 20000 ∧
  ∀ (l : Addr) (F ys : List Int) (H' : Hp), H l = none → KW.Fr [] H H' → IL H' l ys → F.Nodup → (∀ n, n ∈ F ↔ Rch (blks L) R n) → ys.Perm F → ys.Pairwise (· ≤ ·) → Q (.ref l) H'
def spRoots : Sp := fun vs H Q _ => ∃ (rw ce : Addr) (L : List RE) (cs : List Int), vs = [.ref rw, .ref ce] ∧ Row H rw L ∧ IL H ce cs ∧ L.length ≤ 200 ∧ cs.length ≤ 1000 ∧ ∀ (l : Addr) (R : List Int) (H' : Hp), H l = none → KW.Fr [] H H' → IL H' l R → R.length ≤ 1000 → Q (.ref l) H'
def spWord2 : Sp := fun vs H Q _ => ∃ (x m : Int), vs = [.int x, .int m] ∧ 0 ≤ m ∧ m ≤ 100000 ∧ ∀ v, Q (.int v) H
section
variable {C : Addr} {H H' H2 : Hp} {st wd pl rw : Addr} {rm en : Int} {L : List RE} {Q : VK} {E : XK}
theorem living_s (R : Row H rw L) (hl : L.length ≤ 1000000) (q : ∀ l, H l = none → Q (.ref l) (upd H l (.lst ((L.filter fun r => r.b.al).map fun r => .ref r.el)))) : spLiving [.ref rw] H Q E := ⟨rw, L, rfl, R, hl, q⟩
theorem flat_s (R : Row H rw L) (hl : (flat (blks L)).length ≤ 2000000) (q : ∀ l H', H l = none → KW.Fr [] H H' → IL H' l (flat (blks L)) → Q (.ref l) H') : spFlat [.ref rw] H Q E := ⟨rw, L, rfl, R, hl, q⟩
theorem num_s {c k : Int} (h0 : 0 ≤ k) (h1 : k ≤ 100000) (q : ∀ v, 0 ≤ v → Q (.int v) H) : spNumber [.int c, .int k] H Q E := ⟨c, k, rfl, h0, h1, q⟩
theorem word2_s {x m : Int} (h0 : 0 ≤ m) (h1 : m ≤ 100000) (q : ∀ v, Q (.int v) H) : spWord2 [.int x, .int m] H Q E := ⟨x, m, rfl, h0, h1, q⟩
theorem is_s {x y : Int} (q : Q (.bl (decide (x = y))) H) : spIs [.int x, .int y] H Q E := ⟨_, _, rfl, x, y, rfl, rfl, q⟩
theorem same_s {p q : Addr} {xs : List Int} (h1 : IL H p xs) (h2 : IL H q xs) (hl : xs.length ≤ 16000000) (k : Q (.bl true) H) : spSame [.ref p, .ref q] H Q E := ⟨p, q, xs, rfl, h1, h2, hl, k⟩
/-- an element of the living ones, by its place in their list -/
theorem pick {L : List RE} {r : Int} (h0 : 0 ≤ r) (h1 : r < ((L.filter fun r => r.b.al).length : Int)) : ∃ (i : Nat) (e : RE), atI ((L.filter fun r => r.b.al).map fun r => V.ref r.el) r = some (.ref e.el) ∧ (L.filter fun r => r.b.al)[r.toNat]? = some e ∧ L[i]? = some e ∧ e.b.al = true := by
  obtain ⟨j, rfl⟩ := Int.eq_ofNat_of_zero_le h0
  have hj : j < (L.filter fun r => r.b.al).length := by omega
  obtain ⟨e, he⟩ : ∃ e, (L.filter fun r => r.b.al)[j]? = some e := ⟨_, List.getElem?_eq_getElem hj⟩
  obtain ⟨i, h1, h2⟩ := mem_living he
  exact ⟨i, e, atI_map he, by simpa using he, h1, h2⟩
theorem sepE (Z : SR C H st wd pl rw rm en L) {i : Nat} {e : RE} (h : L[i]? = some e) : e.el ∉ fpS st wd pl := fun z => Z.sep _ z (el_fpR h)
theorem sepL (Z : SR C H st wd pl rw rm en L) {i : Nat} {e : RE} (h : L[i]? = some e) : e.sl ∉ fpS st wd pl := fun z => Z.sep _ z (sl_fpR h)
theorem fr_sub {l m : List Addr} {H H' : Hp} (f : KW.Fr l H H') (h : ∀ x ∈ l, x ∈ m) : KW.Fr m H H' := f.mono h
theorem Stp.new {f g : List Addr} {H H' : Hp} {p : Addr} {o : HO} (a : Stp f g H H') (h : H' p = none) : Stp f g H (upd H' p o) := a.trans (Stp.of (Fr.new h))
theorem Stp.fr0 {f g : List Addr} {H H' H2 : Hp} (a : Stp f g H H') (h : KW.Fr [] H' H2) : Stp f g H H2 := a.trans (Stp.of (h.mono (by simp)))
end
/-- some of the elements, in another list -/
theorem Row.sub {H : Hp} {rw rw' : Addr} {L L' : List RE} (R : Row H rw L) (s : L'.Sublist L) (h : H rw' = some (.lst (L'.map fun r => .ref r.el))) (n : rw' ∉ fpR rw L) : Row H rw' L' := by
  have mem : ∀ (i : Nat) (r : RE), L'[i]? = some r → ∃ j : Nat, L[j]? = some r := fun i r hi => List.getElem?_of_mem (s.mem (List.mem_of_getElem? hi))
  have pw : L.Pairwise fun r s => r.el ≠ s.el ∧ r.sl ≠ s.sl := by
    rw [List.pairwise_iff_getElem]
    intro i j hi hj hij
    exact R.d1 i j _ _ (List.getElem?_eq_getElem hi) (List.getElem?_eq_getElem hj) (by omega)
  have pw' := pw.sublist s
  rw [List.pairwise_iff_getElem] at pw'
  refine ⟨h, fun i r hi => ?_, fun i j r t hi hj hij => ?_, fun i j r t hi hj => ?_, fun i r hi => ?_⟩
  · obtain ⟨k, hk⟩ := mem i r hi; exact R.it k r hk
  · obtain ⟨i1, i2⟩ := List.getElem?_eq_some_iff.mp hi
    obtain ⟨j1, j2⟩ := List.getElem?_eq_some_iff.mp hj
    rcases Nat.lt_or_gt_of_ne hij with c | c
    · have := pw' i j i1 j1 c; rw [i2, j2] at this; exact this
    · have := pw' j i j1 i1 c; rw [i2, j2] at this; exact ⟨this.1.symm, this.2.symm⟩
  · obtain ⟨k, hk⟩ := mem i r hi
    obtain ⟨m, hm⟩ := mem j t hj
    exact R.d2 k m r t hk hm
  · obtain ⟨k, hk⟩ := mem i r hi
    exact ⟨fun z => n (z ▸ el_fpR hk), fun z => n (z ▸ sl_fpR hk)⟩
theorem Row.lst {H : Hp} {rw : Addr} {L : List RE} (R : Row H rw L) : ∀ x ∈ fpR rw L, ∃ xs, H x = some (.lst xs) := fun x hx => by
  rcases mem_fpR.mp hx with rfl | ⟨i, r, h, rfl | rfl⟩
  · exact ⟨_, R.hd⟩
  · exact ⟨_, (R.it i r h).1⟩
  · exact ⟨_, (R.it i r h).2⟩
end ST

set_option Elab.async false
set_option linter.all false
set_option maxRecDepth 100000
set_option maxHeartbeats 4000000
/-! SnH: k02: snapshots with copies of the row, promises of the law's defs -/
namespace ST
open PySem PySem.Spec PyProof.Rows L2 KW LamX
def spDeeds : Sp := fun vs H Q _ => ∃ (c k : Int), vs = [.int c, .int k] ∧ 0 ≤ k ∧ k ≤ 1000 ∧ ∀ (x y : Int) l, H l = none → Q (.ref l) (upd H l (.lst [.int x, .int y]))
def spWordI : Sp := fun vs H Q _ => ∃ x : Int, vs = [.int x] ∧ ∀ v, Q (.int v) H
/-- the places of the living ones -/
def lvi (L : List RE) : List Nat := (List.range L.length).filter fun i => match L[i]? with | some r => r.b.al | none => false
def spLivI : Sp := fun vs H Q _ => ∃ (rw : Addr) (L : List RE), vs = [.ref rw] ∧ Row H rw L ∧ L.length ≤ 1000000 ∧ ∀ l, H l = none → Q (.ref l) (upd H l (.lst ((lvi L).map fun i => V.int (i : Nat))))
def spFreeL : Sp := fun vs H Q _ => ∃ (rw : Addr) (L : List RE), vs = [.ref rw] ∧ Row H rw L ∧ L.length ≤ 1000000 ∧ ∀ f H', Free (blks L) f → f ≤ (L.length : Int) → KW.Fr [] H H' → Q (.int f) H'
def spCopyL : Sp := fun vs H Q _ => ∃ (rw : Addr) (L : List RE), vs = [.ref rw] ∧ Row H rw L ∧ (flat (blks L)).length ≤ 1000000 ∧ ∀ rw' L' H', Row H' rw' L' → blks L' = blks L → (∀ x ∈ fpR rw' L', H x = none) → KW.Fr [] H H' → Q (.ref rw') H'
theorem lvi_mem {L : List RE} {i : Nat} (h : i ∈ lvi L) : ∃ r, L[i]? = some r ∧ r.b.al = true := by
  unfold lvi at h
  obtain ⟨h1, h2⟩ := List.mem_filter.mp h
  have := List.mem_range.mp h1
  rw [List.getElem?_eq_getElem this] at h2
  exact ⟨_, List.getElem?_eq_getElem this, h2⟩
theorem lvi_len (L : List RE) : (lvi L).length ≤ L.length := by
  have := List.length_filter_le (fun i => match L[i]? with | some r => r.b.al | none => false) (List.range L.length)
  rw [List.length_range] at this
  exact this
/-- the law's allocate -/
def spAllocd (C : Addr) : Sp := fun vs H Q _ => ∃ (st wd pl rw lm : Addr) (rm en : Int) (L : List RE) (kd : Int) (n : Nat), vs = [.ref st, .ref rw, .ref lm, .int kd, .int n] ∧ SR C H st wd pl rw rm en L ∧ H lm = some (.tup [.int rm, .int en]) ∧ 0 ≤ en ∧ en ≤ 1000000 ∧ rm ≤ 1000 ∧ ((flat (blks L)).length : Int) ≤ rm ∧ n ≤ 1000 ∧
  ∀ L' H', SR C H' st wd pl rw rm en L' → ((flat (blks L')).length : Int) ≤ rm → Stp (fpSR st wd pl rw L) (fpSR st wd pl rw L') H H' → Q (.bl true) H'
theorem freel_s {H : Hp} {Q : VK} {E : XK} {rw : Addr} {L : List RE} (R : Row H rw L) (hl : L.length ≤ 1000000) (q : ∀ f H', Free (blks L) f → f ≤ (L.length : Int) → KW.Fr [] H H' → Q (.int f) H') : spFreeL [.ref rw] H Q E := ⟨rw, L, rfl, R, hl, q⟩
theorem lenL (L : List RE) : 3 * L.length ≤ (flat (blks L)).length := by
  have := len_flat (blks L)
  rwa [List.length_map] at this
theorem tupSR {C : Addr} {H : Hp} {st wd pl rw : Addr} {rm en : Int} {L : List RE} (Z : SR C H st wd pl rw rm en L) {t : Addr} {xs : List V} (h : H t = some (.tup xs)) : t ∉ fpSR st wd pl rw L := fun m => by
  rcases List.mem_append.mp m with m | m
  · obtain ⟨⟨⟨dx, lo, ob, l1⟩, wo, ⟨kvs, pa, ok⟩, nd, nn, wp, sw, sp⟩, _, _⟩ := Z
    simp only [List.mem_cons, List.not_mem_nil, or_false] at m
    rcases m with rfl | rfl | rfl
    · rw [ob] at h; cases h
    · rw [wo] at h; cases h
    · rw [pa] at h; cases h
  · obtain ⟨ys, e⟩ := Z.R.lst _ m
    rw [e] at h; cases h
theorem livI_s {H : Hp} {Q : VK} {E : XK} {rw : Addr} {L : List RE} (R : Row H rw L) (hl : L.length ≤ 1000000) (q : ∀ l, H l = none → Q (.ref l) (upd H l (.lst ((lvi L).map fun i => V.int (i : Nat))))) : spLivI [.ref rw] H Q E := ⟨rw, L, rfl, R, hl, q⟩
/-- the number at a place -/
def nAt (L : List RE) (i : Nat) : Int := match L[i]? with | some r => r.b.n | none => 0
theorem lvi_nums (L : List RE) : (lvi L).map (nAt L) = nums (blks L) := by
  have key : ∀ k, k ≤ L.length → ((List.range k).filter fun i => match L[i]? with | some r => r.b.al | none => false).map (nAt L) = nums (blks (L.take k)) := fun k => by
    induction k with
    | zero => intro _; rfl
    | succ k ih =>
      intro hk
      have hx : L[k]? = some (L[k]'(by omega)) := List.getElem?_eq_getElem _
      rw [List.range_succ, List.filter_append, List.map_append, ih (by omega), List.take_add_one, hx]
      have e : ([k].filter fun i => match L[i]? with | some r => r.b.al | none => false) = if (L[k]'(by omega)).b.al = true then [k] else [] := by
        rw [List.filter_cons, hx]; rfl
      rw [e]
      unfold nums blks
      rw [List.map_append, List.filter_append, List.map_append]
      congr 1
      show _ = ((([L[k]'(by omega)] : List RE).map fun r => r.b).filter fun e => e.al).map fun e => e.n
      rw [List.map_cons, List.map_nil, List.filter_cons]
      split
      · simp [nAt, hx]
      · simp
  have := key L.length (Nat.le_refl _)
  rwa [List.take_length] at this
def spAgr2 (C : Addr) : Sp := fun vs H Q _ => ∃ (st wd pl rw : Addr) (rm en : Int) (L : List RE) (x : Int), vs = [.ref st, .ref rw, .int en, .int x] ∧ SR C H st wd pl rw rm en L ∧ 0 ≤ en ∧ en ≤ 1000000 ∧ (flat (blks L)).length ≤ 1000 ∧
  ∀ H', SR C H' st wd pl rw rm en L → KW.Fr [st] H H' → Q (.bl true) H'
/-- one that was taken: the tuple, the snapshot (tuple, list, dict), the copy of the row -/
structure TE where
  tu : Addr
  tp : Addr
  sw : Addr
  sp : Addr
  rw : Addr
  L : List RE
def fpE (e : TE) : List Addr := [e.tu, e.tp, e.sw, e.sp] ++ fpR e.rw e.L
def fpT (tk : Addr) (TL : List TE) : List Addr := tk :: TL.flatMap fpE
theorem mem_fpT {tk x : Addr} {TL : List TE} : x ∈ fpT tk TL ↔ x = tk ∨ ∃ e ∈ TL, x ∈ fpE e := by
  unfold fpT; rw [List.mem_cons, List.mem_flatMap]
structure Tk (H : Hp) (tk : Addr) (TL : List TE) (rm : Int) : Prop where
  hd : H tk = some (.lst (TL.map fun e => .ref e.tu))
  it : ∀ e ∈ TL, H e.tu = some (.tup [.ref e.tp, .ref e.rw]) ∧ Snp H e.tp e.sw e.sp (blks e.L) ∧ Row H e.rw e.L ∧ ((flat (blks e.L)).length : Int) ≤ rm
  ne : ∀ e ∈ TL, tk ∉ fpE e
theorem Tk.fr {H H' : Hp} {tk : Addr} {TL : List TE} {rm : Int} {l : List Addr} (T : Tk H tk TL rm) (f : KW.Fr l H H') (n : ∀ x ∈ fpT tk TL, x ∉ l) : Tk H' tk TL rm := by
  refine ⟨f _ _ (n _ (mem_fpT.mpr (.inl rfl))) T.hd, fun e he => ?_, T.ne⟩
  obtain ⟨h1, h2, h3, h4⟩ := T.it e he
  have m : ∀ x ∈ fpE e, x ∉ l := fun x hx => n x (mem_fpT.mpr (.inr ⟨e, he, hx⟩))
  exact ⟨f _ _ (m _ (by simp [fpE])) h1, h2.fr f (fun x hx => m x (by simp [fpE] at hx ⊢; rcases hx with h | h | h <;> simp [h])), h3.fr f (fun x hx => m x (List.mem_append_right _ hx)), h4⟩
theorem Tk.fr0 {H H' : Hp} {tk : Addr} {TL : List TE} {rm : Int} (T : Tk H tk TL rm) (f : KW.Fr [] H H') : Tk H' tk TL rm := T.fr f (by simp)
theorem Tk.there {H : Hp} {tk : Addr} {TL : List TE} {rm : Int} (T : Tk H tk TL rm) : ∀ x ∈ fpT tk TL, ∃ o, H x = some o := fun x hx => by
  rcases mem_fpT.mp hx with rfl | ⟨e, he, hx⟩
  · exact ⟨_, T.hd⟩
  · obtain ⟨h1, h2, h3, _⟩ := T.it e he
    rcases List.mem_append.mp hx with q | q
    · rcases List.mem_cons.mp q with rfl | q
      · exact ⟨_, h1⟩
      · exact h2.there x q
    · exact h3.there x q
/-- the store, the row and the taken ones -/
structure S2 (C : Addr) (H : Hp) (st wd pl rw tk lm : Addr) (X : List (Addr × HO)) (rm en : Int) (L : List RE) (TL : List TE) : Prop where
  Z : SR C H st wd pl rw rm en L
  T : Tk H tk TL rm
  sep : ∀ x ∈ fpT tk TL, x ∉ fpSR st wd pl rw L
  fl : ((flat (blks L)).length : Int) ≤ rm
  lt : H lm = some (.tup [.int rm, .int en])
  ot : ∀ b o, (b, o) ∈ X → H b = some o ∧ Pln o ∧ b ∉ fpSR st wd pl rw L ∧ b ∉ fpT tk TL
theorem S2.fr0 {C : Addr} {H H' : Hp} {st wd pl rw tk lm : Addr} {X : List (Addr × HO)} {rm en : Int} {L : List RE} {TL : List TE} (S : S2 C H st wd pl rw tk lm X rm en L TL) (f : KW.Fr [] H H') : S2 C H' st wd pl rw tk lm X rm en L TL :=
  ⟨S.Z.fr0 f, S.T.fr0 f, S.sep, S.fl, f _ _ (by simp) S.lt, fun b o m => ⟨f _ _ (by simp) (S.ot b o m).1, (S.ot b o m).2⟩⟩
/-- a deed that changes only the store and the row -/
theorem S2.step {C : Addr} {H H' : Hp} {st wd pl wd' pl' rw tk lm : Addr} {X : List (Addr × HO)} {rm en : Int} {L L' : List RE} {TL : List TE} (S : S2 C H st wd pl rw tk lm X rm en L TL) (Z' : SR C H' st wd' pl' rw rm en L') (fl' : ((flat (blks L')).length : Int) ≤ rm)
    (s : Stp (fpSR st wd pl rw L) (fpSR st wd' pl' rw L') H H') : S2 C H' st wd' pl' rw tk lm X rm en L' TL :=
  ⟨Z', S.T.fr s.1 S.sep, fun x hx => by
    obtain ⟨o, ho⟩ := S.T.there x hx
    exact (s.out (S.sep x hx) ho).2, fl', s.1 _ _ (tupSR S.Z S.lt) S.lt, fun b o m => by
    obtain ⟨h1, h2, h3, h4⟩ := S.ot b o m
    obtain ⟨k1, k2⟩ := s.out h3 h1
    exact ⟨k1, h2, k2, h4⟩⟩
/-- the law's other deeds -/
def spChg (C p : Addr) (q : Str) : Sp := fun vs H Q _ => ∃ (st wd pl rw tk lm : Addr) (X : List (Addr × HO)) (rm en : Int) (L : List RE) (TL : List TE) (dd x : Int), vs = [.ref st, .ref rw, .ref tk, .int dd, .int x] ∧ S2 C H st wd pl rw tk lm X rm en L TL ∧ rm ≤ 1000 ∧ TL.length ≤ 1000 ∧ TabS H p q ∧
  ∀ H' wd' pl' L' TL', S2 C H' st wd' pl' rw tk lm X rm en L' TL' → TL'.length ≤ TL.length + 1 → TabS H' p q → Q .non H'
theorem SR.pln {C : Addr} {H : Hp} {st wd pl rw : Addr} {rm en : Int} {L : List RE} (Z : SR C H st wd pl rw rm en L) : ∀ x ∈ fpSR st wd pl rw L, ∃ o, H x = some o ∧ Pln o := fun x hx => by
  rcases List.mem_append.mp hx with m | m
  · exact Z.S.pln x m
  · obtain ⟨xs, e⟩ := Z.R.lst x m
    exact ⟨_, e, pln_lst⟩
/-- the row's head lies elsewhere -/
theorem Row.put {H H' : Hp} {rw rw' : Addr} {L : List RE} (R : Row H rw L) (h : H' rw' = some (.lst (L.map fun r => .ref r.el))) (it : ∀ (i : Nat) (r : RE), L[i]? = some r → H' r.el = H r.el ∧ H' r.sl = H r.sl) (n : ∀ (i : Nat) (r : RE), L[i]? = some r → r.el ≠ rw' ∧ r.sl ≠ rw') : Row H' rw' L :=
  ⟨h, fun i r hi => by rw [(it i r hi).1, (it i r hi).2]; exact R.it i r hi, R.d1, R.d2, n⟩
theorem Tk.pln {H : Hp} {tk : Addr} {TL : List TE} {rm : Int} (T : Tk H tk TL rm) : ∀ x ∈ fpT tk TL, ∃ o, H x = some o ∧ Pln o := fun x hx => by
  rcases mem_fpT.mp hx with rfl | ⟨e, he, hx⟩
  · exact ⟨_, T.hd, pln_lst⟩
  · obtain ⟨h1, h2, h3, _⟩ := T.it e he
    rcases List.mem_append.mp hx with q | q
    · obtain ⟨hd, wo, ⟨kvs, pa, ok⟩, nd, nn⟩ := h2
      simp only [List.mem_cons, List.not_mem_nil, or_false] at q
      rcases q with rfl | rfl | rfl | rfl
      · exact ⟨_, h1, pln_tup⟩
      · exact ⟨_, hd, pln_tup⟩
      · exact ⟨_, wo, pln_lst⟩
      · exact ⟨_, pa, pln_dK⟩
    · obtain ⟨xs, e⟩ := h3.lst x q
      exact ⟨_, e, pln_lst⟩
/-- a deed that changes only the store, the row and the table -/
theorem S2.stepP {C P0 : Addr} {q : Str} {H H' : Hp} {st wd pl wd' pl' rw tk lm : Addr} {X : List (Addr × HO)} {rm en : Int} {L L' : List RE} {TL : List TE} (S : S2 C H st wd pl rw tk lm X rm en L TL) (t : LamX.TabS H P0 q) (Z' : SR C H' st wd' pl' rw rm en L') (fl' : ((flat (blks L')).length : Int) ≤ rm)
    (s : Stp (P0 :: fpSR st wd pl rw L) (fpSR st wd' pl' rw L') H H') : S2 C H' st wd' pl' rw tk lm X rm en L' TL := by
  have out : ∀ x ∈ fpT tk TL, x ∉ P0 :: fpSR st wd pl rw L := fun x hx z => by
    rcases List.mem_cons.mp z with z | z
    · obtain ⟨o, h, n, _⟩ := S.T.pln x hx
      exact t.ne h n z
    · exact S.sep x hx z
  exact ⟨Z', S.T.fr s.1 out, fun x hx => by
    obtain ⟨o, ho⟩ := S.T.there x hx
    exact (s.out (out x hx) ho).2, fl', s.1 _ _ (fun z => (List.mem_cons.mp z).elim (t.ne S.lt (fun ps z => by cases z)) (tupSR S.Z S.lt)) S.lt, fun b o m => by
    obtain ⟨h1, h2, h3, h4⟩ := S.ot b o m
    obtain ⟨k1, k2⟩ := s.out (fun z => (List.mem_cons.mp z).elim (t.ne h1 h2.1) h3) h1
    exact ⟨k1, h2, k2, h4⟩⟩
/-- one more is taken -/
theorem Tk.app {H : Hp} {tk : Addr} {TL : List TE} {rm : Int} {e : TE} (T : Tk H tk TL rm) (h1 : H e.tu = some (.tup [.ref e.tp, .ref e.rw])) (h2 : Snp H e.tp e.sw e.sp (blks e.L)) (h3 : Row H e.rw e.L) (h4 : ((flat (blks e.L)).length : Int) ≤ rm) (n : tk ∉ fpE e) :
    Tk (upd H tk (.lst ((TL ++ [e]).map fun e => .ref e.tu))) tk (TL ++ [e]) rm := by
  have key : ∀ e' ∈ TL ++ [e], tk ∉ fpE e' ∧ H e'.tu = some (.tup [.ref e'.tp, .ref e'.rw]) ∧ Snp H e'.tp e'.sw e'.sp (blks e'.L) ∧ Row H e'.rw e'.L ∧ ((flat (blks e'.L)).length : Int) ≤ rm := fun e' he => by
    rcases List.mem_append.mp he with q | q
    · exact ⟨T.ne e' q, T.it e' q⟩
    · rw [List.mem_singleton] at q
      subst q
      exact ⟨n, h1, h2, h3, h4⟩
  refine ⟨upd_same, fun e' he => ?_, fun e' he => (key e' he).1⟩
  obtain ⟨k0, k1, k2, k3, k4⟩ := key e' he
  have f : KW.Fr [tk] H (upd H tk (.lst ((TL ++ [e]).map fun e => .ref e.tu))) := Fr.upd (by simp)
  have m : ∀ x ∈ fpE e', x ∉ [tk] := fun x hx z => k0 (by rw [List.mem_singleton] at z; exact z ▸ hx)
  exact ⟨f _ _ (m _ (by simp [fpE])) k1, k2.fr f (fun x hx => m x (by simp [fpE] at hx ⊢; rcases hx with h | h | h <;> simp [h])), k3.fr f (fun x hx => m x (List.mem_append_right _ hx)), k4⟩
/-- one deed with its look at all -/
def spDeed (C p : Addr) (q : Str) : Sp := fun vs H Q _ => ∃ (st wd pl rw tk lm : Addr) (X : List (Addr × HO)) (rm en : Int) (L : List RE) (TL : List TE) (x : Int), vs = [.ref st, .ref rw, .ref tk, .ref lm, .int x] ∧ S2 C H st wd pl rw tk lm X rm en L TL ∧ rm ≤ 1000 ∧ 0 ≤ en ∧ en ≤ 1000000 ∧ TL.length ≤ 1000 ∧ TabS H p q ∧
  ∀ H' wd' pl' L' TL', S2 C H' st wd' pl' rw tk lm X rm en L' TL' → TL'.length ≤ TL.length + 1 → TabS H' p q → Q (.bl true) H'
end ST

set_option Elab.async false
set_option linter.all false
set_option maxRecDepth 100000
set_option maxHeartbeats 4000000
namespace K02
open PySem PySem.Spec PyProof.Rows L2 KW ST
local macro_rules | `(tactic| walk_at "kw") => `(tactic| simp only [tSeq, tNext, tIfS, tTest, tAnd, tOr, tNot, tAndV, tOrV, tNotV, tIf, tChain, tOp, tUn, tC, tAsg, gName, gSub, gCons, gNil, tRet, tRetN, tDrop, tCons, tNil, tCB, tAug, tSl, tPart, tNoPart, tLst, tTup, tBM, tBM0, uTest, uFor, iRng1, iRng2, iList, uCall, List.map_cons, List.map_nil, List.length_cons, List.length_nil, List.cons_append, List.nil_append, List.replicate, Nat.zero_add, Nat.reduceAdd, Nat.reduceSub, List.getElem?_cons_zero, List.getElem?_cons_succ, List.set_cons_zero, List.set_cons_succ, V.bl.injEq, V.int.injEq, V.str.injEq, V.ref.injEq, V.ty.injEq, List.cons.injEq, and_true, true_and, exists_eq_left', exists_eq_right, exists_eq_left, exists_and_left, exists_and_right, decide_eq_true_eq, Bool.not_eq_true', decide_eq_false_iff_not, Bool.false_eq_true, if_true, if_false, ite_true, ite_false, Bool.not_true, Bool.not_false, reduceCtorEq, decide_true, decide_false, Bool.not_not, isK_int_int, isK_int_bool, isK_int_str, isK_int_list, isK_int_tuple, isK_bool_int, isK_bool_bool, isK_bool_str, isK_str_str, isK_str_int, isK_str_bool, isK_str_tuple, isK_str_list, isK_list_list, isK_list_tuple, isK_tuple_tuple, isK_tuple_list, isOk_int_int, isOk_int_bool, isOk_int_str, isOk_int_list, isOk_int_tuple, isOk_bool_int, isOk_bool_bool, isOk_bool_str, isOk_str_str, isOk_str_int, isOk_str_bool, isOk_str_tuple, isOk_str_list, isOk_list_list, isOk_list_tuple, isOk_tuple_tuple, isOk_tuple_list, isK_dict_dict, isOk_dict_dict, isK_none_int, isK_none_bool, isOk_none_int, isOk_none_bool, tyV, S_inj, S_cat, L2.start, Nat.reduceSub, List.replicate_succ, List.replicate_zero, and_assoc, List.append_nil, Nat.reduceEqDiff, Option.some.injEq, Int.natCast_inj, upd_upd, Int.reducePow, Int.reduceToNat, Int.reduceMul, Int.reduceAdd, Int.reduceSub, Int.reduceLT, Int.reduceLE, Int.reduceNeg, Int.reduceDiv, Int.reduceMod, Nat.reducePow, Nat.reduceMul, S_len, List.length_append, List.length_map, List.length_range, not_true_eq_false, not_false_eq_true, ne_eq, uAdd_e1, uAdd_e2, uSub_e1, uMod_e1, uDiv_e1, uPow_e1, uShl_e1, uNeg_e1, uIAdd_e1, uIAdd_e2, uIAdd_e3, uISub_e1, uLt_e1, uLt_e2, uLe_e1, uGt_e1, uGe_e1, uEq_e1, uEq_e2, uEq_e3, uEq_e4, uEq_e5, uEq_e6, uEq_e7, uEq_e8, uEq_e9, uEq_e10, uEq_e11, uNe_e1, uNe_e2, uNe_e3, uNe_e4, uNe_e5, uNe_e6, uNe_e7, uNe_e8, uNe_e9, uNe_e10, uNe_e11, uIs_e1, uIs_e2, uIs_e3, uIs_e4, uIs_e5, uIs_e6, uNotIs_e1, uNotIs_e2, uNotIs_e3, uNotIs_e4, uNotIs_e5, uNotIs_e6, uIn_e1, uIn_e2, uIn_e3, uIn_e4, uNotIn_e1, uNotIn_e2, uNotIn_e3, uNotIn_e4, uTru_e1, uTru_e2, uTru_e3, uTru_e4, uIx_e2, uSl_e2, uLen_e1, uAbs_e1, uInt_e1, uInt_e2, uMin2_e1, uIsi_e1, uIsi_e2, uIsi_e3, uIsi_e4, cx_K, uVar_0, uVar_n, uFld, uSFld, uMet, uMake, tDG, tDI, tDNI, tDP, tDD, uMk, uRaise, uDelSl, tCallS, L2.WE, uStr_e1, uStr_e2, uMul2_e1, uMul2_e2, okS_i, okS_s, List.zip_cons_cons, List.zip_nil_left, List.drop_zero, List.drop_succ_cons, List.drop_nil, putF_nil, putF_cons, eq_self, tDNewK, tB, Option.isSome_some, Option.isSome_none, false_and, false_or, or_false, exists_false, Int.zero_add, uLc, wipe, tYes, isEmpty_app, List.isEmpty_cons, List.isEmpty_nil, List.isEmpty_map, Bool.and_false, Bool.and_true, iRev, K02.lit_0, K02.lit_2, K02.fe_room_entries, K02.fe_room_words, K02.fe_room__places, K02.fe_room__least, K02.fe_entries_room, K02.fe_entries_words, K02.fe_entries__places, K02.fe_entries__least, K02.fe_words_room, K02.fe_words_entries, K02.fe_words__places, K02.fe_words__least, K02.fe__places_room, K02.fe__places_entries, K02.fe__places_words, K02.fe__places__least, K02.fe__least_room, K02.fe__least_entries, K02.fe__least_words, K02.fe__least__places, K02.fl_room_0, K02.lf_room_0, K02.fl_room_2, K02.lf_room_2, K02.N_Store_init, K02.N_Store_used, K02.N_Store_exists, K02.N_Store_numbers, K02.N_Store_free_number, K02.N_Store_allocate, K02.N_Store_size, K02.N_Store_kind, K02.N_Store_set_kind, K02.N_Store_get, K02.N_Store_put, K02.N_Store_slots, K02.N_Store_drop, K02.N_Store_close_up, K02.N_Store_snapshot, K02.N_Store_restore, K02.N_Store_exchange, K02.N__law_number, K02.N__law_deeds, K02.N__law_word, K02.N__law_is, K02.N__law_same, K02.N__law_flat, K02.N__law_living, K02.N__law_free, K02.N__law_copy, K02.N__law_allocated, K02.N__law_changed, K02.N__law_agrees, K02.N__law_deed, K02.N_law])
local macro_rules | `(tactic| walk_at "nn") => `(tactic| first | assumption | exact ne_un (by assumption) | exact ne_un (ne_un (by assumption)) | exact ne_un (ne_un (ne_un (by assumption))) | exact ne_un (ne_un (ne_un (ne_un (by assumption)))))
local macro_rules | `(tactic| walk_at "ne") => `(tactic| first | assumption | (apply Ne.symm; assumption) | exact ne_ud (by assumption) | exact Ne.symm (ne_ud (by assumption)) | exact ne_ud (ne_un (by assumption)) | exact Ne.symm (ne_ud (ne_un (by assumption))) | exact ne_ud (ne_un (ne_un (by assumption))) | exact Ne.symm (ne_ud (ne_un (ne_un (by assumption)))) | exact ne_m (by assumption) (by assumption) | exact Ne.symm (ne_m (by assumption) (by assumption)) | exact ne_n (by assumption) (by walk_at "nn") | exact Ne.symm (ne_n (by assumption) (by walk_at "nn")))
local macro_rules | `(tactic| walk_at "hp") => `(tactic| first | assumption | exact upd_same | (refine Eq.trans (upd_ne ?_) ?_; (focus walk_at "ne"); walk_at "hp"))
local macro_rules | `(tactic| walk_at "sc") => `(tactic| first | (with_reducible assumption) | omega | exact le_line (by (try simp only [List.length_map, List.length_append, List.length_cons, List.length_nil, S_len]); omega) | exact div_s (by omega) | exact mul_r (by omega) | exact mul_l (by omega) | exact pow_s (by omega) | exact mul2_r (by omega) | exact mul2_l (by omega) | exact small4300 (by omega) | exact lt_line (by (try simp only [List.length_map, List.length_append, List.length_cons, List.length_nil, S_len]); omega) | exact ⟨_, by assumption⟩ | (guard_target =~ Exists _; exact ⟨_, .of (by walk_at "hp")⟩) | (guard_target =~ _ ∨ _; exact .inl ⟨_, by assumption⟩) | (guard_target =~ _ ∨ _; exact .inl ⟨_, .of (by walk_at "hp")⟩) | (guard_target =~ _ ∨ _; exact .inr (.inr (.inl ⟨rfl, .inl ⟨_, by walk_at "hp"⟩⟩))) | decide)
local macro_rules | `(tactic| walk_at "kr") => `(tactic| first | (guard_target =~ _ ∧ _; first | refine And.intro (by walk_at "sc") ?_) | (guard_target =~ KW.uIx _ _ _ _ _; first | refine ix_l (by walk_at "hp") (by first | walk_at "hv" | rfl) ?_ | refine ix_t (by walk_at "hp") (by first | walk_at "hv" | rfl) ?_ | refine ix_sl (by assumption) (by walk_at "hv") ?_) | (guard_target =~ KW.uLen _ _ _ _; first | refine len_l (by walk_at "hp") ?_ | refine len_t (by walk_at "hp") ?_ | refine len_sl (by assumption) ?_) | (guard_target =~ KW.uSet _ _ _ _ _; first | refine set_l (by walk_at "hp") (by first | walk_at "hv" | rfl) ?_) | (guard_target =~ L2.gTup _ _ _ _ _ _ _; first | refine tup_l (by walk_at "hp") (by rfl) ?_) | (guard_target =~ KW.uGet _ _ _ _ _; first | refine get_l (by walk_at "hp") (by walk_at "hc") (by decide) (by rfl) ?_) | (guard_target =~ KW.uPut _ _ _ _ _ _; first | refine put_l (by walk_at "hp") (by walk_at "hc") (by decide) (by simp) ?_) | (guard_target =~ KW.uMet.uMt _ _ _ _ _ _ _ _ _; first | refine met_l (by walk_at "hp") (by rfl) ?_) | (guard_target =~ KW.uMet.uMt _ _ _ _ _ _ _ _ _; first | refine ST.met_s (by assumption) (by decide) ?_) | (guard_target =~ ST.spExists _ _ _ _ _; first | refine ST.exists_s (by assumption) ?_) | (guard_target =~ ST.spUsed _ _ _ _ _; first | refine ST.used_s (by assumption) ?_) | (guard_target =~ KW.uGet _ _ _ _ _; first | refine ST.words_s (by assumption) (by walk_at "hc") (by decide) ?_) | (guard_target =~ KW.uDIn _ _ _ _; first | refine din_i (by walk_at "hp") ?_ | refine din_s (by walk_at "hp") ?_) | (guard_target =~ KW.uDGet _ _ _ _; first | refine dget_i (by walk_at "hp") (by walk_at "hv") ?_ | refine dget_s (by walk_at "hp") (by walk_at "hv") ?_) | (guard_target =~ KW.uDPut _ _ _ _ _; first | refine dput_i (by walk_at "hp") (by walk_at "sc") ?_ | refine dput_s (by walk_at "hp") (by walk_at "sc") ?_) | (guard_target =~ KW.uDDel _ _ _ _; first | refine ddel_i (by walk_at "hp") (by walk_at "hv") ?_ | refine ddel_s (by walk_at "hp") (by walk_at "hv") ?_) | (guard_target =~ KW.uMul2 _ _ _ _; first | refine rep_l (by walk_at "hp") (by walk_at "sc") (by walk_at "sc") (by walk_at "sc") ?_) | (guard_target =~ L2.rAppend _ _ _ _; first | refine app_l (by walk_at "hp") (by walk_at "sc") ?_) | (guard_target =~ L2.rPop _ _ _ _; first | refine pop_l (by walk_at "hp") (by walk_at "hv") ?_ | refine pops_l (by walk_at "hp") ?_) | (guard_target =~ L2.rClear _ _ _ _; first | refine clr_l (by walk_at "hp") ?_) | (guard_target =~ L2.rReverse _ _ _ _; first | refine rev_l (by walk_at "hp") ?_) | (guard_target =~ L2.rExtend _ _ _ _; first | refine ext_l (by walk_at "hp") (by walk_at "hp") (by walk_at "sc") ?_) | (guard_target =~ KW.uAdd _ _ _ _ _; first | refine ucat_l (by walk_at "hp") (by walk_at "hp") (by walk_at "sc") ?_) | (guard_target =~ KW.uSl _ _ _ _ _ _; first | refine usl_l (by walk_at "hp") ?_) | (guard_target =~ KW.uTru _ _ _ _; first | refine tru_l (by walk_at "hp") ?_ | refine tru_t (by walk_at "hp") ?_ | refine tru_d (by walk_at "hp") ?_ | refine tru_sl (by assumption) ?_) | (guard_target =~ L2.rIndex _ _ _ _ _; first | refine idx_s (by walk_at "hp") (by assumption) ?_ | refine idx_i (by walk_at "hp") (by assumption) ?_) | (guard_target =~ L2.rIn _ _ _ _ _ _; first | refine in_s (by walk_at "hp") ?_ | refine nin_s (by walk_at "hp") ?_ | refine in_i (by walk_at "hp") ?_ | refine nin_i (by walk_at "hp") ?_) | (guard_target =~ KW.uIsi _ _ _ _; first | refine isi_l (by walk_at "hp") (by decide +kernel) ?_ | refine isi_t (by walk_at "hp") (by decide +kernel) ?_ | refine isi_d (by walk_at "hp") (by decide +kernel) ?_) | (guard_target =~ KW.uList _ _ _ _; first | refine list_l (by walk_at "hp") ?_ | refine list_t (by walk_at "hp") ?_ | refine list_sl (by assumption) ?_) | (guard_target =~ KW.uDict _ _ _; first | refine dict_d (by walk_at "hp") ?_) | (guard_target =~ KW.uSorted _ _ _ _; first | refine srt_l (by walk_at "hp") ?_) | (guard_target =~ KW.uSum _ _ _ _; first | refine sum_l (by walk_at "hp") ?_) | (guard_target =~ KW.uDelC _ _ _ _; first | refine dels_l (by walk_at "hp") (by walk_at "sc") ?_) | (guard_target =~ L2.wAs _ _ _ _ _ _ _ _ _ _; first | refine as_yes (by walk_at "hx") ?_ | refine as_no (by walk_at "hx") ?_) | (guard_target =~ KW.uEf _ _ _ _ _ _ _ _ _; first | refine ef_l (by walk_at "he") (by decide) (by rfl) (by walk_at "hp") (by rfl) ?_) | (guard_target =~ KW.uIsE _ _ _ _ _ _ _; first | refine isE_r (by walk_at "he") (by walk_at "hp") (by walk_at "hk") ?_ | refine isE_t (by walk_at "he") (by walk_at "hp") (by walk_at "hk") ?_))
local macro_rules | `(tactic| walk_at "hv") => `(tactic| first | assumption)
local macro_rules | `(tactic| walk_at "kk") => `(tactic| repeat (first | walk_at "kw" | walk_at "kr"))
local macro_rules | `(tactic| walk_at "hc") => `(tactic| first | exact K02.Txt.c_Store (by assumption))
local macro_rules | `(tactic| walk_at "he") => `(tactic| first | exact K02.Txt.e_NoRoom (by assumption) | exact K02.Txt.e_NoNumber (by assumption))
local macro_rules | `(tactic| walk_at "hx") => `(tactic| first | exact K02.Txt.x_NoRoom_KilnwardenError (by assumption) | exact K02.Txt.x_NoRoom_NoNumber (by assumption) | exact K02.Txt.x_NoNumber_KilnwardenError (by assumption) | exact K02.Txt.x_NoNumber_NoNumber (by assumption))
local macro_rules | `(tactic| walk_at "hk") => `(tactic| first | exact K02.Txt.i_NoRoom_NoNumber (by assumption) | exact K02.Txt.i_NoRoom_NoRoom (by assumption) | exact K02.Txt.i_NoNumber_NoNumber (by assumption) | exact K02.Txt.i_NoNumber_NoRoom (by assumption))

section
variable {P : Program} {w : World} {K : Frag} {mg : Str → Option Value} {base : Heap} {a : Ads}
theorem ok__law_deeds (T : Txt P w K mg a) : Cal P w K mg base 2 "_law_deeds" spDeeds := by
  have C__law_number := ok__law_number (P := P) (w := w) (base := base) T
  refine T.d__law_deeds.ok sc__law_deeds (fun vs H Q E h => ?_) (fun f cdv A outer s H vs Q E hr h => ⟨_, (pss_cons (ps_if (pt_cmpR o_ge (kv 0) (pe_op o_pow pe_int pe_int) (nomark _))
      (pss_one (ps_ret (pe_lst (pa_cons (pe_op o_mod (pe_callTy c_int (by rfl) T.n_int (by decide +kernel) (pa_cons (kv 0) pa_nil)) (pe_op o_pow pe_int pe_int)) (pa_cons (pe_op o_fdiv (kv 0) (pe_op o_pow pe_int pe_int)) pa_nil)))))
      pss_nil)
      (pss_one (ps_ret (pe_lst (pa_cons (kc C__law_number (hr.mono (by decide)) (pa_cons (kv 0) (pa_cons (kv 1) pa_nil))) (pa_cons (kc C__law_number (hr.mono (by decide)) (pa_cons (kv 0) (pa_cons (pe_op o_add (kv 1) pe_int) pa_nil))) pa_nil)))))), ?_⟩)
  · obtain ⟨_, _, rfl, _⟩ := h; rfl
  · obtain ⟨c, k, rfl, hk, hk2, h⟩ := h
    walk_at "kk"
    split
    · refine ⟨⟨by decide, by decide, by decide⟩, ⟨by decide, by decide, by decide⟩, .inr ⟨by omega, by decide +kernel⟩, by decide, fun p hp => h _ _ _ hp⟩
    · walk_at "kk"
      refine num_s (by omega) (by omega) fun v hv => ?_
      walk_at "kk"
      refine num_s (by omega) (by omega) fun v2 hv2 => ?_
      walk_at "kk"
      exact h _ _
theorem ok__law_word (T : Txt P w K mg a) : Cal P w K mg base 1 "_law_word" spWordI := by
  refine T.d__law_word.ok sc__law_word (fun vs H Q E h => ?_) (fun f cdv A outer s H vs Q E hr h => ⟨_, (pss_cons (ps_set (i := 1) sc__law_word.nd rfl (Or.inl rfl) (pe_op o_mul2 (pe_op o_fdiv (kv 0) pe_int) pe_int))
      (pss_cons (ps_if (pt_cmpR (o_eq hr.units) (pe_op o_mod (pe_callTy c_int (by rfl) T.n_int (by decide +kernel) (pa_cons (kv 0) pa_nil)) pe_int) pe_int (nomark _))
      (pss_one (ps_ret (pe_op o_add (pe_op o_mul2 pe_int (pe_op o_sub (pe_op o_mod (pe_callTy c_int (by rfl) T.n_int (by decide +kernel) (pa_cons (kv 1) pa_nil)) pe_int) pe_int)) pe_int)))
      pss_nil)
      (pss_cons (ps_if (pt_cmpR (o_eq hr.units) (pe_op o_mod (pe_callTy c_int (by rfl) T.n_int (by decide +kernel) (pa_cons (kv 0) pa_nil)) pe_int) pe_int (nomark _))
      (pss_one (ps_ret (pe_op o_add (pe_op o_mul2 pe_int (pe_op o_mod (pe_callTy c_int (by rfl) T.n_int (by decide +kernel) (pa_cons (kv 1) pa_nil)) pe_int)) pe_int)))
      pss_nil)
      (pss_one (ps_ret (pe_op o_mul2 pe_int (pe_op o_mod (pe_callTy c_int (by rfl) T.n_int (by decide +kernel) (pa_cons (kv 1) pa_nil)) pe_int))))))), ?_⟩)
  · obtain ⟨_, rfl, _⟩ := h; rfl
  · obtain ⟨x, rfl, h⟩ := h
    walk_at "kk"
    split
    · exact ⟨mul2_l (by omega), h _⟩
    · split
      · exact ⟨mul2_l (by omega), h _⟩
      · exact ⟨mul2_l (by omega), h _⟩
theorem ok__law_living (T : Txt P w K mg a) : Cal P w K mg base 1 "_law_living" spLivI := by
  refine T.d__law_living.ok sc__law_living (fun vs H Q E h => ?_) (fun f cdv A outer s H vs Q E hr h => ⟨_, (pss_one (ps_ret (k_lc (own := [("k", 1)]) (g := gName 1) (by rfl) sc__law_living.nd (pi_range1 (by rfl) T.n_range (pa_cons (pe_callB c_len (by rfl) T.n_len (by decide +kernel) (pa_cons (kv 0) pa_nil)) pa_nil)) (blkOk_by (own := [("k", 1)]) (N := ["row", "k"]) (sc := defScope s__law_living) (by decide +kernel)) (fun _ _ _ _ _ => pg_name (i := 1) sc__law_living.nd rfl (Or.inl rfl)) (fun _ _ _ _ _ => by exact pts_one (ktK K (pe_ix (o_ixK K) (pe_ix (o_ixK K) (kv 0) (kv 1) (fun _ _ => rfl)) pe_int (fun _ _ => rfl)))) (fun _ _ _ _ _ => by exact (kv 1))))), ?_⟩)
  · obtain ⟨_, _, rfl, _⟩ := h; rfl
  · obtain ⟨rw, L, rfl, R, hl, h⟩ := h
    have hd := R.hd
    walk_at "kw"
    refine len_l hd ?_
    refine ⟨_, rfl, by simp, by simp; omega, ?_⟩
    rw [show ((L.map fun r => V.ref r.el).length : Int).toNat = L.length by simp]
    refine lc_pr (fun i => if (match L[i]? with | some r => r.b.al | none => false) = true then some (.int i) else none) (lt_line (by omega)) ?_ ?_
    · intro i D acc Cy Cn hi hD h1 h2
      obtain ⟨r, hr⟩ : ∃ r, L[i]? = some r := ⟨_, List.getElem?_eq_getElem hi⟩
      rw [hr] at h1 h2
      have h3 := (R.it i r hr).1
      unfold reV at h3
      have hv := atI_map (f := fun r : RE => V.ref r.el) hr
      walk_at "kk"
      by_cases c : r.b.al = true
      · rw [if_pos c]; exact h1 _ (if_pos c)
      · rw [if_neg c]; exact h2 (if_neg c)
    · intro D hD
      rw [fm_if]
      exact h D hD
theorem ok__law_free (T : Txt P w K mg a) : Cal P w K mg base 1 "_law_free" spFreeL := by
  refine T.d__law_free.ok sc__law_free (fun vs H Q E h => ?_) (fun f cdv A outer s H vs Q E hr h => ⟨_, (pss_cons (k_setLc (i := 1) (own := [("one", 2)]) (g := gName 2) (by rfl) sc__law_free.nd rfl rfl (sw_true rfl rfl rfl (by decide +kernel)) (pi_list (kv 0)) (blkOk_by (own := [("one", 2)]) (N := ["row", "taken", "one", "number"]) (sc := defScope s__law_free) (by decide +kernel)) (fun _ _ _ _ _ => pg_name (i := 2) sc__law_free.nd rfl (Or.inl rfl)) (fun _ _ _ _ _ => by exact pts_one (ktK K (pe_ix (o_ixK K) (kv 2) pe_int (fun _ _ => rfl)))) (fun _ _ _ _ _ => by exact (pe_ix (o_ixK K) (kv 2) pe_int (fun _ _ => rfl))))
      (pss_cons (k_for (passes_of rfl) rfl (pi_range1 (by rfl) T.n_range (pa_cons (pe_op o_add (pe_callB c_len (by rfl) T.n_len (by decide +kernel) (pa_cons (kv 1) pa_nil)) pe_int) pa_nil)) (pg_name (i := 3) sc__law_free.nd rfl (Or.inl rfl))
      (pss_one (ps_if (pt_cmpR o_notin (kv 3) (kv 1) (by rfl))
      (pss_one (ps_ret (kv 3)))
      pss_nil)))
      (pss_one (ps_ret pe_int)))), ?_⟩)
  · obtain ⟨_, _, rfl, _⟩ := h; rfl
  · obtain ⟨rw, L, rfl, R, hl, h⟩ := h
    have hd := R.hd
    walk_at "kk"
    refine lc_f (fun r : RE => if r.b.al = true then some (.int r.b.n) else none) (.of hd) (lt_line (by omega)) ?_ ?_
    · intro i r D acc Cy Cn hx hD h1 h2
      have h3 := (R.it i r hx).1
      unfold reV at h3
      walk_at "kk"
      by_cases c : r.b.al = true
      · rw [if_pos c]
        walk_at "kk"
        exact h1 _ (if_pos c)
      · rw [if_neg c]; exact h2 (if_neg c)
    · intro D hD
      rw [fm_if]
      have e : (L.filter fun r => r.b.al).map (fun r => V.int r.b.n) = (nums (blks L)).map V.int := by
        unfold nums blks
        rw [List.filter_map, List.map_map, List.map_map]; rfl
      rw [e]
      have nl := nums_len (blks L)
      rw [List.length_map] at nl
      have f1 : KW.Fr [] H (upd H D (.lst ((nums (blks L)).map V.int))) := Fr.new hD
      have g1 : upd H D (.lst ((nums (blks L)).map V.int)) D = some (.lst ((nums (blks L)).map V.int)) := upd_same
      revert f1 g1
      generalize upd H D (.lst ((nums (blks L)).map V.int)) = H1
      intro f1 g1
      walk_at "kk"
      refine for_rng (fun i σ H' => ∃ v, σ = [some (.ref rw), some (.ref D), none, v] ∧ H' = H1 ∧ ∀ j : Nat, j < i → (j : Int) ∈ nums (blks L)) ⟨_, rfl, rfl, by simp⟩ ?_ ?_
      · rintro i σ H' hi ⟨v, rfl, rfl, hj⟩
        walk_at "kk"
        split
        · rename_i c
          refine h _ _ ⟨by omega, Bool.eq_false_iff.mpr fun z => c (mem_nums.mpr z), fun j h0 h1 => ?_⟩ (by omega) f1
          obtain ⟨m, rfl⟩ := Int.eq_ofNat_of_zero_le h0
          exact mem_nums.mp (hj m (by omega))
        · rename_i c
          have c := Classical.not_not.mp c
          intro j hj2
          by_cases d : j = i
          · rw [d]; exact c
          · exact hj j (by omega)
      · rintro σ H' ⟨v, rfl, rfl, hj⟩
        obtain ⟨g, hg, hl2⟩ := free_ex (blks L)
        have g0 := hg.pos
        obtain ⟨m, rfl⟩ := Int.eq_ofNat_of_zero_le g0
        have := mem_nums.mp (hj m (by omega))
        rw [hg.no] at this
        cases this
theorem ok__law_copy (T : Txt P w K mg a) : Cal P w K mg base 1 "_law_copy" spCopyL := by
  refine T.d__law_copy.ok sc__law_copy (fun vs H Q E h => ?_) (fun f cdv A outer s H vs Q E hr h => ⟨_, (pss_one (ps_ret (k_lc (own := [("one", 1)]) (g := gName 1) (by rfl) sc__law_copy.nd (pi_list (kv 0)) (blkOk_by (own := [("one", 1)]) (N := ["row", "one"]) (sc := defScope s__law_copy) (by decide +kernel)) (fun _ _ _ _ _ => pg_name (i := 1) sc__law_copy.nd rfl (Or.inl rfl)) (fun _ _ _ _ _ => pts_nil) (fun _ _ _ _ _ => by exact (pe_lst (pa_cons (pe_ix (o_ixK K) (kv 1) pe_int (fun _ _ => rfl)) (pa_cons (pe_ix (o_ixK K) (kv 1) pe_int (fun _ _ => rfl)) (pa_cons (pe_callTy (c_listK K) (by rfl) T.n_list (by decide +kernel) (pa_cons (pe_ix (o_ixK K) (kv 1) pe_int (fun _ _ => rfl)) pa_nil)) (pa_cons (pe_ix (o_ixK K) (kv 1) pe_int (fun _ _ => rfl)) pa_nil))))))))), ?_⟩)
  · obtain ⟨_, _, rfl, _⟩ := h; rfl
  · obtain ⟨rw, L, rfl, R, hl, h⟩ := h
    have hd := R.hd
    have lB := len_flat (blks L)
    have lL : (blks L).length = L.length := List.length_map ..
    walk_at "kk"
    obtain ⟨Pv, hPv⟩ : ∃ Pv : Nat → Addr → List V → Hp → Prop, Pv = fun i D acc H' => ∃ L' : List RE, acc = L'.map (fun r => V.ref r.el) ∧ blks L' = (blks L).take i ∧ ST.Row H' D L' ∧ (∀ x ∈ fpR D L', H x = none) ∧ KW.Fr [] H H' := ⟨_, rfl⟩
    refine lc_lG (xs := L) (F := fun r => V.ref r.el) Pv ?_ ?_ ?_ ?_
    · intro D hD
      rw [hPv]
      exact ⟨[], rfl, by simp, Row.nil upd_same, fun x hx => by rcases mem_fpR.mp hx with rfl | ⟨i, r, hi, _⟩; exact hD; simp at hi, Fr.new hD⟩
    · intro i D acc H' hp
      rw [hPv] at hp
      obtain ⟨L', _, _, _, _, f⟩ := hp
      exact .of (f _ _ (by simp) hd)
    · intro i r D acc H' Nx hx hD hp hN
      rw [hPv] at hp
      obtain ⟨L', rfl, eb, R', hf, f⟩ := hp
      have hi := (List.getElem?_eq_some_iff.mp hx).1
      have l' : L'.length = i := by
        have := congrArg List.length eb
        rw [List.length_map, List.length_take] at this; omega
      have h3 := f _ _ (by simp) (R.it i r hx).1
      have h4 := f _ _ (by simp) (R.it i r hx).2
      unfold reV at h3
      walk_at "kk"
      intro s1 q1
      walk_at "kk"
      intro e1 q2
      have R2 := R'.fr0 (Fr.new (o := .lst (r.b.s.map V.int)) q1)
      have R4 := R2.fr0 (Fr.new (o := .lst [.int r.b.n, .int r.b.k, .ref s1, .bl r.b.al]) q2)
      have n1 : e1 ∉ fpR D L' := notin_of q2 R2.there
      have n2 : s1 ∉ fpR D L' := notin_of q1 R'.there
      have n3 : e1 ≠ s1 := Ne.symm (ne_of_none upd_same q2)
      have back : ∀ x, H' x = none → H x = none := fun x hx => by
        cases e : H x with
        | none => rfl
        | some o => have := f _ _ (by simp) e; rw [hx] at this; cases this
      have q3 : H' e1 = none := by walk_at "nn"
      refine ⟨_, R4.hd, lt_line (by simp; omega), hN ((L'.map fun r => V.ref r.el) ++ [.ref e1]) _ ?_⟩
      have A4 := Row.app (r := ⟨e1, s1, r.b⟩) R4 upd_same (by rw [upd_ne (Ne.symm n3), upd_same]) n1 n2 n3
      rw [hPv]
      refine ⟨L' ++ [⟨e1, s1, r.b⟩], by simp, ?_, ?_, ?_, ?_⟩
      · rw [List.take_add_one, blks_at hx, ← eb]; simp [blks]
      · rw [List.map_append] at A4
        exact A4
      · intro y hy
        rcases mem_fpR.mp hy with rfl | ⟨j, u, hu, e⟩
        · exact hD
        · rcases getA hu with ⟨q, _⟩ | ⟨_, rfl⟩
          · exact hf y (mem_fpR.mpr (.inr ⟨j, u, q, e⟩))
          · rcases e with rfl | rfl
            · exact back _ q3
            · exact back _ q1
      · intro b o _ hb
        rw [upd_ne (ne_of_none hb hD)]
        exact ((f.trans (Fr.new q1)).trans (Fr.new q2)) b o (by simp) hb
    · intro D acc H' hD hp
      rw [hPv] at hp
      obtain ⟨L', rfl, eb, R', hf, f⟩ := hp
      exact h _ _ _ R' (by rw [eb, ← lL, List.take_length]) hf f
end
end K02

set_option Elab.async false
set_option linter.all false
set_option maxRecDepth 100000
set_option maxHeartbeats 4000000
namespace K02
open PySem PySem.Spec PyProof.Rows L2 KW ST
local macro_rules | `(tactic| walk_at "kw") => `(tactic| simp only [tSeq, tNext, tIfS, tTest, tAnd, tOr, tNot, tAndV, tOrV, tNotV, tIf, tChain, tOp, tUn, tC, tAsg, gName, gSub, gCons, gNil, tRet, tRetN, tDrop, tCons, tNil, tCB, tAug, tSl, tPart, tNoPart, tLst, tTup, tBM, tBM0, uTest, uFor, iRng1, iRng2, iList, uCall, List.map_cons, List.map_nil, List.length_cons, List.length_nil, List.cons_append, List.nil_append, List.replicate, Nat.zero_add, Nat.reduceAdd, Nat.reduceSub, List.getElem?_cons_zero, List.getElem?_cons_succ, List.set_cons_zero, List.set_cons_succ, V.bl.injEq, V.int.injEq, V.str.injEq, V.ref.injEq, V.ty.injEq, List.cons.injEq, and_true, true_and, exists_eq_left', exists_eq_right, exists_eq_left, exists_and_left, exists_and_right, decide_eq_true_eq, Bool.not_eq_true', decide_eq_false_iff_not, Bool.false_eq_true, if_true, if_false, ite_true, ite_false, Bool.not_true, Bool.not_false, reduceCtorEq, decide_true, decide_false, Bool.not_not, isK_int_int, isK_int_bool, isK_int_str, isK_int_list, isK_int_tuple, isK_bool_int, isK_bool_bool, isK_bool_str, isK_str_str, isK_str_int, isK_str_bool, isK_str_tuple, isK_str_list, isK_list_list, isK_list_tuple, isK_tuple_tuple, isK_tuple_list, isOk_int_int, isOk_int_bool, isOk_int_str, isOk_int_list, isOk_int_tuple, isOk_bool_int, isOk_bool_bool, isOk_bool_str, isOk_str_str, isOk_str_int, isOk_str_bool, isOk_str_tuple, isOk_str_list, isOk_list_list, isOk_list_tuple, isOk_tuple_tuple, isOk_tuple_list, isK_dict_dict, isOk_dict_dict, isK_none_int, isK_none_bool, isOk_none_int, isOk_none_bool, tyV, S_inj, S_cat, L2.start, Nat.reduceSub, List.replicate_succ, List.replicate_zero, and_assoc, List.append_nil, Nat.reduceEqDiff, Option.some.injEq, Int.natCast_inj, upd_upd, Int.reducePow, Int.reduceToNat, Int.reduceMul, Int.reduceAdd, Int.reduceSub, Int.reduceLT, Int.reduceLE, Int.reduceNeg, Int.reduceDiv, Int.reduceMod, Nat.reducePow, Nat.reduceMul, S_len, List.length_append, List.length_map, List.length_range, not_true_eq_false, not_false_eq_true, ne_eq, uAdd_e1, uAdd_e2, uSub_e1, uMod_e1, uDiv_e1, uPow_e1, uShl_e1, uNeg_e1, uIAdd_e1, uIAdd_e2, uIAdd_e3, uISub_e1, uLt_e1, uLt_e2, uLe_e1, uGt_e1, uGe_e1, uEq_e1, uEq_e2, uEq_e3, uEq_e4, uEq_e5, uEq_e6, uEq_e7, uEq_e8, uEq_e9, uEq_e10, uEq_e11, uNe_e1, uNe_e2, uNe_e3, uNe_e4, uNe_e5, uNe_e6, uNe_e7, uNe_e8, uNe_e9, uNe_e10, uNe_e11, uIs_e1, uIs_e2, uIs_e3, uIs_e4, uIs_e5, uIs_e6, uNotIs_e1, uNotIs_e2, uNotIs_e3, uNotIs_e4, uNotIs_e5, uNotIs_e6, uIn_e1, uIn_e2, uIn_e3, uIn_e4, uNotIn_e1, uNotIn_e2, uNotIn_e3, uNotIn_e4, uTru_e1, uTru_e2, uTru_e3, uTru_e4, uIx_e2, uSl_e2, uLen_e1, uAbs_e1, uInt_e1, uInt_e2, uMin2_e1, uIsi_e1, uIsi_e2, uIsi_e3, uIsi_e4, cx_K, uVar_0, uVar_n, uFld, uSFld, uMet, uMake, tDG, tDI, tDNI, tDP, tDD, uMk, uRaise, uDelSl, tCallS, L2.WE, uStr_e1, uStr_e2, uMul2_e1, uMul2_e2, okS_i, okS_s, List.zip_cons_cons, List.zip_nil_left, List.drop_zero, List.drop_succ_cons, List.drop_nil, putF_nil, putF_cons, eq_self, tDNewK, tB, Option.isSome_some, Option.isSome_none, false_and, false_or, or_false, exists_false, Int.zero_add, uLc, wipe, tYes, isEmpty_app, List.isEmpty_cons, List.isEmpty_nil, List.isEmpty_map, Bool.and_false, Bool.and_true, iRev, K02.lit_0, K02.lit_2, K02.fe_room_entries, K02.fe_room_words, K02.fe_room__places, K02.fe_room__least, K02.fe_entries_room, K02.fe_entries_words, K02.fe_entries__places, K02.fe_entries__least, K02.fe_words_room, K02.fe_words_entries, K02.fe_words__places, K02.fe_words__least, K02.fe__places_room, K02.fe__places_entries, K02.fe__places_words, K02.fe__places__least, K02.fe__least_room, K02.fe__least_entries, K02.fe__least_words, K02.fe__least__places, K02.fl_room_0, K02.lf_room_0, K02.fl_room_2, K02.lf_room_2, K02.N_Store_init, K02.N_Store_used, K02.N_Store_exists, K02.N_Store_numbers, K02.N_Store_free_number, K02.N_Store_allocate, K02.N_Store_size, K02.N_Store_kind, K02.N_Store_set_kind, K02.N_Store_get, K02.N_Store_put, K02.N_Store_slots, K02.N_Store_drop, K02.N_Store_close_up, K02.N_Store_snapshot, K02.N_Store_restore, K02.N_Store_exchange, K02.N__law_number, K02.N__law_deeds, K02.N__law_word, K02.N__law_is, K02.N__law_same, K02.N__law_flat, K02.N__law_living, K02.N__law_free, K02.N__law_copy, K02.N__law_allocated, K02.N__law_changed, K02.N__law_agrees, K02.N__law_deed, K02.N_law])
local macro_rules | `(tactic| walk_at "nn") => `(tactic| first | assumption | exact ne_un (by assumption) | exact ne_un (ne_un (by assumption)) | exact ne_un (ne_un (ne_un (by assumption))) | exact ne_un (ne_un (ne_un (ne_un (by assumption)))))
local macro_rules | `(tactic| walk_at "ne") => `(tactic| first | assumption | (apply Ne.symm; assumption) | exact ne_ud (by assumption) | exact Ne.symm (ne_ud (by assumption)) | exact ne_ud (ne_un (by assumption)) | exact Ne.symm (ne_ud (ne_un (by assumption))) | exact ne_ud (ne_un (ne_un (by assumption))) | exact Ne.symm (ne_ud (ne_un (ne_un (by assumption)))) | exact ne_m (by assumption) (by assumption) | exact Ne.symm (ne_m (by assumption) (by assumption)) | exact ne_n (by assumption) (by walk_at "nn") | exact Ne.symm (ne_n (by assumption) (by walk_at "nn")))
local macro_rules | `(tactic| walk_at "hp") => `(tactic| first | assumption | exact upd_same | (refine Eq.trans (upd_ne ?_) ?_; (focus walk_at "ne"); walk_at "hp"))
local macro_rules | `(tactic| walk_at "sc") => `(tactic| first | (with_reducible assumption) | omega | exact le_line (by (try simp only [List.length_map, List.length_append, List.length_cons, List.length_nil, S_len]); omega) | exact div_s (by omega) | exact mul_r (by omega) | exact mul_l (by omega) | exact pow_s (by omega) | exact mul2_r (by omega) | exact mul2_l (by omega) | exact small4300 (by omega) | exact lt_line (by (try simp only [List.length_map, List.length_append, List.length_cons, List.length_nil, S_len]); omega) | exact ⟨_, by assumption⟩ | (guard_target =~ Exists _; exact ⟨_, .of (by walk_at "hp")⟩) | (guard_target =~ _ ∨ _; exact .inl ⟨_, by assumption⟩) | (guard_target =~ _ ∨ _; exact .inl ⟨_, .of (by walk_at "hp")⟩) | (guard_target =~ _ ∨ _; exact .inr (.inr (.inl ⟨rfl, .inl ⟨_, by walk_at "hp"⟩⟩))) | decide)
local macro_rules | `(tactic| walk_at "kr") => `(tactic| first | (guard_target =~ _ ∧ _; first | refine And.intro (by walk_at "sc") ?_) | (guard_target =~ KW.uIx _ _ _ _ _; first | refine ix_l (by walk_at "hp") (by first | walk_at "hv" | rfl) ?_ | refine ix_t (by walk_at "hp") (by first | walk_at "hv" | rfl) ?_ | refine ix_sl (by assumption) (by walk_at "hv") ?_) | (guard_target =~ KW.uLen _ _ _ _; first | refine len_l (by walk_at "hp") ?_ | refine len_t (by walk_at "hp") ?_ | refine len_sl (by assumption) ?_) | (guard_target =~ KW.uSet _ _ _ _ _; first | refine set_l (by walk_at "hp") (by first | walk_at "hv" | rfl) ?_) | (guard_target =~ L2.gTup _ _ _ _ _ _ _; first | refine tup_l (by walk_at "hp") (by rfl) ?_) | (guard_target =~ KW.uGet _ _ _ _ _; first | refine get_l (by walk_at "hp") (by walk_at "hc") (by decide) (by rfl) ?_) | (guard_target =~ KW.uPut _ _ _ _ _ _; first | refine put_l (by walk_at "hp") (by walk_at "hc") (by decide) (by simp) ?_) | (guard_target =~ KW.uMet.uMt _ _ _ _ _ _ _ _ _; first | refine met_l (by walk_at "hp") (by rfl) ?_) | (guard_target =~ KW.uMet.uMt _ _ _ _ _ _ _ _ _; first | refine ST.met_s (by assumption) (by decide) ?_) | (guard_target =~ ST.spExists _ _ _ _ _; first | refine ST.exists_s (by assumption) ?_) | (guard_target =~ ST.spUsed _ _ _ _ _; first | refine ST.used_s (by assumption) ?_) | (guard_target =~ KW.uGet _ _ _ _ _; first | refine ST.words_s (by assumption) (by walk_at "hc") (by decide) ?_) | (guard_target =~ KW.uDIn _ _ _ _; first | refine din_i (by walk_at "hp") ?_ | refine din_s (by walk_at "hp") ?_) | (guard_target =~ KW.uDGet _ _ _ _; first | refine dget_i (by walk_at "hp") (by walk_at "hv") ?_ | refine dget_s (by walk_at "hp") (by walk_at "hv") ?_) | (guard_target =~ KW.uDPut _ _ _ _ _; first | refine dput_i (by walk_at "hp") (by walk_at "sc") ?_ | refine dput_s (by walk_at "hp") (by walk_at "sc") ?_) | (guard_target =~ KW.uDDel _ _ _ _; first | refine ddel_i (by walk_at "hp") (by walk_at "hv") ?_ | refine ddel_s (by walk_at "hp") (by walk_at "hv") ?_) | (guard_target =~ KW.uMul2 _ _ _ _; first | refine rep_l (by walk_at "hp") (by walk_at "sc") (by walk_at "sc") (by walk_at "sc") ?_) | (guard_target =~ L2.rAppend _ _ _ _; first | refine app_l (by walk_at "hp") (by walk_at "sc") ?_) | (guard_target =~ L2.rPop _ _ _ _; first | refine pop_l (by walk_at "hp") (by walk_at "hv") ?_ | refine pops_l (by walk_at "hp") ?_) | (guard_target =~ L2.rClear _ _ _ _; first | refine clr_l (by walk_at "hp") ?_) | (guard_target =~ L2.rReverse _ _ _ _; first | refine rev_l (by walk_at "hp") ?_) | (guard_target =~ L2.rExtend _ _ _ _; first | refine ext_l (by walk_at "hp") (by walk_at "hp") (by walk_at "sc") ?_) | (guard_target =~ KW.uAdd _ _ _ _ _; first | refine ucat_l (by walk_at "hp") (by walk_at "hp") (by walk_at "sc") ?_) | (guard_target =~ KW.uSl _ _ _ _ _ _; first | refine usl_l (by walk_at "hp") ?_) | (guard_target =~ KW.uTru _ _ _ _; first | refine tru_l (by walk_at "hp") ?_ | refine tru_t (by walk_at "hp") ?_ | refine tru_d (by walk_at "hp") ?_ | refine tru_sl (by assumption) ?_) | (guard_target =~ L2.rIndex _ _ _ _ _; first | refine idx_s (by walk_at "hp") (by assumption) ?_ | refine idx_i (by walk_at "hp") (by assumption) ?_) | (guard_target =~ L2.rIn _ _ _ _ _ _; first | refine in_s (by walk_at "hp") ?_ | refine nin_s (by walk_at "hp") ?_ | refine in_i (by walk_at "hp") ?_ | refine nin_i (by walk_at "hp") ?_) | (guard_target =~ KW.uIsi _ _ _ _; first | refine isi_l (by walk_at "hp") (by decide +kernel) ?_ | refine isi_t (by walk_at "hp") (by decide +kernel) ?_ | refine isi_d (by walk_at "hp") (by decide +kernel) ?_) | (guard_target =~ KW.uList _ _ _ _; first | refine list_l (by walk_at "hp") ?_ | refine list_t (by walk_at "hp") ?_ | refine list_sl (by assumption) ?_) | (guard_target =~ KW.uDict _ _ _; first | refine dict_d (by walk_at "hp") ?_) | (guard_target =~ KW.uSorted _ _ _ _; first | refine srt_l (by walk_at "hp") ?_) | (guard_target =~ KW.uSum _ _ _ _; first | refine sum_l (by walk_at "hp") ?_) | (guard_target =~ KW.uDelC _ _ _ _; first | refine dels_l (by walk_at "hp") (by walk_at "sc") ?_) | (guard_target =~ L2.wAs _ _ _ _ _ _ _ _ _ _; first | refine as_yes (by walk_at "hx") ?_ | refine as_no (by walk_at "hx") ?_) | (guard_target =~ KW.uEf _ _ _ _ _ _ _ _ _; first | refine ef_l (by walk_at "he") (by decide) (by rfl) (by walk_at "hp") (by rfl) ?_) | (guard_target =~ KW.uIsE _ _ _ _ _ _ _; first | refine isE_r (by walk_at "he") (by walk_at "hp") (by walk_at "hk") ?_ | refine isE_t (by walk_at "he") (by walk_at "hp") (by walk_at "hk") ?_))
local macro_rules | `(tactic| walk_at "hv") => `(tactic| first | assumption)
local macro_rules | `(tactic| walk_at "kk") => `(tactic| repeat (first | walk_at "kw" | walk_at "kr"))
local macro_rules | `(tactic| walk_at "hc") => `(tactic| first | exact K02.Txt.c_Store (by assumption))
local macro_rules | `(tactic| walk_at "he") => `(tactic| first | exact K02.Txt.e_NoRoom (by assumption) | exact K02.Txt.e_NoNumber (by assumption))
local macro_rules | `(tactic| walk_at "hx") => `(tactic| first | exact K02.Txt.x_NoRoom_KilnwardenError (by assumption) | exact K02.Txt.x_NoRoom_NoNumber (by assumption) | exact K02.Txt.x_NoNumber_KilnwardenError (by assumption) | exact K02.Txt.x_NoNumber_NoNumber (by assumption))
local macro_rules | `(tactic| walk_at "hk") => `(tactic| first | exact K02.Txt.i_NoRoom_NoNumber (by assumption) | exact K02.Txt.i_NoRoom_NoRoom (by assumption) | exact K02.Txt.i_NoNumber_NoNumber (by assumption) | exact K02.Txt.i_NoNumber_NoRoom (by assumption))

section
variable {P : Program} {w : World} {K : Frag} {mg : Str → Option Value} {base : Heap} {a : Ads}
theorem ok__law_allocated (T : Txt P w K mg a) : Cal P w K mg base 3 "_law_allocated" (spAllocd a.Store) := by
  have C__law_is := ok__law_is (P := P) (w := w) (base := base) T
  have C__law_free := ok__law_free (P := P) (w := w) (base := base) T
  have C__law_flat := ok__law_flat (P := P) (w := w) (base := base) T
  have M_Store_allocate := ok_Store_allocate (P := P) (w := w) (base := base) T
  refine T.d__law_allocated.ok sc__law_allocated (fun vs H Q E h => ?_) (fun f cdv A outer s H vs Q E hr h => ⟨_, (pss_cons (ps_set (i := 5) sc__law_allocated.nd rfl (Or.inl rfl) (kc C__law_free (hr.mono (by decide)) (pa_cons (kv 1) pa_nil)))
      (pss_cons (ps_set (i := 6) sc__law_allocated.nd rfl (Or.inl rfl) (pe_op o_add pe_int (kv 4)))
      (pss_cons (ps_set (i := 7) sc__law_allocated.nd rfl (Or.inl rfl) (pe_tup (pa_cons pe_str (pa_cons (kv 5) pa_nil))))
      (C8.pss_cut (ps_if (pt_cmpR o_gt (pe_op o_add (pe_callB c_len (by rfl) T.n_len (by decide +kernel) (pa_cons (kc C__law_flat (hr.mono (by decide)) (pa_cons (kv 1) pa_nil)) pa_nil)) (kv 6)) (pe_ix o_ix (kv 2) pe_int (fun _ _ => rfl)) (nomark _))
      (pss_one (ps_set (i := 7) sc__law_allocated.nd rfl (Or.inl rfl) (pe_tup (pa_cons pe_str (pa_cons (kv 6) pa_nil)))))
      (pss_one (ps_if (pt_cmpR o_ge (kv 5) (pe_ix o_ix (kv 2) pe_int (fun _ _ => rfl)) (nomark _))
      (pss_one (ps_set (i := 7) sc__law_allocated.nd rfl (Or.inl rfl) (pe_tup (pa_cons pe_str (pa_cons (pe_ix o_ix (kv 2) pe_int (fun _ _ => rfl)) pa_nil)))))
      pss_nil)))
      (C8.pss_cut (L2N.ps_try_as (X := (cxOf (L2N.CX P w) P w K mg base N__law_allocated "_law_allocated" (defScope s__law_allocated) f cdv A outer s H E)) (i := 9) rfl rfl sc__law_allocated.nd rfl rfl ⟨by rfl, by decide, .inl T.g_KilnwardenError⟩ (L2N.takes_of rfl rfl rfl rfl) (fun W pn xe tk po => by
        have hbd : PSs (Cx.tr (cxOf (L2N.CX P w) P w K mg base N__law_allocated "_law_allocated" (defScope s__law_allocated) f cdv A outer s H E) pn xe) (tryB (nthS (defBody s__law_allocated) 4)) _ := (pss_one (ps_set (i := 8) sc__law_allocated.nd rfl (Or.inl rfl) (pe_tup (pa_cons pe_str (pa_cons (kmX tk M_Store_allocate (hr.mono (by decide)) (kv 0) (pa_cons (kv 3) (pa_cons (kv 4) pa_nil))) pa_nil)))))
        dsimp only [Cx.tr] at hbd
        exact hbd)
      (fun ea oe cls d pn hzn hf => by
        have hz := hzn.zc
        have hsu : PSs (Cx.suite (cxOf (L2N.CX P w) P w K mg base N__law_allocated "_law_allocated" (defScope s__law_allocated) f cdv A outer s H E) ea ((ea, oe) :: pn)) (suB (nthS (defBody s__law_allocated) 4)) _ := (pss_one (ps_if (kt (k_isE hz hf T.n_isinstance (pa_cons (kv 9) (pa_cons (pe_glob (v := .ref a.NoRoom) (by rfl) T.g_NoRoom rfl) pa_nil))))
      (pss_one (ps_set (i := 8) sc__law_allocated.nd rfl (Or.inl rfl) (pe_tup (pa_cons pe_str (pa_cons (k_ef 9 hz hf) pa_nil)))))
      (pss_one (ps_if (kt (k_isE hz hf T.n_isinstance (pa_cons (kv 9) (pa_cons (pe_glob (v := .ref a.NoNumber) (by rfl) T.g_NoNumber rfl) pa_nil))))
      (pss_one (ps_set (i := 8) sc__law_allocated.nd rfl (Or.inl rfl) (pe_tup (pa_cons pe_str (pa_cons (k_ef 9 hz hf) pa_nil)))))
      (pss_one (ps_ret pe_bl))))))
        dsimp only [Cx.suite] at hsu
        exact hsu))
      (C8.pss_cut (ps_if (pt_cmpR (o_eq hr.units) (pe_ix o_ix (kv 7) pe_int (fun _ _ => rfl)) pe_str (nomark _))
      (pss_one (ps_expr (pe_bm PySem.F.plainAttrs_list PySem.F.slot_list_append PySem.F.type_list_append mt_append (kv 1) (pa_cons (pe_lst (pa_cons (kv 5) (pa_cons (kv 3) (pa_cons (pe_op o_mul2 (pe_lst (pa_cons pe_int pa_nil)) (kv 4)) (pa_cons pe_bl pa_nil))))) pa_nil))))
      pss_nil)
      (pss_one (ps_ret (pe_and (pe_cmpR (o_eq hr.units) (pe_ix o_ix (kv 8) pe_int (fun _ _ => rfl)) (pe_ix o_ix (kv 7) pe_int (fun _ _ => rfl)) (nomark _)) (pe_one (kc C__law_is (hr.mono (by decide)) (pa_cons (pe_ix o_ix (kv 8) pe_int (fun _ _ => rfl)) (pa_cons (pe_ix o_ix (kv 7) pe_int (fun _ _ => rfl)) pa_nil))))))))))))), ?_⟩)
  · obtain ⟨_, _, _, _, _, _, _, _, _, _, rfl, _⟩ := h; rfl
  · obtain ⟨st, wd, pl, rw, lm, rm, en, L, kd, n, rfl, Z, hlm, e0, e1, r1, hfl, hn, h⟩ := h
    have lL := lenL L
    walk_at "kk"
    refine freel_s Z.R (by omega) fun f0 H1 hf hf2 fr1 => ?_
    walk_at "kk"
    intro d1 q1
    have hd1 : upd H1 d1 (.tup [.str (S [110, 117, 109, 98, 101, 114]), .int f0]) d1 = some (.tup [.str (S [110, 117, 109, 98, 101, 114]), .int f0]) := upd_same
    have fr2 := fr1.trans (Fr.new (o := .tup [.str (S [110, 117, 109, 98, 101, 114]), .int f0]) q1)
    revert hd1 fr2
    generalize upd H1 d1 (.tup [.str (S [110, 117, 109, 98, 101, 114]), .int f0]) = H2
    intro hd1 fr2
    have hl2 := fr2 _ _ (by simp) hlm
    refine ⟨fun σ H' => ∃ d tag val, σ = [some (.ref st), some (.ref rw), some (.ref lm), some (.int kd), some (.int n), some (.int f0), some (.int (3 + n)), some (.ref d), none, none] ∧ KW.Fr [] H H' ∧ H' d = some (.tup [.str tag, .int val]) ∧
      (rm < ((flat (blks L)).length : Int) + 3 + n ∧ tag = "room" ∧ val = 3 + n ∨ ((flat (blks L)).length : Int) + 3 + n ≤ rm ∧ en ≤ f0 ∧ tag = S [110, 111, 110, 101] ∧ val = en ∨ ((flat (blks L)).length : Int) + 3 + n ≤ rm ∧ f0 < en ∧ tag = S [110, 117, 109, 98, 101, 114] ∧ val = f0), ?_, ?_⟩
    · walk_at "kk"
      refine flat_s (Z.R.fr0 fr2) (by omega) fun l H3 q2 fr3 hl => ?_
      have fr3' := fr2.trans fr3
      have hl3 := fr3' _ _ (by simp) hlm
      have hd3 := fr3 _ _ (by simp) hd1
      walk_at "kk"
      split
      · exact ⟨by decide, fun d2 q3 => ⟨fr3'.trans (Fr.new q3), _, _, upd_same, .inl ⟨by omega, rfl, rfl⟩⟩⟩
      · walk_at "kk"
        split
        · walk_at "kk"
          exact fun d2 q3 => ⟨fr3'.trans (Fr.new q3), _, _, upd_same, .inr (.inl ⟨by omega, by omega, rfl, rfl⟩)⟩
        · exact ⟨fr3', _, _, hd3, .inr (.inr ⟨by omega, by omega, rfl, rfl⟩)⟩
    rintro σ H3 ⟨d, tag, val, rfl, fr3, hd3, hc⟩
    have Z3 := Z.fr0 fr3
    refine ⟨fun σ H' => ∃ t, σ = [some (.ref st), some (.ref rw), some (.ref lm), some (.int kd), some (.int n), some (.int f0), some (.int (3 + n)), some (.ref d), some (.ref t), none] ∧ KW.Fr [st, wd, pl] H H' ∧ H' d = some (.tup [.str tag, .int val]) ∧ H' t = some (.tup [.str tag, .int val]) ∧
      (tag = S [110, 117, 109, 98, 101, 114] ∧ val = f0 ∧ ((flat (blks L)).length : Int) + 3 + n ≤ rm ∧ Sto a.Store H' st wd pl rm en (blks L ++ [⟨f0, kd, List.replicate n 0, true⟩]) ∨ tag ≠ S [110, 117, 109, 98, 101, 114] ∧ Sto a.Store H' st wd pl rm en (blks L)), ?_, ?_⟩
    · have S3 := Z3.S
      have of3' : ∀ l : List Addr, (∀ x ∈ l, x ∈ fpS st wd pl) → d ∉ l := fun l hl z => tupSR Z3 hd3 (inS (hl _ z))
      walk_at "kk"
      refine ⟨st, wd, pl, rm, en, blks L, kd, n, rfl, S3, e0, e1, by omega, by omega, fun z d2 q2 => ?_, fun z g hg => ⟨fun hge H4 S4 f4 => ?_, fun hge H4 S4 f4 d2 q2 => ?_⟩⟩
      · rcases hc with ⟨-, rfl, rfl⟩ | ⟨h1, -⟩ | ⟨h1, -⟩
        case inr.inl => omega
        case inr.inr => omega
        walk_at "kk"
        intro x3 q3
        walk_at "kk"
        intro t q4
        exact ⟨(fr3.mono (by simp)).trans ((Fr.new q2).trans (Fr.new q4)), ((Fr.new (l := []) q2).trans (Fr.new q4)) d _ (by simp) hd3, upd_same, (S3.fr0 (Fr.new q2)).fr0 (Fr.new q4)⟩
      · have eg : g = f0 := hg.uniq hf
        subst eg
        rcases hc with ⟨h1, -⟩ | ⟨-, h1, -⟩ | ⟨-, -, rfl, rfl⟩
        · omega
        · omega
        walk_at "kk"
        intro t q3
        have hd4 := f4 _ _ (of3' _ fun _ h => h) hd3
        refine ⟨(fr3.mono (by simp)).trans (f4.trans (Fr.new q3)), by rw [upd_ne (ne_of_none hd4 q3)]; exact hd4, upd_same, z, S4.fr0 (Fr.new q3)⟩
      · have eg : g = f0 := hg.uniq hf
        subst eg
        rcases hc with ⟨h1, -⟩ | ⟨-, -, rfl, rfl⟩ | ⟨-, h1, -⟩
        · omega
        case inr.inr => omega
        walk_at "kk"
        intro x3 q3
        walk_at "kk"
        intro t q4
        exact ⟨(fr3.mono (by simp)).trans ((f4.mono (by simp)).trans ((Fr.new q2).trans (Fr.new q4))), ((Fr.new (l := []) q2).trans (Fr.new q4)) d _ (by simp) (f4 _ _ (of3' _ (by simp)) hd3), upd_same, (S4.fr0 (Fr.new q2)).fr0 (Fr.new q4)⟩
    rintro σ H4 ⟨t, rfl, f4, hd4, ht4, hc4⟩
    have R4 := Z.R.fr f4 fun x hx m => Z.sep x m hx
    have hr4 := R4.hd
    refine ⟨fun σ H' => ∃ L', σ = [some (.ref st), some (.ref rw), some (.ref lm), some (.int kd), some (.int n), some (.int f0), some (.int (3 + n)), some (.ref d), some (.ref t), none] ∧ H' d = some (.tup [.str tag, .int val]) ∧ H' t = some (.tup [.str tag, .int val]) ∧ SR a.Store H' st wd pl rw rm en L' ∧ ((flat (blks L')).length : Int) ≤ rm ∧ Stp (fpSR st wd pl rw L) (fpSR st wd pl rw L') H H', ?_, ?_⟩
    · have fS : KW.Fr (fpSR st wd pl rw L) H H4 := f4.mono fun x hx => inS hx
      rcases hc4 with ⟨rfl, rfl, z, S4⟩ | ⟨nt, S4⟩
      · walk_at "kk"
        have ndr : d ≠ rw := fun z => by rw [z, hr4] at hd4; cases hd4
        have ntr : t ≠ rw := fun z => by rw [z, hr4] at ht4; cases ht4
        intro p1 q1
        have f5 : KW.Fr [] H4 (upd H4 p1 (.lst [.int 0])) := Fr.new q1
        have g5 : upd H4 p1 (.lst [.int 0]) p1 = some (.lst [.int 0]) := upd_same
        revert f5 g5
        generalize upd H4 p1 (.lst [.int 0]) = H5
        intro f5 g5
        walk_at "kk"
        intro s1 q2
        have er : (List.replicate ((n : Int).toNat) [V.int 0]).flatten = (List.replicate n (0 : Int)).map V.int := by
          rw [Int.toNat_natCast, List.map_replicate, List.flatten_replicate_singleton]
        rw [er]
        refine ⟨by decide, fun e1 q3 => ?_⟩
        have f6 : KW.Fr [] H5 (upd H5 s1 (.lst ((List.replicate n (0 : Int)).map V.int))) := Fr.new q2
        have f7 : KW.Fr [] (upd H5 s1 (.lst ((List.replicate n (0 : Int)).map V.int))) (upd (upd H5 s1 (.lst ((List.replicate n (0 : Int)).map V.int))) e1 (.lst [.int val, .int kd, .ref s1, .bl true])) := Fr.new q3
        have f47 := f5.trans (f6.trans f7)
        have n3 : e1 ≠ s1 := Ne.symm (ne_of_none upd_same q3)
        have g1 : upd (upd H5 s1 (.lst ((List.replicate n (0 : Int)).map V.int))) e1 (.lst [.int val, .int kd, .ref s1, .bl true]) e1 = some (.lst [.int val, .int kd, .ref s1, .bl true]) := upd_same
        have g2 : upd (upd H5 s1 (.lst ((List.replicate n (0 : Int)).map V.int))) e1 (.lst [.int val, .int kd, .ref s1, .bl true]) s1 = some (.lst ((List.replicate n (0 : Int)).map V.int)) := by rw [upd_ne (Ne.symm n3), upd_same]
        have q3' : H5 e1 = none := by walk_at "nn"
        revert f47 g1 g2
        clear f6 f7
        generalize upd (upd H5 s1 (.lst ((List.replicate n (0 : Int)).map V.int))) e1 (.lst [.int val, .int kd, .ref s1, .bl true]) = H7
        intro f47 g1 g2
        have back : ∀ x, H5 x = none → H4 x = none := fun x hx => by
          cases e : H4 x with
          | none => rfl
          | some o => have := f5 _ _ (by simp) e; rw [hx] at this; cases this
        have b1 := back _ q2
        have b2 := back _ q3'
        have R7 := R4.fr0 f47
        have S7 := S4.fr0 f47
        have A7 := Row.app (r := ⟨e1, s1, ⟨val, kd, List.replicate n 0, true⟩⟩) R7 g1 g2 (notin_of b2 R4.there) (notin_of b1 R4.there) n3
        rw [List.map_append, List.map_cons, List.map_nil] at A7
        refine app_l R7.hd (lt_line (by rw [List.length_map]; omega)) ?_
        have nw : ∀ x ∈ fpS st wd pl, x ≠ rw := fun x hx z => Z.sep x hx (z ▸ rw_fpR)
        refine ⟨by rw [upd_ne ndr]; exact f47 _ _ (by simp) hd4, by rw [upd_ne ntr]; exact f47 _ _ (by simp) ht4, L ++ [(⟨e1, s1, ⟨val, kd, List.replicate n 0, true⟩⟩ : RE)], ⟨?_, A7, ?_⟩, ?_, (Stp.of fS).trans ⟨(f47.mono (by simp)).trans (Fr.upd (inR rw_fpR)), ?_⟩⟩
        · rw [show blks (L ++ [⟨e1, s1, ⟨val, kd, List.replicate n 0, true⟩⟩]) = blks L ++ [⟨val, kd, List.replicate n 0, true⟩] by simp [blks]]
          exact S7.fr (l := [rw]) (Fr.upd (by simp)) (by simp [nw st (by simp)]) (by simp [nw wd (by simp)]) (by simp [nw pl (by simp)])
        · intro x hx m
          rcases mem_fpR.mp m with rfl | ⟨j, u, hu, e⟩
          · exact nw _ hx rfl
          · obtain ⟨o, ho⟩ := S4.there x hx
            rcases getA hu with ⟨q, _⟩ | ⟨_, rfl⟩
            · exact Z.sep x hx (mem_fpR.mpr (.inr ⟨j, u, q, e⟩))
            · rcases e with rfl | rfl
              · rw [b2] at ho; cases ho
              · rw [b1] at ho; cases ho
        · rw [show blks (L ++ [⟨e1, s1, ⟨val, kd, List.replicate n 0, true⟩⟩]) = blks L ++ [⟨val, kd, List.replicate n 0, true⟩] by simp [blks], flat_len_app]
          simp
          omega
        · intro x hx
          rcases List.mem_append.mp hx with m | m
          · exact .inl (inS m)
          · rcases mem_fpR.mp m with rfl | ⟨j, u, hu, e⟩
            · exact .inl (inR rw_fpR)
            · rcases getA hu with ⟨q, _⟩ | ⟨_, rfl⟩
              · exact .inl (inR (mem_fpR.mpr (.inr ⟨j, u, q, e⟩)))
              · rcases e with rfl | rfl
                · exact .inr b2
                · exact .inr b1
      · walk_at "kk"
        rw [if_neg nt]
        exact ⟨hd4, ht4, L, ⟨S4, R4, Z.sep⟩, hfl, Stp.of fS⟩
    rintro σ H5 ⟨L', rfl, hd5, ht5, Z5, l5, st5⟩
    walk_at "kk"
    refine is_s ?_
    rw [decide_eq_true rfl]
    exact h _ _ Z5 l5 st5
end
end K02

set_option Elab.async false
set_option linter.all false
set_option maxRecDepth 100000
set_option maxHeartbeats 4000000
/-! Kw4: own defs called within an except suite -/
namespace KW
open PySem PySem.Spec PyProof.Rows L2
structure CalH (P : Program) (w : World) (K : Frag) (mg : Str → Option Value) (base : Heap) (k : Nat) (x : Str) (sp : Sp) : Prop where
  ex : ∃ (f : Addr) (fd : FuncData) (ps : List Str), mg x = some (.ref f) ∧ PySem.W.keepIn K (.ref f) = true ∧ Binds K fd ps [] ∧ L2H.FnH P w K mg base (L2N.CX P w) k f fd ps sp
section
variable {P : Program} {w : World} {K : Frag} {mg : Str → Option Value} {base : Heap}
theorem DefAt.okH {x qual : Str} {st : Stmt} {N ps : List Str} {k : Nat} {sp : Sp} (D : DefAt K mg x qual st ps) (S : FnScope N ps (defScope st)) (len : ∀ vs H Q E, sp vs H Q E → vs.length = ps.length)
    (hbody : ∀ (f : Addr) (cdv : Value) (A : Around) (outer : List Env) (s : Shared) (H : Hp) (vs : List V) (Q : VK) (E : XK) (pp : Addr × Obj), L2H.RoomH k (A.deeper (envOfC qual (defScope st) s.heap.objs.size f cdv)) → sp vs H Q E →
      ∃ t, PSs (L2H.cxH (L2N.CX P w) P w K mg base N qual (defScope st) f cdv A outer s H E pp) (defBody st) t ∧ t { nx := fun _ H' => Q .non H', rt := Q } (start N vs) H) : CalH P w K mg base (k + 1) x sp := by
  obtain ⟨f, fd, hm, F, hb⟩ := D.ex
  refine ⟨f, fd, ps, hm, F.kp, hb, ?_⟩
  obtain ⟨oc, od, kV, doc, pm, an, cdv, ct, osl, rfl, lk, hcd⟩ := F.ex
  exact L2H.fn_ofH lk hcd S len fun A outer s H vs Q E pp _ hr hsp => hbody f cdv A outer s H vs Q E pp hr hsp
end
section
variable {X : Cx} {k : Nat} {x : Str} {sp : Sp} {p pos : Pos} {e : Expr} {es : List Expr} {t : TA}
theorem kcH {a : Addr} {oe : Obj} {cls : Value} {d : Option Addr} {pn : List (Addr × Obj)} (hz : L2N.Zn cls d oe) (hf : ∃ vs, oe.data = .fields vs) (c : CalH X.prog X.w X.K X.mg X.base k x sp) (hr : Room k X.A) (ha : PA (X.suite a ((a, oe) :: pn)) (e :: es) t)
    (hg : Gl X x := by rfl) (hdb : (x == ("__debug__" : Str)) = false := by decide)
    (he : starEach (e :: es) X.env = (false, eval e X.env) :: starEach es X.env := by rfl) (hpl : (backTo pos (starEach es X.env)).any (·.1) = false := by rfl) : PE (X.suite a ((a, oe) :: pn)) (.Call (.Name x p) (e :: es) [] pos) (uCall sp t) := by
  obtain ⟨f, fd, ps, hm, hk, hb, F⟩ := c.ex
  obtain ⟨vs, hv⟩ := hf
  exact L2H.pe_callH (X := X.suite a ((a, oe) :: pn)) (E := fun _ => E0) F ⟨hr.dp, hr.un⟩ ⟨(a, oe), ⟨rfl, vs, hv, hz.2.2 vs hv⟩, List.mem_cons_self ..⟩ hg hm hk hb (fun _ => passAt0) ha hdb he hpl
end
end KW
namespace L2H
open PySem PySem.Spec PyProof.Rows L2
theorem RoomH.units {k : Nat} {A : Around} (r : RoomH k A) : A.units + 64 < cLine := by have := r.un; omega
end L2H

set_option Elab.async false
set_option linter.all false
set_option maxRecDepth 100000
set_option maxHeartbeats 4000000
namespace K02
open PySem PySem.Spec PyProof.Rows L2 KW ST
local macro_rules | `(tactic| walk_at "kw") => `(tactic| simp only [tSeq, tNext, tIfS, tTest, tAnd, tOr, tNot, tAndV, tOrV, tNotV, tIf, tChain, tOp, tUn, tC, tAsg, gName, gSub, gCons, gNil, tRet, tRetN, tDrop, tCons, tNil, tCB, tAug, tSl, tPart, tNoPart, tLst, tTup, tBM, tBM0, uTest, uFor, iRng1, iRng2, iList, uCall, List.map_cons, List.map_nil, List.length_cons, List.length_nil, List.cons_append, List.nil_append, List.replicate, Nat.zero_add, Nat.reduceAdd, Nat.reduceSub, List.getElem?_cons_zero, List.getElem?_cons_succ, List.set_cons_zero, List.set_cons_succ, V.bl.injEq, V.int.injEq, V.str.injEq, V.ref.injEq, V.ty.injEq, List.cons.injEq, and_true, true_and, exists_eq_left', exists_eq_right, exists_eq_left, exists_and_left, exists_and_right, decide_eq_true_eq, Bool.not_eq_true', decide_eq_false_iff_not, Bool.false_eq_true, if_true, if_false, ite_true, ite_false, Bool.not_true, Bool.not_false, reduceCtorEq, decide_true, decide_false, Bool.not_not, isK_int_int, isK_int_bool, isK_int_str, isK_int_list, isK_int_tuple, isK_bool_int, isK_bool_bool, isK_bool_str, isK_str_str, isK_str_int, isK_str_bool, isK_str_tuple, isK_str_list, isK_list_list, isK_list_tuple, isK_tuple_tuple, isK_tuple_list, isOk_int_int, isOk_int_bool, isOk_int_str, isOk_int_list, isOk_int_tuple, isOk_bool_int, isOk_bool_bool, isOk_bool_str, isOk_str_str, isOk_str_int, isOk_str_bool, isOk_str_tuple, isOk_str_list, isOk_list_list, isOk_list_tuple, isOk_tuple_tuple, isOk_tuple_list, isK_dict_dict, isOk_dict_dict, isK_none_int, isK_none_bool, isOk_none_int, isOk_none_bool, tyV, S_inj, S_cat, L2.start, Nat.reduceSub, List.replicate_succ, List.replicate_zero, and_assoc, List.append_nil, Nat.reduceEqDiff, Option.some.injEq, Int.natCast_inj, upd_upd, Int.reducePow, Int.reduceToNat, Int.reduceMul, Int.reduceAdd, Int.reduceSub, Int.reduceLT, Int.reduceLE, Int.reduceNeg, Int.reduceDiv, Int.reduceMod, Nat.reducePow, Nat.reduceMul, S_len, List.length_append, List.length_map, List.length_range, not_true_eq_false, not_false_eq_true, ne_eq, uAdd_e1, uAdd_e2, uSub_e1, uMod_e1, uDiv_e1, uPow_e1, uShl_e1, uNeg_e1, uIAdd_e1, uIAdd_e2, uIAdd_e3, uISub_e1, uLt_e1, uLt_e2, uLe_e1, uGt_e1, uGe_e1, uEq_e1, uEq_e2, uEq_e3, uEq_e4, uEq_e5, uEq_e6, uEq_e7, uEq_e8, uEq_e9, uEq_e10, uEq_e11, uNe_e1, uNe_e2, uNe_e3, uNe_e4, uNe_e5, uNe_e6, uNe_e7, uNe_e8, uNe_e9, uNe_e10, uNe_e11, uIs_e1, uIs_e2, uIs_e3, uIs_e4, uIs_e5, uIs_e6, uNotIs_e1, uNotIs_e2, uNotIs_e3, uNotIs_e4, uNotIs_e5, uNotIs_e6, uIn_e1, uIn_e2, uIn_e3, uIn_e4, uNotIn_e1, uNotIn_e2, uNotIn_e3, uNotIn_e4, uTru_e1, uTru_e2, uTru_e3, uTru_e4, uIx_e2, uSl_e2, uLen_e1, uAbs_e1, uInt_e1, uInt_e2, uMin2_e1, uIsi_e1, uIsi_e2, uIsi_e3, uIsi_e4, cx_K, uVar_0, uVar_n, uFld, uSFld, uMet, uMake, tDG, tDI, tDNI, tDP, tDD, uMk, uRaise, uDelSl, tCallS, L2.WE, uStr_e1, uStr_e2, uMul2_e1, uMul2_e2, okS_i, okS_s, List.zip_cons_cons, List.zip_nil_left, List.drop_zero, List.drop_succ_cons, List.drop_nil, putF_nil, putF_cons, eq_self, tDNewK, tB, Option.isSome_some, Option.isSome_none, false_and, false_or, or_false, exists_false, Int.zero_add, uLc, wipe, tYes, isEmpty_app, List.isEmpty_cons, List.isEmpty_nil, List.isEmpty_map, Bool.and_false, Bool.and_true, iRev, K02.lit_0, K02.lit_2, K02.fe_room_entries, K02.fe_room_words, K02.fe_room__places, K02.fe_room__least, K02.fe_entries_room, K02.fe_entries_words, K02.fe_entries__places, K02.fe_entries__least, K02.fe_words_room, K02.fe_words_entries, K02.fe_words__places, K02.fe_words__least, K02.fe__places_room, K02.fe__places_entries, K02.fe__places_words, K02.fe__places__least, K02.fe__least_room, K02.fe__least_entries, K02.fe__least_words, K02.fe__least__places, K02.fl_room_0, K02.lf_room_0, K02.fl_room_2, K02.lf_room_2, K02.N_Store_init, K02.N_Store_used, K02.N_Store_exists, K02.N_Store_numbers, K02.N_Store_free_number, K02.N_Store_allocate, K02.N_Store_size, K02.N_Store_kind, K02.N_Store_set_kind, K02.N_Store_get, K02.N_Store_put, K02.N_Store_slots, K02.N_Store_drop, K02.N_Store_close_up, K02.N_Store_snapshot, K02.N_Store_restore, K02.N_Store_exchange, K02.N__law_number, K02.N__law_deeds, K02.N__law_word, K02.N__law_is, K02.N__law_same, K02.N__law_flat, K02.N__law_living, K02.N__law_free, K02.N__law_copy, K02.N__law_allocated, K02.N__law_changed, K02.N__law_agrees, K02.N__law_deed, K02.N_law])
local macro_rules | `(tactic| walk_at "nn") => `(tactic| first | assumption | exact ne_un (by assumption) | exact ne_un (ne_un (by assumption)) | exact ne_un (ne_un (ne_un (by assumption))) | exact ne_un (ne_un (ne_un (ne_un (by assumption)))))
local macro_rules | `(tactic| walk_at "ne") => `(tactic| first | assumption | (apply Ne.symm; assumption) | exact ne_ud (by assumption) | exact Ne.symm (ne_ud (by assumption)) | exact ne_ud (ne_un (by assumption)) | exact Ne.symm (ne_ud (ne_un (by assumption))) | exact ne_ud (ne_un (ne_un (by assumption))) | exact Ne.symm (ne_ud (ne_un (ne_un (by assumption)))) | exact ne_m (by assumption) (by assumption) | exact Ne.symm (ne_m (by assumption) (by assumption)) | exact ne_n (by assumption) (by walk_at "nn") | exact Ne.symm (ne_n (by assumption) (by walk_at "nn")))
local macro_rules | `(tactic| walk_at "hp") => `(tactic| first | assumption | exact upd_same | (refine Eq.trans (upd_ne ?_) ?_; (focus walk_at "ne"); walk_at "hp"))
local macro_rules | `(tactic| walk_at "sc") => `(tactic| first | (with_reducible assumption) | omega | exact le_line (by (try simp only [List.length_map, List.length_append, List.length_cons, List.length_nil, S_len]); omega) | exact div_s (by omega) | exact mul_r (by omega) | exact mul_l (by omega) | exact pow_s (by omega) | exact mul2_r (by omega) | exact mul2_l (by omega) | exact small4300 (by omega) | exact lt_line (by (try simp only [List.length_map, List.length_append, List.length_cons, List.length_nil, S_len]); omega) | exact ⟨_, by assumption⟩ | (guard_target =~ Exists _; exact ⟨_, .of (by walk_at "hp")⟩) | (guard_target =~ _ ∨ _; exact .inl ⟨_, by assumption⟩) | (guard_target =~ _ ∨ _; exact .inl ⟨_, .of (by walk_at "hp")⟩) | (guard_target =~ _ ∨ _; exact .inr (.inr (.inl ⟨rfl, .inl ⟨_, by walk_at "hp"⟩⟩))) | decide)
local macro_rules | `(tactic| walk_at "kr") => `(tactic| first | (guard_target =~ _ ∧ _; first | refine And.intro (by walk_at "sc") ?_) | (guard_target =~ KW.uIx _ _ _ _ _; first | refine ix_l (by walk_at "hp") (by first | walk_at "hv" | rfl) ?_ | refine ix_t (by walk_at "hp") (by first | walk_at "hv" | rfl) ?_ | refine ix_sl (by assumption) (by walk_at "hv") ?_) | (guard_target =~ KW.uLen _ _ _ _; first | refine len_l (by walk_at "hp") ?_ | refine len_t (by walk_at "hp") ?_ | refine len_sl (by assumption) ?_) | (guard_target =~ KW.uSet _ _ _ _ _; first | refine set_l (by walk_at "hp") (by first | walk_at "hv" | rfl) ?_) | (guard_target =~ L2.gTup _ _ _ _ _ _ _; first | refine tup_l (by walk_at "hp") (by rfl) ?_) | (guard_target =~ KW.uGet _ _ _ _ _; first | refine get_l (by walk_at "hp") (by walk_at "hc") (by decide) (by rfl) ?_) | (guard_target =~ KW.uPut _ _ _ _ _ _; first | refine put_l (by walk_at "hp") (by walk_at "hc") (by decide) (by simp) ?_) | (guard_target =~ KW.uMet.uMt _ _ _ _ _ _ _ _ _; first | refine met_l (by walk_at "hp") (by rfl) ?_) | (guard_target =~ KW.uMet.uMt _ _ _ _ _ _ _ _ _; first | refine ST.met_s (by assumption) (by decide) ?_) | (guard_target =~ ST.spExists _ _ _ _ _; first | refine ST.exists_s (by assumption) ?_) | (guard_target =~ ST.spUsed _ _ _ _ _; first | refine ST.used_s (by assumption) ?_) | (guard_target =~ KW.uGet _ _ _ _ _; first | refine ST.words_s (by assumption) (by walk_at "hc") (by decide) ?_) | (guard_target =~ KW.uDIn _ _ _ _; first | refine din_i (by walk_at "hp") ?_ | refine din_s (by walk_at "hp") ?_) | (guard_target =~ KW.uDGet _ _ _ _; first | refine dget_i (by walk_at "hp") (by walk_at "hv") ?_ | refine dget_s (by walk_at "hp") (by walk_at "hv") ?_) | (guard_target =~ KW.uDPut _ _ _ _ _; first | refine dput_i (by walk_at "hp") (by walk_at "sc") ?_ | refine dput_s (by walk_at "hp") (by walk_at "sc") ?_) | (guard_target =~ KW.uDDel _ _ _ _; first | refine ddel_i (by walk_at "hp") (by walk_at "hv") ?_ | refine ddel_s (by walk_at "hp") (by walk_at "hv") ?_) | (guard_target =~ KW.uMul2 _ _ _ _; first | refine rep_l (by walk_at "hp") (by walk_at "sc") (by walk_at "sc") (by walk_at "sc") ?_) | (guard_target =~ L2.rAppend _ _ _ _; first | refine app_l (by walk_at "hp") (by walk_at "sc") ?_) | (guard_target =~ L2.rPop _ _ _ _; first | refine pop_l (by walk_at "hp") (by walk_at "hv") ?_ | refine pops_l (by walk_at "hp") ?_) | (guard_target =~ L2.rClear _ _ _ _; first | refine clr_l (by walk_at "hp") ?_) | (guard_target =~ L2.rReverse _ _ _ _; first | refine rev_l (by walk_at "hp") ?_) | (guard_target =~ L2.rExtend _ _ _ _; first | refine ext_l (by walk_at "hp") (by walk_at "hp") (by walk_at "sc") ?_) | (guard_target =~ KW.uAdd _ _ _ _ _; first | refine ucat_l (by walk_at "hp") (by walk_at "hp") (by walk_at "sc") ?_) | (guard_target =~ KW.uSl _ _ _ _ _ _; first | refine usl_l (by walk_at "hp") ?_) | (guard_target =~ KW.uTru _ _ _ _; first | refine tru_l (by walk_at "hp") ?_ | refine tru_t (by walk_at "hp") ?_ | refine tru_d (by walk_at "hp") ?_ | refine tru_sl (by assumption) ?_) | (guard_target =~ L2.rIndex _ _ _ _ _; first | refine idx_s (by walk_at "hp") (by assumption) ?_ | refine idx_i (by walk_at "hp") (by assumption) ?_) | (guard_target =~ L2.rIn _ _ _ _ _ _; first | refine in_s (by walk_at "hp") ?_ | refine nin_s (by walk_at "hp") ?_ | refine in_i (by walk_at "hp") ?_ | refine nin_i (by walk_at "hp") ?_) | (guard_target =~ KW.uIsi _ _ _ _; first | refine isi_l (by walk_at "hp") (by decide +kernel) ?_ | refine isi_t (by walk_at "hp") (by decide +kernel) ?_ | refine isi_d (by walk_at "hp") (by decide +kernel) ?_) | (guard_target =~ KW.uList _ _ _ _; first | refine list_l (by walk_at "hp") ?_ | refine list_t (by walk_at "hp") ?_ | refine list_sl (by assumption) ?_) | (guard_target =~ KW.uDict _ _ _; first | refine dict_d (by walk_at "hp") ?_) | (guard_target =~ KW.uSorted _ _ _ _; first | refine srt_l (by walk_at "hp") ?_) | (guard_target =~ KW.uSum _ _ _ _; first | refine sum_l (by walk_at "hp") ?_) | (guard_target =~ KW.uDelC _ _ _ _; first | refine dels_l (by walk_at "hp") (by walk_at "sc") ?_) | (guard_target =~ L2.wAs _ _ _ _ _ _ _ _ _ _; first | refine as_yes (by walk_at "hx") ?_ | refine as_no (by walk_at "hx") ?_) | (guard_target =~ KW.uEf _ _ _ _ _ _ _ _ _; first | refine ef_l (by walk_at "he") (by decide) (by rfl) (by walk_at "hp") (by rfl) ?_) | (guard_target =~ KW.uIsE _ _ _ _ _ _ _; first | refine isE_r (by walk_at "he") (by walk_at "hp") (by walk_at "hk") ?_ | refine isE_t (by walk_at "he") (by walk_at "hp") (by walk_at "hk") ?_))
local macro_rules | `(tactic| walk_at "hv") => `(tactic| first | assumption)
local macro_rules | `(tactic| walk_at "kk") => `(tactic| repeat (first | walk_at "kw" | walk_at "kr"))
local macro_rules | `(tactic| walk_at "hc") => `(tactic| first | exact K02.Txt.c_Store (by assumption))
local macro_rules | `(tactic| walk_at "he") => `(tactic| first | exact K02.Txt.e_NoRoom (by assumption) | exact K02.Txt.e_NoNumber (by assumption))
local macro_rules | `(tactic| walk_at "hx") => `(tactic| first | exact K02.Txt.x_NoRoom_KilnwardenError (by assumption) | exact K02.Txt.x_NoRoom_NoNumber (by assumption) | exact K02.Txt.x_NoNumber_KilnwardenError (by assumption) | exact K02.Txt.x_NoNumber_NoNumber (by assumption))
local macro_rules | `(tactic| walk_at "hk") => `(tactic| first | exact K02.Txt.i_NoRoom_NoNumber (by assumption) | exact K02.Txt.i_NoRoom_NoRoom (by assumption) | exact K02.Txt.i_NoNumber_NoNumber (by assumption) | exact K02.Txt.i_NoNumber_NoRoom (by assumption))

section
variable {P : Program} {w : World} {K : Frag} {mg : Str → Option Value} {base : Heap} {a : Ads}
theorem okH__law_is (T : Txt P w K mg a) : CalH P w K mg base 1 "_law_is" spIs := by
  refine T.d__law_is.okH sc__law_is (fun vs H Q E h => ?_) (fun f cdv A outer s H vs Q E pp hr h => ⟨_, (pss_one (ps_ret (pe_and (pe_callB c_isi (by rfl) T.n_isinstance (by decide +kernel) (pa_cons (kv 0) (pa_cons (pe_bltn (v := .ty "int") (by rfl) T.n_int (by decide +kernel) rfl) pa_nil))) (pe_and (pe_not (pe_callB c_isi (by rfl) T.n_isinstance (by decide +kernel) (pa_cons (kv 0) (pa_cons (pe_bltn (v := .ty "bool") (by rfl) T.n_bool (by decide +kernel) rfl) pa_nil)))) (pe_one (pe_cmpR (o_eq hr.units) (kv 0) (kv 1) (nomark _))))))), ?_⟩)
  · obtain ⟨_, _, rfl, _⟩ := h; rfl
  · obtain ⟨b, c, rfl, ⟨x, y, rfl, rfl, h⟩⟩ := h
    walk_at "kk"
    exact h
theorem ok__law_agrees (T : Txt P w K mg a) : Cal P w K mg base 3 "_law_agrees" (spAgr2 a.Store) := by
  have C__law_is := ok__law_is (P := P) (w := w) (base := base) T
  have CH__law_is := okH__law_is (P := P) (w := w) (base := base) T
  have C__law_same := ok__law_same (P := P) (w := w) (base := base) T
  have C__law_free := ok__law_free (P := P) (w := w) (base := base) T
  have C__law_flat := ok__law_flat (P := P) (w := w) (base := base) T
  have C__law_living := ok__law_living (P := P) (w := w) (base := base) T
  have M_Store_used := ok_Store_used (P := P) (w := w) (base := base) T
  have M_Store_numbers := ok_Store_numbers (P := P) (w := w) (base := base) T
  have M_Store_exists := ok_Store_exists (P := P) (w := w) (base := base) T
  have M_Store_free_number := ok_Store_free_number (P := P) (w := w) (base := base) T
  have M_Store_kind := ok_Store_kind (P := P) (w := w) (base := base) T
  have M_Store_get := ok_Store_get (P := P) (w := w) (base := base) T
  have M_Store_slots := ok_Store_slots (P := P) (w := w) (base := base) T
  have M_Store_size := ok_Store_size (P := P) (w := w) (base := base) T
  refine T.d__law_agrees.ok sc__law_agrees (fun vs H Q E h => ?_) (fun f cdv A outer s H vs Q E hr h => ⟨_, (pss_cons (ps_set (i := 4) sc__law_agrees.nd rfl (Or.inl rfl) (kc C__law_flat (hr.mono (by decide)) (pa_cons (kv 1) pa_nil)))
      (pss_cons (ps_set (i := 5) sc__law_agrees.nd rfl (Or.inl rfl) (kc C__law_living (hr.mono (by decide)) (pa_cons (kv 1) pa_nil)))
      (pss_cons (ps_if (PW.pt (pw_or (pt_not (kt (kc C__law_same (hr.mono (by decide)) (pa_cons (k_fld (kv 0) rfl) (pa_cons (kv 4) pa_nil))))) (pw_or1 (pt_not (kt (kc C__law_is (hr.mono (by decide)) (pa_cons (km0 M_Store_used (hr.mono (by decide)) (kv 0)) (pa_cons (pe_callB c_len (by rfl) T.n_len (by decide +kernel) (pa_cons (kv 4) pa_nil)) pa_nil))))))))
      (pss_one (ps_ret pe_bl))
      pss_nil)
      (C8.pss_cut (ps_if (pt_not (kt (kc C__law_same (hr.mono (by decide)) (pa_cons (km0 M_Store_numbers (hr.mono (by decide)) (kv 0)) (pa_cons (pe_callB (c_sorted rfl) (by rfl) T.n_sorted (by decide +kernel) (pa_cons (k_lc (own := [("k", 6)]) (g := gName 6) (by rfl) sc__law_agrees.nd (pi_list (kv 5)) (blkOk_by (own := [("k", 6)]) (N := ["store", "row", "entries", "x", "flat", "living", "k", "free", "e", "one", "number", "contents", "at"]) (sc := defScope s__law_agrees) (by decide +kernel)) (fun _ _ _ _ _ => pg_name (i := 6) sc__law_agrees.nd rfl (Or.inl rfl)) (fun _ _ _ _ _ => pts_nil) (fun _ _ _ _ _ => by exact (pe_ix (o_ixK K) (pe_ix (o_ixK K) (kv 1) (kv 6) (fun _ _ => rfl)) pe_int (fun _ _ => rfl)))) pa_nil)) pa_nil)))))
      (pss_one (ps_ret pe_bl))
      pss_nil)
      (pss_cons (ps_set (i := 7) sc__law_agrees.nd rfl (Or.inl rfl) (kc C__law_free (hr.mono (by decide)) (pa_cons (kv 1) pa_nil)))
      (pss_cons (ps_if (pt_cmpR o_isnot (km M_Store_exists (hr.mono (by decide)) (kv 0) (pa_cons (kv 7) pa_nil)) pe_bl (nomark _))
      (pss_one (ps_ret pe_bl))
      pss_nil)
      (C8.pss_cut (L2N.ps_try_as (X := (cxOf (L2N.CX P w) P w K mg base N__law_agrees "_law_agrees" (defScope s__law_agrees) f cdv A outer s H E)) (i := 8) rfl rfl sc__law_agrees.nd rfl rfl ⟨by rfl, by decide, .inl T.g_NoNumber⟩ (L2N.takes_of rfl rfl rfl rfl) (fun W pn xe tk po => by
        have hbd : PSs (Cx.tr (cxOf (L2N.CX P w) P w K mg base N__law_agrees "_law_agrees" (defScope s__law_agrees) f cdv A outer s H E) pn xe) (tryB (nthS (defBody s__law_agrees) 6)) _ := (pss_one (ps_if (PW.pt (pw_or (pt_not (kt (kc C__law_is (hr.mono (by decide)) (pa_cons (kmX0 tk M_Store_free_number (hr.mono (by decide)) (kv 0)) (pa_cons (kv 7) pa_nil))))) (pw_or1 (pt_cmpR o_ge (kv 7) (kv 2) (nomark _)))))
      (pss_one (ps_ret pe_bl))
      pss_nil))
        dsimp only [Cx.tr] at hbd
        exact hbd)
      (fun ea oe cls d pn hzn hf => by
        have hz := hzn.zc
        have hsu : PSs (Cx.suite (cxOf (L2N.CX P w) P w K mg base N__law_agrees "_law_agrees" (defScope s__law_agrees) f cdv A outer s H E) ea ((ea, oe) :: pn)) (suB (nthS (defBody s__law_agrees) 6)) _ := (pss_one (ps_if (PW.pt (pw_or (pt_not (kt (kcH (X := (cxOf (L2N.CX P w) P w K mg base N__law_agrees "_law_agrees" (defScope s__law_agrees) f cdv A outer s H E)) hzn hf CH__law_is (hr.mono (by decide)) (pa_cons (k_ef 8 hz hf) (pa_cons (kv 2) pa_nil))))) (pw_or1 (pt_cmpR o_lt (kv 7) (kv 2) (nomark _)))))
      (pss_one (ps_ret pe_bl))
      pss_nil))
        dsimp only [Cx.suite] at hsu
        exact hsu))
      (pss_cons (ps_if (pt_not (kt (kv 5)))
      (pss_one (ps_ret pe_bl))
      pss_nil)
      (pss_cons (ps_set (i := 9) sc__law_agrees.nd rfl (Or.inl rfl) (pe_ix o_ix (kv 1) (pe_ix o_ix (kv 5) (pe_op o_mod (pe_callTy c_int (by rfl) T.n_int (by decide +kernel) (pa_cons (kv 3) pa_nil)) (pe_callB c_len (by rfl) T.n_len (by decide +kernel) (pa_cons (kv 5) pa_nil))) (fun _ _ => rfl)) (fun _ _ => rfl)))
      (pss_cons (ps_set (i := 10) sc__law_agrees.nd rfl (Or.inr rfl) (pe_ix o_ix (kv 9) pe_int (fun _ _ => rfl)))
      (pss_cons (ps_if (PW.pt (pw_or (pt_cmpR o_isnot (km M_Store_exists (hr.mono (by decide)) (kv 0) (pa_cons (kv 10) pa_nil)) pe_bl (nomark _)) (pw_or1 (pt_not (kt (kc C__law_is (hr.mono (by decide)) (pa_cons (km M_Store_kind (hr.mono (by decide)) (kv 0) (pa_cons (kv 10) pa_nil)) (pa_cons (pe_ix o_ix (kv 9) pe_int (fun _ _ => rfl)) pa_nil))))))))
      (pss_one (ps_ret pe_bl))
      pss_nil)
      (pss_cons (k_setLc (i := 11) (own := [("at", 12)]) (g := gName 12) (by rfl) sc__law_agrees.nd rfl rfl (sw_true rfl rfl rfl (by decide +kernel)) (pi_range1 (by rfl) T.n_range (pa_cons (pe_callB c_len (by rfl) T.n_len (by decide +kernel) (pa_cons (pe_ix o_ix (kv 9) pe_int (fun _ _ => rfl)) pa_nil)) pa_nil)) (blkOk_by (own := [("at", 12)]) (N := ["store", "row", "entries", "x", "flat", "living", "k", "free", "e", "one", "number", "contents", "at"]) (sc := defScope s__law_agrees) (by decide +kernel)) (fun _ _ _ _ _ => pg_name (i := 12) sc__law_agrees.nd rfl (Or.inl rfl)) (fun _ _ _ _ _ => pts_nil) (fun _ _ _ _ _ => by exact (km M_Store_get (hr.mono (by decide)) (kv 0) (pa_cons (kv 10) (pa_cons (kv 12) pa_nil)))))
      (pss_one (ps_ret (pe_and (kc C__law_same (hr.mono (by decide)) (pa_cons (kv 11) (pa_cons (pe_ix o_ix (kv 9) pe_int (fun _ _ => rfl)) pa_nil))) (pe_and (kc C__law_same (hr.mono (by decide)) (pa_cons (km M_Store_slots (hr.mono (by decide)) (kv 0) (pa_cons (kv 10) pa_nil)) (pa_cons (pe_ix o_ix (kv 9) pe_int (fun _ _ => rfl)) pa_nil))) (pe_one (kc C__law_is (hr.mono (by decide)) (pa_cons (km M_Store_size (hr.mono (by decide)) (kv 0) (pa_cons (kv 10) pa_nil)) (pa_cons (pe_callB c_len (by rfl) T.n_len (by decide +kernel) (pa_cons (pe_ix o_ix (kv 9) pe_int (fun _ _ => rfl)) pa_nil)) pa_nil)))))))))))))))))))), ?_⟩)
  · obtain ⟨_, _, _, _, _, _, _, _, rfl, _⟩ := h; rfl
  · obtain ⟨st, wd, pl, rw, rm, en, L, x, rfl, Z, e0, e1, hfl, h⟩ := h
    have lL := lenL L
    have lv1 := lvi_len L
    have nB := nums_len (blks L)
    rw [List.length_map] at nB
    walk_at "kk"
    refine flat_s Z.R (by omega) fun l1 H1 q1 f1 g1 => ?_
    have Z1 := Z.fr0 f1
    walk_at "kk"
    refine livI_s Z1.R (by omega) fun l2 q2 => ?_
    have f2 : KW.Fr [] H1 (upd H1 l2 (.lst ((lvi L).map fun i => V.int (i : Nat)))) := Fr.new q2
    have g2 : upd H1 l2 (.lst ((lvi L).map fun i => V.int (i : Nat))) l2 = some (.lst ((lvi L).map fun i => V.int (i : Nat))) := upd_same
    have Z2 := Z1.fr0 f2
    have g1 := f2 _ _ (by simp) g1
    have f2 := f1.trans f2
    revert f2 g2 Z2 g1
    generalize upd H1 l2 (.lst ((lvi L).map fun i => V.int (i : Nat))) = H2
    intro g2 Z2 g1 f2
    have S2 := Z2.S
    have w2 := S2.wo
    walk_at "kk"
    refine same_s w2 g1 (by omega) ?_
    walk_at "kk"
    refine is_s ?_
    rw [decide_eq_true (by simp)]
    walk_at "kk"
    refine ⟨fun σ H' => σ = [some (.ref st), some (.ref rw), some (.int en), some (.int x), some (.ref l1), some (.ref l2), none, none, none, none, none, none, none] ∧ KW.Fr [] H H' ∧ H' l2 = some (.lst ((lvi L).map fun i => V.int (i : Nat))), ?_, ?_⟩
    · walk_at "kk"
      refine numbers_s S2 (by rw [List.length_map]; omega) fun ys l3 p1 p2 q3 => ?_
      have f3 : KW.Fr [] H2 (upd H2 l3 (.lst (ys.map V.int))) := Fr.new q3
      have y3 : upd H2 l3 (.lst (ys.map V.int)) l3 = some (.lst (ys.map V.int)) := upd_same
      revert f3 y3
      generalize upd H2 l3 (.lst (ys.map V.int)) = H3
      intro f3 y3
      have g3 := f3 _ _ (by simp) g2
      have R3 := Z2.R.fr0 f3
      have hd3 := R3.hd
      walk_at "kk"
      refine lc_f (xs := lvi L) (F := fun i : Nat => V.int (i : Nat)) (fun i : Nat => some (.int (nAt L i))) (.of g3) (lt_line (by omega)) ?_ ?_
      · intro i m D acc Cy Cn hx hD h1 h2
        obtain ⟨r, hr, ha⟩ := lvi_mem (List.mem_of_getElem? hx)
        have h3 := (R3.it m r hr).1
        unfold reV at h3
        have hv := atI_map (f := fun r : RE => V.ref r.el) hr
        have hn : nAt L m = r.b.n := by unfold nAt; rw [hr]
        walk_at "kk"
        exact h1 _ (by rw [hn])
      · intro D hD
        have e : (lvi L).filterMap (fun i : Nat => some (V.int (nAt L i))) = (nums (blks L)).map V.int := by
          rw [← lvi_nums, List.map_map, List.filterMap_eq_map']; rfl
        rw [e]
        refine srt_l upd_same fun zs l4 p3 p4 q4 => ?_
        have ez : zs = ys := srt_uniq (fun _ => Iff.rfl) (nums_nodup Z.S.nd) (nums_nodup Z.S.nd) p3 p1 p4 p2
        subst ez
        have f5 := (Fr.new (l := []) hD).trans (Fr.new (o := .lst (zs.map V.int)) q4)
        refine same_s (f5 _ _ (by simp) y3) upd_same (by have := p1.length_eq; omega) ?_
        walk_at "kk"
        exact ⟨f2.trans (f3.trans f5), f5 _ _ (by simp) g3⟩
    rintro σ H4 ⟨rfl, f4, g4⟩
    have Z4 := Z.fr0 f4
    walk_at "kk"
    refine freel_s Z4.R (by omega) fun n H5 hf hf2 f5 => ?_
    have Z5 := Z4.fr0 f5
    have S5 := Z5.S
    have g5 := f5 _ _ (by simp) g4
    have f5 := f4.trans f5
    have nst : l2 ≠ st := fun z => by
      obtain ⟨dx, lo, ob, _⟩ := S5.ob
      rw [z, ob] at g5; cases g5
    walk_at "kk"
    rw [hf.no]
    walk_at "kk"
    refine ⟨fun σ H' => σ = [some (.ref st), some (.ref rw), some (.int en), some (.int x), some (.ref l1), some (.ref l2), none, some (.int n), none, none, none, none, none] ∧ SR a.Store H' st wd pl rw rm en L ∧ KW.Fr [st] H H' ∧ H' l2 = some (.lst ((lvi L).map fun i => V.int (i : Nat))), ?_, ?_⟩
    · have fin : ∀ H6, Sto a.Store H6 st wd pl rm en (blks L) → KW.Fr [st] H5 H6 → SR a.Store H6 st wd pl rw rm en L ∧ KW.Fr [st] H H6 ∧ H6 l2 = some (.lst ((lvi L).map fun i => V.int (i : Nat))) := fun H6 S6 f6 =>
        ⟨⟨S6, Z5.R.fr f6 (fun y hy m => Z5.sep st (by simp) (by simp at m; rw [← m]; exact hy)), Z5.sep⟩, (f5.mono (by simp)).trans f6, f6 _ _ (by simp [nst]) g5⟩
      walk_at "kk"
      refine ⟨st, wd, pl, rm, en, blks L, rfl, S5, e0, e1, fun m hm => ⟨fun hlt H6 S6 f6 => ?_, fun hge H6 S6 f6 d hd => ?_⟩⟩
      · have := hm.uniq hf
        subst this
        walk_at "kk"
        refine is_s ?_
        rw [decide_eq_true rfl]
        walk_at "kk"
        rw [if_neg (by omega)]
        exact fin _ S6 f6
      · have := hm.uniq hf
        subst this
        walk_at "kk"
        intro x3 q3
        walk_at "kk"
        refine is_s ?_
        rw [decide_eq_true rfl]
        walk_at "kk"
        rw [if_neg (by omega)]
        obtain ⟨u1, u2, u3⟩ := fin _ S6 f6
        exact ⟨u1.fr0 (Fr.new hd), u2.trans (Fr.new hd), (Fr.new (l := []) hd) _ _ (by simp) u3⟩
    rintro σ H6 ⟨rfl, Z6, f6, g6⟩
    walk_at "kk"
    split
    · exact h _ Z6 f6
    · rename_i c
      have l0 : 0 < (lvi L).length := by
        cases e : lvi L with
        | nil => rw [e] at c; exact absurd rfl c
        | cons _ _ => exact Nat.succ_pos _
      have m0 : 0 ≤ x % ((lvi L).length : Int) := Int.emod_nonneg _ (by omega)
      have m1 : x % ((lvi L).length : Int) < ((lvi L).length : Int) := Int.emod_lt_of_pos _ (by omega)
      obtain ⟨j, hj⟩ := Int.eq_ofNat_of_zero_le m0
      have hj2 : j < (lvi L).length := by omega
      obtain ⟨i, hi⟩ : ∃ i, (lvi L)[j]? = some i := ⟨_, List.getElem?_eq_getElem hj2⟩
      obtain ⟨r, hr, ha⟩ := lvi_mem (List.mem_of_getElem? hi)
      have av : atI ((lvi L).map fun i => V.int (i : Nat)) (x % ((lvi L).length : Int)) = some (.int i) := by
        rw [hj]; exact atI_map (f := fun i : Nat => V.int (i : Nat)) hi
      have hv := atI_map (f := fun r : RE => V.ref r.el) hr
      have hd6 := Z6.R.hd
      have h3 := (Z6.R.it i r hr).1
      unfold reV at h3
      have h4 := (Z6.R.it i r hr).2
      have S6 := Z6.S
      have bi := blks_at hr
      have lvn : lv (blks L) r.b.n = true := lv_iff.mpr ⟨i, r.b, bi, ha, rfl⟩
      walk_at "kk"
      rw [if_neg (by rw [lvn]; simp)]
      walk_at "kk"
      refine kind_s S6 bi ha rfl ?_
      walk_at "kk"
      refine is_s ?_
      rw [decide_eq_true rfl]
      walk_at "kk"
      have lB := off_add bi
      refine ⟨by omega, ?_⟩
      rw [Int.toNat_natCast]
      refine lc_pr (fun q => (r.b.s[q]?).map V.int) (lt_line (by omega)) ?_ ?_
      · intro q D acc Cy Cn hq hD h1 h2
        obtain ⟨z, hz⟩ : ∃ z, r.b.s[q]? = some z := ⟨_, List.getElem?_eq_getElem (by omega)⟩
        have S7 := S6.fr0 (Fr.new (o := .lst acc) hD)
        walk_at "kk"
        refine get_s S7 bi ha rfl hz ?_
        exact h1 _ (by rw [hz]; rfl)
      · intro D hD
        have key : ∀ k, k ≤ r.b.s.length → (List.range k).filterMap (fun q => (r.b.s[q]?).map V.int) = (r.b.s.take k).map V.int := fun k => by
          induction k with
          | zero => intro _; rfl
          | succ k ih =>
            intro hk
            rw [List.range_succ, List.filterMap_append, ih (by omega), List.take_add_one, List.map_append, List.getElem?_eq_getElem (show k < r.b.s.length by omega)]
            congr 1
            rw [List.filterMap_cons, List.getElem?_eq_getElem (show k < r.b.s.length by omega)]
            rfl
        rw [key _ (Nat.le_refl _), List.take_length]
        have f7 : KW.Fr [] H6 (upd H6 D (.lst (r.b.s.map V.int))) := Fr.new hD
        have g7 : upd H6 D (.lst (r.b.s.map V.int)) D = some (.lst (r.b.s.map V.int)) := upd_same
        revert f7 g7
        generalize upd H6 D (.lst (r.b.s.map V.int)) = H7
        intro f7 g7
        have S7 := S6.fr0 f7
        have h3' := f7 _ _ (by simp) h3
        have h4' := f7 _ _ (by simp) h4
        walk_at "kk"
        refine same_s (xs := r.b.s) g7 h4' (by omega) ?_
        walk_at "kk"
        refine slots_s S7 bi ha rfl fun l8 q8 => ?_
        have f8 : KW.Fr [] H7 (upd H7 l8 (.lst (r.b.s.map V.int))) := Fr.new q8
        have g8 : upd H7 l8 (.lst (r.b.s.map V.int)) l8 = some (.lst (r.b.s.map V.int)) := upd_same
        revert f8 g8
        generalize upd H7 l8 (.lst (r.b.s.map V.int)) = H8
        intro f8 g8
        have S8 := S7.fr0 f8
        have h3'' := f8 _ _ (by simp) h3'
        have h4'' := f8 _ _ (by simp) h4'
        walk_at "kk"
        refine same_s (xs := r.b.s) g8 h4'' (by omega) ?_
        walk_at "kk"
        refine size_s S8 bi ha rfl ?_
        walk_at "kk"
        refine is_s ?_
        rw [decide_eq_true rfl]
        exact h _ ((Z6.fr0 f7).fr0 f8) (f6.trans ((f7.trans f8).mono (by simp)))
end
end K02

set_option Elab.async false
set_option linter.all false
set_option maxRecDepth 100000
set_option maxHeartbeats 4000000
namespace K02
open PySem PySem.Spec PyProof.Rows L2 KW ST
local macro_rules | `(tactic| walk_at "kw") => `(tactic| simp only [tSeq, tNext, tIfS, tTest, tAnd, tOr, tNot, tAndV, tOrV, tNotV, tIf, tChain, tOp, tUn, tC, tAsg, gName, gSub, gCons, gNil, tRet, tRetN, tDrop, tCons, tNil, tCB, tAug, tSl, tPart, tNoPart, tLst, tTup, tBM, tBM0, uTest, uFor, iRng1, iRng2, iList, uCall, List.map_cons, List.map_nil, List.length_cons, List.length_nil, List.cons_append, List.nil_append, List.replicate, Nat.zero_add, Nat.reduceAdd, Nat.reduceSub, List.getElem?_cons_zero, List.getElem?_cons_succ, List.set_cons_zero, List.set_cons_succ, V.bl.injEq, V.int.injEq, V.str.injEq, V.ref.injEq, V.ty.injEq, List.cons.injEq, and_true, true_and, exists_eq_left', exists_eq_right, exists_eq_left, exists_and_left, exists_and_right, decide_eq_true_eq, Bool.not_eq_true', decide_eq_false_iff_not, Bool.false_eq_true, if_true, if_false, ite_true, ite_false, Bool.not_true, Bool.not_false, reduceCtorEq, decide_true, decide_false, Bool.not_not, isK_int_int, isK_int_bool, isK_int_str, isK_int_list, isK_int_tuple, isK_bool_int, isK_bool_bool, isK_bool_str, isK_str_str, isK_str_int, isK_str_bool, isK_str_tuple, isK_str_list, isK_list_list, isK_list_tuple, isK_tuple_tuple, isK_tuple_list, isOk_int_int, isOk_int_bool, isOk_int_str, isOk_int_list, isOk_int_tuple, isOk_bool_int, isOk_bool_bool, isOk_bool_str, isOk_str_str, isOk_str_int, isOk_str_bool, isOk_str_tuple, isOk_str_list, isOk_list_list, isOk_list_tuple, isOk_tuple_tuple, isOk_tuple_list, isK_dict_dict, isOk_dict_dict, isK_none_int, isK_none_bool, isOk_none_int, isOk_none_bool, tyV, S_inj, S_cat, L2.start, Nat.reduceSub, List.replicate_succ, List.replicate_zero, and_assoc, List.append_nil, Nat.reduceEqDiff, Option.some.injEq, Int.natCast_inj, upd_upd, Int.reducePow, Int.reduceToNat, Int.reduceMul, Int.reduceAdd, Int.reduceSub, Int.reduceLT, Int.reduceLE, Int.reduceNeg, Int.reduceDiv, Int.reduceMod, Nat.reducePow, Nat.reduceMul, S_len, List.length_append, List.length_map, List.length_range, not_true_eq_false, not_false_eq_true, ne_eq, uAdd_e1, uAdd_e2, uSub_e1, uMod_e1, uDiv_e1, uPow_e1, uShl_e1, uNeg_e1, uIAdd_e1, uIAdd_e2, uIAdd_e3, uISub_e1, uLt_e1, uLt_e2, uLe_e1, uGt_e1, uGe_e1, uEq_e1, uEq_e2, uEq_e3, uEq_e4, uEq_e5, uEq_e6, uEq_e7, uEq_e8, uEq_e9, uEq_e10, uEq_e11, uNe_e1, uNe_e2, uNe_e3, uNe_e4, uNe_e5, uNe_e6, uNe_e7, uNe_e8, uNe_e9, uNe_e10, uNe_e11, uIs_e1, uIs_e2, uIs_e3, uIs_e4, uIs_e5, uIs_e6, uNotIs_e1, uNotIs_e2, uNotIs_e3, uNotIs_e4, uNotIs_e5, uNotIs_e6, uIn_e1, uIn_e2, uIn_e3, uIn_e4, uNotIn_e1, uNotIn_e2, uNotIn_e3, uNotIn_e4, uTru_e1, uTru_e2, uTru_e3, uTru_e4, uIx_e2, uSl_e2, uLen_e1, uAbs_e1, uInt_e1, uInt_e2, uMin2_e1, uIsi_e1, uIsi_e2, uIsi_e3, uIsi_e4, cx_K, uVar_0, uVar_n, uFld, uSFld, uMet, uMake, tDG, tDI, tDNI, tDP, tDD, uMk, uRaise, uDelSl, tCallS, L2.WE, uStr_e1, uStr_e2, uMul2_e1, uMul2_e2, okS_i, okS_s, List.zip_cons_cons, List.zip_nil_left, List.drop_zero, List.drop_succ_cons, List.drop_nil, putF_nil, putF_cons, eq_self, tDNewK, tB, Option.isSome_some, Option.isSome_none, false_and, false_or, or_false, exists_false, Int.zero_add, uLc, wipe, tYes, isEmpty_app, List.isEmpty_cons, List.isEmpty_nil, List.isEmpty_map, Bool.and_false, Bool.and_true, iRev, K02.lit_0, K02.lit_2, K02.fe_room_entries, K02.fe_room_words, K02.fe_room__places, K02.fe_room__least, K02.fe_entries_room, K02.fe_entries_words, K02.fe_entries__places, K02.fe_entries__least, K02.fe_words_room, K02.fe_words_entries, K02.fe_words__places, K02.fe_words__least, K02.fe__places_room, K02.fe__places_entries, K02.fe__places_words, K02.fe__places__least, K02.fe__least_room, K02.fe__least_entries, K02.fe__least_words, K02.fe__least__places, K02.fl_room_0, K02.lf_room_0, K02.fl_room_2, K02.lf_room_2, K02.N_Store_init, K02.N_Store_used, K02.N_Store_exists, K02.N_Store_numbers, K02.N_Store_free_number, K02.N_Store_allocate, K02.N_Store_size, K02.N_Store_kind, K02.N_Store_set_kind, K02.N_Store_get, K02.N_Store_put, K02.N_Store_slots, K02.N_Store_drop, K02.N_Store_close_up, K02.N_Store_snapshot, K02.N_Store_restore, K02.N_Store_exchange, K02.N__law_number, K02.N__law_deeds, K02.N__law_word, K02.N__law_is, K02.N__law_same, K02.N__law_flat, K02.N__law_living, K02.N__law_free, K02.N__law_copy, K02.N__law_allocated, K02.N__law_changed, K02.N__law_agrees, K02.N__law_deed, K02.N_law])
local macro_rules | `(tactic| walk_at "nn") => `(tactic| first | assumption | exact ne_un (by assumption) | exact ne_un (ne_un (by assumption)) | exact ne_un (ne_un (ne_un (by assumption))) | exact ne_un (ne_un (ne_un (ne_un (by assumption)))))
local macro_rules | `(tactic| walk_at "ne") => `(tactic| first | assumption | (apply Ne.symm; assumption) | exact ne_ud (by assumption) | exact Ne.symm (ne_ud (by assumption)) | exact ne_ud (ne_un (by assumption)) | exact Ne.symm (ne_ud (ne_un (by assumption))) | exact ne_ud (ne_un (ne_un (by assumption))) | exact Ne.symm (ne_ud (ne_un (ne_un (by assumption)))) | exact ne_m (by assumption) (by assumption) | exact Ne.symm (ne_m (by assumption) (by assumption)) | exact ne_n (by assumption) (by walk_at "nn") | exact Ne.symm (ne_n (by assumption) (by walk_at "nn")))
local macro_rules | `(tactic| walk_at "hp") => `(tactic| first | assumption | exact upd_same | (refine Eq.trans (upd_ne ?_) ?_; (focus walk_at "ne"); walk_at "hp"))
local macro_rules | `(tactic| walk_at "sc") => `(tactic| first | (with_reducible assumption) | omega | exact le_line (by (try simp only [List.length_map, List.length_append, List.length_cons, List.length_nil, S_len]); omega) | exact div_s (by omega) | exact mul_r (by omega) | exact mul_l (by omega) | exact pow_s (by omega) | exact mul2_r (by omega) | exact mul2_l (by omega) | exact small4300 (by omega) | exact lt_line (by (try simp only [List.length_map, List.length_append, List.length_cons, List.length_nil, S_len]); omega) | exact ⟨_, by assumption⟩ | (guard_target =~ Exists _; exact ⟨_, .of (by walk_at "hp")⟩) | (guard_target =~ _ ∨ _; exact .inl ⟨_, by assumption⟩) | (guard_target =~ _ ∨ _; exact .inl ⟨_, .of (by walk_at "hp")⟩) | (guard_target =~ _ ∨ _; exact .inr (.inr (.inl ⟨rfl, .inl ⟨_, by walk_at "hp"⟩⟩))) | decide)
local macro_rules | `(tactic| walk_at "kr") => `(tactic| first | (guard_target =~ _ ∧ _; first | refine And.intro (by walk_at "sc") ?_) | (guard_target =~ KW.uIx _ _ _ _ _; first | refine ix_l (by walk_at "hp") (by first | walk_at "hv" | rfl) ?_ | refine ix_t (by walk_at "hp") (by first | walk_at "hv" | rfl) ?_ | refine ix_sl (by assumption) (by walk_at "hv") ?_) | (guard_target =~ KW.uLen _ _ _ _; first | refine len_l (by walk_at "hp") ?_ | refine len_t (by walk_at "hp") ?_ | refine len_sl (by assumption) ?_) | (guard_target =~ KW.uSet _ _ _ _ _; first | refine set_l (by walk_at "hp") (by first | walk_at "hv" | rfl) ?_) | (guard_target =~ L2.gTup _ _ _ _ _ _ _; first | refine tup_l (by walk_at "hp") (by rfl) ?_) | (guard_target =~ KW.uGet _ _ _ _ _; first | refine get_l (by walk_at "hp") (by walk_at "hc") (by decide) (by rfl) ?_) | (guard_target =~ KW.uPut _ _ _ _ _ _; first | refine put_l (by walk_at "hp") (by walk_at "hc") (by decide) (by simp) ?_) | (guard_target =~ KW.uMet.uMt _ _ _ _ _ _ _ _ _; first | refine met_l (by walk_at "hp") (by rfl) ?_) | (guard_target =~ KW.uMet.uMt _ _ _ _ _ _ _ _ _; first | refine ST.met_s (by assumption) (by decide) ?_) | (guard_target =~ ST.spExists _ _ _ _ _; first | refine ST.exists_s (by assumption) ?_) | (guard_target =~ ST.spUsed _ _ _ _ _; first | refine ST.used_s (by assumption) ?_) | (guard_target =~ KW.uGet _ _ _ _ _; first | refine ST.words_s (by assumption) (by walk_at "hc") (by decide) ?_) | (guard_target =~ KW.uDIn _ _ _ _; first | refine din_i (by walk_at "hp") ?_ | refine din_s (by walk_at "hp") ?_) | (guard_target =~ KW.uDGet _ _ _ _; first | refine dget_i (by walk_at "hp") (by walk_at "hv") ?_ | refine dget_s (by walk_at "hp") (by walk_at "hv") ?_) | (guard_target =~ KW.uDPut _ _ _ _ _; first | refine dput_i (by walk_at "hp") (by walk_at "sc") ?_ | refine dput_s (by walk_at "hp") (by walk_at "sc") ?_) | (guard_target =~ KW.uDDel _ _ _ _; first | refine ddel_i (by walk_at "hp") (by walk_at "hv") ?_ | refine ddel_s (by walk_at "hp") (by walk_at "hv") ?_) | (guard_target =~ KW.uMul2 _ _ _ _; first | refine rep_l (by walk_at "hp") (by walk_at "sc") (by walk_at "sc") (by walk_at "sc") ?_) | (guard_target =~ L2.rAppend _ _ _ _; first | refine app_l (by walk_at "hp") (by walk_at "sc") ?_) | (guard_target =~ L2.rPop _ _ _ _; first | refine pop_l (by walk_at "hp") (by walk_at "hv") ?_ | refine pops_l (by walk_at "hp") ?_) | (guard_target =~ L2.rClear _ _ _ _; first | refine clr_l (by walk_at "hp") ?_) | (guard_target =~ L2.rReverse _ _ _ _; first | refine rev_l (by walk_at "hp") ?_) | (guard_target =~ L2.rExtend _ _ _ _; first | refine ext_l (by walk_at "hp") (by walk_at "hp") (by walk_at "sc") ?_) | (guard_target =~ KW.uAdd _ _ _ _ _; first | refine ucat_l (by walk_at "hp") (by walk_at "hp") (by walk_at "sc") ?_) | (guard_target =~ KW.uSl _ _ _ _ _ _; first | refine usl_l (by walk_at "hp") ?_) | (guard_target =~ KW.uTru _ _ _ _; first | refine tru_l (by walk_at "hp") ?_ | refine tru_t (by walk_at "hp") ?_ | refine tru_d (by walk_at "hp") ?_ | refine tru_sl (by assumption) ?_) | (guard_target =~ L2.rIndex _ _ _ _ _; first | refine idx_s (by walk_at "hp") (by assumption) ?_ | refine idx_i (by walk_at "hp") (by assumption) ?_) | (guard_target =~ L2.rIn _ _ _ _ _ _; first | refine in_s (by walk_at "hp") ?_ | refine nin_s (by walk_at "hp") ?_ | refine in_i (by walk_at "hp") ?_ | refine nin_i (by walk_at "hp") ?_) | (guard_target =~ KW.uIsi _ _ _ _; first | refine isi_l (by walk_at "hp") (by decide +kernel) ?_ | refine isi_t (by walk_at "hp") (by decide +kernel) ?_ | refine isi_d (by walk_at "hp") (by decide +kernel) ?_) | (guard_target =~ KW.uList _ _ _ _; first | refine list_l (by walk_at "hp") ?_ | refine list_t (by walk_at "hp") ?_ | refine list_sl (by assumption) ?_) | (guard_target =~ KW.uDict _ _ _; first | refine dict_d (by walk_at "hp") ?_) | (guard_target =~ KW.uSorted _ _ _ _; first | refine srt_l (by walk_at "hp") ?_) | (guard_target =~ KW.uSum _ _ _ _; first | refine sum_l (by walk_at "hp") ?_) | (guard_target =~ KW.uDelC _ _ _ _; first | refine dels_l (by walk_at "hp") (by walk_at "sc") ?_) | (guard_target =~ L2.wAs _ _ _ _ _ _ _ _ _ _; first | refine as_yes (by walk_at "hx") ?_ | refine as_no (by walk_at "hx") ?_) | (guard_target =~ KW.uEf _ _ _ _ _ _ _ _ _; first | refine ef_l (by walk_at "he") (by decide) (by rfl) (by walk_at "hp") (by rfl) ?_) | (guard_target =~ KW.uIsE _ _ _ _ _ _ _; first | refine isE_r (by walk_at "he") (by walk_at "hp") (by walk_at "hk") ?_ | refine isE_t (by walk_at "he") (by walk_at "hp") (by walk_at "hk") ?_))
local macro_rules | `(tactic| walk_at "hv") => `(tactic| first | assumption)
local macro_rules | `(tactic| walk_at "kk") => `(tactic| repeat (first | walk_at "kw" | walk_at "kr"))
local macro_rules | `(tactic| walk_at "hc") => `(tactic| first | exact K02.Txt.c_Store (by assumption))
local macro_rules | `(tactic| walk_at "he") => `(tactic| first | exact K02.Txt.e_NoRoom (by assumption) | exact K02.Txt.e_NoNumber (by assumption))
local macro_rules | `(tactic| walk_at "hx") => `(tactic| first | exact K02.Txt.x_NoRoom_KilnwardenError (by assumption) | exact K02.Txt.x_NoRoom_NoNumber (by assumption) | exact K02.Txt.x_NoNumber_KilnwardenError (by assumption) | exact K02.Txt.x_NoNumber_NoNumber (by assumption))
local macro_rules | `(tactic| walk_at "hk") => `(tactic| first | exact K02.Txt.i_NoRoom_NoNumber (by assumption) | exact K02.Txt.i_NoRoom_NoRoom (by assumption) | exact K02.Txt.i_NoNumber_NoNumber (by assumption) | exact K02.Txt.i_NoNumber_NoRoom (by assumption))

section
variable {P : Program} {w : World} {K : Frag} {mg : Str → Option Value} {base : Heap} {a : Ads}
theorem ok__law_changed (T : Txt P w K mg a) (TB : LamX.TabB base mg a.c_Store_close_up a.p_Store_close_up) : Cal P w K mg base 3 "_law_changed" (spChg a.Store a.p_Store_close_up ("Store.close_up" ++ ".<locals>." ++ "<lambda>")) := by
  have C__law_copy := ok__law_copy (P := P) (w := w) (base := base) T
  have C__law_word := ok__law_word (P := P) (w := w) (base := base) T
  have C__law_living := ok__law_living (P := P) (w := w) (base := base) T
  have M_Store_close_up := ok_Store_close_up (P := P) (w := w) (base := base) T TB
  have M_Store_snapshot := ok_Store_snapshot (P := P) (w := w) (base := base) T
  have M_Store_restore := ok_Store_restore (P := P) (w := w) (base := base) T
  have M_Store_put := ok_Store_put (P := P) (w := w) (base := base) T
  have M_Store_set_kind := ok_Store_set_kind (P := P) (w := w) (base := base) T
  have M_Store_drop := ok_Store_drop (P := P) (w := w) (base := base) T
  have M_Store_exchange := ok_Store_exchange (P := P) (w := w) (base := base) T
  refine T.d__law_changed.ok sc__law_changed (fun vs H Q E h => ?_) (fun f cdv A outer s H vs Q E hr h => ⟨_, (pss_cons (ps_set (i := 5) sc__law_changed.nd rfl (Or.inl rfl) (pe_op o_fdiv (kv 4) pe_int))
      (C8.pss_cut (ps_if (pt_cmpR (o_eq hr.units) (kv 3) pe_int (nomark _))
      (pss_cons (ps_expr (km0 M_Store_close_up (hr.mono (by decide)) (kv 0)))
      (pss_cons (k_setLc (i := 6) (own := [("one", 7)]) (g := gName 7) (by rfl) sc__law_changed.nd rfl rfl (sw_true rfl rfl rfl (by decide +kernel)) (pi_list (kv 1)) (blkOk_by (own := [("one", 7)]) (N := ["store", "row", "taken", "deed", "x", "rest", "kept", "one", "pick", "living", "other", "at", "number"]) (sc := defScope s__law_changed) (by decide +kernel)) (fun _ _ _ _ _ => pg_name (i := 7) sc__law_changed.nd rfl (Or.inl rfl)) (fun _ _ _ _ _ => by exact pts_one (ktK K (pe_ix (o_ixK K) (kv 7) pe_int (fun _ _ => rfl)))) (fun _ _ _ _ _ => by exact (kv 7)))
      (pss_cons (ps_expr (pe_bm0 PySem.F.plainAttrs_list PySem.F.slot_list_clear PySem.F.type_list_clear mt_clear (kv 1)))
      (pss_one (ps_expr (pe_bm PySem.F.plainAttrs_list PySem.F.slot_list_extend PySem.F.type_list_extend mt_extend (kv 1) (pa_cons (kv 6) pa_nil)))))))
      (pss_one (ps_if (pt_cmpR (o_eq hr.units) (kv 3) pe_int (nomark _))
      (pss_one (ps_expr (pe_bm PySem.F.plainAttrs_list PySem.F.slot_list_append PySem.F.type_list_append mt_append (kv 2) (pa_cons (pe_tup (pa_cons (km0 M_Store_snapshot (hr.mono (by decide)) (kv 0)) (pa_cons (kc C__law_copy (hr.mono (by decide)) (pa_cons (kv 1) pa_nil)) pa_nil))) pa_nil))))
      (pss_one (ps_if (PW.pt (pw_and (pt_cmpR (o_eq hr.units) (kv 3) pe_int (nomark _)) (pw_and1 (kt (kv 2)))))
      (pss_cons (ps_set (i := 8) sc__law_changed.nd rfl (Or.inl rfl) (pe_ix o_ix (kv 2) (pe_op o_mod (pe_callTy c_int (by rfl) T.n_int (by decide +kernel) (pa_cons (kv 5) pa_nil)) (pe_callB c_len (by rfl) T.n_len (by decide +kernel) (pa_cons (kv 2) pa_nil))) (fun _ _ => rfl)))
      (pss_cons (ps_expr (km M_Store_restore (hr.mono (by decide)) (kv 0) (pa_cons (pe_ix o_ix (kv 8) pe_int (fun _ _ => rfl)) pa_nil)))
      (pss_cons (ps_expr (pe_bm0 PySem.F.plainAttrs_list PySem.F.slot_list_clear PySem.F.type_list_clear mt_clear (kv 1)))
      (pss_one (ps_expr (pe_bm PySem.F.plainAttrs_list PySem.F.slot_list_extend PySem.F.type_list_extend mt_extend (kv 1) (pa_cons (kc C__law_copy (hr.mono (by decide)) (pa_cons (pe_ix o_ix (kv 8) pe_int (fun _ _ => rfl)) pa_nil)) pa_nil)))))))
      pss_nil)))))
      (pss_cons (ps_set (i := 9) sc__law_changed.nd rfl (Or.inl rfl) (kc C__law_living (hr.mono (by decide)) (pa_cons (kv 1) pa_nil)))
      (pss_cons (ps_if (PW.pt (pw_or (pt_cmpR o_lt (kv 3) pe_int (nomark _)) (pw_or1 (pt_not (kt (kv 9))))))
      (pss_one ps_retN)
      pss_nil)
      (pss_cons (ps_set (i := 7) sc__law_changed.nd rfl (Or.inl rfl) (pe_ix o_ix (kv 1) (pe_ix o_ix (kv 9) (pe_op o_mod (pe_callTy c_int (by rfl) T.n_int (by decide +kernel) (pa_cons (kv 5) pa_nil)) (pe_callB c_len (by rfl) T.n_len (by decide +kernel) (pa_cons (kv 9) pa_nil))) (fun _ _ => rfl)) (fun _ _ => rfl)))
      (pss_cons (ps_set (i := 10) sc__law_changed.nd rfl (Or.inl rfl) (pe_ix o_ix (kv 1) (pe_ix o_ix (kv 9) (pe_op o_mod (pe_op o_fdiv (kv 5) pe_int) (pe_callB c_len (by rfl) T.n_len (by decide +kernel) (pa_cons (kv 9) pa_nil))) (fun _ _ => rfl)) (fun _ _ => rfl)))
      (pss_one (ps_if (pt_cmpR o_lt (kv 3) pe_int (nomark _))
      (pss_one (ps_if (kt (pe_ix o_ix (kv 7) pe_int (fun _ _ => rfl)))
      (pss_cons (ps_set (i := 11) sc__law_changed.nd rfl (Or.inl rfl) (pe_op o_mod (pe_op o_fdiv (kv 5) pe_int) (pe_callB c_len (by rfl) T.n_len (by decide +kernel) (pa_cons (pe_ix o_ix (kv 7) pe_int (fun _ _ => rfl)) pa_nil))))
      (pss_cons (ps_asg (kc C__law_word (hr.mono (by decide)) (pa_cons (pe_op o_fdiv (kv 5) pe_int) pa_nil)) (pg_sub (pe_ix o_ix (kv 7) pe_int (fun _ _ => rfl)) (kv 11) s_set))
      (pss_one (ps_expr (km M_Store_put (hr.mono (by decide)) (kv 0) (pa_cons (pe_ix o_ix (kv 7) pe_int (fun _ _ => rfl)) (pa_cons (kv 11) (pa_cons (pe_ix o_ix (pe_ix o_ix (kv 7) pe_int (fun _ _ => rfl)) (kv 11) (fun _ _ => rfl)) pa_nil))))))))
      pss_nil))
      (pss_one (ps_if (pt_cmpR (o_eq hr.units) (kv 3) pe_int (nomark _))
      (pss_cons (ps_asg (kc C__law_word (hr.mono (by decide)) (pa_cons (pe_op o_fdiv (kv 5) pe_int) pa_nil)) (pg_sub (kv 7) pe_int s_set))
      (pss_one (ps_expr (km M_Store_set_kind (hr.mono (by decide)) (kv 0) (pa_cons (pe_ix o_ix (kv 7) pe_int (fun _ _ => rfl)) (pa_cons (pe_ix o_ix (kv 7) pe_int (fun _ _ => rfl)) pa_nil))))))
      (pss_one (ps_if (pt_cmpR o_lt (kv 3) pe_int (nomark _))
      (pss_cons (ps_asg pe_bl (pg_sub (kv 7) pe_int s_set))
      (pss_one (ps_expr (km M_Store_drop (hr.mono (by decide)) (kv 0) (pa_cons (pe_ix o_ix (kv 7) pe_int (fun _ _ => rfl)) pa_nil)))))
      (pss_cons (ps_expr (km M_Store_exchange (hr.mono (by decide)) (kv 0) (pa_cons (pe_ix o_ix (kv 7) pe_int (fun _ _ => rfl)) (pa_cons (pe_ix o_ix (kv 10) pe_int (fun _ _ => rfl)) pa_nil))))
      (pss_cons (ps_set (i := 12) sc__law_changed.nd rfl (Or.inl rfl) (pe_ix o_ix (kv 7) pe_int (fun _ _ => rfl)))
      (pss_cons (ps_asg (pe_ix o_ix (kv 10) pe_int (fun _ _ => rfl)) (pg_sub (kv 7) pe_int s_set))
      (pss_one (ps_asg (kv 12) (pg_sub (kv 10) pe_int s_set)))))))))))))))))), ?_⟩)
  · obtain ⟨_, _, _, _, _, _, _, _, _, _, _, _, _, rfl, _⟩ := h; rfl
  · obtain ⟨st, wd, pl, rw, tk, lm, X, rm, en, L, TL, dd, x, rfl, S, r1, tl, hT, h⟩ := h
    generalize a.p_Store_close_up = P0 at *
    walk_at "kk"
    refine ⟨fun σ H' => ∃ v6 v7 v8 wd pl L TL', σ = [some (.ref st), some (.ref rw), some (.ref tk), some (.int dd), some (.int x), some (.int (x / 16)), v6, v7, v8, none, none, none, none] ∧ S2 a.Store H' st wd pl rw tk lm X rm en L TL' ∧ TL'.length ≤ TL.length + 1 ∧ LamX.TabS H' P0 ("Store.close_up" ++ ".<locals>." ++ "<lambda>"), ?_, ?_⟩
    · have St := S.Z.S
      have flL := S.fl
      walk_at "kk"
      split
      · walk_at "kk"
        refine ⟨st, wd, pl, rm, en, blks L, rfl, St, hT, by omega, fun H3 wd3 pl3 S3 n1 n2 f3 T3 => ?_⟩
        have nP : ∀ x ∈ fpR rw L, x ∉ [st, P0] := fun x hx z => by
          obtain ⟨xs, ex⟩ := S.Z.R.lst x hx
          simp only [List.mem_cons, List.not_mem_nil, or_false] at z
          rcases z with rfl | rfl
          · exact S.Z.sep x (by simp) hx
          · exact hT.ne ex (fun ps z => by cases z) rfl
        have R3 := S.Z.R.fr f3 nP
        have lL := lenL L
        have hd3 := R3.hd
        walk_at "kk"
        refine lc_f (fun r : RE => if r.b.al = true then some (.ref r.el) else none) (.of hd3) (lt_line (by omega)) ?_ ?_
        · intro i r D acc Cy Cn hx hD h1 h2
          have h3 := (R3.it i r hx).1
          unfold reV at h3
          walk_at "kk"
          by_cases c : r.b.al = true
          · rw [if_pos c]; exact h1 _ (if_pos c)
          · rw [if_neg c]; exact h2 (if_neg c)
        · intro D hD
          rw [fm_if]
          obtain ⟨L', hL'⟩ : ∃ L', L' = L.filter fun r => r.b.al := ⟨_, rfl⟩
          have eb : blks L' = alv (blks L) := by rw [hL']; unfold alv blks; rw [List.filter_map]; rfl
          have sb : L'.Sublist L := by rw [hL']; exact List.filter_sublist
          rw [← hL']
          have gD : upd H3 D (.lst (L'.map fun r => V.ref r.el)) D = some (.lst (L'.map fun r => V.ref r.el)) := upd_same
          have R4 := R3.fr0 (Fr.new (o := .lst (L'.map fun r => V.ref r.el)) hD)
          have S4 := S3.fr (l := []) (Fr.new (o := .lst (L'.map fun r => V.ref r.el)) hD) (by simp) (by simp) (by simp)
          have T4 := T3.add (o' := .lst (L'.map fun r => V.ref r.el)) hD
          have f4 : KW.Fr [st, P0] _ (upd H3 D (.lst (L'.map fun r => V.ref r.el))) := f3.trans (Fr.new hD)
          have nD : D ∉ fpR rw L := notin_of hD R3.there
          revert gD R4 S4 T4 f4
          generalize upd H3 D (.lst (L'.map fun r => V.ref r.el)) = H4
          intro gD R4 S4 T4 f4
          have hd4 := R4.hd
          have RD := R4.sub sb gD nD
          have nDr : D ≠ rw := fun z => nD (z ▸ rw_fpR)
          walk_at "kk"
          have ll : L'.length ≤ L.length := sb.length_le
          refine ext_l (xs := []) (zs := L'.map fun r => V.ref r.el) upd_same (by rw [upd_ne nDr]; exact gD) (le_line (by simp; omega)) ?_
          rw [List.nil_append]
          have mm : ∀ (i : Nat) (r : RE), L'[i]? = some r → r.el ≠ rw ∧ r.sl ≠ rw := fun i r hi => by
            obtain ⟨j, hj⟩ := List.getElem?_of_mem (sb.mem (List.mem_of_getElem? hi))
            exact R4.d3 j r hj
          have sub : ∀ x, x ∈ fpR rw L' → x ∈ fpR rw L := fun x hx => by
            rcases mem_fpR.mp hx with rfl | ⟨i, r, hi, e⟩
            · exact rw_fpR
            · obtain ⟨j, hj⟩ := List.getElem?_of_mem (sb.mem (List.mem_of_getElem? hi))
              exact mem_fpR.mpr (.inr ⟨j, r, hj, e⟩)
          have R6 : ST.Row (upd (upd H4 rw (.lst [])) rw (.lst (L'.map fun r => V.ref r.el))) rw L' := RD.put upd_same (fun i r hi => by
            rw [upd_ne (mm i r hi).1, upd_ne (mm i r hi).1, upd_ne (mm i r hi).2, upd_ne (mm i r hi).2]; exact ⟨rfl, rfl⟩) mm
          have fr6 : KW.Fr [rw] H4 (upd (upd H4 rw (.lst [])) rw (.lst (L'.map fun r => V.ref r.el))) := (Fr.upd (by simp)).trans (Fr.upd (by simp))
          have rws : ∀ x ∈ fpS st wd3 pl3, x ∉ fpR rw L := fun x hx z => by
            simp only [List.mem_cons, List.not_mem_nil, or_false] at hx
            rcases hx with rfl | rfl | rfl
            · exact S.Z.sep _ (by simp) z
            · exact notin_of n1 S.Z.R.there z
            · exact notin_of n2 S.Z.R.there z
          have nrw : ∀ x ∈ fpS st wd3 pl3, x ∉ [rw] := fun x hx z => rws x hx (by rw [List.mem_singleton] at z; rw [z]; exact rw_fpR)
          have S6 := S4.fr fr6 (nrw _ (by simp)) (nrw _ (by simp)) (nrw _ (by simp))
          refine ⟨wd3, pl3, L', TL, S.stepP hT ⟨by rw [eb]; exact S6, R6, fun x hx z => rws x hx (sub x z)⟩ ?_ ⟨?_, ?_⟩, by omega, ?_⟩
          · rw [eb]; have := flat_le (B := blks L); omega
          · refine (f4.mono fun x hx => ?_).trans (fr6.mono fun x hx => ?_)
            · simp only [List.mem_cons, List.not_mem_nil, or_false] at hx
              rcases hx with rfl | rfl
              · exact List.mem_cons_of_mem _ (inS (by simp))
              · exact List.mem_cons_self
            · rw [List.mem_singleton] at hx; rw [hx]; exact List.mem_cons_of_mem _ (inR rw_fpR)
          · intro x hx
            rcases List.mem_append.mp hx with m | m
            · simp only [List.mem_cons, List.not_mem_nil, or_false] at m
              rcases m with rfl | rfl | rfl
              · exact .inl (List.mem_cons_of_mem _ (inS (by simp)))
              · exact .inr n1
              · exact .inr n2
            · exact .inl (List.mem_cons_of_mem _ (inR (sub x m)))
          · exact LamX.TabS.upd (LamX.TabS.upd T4 hd4 pln_lst) upd_same pln_lst
      · split
        · have htk := S.T.hd
          walk_at "kk"
          refine ⟨st, wd, pl, rm, en, blks L, rfl, St, fun tp sw sp H3 n1 n2 n3 Z3 f3 => ?_⟩
          have S3 := S.fr0 f3
          walk_at "kk"
          refine ⟨rw, L, rfl, S3.Z.R, by omega, fun rw' L' H4 R4 eb n4 f4 => ?_⟩
          have S4 := S3.fr0 f4
          have Z4 := Z3.fr f4 (by simp)
          walk_at "kk"
          intro p hp
          have R5 := R4.fr0 (Fr.new (o := .tup [V.ref tp, V.ref rw']) hp)
          have S5 := S4.fr0 (Fr.new (o := .tup [V.ref tp, V.ref rw']) hp)
          have Z5 := Z4.fr (l := []) (Fr.new (o := .tup [V.ref tp, V.ref rw']) hp) (by simp)
          have g5 : upd H4 p (.tup [V.ref tp, V.ref rw']) p = some (.tup [V.ref tp, V.ref rw']) := upd_same
          have T5 := ((hT.fr0 f3).fr0 f4).add (o' := .tup [V.ref tp, V.ref rw']) hp
          obtain ⟨e, he⟩ : ∃ e : ST.TE, e = ⟨p, tp, sw, sp, rw', L'⟩ := ⟨_, rfl⟩
          have bk : ∀ x ∈ fpE e, ∃ H0, H0 x = none ∧ KW.Fr [] _ H0 := fun x hx => by
            rw [he] at hx
            rcases List.mem_append.mp hx with m | m
            · simp only [List.mem_cons, List.not_mem_nil, or_false] at m
              rcases m with rfl | rfl | rfl | rfl
              · exact ⟨_, hp, f3.trans f4⟩
              · exact ⟨_, n1, Fr.refl _⟩
              · exact ⟨_, n2, Fr.refl _⟩
              · exact ⟨_, n3, Fr.refl _⟩
            · exact ⟨_, n4 x m, f3⟩
          have nt : tk ∉ fpE e := fun m => by
            obtain ⟨H0, e0, f0⟩ := bk _ m
            have := f0 _ _ (by simp) htk
            rw [e0] at this; cases this
          have ns : ∀ x ∈ fpE e, x ∉ fpSR st wd pl rw L := fun x hx z => by
            obtain ⟨H0, e0, f0⟩ := bk _ hx
            obtain ⟨o, ho⟩ := S.Z.there x z
            have := f0 _ _ (by simp) ho
            rw [e0] at this; cases this
          revert R5 S5 Z5 g5 T5
          generalize upd H4 p (.tup [V.ref tp, V.ref rw']) = H5
          intro R5 S5 Z5 g5 T5
          have ht5 := S5.T.hd
          walk_at "kk"
          have A5 := Tk.app (e := e) S5.T (by rw [he]; exact g5) (by rw [he]; show Snp H5 tp sw sp (blks L'); rw [eb]; exact Z5) (by rw [he]; exact R5) (by rw [he]; show ((flat (blks L')).length : Int) ≤ rm; rw [eb]; exact flL) nt
          have ee : (TL ++ [e]).map (fun e => V.ref e.tu) = TL.map (fun e => V.ref e.tu) ++ [V.ref p] := by rw [List.map_append, he]; rfl
          rw [ee] at A5
          have ntk : ∀ x ∈ fpSR st wd pl rw L, x ∉ [tk] := fun x hx z => S.sep tk (mem_fpT.mpr (.inl rfl)) (by rw [List.mem_singleton] at z; exact z ▸ hx)
          refine ⟨wd, pl, L, TL ++ [e], ⟨S5.Z.fr (l := [tk]) (Fr.upd (by simp)) ntk, A5, fun x hx => ?_, flL, ?_, fun b o m => ?_⟩, by simp, LamX.TabS.upd T5 ht5 pln_lst⟩
          · rcases mem_fpT.mp hx with rfl | ⟨e', he', hx'⟩
            · exact S.sep _ (mem_fpT.mpr (.inl rfl))
            · rcases List.mem_append.mp he' with m | m
              · exact S.sep _ (mem_fpT.mpr (.inr ⟨e', m, hx'⟩))
              · rw [List.mem_singleton] at m; subst m; exact ns x hx'
          · have e5 := S5.lt
            rw [upd_ne (fun z => by rw [z, ht5] at e5; cases e5)]; exact e5
          · obtain ⟨h1, h2, h3, h4⟩ := S5.ot b o m
            have nb : b ≠ tk := fun z => h4 (mem_fpT.mpr (.inl z))
            refine ⟨by rw [upd_ne nb]; exact h1, h2, h3, fun z => ?_⟩
            rcases mem_fpT.mp z with z | ⟨e', he', hx'⟩
            · exact nb z
            · rcases List.mem_append.mp he' with m' | m'
              · exact h4 (mem_fpT.mpr (.inr ⟨e', m', hx'⟩))
              · rw [List.mem_singleton] at m'; subst m'
                obtain ⟨H0, e0, f0⟩ := bk _ hx'
                have := f0 _ _ (by simp) (S.ot b o m).1
                rw [e0] at this; cases this
        · have htk := S.T.hd
          walk_at "kk"
          split
          · refine tru_l htk ?_
            by_cases c0 : TL.length = 0
            · have e0 : TL = [] := List.length_eq_zero_iff.mp c0
              have eE : (TL.map fun e => V.ref e.tu).isEmpty = true := by rw [e0]; rfl
              rw [eE]
              walk_at "kk"
              exact ⟨wd, pl, L, TL, S, by omega, hT⟩
            · have eE : (TL.map fun e => V.ref e.tu).isEmpty = false := by
                cases TL with
                | nil => exact absurd rfl c0
                | cons _ _ => rfl
              rw [eE]
              obtain ⟨k, hk⟩ := Int.eq_ofNat_of_zero_le (Int.emod_nonneg (x / 16) (show (TL.length : Int) ≠ 0 by omega))
              have hk2 := Int.emod_lt_of_pos (x / 16) (show (0 : Int) < (TL.length : Int) by omega)
              have hk3 : k < TL.length := by omega
              obtain ⟨e, he⟩ : ∃ e, TL[k]? = some e := ⟨_, List.getElem?_eq_getElem hk3⟩
              have a1 : atI (TL.map fun e => V.ref e.tu) (x / 16 % (TL.length : Int)) = some (.ref e.tu) := by rw [hk]; exact atI_map he
              have hm := List.mem_of_getElem? he
              obtain ⟨hu, hS, hR, hf⟩ := S.T.it e hm
              walk_at "kk"
              refine ⟨st, wd, pl, e.tp, e.sw, e.sp, rm, en, blks L, blks e.L, rfl, St, hS, fun H3 wd3 pl3 S3 n1 n2 f3 => ?_⟩
              have nst : ∀ y ∈ fpR rw L, y ∉ [st] := fun y hy z => by
                rw [List.mem_singleton] at z
                exact S.Z.sep y (by rw [z]; simp) hy
              have nst2 : ∀ y ∈ fpE e, y ∉ [st] := fun y hy z => by
                rw [List.mem_singleton] at z
                exact S.sep y (mem_fpT.mpr (.inr ⟨e, hm, hy⟩)) (by rw [z]; exact inS (by simp))
              have R3 := S.Z.R.fr f3 nst
              have hr3 := R3.hd
              have hu3 := f3 _ _ (nst2 _ (by simp [fpE])) hu
              have hR3 := hR.fr f3 fun y hy => nst2 y (List.mem_append_right _ hy)
              have nru : e.tu ≠ rw := fun z => S.sep e.tu (mem_fpT.mpr (.inr ⟨e, hm, by simp [fpE]⟩)) (by rw [z]; exact inR rw_fpR)
              have nrR : ∀ y ∈ fpR e.rw e.L, y ∉ [rw] := fun y hy z => by
                rw [List.mem_singleton] at z
                exact S.sep y (mem_fpT.mpr (.inr ⟨e, hm, List.mem_append_right _ hy⟩)) (by rw [z]; exact inR rw_fpR)
              walk_at "kk"
              refine ⟨e.rw, e.L, rfl, hR3.fr (l := [rw]) (Fr.upd (by simp)) nrR, by omega, fun rw' L' H5 R5 eb n5 f5 => ?_⟩
              have g5 : H5 rw = some (.lst []) := f5 _ _ (by simp) upd_same
              have b5 : ∀ y ∈ fpR rw' L', y ≠ rw ∧ H3 y = none := fun y hy => by
                have := n5 y hy
                by_cases c : y = rw
                · rw [c, upd_same] at this; cases this
                · rw [upd_ne c] at this; exact ⟨c, this⟩
              have c5 : ∀ y ∈ fpR rw' L', H y = none := fun y hy => by
                refine f3.none (fun z => ?_) (b5 y hy).2
                rw [List.mem_singleton] at z
                obtain ⟨o, ho⟩ := S3.there st (by simp)
                rw [← z, (b5 y hy).2] at ho; cases ho
              have rws : ∀ y ∈ fpS st wd3 pl3, y ∉ fpR rw L := fun y hy z => by
                simp only [List.mem_cons, List.not_mem_nil, or_false] at hy
                rcases hy with rfl | rfl | rfl
                · exact S.Z.sep _ (by simp) z
                · exact notin_of n1 S.Z.R.there z
                · exact notin_of n2 S.Z.R.there z
              have nrw : ∀ y ∈ fpS st wd3 pl3, y ∉ [rw] := fun y hy z => rws y hy (by rw [List.mem_singleton] at z; rw [z]; exact rw_fpR)
              have S5 := (S3.fr (l := [rw]) (Fr.upd (o := .lst []) (by simp)) (nrw _ (by simp)) (nrw _ (by simp)) (nrw _ (by simp))).fr f5 (by simp) (by simp) (by simp)
              have f6 : KW.Fr [st, rw] H H5 := ((f3.mono (by simp)).trans (Fr.upd (by simp))).trans (f5.mono (by simp))
              have hd5 := R5.hd
              walk_at "kk"
              have lL' := lenL L'
              rw [eb] at lL'
              refine ext_l (xs := []) (zs := L'.map fun r => V.ref r.el) g5 hd5 (le_line (by simp; omega)) ?_
              rw [List.nil_append]
              have n6 : ∀ (i : Nat) (r : RE), L'[i]? = some r → r.el ≠ rw ∧ r.sl ≠ rw := fun i r hi => ⟨(b5 _ (el_fpR hi)).1, (b5 _ (sl_fpR hi)).1⟩
              have R6 : ST.Row (upd H5 rw (.lst (L'.map fun r => V.ref r.el))) rw L' := R5.put upd_same (fun i r hi => ⟨upd_ne (n6 i r hi).1, upd_ne (n6 i r hi).2⟩) n6
              have S6 := S5.fr (l := [rw]) (Fr.upd (a := rw) (o := .lst (L'.map fun r => V.ref r.el)) (by simp)) (nrw _ (by simp)) (nrw _ (by simp)) (nrw _ (by simp))
              have sm : ∀ y ∈ fpR rw L', y = rw ∨ y ∈ fpR rw' L' := fun y hy => by
                rcases mem_fpR.mp hy with rfl | q
                · exact .inl rfl
                · exact .inr (mem_fpR.mpr (.inr q))
              have s6 : Stp (fpSR st wd pl rw L) (fpSR st wd3 pl3 rw L') H (upd H5 rw (.lst (L'.map fun r => V.ref r.el))) := by
                refine ⟨(f6.trans (Fr.upd (by simp))).mono fun y hy => ?_, fun y hy => ?_⟩
                · simp only [List.mem_cons, List.not_mem_nil, or_false] at hy
                  rcases hy with rfl | rfl
                  · exact inS (by simp)
                  · exact inR rw_fpR
                · rcases List.mem_append.mp hy with m | m
                  · simp only [List.mem_cons, List.not_mem_nil, or_false] at m
                    rcases m with rfl | rfl | rfl
                    · exact .inl (inS (by simp))
                    · exact .inr n1
                    · exact .inr n2
                  · rcases sm y m with rfl | m
                    · exact .inl (inR rw_fpR)
                    · exact .inr (c5 y m)
              refine ⟨wd3, pl3, L', TL, S.step ⟨by rw [eb]; exact S6, R6, fun y hy z => ?_⟩ (by rw [eb]; exact hf) s6, by omega, hT.frl s6.1 S.Z.pln⟩
              rcases sm y z with rfl | z
              · exact nrw _ hy (by simp)
              · obtain ⟨o, ho⟩ := S3.there y hy
                rw [(b5 y z).2] at ho; cases ho
          · walk_at "kk"
            exact ⟨wd, pl, L, TL, S, by omega, hT⟩
    clear S hT
    rintro σ H1 ⟨v6, v7, v8, wd, pl, L, TL1, rfl, S, tl1, hT⟩
    walk_at "kk"
    have lL := lenL L
    have lv1 := lvi_len L
    have flL := S.fl
    refine livI_s S.Z.R (by omega) fun l q1 => ?_
    have f2 : KW.Fr [] H1 (upd H1 l (.lst ((lvi L).map fun i => V.int (i : Nat)))) := Fr.new q1
    have g2 : upd H1 l (.lst ((lvi L).map fun i => V.int (i : Nat))) l = some (.lst ((lvi L).map fun i => V.int (i : Nat))) := upd_same
    have S2 := S.fr0 f2
    have hT2 := hT.fr0 f2
    revert g2 S2 hT2
    clear f2
    generalize upd H1 l (.lst ((lvi L).map fun i => V.int (i : Nat))) = H2
    intro g2 S2 hT2
    walk_at "kk"
    split
    · exact h _ _ _ _ _ S2 tl1 hT2
    · rename_i c7
      walk_at "kk"
      split
      · exact h _ _ _ _ _ S2 tl1 hT2
      · rename_i c
        have l0 : 0 < (lvi L).length := by
          cases e : lvi L with
          | nil => rw [e] at c; exact absurd rfl c
          | cons _ _ => exact Nat.succ_pos _
        have pk : ∀ k : Int, 0 ≤ k → k < (lvi L).length → ∃ (i : Nat) (r : RE), L[i]? = some r ∧ r.b.al = true ∧ atI ((lvi L).map fun i => V.int (i : Nat)) k = some (.int i) ∧ atI (L.map fun r => V.ref r.el) (i : Int) = some (.ref r.el) := fun k h0 h1 => by
          obtain ⟨j, rfl⟩ := Int.eq_ofNat_of_zero_le h0
          have hj2 : j < (lvi L).length := by omega
          obtain ⟨i, hi⟩ : ∃ i, (lvi L)[j]? = some i := ⟨_, List.getElem?_eq_getElem hj2⟩
          obtain ⟨r, hr, ha⟩ := lvi_mem (List.mem_of_getElem? hi)
          exact ⟨i, r, hr, ha, atI_map (f := fun i : Nat => V.int (i : Nat)) hi, atI_map hr⟩
        obtain ⟨i, r, hr, ra, a1, a2⟩ := pk (x / 16 % ((lvi L).length : Int)) (Int.emod_nonneg _ (by omega)) (Int.emod_lt_of_pos _ (by omega))
        obtain ⟨j, u, hu, ua, b1, b2⟩ := pk (x / 16 / 16 % ((lvi L).length : Int)) (Int.emod_nonneg _ (by omega)) (Int.emod_lt_of_pos _ (by omega))
        have hd2 := S2.Z.R.hd
        have hr3 := (S2.Z.R.it i r hr).1
        have hu3 := (S2.Z.R.it j u hu).1
        unfold reV at hr3 hu3
        have hr4 := (S2.Z.R.it i r hr).2
        have St2 := S2.Z.S
        walk_at "kk"
        have fin : ∀ H3 L3, SR a.Store H3 st wd pl rw rm en L3 → (flat (blks L3)).length = (flat (blks L)).length → Stp (fpSR st wd pl rw L) (fpSR st wd pl rw L3) H2 H3 → Q .non H3 := fun H3 L3 Z3 e3 s3 =>
          h _ _ _ _ _ (S2.step Z3 (by rw [e3]; exact flL) s3) tl1 (hT2.frl s3.1 S2.Z.pln)
        have sE := sepE S2.Z hr
        split
        · walk_at "kk"
          split
          · rename_i ce
            have s0 : 0 < r.b.s.length := by
              cases e : r.b.s with
              | nil => rw [e] at ce; cases ce
              | cons _ _ => exact Nat.succ_pos _
            obtain ⟨q, hq⟩ := Int.eq_ofNat_of_zero_le (Int.emod_nonneg (x / 16 / 256) (show (r.b.s.length : Int) ≠ 0 by omega))
            have hq2 := Int.emod_lt_of_pos (x / 16 / 256) (show (0 : Int) < (r.b.s.length : Int) by omega)
            rw [hq] at hq2
            have hq3 : q < r.b.s.length := by omega
            refine ⟨div_s (by omega), ?_⟩
            walk_at "kk"
            refine ⟨_, rfl, fun v => ?_⟩
            rw [hq]
            obtain ⟨r1, hr1⟩ : ∃ r1 : RE, r1 = { r with b := { r.b with s := r.b.s.set q v } } := ⟨_, rfl⟩
            have S3 : Sto a.Store (upd H2 r.sl (.lst ((r.b.s.map V.int).set q (.int v)))) st wd pl rm en (blks L) := S2.Z.stS hr
            have hset : ixN (r.b.s.map V.int).length (q : Int) = some q := by
              rw [List.length_map]; unfold ixN; rw [if_pos (by omega), if_pos (by omega)]; rfl
            have nes : r.el ≠ r.sl := S2.Z.R.d2 i i r r hr hr
            have hr5 : upd H2 r.sl (.lst ((r.b.s.map V.int).set q (.int v))) r.el = some (.lst [.int r.b.n, .int r.b.k, .ref r.sl, .bl r.b.al]) := by rw [upd_ne nes]; exact hr3
            have hr6 : upd H2 r.sl (.lst ((r.b.s.map V.int).set q (.int v))) r.sl = some (.lst ((r.b.s.map V.int).set q (.int v))) := upd_same
            have hv6 : atI ((r.b.s.map V.int).set q (.int v)) (q : Int) = some (.int v) := by
              have := atI_map (f := V.int) (xs := r.b.s.set q v) (i := q) (x := v) (by rw [List.getElem?_set]; simp [hq3])
              rwa [List.map_set] at this
            walk_at "kk"
            refine put_s S3 (blks_at hr) ra rfl hq3 fun H3 S4 f4 => ?_
            obtain ⟨Z4, st4⟩ := S2.Z.upS (r' := r1) (H2 := H3) (l := [wd]) hr (by rw [hr1]) (by rw [hr1]) (by rw [hr1]) (by rw [hr1]) (by rw [hr1]) (by rw [hr1]; exact S4) (by rw [hr1, List.map_set]; exact f4) (by simp)
            exact fin _ _ Z4 (flatlen_set hr (by rw [hr1]; simp)) st4
          · exact h _ _ _ _ _ S2 tl1 hT2
        · split
          · refine ⟨div_s (by omega), ?_⟩
            refine ⟨_, rfl, fun v => ?_⟩
            obtain ⟨r1, hr1⟩ : ∃ r1 : RE, r1 = { r with b := { r.b with k := v } } := ⟨_, rfl⟩
            have eb : reV r1 = .lst [.int r.b.n, .int v, .ref r.sl, .bl r.b.al] := by rw [hr1]; rfl
            have S3 : Sto a.Store (upd H2 r.el (.lst [.int r.b.n, .int v, .ref r.sl, .bl r.b.al])) st wd pl rm en (blks L) := S2.Z.stE hr
            walk_at "kk"
            refine setKind_s S3 (blks_at hr) ra rfl fun H3 S4 f4 => ?_
            obtain ⟨Z4, st4⟩ := S2.Z.upE (r' := r1) (H2 := H3) (l := [wd]) hr (by rw [hr1]) (by rw [hr1]) (by rw [hr1]) (by rw [hr1]; exact S4) (by rw [eb]; exact f4) (by simp)
            exact fin _ _ Z4 (flatlen_set hr (by rw [hr1])) st4
          · split
            · obtain ⟨r1, hr1⟩ : ∃ r1 : RE, r1 = { r with b := { r.b with al := false } } := ⟨_, rfl⟩
              have eb : reV r1 = .lst [.int r.b.n, .int r.b.k, .ref r.sl, .bl false] := by rw [hr1]; rfl
              have S3 : Sto a.Store (upd H2 r.el (.lst [.int r.b.n, .int r.b.k, .ref r.sl, .bl false])) st wd pl rm en (blks L) := S2.Z.stE hr
              walk_at "kk"
              refine drop_s S3 (blks_at hr) ra rfl fun H3 S4 f4 => ?_
              obtain ⟨Z4, st4⟩ := S2.Z.upE (r' := r1) (H2 := H3) (l := [st, pl]) hr (by rw [hr1]) (by rw [hr1]) (by rw [hr1]) (by rw [hr1]; exact S4) (by rw [eb]; exact f4) (by simp)
              exact fin _ _ Z4 (flatlen_set hr (by rw [hr1])) st4
            · walk_at "kk"
              refine exchange_s St2 (by rw [List.length_map]; omega) (blks_at hr) ra rfl (blks_at hu) ua rfl fun H9 S9 f9 => ?_
              have R2 := S2.Z.R.fr f9 fun y hy z => S2.Z.sep y (by simp at z; rcases z with rfl | rfl <;> simp) hy
              obtain ⟨e1, he1⟩ : ∃ e1 : RE, e1 = { r with b := { r.b with n := u.b.n } } := ⟨_, rfl⟩
              obtain ⟨f1, hf1⟩ : ∃ f1 : RE, f1 = { u with b := { u.b with n := r.b.n } } := ⟨_, rfl⟩
              have R3 := R2.setE (r' := e1) hr (by rw [he1]) (by rw [he1]) (by rw [he1])
              obtain ⟨g, hg, g1, g2, g3, g4⟩ : ∃ g, (L.set i e1)[j]? = some g ∧ g.el = u.el ∧ g.sl = u.sl ∧ g.b.s = u.b.s ∧ (∀ y, reV { g with b := { g.b with n := y } } = reV { u with b := { u.b with n := y } }) := by
                rw [getR hr]
                by_cases c : j = i
                · subst c; rw [hr] at hu; cases hu
                  exact ⟨e1, if_pos rfl, by rw [he1], by rw [he1], by rw [he1], fun y => by rw [he1]⟩
                · exact ⟨u, by rw [if_neg c]; exact hu, rfl, rfl, rfl, fun y => rfl⟩
              have R4 := R3.setE (r' := f1) hg (by rw [g1, hf1]) (by rw [g2, hf1]) (by rw [g3, hf1])
              have v1 := (R2.it i r hr).1
              have v2 := (R2.it j u hu).1
              have v3 := (R3.it j g hg).1
              rw [g1] at v3 R4
              unfold reV at v1 v2
              have eb : reV e1 = .lst [.int u.b.n, .int r.b.k, .ref r.sl, .bl r.b.al] := by rw [he1]; rfl
              rw [eb] at v3 R4
              have gb : reV g = .lst [.int g.b.n, .int u.b.k, .ref u.sl, .bl u.b.al] := by
                have := g4 g.b.n
                unfold reV at this ⊢
                simpa using this
              rw [gb] at v3
              have fb : reV f1 = .lst [.int r.b.n, .int u.b.k, .ref u.sl, .bl u.b.al] := by rw [hf1]; rfl
              rw [fb] at R4
              walk_at "kk"
              have sp1 := sep_set (r' := e1) S2.Z.sep hr (by rw [he1]) (by rw [he1])
              have sp2 := sep_set (r' := f1) sp1 hg (by rw [g1, hf1]) (by rw [g2, hf1])
              refine fin _ ((L.set i e1).set j f1) ⟨?_, R4, sp2⟩ ?_ ?_
              · have S5 := S9.fr (l := [r.el, u.el]) ((Fr.upd (a := r.el) (o := .lst [.int u.b.n, .int r.b.k, .ref r.sl, .bl r.b.al]) (by simp)).trans (Fr.upd (a := u.el) (o := .lst [.int r.b.n, .int u.b.k, .ref u.sl, .bl u.b.al]) (by simp))) ?_ ?_ ?_
                · rw [blks_set, blks_set, he1, hf1]; exact S5
                all_goals
                  have n1 := sepE S2.Z hr
                  have n2 := sepE S2.Z hu
                  simp only [List.mem_cons, List.not_mem_nil, or_false, not_or] at n1 n2 ⊢
                · exact ⟨Ne.symm n1.1, Ne.symm n2.1⟩
                · exact ⟨Ne.symm n1.2.1, Ne.symm n2.2.1⟩
                · exact ⟨Ne.symm n1.2.2, Ne.symm n2.2.2⟩
              · rw [blks_set, blks_set, he1, hf1]
                have := congrArg List.length (flat_exch (blks_at hr) (blks_at hu))
                unfold exch at this
                rw [this]; simp
              · refine ⟨((f9.mono fun y hy => inS (by simp at hy; rcases hy with rfl | rfl <;> simp)).trans ((Fr.upd (inR (el_fpR hr))).trans (Fr.upd (inR (el_fpR hu))))), fun y hy => .inl ?_⟩
                exact (fpSR_set hr (by rw [he1]) (by rw [he1])).mp ((fpSR_set hg (by rw [g1, hf1]) (by rw [g2, hf1])).mp hy)
end
end K02

set_option Elab.async false
set_option linter.all false
set_option maxRecDepth 100000
set_option maxHeartbeats 4000000
namespace K02
open PySem PySem.Spec PyProof.Rows L2 KW ST
local macro_rules | `(tactic| walk_at "kw") => `(tactic| simp only [tSeq, tNext, tIfS, tTest, tAnd, tOr, tNot, tAndV, tOrV, tNotV, tIf, tChain, tOp, tUn, tC, tAsg, gName, gSub, gCons, gNil, tRet, tRetN, tDrop, tCons, tNil, tCB, tAug, tSl, tPart, tNoPart, tLst, tTup, tBM, tBM0, uTest, uFor, iRng1, iRng2, iList, uCall, List.map_cons, List.map_nil, List.length_cons, List.length_nil, List.cons_append, List.nil_append, List.replicate, Nat.zero_add, Nat.reduceAdd, Nat.reduceSub, List.getElem?_cons_zero, List.getElem?_cons_succ, List.set_cons_zero, List.set_cons_succ, V.bl.injEq, V.int.injEq, V.str.injEq, V.ref.injEq, V.ty.injEq, List.cons.injEq, and_true, true_and, exists_eq_left', exists_eq_right, exists_eq_left, exists_and_left, exists_and_right, decide_eq_true_eq, Bool.not_eq_true', decide_eq_false_iff_not, Bool.false_eq_true, if_true, if_false, ite_true, ite_false, Bool.not_true, Bool.not_false, reduceCtorEq, decide_true, decide_false, Bool.not_not, isK_int_int, isK_int_bool, isK_int_str, isK_int_list, isK_int_tuple, isK_bool_int, isK_bool_bool, isK_bool_str, isK_str_str, isK_str_int, isK_str_bool, isK_str_tuple, isK_str_list, isK_list_list, isK_list_tuple, isK_tuple_tuple, isK_tuple_list, isOk_int_int, isOk_int_bool, isOk_int_str, isOk_int_list, isOk_int_tuple, isOk_bool_int, isOk_bool_bool, isOk_bool_str, isOk_str_str, isOk_str_int, isOk_str_bool, isOk_str_tuple, isOk_str_list, isOk_list_list, isOk_list_tuple, isOk_tuple_tuple, isOk_tuple_list, isK_dict_dict, isOk_dict_dict, isK_none_int, isK_none_bool, isOk_none_int, isOk_none_bool, tyV, S_inj, S_cat, L2.start, Nat.reduceSub, List.replicate_succ, List.replicate_zero, and_assoc, List.append_nil, Nat.reduceEqDiff, Option.some.injEq, Int.natCast_inj, upd_upd, Int.reducePow, Int.reduceToNat, Int.reduceMul, Int.reduceAdd, Int.reduceSub, Int.reduceLT, Int.reduceLE, Int.reduceNeg, Int.reduceDiv, Int.reduceMod, Nat.reducePow, Nat.reduceMul, S_len, List.length_append, List.length_map, List.length_range, not_true_eq_false, not_false_eq_true, ne_eq, uAdd_e1, uAdd_e2, uSub_e1, uMod_e1, uDiv_e1, uPow_e1, uShl_e1, uNeg_e1, uIAdd_e1, uIAdd_e2, uIAdd_e3, uISub_e1, uLt_e1, uLt_e2, uLe_e1, uGt_e1, uGe_e1, uEq_e1, uEq_e2, uEq_e3, uEq_e4, uEq_e5, uEq_e6, uEq_e7, uEq_e8, uEq_e9, uEq_e10, uEq_e11, uNe_e1, uNe_e2, uNe_e3, uNe_e4, uNe_e5, uNe_e6, uNe_e7, uNe_e8, uNe_e9, uNe_e10, uNe_e11, uIs_e1, uIs_e2, uIs_e3, uIs_e4, uIs_e5, uIs_e6, uNotIs_e1, uNotIs_e2, uNotIs_e3, uNotIs_e4, uNotIs_e5, uNotIs_e6, uIn_e1, uIn_e2, uIn_e3, uIn_e4, uNotIn_e1, uNotIn_e2, uNotIn_e3, uNotIn_e4, uTru_e1, uTru_e2, uTru_e3, uTru_e4, uIx_e2, uSl_e2, uLen_e1, uAbs_e1, uInt_e1, uInt_e2, uMin2_e1, uIsi_e1, uIsi_e2, uIsi_e3, uIsi_e4, cx_K, uVar_0, uVar_n, uFld, uSFld, uMet, uMake, tDG, tDI, tDNI, tDP, tDD, uMk, uRaise, uDelSl, tCallS, L2.WE, uStr_e1, uStr_e2, uMul2_e1, uMul2_e2, okS_i, okS_s, List.zip_cons_cons, List.zip_nil_left, List.drop_zero, List.drop_succ_cons, List.drop_nil, putF_nil, putF_cons, eq_self, tDNewK, tB, Option.isSome_some, Option.isSome_none, false_and, false_or, or_false, exists_false, Int.zero_add, uLc, wipe, tYes, isEmpty_app, List.isEmpty_cons, List.isEmpty_nil, List.isEmpty_map, Bool.and_false, Bool.and_true, iRev, K02.lit_0, K02.lit_2, K02.fe_room_entries, K02.fe_room_words, K02.fe_room__places, K02.fe_room__least, K02.fe_entries_room, K02.fe_entries_words, K02.fe_entries__places, K02.fe_entries__least, K02.fe_words_room, K02.fe_words_entries, K02.fe_words__places, K02.fe_words__least, K02.fe__places_room, K02.fe__places_entries, K02.fe__places_words, K02.fe__places__least, K02.fe__least_room, K02.fe__least_entries, K02.fe__least_words, K02.fe__least__places, K02.fl_room_0, K02.lf_room_0, K02.fl_room_2, K02.lf_room_2, K02.N_Store_init, K02.N_Store_used, K02.N_Store_exists, K02.N_Store_numbers, K02.N_Store_free_number, K02.N_Store_allocate, K02.N_Store_size, K02.N_Store_kind, K02.N_Store_set_kind, K02.N_Store_get, K02.N_Store_put, K02.N_Store_slots, K02.N_Store_drop, K02.N_Store_close_up, K02.N_Store_snapshot, K02.N_Store_restore, K02.N_Store_exchange, K02.N__law_number, K02.N__law_deeds, K02.N__law_word, K02.N__law_is, K02.N__law_same, K02.N__law_flat, K02.N__law_living, K02.N__law_free, K02.N__law_copy, K02.N__law_allocated, K02.N__law_changed, K02.N__law_agrees, K02.N__law_deed, K02.N_law])
local macro_rules | `(tactic| walk_at "nn") => `(tactic| first | assumption | exact ne_un (by assumption) | exact ne_un (ne_un (by assumption)) | exact ne_un (ne_un (ne_un (by assumption))) | exact ne_un (ne_un (ne_un (ne_un (by assumption)))))
local macro_rules | `(tactic| walk_at "ne") => `(tactic| first | assumption | (apply Ne.symm; assumption) | exact ne_ud (by assumption) | exact Ne.symm (ne_ud (by assumption)) | exact ne_ud (ne_un (by assumption)) | exact Ne.symm (ne_ud (ne_un (by assumption))) | exact ne_ud (ne_un (ne_un (by assumption))) | exact Ne.symm (ne_ud (ne_un (ne_un (by assumption)))) | exact ne_m (by assumption) (by assumption) | exact Ne.symm (ne_m (by assumption) (by assumption)) | exact ne_n (by assumption) (by walk_at "nn") | exact Ne.symm (ne_n (by assumption) (by walk_at "nn")))
local macro_rules | `(tactic| walk_at "hp") => `(tactic| first | assumption | exact upd_same | (refine Eq.trans (upd_ne ?_) ?_; (focus walk_at "ne"); walk_at "hp"))
local macro_rules | `(tactic| walk_at "sc") => `(tactic| first | (with_reducible assumption) | omega | exact le_line (by (try simp only [List.length_map, List.length_append, List.length_cons, List.length_nil, S_len]); omega) | exact div_s (by omega) | exact mul_r (by omega) | exact mul_l (by omega) | exact pow_s (by omega) | exact mul2_r (by omega) | exact mul2_l (by omega) | exact small4300 (by omega) | exact lt_line (by (try simp only [List.length_map, List.length_append, List.length_cons, List.length_nil, S_len]); omega) | exact ⟨_, by assumption⟩ | (guard_target =~ Exists _; exact ⟨_, .of (by walk_at "hp")⟩) | (guard_target =~ _ ∨ _; exact .inl ⟨_, by assumption⟩) | (guard_target =~ _ ∨ _; exact .inl ⟨_, .of (by walk_at "hp")⟩) | (guard_target =~ _ ∨ _; exact .inr (.inr (.inl ⟨rfl, .inl ⟨_, by walk_at "hp"⟩⟩))) | decide)
local macro_rules | `(tactic| walk_at "kr") => `(tactic| first | (guard_target =~ _ ∧ _; first | refine And.intro (by walk_at "sc") ?_) | (guard_target =~ KW.uIx _ _ _ _ _; first | refine ix_l (by walk_at "hp") (by first | walk_at "hv" | rfl) ?_ | refine ix_t (by walk_at "hp") (by first | walk_at "hv" | rfl) ?_ | refine ix_sl (by assumption) (by walk_at "hv") ?_) | (guard_target =~ KW.uLen _ _ _ _; first | refine len_l (by walk_at "hp") ?_ | refine len_t (by walk_at "hp") ?_ | refine len_sl (by assumption) ?_) | (guard_target =~ KW.uSet _ _ _ _ _; first | refine set_l (by walk_at "hp") (by first | walk_at "hv" | rfl) ?_) | (guard_target =~ L2.gTup _ _ _ _ _ _ _; first | refine tup_l (by walk_at "hp") (by rfl) ?_) | (guard_target =~ KW.uGet _ _ _ _ _; first | refine get_l (by walk_at "hp") (by walk_at "hc") (by decide) (by rfl) ?_) | (guard_target =~ KW.uPut _ _ _ _ _ _; first | refine put_l (by walk_at "hp") (by walk_at "hc") (by decide) (by simp) ?_) | (guard_target =~ KW.uMet.uMt _ _ _ _ _ _ _ _ _; first | refine met_l (by walk_at "hp") (by rfl) ?_) | (guard_target =~ KW.uMet.uMt _ _ _ _ _ _ _ _ _; first | refine ST.met_s (by assumption) (by decide) ?_) | (guard_target =~ ST.spExists _ _ _ _ _; first | refine ST.exists_s (by assumption) ?_) | (guard_target =~ ST.spUsed _ _ _ _ _; first | refine ST.used_s (by assumption) ?_) | (guard_target =~ KW.uGet _ _ _ _ _; first | refine ST.words_s (by assumption) (by walk_at "hc") (by decide) ?_) | (guard_target =~ KW.uDIn _ _ _ _; first | refine din_i (by walk_at "hp") ?_ | refine din_s (by walk_at "hp") ?_) | (guard_target =~ KW.uDGet _ _ _ _; first | refine dget_i (by walk_at "hp") (by walk_at "hv") ?_ | refine dget_s (by walk_at "hp") (by walk_at "hv") ?_) | (guard_target =~ KW.uDPut _ _ _ _ _; first | refine dput_i (by walk_at "hp") (by walk_at "sc") ?_ | refine dput_s (by walk_at "hp") (by walk_at "sc") ?_) | (guard_target =~ KW.uDDel _ _ _ _; first | refine ddel_i (by walk_at "hp") (by walk_at "hv") ?_ | refine ddel_s (by walk_at "hp") (by walk_at "hv") ?_) | (guard_target =~ KW.uMul2 _ _ _ _; first | refine rep_l (by walk_at "hp") (by walk_at "sc") (by walk_at "sc") (by walk_at "sc") ?_) | (guard_target =~ L2.rAppend _ _ _ _; first | refine app_l (by walk_at "hp") (by walk_at "sc") ?_) | (guard_target =~ L2.rPop _ _ _ _; first | refine pop_l (by walk_at "hp") (by walk_at "hv") ?_ | refine pops_l (by walk_at "hp") ?_) | (guard_target =~ L2.rClear _ _ _ _; first | refine clr_l (by walk_at "hp") ?_) | (guard_target =~ L2.rReverse _ _ _ _; first | refine rev_l (by walk_at "hp") ?_) | (guard_target =~ L2.rExtend _ _ _ _; first | refine ext_l (by walk_at "hp") (by walk_at "hp") (by walk_at "sc") ?_) | (guard_target =~ KW.uAdd _ _ _ _ _; first | refine ucat_l (by walk_at "hp") (by walk_at "hp") (by walk_at "sc") ?_) | (guard_target =~ KW.uSl _ _ _ _ _ _; first | refine usl_l (by walk_at "hp") ?_) | (guard_target =~ KW.uTru _ _ _ _; first | refine tru_l (by walk_at "hp") ?_ | refine tru_t (by walk_at "hp") ?_ | refine tru_d (by walk_at "hp") ?_ | refine tru_sl (by assumption) ?_) | (guard_target =~ L2.rIndex _ _ _ _ _; first | refine idx_s (by walk_at "hp") (by assumption) ?_ | refine idx_i (by walk_at "hp") (by assumption) ?_) | (guard_target =~ L2.rIn _ _ _ _ _ _; first | refine in_s (by walk_at "hp") ?_ | refine nin_s (by walk_at "hp") ?_ | refine in_i (by walk_at "hp") ?_ | refine nin_i (by walk_at "hp") ?_) | (guard_target =~ KW.uIsi _ _ _ _; first | refine isi_l (by walk_at "hp") (by decide +kernel) ?_ | refine isi_t (by walk_at "hp") (by decide +kernel) ?_ | refine isi_d (by walk_at "hp") (by decide +kernel) ?_) | (guard_target =~ KW.uList _ _ _ _; first | refine list_l (by walk_at "hp") ?_ | refine list_t (by walk_at "hp") ?_ | refine list_sl (by assumption) ?_) | (guard_target =~ KW.uDict _ _ _; first | refine dict_d (by walk_at "hp") ?_) | (guard_target =~ KW.uSorted _ _ _ _; first | refine srt_l (by walk_at "hp") ?_) | (guard_target =~ KW.uSum _ _ _ _; first | refine sum_l (by walk_at "hp") ?_) | (guard_target =~ KW.uDelC _ _ _ _; first | refine dels_l (by walk_at "hp") (by walk_at "sc") ?_) | (guard_target =~ L2.wAs _ _ _ _ _ _ _ _ _ _; first | refine as_yes (by walk_at "hx") ?_ | refine as_no (by walk_at "hx") ?_) | (guard_target =~ KW.uEf _ _ _ _ _ _ _ _ _; first | refine ef_l (by walk_at "he") (by decide) (by rfl) (by walk_at "hp") (by rfl) ?_) | (guard_target =~ KW.uIsE _ _ _ _ _ _ _; first | refine isE_r (by walk_at "he") (by walk_at "hp") (by walk_at "hk") ?_ | refine isE_t (by walk_at "he") (by walk_at "hp") (by walk_at "hk") ?_))
local macro_rules | `(tactic| walk_at "hv") => `(tactic| first | assumption)
local macro_rules | `(tactic| walk_at "kk") => `(tactic| repeat (first | walk_at "kw" | walk_at "kr"))
local macro_rules | `(tactic| walk_at "hc") => `(tactic| first | exact K02.Txt.c_Store (by assumption))
local macro_rules | `(tactic| walk_at "he") => `(tactic| first | exact K02.Txt.e_NoRoom (by assumption) | exact K02.Txt.e_NoNumber (by assumption))
local macro_rules | `(tactic| walk_at "hx") => `(tactic| first | exact K02.Txt.x_NoRoom_KilnwardenError (by assumption) | exact K02.Txt.x_NoRoom_NoNumber (by assumption) | exact K02.Txt.x_NoNumber_KilnwardenError (by assumption) | exact K02.Txt.x_NoNumber_NoNumber (by assumption))
local macro_rules | `(tactic| walk_at "hk") => `(tactic| first | exact K02.Txt.i_NoRoom_NoNumber (by assumption) | exact K02.Txt.i_NoRoom_NoRoom (by assumption) | exact K02.Txt.i_NoNumber_NoNumber (by assumption) | exact K02.Txt.i_NoNumber_NoRoom (by assumption))

section
variable {P : Program} {w : World} {K : Frag} {mg : Str → Option Value} {base : Heap} {a : Ads}
theorem ok__law_deed (T : Txt P w K mg a) (TB : LamX.TabB base mg a.c_Store_close_up a.p_Store_close_up) : Cal P w K mg base 4 "_law_deed" (spDeed a.Store a.p_Store_close_up ("Store.close_up" ++ ".<locals>." ++ "<lambda>")) := by
  have C__law_allocated := ok__law_allocated (P := P) (w := w) (base := base) T
  have C__law_word := ok__law_word (P := P) (w := w) (base := base) T
  have C__law_changed := ok__law_changed (P := P) (w := w) (base := base) T TB
  have C__law_agrees := ok__law_agrees (P := P) (w := w) (base := base) T
  refine T.d__law_deed.ok sc__law_deed (fun vs H Q E h => ?_) (fun f cdv A outer s H vs Q E hr h => ⟨_, (C8.pss_cut (ps_if (pt_cmpR o_lt (pe_op o_mod (pe_callTy c_int (by rfl) T.n_int (by decide +kernel) (pa_cons (kv 4) pa_nil)) pe_int) pe_int (nomark _))
      (pss_cons (ps_set (i := 5) sc__law_deed.nd rfl (Or.inl rfl) (pe_op o_mod (pe_op o_fdiv (kv 4) pe_int) pe_int))
      (C8.pss_cut (ps_if (pt_cmpR (o_eq hr.units) (pe_op o_mod (pe_op o_fdiv (kv 4) pe_int) pe_int) pe_int (nomark _))
      (pss_one (ps_set (i := 5) sc__law_deed.nd rfl (Or.inl rfl) (pe_op o_mod (pe_op o_fdiv (kv 4) pe_int) pe_int)))
      pss_nil)
      (pss_one (ps_if (pt_not (kt (kc C__law_allocated (hr.mono (by decide)) (pa_cons (kv 0) (pa_cons (kv 1) (pa_cons (kv 3) (pa_cons (kc C__law_word (hr.mono (by decide)) (pa_cons (pe_op o_fdiv (kv 4) pe_int) pa_nil)) (pa_cons (kv 5) pa_nil))))))))
      (pss_one (ps_ret pe_bl))
      pss_nil))))
      (pss_one (ps_expr (kc C__law_changed (hr.mono (by decide)) (pa_cons (kv 0) (pa_cons (kv 1) (pa_cons (kv 2) (pa_cons (pe_op o_mod (pe_callTy c_int (by rfl) T.n_int (by decide +kernel) (pa_cons (kv 4) pa_nil)) pe_int) (pa_cons (kv 4) pa_nil)))))))))
      (pss_one (ps_ret (kc C__law_agrees (hr.mono (by decide)) (pa_cons (kv 0) (pa_cons (kv 1) (pa_cons (pe_ix o_ix (kv 3) pe_int (fun _ _ => rfl)) (pa_cons (pe_op o_fdiv (kv 4) pe_int) pa_nil)))))))), ?_⟩)
  · obtain ⟨_, _, _, _, _, _, _, _, _, _, _, _, rfl, _⟩ := h; rfl
  · obtain ⟨st, wd, pl, rw, tk, lm, X, rm, en, L, TL, x, rfl, S, r1, e0, e1, tl, hT, h⟩ := h
    generalize a.p_Store_close_up = P0 at *
    have lt := S.lt
    walk_at "kk"
    refine ⟨fun σ H' => ∃ v5 wd pl L TL', σ = [some (.ref st), some (.ref rw), some (.ref tk), some (.ref lm), some (.int x), v5] ∧ S2 a.Store H' st wd pl rw tk lm X rm en L TL' ∧ TL'.length ≤ TL.length + 1 ∧ LamX.TabS H' P0 ("Store.close_up" ++ ".<locals>." ++ "<lambda>"), ?_, ?_⟩
    · walk_at "kk"
      split
      · refine ⟨div_s (by omega), fun σ H' => ∃ n : Nat, σ = [some (.ref st), some (.ref rw), some (.ref tk), some (.ref lm), some (.int x), some (.int (n : Nat))] ∧ n ≤ 1000 ∧ H' = H, ?_, ?_⟩
        · walk_at "kk"
          split
          · exact ⟨div_s (by omega), (x / 1280 % 80).toNat, by omega, by omega⟩
          · exact ⟨(x / 16 % 5).toNat, by omega, by omega⟩
        rintro σ H1 ⟨n, rfl, hn, rfl⟩
        walk_at "kk"
        refine ⟨x / 1280, rfl, fun v => ?_⟩
        refine ⟨st, wd, pl, rw, lm, rm, en, L, v, n, rfl, S.Z, S.lt, e0, e1, r1, S.fl, hn, fun L' H' Z' fl' s' => ?_⟩
        walk_at "kk"
        exact ⟨⟨_, rfl⟩, wd, pl, L', TL, S.step Z' fl' s', by omega, hT.frl s'.1 S.Z.pln⟩
      · walk_at "kk"
        exact ⟨st, wd, pl, rw, tk, lm, X, rm, en, L, TL, x % 16, x, rfl, S, r1, tl, hT, fun H' wd' pl' L' TL' S' t' hT' => ⟨wd', pl', L', TL', S', t', hT'⟩⟩
    clear S hT lt
    rintro σ H1 ⟨v5, wd, pl, L, TL1, rfl, S, tl1, hT⟩
    have lt := S.lt
    walk_at "kk"
    refine ⟨st, wd, pl, rw, rm, en, L, x / 16, rfl, S.Z, e0, e1, by have := S.fl; omega, fun H2 Z2 f2 => ?_⟩
    have ns : ∀ y ∈ fpT tk TL1, y ∉ [st] := fun y hy z => by
      rw [List.mem_singleton] at z
      exact S.sep y hy (by rw [z]; exact inS (by simp))
    have nl : ∀ b o, (b, o) ∈ X → b ∉ [st] := fun b o m z => (S.ot b o m).2.2.1 (by rw [List.mem_singleton] at z; rw [z]; exact inS (by simp))
    exact h H2 wd pl L TL1 ⟨Z2, S.T.fr f2 ns, S.sep, S.fl, f2 _ _ (fun z => by rw [List.mem_singleton] at z; exact tupSR S.Z S.lt (by rw [z]; exact inS (by simp))) S.lt, fun b o m => ⟨f2 _ _ (nl b o m) (S.ot b o m).1, (S.ot b o m).2⟩⟩ tl1 (hT.frl f2 fun y hy => S.Z.S.pln y (by rw [List.mem_singleton] at hy; rw [hy]; simp))
theorem ok_law (T : Txt P w K mg a) (TB : LamX.TabB base mg a.c_Store_close_up a.p_Store_close_up) : ∀ f fd, Fun K "law" "law" s_law f fd → FnOk P w K mg base (L2N.CX P w) 5 f fd ["script"] (sp_law63T K a.p_Store_close_up ("Store.close_up" ++ ".<locals>." ++ "<lambda>")) := by
  generalize hP0 : a.p_Store_close_up = P0
  have C__law_is := ok__law_is (P := P) (w := w) (base := base) T
  have C__law_deeds := ok__law_deeds (P := P) (w := w) (base := base) T
  have C__law_deed := ok__law_deed (P := P) (w := w) (base := base) T TB
  rw [hP0] at C__law_deed
  have I_Store := ok_Store_init (P := P) (w := w) (base := base) T
  refine DefAt.fn sc_law (fun vs H Q E h => ?_) (fun f cdv A outer s H vs Q E hr h => ⟨_, (C8.pss_cut (k_setLc (i := 1) (own := [("cell", 2)]) (g := gName 2) (by rfl) sc_law.nd rfl rfl (sw_true rfl rfl rfl (by decide +kernel)) (pi_list (kv 0)) (blkOk_by (own := [("cell", 2)]) (N := ["script", "cells", "cell", "room", "entries", "store", "row", "taken", "k", "x"]) (sc := defScope s_law) (by decide +kernel)) (fun _ _ _ _ _ => pg_name (i := 2) sc_law.nd rfl (Or.inl rfl)) (fun _ _ _ _ _ => pts_nil) (fun _ _ _ _ _ => by exact (pe_callTy c_int (by rfl) T.n_int (by decide +kernel) (pa_cons (kv 2) pa_nil))))
      (C8.pss_cut (ps_if (pt_not (kt (kv 1)))
      (pss_one (ps_set (i := 1) sc_law.nd rfl (Or.inl rfl) (pe_lst (pa_cons pe_int pa_nil))))
      pss_nil)
      (pss_cons (ps_set (i := 3) sc_law.nd rfl (Or.inl rfl) (pe_op o_mod (pe_callTy c_int (by rfl) T.n_int (by decide +kernel) (pa_cons (pe_ix o_ix (kv 1) pe_int (fun _ _ => rfl)) pa_nil)) pe_int))
      (C8.pss_cut (ps_if (pt_cmpR (o_eq hr.units) (pe_op o_mod (pe_op o_fdiv (pe_ix o_ix (kv 1) pe_int (fun _ _ => rfl)) pe_int) pe_int) pe_int (nomark _))
      (pss_one (ps_set (i := 3) sc_law.nd rfl (Or.inl rfl) (pe_op o_add pe_int (pe_op o_mod (pe_op o_fdiv (pe_ix o_ix (kv 1) pe_int (fun _ _ => rfl)) pe_int) pe_int))))
      pss_nil)
      (pss_cons (ps_set (i := 4) sc_law.nd rfl (Or.inl rfl) pe_int)
      (C8.pss_cut (ps_if (pt_cmpR (o_eq hr.units) (pe_op o_mod (pe_op o_fdiv (pe_ix o_ix (kv 1) pe_int (fun _ _ => rfl)) pe_int) pe_int) pe_int (nomark _))
      (pss_one (ps_set (i := 4) sc_law.nd rfl (Or.inl rfl) (pe_op o_mod (pe_op o_fdiv (pe_ix o_ix (kv 1) pe_int (fun _ _ => rfl)) pe_int) pe_int)))
      pss_nil)
      (pss_cons (ps_set (i := 5) sc_law.nd rfl (Or.inl rfl) (kmk 0 I_Store (hr.mono (by decide)) (pa_cons (kv 3) (pa_cons (kv 4) pa_nil))))
      (C8.pss_cut (ps_if (PW.pt (pw_or (pt_not (kt (kc C__law_is (hr.mono (by decide)) (pa_cons (k_g T.g_HEADER) (pa_cons pe_int pa_nil))))) (pw_or (pt_not (kt (kc C__law_is (hr.mono (by decide)) (pa_cons (k_fld (kv 5) rfl) (pa_cons (kv 3) pa_nil))))) (pw_or1 (pt_not (kt (kc C__law_is (hr.mono (by decide)) (pa_cons (k_fld (kv 5) rfl) (pa_cons (kv 4) pa_nil)))))))))
      (pss_one (ps_ret pe_bl))
      pss_nil)
      (pss_cons (ps_set (i := 6) sc_law.nd rfl (Or.inl rfl) (pe_lst pa_nil))
      (pss_cons (ps_set (i := 7) sc_law.nd rfl (Or.inl rfl) (pe_lst pa_nil))
      (pss_cons (k_for (passes_of rfl) rfl (pi_range2 (by rfl) T.n_range (pa_cons pe_int (pa_cons (pe_callB c_len (by rfl) T.n_len (by decide +kernel) (pa_cons (kv 1) pa_nil)) pa_nil))) (pg_name (i := 8) sc_law.nd rfl (Or.inl rfl))
      (pss_one (k_for (passes_of rfl) rfl (pi_list (kc C__law_deeds (hr.mono (by decide)) (pa_cons (pe_ix o_ix (kv 1) (kv 8) (fun _ _ => rfl)) (pa_cons (kv 8) pa_nil)))) (pg_name (i := 9) sc_law.nd rfl (Or.inl rfl))
      (pss_one (ps_if (pt_not (kt (kc C__law_deed (hr.mono (by decide)) (pa_cons (kv 5) (pa_cons (kv 6) (pa_cons (kv 7) (pa_cons (pe_tup (pa_cons (kv 3) (pa_cons (kv 4) pa_nil))) (pa_cons (kv 9) pa_nil))))))))
      (pss_one (ps_ret pe_bl))
      pss_nil)))))
      (pss_one (ps_ret pe_bl))))))))))))), ?_⟩)
  · obtain ⟨sc, ns, rfl, _⟩ := h; rfl
  · obtain ⟨sc, ns, rfl, hS, hn, hT, h⟩ := h
    refine ⟨fun σ H' => ∃ ce cs, σ = [some (.ref sc), some (.ref ce), none, none, none, none, none, none, none, none] ∧ IL H' ce cs ∧ cs.length ≤ 63 ∧ LamX.TabS H' P0 ("Store.close_up" ++ ".<locals>." ++ "<lambda>"), ?_, ?_⟩
    · walk_at "kw"
      refine ⟨⟨_, hS⟩, ?_⟩
      refine lc_ii (fun n => some n) hS (lt_line (by omega)) ?_ ?_
      · intro i x D acc Cy Cn hx hD h1 h2
        walk_at "kk"
        exact h1 _ rfl
      intro D hD
      walk_at "kw"
      exact ⟨ns, by rw [List.filterMap_some]; exact upd_same, hn, hT.add hD⟩
    rintro σ H0 ⟨ce, cs, rfl, h0, hl0, hT0⟩
    walk_at "kk"
    refine ⟨fun σ H' => ∃ ce cs, σ = [some (.ref sc), some (.ref ce), none, none, none, none, none, none, none, none] ∧ IL H' ce cs ∧ 0 < cs.length ∧ cs.length ≤ 63 ∧ LamX.TabS H' P0 ("Store.close_up" ++ ".<locals>." ++ "<lambda>"), ?_, ?_⟩
    · walk_at "kk"
      split
      · walk_at "kk"
        intro ce2 hce2
        walk_at "kk"
        exact ⟨[7], upd_same, by simp, by simp, hT0.add hce2⟩
      · rename_i c
        walk_at "kk"
        refine ⟨cs, h0, ?_, hl0, hT0⟩
        cases cs with
        | nil => exact absurd rfl c
        | cons _ _ => exact Nat.succ_pos _
    rintro σ H1 ⟨ce, cs, rfl, h1, hl1, hl2, hT1⟩
    obtain ⟨c0, hc0⟩ : ∃ c0, cs[0]? = some c0 := ⟨_, List.getElem?_eq_getElem hl1⟩
    have a0 : atI (cs.map V.int) (0 : Int) = some (.int c0) := atI_map (i := 0) hc0
    walk_at "kk"
    refine ⟨fun σ H' => ∃ rm : Int, σ = [some (.ref sc), some (.ref ce), none, some (.int rm), none, none, none, none, none, none] ∧ 0 ≤ rm ∧ rm ≤ 1000 ∧ H' = H1, ?_, ?_⟩
    · walk_at "kk"
      split
      · walk_at "kk"
        omega
      · omega
    rintro σ H' ⟨rm, rfl, rm0, rm1, rfl⟩
    walk_at "kk"
    refine ⟨fun σ H'' => ∃ en : Int, σ = [some (.ref sc), some (.ref ce), none, some (.int rm), some (.int en), none, none, none, none, none] ∧ 0 ≤ en ∧ en ≤ 100000 ∧ H'' = H', ?_, ?_⟩
    · walk_at "kk"
      split
      · walk_at "kk"
        omega
      · trivial
    rintro σ H'' ⟨en, rfl, en0, en1, rfl⟩
    walk_at "kk"
    intro st dx hs hd hne
    refine ⟨st, dx, rm, en, rfl, upd_same, fun H2 wd pl S2' f2 hwd hpl => ⟨rfl, ?_⟩⟩
    have hT2 : LamX.TabS H2 P0 ("Store.close_up" ++ ".<locals>." ++ "<lambda>") := LamX.TabS.frl (l := [st]) ((hT1.add hd).add (by rw [upd_ne (Ne.symm hne)]; exact hs)) f2 fun y hy => ⟨_, by simp at hy; subst hy; exact upd_same, pln_ins⟩
    have e0 : H2 ce = some (.lst (cs.map V.int)) := f2 _ _ (by simp; exact ne_of_none h1 hs) (by walk_at "hp")
    have n1 : ce ≠ st := ne_of_none h1 hs
    have n2 : ce ≠ wd := ne_of_none h1 (by walk_at "nn")
    have n3 : ce ≠ pl := ne_of_none h1 (by walk_at "nn")
    refine ⟨fun σ H3 => σ = [some (.ref sc), some (.ref ce), none, some (.int rm), some (.int en), some (.ref st), none, none, none, none] ∧ H3 = H2, ?_, ?_⟩
    · obtain ⟨dx2, lo2, ob2, -⟩ := S2'.ob
      walk_at "kk"
      refine is_s ?_
      walk_at "kk"
      refine is_s ?_
      walk_at "kk"
      refine is_s ?_
      walk_at "kk"
    rintro σ H3 ⟨rfl, rfl⟩
    walk_at "kk"
    intro rw q1
    walk_at "kk"
    intro tk q2
    walk_at "kk"
    have F4 : KW.Fr [] H3 (upd (upd H3 rw (.lst [])) tk (.lst [])) := (Fr.new q1).trans (Fr.new q2)
    have g1 : upd (upd H3 rw (.lst [])) tk (.lst []) rw = some (.lst []) := by walk_at "hp"
    have g2 : upd (upd H3 rw (.lst [])) tk (.lst []) tk = some (.lst []) := upd_same
    have nrt : rw ≠ tk := ne_of_none upd_same q2
    have q2' : H3 tk = none := by walk_at "nn"
    have e4 := F4 _ _ (by simp) e0
    have S4 := S2'.fr F4 (by simp) (by simp) (by simp)
    have hT4 := hT2.fr0 F4
    have o1 : rw ∉ fpS st wd pl := notin_of q1 S2'.there
    have o2 : tk ∉ fpS st wd pl := notin_of q2' S2'.there
    have o3 : ce ≠ rw := ne_of_none e0 q1
    have o4 : ce ≠ tk := ne_of_none e0 q2'
    revert g1 g2 e4 S4 hT4
    generalize upd (upd H3 rw (.lst [])) tk (.lst []) = H4
    intro g1 g2 e4 S4 hT4
    clear F4 q1 q2 q2' e0 hT2 S2' f2 hwd hpl hs hd hne a0 hc0 h1 hT1 hT0 h0
    generalize hDD : ({ nx := _, rt := Q } : Ends) = DD
    obtain ⟨Pv, hPv⟩ : ∃ Pv : Nat → L2.St → Hp → Prop, Pv = fun i σ H' => ∃ v8 v9 wd pl L TL, σ = [some (.ref sc), some (.ref ce), none, some (.int rm), some (.int en), some (.ref st), some (.ref rw), some (.ref tk), v8, v9] ∧ SR a.Store H' st wd pl rw rm en L ∧ Tk H' tk TL rm ∧ (∀ x ∈ fpT tk TL, x ∉ fpSR st wd pl rw L) ∧ ((flat (blks L)).length : Int) ≤ rm ∧ TL.length ≤ 2 * i ∧ IL H' ce cs ∧ ce ∉ fpSR st wd pl rw L ∧ ce ∉ fpT tk TL ∧ LamX.TabS H' P0 ("Store.close_up" ++ ".<locals>." ++ "<lambda>") := ⟨_, rfl⟩
    refine for_rng Pv ?_ ?_ ?_
    · rw [hPv]
      refine ⟨_, _, wd, pl, [], [], rfl, ⟨S4, Row.nil g1, fun x hx z => ?_⟩, ⟨g2, by simp, by simp⟩, ?_, ?_, by simp, e4, ?_, ?_, hT4⟩
      · simp [fpR] at z; subst z; exact o1 hx
      · intro x hx
        simp [fpT] at hx; subst hx
        simp only [fpSR, List.mem_append, fpR, List.flatMap_nil, List.mem_singleton, not_or]
        exact ⟨o2, nrt.symm⟩
      · simpa [blks, flat] using rm0
      · simp only [fpSR, List.mem_append, fpR, List.flatMap_nil, List.mem_singleton, not_or]
        exact ⟨by simp [n1, n2, n3], o3⟩
      · simp [fpT, o4]
    · intro i σ H5 hi hp
      rw [hPv] at hp
      obtain ⟨v8, v9, wd, pl, L, TL, rfl, Z5, T5, s5, fl5, tl5, e5, c5, d5, hT5⟩ := hp
      obtain ⟨c, hc⟩ : ∃ c, cs[i + 1]? = some c := ⟨_, List.getElem?_eq_getElem (by omega)⟩
      have ac : atI (cs.map V.int) (1 + (i : Int)) = some (.int c) := by
        rw [show (1 + (i : Int)) = ((i + 1 : Nat) : Int) by omega]; exact atI_map hc
      subst hDD
      walk_at "kk"
      refine ⟨c, 1 + i, rfl, by omega, by omega, fun y z l q => ?_⟩
      refine ⟨l, rfl, ⟨_, .of upd_same⟩, ?_⟩
      have F6 : KW.Fr [] H5 (upd H5 l (.lst [.int y, .int z])) := Fr.new q
      have g6 : upd H5 l (.lst [.int y, .int z]) l = some (.lst [.int y, .int z]) := upd_same
      have Z6 := Z5.fr0 F6
      have T6 := T5.fr0 F6
      have e6 := F6 _ _ (by simp) e5
      have hT6 := hT5.fr0 F6
      have l1 : l ∉ fpSR st wd pl rw L := notin_of q Z5.there
      have l2 : l ∉ fpT tk TL := notin_of q T5.there
      revert g6 Z6 T6 e6 hT6
      clear F6
      generalize upd H5 l (.lst [.int y, .int z]) = H6
      intro g6 Z6 T6 e6 hT6
      clear q Z5 T5 e5 hT5
      generalize hDE : ({ nx := Pv (i + 1), rt := Q, bk := _, ct := _ } : Ends) = DE
      obtain ⟨Pw, hPw⟩ : ∃ Pw : Nat → L2.St → Hp → Prop, Pw = fun k σ H' => ∃ v9 wd pl L TL, σ = [some (.ref sc), some (.ref ce), none, some (.int rm), some (.int en), some (.ref st), some (.ref rw), some (.ref tk), some (.int (1 + (i : Int))), v9] ∧ SR a.Store H' st wd pl rw rm en L ∧ Tk H' tk TL rm ∧ (∀ x ∈ fpT tk TL, x ∉ fpSR st wd pl rw L) ∧ ((flat (blks L)).length : Int) ≤ rm ∧ TL.length ≤ 2 * i + k ∧ IL H' ce cs ∧ ce ∉ fpSR st wd pl rw L ∧ ce ∉ fpT tk TL ∧ H' l = some (.lst [.int y, .int z]) ∧ l ∉ fpSR st wd pl rw L ∧ l ∉ fpT tk TL ∧ LamX.TabS H' P0 ("Store.close_up" ++ ".<locals>." ++ "<lambda>") := ⟨_, rfl⟩
      refine for_lst (xs := [V.int y, V.int z]) Pw ?_ ?_ ?_ ?_
      · rw [hPw]; exact ⟨_, _, _, _, _, rfl, Z6, T6, s5, fl5, by omega, e6, c5, d5, g6, l1, l2, hT6⟩
      · intro k σ H' _ hp
        rw [hPw] at hp
        obtain ⟨_, _, _, _, _, -, -, -, -, -, -, -, -, -, g, -⟩ := hp
        exact .of g
      · intro k x σ H7 hx hp
        rw [hPw] at hp
        obtain ⟨v9, wd, pl, L, TL, rfl, Z7, T7, s7, fl7, tl7, e7, c7, d7, g7, l17, l27, hT7⟩ := hp
        have hk : k < 2 := (List.getElem?_eq_some_iff.mp hx).1
        obtain ⟨u, rfl⟩ : ∃ u, x = V.int u := by
          match k, hk, hx with
          | 0, _, hx => exact ⟨y, by simpa using hx.symm⟩
          | 1, _, hx => exact ⟨z, by simpa using hx.symm⟩
        subst hDE
        walk_at "kk"
        intro lm qm
        have F8 : KW.Fr [] H7 (upd H7 lm (.tup [.int rm, .int en])) := Fr.new qm
        refine ⟨st, wd, pl, rw, tk, lm, [(ce, .lst (cs.map V.int)), (l, .lst [.int y, .int z])], rm, en, L, TL, u, rfl, ⟨Z7.fr0 F8, T7.fr0 F8, s7, fl7, upd_same, fun b o m => ?_⟩, rm1, en0, by omega, by omega, hT7.fr0 F8, fun H9 wd9 pl9 L9 TL9 S9 tl9 hT9 => ?_⟩
        · simp only [List.mem_cons, List.not_mem_nil, or_false, Prod.mk.injEq] at m
          rcases m with ⟨rfl, rfl⟩ | ⟨rfl, rfl⟩
          · exact ⟨F8 _ _ (by simp) e7, pln_lst, c7, d7⟩
          · exact ⟨F8 _ _ (by simp) g7, pln_lst, l17, l27⟩
        obtain ⟨x1, -, x2, x3⟩ := S9.ot ce _ (List.mem_cons_self)
        obtain ⟨x4, -, x5, x6⟩ := S9.ot l (.lst [.int y, .int z]) (by simp)
        walk_at "kk"
        rw [hPw]
        exact ⟨_, _, _, _, _, rfl, S9.Z, S9.T, S9.sep, S9.fl, by omega, x1, x2, x3, x4, x5, x6, hT9⟩
      · intro σ H7 hp
        rw [hPw] at hp
        obtain ⟨v9, wd, pl, L, TL, rfl, Z7, T7, s7, fl7, tl7, e7, c7, d7, g7, l17, l27, hT7⟩ := hp
        subst hDE
        walk_at "kk"
        rw [hPv]
        exact ⟨_, _, _, _, _, _, rfl, Z7, T7, s7, fl7, by simp at tl7; omega, e7, c7, d7, hT7⟩
    · intro σ H5 hp
      rw [hPv] at hp
      obtain ⟨v8, v9, wd, pl, L, TL, rfl, -⟩ := hp
      subst hDD
      walk_at "kk"
      exact h _
end
end K02

set_option Elab.async false
set_option linter.all false
set_option maxRecDepth 100000
namespace K02
end K02
open PySem PySem.W PyProof.Rows
set_option maxRecDepth 100000 in
set_option maxHeartbeats 0 in
theorem PySem.Challenge.cw_kilnwarden_k02_store_is_a_list_holds : PySem.Challenge.rw_kilnwarden_k02_store_is_a_list.Holds := by
  w_on; o_law; k_head; (case hw => w_witness2)
  k_fill
  refine KW.walk63T (k := 5) (l := PySem.Challenge.rw_kilnwarden_k02_store_is_a_list) (st := K02.s_law) rfl rfl rfl ⟨rfl, by decide, by decide⟩ (fun w h Y => PySem.W.km_in_of Y) (fun _ _ _ _ _ _ us hl => match us, hl with | [_], _ => rfl) ?F
  case F =>
    intro w mg h Y KX G
    have hT8 := PySem.W.km_tabs_of Y
    have T : ∃ a : K02.Ads, K02.Txt PySem.Challenge.rw_kilnwarden_k02_store_is_a_list.prog w (L2.KOf KX) mg a ∧ h.get? a.p_Store_close_up = some { cls := .none, data := .fields #[] } := by
      delta L2.KOf
      refine' K02.Txt.exT ?T ?hp
      case hp => exact hT8 _ (List.Mem.head _)
      case T =>
        constructor
        all_goals (try dsimp only)
        case g_KilnwardenError => refine' PySem.W.mg_of KX G ?za; (case za => k_is)
        case g_NoRoom => refine' PySem.W.mg_of KX G ?za; (case za => k_is)
        case g_NoNumber => refine' PySem.W.mg_of KX G ?za; (case za => k_is)
        case g_Store => refine' PySem.W.mg_of KX G ?za; (case za => k_is)
        case e_NoRoom =>
          refine' PySem.KErr_need.err_mk K02.s_NoRoom_init KX G ?zaC ?zxL ?zbmv ?zsup ?zsa ?zno ?za1 ?zt1 ?zkC ?zeC ?zvC ?ztC ?zown ?ztp ?zdg ?znsup ?znstr ?zhst ?zl1 ?zc1 ?zmc ?zac ?zce ?zco ?zcf ?zcg ?ztop ?zhg ?zhk ?zhd ?zha ?zhn ?zht ?zhm
          (case zaC => k_is)
          (case zxL => k_is)
          (case zbmv => first | rfl | decide +kernel)
          (case zsup => ks_is)
          (case zsa => k_is)
          (case zno => k_is)
          (case za1 => k_is)
          (case zt1 => k_is)
          (case zkC => k_is)
          (case zeC => k_is)
          (case zvC => k_is)
          (case ztC => k_is)
          (case zown => k_is)
          (case ztp => k_is)
          (case zdg => k_is)
          (case znsup => k_is)
          (case znstr => k_is)
          (case zhst => exact ⟨rfl, rfl, rfl⟩)
          (case zl1 => k_is)
          (case zc1 => k_is)
          (case zmc => exact fun env => ⟨_, rfl⟩)
          (case zac => exact fun env => rfl)
          (case zce => k_is)
          (case zco => k_is)
          (case zcf => first | rfl | k_is)
          (case zcg => first | decide +kernel | k_is)
          (case ztop => first | decide +kernel | k_is)
          (case zhg => k_is)
          (case zhk => k_is)
          (case zhd => k_is)
          (case zha => k_is)
          (case zhn => k_is)
          (case zht => k_is)
          (case zhm => k_is)
        case x_NoRoom_KilnwardenError => refine' PySem.W.exm_ref ?za ?zb ?zc ?zd; (case za => k_is); (case zb => k_is); (case zc => k_is); (case zd => k_is)
        case x_NoRoom_NoNumber => refine' PySem.W.exm_ref ?za ?zb ?zc ?zd; (case za => k_is); (case zb => k_is); (case zc => k_is); (case zd => k_is)
        case i_NoRoom_NoNumber => kit_is
        case i_NoRoom_NoRoom => kit_is
        case e_NoNumber =>
          refine' PySem.KErr_limit.err_mk K02.s_NoNumber_init KX G ?zaC ?zxL ?zbmv ?zsup ?zsa ?zno ?za1 ?zt1 ?zkC ?zeC ?zvC ?ztC ?zown ?ztp ?zdg ?znsup ?znstr ?zhst ?zl1 ?zc1 ?zmc ?zac ?zce ?zco ?zcf ?zcg ?ztop ?zhg ?zhk ?zhd ?zha ?zhn ?zht ?zhm
          (case zaC => k_is)
          (case zxL => k_is)
          (case zbmv => first | rfl | decide +kernel)
          (case zsup => ks_is)
          (case zsa => k_is)
          (case zno => k_is)
          (case za1 => k_is)
          (case zt1 => k_is)
          (case zkC => k_is)
          (case zeC => k_is)
          (case zvC => k_is)
          (case ztC => k_is)
          (case zown => k_is)
          (case ztp => k_is)
          (case zdg => k_is)
          (case znsup => k_is)
          (case znstr => k_is)
          (case zhst => exact ⟨rfl, rfl, rfl⟩)
          (case zl1 => k_is)
          (case zc1 => k_is)
          (case zmc => exact fun env => ⟨_, rfl⟩)
          (case zac => exact fun env => rfl)
          (case zce => k_is)
          (case zco => k_is)
          (case zcf => first | rfl | k_is)
          (case zcg => first | decide +kernel | k_is)
          (case ztop => first | decide +kernel | k_is)
          (case zhg => k_is)
          (case zhk => k_is)
          (case zhd => k_is)
          (case zha => k_is)
          (case zhn => k_is)
          (case zht => k_is)
          (case zhm => k_is)
        case x_NoNumber_KilnwardenError => refine' PySem.W.exm_ref ?za ?zb ?zc ?zd; (case za => k_is); (case zb => k_is); (case zc => k_is); (case zd => k_is)
        case x_NoNumber_NoNumber => refine' PySem.W.exm_ref ?za ?zb ?zc ?zd; (case za => k_is); (case zb => k_is); (case zc => k_is); (case zd => k_is)
        case i_NoNumber_NoNumber => kit_is
        case i_NoNumber_NoRoom => kit_is
        case c_Store => refine' KW.clsA_mk KX G ?za ?zb ?zc ?zd ?ze ?zf; (case za => k_is); (case zb => k_is); (case zc => k_is); (case zd => k_is); (case ze => k_is); (case zf => (intro f hf; simp only [List.mem_cons, List.not_mem_nil, or_false] at hf; rcases hf with rfl | rfl | rfl | rfl | rfl <;> k_is))
        case ini_Store => refine' KW.iniAt_mk ?zkc ?zmk ?za ?zf ?zk ?zl ?zc ?zb; (case zkc => k_is); (case zmk => k_is); (case za => k_is); (case zf => k_is); (case zk => k_is); (case zl => k_is); (case zc => k_is); (case zb => exact fun _ _ _ _ _ _ us hl => match us, hl with | [_, _, _], _ => rfl)
        case m_Store_used => refine' KW.metAt_mk ?za ?zf ?zk ?zl ?zc ?zb; (case za => k_is); (case zf => k_is); (case zk => k_is); (case zl => k_is); (case zc => k_is); (case zb => exact fun _ _ _ _ _ _ us hl => match us, hl with | [_], _ => rfl)
        case m_Store_exists => refine' KW.metAt_mk ?za ?zf ?zk ?zl ?zc ?zb; (case za => k_is); (case zf => k_is); (case zk => k_is); (case zl => k_is); (case zc => k_is); (case zb => exact fun _ _ _ _ _ _ us hl => match us, hl with | [_, _], _ => rfl)
        case m_Store_numbers => refine' KW.metAt_mk ?za ?zf ?zk ?zl ?zc ?zb; (case za => k_is); (case zf => k_is); (case zk => k_is); (case zl => k_is); (case zc => k_is); (case zb => exact fun _ _ _ _ _ _ us hl => match us, hl with | [_], _ => rfl)
        case m_Store_free_number => refine' KW.metAt_mk ?za ?zf ?zk ?zl ?zc ?zb; (case za => k_is); (case zf => k_is); (case zk => k_is); (case zl => k_is); (case zc => k_is); (case zb => exact fun _ _ _ _ _ _ us hl => match us, hl with | [_], _ => rfl)
        case m_Store_allocate => refine' KW.metAt_mk ?za ?zf ?zk ?zl ?zc ?zb; (case za => k_is); (case zf => k_is); (case zk => k_is); (case zl => k_is); (case zc => k_is); (case zb => exact fun _ _ _ _ _ _ us hl => match us, hl with | [_, _, _], _ => rfl)
        case m_Store_size => refine' KW.metAt_mk ?za ?zf ?zk ?zl ?zc ?zb; (case za => k_is); (case zf => k_is); (case zk => k_is); (case zl => k_is); (case zc => k_is); (case zb => exact fun _ _ _ _ _ _ us hl => match us, hl with | [_, _], _ => rfl)
        case m_Store_kind => refine' KW.metAt_mk ?za ?zf ?zk ?zl ?zc ?zb; (case za => k_is); (case zf => k_is); (case zk => k_is); (case zl => k_is); (case zc => k_is); (case zb => exact fun _ _ _ _ _ _ us hl => match us, hl with | [_, _], _ => rfl)
        case m_Store_set_kind => refine' KW.metAt_mk ?za ?zf ?zk ?zl ?zc ?zb; (case za => k_is); (case zf => k_is); (case zk => k_is); (case zl => k_is); (case zc => k_is); (case zb => exact fun _ _ _ _ _ _ us hl => match us, hl with | [_, _, _], _ => rfl)
        case m_Store_get => refine' KW.metAt_mk ?za ?zf ?zk ?zl ?zc ?zb; (case za => k_is); (case zf => k_is); (case zk => k_is); (case zl => k_is); (case zc => k_is); (case zb => exact fun _ _ _ _ _ _ us hl => match us, hl with | [_, _, _], _ => rfl)
        case m_Store_put => refine' KW.metAt_mk ?za ?zf ?zk ?zl ?zc ?zb; (case za => k_is); (case zf => k_is); (case zk => k_is); (case zl => k_is); (case zc => k_is); (case zb => exact fun _ _ _ _ _ _ us hl => match us, hl with | [_, _, _, _], _ => rfl)
        case m_Store_slots => refine' KW.metAt_mk ?za ?zf ?zk ?zl ?zc ?zb; (case za => k_is); (case zf => k_is); (case zk => k_is); (case zl => k_is); (case zc => k_is); (case zb => exact fun _ _ _ _ _ _ us hl => match us, hl with | [_, _], _ => rfl)
        case m_Store_drop => refine' KW.metAt_mk ?za ?zf ?zk ?zl ?zc ?zb; (case za => k_is); (case zf => k_is); (case zk => k_is); (case zl => k_is); (case zc => k_is); (case zb => exact fun _ _ _ _ _ _ us hl => match us, hl with | [_, _], _ => rfl)
        case m_Store_close_up => refine' KW.metAtC_mk ?za ?zf ?zk ?zl ?zc ?zb; (case za => k_is); (case zf => k_is); (case zk => k_is); (case zl => k_is); (case zc => k_is); (case zb => exact fun _ _ _ _ _ _ us hl => match us, hl with | [_], _ => rfl)
        case kd_Store_close_up => first | k_is | kernel_rfl
        case kn_Store_close_up => first | k_is | kernel_rfl
        case m_Store_snapshot => refine' KW.metAt_mk ?za ?zf ?zk ?zl ?zc ?zb; (case za => k_is); (case zf => k_is); (case zk => k_is); (case zl => k_is); (case zc => k_is); (case zb => exact fun _ _ _ _ _ _ us hl => match us, hl with | [_], _ => rfl)
        case m_Store_restore => refine' KW.metAt_mk ?za ?zf ?zk ?zl ?zc ?zb; (case za => k_is); (case zf => k_is); (case zk => k_is); (case zl => k_is); (case zc => k_is); (case zb => exact fun _ _ _ _ _ _ us hl => match us, hl with | [_, _], _ => rfl)
        case m_Store_exchange => refine' KW.metAt_mk ?za ?zf ?zk ?zl ?zc ?zb; (case za => k_is); (case zf => k_is); (case zk => k_is); (case zl => k_is); (case zc => k_is); (case zb => exact fun _ _ _ _ _ _ us hl => match us, hl with | [_, _, _], _ => rfl)
        case n_bool => exact PySem.W.mg_none_of KX G (by k_is)
        case n_dict => exact PySem.W.mg_none_of KX G (by k_is)
        case n_int => exact PySem.W.mg_none_of KX G (by k_is)
        case n_isinstance => exact PySem.W.mg_none_of KX G (by k_is)
        case n_len => exact PySem.W.mg_none_of KX G (by k_is)
        case n_list => exact PySem.W.mg_none_of KX G (by k_is)
        case n_min => exact PySem.W.mg_none_of KX G (by k_is)
        case n_range => exact PySem.W.mg_none_of KX G (by k_is)
        case n_sorted => exact PySem.W.mg_none_of KX G (by k_is)
        case g_NIL => refine' KW.gv_mk KX G ?za ?zr; (case za => k_is); (case zr => exact ⟨_, rfl⟩)
        case g_HEADER => refine' KW.gv_mk KX G ?za ?zr; (case za => k_is); (case zr => exact ⟨_, rfl⟩)
        case d__law_number => refine' KW.defAt_mk KX G ?za ?zl ?zc ?zk ?zb; (case za => k_is); (case zl => k_is); (case zc => k_is); (case zk => k_is); (case zb => exact fun _ _ _ _ _ _ us hl => match us, hl with | [_, _], _ => rfl)
        case d__law_deeds => refine' KW.defAt_mk KX G ?za ?zl ?zc ?zk ?zb; (case za => k_is); (case zl => k_is); (case zc => k_is); (case zk => k_is); (case zb => exact fun _ _ _ _ _ _ us hl => match us, hl with | [_, _], _ => rfl)
        case d__law_word => refine' KW.defAt_mk KX G ?za ?zl ?zc ?zk ?zb; (case za => k_is); (case zl => k_is); (case zc => k_is); (case zk => k_is); (case zb => exact fun _ _ _ _ _ _ us hl => match us, hl with | [_], _ => rfl)
        case d__law_is => refine' KW.defAt_mk KX G ?za ?zl ?zc ?zk ?zb; (case za => k_is); (case zl => k_is); (case zc => k_is); (case zk => k_is); (case zb => exact fun _ _ _ _ _ _ us hl => match us, hl with | [_, _], _ => rfl)
        case d__law_same => refine' KW.defAt_mk KX G ?za ?zl ?zc ?zk ?zb; (case za => k_is); (case zl => k_is); (case zc => k_is); (case zk => k_is); (case zb => exact fun _ _ _ _ _ _ us hl => match us, hl with | [_, _], _ => rfl)
        case d__law_flat => refine' KW.defAt_mk KX G ?za ?zl ?zc ?zk ?zb; (case za => k_is); (case zl => k_is); (case zc => k_is); (case zk => k_is); (case zb => exact fun _ _ _ _ _ _ us hl => match us, hl with | [_], _ => rfl)
        case d__law_living => refine' KW.defAt_mk KX G ?za ?zl ?zc ?zk ?zb; (case za => k_is); (case zl => k_is); (case zc => k_is); (case zk => k_is); (case zb => exact fun _ _ _ _ _ _ us hl => match us, hl with | [_], _ => rfl)
        case d__law_free => refine' KW.defAt_mk KX G ?za ?zl ?zc ?zk ?zb; (case za => k_is); (case zl => k_is); (case zc => k_is); (case zk => k_is); (case zb => exact fun _ _ _ _ _ _ us hl => match us, hl with | [_], _ => rfl)
        case d__law_copy => refine' KW.defAt_mk KX G ?za ?zl ?zc ?zk ?zb; (case za => k_is); (case zl => k_is); (case zc => k_is); (case zk => k_is); (case zb => exact fun _ _ _ _ _ _ us hl => match us, hl with | [_], _ => rfl)
        case d__law_allocated => refine' KW.defAt_mk KX G ?za ?zl ?zc ?zk ?zb; (case za => k_is); (case zl => k_is); (case zc => k_is); (case zk => k_is); (case zb => exact fun _ _ _ _ _ _ us hl => match us, hl with | [_, _, _, _, _], _ => rfl)
        case d__law_changed => refine' KW.defAt_mk KX G ?za ?zl ?zc ?zk ?zb; (case za => k_is); (case zl => k_is); (case zc => k_is); (case zk => k_is); (case zb => exact fun _ _ _ _ _ _ us hl => match us, hl with | [_, _, _, _, _], _ => rfl)
        case d__law_agrees => refine' KW.defAt_mk KX G ?za ?zl ?zc ?zk ?zb; (case za => k_is); (case zl => k_is); (case zc => k_is); (case zk => k_is); (case zb => exact fun _ _ _ _ _ _ us hl => match us, hl with | [_, _, _, _], _ => rfl)
        case d__law_deed => refine' KW.defAt_mk KX G ?za ?zl ?zc ?zk ?zb; (case za => k_is); (case zl => k_is); (case zc => k_is); (case zk => k_is); (case zb => exact fun _ _ _ _ _ _ us hl => match us, hl with | [_, _, _, _, _], _ => rfl)
        case d_law => refine' KW.defAt_mk KX G ?za ?zl ?zc ?zk ?zb; (case za => k_is); (case zl => k_is); (case zc => k_is); (case zk => k_is); (case zb => exact fun _ _ _ _ _ _ us hl => match us, hl with | [_], _ => rfl)
    obtain ⟨a, T, hp⟩ := T
    exact ⟨T.d_law, a.c_Store_close_up, a.p_Store_close_up, _, hp, T.kn_Store_close_up, T.kd_Store_close_up, fun base f fd TB F => K02.ok_law T TB f fd F⟩
#print axioms PySem.Challenge.cw_kilnwarden_k02_store_is_a_list_holds
