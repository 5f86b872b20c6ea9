import PyProof.Rows.All
import Wide.All
import OpenK.AllK
import HandS.ExcCtx
import HandS.HotCalls
import Wide.FinOn
import HandS.Call
import HandS.List
import HandS.Ends
import HandS.Words
import HandS.Exc
import HandS.ExcOwn
import HandS.TryOnly
import HandS.Text
import HandS.Codes
import HandS.Style
import HandS.IsInst
import HandS.Wide
import KE.KExcSuper
import HandS.ExcField
import HandS.ExcIs
import HandS.TryMany
import HandS.Defaults
import HandS.Dict
import HandS.BoundDict
import HandS.NoneIn
import HandS.Flow
import HandS.WideBits
import HandS.Conv
import HandS.SortInts
import HandS.RaiseMore
import KE.RegKIsAll
import HandS.Comp
import HandS.More
import HandS.Iter
import KE.DataEq
import HandS.ReplaceLit
import HandS.ReplaceList
import HandS.StrMore
import HandS.Replace
import PySem.Challenge.RW_kilnwarden_k11_whole_texts_split_into_to
set_option Elab.async false
set_option linter.all false
set_option maxRecDepth 100000
set_option maxHeartbeats 2000000
/-! Kw: universal readings over HandS: one rule a construct, whatever the kinds of its parts are; the readings go by cases of the values and so reduce by simp. -/
namespace KW
open PySem PySem.Spec PyProof.Rows L2
abbrev Frag := PySem.W.Frag
abbrev S (l : List Nat) : Str := SX.S l

section
variable {X : Cx}
theorem PEw {e : Expr} {t t' : TE} (h : PE X e t) (w : ∀ σ H Q, t' σ H Q → t σ H Q) : PE X e t' := ⟨fun pins s σ H Q I q => h.run pins s σ H Q I (w σ H Q q)⟩
theorem PTw {e : Expr} {t t' : TT} (h : PT X e t) (w : ∀ σ H Q, t' σ H Q → t σ H Q) : PT X e t' := ⟨fun pins s σ H Q I q => h.run pins s σ H Q I (w σ H Q q)⟩
theorem PSw {st : Stmt} {t t' : TS} (h : PS X st t) (w : ∀ D σ H, t' D σ H → t D σ H) : PS X st t' := ⟨fun pins s σ H D I q => h.run pins s σ H D I (w D σ H q)⟩
theorem OpRw {f : Value → Value → Sem Value} {r r' : R2} (h : OpR X f r) (w : ∀ x y H Q, r' x y H Q → r x y H Q) : OpR X f r' := fun pins s σ H x y v u Q I rx ry q => h pins s σ H x y v u Q I rx ry (w _ _ _ _ q)
theorem UnRw {f : Value → Sem Value} {r r' : V → Hp → VK → Prop} (h : UnR X f r) (w : ∀ x H Q, r' x H Q → r x H Q) : UnR X f r' := fun pins s σ H x v Q I rx q => h pins s σ H x v Q I rx (w _ _ _ q)
theorem CallRw {f : Value} {r r' : List V → Hp → VK → Prop} (h : CallR X f r) (w : ∀ xs H Q, r' xs H Q → r xs H Q) : CallR X f r' := fun pins s σ H xs us Q I rx q => h pins s σ H xs us Q I rx (w _ _ _ q)
theorem IxRw {r r' : R2} (h : IxR X r) (w : ∀ x y H Q, r' x y H Q → r x y H Q) : IxR X r' := fun a b pins s σ H x y v u Q I rx ry q => h a b pins s σ H x y v u Q I rx ry (w _ _ _ _ q)
theorem SlRw {r r' : V → Option Int → Option Int → Hp → VK → Prop} (h : SlR X r) (w : ∀ x l u H Q, r' x l u H Q → r x l u H Q) : SlR X r' := fun pins s σ H x v vl vu lo hi sl Q I rx a b c q => h pins s σ H x v vl vu lo hi sl Q I rx a b c (w _ _ _ _ _ q)

/-! ### names -/
def uVar (i : Nat) : TE := fun σ H Q => match σ[i]? with
  | some (some v) => Q v H
  | _ => False
theorem kv (i : Nat) {x : Str} {pos : Pos} (hN : X.N[i]? = some x := by rfl) (hv : Vis X.env.scope x := by first | exact Or.inl rfl | exact Or.inr (Or.inl rfl) | exact Or.inr (Or.inr rfl)) (hd : (x == ("__debug__" : Str)) = false := by decide)
    (hcd : (x == ("__classdict__" : Str)) = false := by decide) : PE X (.Name x pos) (uVar i) := PEw (pe_var hN hv hd hcd) fun σ H Q h => by
  unfold uVar at h
  split at h
  · rename_i v e
    exact ⟨v, e, h⟩
  · exact h.elim

/-! ### operators -/
def uAdd (K : Frag) : R2
  | .int i, .int j, H, Q => Q (.int (i + j)) H
  | .str i, .str j, H, Q => i.length + j.length ≤ sizeLine ∧ Q (.str (i ++ j)) H
  | .ref a, .ref b, H, Q => rCat (.ref a) (.ref b) H Q ∨ rCatT K (.ref a) (.ref b) H Q
  | _, _, _, _ => False
theorem o_add : OpR X (binaryOp .Add) (uAdd X.K) := OpRw (op_add.or (op_add_str.or (op_cat.or op_catT))) fun x y H Q h => by
  unfold uAdd at h
  split at h
  · exact .inl ⟨_, _, rfl, rfl, h⟩
  · exact .inr (.inl ⟨_, _, rfl, rfl, h⟩)
  · exact .inr (.inr h)
  · exact h.elim
def uSub : R2
  | .int i, .int j, H, Q => Q (.int (i - j)) H
  | _, _, _, _ => False
theorem o_sub : OpR X (binaryOp .Sub) uSub := OpRw op_sub fun x y H Q h => by
  unfold uSub at h
  split at h
  · exact ⟨_, _, rfl, rfl, h⟩
  · exact h.elim
def uMul : R2
  | .int i, .int j, H, Q => (CMul i j ∨ CMulW i j) ∧ Q (.int (i * j)) H
  | .ref l, .int k, H, Q => rRep (.ref l) (.int k) H Q
  | _, _, _, _ => False
theorem o_mul : OpR X (binaryOp .Mult) uMul := OpRw (op_mul.or (op_mulW.or op_rep)) fun x y H Q h => by
  unfold uMul at h
  split at h
  · obtain ⟨c | c, h⟩ := h
    · exact .inl ⟨_, _, rfl, rfl, c, h⟩
    · exact .inr (.inl ⟨_, _, rfl, rfl, c, h⟩)
  · exact .inr (.inr h)
  · exact h.elim
def uMod : R2
  | .int i, .int j, H, Q => 0 < j ∧ Q (.int (i % j)) H
  | _, _, _, _ => False
theorem o_mod : OpR X (binaryOp .Mod) uMod := OpRw op_mod fun x y H Q h => by
  unfold uMod at h
  split at h
  · exact ⟨_, _, rfl, rfl, h⟩
  · exact h.elim
def uDiv : R2
  | .int i, .int j, H, Q => (CDiv i j ∨ CDivW i j) ∧ Q (.int (i / j)) H
  | _, _, _, _ => False
theorem o_fdiv : OpR X (binaryOp .FloorDiv) uDiv := OpRw (op_fdiv.or op_fdivW) fun x y H Q h => by
  unfold uDiv at h
  split at h
  · obtain ⟨c | c, h⟩ := h
    · exact .inl ⟨_, _, rfl, rfl, c, h⟩
    · exact .inr ⟨_, _, rfl, rfl, c, h⟩
  · exact h.elim
def uPow : R2
  | .int i, .int j, H, Q => CPow i j ∧ Q (.int (i ^ j.toNat)) H
  | _, _, _, _ => False
theorem o_pow : OpR X (binaryOp .Pow) uPow := OpRw op_pow fun x y H Q h => by
  unfold uPow at h
  split at h
  · exact ⟨_, _, rfl, rfl, h⟩
  · exact h.elim
def uShl : R2
  | .int i, .int j, H, Q => CPow i j ∧ Q (.int (i * 2 ^ j.toNat)) H
  | _, _, _, _ => False
theorem o_shl : OpR X (binaryOp .LShift) uShl := OpRw op_shl fun x y H Q h => by
  unfold uShl at h
  split at h
  · exact ⟨_, _, rfl, rfl, h⟩
  · exact h.elim
def uNeg : V → Hp → VK → Prop
  | .int i, H, Q => Q (.int (-i)) H
  | _, _, _ => False
theorem o_neg : UnR X (unaryOp .USub) uNeg := UnRw un_neg fun x H Q h => by
  unfold uNeg at h
  split at h
  · exact ⟨_, rfl, h⟩
  · exact h.elim
/-- in place: ints and texts; a list is lengthened -/
def uIAdd : R2
  | .int i, .int j, H, Q => Q (.int (i + j)) H
  | .str i, .str j, H, Q => i.length + j.length ≤ sizeLine ∧ Q (.str (i ++ j)) H
  | .ref a, .ref b, H, Q => rExt2 (.ref a) (.ref b) H Q
  | _, _, _, _ => False
theorem o_iadd : OpR X (inplaceOp .Add) uIAdd := OpRw (iop_add.or (iop_add_str.or iop_ext)) fun x y H Q h => by
  unfold uIAdd at h
  split at h
  · exact .inl ⟨_, _, rfl, rfl, h⟩
  · exact .inr (.inl ⟨_, _, rfl, rfl, h⟩)
  · exact .inr (.inr h)
  · exact h.elim
def uISub : R2
  | .int i, .int j, H, Q => Q (.int (i - j)) H
  | _, _, _, _ => False
theorem o_isub : OpR X (inplaceOp .Sub) uISub := OpRw iop_sub fun x y H Q h => by
  unfold uISub at h
  split at h
  · exact ⟨_, _, rfl, rfl, h⟩
  · exact h.elim

/-! ### comparisons -/
def uLt : R2
  | .int i, .int j, H, Q => Q (.bl (decide (i < j))) H
  | .str i, .str j, H, Q => Q (.bl (decide (i.cps.toList < j.cps.toList))) H
  | _, _, _, _ => False
theorem o_lt : OpR X (compareOp .Lt) uLt := OpRw (op_lt.or op_lt_str) fun x y H Q h => by
  unfold uLt at h
  split at h
  · exact .inl ⟨_, _, rfl, rfl, h⟩
  · exact .inr ⟨_, _, rfl, rfl, h⟩
  · exact h.elim
def uLe : R2
  | .int i, .int j, H, Q => Q (.bl (decide (i ≤ j))) H
  | _, _, _, _ => False
theorem o_le : OpR X (compareOp .LtE) uLe := OpRw op_le fun x y H Q h => by
  unfold uLe at h
  split at h
  · exact ⟨_, _, rfl, rfl, h⟩
  · exact h.elim
def uGt : R2
  | .int i, .int j, H, Q => Q (.bl (decide (j < i))) H
  | _, _, _, _ => False
theorem o_gt : OpR X (compareOp .Gt) uGt := OpRw op_gt fun x y H Q h => by
  unfold uGt at h
  split at h
  · exact ⟨_, _, rfl, rfl, h⟩
  · exact h.elim
def uGe : R2
  | .int i, .int j, H, Q => Q (.bl (decide (j ≤ i))) H
  | _, _, _, _ => False
theorem o_ge : OpR X (compareOp .GtE) uGe := OpRw op_ge fun x y H Q h => by
  unfold uGe at h
  split at h
  · exact ⟨_, _, rfl, rfl, h⟩
  · exact h.elim
def uEq (K : Frag) : R2
  | .int i, .int j, H, Q => Q (.bl (decide (i = j))) H
  | .str i, .str j, H, Q => Q (.bl (decide (i = j))) H
  | .bl i, .bl j, H, Q => Q (.bl (decide (i = j))) H
  | .non, .non, H, Q => Q (.bl true) H
  | .int _, .str _, H, Q => Q (.bl false) H
  | .str _, .int _, H, Q => Q (.bl false) H
  | .int _, .non, H, Q => Q (.bl false) H
  | .non, .int _, H, Q => Q (.bl false) H
  | .str _, .non, H, Q => Q (.bl false) H
  | .non, .str _, H, Q => Q (.bl false) H
  | .ref a, .ref b, H, Q => rEqD K (.ref a) (.ref b) H Q
  | _, _, _, _ => False
theorem o_eq (hu : X.A.units + 64 < cLine) : OpR X (compareOp .Eq) (uEq X.K) := OpRw (op_eq.or (op_eqD hu)) fun x y H Q h => by
  unfold uEq at h
  split at h <;> first
    | exact .inl ⟨rfl, by simpa using h⟩
    | exact .inr h
    | exact h.elim
def uNe (K : Frag) : R2
  | .int i, .int j, H, Q => Q (.bl (!decide (i = j))) H
  | .str i, .str j, H, Q => Q (.bl (!decide (i = j))) H
  | .bl i, .bl j, H, Q => Q (.bl (!decide (i = j))) H
  | .non, .non, H, Q => Q (.bl false) H
  | .int _, .str _, H, Q => Q (.bl true) H
  | .str _, .int _, H, Q => Q (.bl true) H
  | .int _, .non, H, Q => Q (.bl true) H
  | .non, .int _, H, Q => Q (.bl true) H
  | .str _, .non, H, Q => Q (.bl true) H
  | .non, .str _, H, Q => Q (.bl true) H
  | .ref a, .ref b, H, Q => rNeD K (.ref a) (.ref b) H Q
  | _, _, _, _ => False
theorem o_ne (hu : X.A.units + 64 < cLine) : OpR X (compareOp .NotEq) (uNe X.K) := OpRw (op_ne.or (op_neD hu)) fun x y H Q h => by
  unfold uNe at h
  split at h <;> first
    | exact .inl ⟨rfl, by simpa using h⟩
    | exact .inr h
    | exact h.elim
/-- is, is not: None and bools on the right -/
theorem op_isIB : OpR X (compareOp .Is) (fun x y H Q => (∃ i b, x = V.int i ∧ y = V.bl b) ∧ Q (.bl false) H) := by
  intro pins s σ H x y v u Q I rx ry h
  obtain ⟨⟨i, b, rfl, rfl⟩, q⟩ := h
  obtain ⟨t, rfl⟩ := rx
  cases (show u = Value.bool b from ry)
  exact wpAny_is_other rfl (fun z => nomatch z) ⟨.bl false, H, I, rfl, q⟩
def uIs : R2
  | .non, .non, H, Q => Q (.bl true) H
  | .int _, .non, H, Q => Q (.bl false) H
  | .str _, .non, H, Q => Q (.bl false) H
  | .ref _, .non, H, Q => Q (.bl false) H
  | .bl _, .non, H, Q => Q (.bl false) H
  | .bl a, .bl b, H, Q => Q (.bl (decide (a = b))) H
  | .int _, .bl _, H, Q => Q (.bl false) H
  | _, _, _, _ => False
theorem o_is : OpR X (compareOp .Is) uIs := OpRw (op_isN.or (op_isBl.or op_isIB)) fun x y H Q h => by
  unfold uIs at h
  split at h <;> first
    | exact .inl ⟨rfl, by simpa using h⟩
    | exact .inr (.inl ⟨_, _, rfl, rfl, h⟩)
    | exact .inr (.inr ⟨⟨_, _, rfl, rfl⟩, h⟩)
    | exact h.elim
def uNotIs : R2
  | .non, .non, H, Q => Q (.bl false) H
  | .int _, .non, H, Q => Q (.bl true) H
  | .str _, .non, H, Q => Q (.bl true) H
  | .ref _, .non, H, Q => Q (.bl true) H
  | .bl _, .non, H, Q => Q (.bl true) H
  | .bl a, .bl b, H, Q => Q (.bl (!decide (a = b))) H
  | _, _, _, _ => False
theorem o_isnot : OpR X (compareOp .IsNot) uNotIs := OpRw (op_notN.or op_notBl) fun x y H Q h => by
  unfold uNotIs at h
  split at h <;> first
    | exact .inl ⟨rfl, by simpa using h⟩
    | exact .inr ⟨_, _, rfl, rfl, h⟩
    | exact h.elim
/-- one text within another -/
def subStr (i j : Str) : Bool := !(Builtin.Str.occurrences j i 0 j.length 1).isEmpty
theorem subStr_one (c : Nat) (a : List Nat) : subStr (S [c]) (S a) = decide (c ∈ a) := SX.in_one a c
def uIn (K : Frag) : R2
  | .str i, .str j, H, Q => Q (.bl (subStr i j)) H
  | .int i, .ref p, H, Q => rIn K false (.int i) (.ref p) H Q
  | .str i, .ref p, H, Q => rIn K false (.str i) (.ref p) H Q
  | .non, .ref p, H, Q => rIn K false .non (.ref p) H Q
  | _, _, _, _ => False
theorem o_in : OpR X (compareOp .In) (uIn X.K) := OpRw (op_in_str.or op_in_seq) fun x y H Q h => by
  unfold uIn at h
  split at h <;> first
    | exact .inl ⟨_, _, rfl, rfl, h⟩
    | exact .inr h
    | exact h.elim
def uNotIn (K : Frag) : R2
  | .str i, .str j, H, Q => Q (.bl (!subStr i j)) H
  | .int i, .ref p, H, Q => rIn K true (.int i) (.ref p) H Q
  | .str i, .ref p, H, Q => rIn K true (.str i) (.ref p) H Q
  | .non, .ref p, H, Q => rIn K true .non (.ref p) H Q
  | _, _, _, _ => False
theorem o_notin : OpR X (compareOp .NotIn) (uNotIn X.K) := OpRw (op_notin_str.or op_notIn_seq) fun x y H Q h => by
  unfold uNotIn at h
  split at h <;> first
    | exact .inl ⟨_, _, rfl, rfl, h⟩
    | exact .inr h
    | exact h.elim

/-! ### tests -/
def uTru (K : Frag) : V → Hp → (Bool → Prop) → Prop
  | .non, _, k => k false
  | .bl b, _, k => k b
  | .int i, _, k => k (i != 0)
  | .str y, _, k => y.length ≤ sizeLine ∧ k ((y.length : Int) != 0)
  | .ref p, H, k => ∃ b, TruV K (.ref p) H b ∧ k b
  | _, _, _ => False
def uTest (K : Frag) (t : TE) : TT := fun σ H Q => t σ H fun x H1 => uTru K x H1 fun b => Q b H1
theorem kt {e : Expr} {t : TE} (h : PE X e t) (he : ∀ whole, isTrue e X.env whole = (do let v ← whole; standAt e.pos; holding [v] (truthy v)) := by intro _; rfl) : PT X e (uTest X.K t) := by
  refine ⟨fun pins s σ H Q I hq => ?_⟩
  refine isTrue_plain (thn (h.run pins s σ H _ I hq) fun v s1 ⟨x, H1, I1, r1, q1⟩ => tru_ok pins s1 σ H1 x v Q I1 r1 ?_) (he _)
  cases x with
  | non => exact ⟨false, rfl, q1⟩
  | bl b => exact ⟨b, rfl, q1⟩
  | int i => exact ⟨_, rfl, q1⟩
  | str y => exact ⟨_, ⟨q1.1, rfl⟩, q1.2⟩
  | ref p => exact q1
  | _ => exact False.elim q1

/-! ### subscripts -/
def uIx (K : Frag) : R2
  | .ref p, .int i, H, Q => ∃ xs v, (SqL K H p xs ∨ SqT K H p xs) ∧ atI xs i = some v ∧ Q v H
  | .str z, .int i, H, Q => z.length ≤ sizeLine ∧ ∃ c, atI z.cps.toList i = some c ∧ Q (.str (S [c])) H
  | _, _, _, _ => False
theorem o_ix : IxR X (uIx X.K) := IxRw ix_seq fun x y H Q h => by
  unfold uIx at h
  split at h
  · obtain ⟨xs, v, hs | hs, e, q⟩ := h
    · exact .inl ⟨_, xs, _, v, rfl, rfl, hs, e, q⟩
    · exact .inr (.inl ⟨_, xs, _, v, rfl, rfl, hs, e, q⟩)
  · obtain ⟨hz, c, e, q⟩ := h
    exact .inr (.inr ⟨_, _, c, rfl, rfl, hz, e, q⟩)
  · exact h.elim
def uSl (K : Frag) : V → Option Int → Option Int → Hp → VK → Prop
  | .ref a, lo, hi, H, Q => rSlL K (.ref a) lo hi H Q ∨ rSlT K (.ref a) lo hi H Q
  | .str z, lo, hi, H, Q => z.length ≤ sizeLine ∧ Q (.str (cutS z lo hi)) H
  | _, _, _, _, _ => False
theorem o_sl : SlR X (uSl X.K) := SlRw (sl_list.or (sl_tup.or sl_str)) fun x lo hi H Q h => by
  unfold uSl at h
  split at h
  · exact h.elim .inl fun z => .inr (.inl z)
  · exact .inr (.inr ⟨_, rfl, h.1, h.2⟩)
  · exact h.elim
theorem S_len (a : List Nat) : (S a).length = a.length := SX.S_len a
theorem S_nil : (S []).length = 0 := rfl
theorem S_tl (x : Str) : S x.cps.toList = x := SX.S_tl x
theorem cps_S (a : List Nat) : (S a).cps.toList = a := rfl
theorem S_cat (a b : List Nat) : S a ++ S b = S (a ++ b) := SX.S_cat a b
theorem S_inj {a b : List Nat} : S a = S b ↔ a = b := ⟨SX.S_inj, fun h => congrArg S h⟩
theorem cutS_S (a : List Nat) (i j : Nat) : cutS (S a) (some (i : Int)) (some (j : Int)) = S ((a.drop i).take (j - i)) := by
  unfold cutS
  rw [HT.sIx_nat, HT.sIx_nat, cps_S]
  have e : (S a).length = a.length := S_len a
  rw [e]
  refine congrArg S ?_
  rw [show a.drop (min i a.length) = a.drop i by
    by_cases h : i ≤ a.length
    · rw [Nat.min_eq_left h]
    · rw [Nat.min_eq_right (by omega), List.drop_length, List.drop_eq_nil_of_le (by omega)]]
  refine List.take_eq_take_iff.mpr ?_
  rw [List.length_drop]
  omega

/-! ### calls of built-ins -/
def uLen (K : Frag) : List V → Hp → VK → Prop
  | [.str y], H, Q => y.length ≤ sizeLine ∧ Q (.int y.length) H
  | [.ref p], H, Q => ∃ xs, (SqL K H p xs ∨ SqT K H p xs) ∧ Q (.int xs.length) H
  | _, _, _ => False
theorem c_len : CallR X (.builtin "len") (uLen X.K) := CallRw call_len fun xs H Q h => by
  unfold uLen at h
  split at h
  · exact ⟨_, _, rfl, ⟨h.1, rfl⟩, h.2⟩
  · obtain ⟨xs, hs | hs, q⟩ := h
    · exact ⟨_, _, rfl, .inl ⟨xs, hs, rfl⟩, q⟩
    · exact ⟨_, _, rfl, .inr ⟨xs, hs, rfl⟩, q⟩
  · exact h.elim
def uAbs : List V → Hp → VK → Prop
  | [.int i], H, Q => Q (.int (if i < 0 then -i else i)) H
  | _, _, _ => False
theorem c_abs : CallR X (.builtin "abs") uAbs := CallRw call_abs fun xs H Q h => by
  unfold uAbs at h
  split at h
  · exact ⟨_, rfl, h⟩
  · exact h.elim
def uInt : List V → Hp → VK → Prop
  | [.int i], H, Q => Q (.int i) H
  | [.bl k], H, Q => Q (.int (if k then 1 else 0)) H
  | _, _, _ => False
theorem c_int : CallR X (.type "int") uInt := CallRw call_int1 fun xs H Q h => by
  unfold uInt at h
  split at h
  · exact .inl ⟨_, rfl, h⟩
  · exact .inr ⟨_, rfl, h⟩
  · exact h.elim
def uMin2 : List V → Hp → VK → Prop
  | [.int i, .int j], H, Q => Q (.int (if j < i then j else i)) H
  | _, _, _ => False
theorem c_min2 (hc : X.calm = true) : CallR X (.builtin "min") uMin2 := CallRw (call_min2 hc) fun xs H Q h => by
  unfold uMin2 at h
  split at h
  · exact ⟨_, _, rfl, h⟩
  · exact h.elim
/-- isinstance against a built-in type -/
def isK (a b : String) : Bool := match kitB a b with
  | some r => r
  | none => false
def isOk (a b : String) : Bool := (kitB a b).isSome
theorem isK_of {a b : String} (h : isOk a b = true) {K : Frag} : PySem.W.kitOne K (.type a) (.type b) = some (isK a b) := by
  refine kit_ty ?_
  unfold isOk at h
  unfold isK
  cases e : kitB a b with
  | none => rw [e] at h; cases h
  | some r => rfl
def uIsi (K : Frag) : List V → Hp → VK → Prop
  | [.non, .ty n], H, Q => isOk "NoneType" n = true ∧ Q (.bl (isK "NoneType" n)) H
  | [.bl _, .ty n], H, Q => isOk "bool" n = true ∧ Q (.bl (isK "bool" n)) H
  | [.int _, .ty n], H, Q => isOk "int" n = true ∧ Q (.bl (isK "int" n)) H
  | [.str _, .ty n], H, Q => isOk "str" n = true ∧ Q (.bl (isK "str" n)) H
  | [.ref p, .ty n], H, Q => ∃ T, TyX K H (.ref p) (.type T) ∧ isOk T n = true ∧ Q (.bl (isK T n)) H
  | _, _, _ => False
theorem c_isi : CallR X (.builtin "isinstance") (uIsi X.K) := CallRw call_isi fun xs H Q h => by
  unfold uIsi at h
  split at h
  · exact ⟨_, _, _, _, _, rfl, .ty _, .base .non, isK_of h.1, h.2⟩
  · exact ⟨_, _, _, _, _, rfl, .ty _, .base (.bl _), isK_of h.1, h.2⟩
  · exact ⟨_, _, _, _, _, rfl, .ty _, .base (.int _), isK_of h.1, h.2⟩
  · exact ⟨_, _, _, _, _, rfl, .ty _, .base (.str _), isK_of h.1, h.2⟩
  · obtain ⟨T, ty, o, q⟩ := h
    exact ⟨_, _, _, _, _, rfl, .ty _, ty, isK_of o, q⟩
  · exact h.elim
theorem isK_int_int : isK "int" "int" = true := by decide +kernel
theorem isK_int_bool : isK "int" "bool" = false := by decide +kernel
theorem isK_int_str : isK "int" "str" = false := by decide +kernel
theorem isK_int_list : isK "int" "list" = false := by decide +kernel
theorem isK_int_tuple : isK "int" "tuple" = false := by decide +kernel
theorem isK_bool_int : isK "bool" "int" = true := by decide +kernel
theorem isK_bool_bool : isK "bool" "bool" = true := by decide +kernel
theorem isK_bool_str : isK "bool" "str" = false := by decide +kernel
theorem isK_str_str : isK "str" "str" = true := by decide +kernel
theorem isK_str_int : isK "str" "int" = false := by decide +kernel
theorem isK_str_bool : isK "str" "bool" = false := by decide +kernel
theorem isK_str_tuple : isK "str" "tuple" = false := by decide +kernel
theorem isK_str_list : isK "str" "list" = false := by decide +kernel
theorem isK_list_list : isK "list" "list" = true := by decide +kernel
theorem isK_list_tuple : isK "list" "tuple" = false := by decide +kernel
theorem isK_tuple_tuple : isK "tuple" "tuple" = true := by decide +kernel
theorem isK_tuple_list : isK "tuple" "list" = false := by decide +kernel
theorem isK_dict_dict : isK "dict" "dict" = true := by decide +kernel
theorem isK_none_int : isK "NoneType" "int" = false := by decide +kernel
theorem isK_none_bool : isK "NoneType" "bool" = false := by decide +kernel
theorem isOk_int_int : isOk "int" "int" = true := by decide +kernel
theorem isOk_int_bool : isOk "int" "bool" = true := by decide +kernel
theorem isOk_int_str : isOk "int" "str" = true := by decide +kernel
theorem isOk_int_list : isOk "int" "list" = true := by decide +kernel
theorem isOk_int_tuple : isOk "int" "tuple" = true := by decide +kernel
theorem isOk_bool_int : isOk "bool" "int" = true := by decide +kernel
theorem isOk_bool_bool : isOk "bool" "bool" = true := by decide +kernel
theorem isOk_bool_str : isOk "bool" "str" = true := by decide +kernel
theorem isOk_str_str : isOk "str" "str" = true := by decide +kernel
theorem isOk_str_int : isOk "str" "int" = true := by decide +kernel
theorem isOk_str_bool : isOk "str" "bool" = true := by decide +kernel
theorem isOk_str_tuple : isOk "str" "tuple" = true := by decide +kernel
theorem isOk_str_list : isOk "str" "list" = true := by decide +kernel
theorem isOk_list_list : isOk "list" "list" = true := by decide +kernel
theorem isOk_list_tuple : isOk "list" "tuple" = true := by decide +kernel
theorem isOk_tuple_tuple : isOk "tuple" "tuple" = true := by decide +kernel
theorem isOk_tuple_list : isOk "tuple" "list" = true := by decide +kernel
theorem isOk_dict_dict : isOk "dict" "dict" = true := by decide +kernel
theorem isOk_none_int : isOk "NoneType" "int" = true := by decide +kernel
theorem isOk_none_bool : isOk "NoneType" "bool" = true := by decide +kernel
end

/-! ### loops -/
/-- the loop itself, behind the making of its iterator: not opened by simp -/
def forK (J : It) (g : TG) (tb : TS) (D : Ends) (σ : L2.St) (H : Hp) : Prop :=
  ∃ W : Nat → Nat → L2.St → Hp → Prop, (∃ m, W 0 m σ H) ∧ ∀ i m σ H, W i m σ H →
    (J.stop i H ∧ D.nx σ H) ∨ (J.go i H ∧ ∃ N : L2.St → Hp → Prop, (∀ σ' H', N σ' H' → ∃ m', m' < m ∧ W (i + 1) m' σ' H') ∧ ∀ x H', J.yld i H x H' → g x σ H' fun σ2 H2 => tb { D with nx := N, ct := N, bk := D.nx } σ2 H2)
def uFor (wi : TI) (g : TG) (tb : TS) : TS := fun D σ H => wi σ H fun J H1 => forK J g tb D σ H1
theorem for_rng {lo : Int} {n : Nat} {g : TG} {tb : TS} {D : Ends} {σ : L2.St} {H : Hp} (Pv : Nat → L2.St → Hp → Prop) (h0 : Pv 0 σ H)
    (hs : ∀ i σ H, i < n → Pv i σ H → g (.int (lo + i)) σ H fun σ2 H2 => tb { D with nx := Pv (i + 1), ct := Pv (i + 1), bk := D.nx } σ2 H2) (hd : ∀ σ H, Pv n σ H → D.nx σ H) : forK (Itr lo n) g tb D σ H := for_range Pv h0 hs hd
theorem for_lst {K : Frag} {a : Addr} {xs : List V} {g : TG} {tb : TS} {D : Ends} {σ : L2.St} {H : Hp} (Pv : Nat → L2.St → Hp → Prop) (h0 : Pv 0 σ H) (hl : ∀ i σ H, i ≤ xs.length → Pv i σ H → SqL K H a xs)
    (hs : ∀ i x σ H, xs[i]? = some x → Pv i σ H → g x σ H fun σ2 H2 => tb { D with nx := Pv (i + 1), ct := Pv (i + 1), bk := D.nx } σ2 H2) (hd : ∀ σ H, Pv xs.length σ H → D.nx σ H) : forK (Itl K a) g tb D σ H := for_list Pv h0 hl hs hd
/-- while: what holds, by a measure -/
def uWhile (c : TT) (tb : TS) : TS := fun D σ H => ∃ W : Nat → L2.St → Hp → Prop, (∃ m, W m σ H) ∧ ∀ m σ H, W m σ H →
  c σ H fun b H1 => if b = true then tb { D with nx := fun σ' H' => ∃ m', m' < m ∧ W m' σ' H', ct := fun σ' H' => ∃ m', m' < m ∧ W m' σ' H', bk := D.nx } σ H1 else D.nx σ H1
section
variable {X : Cx}
theorem k_for {tg iter : Expr} {body : List Stmt} {wi : TI} {g : TG} {tb : TS} {pos : Pos} (hp : PassesOwn (model X.prog X.w) X.A X.env X.xe) (hc : X.calm = true) (hi : PI X tg iter wi) (hg : PG X tg g) (hb : PSs X body tb)
    (hs : ∀ x, foldedSetIterable iter X.env x = pure x := by intro _; rfl) : PS X (.For tg iter body [] pos) (uFor wi g tb) := ⟨(ps_for hp hc hi hg hb hs).run⟩
theorem k_while {c : Expr} {body : List Stmt} {tc : TT} {tb : TS} {pos : Pos} (hp : PassesOwn (model X.prog X.w) X.A X.env X.xe) (hc : PT X c tc) (hb : PSs X body tb) : PS X (.While c body [] pos) (uWhile tc tb) := by
  refine ⟨fun pins s σ H D I h => ?_⟩
  obtain ⟨W, ⟨m0, w0⟩, turn⟩ := h
  refine wpAny_While (codeAny_whileLoop (fun n s' => ∃ σ' H', Inv X pins σ' H' s' ∧ W n σ' H') ?_ m0 ⟨σ, H, I, w0⟩)
  rintro n s1 ⟨σ1, H1, I1, w1⟩
  refine wpAny_passesOwn hp (thn (hc.run pins s1 σ1 H1 _ I1 (turn n σ1 H1 w1)) fun b s2 ⟨H2, I2, q2⟩ => ?_)
  cases b with
  | true =>
    rw [if_pos rfl] at q2
    rw [if_pos rfl]
    refine wpAny_passesOwn hp (thn (hb.run pins s2 σ1 H2 _ I2 q2) fun f s3 q3 => ?_)
    cases f with
    | next =>
      obtain ⟨σ3, H3, I3, m', hm, w3⟩ := q3
      exact ⟨m', hm, σ3, H3, I3, w3⟩
    | cont =>
      obtain ⟨σ3, H3, I3, m', hm, w3⟩ := q3
      exact ⟨m', hm, σ3, H3, I3, w3⟩
    | brk => exact q3
    | ret v => exact q3
  | false =>
    rw [if_neg Bool.false_ne_true] at q2
    rw [if_neg Bool.false_ne_true]
    exact wpAny_execs_nil ⟨σ1, H2, I2, q2⟩

/-! ### defs of the text, called by their names -/
/-- the def x of the module keeps the promise sp, at level k; ps its parameters, dvs the defaults that a call leaves open -/
structure Cal (P : Program) (w : World) (K : Frag) (mg : Str → Option Value) (base : Heap) (k : Nat) (x : Str) (sp : Sp) : Prop where
  ex : ∃ (f : Addr) (fd : FuncData) (ps : List Str), mg x = some (.ref f) ∧ PySem.W.keepIn K (.ref f) = true ∧ Binds K fd ps [] ∧ FnOk P w K mg base (L2N.CX P w) k f fd ps sp
def uCall (sp : Sp) (t : TA) : TE := fun σ H Q => t σ H fun vs H1 => sp vs H1 Q E0
theorem passAt0 {σ : L2.St} : PassesAt (L2N.CX X.prog X.w) X σ E0 := fun _ _ _ _ _ _ h => by
  obtain ⟨_, _, _, _, _, _, _, _, _, _, _, _, z⟩ := h
  exact z.elim
section
variable {k : Nat} {x : Str} {sp : Sp} {p pos : Pos} {e : Expr} {es : List Expr} {t : TA}
/-- f(e, ..), f a def that raises nothing here -/
theorem kc (c : Cal X.prog X.w X.K X.mg X.base k x sp) (hr : Room k X.A) (ha : PA X (e :: es) t) (hg : Gl X x := by rfl) (hdb : (x == ("__debug__" : Str)) = false := by decide)
    (he : starEach (e :: es) X.env = (false, eval e X.env) :: starEach es X.env := by rfl) (hpl : (backTo pos (starEach es X.env)).any (·.1) = false := by rfl) : PE X (.Call (.Name x p) (e :: es) [] pos) (uCall sp t) := by
  obtain ⟨f, fd, ps, hm, hk, hb, F⟩ := c.ex
  exact pe_callS F hr hg hm hk hb (fun _ => passAt0) ha hdb he hpl
theorem kc0 (c : Cal X.prog X.w X.K X.mg X.base k x sp) (hr : Room k X.A) (hg : Gl X x := by rfl) (hdb : (x == ("__debug__" : Str)) = false := by decide) : PE X (.Call (.Name x p) [] [] pos) (uCall sp tNil) := by
  obtain ⟨f, fd, ps, hm, hk, hb, F⟩ := c.ex
  refine ⟨fun pins s σ H Q I h => ?_⟩
  refine wpAny_Call_Name_kw (ld_glob I hg hm ?_ hdb)
  exact PySem.W.callWith_K0 I.kIn hk (run_fnS (E := fun _ => E0) F hr hb passAt0 I .nil h)
/-- f(e, ..), f a def that may raise: W is what is wanted of it -/
theorem kcX {W : WX} (tk : L2N.Takes X W) (c : Cal X.prog X.w X.K X.mg X.base k x sp) (hr : Room k X.A) (ha : PA X (e :: es) t) (hg : Gl X x := by rfl) (hdb : (x == ("__debug__" : Str)) = false := by decide)
    (he : starEach (e :: es) X.env = (false, eval e X.env) :: starEach es X.env := by rfl) (hpl : (backTo pos (starEach es X.env)).any (·.1) = false := by rfl) : PE X (.Call (.Name x p) (e :: es) [] pos) (tCallS sp (WE W) t) := by
  obtain ⟨f, fd, ps, hm, hk, hb, F⟩ := c.ex
  exact pe_callS F hr hg hm hk hb (fun σ => L2N.passAt tk σ) ha hdb he hpl
end
end
/-- a def of the text, with what binds its arguments -/
structure DefAt (K : Frag) (mg : Str → Option Value) (x qual : Str) (st : Stmt) (ps : List Str) : Prop where
  ex : ∃ (f : Addr) (fd : FuncData), mg x = some (.ref f) ∧ Fun K x qual st f fd ∧ Binds K fd ps []
section
variable {P : Program} {w : World} {K : Frag} {mg : Str → Option Value} {base : Heap}
theorem DefAt.ok {x qual : Str} {st : Stmt} {N ps : List Str} {k : Nat} {sp : Sp} (D : DefAt K mg x qual st ps) (S : FnScope N ps (defScope st)) (len : ∀ vs H Q E, sp vs H Q E → vs.length = ps.length)
    (hbody : ∀ (f : Addr) (cdv : Value) (A : Around) (outer : List Env) (s : Shared) (H : Hp) (vs : List V) (Q : VK) (E : XK), Room k (A.deeper (envOfC qual (defScope st) s.heap.objs.size f cdv)) → sp vs H Q E →
      ∃ t, PSs (cxOf (L2N.CX P w) P w K mg base N qual (defScope st) f cdv A outer s H E) (defBody st) t ∧ t { nx := fun _ H' => Q .non H', rt := Q } (start N vs) H) : Cal P w K mg base (k + 1) x sp := by
  obtain ⟨f, fd, hm, F, hb⟩ := D.ex
  refine ⟨f, fd, ps, hm, F.kp, hb, ?_⟩
  obtain ⟨oc, od, kV, doc, pm, an, cdv, ct, osl, rfl, lk, hcd⟩ := F.ex
  exact fn_of lk hcd S len fun A outer s H vs Q E hr hsp => hbody f cdv A outer s H vs Q E hr hsp
theorem Cal.mono {j k : Nat} {x : Str} {sp : Sp} (c : Cal P w K mg base j x sp) (h : j ≤ k) : Cal P w K mg base k x sp := by
  obtain ⟨f, fd, ps, hm, hk, hb, F⟩ := c.ex
  exact ⟨f, fd, ps, hm, hk, hb, F.mono h⟩
end
end KW
namespace KW
open PySem PySem.Spec PyProof.Rows L2
/-- the module's name x holds the constant v -/
def GV (mg : Str → Option Value) (x : Str) (v : V) : Prop := ∃ u, mg x = some u ∧ RelV v u
theorem k_g {X : Cx} {x : Str} {v : V} {pos : Pos} (h : GV X.mg x v) (hg : Gl X x := by rfl) (hd : (x == ("__debug__" : Str)) = false := by decide) : PE X (.Name x pos) (tC v) := by
  obtain ⟨u, hm, r⟩ := h
  exact pe_glob hg hm r hd
/-- an object that stands by itself may be changed while all else stands -/
def But (a : Addr) (H H' : Hp) : Prop := ∀ b o, b ≠ a → H b = some o → H' b = some o
theorem But.refl {a : Addr} (H : Hp) : But a H H := fun _ _ _ h => h
theorem But.trans {a : Addr} {H H1 H2 : Hp} (x : But a H H1) (y : But a H1 H2) : But a H H2 := fun b o n h => y b o n (x b o n h)
theorem But.upd {a : Addr} {H : Hp} {o : HO} : But a H (upd H a o) := fun b _ n h => by rw [upd_ne n]; exact h
theorem But.seq {a b : Addr} {K : Frag} {H H' : Hp} {xs : List V} (e : But a H H') (n : b ≠ a) (h : SqL K H b xs) : SqL K H' b xs := by
  rcases h with (h | ⟨o, h⟩) | h
  · exact .inl (.inl (e _ _ n h))
  · exact .inl (.inr ⟨o, e _ _ n h⟩)
  · exact .inr h
end KW
namespace KW
open PySem PySem.Spec PyProof.Rows L2
/-! ### reads and stores of lists and tuples: by lemmas, not by simp -/
section
variable {K : Frag} {H : Hp} {p : Addr} {xs : List V} {i : Int} {v : V} {Q : VK}
theorem ix_l (h : H p = some (.lst xs)) (e : atI xs i = some v) (q : Q v H) : uIx K (.ref p) (.int i) H Q := ⟨xs, v, .inl (.of h), e, q⟩
theorem ix_t (h : H p = some (.tup xs)) (e : atI xs i = some v) (q : Q v H) : uIx K (.ref p) (.int i) H Q := ⟨xs, v, .inr (.of h), e, q⟩
theorem ix_sl (h : SqL K H p xs) (e : atI xs i = some v) (q : Q v H) : uIx K (.ref p) (.int i) H Q := ⟨xs, v, .inl h, e, q⟩
theorem ix_st (h : SqT K H p xs) (e : atI xs i = some v) (q : Q v H) : uIx K (.ref p) (.int i) H Q := ⟨xs, v, .inr h, e, q⟩
theorem len_l (h : H p = some (.lst xs)) (q : Q (.int xs.length) H) : uLen K [.ref p] H Q := ⟨xs, .inl (.of h), q⟩
theorem len_t (h : H p = some (.tup xs)) (q : Q (.int xs.length) H) : uLen K [.ref p] H Q := ⟨xs, .inr (.of h), q⟩
theorem len_sl (h : SqL K H p xs) (q : Q (.int xs.length) H) : uLen K [.ref p] H Q := ⟨xs, .inl h, q⟩
theorem len_st (h : SqT K H p xs) (q : Q (.int xs.length) H) : uLen K [.ref p] H Q := ⟨xs, .inr h, q⟩
end
/-- o[i] = v -/
def uSet : TSet
  | .ref p, .int k, v, H, Q => ∃ xs j, H p = some (.lst xs) ∧ ixN xs.length k = some j ∧ Q (upd H p (.lst (xs.set j v)))
  | _, _, _, _, _ => False
theorem s_set {X : Cx} : PSet X uSet := fun pins s σ H o i v ov iv u Q I ro ri rv h => by
  unfold uSet at h
  split at h
  · obtain ⟨xs, j, h1, h2, q⟩ := h
    exact set_list pins s σ H _ _ _ ov iv u Q I ro ri rv ⟨_, xs, _, j, rfl, rfl, h1, h2, q⟩
  · exact h.elim
theorem set_l {H : Hp} {p : Addr} {xs : List V} {k : Int} {j : Nat} {v : V} {Q : Hp → Prop} (h : H p = some (.lst xs)) (e : ixN xs.length k = some j) (q : Q (upd H p (.lst (xs.set j v)))) : uSet (.ref p) (.int k) v H Q := ⟨xs, j, h, e, q⟩
end KW
namespace KW
open PySem PySem.Spec PyProof.Rows L2
theorem le_line {n : Nat} (h : n ≤ 16000000) : n ≤ sizeLine := by rw [sizeLine_eq]; omega
theorem lt_line {n : Nat} (h : n ≤ 16000000) : n < sizeLine := by rw [sizeLine_eq]; omega
theorem mul_l {i j : Int} (h : -18446744073709551616 < i ∧ i < 18446744073709551616) : CMul i j ∨ CMulW i j := .inl (.inl ⟨by omega, by omega⟩)
theorem mul_r {i j : Int} (h : -18446744073709551616 < j ∧ j < 18446744073709551616) : CMul i j ∨ CMulW i j := .inl (.inr ⟨by omega, by omega⟩)
theorem div_s {i j : Int} (h : 0 < j ∧ j < 1073741824) : CDiv i j ∨ CDivW i j := .inl h
theorem pow_s {i j : Int} (h : 0 ≤ j ∧ j ≤ 1000000 ∧ -18446744073709551616 < i ∧ i < 18446744073709551616) : CPow i j := ⟨h.1, h.2.1, by omega⟩
end KW
namespace KW
open PySem PySem.Spec PyProof.Rows L2
theorem But.new {st p : Addr} {H : Hp} {o : HO} (h : H p = none) : But st H (L2.upd H p o) := fun b u _ e => by rw [upd_ne (ne_of_none e h)]; exact e
theorem SqL.new {K : Frag} {H : Hp} {sc p : Addr} {o : HO} {xs : List V} (h : H p = none) (hS : SqL K H sc xs) : SqL K (upd H p o) sc xs := by
  rcases hS with (q | ⟨o, q⟩) | q
  · exact .inl (.inl (by rw [upd_ne (ne_of_none q h)]; exact q))
  · exact .inl (.inr ⟨o, by rw [upd_ne (ne_of_none q h)]; exact q⟩)
  · exact .inr q
theorem atI_int {α : Type} {xs : List α} {r : Int} (h0 : 0 ≤ r) (h1 : r < xs.length) : ∃ v, xs[r.toNat]? = some v ∧ atI xs r = some v := by
  obtain ⟨j, rfl⟩ := Int.eq_ofNat_of_zero_le h0
  have h : j < xs.length := by omega
  exact ⟨xs[j], List.getElem?_eq_getElem h, atI_nat (List.getElem?_eq_getElem h)⟩
end KW
namespace KW
open PySem PySem.Spec PyProof.Rows L2
theorem tup_l {K : Frag} {n : Nat} {t : TGs} {a : Addr} {xs : List V} {σ : L2.St} {H : Hp} {Q : L2.St → Hp → Prop} (h : H a = some (.tup xs)) (hn : xs.length = n) (q : t xs σ H Q) : gTup K n t (.ref a) σ H Q := ⟨a, xs, rfl, .of h, hn, q⟩
theorem tup_s {K : Frag} {n : Nat} {t : TGs} {a : Addr} {xs : List V} {σ : L2.St} {H : Hp} {Q : L2.St → Hp → Prop} (h : SqT K H a xs) (hn : xs.length = n) (q : t xs σ H Q) : gTup K n t (.ref a) σ H Q := ⟨a, xs, rfl, h, hn, q⟩
end KW
namespace KW
open PySem PySem.Spec PyProof.Rows L2
section
variable {P : Program} {w : World} {K : Frag} {mg : Str → Option Value} {base : Heap}
theorem DefAt.fn {x qual : Str} {st : Stmt} {N ps : List Str} {k : Nat} {sp : Sp} (S : FnScope N ps (defScope st)) (len : ∀ vs H Q E, sp vs H Q E → vs.length = ps.length)
    (hbody : ∀ (f : Addr) (cdv : Value) (A : Around) (outer : List Env) (s : Shared) (H : Hp) (vs : List V) (Q : VK) (E : XK), Room k (A.deeper (envOfC qual (defScope st) s.heap.objs.size f cdv)) → sp vs H Q E →
      ∃ t, PSs (cxOf (L2N.CX P w) P w K mg base N qual (defScope st) f cdv A outer s H E) (defBody st) t ∧ t { nx := fun _ H' => Q .non H', rt := Q } (start N vs) H) :
    ∀ f fd, Fun K x qual st f fd → FnOk P w K mg base (L2N.CX P w) (k + 1) f fd ps sp := by
  intro f fd F
  obtain ⟨oc, od, kV, doc, pm, an, cdv, ct, osl, rfl, lk, hcd⟩ := F.ex
  exact fn_of lk hcd S len fun A outer s H vs Q E hr hsp => hbody f cdv A outer s H vs Q E hr hsp
theorem defAt_mk {x qual : Str} {st : Stmt} {ps : List Str} {h : Heap} {f : Addr} {oc : Value} {od an : Option Addr} {osl : Array (Option Value)} {kV doc pm cdv ct : Value}
    (X : K.In h) (G : h.Ns mainGlobals mg) (a : PySem.W.nsIn K mainGlobals x = some (some (.ref f)))
    (l : K.lookup f = some ⟨oc, od, .func (PySem.W.fnOf x qual (defArgs st) (defBody st) (defScope st) .none kV doc pm an cdv ct), osl⟩) (c : PySem.W.codeIn K cdv qual = true) (k : PySem.W.keepIn K (.ref f) = true)
    (hb : ∀ (kV doc pm : Value) (an : Option Addr) (cdv ct : Value) (us : List Value), us.length = ps.length → bindArgs (PySem.W.fnOf x qual (defArgs st) (defBody st) (defScope st) .none kV doc pm an cdv ct) ⟨us, []⟩ = pure (ps.zip us)) : DefAt K mg x qual st ps := by
  have F := fun_mk (st := st) l c k
  exact ⟨f, _, PySem.W.mg_of X G a, F, F.binds hb⟩
theorem gv_mk {x : Str} {v : V} {u : Value} {h : Heap} (X : K.In h) (G : h.Ns mainGlobals mg) (a : PySem.W.nsIn K mainGlobals x = some (some u)) (r : RelV v u) : GV mg x v := ⟨u, PySem.W.mg_of X G a, r⟩
/-- the law's promise: True for every list of at most 63 ints -/
def sp_law63 (K : Frag) : Sp := fun vs H Q _ => ∃ (sc : Addr) (ns : List Int), vs = [.ref sc] ∧ SqL K H sc (ns.map .int) ∧ ns.length ≤ 63 ∧ ∀ H', Q (.bl true) H'
end
theorem CX_none {P : Program} {w : World} {l : List Env} {H : Hp} {s : Shared} {e : Value} {s' : Shared} (h : L2N.CX P w l H s (fun _ _ _ => False) e s') : False := by
  obtain ⟨_, _, _, _, _, _, _, _, _, _, _, _, z⟩ := h
  exact z.elim
theorem walk63 {l : PySem.W.OpenLaw} {k : Nat} {st : Stmt} {q : Program} {loose : List Str} {XP : (Str → Option Value) → Heap → Prop} {YP : World → Heap → Prop} {d : DefRec} {K : Params → PySem.W.Frag} (hn : l.most = some 63) (hdf : d.params.defaults = []) (hd : d.name = "law") (hr : Room k callerA)
    (hY : ∀ (w : World) (h : Heap), YP w h → (K w.params).In h)
    (hb : ∀ (kV doc pm : Value) (an : Option Addr) (cdv ct : Value) (us : List Value), us.length = ["script"].length → bindArgs (PySem.W.fnOf "law" "law" (defArgs st) (defBody st) (defScope st) .none kV doc pm an cdv ct) ⟨us, []⟩ = pure ((["script"] : List Str).zip us))
    (F : ∀ (w : World) (mg : Str → Option Value) (h : Heap), (K w.params).In h → h.Ns mainGlobals mg →
      DefAt (K w.params) mg "law" "law" st ["script"] ∧ ∀ base f fd, Fun (K w.params) "law" "law" st f fd → FnOk l.prog w (K w.params) mg base (L2N.CX l.prog w) k f fd ["script"] (sp_law63 (K w.params))) :
    PySem.W.WalkO q loose XP YP l.row.toRowW d [] (fun f vs => PySem.call f vs) := by
  refine L2.walk_of (n := 63) (k := k) (x := "script") (CX := fun w => L2N.CX l.prog w) (sp := fun w => sp_law63 (K w.params)) hn (by decide) hdf hr hY ?_ (fun _ _ a ns hl _ hS => ⟨a, ns, rfl, hS, hl, fun _ => rfl⟩) fun _ _ _ _ _ h => CX_none h
  intro w mg fa h KX G hmg
  obtain ⟨D, ok⟩ := F w mg h KX G
  obtain ⟨f, fd, hm, Fu, _⟩ := D.ex
  rw [hd, hm] at hmg
  cases hmg
  have Fu' := Fu
  obtain ⟨oc, od, kV, doc, pm, an, cdv, ct, osl, rfl, lk, hcd⟩ := Fu.ex
  exact ⟨_, fun s u => .of_eq (hb kV doc pm an cdv ct [u] rfl), fun base _ _ => ok base _ _ Fu'⟩
end KW
/-! ### case lemmas -/
namespace KW
open PySem PySem.Spec PyProof.Rows L2
theorem uAdd_e1 {K : Frag} {i : Int} {j : Int} {H : Hp} {Q : VK} : uAdd K (.int i) (.int j) H Q = (Q (.int (i + j)) H) := rfl
theorem uAdd_e2 {K : Frag} {i : Str} {j : Str} {H : Hp} {Q : VK} : uAdd K (.str i) (.str j) H Q = (i.length + j.length ≤ sizeLine ∧ Q (.str (i ++ j)) H) := rfl
theorem uAdd_e3 {K : Frag} {a : Addr} {b : Addr} {H : Hp} {Q : VK} : uAdd K (.ref a) (.ref b) H Q = (rCat (.ref a) (.ref b) H Q ∨ rCatT K (.ref a) (.ref b) H Q) := rfl
theorem uSub_e1 {i : Int} {j : Int} {H : Hp} {Q : VK} : uSub (.int i) (.int j) H Q = (Q (.int (i - j)) H) := rfl
theorem uMul_e1 {i : Int} {j : Int} {H : Hp} {Q : VK} : uMul (.int i) (.int j) H Q = ((CMul i j ∨ CMulW i j) ∧ Q (.int (i * j)) H) := rfl
theorem uMul_e2 {l : Addr} {k : Int} {H : Hp} {Q : VK} : uMul (.ref l) (.int k) H Q = (rRep (.ref l) (.int k) H Q) := rfl
theorem uMod_e1 {i : Int} {j : Int} {H : Hp} {Q : VK} : uMod (.int i) (.int j) H Q = (0 < j ∧ Q (.int (i % j)) H) := rfl
theorem uDiv_e1 {i : Int} {j : Int} {H : Hp} {Q : VK} : uDiv (.int i) (.int j) H Q = ((CDiv i j ∨ CDivW i j) ∧ Q (.int (i / j)) H) := rfl
theorem uPow_e1 {i : Int} {j : Int} {H : Hp} {Q : VK} : uPow (.int i) (.int j) H Q = (CPow i j ∧ Q (.int (i ^ j.toNat)) H) := rfl
theorem uShl_e1 {i : Int} {j : Int} {H : Hp} {Q : VK} : uShl (.int i) (.int j) H Q = (CPow i j ∧ Q (.int (i * 2 ^ j.toNat)) H) := rfl
theorem uNeg_e1 {i : Int} {H : Hp} {Q : VK} : uNeg (.int i) H Q = (Q (.int (-i)) H) := rfl
theorem uIAdd_e1 {i : Int} {j : Int} {H : Hp} {Q : VK} : uIAdd (.int i) (.int j) H Q = (Q (.int (i + j)) H) := rfl
theorem uIAdd_e2 {i : Str} {j : Str} {H : Hp} {Q : VK} : uIAdd (.str i) (.str j) H Q = (i.length + j.length ≤ sizeLine ∧ Q (.str (i ++ j)) H) := rfl
theorem uIAdd_e3 {a : Addr} {b : Addr} {H : Hp} {Q : VK} : uIAdd (.ref a) (.ref b) H Q = (rExt2 (.ref a) (.ref b) H Q) := rfl
theorem uISub_e1 {i : Int} {j : Int} {H : Hp} {Q : VK} : uISub (.int i) (.int j) H Q = (Q (.int (i - j)) H) := rfl
theorem uLt_e1 {i : Int} {j : Int} {H : Hp} {Q : VK} : uLt (.int i) (.int j) H Q = (Q (.bl (decide (i < j))) H) := rfl
theorem uLt_e2 {i : Str} {j : Str} {H : Hp} {Q : VK} : uLt (.str i) (.str j) H Q = (Q (.bl (decide (i.cps.toList < j.cps.toList))) H) := rfl
theorem uLe_e1 {i : Int} {j : Int} {H : Hp} {Q : VK} : uLe (.int i) (.int j) H Q = (Q (.bl (decide (i ≤ j))) H) := rfl
theorem uGt_e1 {i : Int} {j : Int} {H : Hp} {Q : VK} : uGt (.int i) (.int j) H Q = (Q (.bl (decide (j < i))) H) := rfl
theorem uGe_e1 {i : Int} {j : Int} {H : Hp} {Q : VK} : uGe (.int i) (.int j) H Q = (Q (.bl (decide (j ≤ i))) H) := rfl
theorem uEq_e1 {K : Frag} {i : Int} {j : Int} {H : Hp} {Q : VK} : uEq K (.int i) (.int j) H Q = (Q (.bl (decide (i = j))) H) := rfl
theorem uEq_e2 {K : Frag} {i : Str} {j : Str} {H : Hp} {Q : VK} : uEq K (.str i) (.str j) H Q = (Q (.bl (decide (i = j))) H) := rfl
theorem uEq_e3 {K : Frag} {i : Bool} {j : Bool} {H : Hp} {Q : VK} : uEq K (.bl i) (.bl j) H Q = (Q (.bl (decide (i = j))) H) := rfl
theorem uEq_e4 {K : Frag} {H : Hp} {Q : VK} : uEq K (.non) (.non) H Q = (Q (.bl true) H) := rfl
theorem uEq_e5 {K : Frag} {w1 : Int} {w2 : Str} {H : Hp} {Q : VK} : uEq K (.int w1) (.str w2) H Q = (Q (.bl false) H) := rfl
theorem uEq_e6 {K : Frag} {w1 : Str} {w2 : Int} {H : Hp} {Q : VK} : uEq K (.str w1) (.int w2) H Q = (Q (.bl false) H) := rfl
theorem uEq_e7 {K : Frag} {w1 : Int} {H : Hp} {Q : VK} : uEq K (.int w1) (.non) H Q = (Q (.bl false) H) := rfl
theorem uEq_e8 {K : Frag} {w1 : Int} {H : Hp} {Q : VK} : uEq K (.non) (.int w1) H Q = (Q (.bl false) H) := rfl
theorem uEq_e9 {K : Frag} {w1 : Str} {H : Hp} {Q : VK} : uEq K (.str w1) (.non) H Q = (Q (.bl false) H) := rfl
theorem uEq_e10 {K : Frag} {w1 : Str} {H : Hp} {Q : VK} : uEq K (.non) (.str w1) H Q = (Q (.bl false) H) := rfl
theorem uEq_e11 {K : Frag} {a : Addr} {b : Addr} {H : Hp} {Q : VK} : uEq K (.ref a) (.ref b) H Q = (rEqD K (.ref a) (.ref b) H Q) := rfl
theorem uNe_e1 {K : Frag} {i : Int} {j : Int} {H : Hp} {Q : VK} : uNe K (.int i) (.int j) H Q = (Q (.bl (!decide (i = j))) H) := rfl
theorem uNe_e2 {K : Frag} {i : Str} {j : Str} {H : Hp} {Q : VK} : uNe K (.str i) (.str j) H Q = (Q (.bl (!decide (i = j))) H) := rfl
theorem uNe_e3 {K : Frag} {i : Bool} {j : Bool} {H : Hp} {Q : VK} : uNe K (.bl i) (.bl j) H Q = (Q (.bl (!decide (i = j))) H) := rfl
theorem uNe_e4 {K : Frag} {H : Hp} {Q : VK} : uNe K (.non) (.non) H Q = (Q (.bl false) H) := rfl
theorem uNe_e5 {K : Frag} {w1 : Int} {w2 : Str} {H : Hp} {Q : VK} : uNe K (.int w1) (.str w2) H Q = (Q (.bl true) H) := rfl
theorem uNe_e6 {K : Frag} {w1 : Str} {w2 : Int} {H : Hp} {Q : VK} : uNe K (.str w1) (.int w2) H Q = (Q (.bl true) H) := rfl
theorem uNe_e7 {K : Frag} {w1 : Int} {H : Hp} {Q : VK} : uNe K (.int w1) (.non) H Q = (Q (.bl true) H) := rfl
theorem uNe_e8 {K : Frag} {w1 : Int} {H : Hp} {Q : VK} : uNe K (.non) (.int w1) H Q = (Q (.bl true) H) := rfl
theorem uNe_e9 {K : Frag} {w1 : Str} {H : Hp} {Q : VK} : uNe K (.str w1) (.non) H Q = (Q (.bl true) H) := rfl
theorem uNe_e10 {K : Frag} {w1 : Str} {H : Hp} {Q : VK} : uNe K (.non) (.str w1) H Q = (Q (.bl true) H) := rfl
theorem uNe_e11 {K : Frag} {a : Addr} {b : Addr} {H : Hp} {Q : VK} : uNe K (.ref a) (.ref b) H Q = (rNeD K (.ref a) (.ref b) H Q) := rfl
theorem uIs_e1 {H : Hp} {Q : VK} : uIs (.non) (.non) H Q = (Q (.bl true) H) := rfl
theorem uIs_e2 {w1 : Int} {H : Hp} {Q : VK} : uIs (.int w1) (.non) H Q = (Q (.bl false) H) := rfl
theorem uIs_e3 {w1 : Str} {H : Hp} {Q : VK} : uIs (.str w1) (.non) H Q = (Q (.bl false) H) := rfl
theorem uIs_e4 {w1 : Addr} {H : Hp} {Q : VK} : uIs (.ref w1) (.non) H Q = (Q (.bl false) H) := rfl
theorem uIs_e5 {w1 : Bool} {H : Hp} {Q : VK} : uIs (.bl w1) (.non) H Q = (Q (.bl false) H) := rfl
theorem uIs_e6 {a : Bool} {b : Bool} {H : Hp} {Q : VK} : uIs (.bl a) (.bl b) H Q = (Q (.bl (decide (a = b))) H) := rfl
theorem uIs_e7 {a : Int} {b : Bool} {H : Hp} {Q : VK} : uIs (.int a) (.bl b) H Q = (Q (.bl false) H) := rfl
theorem uNotIs_e1 {H : Hp} {Q : VK} : uNotIs (.non) (.non) H Q = (Q (.bl false) H) := rfl
theorem uNotIs_e2 {w1 : Int} {H : Hp} {Q : VK} : uNotIs (.int w1) (.non) H Q = (Q (.bl true) H) := rfl
theorem uNotIs_e3 {w1 : Str} {H : Hp} {Q : VK} : uNotIs (.str w1) (.non) H Q = (Q (.bl true) H) := rfl
theorem uNotIs_e4 {w1 : Addr} {H : Hp} {Q : VK} : uNotIs (.ref w1) (.non) H Q = (Q (.bl true) H) := rfl
theorem uNotIs_e5 {w1 : Bool} {H : Hp} {Q : VK} : uNotIs (.bl w1) (.non) H Q = (Q (.bl true) H) := rfl
theorem uNotIs_e6 {a : Bool} {b : Bool} {H : Hp} {Q : VK} : uNotIs (.bl a) (.bl b) H Q = (Q (.bl (!decide (a = b))) H) := rfl
theorem uIn_e1 {K : Frag} {i : Str} {j : Str} {H : Hp} {Q : VK} : uIn K (.str i) (.str j) H Q = (Q (.bl (subStr i j)) H) := rfl
theorem uIn_e2 {K : Frag} {i : Int} {p : Addr} {H : Hp} {Q : VK} : uIn K (.int i) (.ref p) H Q = (rIn K false (.int i) (.ref p) H Q) := rfl
theorem uIn_e3 {K : Frag} {i : Str} {p : Addr} {H : Hp} {Q : VK} : uIn K (.str i) (.ref p) H Q = (rIn K false (.str i) (.ref p) H Q) := rfl
theorem uIn_e4 {K : Frag} {p : Addr} {H : Hp} {Q : VK} : uIn K (.non) (.ref p) H Q = (rIn K false .non (.ref p) H Q) := rfl
theorem uNotIn_e1 {K : Frag} {i : Str} {j : Str} {H : Hp} {Q : VK} : uNotIn K (.str i) (.str j) H Q = (Q (.bl (!subStr i j)) H) := rfl
theorem uNotIn_e2 {K : Frag} {i : Int} {p : Addr} {H : Hp} {Q : VK} : uNotIn K (.int i) (.ref p) H Q = (rIn K true (.int i) (.ref p) H Q) := rfl
theorem uNotIn_e3 {K : Frag} {i : Str} {p : Addr} {H : Hp} {Q : VK} : uNotIn K (.str i) (.ref p) H Q = (rIn K true (.str i) (.ref p) H Q) := rfl
theorem uNotIn_e4 {K : Frag} {p : Addr} {H : Hp} {Q : VK} : uNotIn K (.non) (.ref p) H Q = (rIn K true .non (.ref p) H Q) := rfl
theorem uTru_e1 {K : Frag} {w1 : Hp} {k : Bool → Prop} : uTru K (.non) w1 k = (k false) := rfl
theorem uTru_e2 {K : Frag} {b : Bool} {w1 : Hp} {k : Bool → Prop} : uTru K (.bl b) w1 k = (k b) := rfl
theorem uTru_e3 {K : Frag} {i : Int} {w1 : Hp} {k : Bool → Prop} : uTru K (.int i) w1 k = (k (i != 0)) := rfl
theorem uTru_e4 {K : Frag} {y : Str} {w1 : Hp} {k : Bool → Prop} : uTru K (.str y) w1 k = (y.length ≤ sizeLine ∧ k ((y.length : Int) != 0)) := rfl
theorem uTru_e5 {K : Frag} {p : Addr} {H : Hp} {k : Bool → Prop} : uTru K (.ref p) H k = (∃ b, TruV K (.ref p) H b ∧ k b) := rfl
theorem uIx_e1 {K : Frag} {p : Addr} {i : Int} {H : Hp} {Q : VK} : uIx K (.ref p) (.int i) H Q = (∃ xs v, (SqL K H p xs ∨ SqT K H p xs) ∧ atI xs i = some v ∧ Q v H) := rfl
theorem uIx_e2 {K : Frag} {z : Str} {i : Int} {H : Hp} {Q : VK} : uIx K (.str z) (.int i) H Q = (z.length ≤ sizeLine ∧ ∃ c, atI z.cps.toList i = some c ∧ Q (.str (S [c])) H) := rfl
theorem uSl_e1 {K : Frag} {a : Addr} {lo : Option Int} {hi : Option Int} {H : Hp} {Q : VK} : uSl K (.ref a) lo hi H Q = (rSlL K (.ref a) lo hi H Q ∨ rSlT K (.ref a) lo hi H Q) := rfl
theorem uSl_e2 {K : Frag} {z : Str} {lo : Option Int} {hi : Option Int} {H : Hp} {Q : VK} : uSl K (.str z) lo hi H Q = (z.length ≤ sizeLine ∧ Q (.str (cutS z lo hi)) H) := rfl
theorem uLen_e1 {K : Frag} {y : Str} {H : Hp} {Q : VK} : uLen K [.str y] H Q = (y.length ≤ sizeLine ∧ Q (.int y.length) H) := rfl
theorem uLen_e2 {K : Frag} {p : Addr} {H : Hp} {Q : VK} : uLen K [.ref p] H Q = (∃ xs, (SqL K H p xs ∨ SqT K H p xs) ∧ Q (.int xs.length) H) := rfl
theorem uAbs_e1 {i : Int} {H : Hp} {Q : VK} : uAbs [.int i] H Q = (Q (.int (if i < 0 then -i else i)) H) := rfl
theorem uInt_e1 {i : Int} {H : Hp} {Q : VK} : uInt [.int i] H Q = (Q (.int i) H) := rfl
theorem uInt_e2 {k : Bool} {H : Hp} {Q : VK} : uInt [.bl k] H Q = (Q (.int (if k then 1 else 0)) H) := rfl
theorem uMin2_e1 {i : Int} {j : Int} {H : Hp} {Q : VK} : uMin2 [.int i, .int j] H Q = (Q (.int (if j < i then j else i)) H) := rfl
theorem uIsi_e1 {K : Frag} {n : String} {H : Hp} {Q : VK} : uIsi K [.non, .ty n] H Q = (isOk "NoneType" n = true ∧ Q (.bl (isK "NoneType" n)) H) := rfl
theorem uIsi_e2 {K : Frag} {w1 : Bool} {n : String} {H : Hp} {Q : VK} : uIsi K [.bl w1, .ty n] H Q = (isOk "bool" n = true ∧ Q (.bl (isK "bool" n)) H) := rfl
theorem uIsi_e3 {K : Frag} {w1 : Int} {n : String} {H : Hp} {Q : VK} : uIsi K [.int w1, .ty n] H Q = (isOk "int" n = true ∧ Q (.bl (isK "int" n)) H) := rfl
theorem uIsi_e4 {K : Frag} {w1 : Str} {n : String} {H : Hp} {Q : VK} : uIsi K [.str w1, .ty n] H Q = (isOk "str" n = true ∧ Q (.bl (isK "str" n)) H) := rfl
theorem uIsi_e5 {K : Frag} {p : Addr} {n : String} {H : Hp} {Q : VK} : uIsi K [.ref p, .ty n] H Q = (∃ T, TyX K H (.ref p) (.type T) ∧ isOk T n = true ∧ Q (.bl (isK T n)) H) := rfl
theorem cx_K {CX : CXT} {P : Program} {w : World} {K : Frag} {mg : Str → Option Value} {base : Heap} {N : List Str} {qual : Str} {scope : Scope} {f : Addr} {cd : Value} {A : Around} {outer : List Env} {s : Shared} {H : Hp} {E : XK} : (cxOf CX P w K mg base N qual scope f cd A outer s H E).K = K := rfl
theorem uVar_s {i : Nat} {σ : L2.St} {H : Hp} {Q : VK} {v : V} (h : σ[i]? = some (some v)) : uVar i σ H Q = Q v H := by unfold uVar; rw [h]
theorem uVar_0 {a : V} {l : L2.St} {H : Hp} {Q : VK} : uVar 0 (some a :: l) H Q = Q a H := rfl
theorem uVar_n {i : Nat} {a : Option V} {l : L2.St} {H : Hp} {Q : VK} : uVar (i + 1) (a :: l) H Q = uVar i l H Q := rfl
end KW

set_option Elab.async false
set_option linter.all false
set_option maxRecDepth 100000
set_option maxHeartbeats 4000000
/-! KErr: own exception classes whose __init__(self, f) says super().__init__(str(f)); self.f = f -/
namespace PySem
namespace KErr
open PySem.W PySem.Calls PyProof.Rows PySem.HandSPX
/-- str(v) is made: some text -/
def StrOk (prog : Program) (w : World) (v : Value) : Prop := ∀ (A : Around) (s : Shared) (Q : Value → Shared → Prop) (E : Value → Shared → Prop), A.handled = none → s.heap.NoDigits → (∀ txt tk k, Q (.str txt tk) { s with toks := k }) → wpAny (model prog w) A (call (.type "str") [v]) Q E s
theorem strOk_int {prog : Program} {w : World} {n : Int} {t : Tok} (h : n.natAbs < 10 ^ 4300) : StrOk prog w (.int n t) := fun A s Q E hh hn q => str_of_int_or hh hn (fun _ => q _ _ _) fun z => absurd h (Nat.not_lt.mpr z)
theorem one_size (v : Value) : [v].length ≤ sizeLine := by
  rw [sizeLine_eq]
  exact (by decide : 1 ≤ 16777216)
theorem kept_but {K : Frag} {h h' : Heap} {x : Addr} (X : K.In h) (hx : K.lookup x = none) (k : ∀ b o, b ≠ x → h.get? b = some o → h'.get? b = some o) : K.In h' := fun a o e =>
  k a o (fun z => by rw [z, hx] at e; cases e) (X a o e)
structure InitEnd (h h' : Heap) (x C dx t1 : Addr) (f : Str) (v : Value) : Prop where
  keep : ∀ b o, b ≠ x → h.get? b = some o → h'.get? b = some o
  obj : h'.get? x = some { cls := .ref C, dict := some dx, data := .fields #[.ref t1, .none, .none, .none, .bool false, .none] }
  dbig : h.objs.size ≤ dx
  dne : dx ≠ x
  ns : h'.Ns1 dx (fun y => if y = f then some v else none)
section
variable {prog : Program} {w : World} {A : Around} {E : Value → Shared → Prop} {h : Heap} {g : Array GenState} {d : Drawn} {t : Nat} {os : OsState}
variable {nm q : Str} {C N : Addr} {bs bm : List Value} {hdct : Bool} {sn : List Str} {sub : List Value} {ab : Bool} {col : Option Bool} {dd : Option Addr} {k0 k1 k2 k3 k5 : Option Value}
theorem init_call {u e t0 : Addr} {rest : List Value} {Q : Value → Shared → Prop}
    (hC : h.get? C = some (excClassObj nm q C N bs bm hdct sn sub ab col dd k0 k1 k2 k3 k5 "ValueError.__new__")) (he : h.get? e = some (excO C t0)) (hu : h.get? u = some (kxs_mw "ValueError.__init__" e)) (hrest : rest.length ≤ sizeLine)
    (hq : ∀ h' t1, (∀ b o, b ≠ e → h.get? b = some o → h'.get? b = some o) → h'.get? e = some (excO C t1) → Q .none ⟨h', g, d, t, os⟩) :
    wpAny (model prog w) A (call (.ref u) rest) Q E ⟨h, g, d, t, os⟩ := by
  have FB := F.excBase_ValueError
  refine wpAny_call (codeAny_of_tree ?_)
  show wpAny _ A.in1 (callAny (.ref u) ⟨rest, []⟩) _ _ _
  simp only [callAny]
  refine wpAny_bind (wpAny_load hu ?_)
  simp only [kxs_mw, show (Value.type "method-wrapper" == Value.type "method" || Value.type "method-wrapper" == Value.type "builtin_function_or_method" || Value.type "method-wrapper" == Value.type "method-wrapper") = true by decide, if_true]
  refine KFB.if_so (by decide) ?_
  refine wpAny_bind (check_bound_init FB.toExcCallFacts hC he rfl ?_)
  refine wpAny_bind (wpAny_pure (wpAny_pure ?_))
  refine ⟨plainId_quiet FB.init.plain _, codeAny_builtin FB.initEntry ?_⟩
  rw [Around.under_plainId FB.init.plain _]
  exact exc_init_tree (cls := .ref C) (t0 := t0) (dv := none) (c2 := .none) (c3 := .none) (b4 := .bool false) he hrest (fun h' k e' _ => hq h' _ k e')
end
/-- a made own error -/
structure OwnMade (h h' : Heap) (e C d : Addr) (fs : List (Str × Value)) : Prop where
  keep : ∀ b o, h.get? b = some o → h'.get? b = some o
  new : h.objs.size ≤ e
  obj : ∃ oe vs, h'.get? e = some oe ∧ oe.cls = .ref C ∧ oe.dict = some d ∧ oe.data = .fields vs ∧ vs[1]? = some .none ∧ vs[2]? = some .none
  dbig : h.objs.size ≤ d
  dne : d ≠ e
  ns : h'.Ns1 d (fun y => fs.lookup y)
/-- C(us): made, where us are the values of vs and ok vs -/
def Mkd (prog : Program) (w : World) (K : Frag) (mg : Str → Option Value) (C : Addr) (ns : List Str) (ok : List L2.V → Prop) : Prop :=
  ∀ {A : Around} {s : Shared} {R : Result → Shared → Prop} {vs : List L2.V} {us : List Value}, L2.Vals vs us → ok vs → K.In s.heap → s.heap.NoLimit → s.heap.Ns mainGlobals mg → (∃ mb, s.heap.Ns builtinsNs mb ∧ ∀ x : Str, x ≠ "__name__" → mb x = bootBuiltins x) → A.handled = none → A.depth + 1 < recursionLimit →
    (∀ h' tk e d, OwnMade s.heap h' e C d (ns.zip us) → R (.ok (.ret (.ref e))) { s with heap := h', toks := tk }) → codeAny (model prog w) A (.call (.ref C) ⟨us, []⟩) R s
/-- str of the value is some text -/
def okS : L2.V → Prop
  | .int n => n.natAbs < 10 ^ 4300
  | .str _ => True
  | _ => False
theorem strOk_str {prog : Program} {w : World} {x : Str} {t : Tok} : StrOk prog w (.str x t) := fun _ _ _ _ _ _ q => PySem.P.str_of_str (q _ _ _)
theorem okS_ok {prog : Program} {w : World} {v : L2.V} {u : Value} (r : L2.RelV v u) (h : okS v) : StrOk prog w u := by
  cases v <;> simp only [okS] at h
  · obtain ⟨t, rfl⟩ := r
    exact strOk_int h
  · obtain ⟨t, rfl⟩ := r
    exact strOk_str
end KErr
end PySem

set_option Elab.async false
set_option linter.all false
set_option maxRecDepth 100000
set_option maxHeartbeats 4000000
/-! Kw2a: errors at the readings' level: made, raised, caught, asked -/
namespace PySem.W
open PySem PySem.Spec PySem.Calls PyProof.Rows
section
variable {prog : Program} {w : World} {A : Around} {E : Value → Shared → Prop} {s : Shared} {K : Frag} {x D : Addr} {ox : Obj} {od : Option Obj}
theorem kw_findCls {C : Addr} {name : Str} {a g : Value} (hc : (clsIn K C).isSome = true) (ha : findIn K (.ref C) name = some (some a)) (hg : specialIn K a "__get__" = some (some g)) (ht : takesIn K a = some true) : findObj K C od name = some (.bind g a) := by
  obtain ⟨cd, hc⟩ := Option.isSome_iff_exists.mp hc
  unfold findObj
  rw [hc, Option.bind_some, ha, Option.bind_some]
  simp [hg, ht]
/-- the class of an own error, asked by __class__, whatever its own dict holds -/
theorem kw_class {Q : Option Value → Shared → Prop} (C : L2.ExcC K D) (X : K.In s.heap) (I : InstAt s.heap x ox D od) (h : Q (some (.ref D)) { s with toks := s.toks + 1 }) : wpAny (model prog w) A (getAttr? (.ref x) "__class__") Q E s := by
  have hf : findObj K D od "__class__" = some (.bind (.builtin "getset_descriptor.__get__") (.builtin "object.__class__")) := kw_findCls (by obtain ⟨cd, hc, _⟩ := any_some C.hd; rw [hc]; rfl) C.ha C.hn C.ht
  obtain ⟨hp, g, d, t, os⟩ := s
  have L0 := I.type (M := model prog w)
  have L1 := looks_findIn (M := model prog w) X C.hg
  have L2 := looks_findIn (M := model prog w) X C.hk
  have L3 := looks_find (M := model prog w) X I hf
  have sub : Looks (model prog w) hp (isInstance (.ref x) (.type "BaseException")) true := L0.andThen (looks_subIn X C.hs)
  have hx2 : (Value.builtin "BaseException.__getattribute__" == Value.builtin "object.__getattribute__") = false := by decide +kernel
  have hx1 : (onTheHeap (Value.ref D) && Value.builtin "BaseException.__getattribute__" == Value.builtin "object.__getattribute__") = false := by rw [hx2]; rfl
  have hx0 : (false && onTheHeap (Value.builtin "BaseException.__getattribute__")) = false := rfl
  unfold getAttr? getAttrBy? getAttrBy
  refine wpAny_bind (wpAny_mkText (wpAny_bind (wpAny_attempt (wpAny_holding (wpAny_bind (L0.at (wpAny_bind (L1.at ?_))))))))
  show wpAny _ _ (if (onTheHeap (Value.ref D) && Value.builtin "BaseException.__getattribute__" == Value.builtin "object.__getattribute__") = true then _ else _) _ _ _
  rw [hx1, if_neg Bool.false_ne_true]
  unfold getAttrByItsOwn hookBefore
  refine wpAny_bind ?_
  rw [if_pos (show onTheHeap (Value.ref D) = true from rfl)]
  refine L2.at ?_
  refine wpAny_bind (wpAny_attempt (wpAny_holding ?_))
  unfold callGetattribute
  rw [hx0, if_neg Bool.false_ne_true]
  unfold boundAndCalled
  rw [PySem.F.excAttr_ValueError.ga.bind (.ref x)]
  refine wpAny_bind (wpAny_pure ?_)
  refine wpAny_call (codeAny_call_builtin PySem.F.excAttr_ValueError.ga.plain PySem.F.entry_bexc_ga ?_)
  refine @check_slot (model prog w) _ _ ⟨hp, g, d, t + 1, os⟩ "BaseException.__getattribute__" "BaseException" "__getattribute__" (.ref x) [.str "__class__" t] [] _ (by decide +kernel) (by decide +kernel) sub (PySem.F.args_bexc_ga (.ref x) (.str "__class__" t)) ?_
  unfold Builtin.«object.__getattribute__»
  refine wpAny_bind (wpAny_of_eq (a := ((Value.ref x : Value), [Value.str "__class__" t])) (by first | rfl | (simp only [slotArgs]; rfl)) ?_)
  refine wpAny_bind (wpAny_pure (wpAny_bind (L0.at (wpAny_bind (L3.at ?_)))))
  refine wpAny_bind (wpAny_holding (wpAny_call (class_get (s := ⟨hp, g, d, t + 1, os⟩) (ox := ox) (od := od) X I C.hm ?_)))
  refine wpAny_pure ?_
  show wpAny _ _ (handedOut (.ref D)) _ _ _
  rw [handedOut_of (v := .ref D) rfl]
  first
    | exact wpAny_pure (wpAny_pure h)
    | exact wpAny_pure h
    | exact wpAny_pure (wpAny_bind (wpAny_pure (wpAny_pure h)))
theorem kw_kitx (C : L2.ExcC K D) : KitX K (.ref x) (.ref D) (fun h => InstAt h x ox D od) where
  ty := fun _ _ _ I => I.type
  it := fun _ _ X _ => by
    obtain ⟨cdD, hcD, _⟩ := any_some C.hd
    unfold clsIn at hcD
    split at hcD
    · rename_i c' d' cd' sl' ho
      intro A' Q' E' s' k q
      unfold isType loadHead
      exact wpAny_bind (wpAny_loadPart (k _ _ (X _ _ ho)) (wpAny_pure q))
    · cases hcD
  ne := fun h tp dd its n sl X htp => by
    obtain ⟨cdD, hcD, _⟩ := any_some C.hd
    refine Bool.eq_false_iff.mpr fun q => ?_
    have e : D = tp := Value.ref.inj (beq_iff_eq.mp q)
    subst e
    unfold clsIn at hcD
    split at hcD
    · rename_i c' d' cd' sl' ho
      have z := (X _ _ ho).symm.trans htp
      cases z
    · cases hcD
  ca := fun X I k => kw_class C X I k
end
end PySem.W
namespace KW
open PySem PySem.Spec PyProof.Rows L2
/-- an own error class of the text: x its name, C its place, ns its fields, ok what its arguments must be -/
structure ErrC (P : Program) (w : World) (K : Frag) (mg : Str → Option Value) (x : Str) (C : Addr) (ns : List Str) (ok : List V → Prop) : Prop where
  gC : mg x = some (.ref C)
  made : PySem.KErr.Mkd P w K mg C ns ok
  kC : PySem.W.keepIn K (.ref C) = true
  exC : PySem.W.subIn K (.ref C) (.type "BaseException") = some true
  tyC : PySem.W.typeIn K (.ref C) = some (.type "type")
  xf : XfC K C
  is : ExcC K C
  no : ∀ f ∈ ns, PySem.W.findIn K (.ref C) f = some none
section
variable {X : Cx} {x : Str} {C : Addr} {ns : List Str} {ok : List V → Prop}
theorem relO_zip : ∀ {ns : List Str} {vs : List V} {us : List Value}, Vals vs us → ∀ f, RelO (List.lookup f (ns.zip vs)) (List.lookup f (ns.zip us))
  | [], _, _, _, f => by simp [List.lookup, RelO]
  | n :: ns, _, _, .nil, f => by simp [List.lookup, RelO]
  | n :: ns, _, _, .cons r rs, f => by
    rw [List.zip_cons_cons, List.zip_cons_cons]
    by_cases h : f = n
    · subst h
      simp only [List.lookup, beq_self_eq_true]
      exact r
    · have q : (f == n) = false := by simpa using h
      simp only [List.lookup, q]
      exact relO_zip rs f
/-- x(args): the error made -/
def uMk (C : Addr) (ns : List Str) (ok : List V → Prop) (t : TA) : L2.St → Hp → XK → Prop := fun σ H Q => t σ H fun vs H1 => ok vs ∧ ∀ d, H1 d = none → Q (.ref C) (some d) (upd H1 d (.xd (ns.zip vs)))
theorem k_mk {e : Expr} {es : List Expr} {t : TA} {p pos : Pos} {k : Nat} (T : ErrC X.prog X.w X.K X.mg x C ns ok) (hr : Room k X.A) (ha : PA X (e :: es) t) (hg : Gl X x := by rfl) (hdb : (x == ("__debug__" : Str)) = false := by decide)
    (he : starEach (e :: es) X.env = (false, eval e X.env) :: starEach es X.env := by rfl) (hpl : (backTo pos (starEach es X.env)).any (·.1) = false := by rfl) : L2N.PMk X (.Call (.Name x p) (e :: es) [] pos) (uMk C ns ok t) := by
  intro pins s σ H Q I h
  refine wpAny_Call_Name_kw (ld_glob I hg T.gC ?_ hdb)
  refine PySem.W.callWith_K (h₀ := X.base) I.ok.mod.kin T.kC (thn (ha.run pos pins s σ H _ I h) fun us s1 hh => ?_) he hpl
  obtain ⟨vs, H1, I1, r1, okv, q1⟩ := hh
  refine ⟨I1.kIn, ?_⟩
  show wpAny _ _ (call (.ref C) us) _ _ _
  have hlim := I1.nolimit
  have G := I1.mod.glob.keeps I1.bk
  have B : ∃ mb, s1.heap.Ns builtinsNs mb ∧ ∀ x : Str, x ≠ "__name__" → mb x = bootBuiltins x := by
    obtain ⟨mb, h1, h2⟩ := I1.mod.blt
    exact ⟨mb, h1.keeps I1.bk, h2⟩
  obtain ⟨hp, g, dr, tk, os⟩ := s1
  refine wpAny_call (T.made r1 okv I1.kIn hlim G B (by exact hr.hd) (by show X.A.depth + 1 < _; have := hr.dp; omega) fun h' tk' e d M => ?_)
  show L2N.MkP X pins σ Q (.ref e) ⟨h', g, dr, tk', os⟩
  obtain ⟨oe, fv, hoe, hc, hd, hdat, h1, h2⟩ := M.obj
  have hns := M.ns
  obtain ⟨G', g1, g2⟩ := restrict h' fun b => decide (b ≠ e)
  have gk : ∀ b, b ≠ e → G'.get? b = h'.get? b := fun b hb => g1 b (decide_eq_true hb)
  have ge : G'.get? e = none := g2 e (by simp)
  have old : ∀ b o, hp.get? b = some o → G'.get? b = some o := fun b o q => (gk b (Nat.ne_of_lt (Nat.lt_of_lt_of_le (Heap.lt_size q) M.new))).trans (M.keep b o q)
  have ob : ObjOk X.prog X.w (upd H1 d (.xd (ns.zip vs))) G' d (.xd (ns.zip vs)) := ⟨_, hns.at (fun o q => (gk d M.dne).trans q), fun f => relO_zip r1 f⟩
  have J : Inv X pins σ (upd H1 d (.xd (ns.zip vs))) ⟨G', g, dr, tk', os⟩ := I1.laid (t' := tk') old M.dbig ob
  refine ⟨e, oe, fv, ⟨G', g, dr, tk', os⟩, _, .ref C, some d, rfl, J, fun b o q => ?_, ge, hoe, ⟨hc, hd, fun vs' e' => by rw [hdat] at e'; cases e'; exact h2⟩, hdat, h1, ?_, rfl, I1.bare, raises_own T.exC T.tyC, q1 d (I1.hok.fresh M.dbig)⟩
  · by_cases hb : b = e
    · have q' : G'.get? b = some o := q
      rw [hb, ge] at q'; cases q'
    · exact (gk b hb).symm.trans q
  · rw [upd_ne (Ne.symm M.dne)]
    exact I1.hok.fresh M.new
/-- raise x(..) -/
def uRaise (W : WX) (t : L2.St → Hp → XK → Prop) : TS := fun _ σ H => t σ H fun cls d H' => W cls d σ H'
theorem k_raise {W : WX} {e : Expr} {t : L2.St → Hp → XK → Prop} {pos : Pos} (tk : L2N.Takes X W) (he : L2N.PMk X e t) (hc : X.calm = true := by rfl) : PS X (.Raise (some e) none pos) (uRaise W t) := L2N.ps_raise hc tk he
/-- what does not come about -/
def uDead : TE := fun _ _ _ => False
def sDead : TS := fun _ _ _ => False
theorem k_dead {e : Expr} : PE X e uDead := ⟨fun _ _ _ _ _ _ h => h.elim⟩
theorem k_deadS {st : Stmt} : PS X st sDead := ⟨fun _ _ _ _ _ _ h => h.elim⟩
/-- e.f in the suite that holds e -/
def uEf (K : Frag) (a : Addr) (cls : Value) (d : Option Addr) (i : Nat) (f : Str) : TE := fun σ H Q => ∃ (C dd : Addr) (fs : List (Str × V)) (v : V), σ[i]? = some (some (.ref a)) ∧ cls = .ref C ∧ XfC K C ∧ PySem.W.findIn K (.ref C) f = some none ∧ d = some dd ∧ H dd = some (.xd fs) ∧ fs.lookup f = some v ∧ Q v H
theorem k_ef (i : Nat) {a : Addr} {oe : Obj} {cls : Value} {d : Option Addr} {pn : List (Addr × Obj)} {n f : Str} {p pos : Pos} (hz : Zc cls d oe) (hf : ∃ vs, oe.data = .fields vs) (hN : X.N[i]? = some n := by rfl)
    (hv : Vis X.env.scope n := by first | exact Or.inl rfl | exact Or.inr (Or.inl rfl) | exact Or.inr (Or.inr rfl)) (hd : (n == ("__debug__" : Str)) = false := by decide) (hcd : (n == ("__classdict__" : Str)) = false := by decide)
    (hb : attributeBase (.Name n p) f X.env (eval (.Name n p) X.env) = eval (.Name n p) X.env := by rfl) : PE (X.suite a ((a, oe) :: pn)) (.Attribute (.Name n p) f pos) (uEf X.K a cls d i f) := by
  refine ⟨fun pins s σ H Q I h => ?_⟩
  obtain ⟨C, dd, fs, v, e0, e1, xf, no, e2, e3, e4, q⟩ := h
  exact (pe_xf (X := X) xf no hz hf (pe_var (X := X.suite a ((a, oe) :: pn)) hN hv hd hcd) hb).run pins s σ H Q I ⟨.ref a, e0, rfl, e1, dd, fs, v, e2, e3, e4, q⟩
/-- isinstance(e, c) in the suite that holds e -/
def uIsE (K : Frag) (a : Addr) (cls : Value) (d : Option Addr) : List V → Hp → VK → Prop
  | [.ref b, .ref c], H, Q => ∃ (D dd : Addr) (fs : List (Str × V)) (r : Bool), b = a ∧ cls = .ref D ∧ ExcC K D ∧ d = some dd ∧ H dd = some (.xd fs) ∧ PySem.W.kitOne K (.ref D) (.ref c) = some r ∧ Q (.bl r) H
  | [.ref b, .ty T], H, Q => ∃ (D dd : Addr) (fs : List (Str × V)) (r : Bool), b = a ∧ cls = .ref D ∧ ExcC K D ∧ d = some dd ∧ H dd = some (.xd fs) ∧ PySem.W.kitOne K (.ref D) (.type T) = some r ∧ Q (.bl r) H
  | _, _, _ => False
theorem c_isE {a : Addr} {oe : Obj} {cls : Value} {d : Option Addr} {pn : List (Addr × Obj)} (hz : Zc cls d oe) (hf : ∃ vs, oe.data = .fields vs) : CallR (X.suite a ((a, oe) :: pn)) (.builtin "isinstance") (uIsE X.K a cls d) := by
  intro pins s σ H xs us Q I r h
  have key : ∀ {D dd : Addr} {fs : List (Str × V)} {cv : Value} {b : Bool}, cls = .ref D → ExcC X.K D → d = some dd → H dd = some (.xd fs) → PySem.W.kitOne X.K (.ref D) cv = some b → Q (.bl b) H →
      wpAny (model X.prog X.w) (X.A.mark (some (.ref a))) (call (.builtin "isinstance") [.ref a, cv]) (EP (X.suite a ((a, oe) :: pn)) pins σ Q) (fun _ _ => False) s := fun {D dd fs cv b} e1 C e2 e3 e4 q => by
    subst e1 e2
    obtain ⟨hget, _⟩ := I.pin (a, oe) (List.mem_append.mpr (.inl List.mem_cons_self))
    obtain ⟨vs, hv⟩ := hf
    obtain ⟨mA, hns, hr⟩ := (show ObjOk X.prog X.w H s.heap dd (.xd fs) from I.hok dd _ e3)
    obtain ⟨od, ho, hl⟩ := lookIn_ns hns
    have J : PySem.W.InstAt s.heap a oe D (some od) := by
      refine ⟨hget, hz.1, by unfold PySem.W.notCls; rw [hv] <;> rfl, ?_⟩
      rw [hz.2]
      exact ho
    exact PySem.W.kia_one (PySem.W.kw_kitx C) I.kIn J e4 (fun z => nomatch z) fun tk => ⟨.bl b, H, I.kept (t' := tk) fun _ _ z => z, rfl, q⟩
  unfold uIsE at h
  split at h
  · obtain ⟨D, dd, fs, b, rfl, e1, C, e2, e3, e4, q⟩ := h
    cases r with
    | cons rx rr =>
      cases rr with
      | cons rt rr =>
        cases rr
        cases rx
        cases rt
        exact key e1 C e2 e3 e4 q
  · obtain ⟨D, dd, fs, b, rfl, e1, C, e2, e3, e4, q⟩ := h
    cases r with
    | cons rx rr =>
      cases rr with
      | cons rt rr =>
        cases rr
        cases rx
        cases rt
        exact key e1 C e2 e3 e4 q
  · exact h.elim
theorem k_isE {a : Addr} {oe : Obj} {cls : Value} {d : Option Addr} {pn : List (Addr × Obj)} {e : Expr} {es : List Expr} {t : TA} {p pos : Pos} (hz : Zc cls d oe) (hf : ∃ vs, oe.data = .fields vs) (hm : X.mg "isinstance" = none) (ha : PA (X.suite a ((a, oe) :: pn)) (e :: es) t) (hg : Gl X "isinstance" := by rfl)
    (he : starEach (e :: es) X.env = (false, eval e X.env) :: starEach es X.env := by rfl) (hpl : (backTo pos (starEach es X.env)).any (·.1) = false := by rfl) : PE (X.suite a ((a, oe) :: pn)) (.Call (.Name "isinstance" p) (e :: es) [] pos) (tCB (uIsE X.K a cls d) t) :=
  pe_callB (c_isE hz hf) hg hm (by decide +kernel) ha (by decide) (by decide) he hpl
end
end KW

set_option Elab.async false
set_option linter.all false
set_option maxRecDepth 100000
set_option maxHeartbeats 4000000
/-! Kw2b: instances of plain classes: made, their fields and methods -/
namespace KW
open PySem PySem.Spec PyProof.Rows L2
/-- a plain class of the text and the names of its fields -/
structure ClsA (K : Frag) (mg : Str → Option Value) (x : Str) (C : Addr) (ns : List Str) : Prop where
  gC : mg x = some (.ref C)
  cls : Cls K C
  no : ∀ f ∈ ns, NoAttr K C f
/-- e.f -/
def uGet (K : Frag) (f : Str) : V → Hp → VK → Prop
  | .ref a, H, Q => ∃ C dx fs v, H a = some (.ins C dx fs) ∧ Cls K C ∧ NoAttr K C f ∧ fs.lookup f = some v ∧ Q v H
  | _, _, _ => False
def uFld (K : Frag) (t : TE) (f : Str) : TE := fun σ H Q => t σ H fun x H1 => uGet K f x H1 Q
section
variable {X : Cx}
theorem k_fld {e : Expr} {t : TE} {f : Str} {pos : Pos} (he : PE X e t) (hb : attributeBase e f X.env (eval e X.env) = eval e X.env) : PE X (.Attribute e f pos) (uFld X.K t f) := by
  refine PEw (pe_fld (PEw he (t' := fun σ H Q => t σ H Q) fun _ _ _ h => h) hb) fun σ H Q h => ?_
  unfold uFld at h
  unfold tFld
  have e : (fun x H1 => uGet X.K f x H1 Q) = fun x H1 => ∃ a C dx fs v, x = .ref a ∧ H1 a = some (.ins C dx fs) ∧ Cls X.K C ∧ NoAttr X.K C f ∧ fs.lookup f = some v ∧ Q v H1 := by
    funext x H1
    cases x <;> simp only [uGet, eq_iff_iff] <;> first
      | exact ⟨False.elim, fun ⟨_, _, _, _, _, z, _⟩ => nomatch z⟩
      | (rename_i p
         exact ⟨fun ⟨C, dx, fs, v, h⟩ => ⟨p, C, dx, fs, v, rfl, h⟩, fun ⟨a, C, dx, fs, v, z, h⟩ => by cases z; exact ⟨C, dx, fs, v, h⟩⟩)
  rw [e] at h
  exact h
/-- o.f = v -/
def uPut (K : Frag) (f : Str) : V → V → Hp → (Hp → Prop) → Prop
  | .ref a, y, H, Q => ∃ C dx fs, H a = some (.ins C dx fs) ∧ Cls K C ∧ NoAttr K C f ∧ fs.length < 1000 ∧ Q (upd H a (.ins C dx (putF f y fs)))
  | _, _, _, _ => False
def uSFld (K : Frag) (ta tv : TE) (f : Str) : TS := fun D σ H => tv σ H fun y H1 => ta σ H1 fun x H2 => uPut K f x y H2 fun H3 => D.nx σ H3
theorem k_sfld {o value : Expr} {ta tv : TE} {f : Str} {pos' pos : Pos} (ha : PE X o ta) (hv : PE X value tv) (hs : swapsWith value (some (.Attribute o f pos')) pos.line X.env = pure false) : PS X (.Assign [.Attribute o f pos'] value pos) (uSFld X.K ta tv f) := by
  refine PSw (ps_fld ha hv hs) fun D σ H h => ?_
  unfold uSFld at h
  unfold sFld
  have e : (fun (y : V) (H1 : Hp) => ta σ H1 fun x H2 => uPut X.K f x y H2 fun H3 => D.nx σ H3) = fun y H1 => ta σ H1 fun x H2 => ∃ a C dx fs, x = .ref a ∧ H2 a = some (.ins C dx fs) ∧ Cls X.K C ∧ NoAttr X.K C f ∧ fs.length < 1000 ∧ D.nx σ (upd H2 a (.ins C dx (putF f y fs))) := by
    funext y H1
    refine congrArg (ta σ H1) ?_
    funext x H2
    cases x <;> simp only [uPut, eq_iff_iff] <;> first
      | exact ⟨False.elim, fun ⟨_, _, _, _, z, _⟩ => nomatch z⟩
      | (rename_i p
         exact ⟨fun ⟨C, dx, fs, h⟩ => ⟨p, C, dx, fs, rfl, h⟩, fun ⟨a, C, dx, fs, z, h⟩ => by cases z; exact ⟨C, dx, fs, h⟩⟩)
  rw [e] at h
  exact h
end
section
variable {K : Frag} {mg : Str → Option Value} {x f : Str} {C a dx : Addr} {ns : List Str} {fs fs' : List (Str × V)} {v y : V} {H : Hp}
theorem get_l {Q : VK} (h : H a = some (.ins C dx fs)) (c : ClsA K mg x C ns) (m : f ∈ ns) (l : fs.lookup f = some v) (q : Q v H) : uGet K f (.ref a) H Q := ⟨C, dx, fs, v, h, c.cls, c.no f m, l, q⟩
theorem put_l {Q : Hp → Prop} (h : H a = some (.ins C dx fs)) (c : ClsA K mg x C ns) (m : f ∈ ns) (z : fs.length < 1000) (q : Q (upd H a (.ins C dx (putF f y fs)))) : uPut K f (.ref a) y H Q := ⟨C, dx, fs, h, c.cls, c.no f m, z, q⟩
end
/-! ### methods -/
/-- a def at f: ps its parameters, dvs its defaults -/
structure DfnAt (K : Frag) (x qual : Str) (st : Stmt) (ps : List Str) (dvs : List V) (f : Addr) : Prop where
  ex : ∃ fd, FunD K x qual (defArgs st) (defBody st) (defScope st) dvs [] f fd ∧ ∀ j, j ≤ dvs.length → ∃ ds, Vals (dvs.drop j) ds ∧ Binds K fd ps ds
/-- the method m of the class C -/
structure MetAt (K : Frag) (C : Addr) (m qual : Str) (st : Stmt) (ps : List Str) : Prop where
  ex : ∃ f, Meth K C m f ∧ DfnAt K m qual st ps [] f
/-- the __init__ of the class x at C -/
structure IniAt (K : Frag) (C : Addr) (qual : Str) (st : Stmt) (ps : List Str) (dvs : List V) : Prop where
  ex : ∃ f, Mk K C f ∧ DfnAt K "__init__" qual st ps dvs f
structure CalM (P : Program) (w : World) (K : Frag) (mg : Str → Option Value) (base : Heap) (k : Nat) (C : Addr) (m : Str) (sp : Sp) : Prop where
  cls : Cls K C
  ex : ∃ (f : Addr) (fd : FuncData) (ps : List Str), Meth K C m f ∧ Binds K fd ps [] ∧ FnOk P w K mg base (L2N.CX P w) k f fd ps sp
structure CalI (P : Program) (w : World) (K : Frag) (mg : Str → Option Value) (base : Heap) (k : Nat) (x : Str) (C : Addr) (dvs : List V) (sp : Sp) : Prop where
  ex : mg x = some (.ref C) ∧ ∃ (f : Addr) (fd : FuncData) (ps : List Str), Mk K C f ∧ FnOk P w K mg base (L2N.CX P w) k f fd ps sp ∧ ∀ j, j ≤ dvs.length → ∃ ds, Vals (dvs.drop j) ds ∧ Binds K fd ps ds
section
variable {P : Program} {w : World} {K : Frag} {mg : Str → Option Value} {base : Heap}
theorem DfnAt.fn {x qual : Str} {st : Stmt} {N ps : List Str} {dvs : List V} {f : Addr} {k : Nat} {sp : Sp} (D : DfnAt K x qual st ps dvs f) (S : FnScope N ps (defScope st)) (len : ∀ vs H Q E, sp vs H Q E → vs.length = ps.length)
    (hbody : ∀ (f : Addr) (cdv : Value) (A : Around) (outer : List Env) (s : Shared) (H : Hp) (vs : List V) (Q : VK) (E : XK), Room k (A.deeper (envOfC qual (defScope st) s.heap.objs.size f cdv)) → sp vs H Q E →
      ∃ t, PSs (cxOf (L2N.CX P w) P w K mg base N qual (defScope st) f cdv A outer s H E) (defBody st) t ∧ t { nx := fun _ H' => Q .non H', rt := Q } (start N vs) H) :
    ∃ fd, FnOk P w K mg base (L2N.CX P w) (k + 1) f fd ps sp ∧ ∀ j, j ≤ dvs.length → ∃ ds, Vals (dvs.drop j) ds ∧ Binds K fd ps ds := by
  obtain ⟨fd, F, hb⟩ := D.ex
  exact ⟨fd, F.ok S len fun cdv A outer s H vs Q E hr hsp => hbody f cdv A outer s H vs Q E hr hsp, hb⟩
theorem MetAt.ok {C : Addr} {m qual : Str} {st : Stmt} {N ps : List Str} {k : Nat} {sp : Sp} (D : MetAt K C m qual st ps) (c : Cls K C) (S : FnScope N ps (defScope st)) (len : ∀ vs H Q E, sp vs H Q E → vs.length = ps.length)
    (hbody : ∀ (f : Addr) (cdv : Value) (A : Around) (outer : List Env) (s : Shared) (H : Hp) (vs : List V) (Q : VK) (E : XK), Room k (A.deeper (envOfC qual (defScope st) s.heap.objs.size f cdv)) → sp vs H Q E →
      ∃ t, PSs (cxOf (L2N.CX P w) P w K mg base N qual (defScope st) f cdv A outer s H E) (defBody st) t ∧ t { nx := fun _ H' => Q .non H', rt := Q } (start N vs) H) : CalM P w K mg base (k + 1) C m sp := by
  obtain ⟨f, M, D⟩ := D.ex
  obtain ⟨fd, F, hb⟩ := D.fn S len hbody
  obtain ⟨ds, hd, b⟩ := hb 0 (Nat.le_refl _)
  cases hd
  exact ⟨c, f, fd, ps, M, b, F⟩
theorem IniAt.ok {x : Str} {C : Addr} {qual : Str} {st : Stmt} {N ps : List Str} {dvs : List V} {k : Nat} {sp : Sp} (D : IniAt K C qual st ps dvs) (g : mg x = some (.ref C)) (S : FnScope N ps (defScope st)) (len : ∀ vs H Q E, sp vs H Q E → vs.length = ps.length)
    (hbody : ∀ (f : Addr) (cdv : Value) (A : Around) (outer : List Env) (s : Shared) (H : Hp) (vs : List V) (Q : VK) (E : XK), Room k (A.deeper (envOfC qual (defScope st) s.heap.objs.size f cdv)) → sp vs H Q E →
      ∃ t, PSs (cxOf (L2N.CX P w) P w K mg base N qual (defScope st) f cdv A outer s H E) (defBody st) t ∧ t { nx := fun _ H' => Q .non H', rt := Q } (start N vs) H) : CalI P w K mg base (k + 1) x C dvs sp := by
  obtain ⟨f, M, D⟩ := D.ex
  obtain ⟨fd, F, hb⟩ := D.fn S len hbody
  exact ⟨g, f, fd, ps, M, F, hb⟩
end
/-- o.m(args): what it may let out is taken at the slots as they stand -/
def uMet (C : Addr) (m : Str) (sp : Sp) (E : L2.St → XK) (ta : TE) (t : TA) : TE := fun σ H Q => ta σ H fun x H1 => uMt C m sp (E σ) t σ x H1 Q
where uMt (C : Addr) (m : Str) (sp : Sp) (E : XK) (t : TA) (σ : L2.St) : V → Hp → VK → Prop
  | .ref a, H1, Q => ∃ dx fs, H1 a = some (.ins C dx fs) ∧ fs.lookup m = none ∧ t σ H1 fun vs H2 => sp (.ref a :: vs) H2 Q E
  | _, _, _ => False
section
variable {X : Cx} {k : Nat} {C : Addr} {m x : Str} {sp : Sp} {o e : Expr} {es : List Expr} {ta : TE} {t : TA} {apos p pos : Pos} {pl : Sem Bool}
theorem uMt_of {E : XK} {σ : L2.St} {x : V} {H : Hp} {Q : VK} (h : uMet.uMt C m sp E t σ x H Q) : ∃ a dx fs, x = .ref a ∧ H a = some (.ins C dx fs) ∧ fs.lookup m = none ∧ t σ H fun vs H2 => sp (.ref a :: vs) H2 Q E := by
  cases x with
  | ref a => obtain ⟨dx, fs, h⟩ := h; exact ⟨a, dx, fs, rfl, h⟩
  | _ => exact False.elim h
theorem km_of {E : L2.St → XK} (hx : ∀ σ, PassesAt (L2N.CX X.prog X.w) X σ (E σ)) (c : CalM X.prog X.w X.K X.mg X.base k C m sp) (hr : Room k X.A) (he : PE X o ta) (ha : PA X (e :: es) t)
    (hst : starEach (e :: es) X.env = (false, eval e X.env) :: starEach es X.env) (hpl : (backTo pos (starEach es X.env)).any (·.1) = false)
    (ht : eval (.Call (.Attribute o m apos) (e :: es) [] pos) X.env = (do
      let ov ← eval o X.env
      standAt apos.atName
      let (f, first) ← holding [ov] (getMethod ov m pl)
      callWith pos f first (backTo pos (starEach (e :: es) X.env)) (backToKw pos (keywordEach [] X.env)))) :
    PE X (.Call (.Attribute o m apos) (e :: es) [] pos) (uMet C m sp E ta t) := by
  obtain ⟨cl, f, fd, ps, hm, hb, F⟩ := c
  refine ⟨fun pins s σ H Q I h => ?_⟩
  refine PySem.W.methodCall_KW (pl := pl) (thn (he.run pins s σ H _ I h) fun u s1 ⟨x, H1, I1, rx, hu⟩ => ?_) ht
  obtain ⟨a, dx, fs, ex, ea, l, q⟩ := uMt_of hu
  subst ex
  obtain rfl : u = Value.ref a := rx
  refine getmeth_ok I1 ea cl hm l ?_
  refine PySem.W.callWith_K (h₀ := X.base) I.ok.mod.kin hm.kp (thn (ha.run pos pins s1 σ H1 _ I1 q) fun us s2 ⟨vs, H2, I2, r, q2⟩ => ⟨I2.kIn, ?_⟩) hst hpl
  exact run_fnS (us := .ref a :: us) (vs := .ref a :: vs) F hr hb (hx σ) I2 (.cons rfl r) q2
theorem km0_of {E : L2.St → XK} (hx : ∀ σ, PassesAt (L2N.CX X.prog X.w) X σ (E σ)) (c : CalM X.prog X.w X.K X.mg X.base k C m sp) (hr : Room k X.A) (he : PE X o ta)
    (ht : eval (.Call (.Attribute o m apos) [] [] pos) X.env = (do
      let ov ← eval o X.env
      standAt apos.atName
      let (f, first) ← holding [ov] (getMethod ov m pl)
      callWith pos f first (backTo pos (starEach [] X.env)) (backToKw pos (keywordEach [] X.env)))) :
    PE X (.Call (.Attribute o m apos) [] [] pos) (uMet C m sp E ta tNil) := by
  obtain ⟨cl, f, fd, ps, hm, hb, F⟩ := c
  refine ⟨fun pins s σ H Q I h => ?_⟩
  refine PySem.W.methodCall_KW (pl := pl) (thn (he.run pins s σ H _ I h) fun u s1 ⟨x, H1, I1, rx, hu⟩ => ?_) ht
  obtain ⟨a, dx, fs, ex, ea, l, q⟩ := uMt_of hu
  subst ex
  obtain rfl : u = Value.ref a := rx
  refine getmeth_ok I1 ea cl hm l ?_
  exact PySem.W.callWith_K0 (first := [.ref a]) I1.kIn hm.kp (run_fnS (us := [.ref a]) (vs := [.ref a]) F hr hb (hx σ) I1 (.cons rfl .nil) q)
theorem km (c : CalM X.prog X.w X.K X.mg X.base k C m sp) (hr : Room k X.A) (he : PE X o ta) (ha : PA X (e :: es) t)
    (hst : starEach (e :: es) X.env = (false, eval e X.env) :: starEach es X.env := by rfl) (hpl : (backTo pos (starEach es X.env)).any (·.1) = false := by rfl)
    (ht : eval (.Call (.Attribute o m apos) (e :: es) [] pos) X.env = (do
      let ov ← eval o X.env
      standAt apos.atName
      let (f, first) ← holding [ov] (getMethod ov m pl)
      callWith pos f first (backTo pos (starEach (e :: es) X.env)) (backToKw pos (keywordEach [] X.env))) := by rfl) :
    PE X (.Call (.Attribute o m apos) (e :: es) [] pos) (uMet C m sp (fun _ => E0) ta t) := km_of (fun _ => passAt0) c hr he ha hst hpl ht
theorem km0 (c : CalM X.prog X.w X.K X.mg X.base k C m sp) (hr : Room k X.A) (he : PE X o ta)
    (ht : eval (.Call (.Attribute o m apos) [] [] pos) X.env = (do
      let ov ← eval o X.env
      standAt apos.atName
      let (f, first) ← holding [ov] (getMethod ov m pl)
      callWith pos f first (backTo pos (starEach [] X.env)) (backToKw pos (keywordEach [] X.env))) := by rfl) :
    PE X (.Call (.Attribute o m apos) [] [] pos) (uMet C m sp (fun _ => E0) ta tNil) := km0_of (fun _ => passAt0) c hr he ht
theorem kmX {W : WX} (tk : L2N.Takes X W) (c : CalM X.prog X.w X.K X.mg X.base k C m sp) (hr : Room k X.A) (he : PE X o ta) (ha : PA X (e :: es) t)
    (hst : starEach (e :: es) X.env = (false, eval e X.env) :: starEach es X.env := by rfl) (hpl : (backTo pos (starEach es X.env)).any (·.1) = false := by rfl)
    (ht : eval (.Call (.Attribute o m apos) (e :: es) [] pos) X.env = (do
      let ov ← eval o X.env
      standAt apos.atName
      let (f, first) ← holding [ov] (getMethod ov m pl)
      callWith pos f first (backTo pos (starEach (e :: es) X.env)) (backToKw pos (keywordEach [] X.env))) := by rfl) :
    PE X (.Call (.Attribute o m apos) (e :: es) [] pos) (uMet C m sp (WE W) ta t) := km_of (fun σ => L2N.passAt tk σ) c hr he ha hst hpl ht
theorem kmX0 {W : WX} (tk : L2N.Takes X W) (c : CalM X.prog X.w X.K X.mg X.base k C m sp) (hr : Room k X.A) (he : PE X o ta)
    (ht : eval (.Call (.Attribute o m apos) [] [] pos) X.env = (do
      let ov ← eval o X.env
      standAt apos.atName
      let (f, first) ← holding [ov] (getMethod ov m pl)
      callWith pos f first (backTo pos (starEach [] X.env)) (backToKw pos (keywordEach [] X.env))) := by rfl) :
    PE X (.Call (.Attribute o m apos) [] [] pos) (uMet C m sp (WE W) ta tNil) := km0_of (fun σ => L2N.passAt tk σ) c hr he ht
theorem met_l {E : XK} {a dx : Addr} {fs : List (Str × V)} {σ : L2.St} {H : Hp} {Q : VK} (h : H a = some (.ins C dx fs)) (l : fs.lookup m = none) (q : t σ H fun vs H2 => sp (.ref a :: vs) H2 Q E) : uMet.uMt C m sp E t σ (.ref a) H Q := ⟨dx, fs, h, l, q⟩
/-- x(args): an instance made; the last defaults fill up -/
def uMake (C : Addr) (sp : Sp) (dvs : List V) (t : TA) : TE := fun σ H Q => t σ H fun vs H1 => ∀ x dx, H1 x = none → H1 dx = none → dx ≠ x → sp (.ref x :: (vs ++ dvs)) (upd (upd H1 dx (.own x)) x (.ins C dx [])) (fun v H2 => v = .non ∧ Q (.ref x) H2) E0
theorem pass0 : Passes (L2N.CX X.prog X.w) X E0 := fun _ _ _ _ _ _ _ h => by
  obtain ⟨_, _, _, _, _, _, _, _, _, _, _, _, z⟩ := h
  exact z.elim
theorem kmk {dvs : List V} (j : Nat) (c : CalI X.prog X.w X.K X.mg X.base k x C dvs sp) (hr : Room (k + 1) X.A) (ha : PA X (e :: es) t) (hj : j ≤ dvs.length := by decide) (hg : Gl X x := by rfl) (hdb : (x == ("__debug__" : Str)) = false := by decide)
    (he : starEach (e :: es) X.env = (false, eval e X.env) :: starEach es X.env := by rfl) (hpl : (backTo pos (starEach es X.env)).any (·.1) = false := by rfl) : PE X (.Call (.Name x p) (e :: es) [] pos) (uMake C sp (dvs.drop j) t) := by
  obtain ⟨hm, f, fd, ps, M, F, hb⟩ := c
  obtain ⟨ds, hd, b⟩ := hb j hj
  exact pe_make M F hr hg hm b hd pass0 ha hdb he hpl
theorem kmk0 {dvs : List V} (c : CalI X.prog X.w X.K X.mg X.base k x C dvs sp) (hr : Room (k + 1) X.A) (hg : Gl X x := by rfl) (hdb : (x == ("__debug__" : Str)) = false := by decide) : PE X (.Call (.Name x p) [] [] pos) (uMake C sp dvs tNil) := by
  obtain ⟨hm, f, fd, ps, M, F, hb⟩ := c
  obtain ⟨ds, hd, b⟩ := hb 0 (Nat.zero_le _)
  exact pe_make0 M F hr hg hm b hd pass0 hdb
end
end KW

set_option Elab.async false
set_option linter.all false
set_option maxRecDepth 100000
set_option maxHeartbeats 4000000
/-! Kw2c: del xs[a:] of a list -/
namespace KW
open PySem PySem.Spec PyProof.Rows L2
theorem fm_take {α : Type} (p : Nat → Bool) (a : Nat) : ∀ (l : List α) (j : Nat), (∀ k, j ≤ k → k < j + l.length → p k = decide (a ≤ k)) → (l.zipIdx j).filterMap (fun x => if p x.2 = true then none else some x.1) = l.take (a - j)
  | [], j, _ => by simp
  | x :: l, j, h => by
    have h0 := h j (Nat.le_refl _) (by simp)
    have ih := fm_take p a l (j + 1) fun k h1 h2 => h k (by omega) (by simp only [List.length_cons]; omega)
    rw [List.zipIdx_cons, List.filterMap_cons]
    by_cases c : a ≤ j
    · simp only [h0, c, decide_true, if_true]
      rw [ih, show a - j = 0 by omega, show a - (j + 1) = 0 by omega]
      simp
    · simp only [h0, c, decide_false, Bool.false_eq_true, if_false]
      rw [ih, show a - j = (a - (j + 1)) + 1 by omega]
      rfl
section
variable {prog : Program} {w : World} {A : Around} {E : Value → Shared → Prop} {s : Shared}
theorem bounds_from (a n : Nat) : sliceBounds (some (a : Int)) none none n = (((min a n : Nat) : Int), (n : Int), 1) := by
  simp only [sliceBounds, Option.getD_none]
  have h1 : ¬ ((a : Int) < 0) := by omega
  simp only [h1, if_false, show (1 : Int) > 0 by decide, if_true]
  congr 1
  omega
theorem delItem_cut {l sl : Addr} {items : Array Value} {n : Nat} {vl : Value} {a : Nat} {Q : Unit → Shared → Prop}
    (e : s.heap.get? l = some { cls := .type "list", data := .seq items n })
    (hs : s.heap.IsSliceOf sl vl .none .none) (pl : IsPart vl (some (a : Int)))
    (hsz : items.size ≤ sizeLine) (h : ∀ F : Array Value → Array Value, F items = (items.toList.take a).toArray → Q () { s with heap := s.heap.update l (Obj.mapSeq F) }) :
    wpAny (model prog w) A (delItem (.ref l) (.ref sl)) Q E s := by
  have hl : s.heap.IsList l items := PySem.IsL.isList e
  obtain ⟨os, hos, hcs, hds⟩ := id hs
  have hTs : s.TypeIs (.ref sl) "slice" := ⟨os, hos, hcs⟩
  have hstep : ¬ ((rawPart none == rawInt 0) = true) := Bool.false_ne_true
  refine wpAny_delItem_slot hl.typeIs (by decide) PySem.F.slot_list_delitem ?_
  refine wpAny_call_entry PySem.F.slot_list_delitem hl.typeIs PySem.F.entry_list_delitem ?_ (PySem.F.args_list_delitem_2 _ _)
  show wpAny _ _ (Builtin.List.listSubscript? (.ref sl) >>= _) _ _ s
  refine wpAny_bind ?_
  unfold Builtin.List.listSubscript?
  refine wpAny_bind (wpAny_specialOf hTs slice_no_index ?_)
  simp only [Option.isNone_none, if_true]
  refine wpAny_pure ?_
  show wpAny _ _ (typeOf (.ref sl) >>= _) _ _ s
  refine wpAny_bind (wpAny_typeOf hTs ?_)
  first
    | rw [if_neg (by decide)]
    | refine PySem.W.KFB.if_not (by decide) ?_
  rw [listSliceParts_eq]
  refine wpAny_bind (wpAny_bind (wpAny_field hos hds (x := .none) rfl (wpAny_bind (wpAny_listPart .none ?_))))
  rw [if_neg hstep]
  refine wpAny_bind (wpAny_field hos hds (x := vl) rfl (wpAny_bind (wpAny_listPart pl ?_)))
  refine wpAny_bind (wpAny_field hos hds (x := .none) rfl (wpAny_bind (wpAny_listPart .none (wpAny_pure ?_))))
  unfold Builtin.List.listItems
  refine wpAny_bind (wpAny_bind (wpAny_seqItems e rfl (wpAny_pure ?_)))
  refine wpAny_bind (wpAny_of_eq ((sliceIndices_raw (some (a : Int)) none none items.size (by simp)).trans (congrArg (pure : Int × Int × Int → Sem (Int × Int × Int)) (bounds_from a items.size))) ?_)
  refine wpAny_bind (wpAny_rule ?_)
  have key : ∀ (p : Nat → Bool), (∀ k, k < items.size → p k = decide (a ≤ k)) → (List.filterMap (fun x : Value × Nat => if p x.2 = true then none else some x.1) items.toList.zipIdx).toArray = (items.toList.take a).toArray := fun p hp => by
    rw [fm_take p a items.toList 0 fun k _ h2 => hp k (by rw [Array.length_toList] at h2; omega)]
    rfl
  refine wpAny_bind (m := Builtin.List.listUpdate (.ref l) _) ?_
  show wpAny _ _ (updateSeq l _) _ _ _
  have kk : ∀ k, k < items.size → (if (1 : Int) > 0 then decide (((min a items.size : Nat) : Int) ≤ (k : Int)) && decide ((k : Int) < (items.size : Int)) && (((k : Int) - ((min a items.size : Nat) : Int)) % 1 == 0) else false) = decide (a ≤ k) := fun k hk => by
    rw [if_pos (by decide)]
    have e1 : (((k : Int) - ((min a items.size : Nat) : Int)) % 1 == 0) = true := by rw [Int.emod_one]; rfl
    rw [e1, Bool.and_true]
    by_cases c : a ≤ k
    · rw [decide_eq_true c, decide_eq_true (by omega), decide_eq_true (by omega)]
      rfl
    · rw [decide_eq_false c, decide_eq_false (by omega)]
      rfl
  refine wpAny_updateSeq (hz := hsz) (_hz' := ?z) e rfl ?_
  case z =>
    refine Nat.le_trans (Nat.le_of_eq (congrArg Array.size (key _ ?_))) ?_
    · exact fun k hk => (kk k hk)
    · rw [List.size_toArray, List.length_take, Array.length_toList]
      omega
  refine wpAny_bind (wpAny_letGo ?_)
  refine wpAny_pure ⟨.none, rfl, h _ (key _ ?_)⟩
  exact fun k hk => (kk k hk)
end
section
variable {X : Cx}
/-- del xs[a:] -/
def uDelC : V → Option Int → Hp → (Hp → Prop) → Prop
  | .ref l, some a, H, Q => ∃ xs, H l = some (.lst xs) ∧ 0 ≤ a ∧ Q (upd H l (.lst (xs.take a.toNat)))
  | _, _, _, _ => False
def uDelSl (to ti : TE) : TS := fun D σ H => to σ H fun x H1 => tPart ti σ H1 fun l H2 => uDelC x l H2 fun H3 => D.nx σ H3
theorem dels_l {H : Hp} {p : Addr} {xs : List V} {a : Int} {Q : Hp → Prop} (h : H p = some (.lst xs)) (e : 0 ≤ a) (q : Q (upd H p (.lst (xs.take a.toNat)))) : uDelC (.ref p) (some a) H Q := ⟨xs, h, e, q⟩
theorem k_delsl {o i : Expr} {to ti : TE} {p2 tpos pos : Pos} (ho : PE X o to) (hi : PE X i ti) : PS X (.Delete [.Subscript o (.Slice (some i) none none p2) tpos] pos) (uDelSl to ti) := by
  refine ⟨fun pins s σ H D I h => ?_⟩
  refine wpAny_Delete (wpAny_deleteEach_cons (wpAny_delete_Subscript (thn (ho.run pins s σ H _ I h) fun u s1 ⟨x, H1, I1, rx, q1⟩ => ?_)))
  refine wpAny_Slice (thn ((po_some hi).run pins s1 σ H1 _ I1 q1) fun vl s2 ⟨l, H2, I2, pl, q2⟩ => ?_)
  rw [evalPart_none]
  refine wpAny_pure (wpAny_pure ?_)
  have I4 : Inv X pins σ H2 { s2 with heap := s2.heap.push { cls := .type "slice", data := .fields #[vl, .none, .none] } } := I2.kept (t' := s2.toks) fun b ob q => Heap.get?_push_of_some _ q
  unfold uDelC at q2
  split at q2
  · rename_i w1 p a w2
    obtain ⟨xs, hH, h0, q2⟩ := q2
    obtain rfl : u = Value.ref p := rx
    obtain ⟨a', rfl⟩ := Int.eq_ofNat_of_zero_le h0
    obtain ⟨z, its, n, r, hl, e⟩ := I4.lstM hH
    rw [Int.toNat_natCast] at q2
    refine delItem_cut (a := a') e (Heap.IsSliceOf.new ..) pl (by rw [List.size_toArray]; omega) fun F hF => wpAny_deleteEach_nil ⟨σ, _, ?_, q2⟩
    refine I4.lset (its' := its.take a') (t' := s2.toks) hH e hF (r.take _) ?_
    rw [List.length_take]
    omega
  · exact q2.elim
end
end KW

set_option Elab.async false
set_option linter.all false
set_option maxRecDepth 100000
set_option maxHeartbeats 4000000
/-! Kw2d: dicts, texts and built-ins -/
namespace KW
open PySem PySem.Spec PyProof.Rows L2
section
variable {X : Cx} {o i e value : Expr} {pos pos' tpos : Pos} {td ty tv : TE}
/-- d[y] -/
def uDGet : V → V → Hp → VK → Prop
  | .ref a, .int i, H, Q => ∃ kvs v, H a = some (.dK kvs) ∧ valV kvs (.inl i) = some v ∧ Q v H
  | .ref a, .str i, H, Q => ∃ kvs v, H a = some (.dK kvs) ∧ valV kvs (.inr i) = some v ∧ Q v H
  | _, _, _, _ => False
theorem uDGet_of {x y : V} {H2 : Hp} {Q : VK} (q : uDGet x y H2 Q) : ∃ a v, x = .ref a ∧ DGet H2 a y (some v) ∧ Q v H2 := by
  unfold uDGet at q
  split at q
  · obtain ⟨kvs, v, h1, h2, q⟩ := q
    exact ⟨_, v, rfl, by rw [← h2]; exact DGet.k (k := .inl _) h1, q⟩
  · obtain ⟨kvs, v, h1, h2, q⟩ := q
    exact ⟨_, v, rfl, by rw [← h2]; exact DGet.k (k := .inr _) h1, q⟩
  · exact q.elim
def tDG (td ty : TE) : TE := fun σ H Q => td σ H fun x H1 => ty σ H1 fun y H2 => uDGet x y H2 Q
theorem k_dget (hu : X.A.units + 1 < cLine) (ho : PE X o td) (hi : PE X i ty) (hs : NoSl i := by intro _ _; rfl) : PE X (.Subscript o i pos) (tDG td ty) := by
  refine ⟨fun pins s σ H Q I h => ?_⟩
  refine subD_of PySem.F.slot_dict_getitem.lookup hs (thn (ho.run pins s σ H _ I h) fun u s1 ⟨x, H1, I1, rx, q1⟩ => thn (hi.run pins s1 σ H1 _ I1 q1) fun iv s2 ⟨y, H2, I2, ry, q2⟩ => ?_)
  obtain ⟨a, v, ex, g, q5⟩ := uDGet_of q2
  subst ex
  obtain rfl : u = Value.ref a := rx
  exact ⟨dict_typeIs I2 g, d_getItem hu I2 g ry fun w' s3 I3 rw' => ⟨v, H2, I3, rw', q5⟩⟩
/-- y in d -/
def uDIn : V → V → Hp → (Bool → Prop) → Prop
  | .int i, .ref a, H, Q => ∃ kvs, H a = some (.dK kvs) ∧ Q (valV kvs (.inl i)).isSome
  | .str i, .ref a, H, Q => ∃ kvs, H a = some (.dK kvs) ∧ Q (valV kvs (.inr i)).isSome
  | _, _, _, _ => False
theorem uDIn_of {x y : V} {H2 : Hp} {Q : Bool → Prop} (q : uDIn y x H2 Q) : ∃ a o, x = .ref a ∧ DGet H2 a y o ∧ Q o.isSome := by
  unfold uDIn at q
  split at q
  · obtain ⟨kvs, h1, q⟩ := q
    exact ⟨_, _, rfl, DGet.k (k := .inl _) h1, q⟩
  · obtain ⟨kvs, h1, q⟩ := q
    exact ⟨_, _, rfl, DGet.k (k := .inr _) h1, q⟩
  · exact q.elim
def tDI (ty td : TE) : TE := fun σ H Q => ty σ H fun y H1 => td σ H1 fun x H2 => uDIn y x H2 fun b => Q (.bl b) H2
def tDNI (ty td : TE) : TE := fun σ H Q => ty σ H fun y H1 => td σ H1 fun x H2 => uDIn y x H2 fun b => Q (.bl (!b)) H2
theorem k_din (hu : X.A.units + 1 < cLine) (hi : PE X i ty) (ho : PE X o td) : PC X .In i o (tDI ty td) := by
  refine ⟨fun pins s σ H Q I h => ?_⟩
  refine thn (hi.run pins s σ H _ I h) fun iv s1 ⟨y, H1, I1, ry, q1⟩ => thn (ho.run pins s1 σ H1 _ I1 q1) fun u s2 ⟨x, H2, I2, rx, q2⟩ => ?_
  obtain ⟨a, ov, ex, g, q5⟩ := uDIn_of q2
  subst ex
  obtain rfl : u = Value.ref a := rx
  exact d_in hu I2 g ry fun s3 I3 => ⟨.bl ov.isSome, H2, I3, rfl, q5⟩
theorem k_dnotin (hu : X.A.units + 1 < cLine) (hi : PE X i ty) (ho : PE X o td) : PC X .NotIn i o (tDNI ty td) := by
  refine ⟨fun pins s σ H Q I h => ?_⟩
  refine thn (hi.run pins s σ H _ I h) fun iv s1 ⟨y, H1, I1, ry, q1⟩ => thn (ho.run pins s1 σ H1 _ I1 q1) fun u s2 ⟨x, H2, I2, rx, q2⟩ => ?_
  obtain ⟨a, ov, ex, g, q5⟩ := uDIn_of q2
  subst ex
  obtain rfl : u = Value.ref a := rx
  exact d_notIn hu I2 g ry fun s3 I3 => ⟨.bl (!ov.isSome), H2, I3, rfl, q5⟩
/-- d[y] = v -/
def uDPut : V → V → V → Hp → (Hp → Prop) → Prop
  | .ref a, .int i, v, H, Q => ∃ kvs, H a = some (.dK kvs) ∧ kvs.length < sizeLine ∧ Q (upd H a (.dK (putK kvs (.inl i) v)))
  | .ref a, .str i, v, H, Q => ∃ kvs, H a = some (.dK kvs) ∧ kvs.length < sizeLine ∧ Q (upd H a (.dK (putK kvs (.inr i) v)))
  | _, _, _, _, _ => False
theorem uDPut_of {x y v : V} {H : Hp} {Q : Hp → Prop} (q : uDPut x y v H Q) : ∃ a H4, x = .ref a ∧ DPut H a y v H4 ∧ Q H4 := by
  unfold uDPut at q
  split at q
  · obtain ⟨kvs, h1, h2, q⟩ := q
    exact ⟨_, _, rfl, DPut.k (k := .inl _) h1 h2, q⟩
  · obtain ⟨kvs, h1, h2, q⟩ := q
    exact ⟨_, _, rfl, DPut.k (k := .inr _) h1 h2, q⟩
  · exact q.elim
def tDP (td ty tv : TE) : TS := fun D σ H => tv σ H fun v H1 => td σ H1 fun x H2 => ty σ H2 fun y H3 => uDPut x y v H3 fun H4 => D.nx σ H4
theorem k_dput (hu : X.A.units + 1 < cLine) (ho : PE X o td) (hi : PE X i ty) (hv : PE X value tv) (hs : swapsWith value (some (.Subscript o i pos')) pos.line X.env = pure false := by rfl) :
    PS X (.Assign [.Subscript o i pos'] value pos) (tDP td ty tv) := by
  refine ⟨fun pins s σ H D I h => ?_⟩
  refine wpAny_Assign_Subscript (thn (hv.run pins s σ H _ I h) fun r s1 ⟨v, H1, I1, rv, q1⟩ => thn (ho.run pins s1 σ H1 _ I1 q1) fun u s2 ⟨x, H2, I2, rx, q2⟩ => thn (hi.run pins s2 σ H2 _ I2 q2) fun iv s3 ⟨y, H3, I3, ry, q3⟩ => ?_) hs
  obtain ⟨a, H4, ex, g, q5⟩ := uDPut_of q3
  subst ex
  obtain rfl : u = Value.ref a := rx
  exact d_setItem hu I3 g ry rv fun s4 I4 => ⟨σ, H4, I4, q5⟩
/-- del d[y] -/
def uDDel : V → V → Hp → (Hp → Prop) → Prop
  | .ref a, .int i, H, Q => ∃ kvs, H a = some (.dK kvs) ∧ (valV kvs (.inl i)).isSome = true ∧ Q (upd H a (.dK (dropK kvs (.inl i))))
  | .ref a, .str i, H, Q => ∃ kvs, H a = some (.dK kvs) ∧ (valV kvs (.inr i)).isSome = true ∧ Q (upd H a (.dK (dropK kvs (.inr i))))
  | _, _, _, _ => False
theorem uDDel_of {x y : V} {H2 : Hp} {Q : Hp → Prop} (q : uDDel x y H2 Q) : ∃ a kvs k, x = .ref a ∧ H2 a = some (.dK kvs) ∧ y = kV k ∧ (valV kvs k).isSome = true ∧ Q (upd H2 a (.dK (dropK kvs k))) := by
  unfold uDDel at q
  split at q
  · obtain ⟨kvs, h1, h2, q⟩ := q
    exact ⟨_, kvs, .inl _, rfl, h1, rfl, h2, q⟩
  · obtain ⟨kvs, h1, h2, q⟩ := q
    exact ⟨_, kvs, .inr _, rfl, h1, rfl, h2, q⟩
  · exact q.elim
def tDD (td ty : TE) : TS := fun D σ H => td σ H fun x H1 => ty σ H1 fun y H2 => uDDel x y H2 fun H3 => D.nx σ H3
theorem k_ddel (ho : PE X o td) (hi : PE X i ty) : PS X (.Delete [.Subscript o i tpos] pos) (tDD td ty) := by
  refine ⟨fun pins s σ H D I h => ?_⟩
  refine wpAny_Delete (wpAny_deleteEach_cons (wpAny_delete_Subscript (thn (ho.run pins s σ H _ I h) fun u s1 ⟨x, H1, I1, rx, q1⟩ => thn (hi.run pins s1 σ H1 _ I1 q1) fun iv s2 ⟨y, H2, I2, ry, q2⟩ => ?_)))
  obtain ⟨a, kvs, k, ex, e, ey, l, q5⟩ := uDDel_of q2
  subst ex ey
  obtain rfl : u = Value.ref a := rx
  exact d_delItem I2 e ry l fun s3 I3 => wpAny_deleteEach_nil ⟨σ, _, I3, q5⟩
end
section
variable {H : Hp} {a : Addr} {kvs : List (Key × V)} {v : V} {i : Int} {x : Str}
theorem dget_i {Q : VK} (h : H a = some (.dK kvs)) (e : valV kvs (.inl i) = some v) (q : Q v H) : uDGet (.ref a) (.int i) H Q := ⟨kvs, v, h, e, q⟩
theorem dget_s {Q : VK} (h : H a = some (.dK kvs)) (e : valV kvs (.inr x) = some v) (q : Q v H) : uDGet (.ref a) (.str x) H Q := ⟨kvs, v, h, e, q⟩
theorem din_i {Q : Bool → Prop} (h : H a = some (.dK kvs)) (q : Q (valV kvs (.inl i)).isSome) : uDIn (.int i) (.ref a) H Q := ⟨kvs, h, q⟩
theorem din_s {Q : Bool → Prop} (h : H a = some (.dK kvs)) (q : Q (valV kvs (.inr x)).isSome) : uDIn (.str x) (.ref a) H Q := ⟨kvs, h, q⟩
theorem dput_i {Q : Hp → Prop} (h : H a = some (.dK kvs)) (e : kvs.length < sizeLine) (q : Q (upd H a (.dK (putK kvs (.inl i) v)))) : uDPut (.ref a) (.int i) v H Q := ⟨kvs, h, e, q⟩
theorem dput_s {Q : Hp → Prop} (h : H a = some (.dK kvs)) (e : kvs.length < sizeLine) (q : Q (upd H a (.dK (putK kvs (.inr x) v)))) : uDPut (.ref a) (.str x) v H Q := ⟨kvs, h, e, q⟩
theorem ddel_i {Q : Hp → Prop} (h : H a = some (.dK kvs)) (e : (valV kvs (.inl i)).isSome = true) (q : Q (upd H a (.dK (dropK kvs (.inl i))))) : uDDel (.ref a) (.int i) H Q := ⟨kvs, h, e, q⟩
theorem ddel_s {Q : Hp → Prop} (h : H a = some (.dK kvs)) (e : (valV kvs (.inr x)).isSome = true) (q : Q (upd H a (.dK (dropK kvs (.inr x))))) : uDDel (.ref a) (.str x) H Q := ⟨kvs, h, e, q⟩
end
/-! ### built-ins -/
section
variable {X : Cx}
/-- list(xs): of a list or a tuple -/
def uList (K : Frag) : List V → Hp → VK → Prop
  | [.ref p], H, Q => ∃ ys, (SqL K H p ys ∨ SqT K H p ys) ∧ ∀ l, H l = none → Q (.ref l) (upd H l (.lst ys))
  | _, _, _ => False
theorem c_list : CallR X (.type "list") (uList X.K) := CallRw call_list_of fun xs H Q h => by
  unfold uList at h
  split at h
  · obtain ⟨ys, hs, q⟩ := h
    exact ⟨_, ys, rfl, hs, q⟩
  · exact h.elim
theorem list_l {K : Frag} {H : Hp} {p : Addr} {ys : List V} {Q : VK} (h : H p = some (.lst ys)) (q : ∀ l, H l = none → Q (.ref l) (upd H l (.lst ys))) : uList K [.ref p] H Q := ⟨ys, .inl (.of h), q⟩
theorem list_t {K : Frag} {H : Hp} {p : Addr} {ys : List V} {Q : VK} (h : H p = some (.tup ys)) (q : ∀ l, H l = none → Q (.ref l) (upd H l (.lst ys))) : uList K [.ref p] H Q := ⟨ys, .inr (.of h), q⟩
theorem list_sl {K : Frag} {H : Hp} {p : Addr} {ys : List V} {Q : VK} (h : SqL K H p ys) (q : ∀ l, H l = none → Q (.ref l) (upd H l (.lst ys))) : uList K [.ref p] H Q := ⟨ys, .inl h, q⟩
/-- str(x) -/
def uStr : List V → Hp → VK → Prop
  | [.int i], H, Q => i.natAbs.log2 < 1920 ∧ Q (.str (toString i)) H
  | [.str a], H, Q => Q (.str a) H
  | _, _, _ => False
theorem c_str : CallR X (.type "str") uStr := CallRw (r := fun xs H Q => (∃ i, xs = [.int i] ∧ i.natAbs.log2 < 1920 ∧ Q (.str (toString i)) H) ∨ ∃ a, xs = [.str a] ∧ Q (.str a) H) (by
  intro pins s σ H xs us Q I r h
  rcases h with h | h
  · exact call_str_int pins s σ H xs us Q I r h
  · exact SkE.call_str_str pins s σ H xs us Q I r h) fun xs H Q h => by
  unfold uStr at h
  split at h
  · exact .inl ⟨_, rfl, h.1, h.2⟩
  · exact .inr ⟨_, rfl, h⟩
  · exact h.elim
/-- text * k -/
theorem foldl_cps (a : Array Nat) : ∀ (m : Nat) (acc : Array Nat), (List.replicate m a).foldl (· ++ ·) acc = acc ++ (List.replicate m a.toList).flatten.toArray
  | 0, acc => by simp
  | m + 1, acc => by
    rw [List.replicate_succ, List.foldl_cons, foldl_cps a m, List.replicate_succ, List.flatten_cons]
    apply Array.toList_inj.mp
    simp
def repS (a : Str) (k : Nat) : Str := S (List.replicate k a.cps.toList).flatten
theorem repS_len (a : Str) (k : Nat) : (repS a k).length = a.length * k := by
  unfold repS
  rw [S_len]
  have : ∀ k, ((List.replicate k a.cps.toList).flatten).length = a.cps.toList.length * k := fun k => by
    induction k with
    | zero => simp
    | succ k ih => rw [List.replicate_succ, List.flatten_cons, List.length_append, ih, Nat.mul_succ, Nat.add_comm]
  rw [this]
  rfl
theorem op_repS : OpR X (binaryOp .Mult) (fun x y H Q => ∃ a k, x = .str a ∧ y = .int k ∧ 0 ≤ k ∧ k ≤ 1000000 ∧ a.length * k.toNat ≤ sizeLine ∧ Q (.str (repS a k.toNat)) H) := by
  intro pins s σ H x y v u Q I rx ry h
  obtain ⟨a, k, rfl, rfl, h0, h1, hz, q⟩ := h
  obtain ⟨t, rfl⟩ := rx
  obtain ⟨tu, rfl⟩ := ry
  have e1 : (decide (k < -(2 ^ 63 : Int)) || decide (k ≥ 2 ^ 63)) = false := by
    rw [decide_eq_false (by omega), decide_eq_false (by omega)]; rfl
  have hs : sizeLine = 16777216 := sizeLine_eq
  have tl : Builtin.Str.tooLong (a.length * k.toNat) = false := by
    first
      | exact decide_eq_false (by omega)
      | (unfold Builtin.Str.tooLong; exact decide_eq_false (by omega))
      | (unfold Builtin.Str.tooLong; simp; omega)
  refine PySem.P.mul_str e1 (fun h2 h3 => ?_) (fun _ _ => tl) ?_
  · have h4 : (k == 1 || a.length == 0) = false := h3
    have p : 1 ≤ k := by omega
    have hl : (a.length : Int) ≤ 16777216 := by
      have : a.length * 1 ≤ a.length * k.toNat := Nat.mul_le_mul_left _ (by omega)
      omega
    have : (16777216 : Int) ≤ (2 ^ 63 - 1) / k := by
      rw [Int.le_ediv_iff_mul_le (by omega)]
      omega
    omega
  · by_cases c : k < 1
    · rw [if_pos c]
      have e : k = 0 := by omega
      subst e
      exact ⟨by decide, ⟨.str _, H, I.tok _, ⟨_, rfl⟩, q⟩⟩
    · rw [if_neg c]
      by_cases c2 : (k == 1 || a.length == 0) = true
      · rw [if_pos c2]
        have e : repS a k.toNat = a := by
          rcases (by simpa using c2 : k = 1 ∨ a.length = 0) with e | e
          · subst e
            show S (List.replicate 1 a.cps.toList).flatten = a
            rw [show (List.replicate 1 a.cps.toList).flatten = a.cps.toList by simp, S_tl]
          · have l0 : (repS a k.toNat).length = 0 := by rw [repS_len, e, Nat.zero_mul]
            have z : ∀ x : Str, x.length = 0 → x = S [] := fun x hx => by
              rw [← S_tl x]
              have : x.cps.toList = [] := List.eq_nil_of_length_eq_zero (by have : x.cps.toList.length = x.length := rfl; omega)
              rw [this]
            rw [z _ l0, z _ e]
        rw [e] at q
        exact ⟨.str _, H, I, ⟨_, rfl⟩, q⟩
      · rw [if_neg c2]
        have e : (⟨(List.replicate k.toNat a.cps).foldl (· ++ ·) #[]⟩ : Str) = repS a k.toNat := by
          rw [foldl_cps]
          unfold repS
          show _ = Str.mk _
          congr 1
          simp
        rw [e]
        exact ⟨by rw [repS_len]; exact hz, ⟨.str _, H, I.tok _, ⟨_, rfl⟩, q⟩⟩
/-- times: ints, texts, lists -/
def uMul2 : R2
  | .int i, .int j, H, Q => (CMul i j ∨ CMulW i j ∨ CMulX i j) ∧ Q (.int (i * j)) H
  | .str a, .int k, H, Q => 0 ≤ k ∧ k ≤ 1000000 ∧ a.length * k.toNat ≤ sizeLine ∧ Q (.str (repS a k.toNat)) H
  | .ref l, .int k, H, Q => ∃ xs, H l = some (.lst xs) ∧ 0 ≤ k ∧ k ≤ 1000000 ∧ xs.length * k.toNat ≤ sizeLine ∧ ∀ p, H p = none → Q (.ref p) (upd H p (.lst (List.replicate k.toNat xs).flatten))
  | _, _, _, _ => False
theorem o_mul2 : OpR X (binaryOp .Mult) uMul2 := OpRw (op_mul.or (op_mulW.or (op_mulX.or (op_repS.or op_rep)))) fun x y H Q h => by
  unfold uMul2 at h
  split at h
  · obtain ⟨c | c | c, h⟩ := h
    · exact .inl ⟨_, _, rfl, rfl, c, h⟩
    · exact .inr (.inl ⟨_, _, rfl, rfl, c, h⟩)
    · exact .inr (.inr (.inl ⟨_, _, rfl, rfl, c, h⟩))
  · exact .inr (.inr (.inr (.inl ⟨_, _, rfl, rfl, h.1, h.2.1, h.2.2.1, h.2.2.2⟩)))
  · obtain ⟨xs, h1, h2, h3, h4, q⟩ := h
    exact .inr (.inr (.inr (.inr ⟨_, _, xs, rfl, rfl, h1, by omega, by omega, h4, q⟩)))
  · exact h.elim
theorem mul2_l {i j : Int} (h : -18446744073709551616 < i ∧ i < 18446744073709551616) : CMul i j ∨ CMulW i j ∨ CMulX i j := .inl (.inl ⟨by omega, by omega⟩)
theorem mul2_r {i j : Int} (h : -18446744073709551616 < j ∧ j < 18446744073709551616) : CMul i j ∨ CMulW i j ∨ CMulX i j := .inl (.inr ⟨by omega, by omega⟩)
theorem rep_l {H : Hp} {l : Addr} {k : Int} {xs : List V} {Q : VK} (h : H l = some (.lst xs)) (h0 : 0 ≤ k) (h1 : k ≤ 1000000) (h2 : xs.length * k.toNat ≤ sizeLine) (q : ∀ p, H p = none → Q (.ref p) (upd H p (.lst (List.replicate k.toNat xs).flatten))) : uMul2 (.ref l) (.int k) H Q := ⟨xs, h, h0, h1, h2, q⟩
end
end KW

set_option Elab.async false
set_option linter.all false
set_option maxRecDepth 100000
set_option maxHeartbeats 4000000
/-! Kw2e: what the top leaves, made; case lemmas; steps -/
namespace KW
open PySem PySem.Spec PyProof.Rows L2
section
variable {K : Frag} {mg : Str → Option Value} {h : Heap} {x m qual : Str} {C f T : Addr} {st : Stmt} {ns ps : List Str} {oc : Value} {od an : Option Addr} {osl : Array (Option Value)} {kV doc pm cdv ct : Value}
theorem clsA_mk (X : K.In h) (G : h.Ns mainGlobals mg) (a : PySem.W.nsIn K mainGlobals x = some (some (.ref C))) (pg : PySem.W.plainGet K C Str.empty = true) (hd : PySem.W.hasDictIn K C = true) (po : PySem.W.plainOver K C = true)
    (sa : PySem.W.findIn K (.ref C) "__setattr__" = some (some (.builtin "object.__setattr__"))) (no : ∀ f ∈ ns, PySem.W.findIn K (.ref C) f = some none) : ClsA K mg x C ns :=
  ⟨PySem.W.mg_of X G a, ⟨pg, hd, po, sa⟩, no⟩
theorem metAt_mk (a : PySem.W.findIn K (.ref C) m = some (some (.ref f))) (fn : PySem.W.isFn K (.ref f) = true) (kp : PySem.W.keepIn K (.ref f) = true)
    (l : K.lookup f = some ⟨oc, od, .func (PySem.W.fnOf m qual (defArgs st) (defBody st) (defScope st) .none kV doc pm an cdv ct), osl⟩) (c : PySem.W.codeIn K cdv qual = true)
    (hb : ∀ (kV doc pm : Value) (an : Option Addr) (cdv ct : Value) (us : List Value), us.length = ps.length → bindArgs (PySem.W.fnOf m qual (defArgs st) (defBody st) (defScope st) .none kV doc pm an cdv ct) ⟨us, []⟩ = pure (ps.zip us)) : MetAt K C m qual st ps := by
  have F : FunD K m qual (defArgs st) (defBody st) (defScope st) [] [] f _ := ⟨⟨oc, od, .none, kV, doc, pm, an, cdv, ct, osl, rfl, l, c, .inl ⟨rfl, rfl⟩, .inl rfl⟩, kp⟩
  exact ⟨f, ⟨a, fn, kp⟩, _, F, fun j hj => ⟨[], by simpa using Paired.nil, F.bindsN hb⟩⟩
theorem iniAt_mk (kc : PySem.W.keepIn K (.ref C) = true) (mk : PySem.W.makesIn K C = true) (a : PySem.W.findIn K (.ref C) "__init__" = some (some (.ref f))) (fn : PySem.W.isFn K (.ref f) = true) (kp : PySem.W.keepIn K (.ref f) = true)
    (l : K.lookup f = some ⟨oc, od, .func (PySem.W.fnOf "__init__" qual (defArgs st) (defBody st) (defScope st) .none kV doc pm an cdv ct), osl⟩) (c : PySem.W.codeIn K cdv qual = true)
    (hb : ∀ (kV doc pm : Value) (an : Option Addr) (cdv ct : Value) (us : List Value), us.length = ps.length → bindArgs (PySem.W.fnOf "__init__" qual (defArgs st) (defBody st) (defScope st) .none kV doc pm an cdv ct) ⟨us, []⟩ = pure (ps.zip us)) : IniAt K C qual st ps [] := by
  have F : FunD K "__init__" qual (defArgs st) (defBody st) (defScope st) [] [] f _ := ⟨⟨oc, od, .none, kV, doc, pm, an, cdv, ct, osl, rfl, l, c, .inl ⟨rfl, rfl⟩, .inl rfl⟩, kp⟩
  exact ⟨f, ⟨mk, a, fn, kc⟩, _, F, fun j hj => ⟨[], by simpa using Paired.nil, F.bindsN hb⟩⟩
theorem iniAt_mkD {dvs : List V} {its : List Value} {o : Obj} {n : Nat} (kc : PySem.W.keepIn K (.ref C) = true) (mk : PySem.W.makesIn K C = true) (a : PySem.W.findIn K (.ref C) "__init__" = some (some (.ref f))) (fn : PySem.W.isFn K (.ref f) = true) (kp : PySem.W.keepIn K (.ref f) = true)
    (l : K.lookup f = some ⟨oc, od, .func (PySem.W.fnOf "__init__" qual (defArgs st) (defBody st) (defScope st) (.ref T) kV doc pm an cdv ct), osl⟩) (c : PySem.W.codeIn K cdv qual = true)
    (lT : K.lookup T = some o) (oT : o.data = .seq its.toArray n) (r : Vals dvs its) (hd : dvs ≠ []) (hl : dvs.length ≤ ps.length)
    (hb : ∀ j, j ≤ dvs.length → ∀ (T : Addr) (kV doc pm : Value) (an : Option Addr) (cdv ct : Value) (us its : List Value), us.length = ps.length - (dvs.length - j) → its.length = dvs.length →
      ∃ k, bindArgs (PySem.W.fnOf "__init__" qual (defArgs st) (defBody st) (defScope st) (.ref T) kV doc pm an cdv ct) ⟨us, []⟩ = seqItems? (.ref T) >>= k ∧ k (some its.toArray) = pure (ps.zip (us ++ its.drop j))) : IniAt K C qual st ps dvs := by
  have F : FunD K "__init__" qual (defArgs st) (defBody st) (defScope st) dvs [] f _ := ⟨⟨oc, od, .ref T, kV, doc, pm, an, cdv, ct, osl, rfl, l, c, .inr ⟨hd, T, o, its, n, rfl, lT, oT, r⟩, .inl rfl⟩, kp⟩
  exact ⟨f, ⟨mk, a, fn, kc⟩, _, F, fun j hj => F.binds1 (ps.length - (dvs.length - j)) j hd (by omega) (hb j hj)⟩
end
/-! ### case lemmas -/
theorem uStr_e1 {i : Int} {H : Hp} {Q : VK} : uStr [.int i] H Q = (i.natAbs.log2 < 1920 ∧ Q (.str (toString i)) H) := rfl
theorem uStr_e2 {a : Str} {H : Hp} {Q : VK} : uStr [.str a] H Q = Q (.str a) H := rfl
theorem uMul2_e1 {i j : Int} {H : Hp} {Q : VK} : uMul2 (.int i) (.int j) H Q = ((CMul i j ∨ CMulW i j ∨ CMulX i j) ∧ Q (.int (i * j)) H) := rfl
theorem uMul2_e2 {a : Str} {k : Int} {H : Hp} {Q : VK} : uMul2 (.str a) (.int k) H Q = (0 ≤ k ∧ k ≤ 1000000 ∧ a.length * k.toNat ≤ sizeLine ∧ Q (.str (repS a k.toNat)) H) := rfl
theorem okS_i {n : Int} : PySem.KErr.okS (.int n) = (n.natAbs < 10 ^ 4300) := rfl
theorem okS_s {x : Str} : PySem.KErr.okS (.str x) = True := rfl
theorem small4300 {n : Int} (h : -100000000000000000000000000000000000000000000000000000000000000000000000000000000 < n ∧ n < 100000000000000000000000000000000000000000000000000000000000000000000000000000000) : n.natAbs < 10 ^ 4300 := by
  refine Nat.lt_of_lt_of_le (show n.natAbs < 10 ^ 80 by omega) (Nat.pow_le_pow_right (by decide) (by decide))
theorem WE_e {W : WX} {σ : L2.St} {c : Value} {d : Option Addr} {H : Hp} : WE W σ c d H = W c d σ H := rfl
/-! ### errors caught or let through -/
section
variable {K : Frag} {c cls : Value} {d : Option Addr} {i : Nat} {ts : Addr → Value → Option Addr → TS} {W : WX} {D : Ends} {σ : L2.St} {H : Hp}
theorem as_yes (h : PySem.W.exmOne K cls c = some true) (q : ∀ a, H a = none → ts a cls d { nx := fun σ' H' => D.nx (σ'.set i none) H', rt := D.rt, bk := fun σ' H' => D.bk (σ'.set i none) H', ct := fun σ' H' => D.ct (σ'.set i none) H' } (σ.set i (some (.ref a))) H) : wAs K c i ts W D cls d σ H :=
  ⟨true, h, ⟨fun _ => q, fun z => absurd z.symm Bool.false_ne_true⟩⟩
theorem as_no (h : PySem.W.exmOne K cls c = some false) (q : W cls d σ H) : wAs K c i ts W D cls d σ H := ⟨false, h, ⟨fun z => absurd z Bool.false_ne_true, fun _ => q⟩⟩
variable {a C dd : Addr} {fs : List (Str × V)} {v : V} {f : Str} {Q : VK} {P : Program} {w : World} {mg : Str → Option Value} {x : Str} {ns : List Str} {ok : List V → Prop}
theorem ef_l (c : ErrC P w K mg x C ns ok) (m : f ∈ ns) (e : σ[i]? = some (some (.ref a))) (h : H dd = some (.xd fs)) (l : fs.lookup f = some v) (q : Q v H) : uEf K a (.ref C) (some dd) i f σ H Q := ⟨C, dd, fs, v, e, rfl, c.xf, c.no f m, rfl, h, l, q⟩
theorem isE_r {b : Addr} {r : Bool} (c : ErrC P w K mg x C ns ok) (h : H dd = some (.xd fs)) (k : PySem.W.kitOne K (.ref C) (.ref b) = some r) (q : Q (.bl r) H) : uIsE K a (.ref C) (some dd) [.ref a, .ref b] H Q := ⟨C, dd, fs, r, rfl, rfl, c.is, rfl, h, k, q⟩
theorem isE_t {T : String} {r : Bool} (c : ErrC P w K mg x C ns ok) (h : H dd = some (.xd fs)) (k : PySem.W.kitOne K (.ref C) (.type T) = some r) (q : Q (.bl r) H) : uIsE K a (.ref C) (some dd) [.ref a, .ty T] H Q := ⟨C, dd, fs, r, rfl, rfl, c.is, rfl, h, k, q⟩
end
section
variable {H : Hp} {a b p : Addr} {o : HO}
theorem upd_none : upd H a o p = none ↔ p ≠ a ∧ H p = none := by
  by_cases h : p = a
  · subst h; rw [upd_same]; simp
  · rw [upd_ne h]; simp [h]
theorem ne_ud (h : upd H a o p = none) : p ≠ a := (upd_none.mp h).1
theorem ne_un (h : upd H a o p = none) : H p = none := (upd_none.mp h).2
theorem ne_n (h2 : H b = some o) (h : H p = none) : p ≠ b := fun e => by subst e; rw [h] at h2; cases h2
theorem ne_m (h : H p = none) (h2 : H b = some o) : p ≠ b := ne_n h2 h
theorem putF_nil {f : Str} {v : V} : putF f v [] = [(f, v)] := rfl
theorem putF_cons {f g : Str} {v x : V} {r : List (Str × V)} : putF f v ((g, x) :: r) = if g = f then (g, v) :: r else (g, x) :: putF f v r := rfl
end
end KW

set_option Elab.async false
set_option linter.all false
set_option maxRecDepth 100000
set_option maxHeartbeats 4000000
/-! Kw2f: methods of lists, stepwise; lists of texts and of ints -/
namespace KW
open PySem PySem.Spec PyProof.Rows L2
section
variable {K : Frag} {H : Hp} {l b p : Addr} {xs zs : List V} {y v : V} {Q : VK}
theorem app_l (h : H l = some (.lst xs)) (z : xs.length < sizeLine) (q : Q .non (upd H l (.lst (xs ++ [y])))) : rAppend (.ref l) [y] H Q := ⟨l, xs, y, rfl, rfl, h, z, q⟩
theorem ext_l (h : H l = some (.lst xs)) (h2 : H b = some (.lst zs)) (z : xs.length + zs.length ≤ sizeLine) (q : Q .non (upd H l (.lst (xs ++ zs)))) : rExtend (.ref l) [.ref b] H Q := ⟨l, b, xs, zs, rfl, rfl, h, h2, z, q⟩
theorem pop_l (h : H l = some (.lst xs)) (e : xs[xs.length - 1]? = some y) (q : Q y (upd H l (.lst xs.dropLast))) : rPop (.ref l) [] H Q := ⟨l, xs, y, rfl, rfl, h, e, q⟩
theorem pops_l {y : V} (h : H l = some (.lst (xs ++ [y]))) (q : Q y (upd H l (.lst xs))) : rPop (.ref l) [] H Q := ⟨l, _, y, rfl, rfl, h, by simp, by rw [List.dropLast_concat]; exact q⟩
theorem rev_l (h : H l = some (.lst xs)) (q : Q .non (upd H l (.lst xs.reverse))) : rReverse (.ref l) [] H Q := ⟨l, xs, rfl, rfl, h, q⟩
theorem clr_l (h : H l = some (.lst xs)) (q : Q .non (upd H l (.lst []))) : rClear (.ref l) [] H Q := ⟨l, xs, rfl, rfl, h, q⟩
theorem cat_l (h : H l = some (.lst xs)) (h2 : H b = some (.lst zs)) (z : xs.length + zs.length ≤ sizeLine) (q : ∀ p, H p = none → Q (.ref p) (upd H p (.lst (xs ++ zs)))) : rCat (.ref l) (.ref b) H Q := ⟨l, b, xs, zs, rfl, rfl, h, h2, z, q⟩
theorem sll_l {lo hi : Option Int} (h : H l = some (.lst xs)) (q : ∀ p, H p = none → Q (.ref p) (upd H p (.lst (cutV xs lo hi)))) : rSlL K (.ref l) lo hi H Q := ⟨l, xs, rfl, .of h, q⟩
theorem usl_l {lo hi : Option Int} (h : H l = some (.lst xs)) (q : ∀ p, H p = none → Q (.ref p) (upd H p (.lst (cutV xs lo hi)))) : uSl K (.ref l) lo hi H Q := .inl (sll_l h q)
theorem ucat_l (h : H l = some (.lst xs)) (h2 : H b = some (.lst zs)) (z : xs.length + zs.length ≤ sizeLine) (q : ∀ p, H p = none → Q (.ref p) (upd H p (.lst (xs ++ zs)))) : uAdd K (.ref l) (.ref b) H Q := .inl (cat_l h h2 z q)
theorem tru_l {k : Bool → Prop} (h : H l = some (.lst xs)) (q : k (!xs.isEmpty)) : uTru K (.ref l) H k := ⟨_, .inl ⟨xs, .of h, rfl⟩, q⟩
theorem tru_sl {k : Bool → Prop} (h : SqL K H l xs) (q : k (!xs.isEmpty)) : uTru K (.ref l) H k := ⟨_, .inl ⟨xs, h, rfl⟩, q⟩
theorem tru_t {k : Bool → Prop} (h : H l = some (.tup xs)) (q : k (!xs.isEmpty)) : uTru K (.ref l) H k := ⟨_, .inr (.inl ⟨xs, .of h, rfl⟩), q⟩
theorem tru_d {k : Bool → Prop} {kvs : List (Key × V)} (h : H l = some (.dK kvs)) (q : k (!kvs.isEmpty)) : uTru K (.ref l) H k := ⟨_, .inr (.inr ⟨kvs, h, rfl⟩), q⟩
end
section
variable {K : Frag} {H : Hp} {p : Addr} {xs : List V} {Q : VK} {n : String}
theorem isi_l (h : H p = some (.lst xs)) (o : isOk "list" n = true) (q : Q (.bl (isK "list" n)) H) : uIsi K [.ref p, .ty n] H Q := ⟨"list", .base (.lst h), o, q⟩
theorem isi_t (h : H p = some (.tup xs)) (o : isOk "tuple" n = true) (q : Q (.bl (isK "tuple" n)) H) : uIsi K [.ref p, .ty n] H Q := ⟨"tuple", .base (.tup h), o, q⟩
theorem isi_d {kvs : List (Key × V)} (h : H p = some (.dK kvs)) (o : isOk "dict" n = true) (q : Q (.bl (isK "dict" n)) H) : uIsi K [.ref p, .ty n] H Q := ⟨"dict", .base (.dK h), o, q⟩
end
/-! ### lists of texts, of ints -/
section
variable {K : Frag} {H : Hp} {l : Addr} {Q : VK}
theorem flat_strs (xs : List Str) : (xs.map V.str).all flatV = true := by simp [flatV]
theorem flat_ints (xs : List Int) : (xs.map V.int).all flatV = true := by simp [flatV]
theorem inV_strs (x : Str) : ∀ xs : List Str, inV (.str x) (xs.map V.str) = decide (x ∈ xs)
  | [] => rfl
  | a :: r => by
    show ((a == x) || inV (.str x) (r.map V.str)) = decide (x ∈ a :: r)
    rw [inV_strs x r]
    by_cases e : a = x
    · subst e; simp
    · have e2 : ¬ x = a := fun z => e z.symm
      have e3 : (a == x) = false := by simpa using e
      simp [e2, e3]
theorem inV_ints (x : Int) : ∀ xs : List Int, inV (.int x) (xs.map V.int) = decide (x ∈ xs)
  | [] => rfl
  | a :: r => by
    show ((a == x) || inV (.int x) (r.map V.int)) = decide (x ∈ a :: r)
    rw [inV_ints x r]
    by_cases e : a = x
    · subst e; simp
    · have e2 : ¬ x = a := fun z => e z.symm
      have e3 : (a == x) = false := by simpa using e
      simp [e2, e3]
theorem in_s {x : Str} {xs : List Str} (h : H l = some (.lst (xs.map V.str))) (q : Q (.bl (decide (x ∈ xs))) H) : rIn K false (.str x) (.ref l) H Q := ⟨l, _, rfl, .inl (.of h), rfl, flat_strs xs, by rw [inV_strs]; exact q⟩
theorem nin_s {x : Str} {xs : List Str} (h : H l = some (.lst (xs.map V.str))) (q : Q (.bl (!decide (x ∈ xs))) H) : rIn K true (.str x) (.ref l) H Q := ⟨l, _, rfl, .inl (.of h), rfl, flat_strs xs, by rw [inV_strs]; exact q⟩
theorem in_i {x : Int} {xs : List Int} (h : H l = some (.lst (xs.map V.int))) (q : Q (.bl (decide (x ∈ xs))) H) : rIn K false (.int x) (.ref l) H Q := ⟨l, _, rfl, .inl (.of h), rfl, flat_ints xs, by rw [inV_ints]; exact q⟩
theorem nin_i {x : Int} {xs : List Int} (h : H l = some (.lst (xs.map V.int))) (q : Q (.bl (!decide (x ∈ xs))) H) : rIn K true (.int x) (.ref l) H Q := ⟨l, _, rfl, .inl (.of h), rfl, flat_ints xs, by rw [inV_ints]; exact q⟩
theorem idxOf_get {α : Type} [BEq α] [LawfulBEq α] {x : α} : ∀ {xs : List α}, x ∈ xs → xs[xs.idxOf x]? = some x ∧ ∀ m z, m < xs.idxOf x → xs[m]? = some z → z ≠ x
  | [], h => by cases h
  | a :: r, h => by
    by_cases e : a = x
    · subst e
      rw [List.idxOf_cons_self]
      exact ⟨rfl, fun m z hm => absurd hm (Nat.not_lt_zero _)⟩
    · have hm : x ∈ r := by
        rcases List.mem_cons.mp h with q | q
        · exact absurd q.symm e
        · exact q
      obtain ⟨h1, h2⟩ := idxOf_get hm
      have hi : (a :: r).idxOf x = r.idxOf x + 1 := by
        rw [List.idxOf_cons]
        have : (a == x) = false := by simpa using e
        rw [this]
        rfl
      rw [hi]
      refine ⟨h1, fun m z hm hz => ?_⟩
      cases m with
      | zero => simp at hz; rw [← hz]; exact e
      | succ m => exact h2 m z (by omega) hz
theorem idx_s {x : Str} {xs : List Str} (h : H l = some (.lst (xs.map V.str))) (m : x ∈ xs) (q : Q (.int (xs.idxOf x : Nat)) H) : rIndex K (.ref l) [.str x] H Q := by
  obtain ⟨h1, h2⟩ := idxOf_get m
  refine ⟨l, _, .str x, xs.idxOf x, .str x, rfl, rfl, .of h, rfl, flat_strs xs, ?_, by simp [eqV], fun m z hm hz => ?_, q⟩
  · rw [List.getElem?_map, h1]; rfl
  · rw [List.getElem?_map] at hz
    cases e : xs[m]? with
    | none => rw [e] at hz; cases hz
    | some w =>
      rw [e] at hz
      cases hz
      simpa [eqV] using h2 m w hm e
theorem idx_i {x : Int} {xs : List Int} (h : H l = some (.lst (xs.map V.int))) (m : x ∈ xs) (q : Q (.int (xs.idxOf x : Nat)) H) : rIndex K (.ref l) [.int x] H Q := by
  obtain ⟨h1, h2⟩ := idxOf_get m
  refine ⟨l, _, .int x, xs.idxOf x, .int x, rfl, rfl, .of h, rfl, flat_ints xs, ?_, by simp [eqV], fun m z hm hz => ?_, q⟩
  · rw [List.getElem?_map, h1]; rfl
  · rw [List.getElem?_map] at hz
    cases e : xs[m]? with
    | none => rw [e] at hz; cases hz
    | some w =>
      rw [e] at hz
      cases hz
      simpa [eqV] using h2 m w hm e
theorem atI_map {α β : Type} {f : α → β} {xs : List α} {i : Nat} {x : α} (h : xs[i]? = some x) : atI (xs.map f) (i : Int) = some (f x) := atI_nat (by rw [List.getElem?_map, h]; rfl)
end
theorem cutV_from (xs : List V) (n : Nat) : cutV xs (some (n : Int)) none = xs.drop n := by
  unfold cutV
  rw [HT.sIx_nat]
  show (xs.drop (min n xs.length)).take (xs.length - min n xs.length) = xs.drop n
  by_cases h : n ≤ xs.length
  · rw [Nat.min_eq_left h, List.take_of_length_le (by rw [List.length_drop]; omega)]
  · rw [Nat.min_eq_right (by omega), List.drop_length, List.drop_eq_nil_of_le (by omega)]
    simp
theorem cutV_nat (xs : List V) (i j : Nat) : cutV xs (some (i : Int)) (some (j : Int)) = (xs.drop i).take (j - i) := by
  unfold cutV
  rw [HT.sIx_nat, HT.sIx_nat]
  have e : xs.drop (min i xs.length) = xs.drop i := by
    by_cases h : i ≤ xs.length
    · rw [Nat.min_eq_left h]
    · rw [Nat.min_eq_right (by omega), List.drop_length, List.drop_eq_nil_of_le (by omega)]
  rw [e]
  refine List.take_eq_take_iff.mpr ?_
  rw [List.length_drop]
  omega
theorem valV_drop (kvs : List (Key × V)) (k j : Key) : valV (dropK kvs k) j = if j = k then none else valV kvs j := by
  unfold valV dropK
  rw [List.find?_filter]
  by_cases e : j = k
  · subst e
    rw [if_pos rfl]
    have : (kvs.find? fun a => decide (a.1 ≠ j) && decide (a.1 = j)) = none := by
      rw [List.find?_eq_none]
      intro a _
      simp
    simp [this]
  · rw [if_neg e]
    congr 1
    congr 1
    funext a
    by_cases c : a.1 = j
    · have : ¬ a.1 = k := fun z => e (c.symm.trans z)
      simp [c, this, e]
    · simp [c]
/-! ### places in a text -/
def nthS (l : List Stmt) (i : Nat) : Stmt := l.getD i (.Pass ⟨0, 0, 0, 0⟩)
def ifB : Stmt → List Stmt | .If _ b _ _ => b | _ => []
def ifE : Stmt → List Stmt | .If _ _ b _ => b | _ => []
def whB : Stmt → List Stmt | .While _ b _ _ => b | _ => []
def forB : Stmt → List Stmt | .For _ _ b _ _ => b | _ => []
def tryB : Stmt → List Stmt | .Try b _ _ _ _ => b | _ => []
def suB : Stmt → List Stmt | .Try _ [.ExceptHandler _ _ b _] _ _ _ => b | _ => []
/-! ### all but some stands -/
def Fr (l : List Addr) (H H' : Hp) : Prop := ∀ b o, b ∉ l → H b = some o → H' b = some o
theorem Fr.refl {l : List Addr} (H : Hp) : Fr l H H := fun _ _ _ h => h
theorem Fr.trans {l : List Addr} {H H1 H2 : Hp} (x : Fr l H H1) (y : Fr l H1 H2) : Fr l H H2 := fun b o n h => y b o n (x b o n h)
theorem Fr.mono {l m : List Addr} {H H1 : Hp} (x : Fr l H H1) (y : ∀ b, b ∈ l → b ∈ m) : Fr m H H1 := fun b o n h => x b o (fun z => n (y b z)) h
theorem Fr.upd {l : List Addr} {a : Addr} {H : Hp} {o : HO} (h : a ∈ l) : Fr l H (L2.upd H a o) := fun b _ n e => by rw [upd_ne (fun z => n (by rw [z]; exact h))]; exact e
theorem Fr.new {l : List Addr} {p : Addr} {H : Hp} {o : HO} (h : H p = none) : Fr l H (L2.upd H p o) := fun b u _ e => by rw [upd_ne (ne_of_none e h)]; exact e
theorem Fr.lst {l : List Addr} {H H' : Hp} {b : Addr} {o : HO} (x : Fr l H H') (h : H b = some o) (n : b ∉ l) : H' b = some o := x b o n h
theorem Fr.seq {l : List Addr} {b : Addr} {K : Frag} {H H' : Hp} {xs : List V} (e : Fr l H H') (n : b ∉ l) (h : SqL K H b xs) : SqL K H' b xs := by
  rcases h with (h | ⟨o, h⟩) | h
  · exact .inl (.inl (e _ _ n h))
  · exact .inl (.inr ⟨o, e _ _ n h⟩)
  · exact .inr h
end KW

set_option Elab.async false
set_option linter.all false
set_option maxRecDepth 100000
set_option maxHeartbeats 4000000
/-! Kw2g: list comprehensions -/
namespace KW
open PySem PySem.Spec PyProof.Rows L2
/-- the loop of a comprehension, behind the making of its iterator: not opened by simp -/
def lcK (J : It) (g : TG) (tt : TT) (te : TE) (vs : List Nat) (σ : L2.St) (H1 : Hp) (Q : VK) : Prop := ∀ D, H1 D = none → ∃ W : Nat → Nat → Hp → Prop, (∃ m, W 0 m (upd H1 D (.lst []))) ∧ ∀ i m H, W i m H →
  (J.stop i H ∧ Q (.ref D) H) ∨ (J.go i H ∧ ∃ Nx : Hp → Prop, (∀ H', Nx H' → ∃ m', m' < m ∧ W (i + 1) m' H') ∧ ∀ x H', J.yld i H x H' → g x (wipe σ vs) H' fun σ2 H2 => wipe σ2 vs = wipe σ vs ∧ tt σ2 H2 fun b H3 =>
    if b = true then te σ2 H3 fun y H4 => ∃ acc, H4 D = some (.lst acc) ∧ acc.length < sizeLine ∧ Nx (upd H4 D (.lst (acc ++ [y]))) else Nx H3)
def uLc (wi : TI) (g : TG) (tt : TT) (te : TE) (vs : List Nat) : TE := fun σ H Q => wi σ H fun J H1 => lcK J g tt te vs σ H1 Q
section
variable {X : Cx}
theorem k_lc {elt tg iter : Expr} {ifs : List Expr} {scope : Scope} {own : List (Str × Nat)} {pos : Pos} {wi : TI} {g : TG} {tt : TT} {te : TE} (hc : X.calm = true) (hN : X.N.Nodup) (hi : PI X tg iter wi) (ok : BlkOk X.N X.env.scope scope own)
    (hg : ∀ (s : Shared) (H : Hp) (C : Addr) (cl : List (Str × Addr)) (fp : List Addr), PG (X.blk s H scope (compEnvC scope cl C X.env) fp) tg g) (ht : ∀ (s : Shared) (H : Hp) (C : Addr) (cl : List (Str × Addr)) (fp : List Addr), PTs (X.blk s H scope (compEnvC scope cl C X.env) fp) ifs tt)
    (he : ∀ (s : Shared) (H : Hp) (C : Addr) (cl : List (Str × Addr)) (fp : List Addr), PE (X.blk s H scope (compEnvC scope cl C X.env) fp) elt te) (hs : ∀ x, foldedSetIterable iter X.env x = pure x := by intro _; rfl) :
    PE X (.ListComp elt [⟨tg, iter, ifs, 0⟩] scope pos) (uLc wi g tt te (own.map (·.2))) := ⟨(pe_lc hc hN hi ok hg ht he hs).run⟩
theorem k_setLc {i : Nat} {y : Str} {py : Pos} {elt tg iter : Expr} {ifs : List Expr} {scope : Scope} {own : List (Str × Nat)} {pos spos : Pos} {wi : TI} {g : TG} {tt : TT} {te : TE} (hc : X.calm = true) (hN : X.N.Nodup) (hy : X.N[i]? = some y) (hyl : X.env.scope.names.lookup y = some .local)
    (hsw : swapsWith (.ListComp elt [⟨tg, iter, ifs, 0⟩] scope pos) (some (.Name y py)) spos.line X.env = pure true) (hi : PI X tg iter wi) (ok : BlkOk X.N X.env.scope scope own)
    (hg : ∀ (s : Shared) (H : Hp) (C : Addr) (cl : List (Str × Addr)) (fp : List Addr), PG (X.blk s H scope (compEnvC scope cl C X.env) fp) tg g) (ht : ∀ (s : Shared) (H : Hp) (C : Addr) (cl : List (Str × Addr)) (fp : List Addr), PTs (X.blk s H scope (compEnvC scope cl C X.env) fp) ifs tt)
    (he : ∀ (s : Shared) (H : Hp) (C : Addr) (cl : List (Str × Addr)) (fp : List Addr), PE (X.blk s H scope (compEnvC scope cl C X.env) fp) elt te) (hs : ∀ x, foldedSetIterable iter X.env x = pure x := by intro _; rfl) :
    PS X (.Assign [.Name y py] (.ListComp elt [⟨tg, iter, ifs, 0⟩] scope pos) spos) (tAsg (uLc wi g tt te (own.map (·.2))) (gName i)) := ⟨(ps_setLc hc hN hy hyl hsw hi ok hg ht he hs).run⟩
end
/-- over a list, where the items are made without a change of the heap: f tells what each gives -/
theorem lc_pl {K : Frag} {a : Addr} {xs : List V} {g : TG} {tt : TT} {te : TE} {vs : List Nat} {σ : L2.St} {H : Hp} {Q : VK} (f : V → Option V) (hS : SqL K H a xs) (hz : xs.length < sizeLine)
    (hs : ∀ (i : Nat) (x : V) (D : Addr) (acc : List V) (Cy : V → Hp → Prop) (Cn : Hp → Prop), xs[i]? = some x → H D = none → (∀ y, f x = some y → Cy y (upd H D (.lst acc))) → (f x = none → Cn (upd H D (.lst acc))) →
      g x (wipe σ vs) (upd H D (.lst acc)) fun σ2 H2 => wipe σ2 vs = wipe σ vs ∧ tt σ2 H2 fun b H3 => if b = true then te σ2 H3 fun y H4 => Cy y H4 else Cn H3)
    (hq : ∀ D, H D = none → Q (.ref D) (upd H D (.lst (xs.filterMap f)))) : lcK (Itl K a) g tt te vs σ H Q := by
  intro D hD
  refine ⟨fun i m H' => m = xs.length - i ∧ i ≤ xs.length ∧ H' = upd H D (.lst ((xs.take i).filterMap f)), ⟨xs.length, by simp⟩, ?_⟩
  rintro i m H' ⟨rfl, hi, rfl⟩
  have q := SqL.new (o := .lst ((xs.take i).filterMap f)) hD hS
  by_cases hlt : i < xs.length
  · refine .inr ⟨⟨xs, xs[i], q, by simp [hlt]⟩, fun H'' => H'' = upd H D (.lst ((xs.take (i + 1)).filterMap f)), fun H'' e => ⟨xs.length - (i + 1), by omega, rfl, hlt, e⟩, fun x H' y => ?_⟩
    obtain ⟨e, y⟩ := y
    subst e
    have hx := y xs q
    have et : xs.take (i + 1) = xs.take i ++ [x] := by
      rw [List.take_add_one, hx]; rfl
    refine hs i x D _ _ _ hx hD (fun y hy => ⟨_, upd_same, ?_, ?_⟩) fun hn => ?_
    · have h1 : ((xs.take i).filterMap f).length ≤ (xs.take i).length := List.length_filterMap_le _ _
      have h2 : (xs.take i).length ≤ xs.length := by rw [List.length_take]; omega
      omega
    · rw [upd_upd, et, List.filterMap_append]
      simp [hy]
    · rw [et, List.filterMap_append]
      simp [hn]
  · have e : i = xs.length := by omega
    subst e
    refine .inl ⟨⟨xs, q, Nat.le_refl _⟩, ?_⟩
    rw [List.take_length]
    exact hq D hD
theorem lc_pr {lo : Int} {n : Nat} {g : TG} {tt : TT} {te : TE} {vs : List Nat} {σ : L2.St} {H : Hp} {Q : VK} (f : Nat → Option V) (hz : n < sizeLine)
    (hs : ∀ (i : Nat) (D : Addr) (acc : List V) (Cy : V → Hp → Prop) (Cn : Hp → Prop), i < n → H D = none → (∀ y, f i = some y → Cy y (upd H D (.lst acc))) → (f i = none → Cn (upd H D (.lst acc))) →
      g (.int (lo + i)) (wipe σ vs) (upd H D (.lst acc)) fun σ2 H2 => wipe σ2 vs = wipe σ vs ∧ tt σ2 H2 fun b H3 => if b = true then te σ2 H3 fun y H4 => Cy y H4 else Cn H3)
    (hq : ∀ D, H D = none → Q (.ref D) (upd H D (.lst ((List.range n).filterMap f)))) : lcK (Itr lo n) g tt te vs σ H Q := by
  intro D hD
  refine ⟨fun i m H' => m = n - i ∧ i ≤ n ∧ H' = upd H D (.lst ((List.range i).filterMap f)), ⟨n, by simp⟩, ?_⟩
  rintro i m H' ⟨rfl, hi, rfl⟩
  by_cases hlt : i < n
  · refine .inr ⟨hlt, fun H'' => H'' = upd H D (.lst ((List.range (i + 1)).filterMap f)), fun H'' e => ⟨n - (i + 1), by omega, rfl, hlt, e⟩, fun x H' y => ?_⟩
    obtain ⟨e, rfl⟩ := y
    subst e
    refine hs i D _ _ _ hlt hD (fun y hy => ⟨_, upd_same, ?_, ?_⟩) fun hn => ?_
    · have h1 : ((List.range i).filterMap f).length ≤ (List.range i).length := List.length_filterMap_le _ _
      rw [List.length_range] at h1
      omega
    · rw [upd_upd, List.range_succ, List.filterMap_append]
      simp [hy]
    · rw [List.range_succ, List.filterMap_append]
      simp [hn]
  · have e : i = n := by omega
    subst e
    exact .inl ⟨Nat.le_refl _, hq D hD⟩
end KW

set_option Elab.async false
set_option linter.all false
set_option maxRecDepth 100000
set_option maxHeartbeats 4000000
/-! Kw2h: sorted, sum, walks over dicts -/
namespace KW
open PySem PySem.Spec PyProof.Rows L2
section
variable {X : Cx}
theorem pe_or {e : Expr} {t t' : TE} (h : PE X e t) (h' : PE X e t') : PE X e (fun σ H Q => t σ H Q ∨ t' σ H Q) := ⟨fun pins s σ H Q I q => q.elim (h.run pins s σ H Q I) (h'.run pins s σ H Q I)⟩
theorem ps_or {e : Stmt} {t t' : TS} (h : PS X e t) (h' : PS X e t') : PS X e (fun D σ H => t D σ H ∨ t' D σ H) := ⟨fun pins s σ H D I q => q.elim (h.run pins s σ H D I) (h'.run pins s σ H D I)⟩
/-- sorted(d) of a dict whose keys are ints -/
theorem call_sortedDN (hcalm : X.calm = true) : CallR X (.builtin "sorted") (fun xs H Q => ∃ (a : Addr) (kvs : List (Key × V)) (ks : List Int), xs = [.ref a] ∧ Rd H a (.dK kvs) ∧ kvs.map (·.1) = ks.map Sum.inl ∧ ks.length ≤ sizeLine ∧
    ∀ (ys : List Int) (p : Addr), ys.Perm ks → ys.Pairwise (· ≤ ·) → H p = none → Q (.ref p) (upd H p (.lst (ys.map V.int)))) := by
  intro pins s σ H xs us Q I r q
  obtain ⟨a, kvs, ks, ex, hd, hks, h64, q⟩ := q
  subst ex
  obtain ⟨u, eu, rx⟩ := vals1 r
  subst eu
  cases rx
  obtain ⟨z, lo, vs, rel, dd⟩ := dk_rd I.hok hd
  obtain ⟨ep, hat⟩ := dd.dictAt
  have hkeys : vs.map (·.1) = ks.map Sum.inl := rel.keys.symm.trans hks
  have hl : vs.length = ks.length := by
    have e := congrArg List.length hkeys
    rw [List.length_map, List.length_map] at e
    exact e
  have h16 : vs.length ≤ sizeLine := by rw [hl]; exact h64
  refine Calls.call_function_entry PyProof.Rows.kind_sorted PyProof.Rows.plain_sorted PyProof.Rows.entry_sorted (PyProof.Rows.args_sorted1 _) ?_
  unfold Builtin.«sorted»
  refine wpAny_bind (m := checkCount "sorted" 1 1 _) (wpAny_pure ?_)
  refine wpAny_bind (PySem.W.kdu_collect (A := X.A.in1) (PySem.W.kdl_dict (knd := mixKind X.prog X.w) (kvs := vs) (ep := ep) lo) (I.ok.hd hcalm) hat h16 fun h' tk acc hk hacc => ?_)
  have hal : acc.toList.length = ks.length := by rw [Array.length_toList, hacc.1, hl]
  have hS : IntsAre acc.toList ks := ints_each hal fun j v e => by
    obtain ⟨k, x, e1, e2⟩ := hacc.2 j v (by rw [← Array.getElem?_toList]; exact e)
    have e3 : (vs.map (·.1))[j]? = some k := by rw [List.getElem?_map, e1]; rfl
    rw [hkeys, List.getElem?_map] at e3
    cases e4 : ks[j]? with
    | none => rw [e4] at e3; cases e3
    | some y =>
      rw [e4] at e3
      have e5 : Sum.inl y = k := Option.some.inj e3
      subst e5
      rcases keyIs_shape (show keyIs (Sum.inl y) v = true from e2) with ⟨i, t, ek, ev⟩ | ⟨z, t, ek, ev⟩
      · cases ek
        exact ⟨y, t, rfl, ev⟩
      · cases ek
  have I1 : Inv X pins σ H { s with heap := h', toks := tk } := I.kept hk
  refine wpAny_bind (wpAny_newList ?_ (by rw [hal]; exact h64))
  have hoL : (h'.push (seqObj "list" acc.toList.toArray 0)).get? h'.objs.size = some (seqObj "list" acc.toList.toArray 0) := Heap.get?_push_size _ rfl
  show wpAny _ _ _ _ _ { s with heap := h'.push (seqObj "list" acc.toList.toArray 0), toks := tk }
  refine wpAny_bind (wpAny_holding (wpAny_call_entry PyProof.Rows.slot_list_sort ⟨_, hoL, rfl⟩ PyProof.Rows.entry_list_sort
    (SrtO.list_sort_ord (s := { s with heap := h'.push (seqObj "list" acc.toList.toArray 0), toks := tk }) SrtO.swo_int hoL (by rw [hal]; exact h64) (fun h2 => SrtO.ints_sortable hS h2) fun out hs hb => ⟨_, rfl, ?_⟩) (PyProof.Rows.args_list_sort _)))
  obtain ⟨g1, g2, g3⟩ := SrtO.ints_out hS hs hb
  obtain ⟨e', he'⟩ := PyProof.Rows.sortedHeap_at (vs := acc.toList) (out := out.toArray) hoL
  have hlen : ((out.map SrtO.iv).map V.int).length ≤ sizeLine := by
    rw [List.length_map, g2.length_eq]
    exact h64
  refine wpAny_pure ⟨_, rfl, .ref h'.objs.size, upd H h'.objs.size (.lst ((out.map SrtO.iv).map V.int)), I1.laid (t' := tk) (fun b u e => ?_) (Nat.le_refl _)
    (show ObjOk X.prog X.w _ _ _ (.lst ((out.map SrtO.iv).map V.int)) from ⟨hlen, out, e', vals_of_ints g1, he'⟩), rfl, q _ _ g2 g3 (I1.hok.fresh (Nat.le_refl _))⟩
  have hb : b < h'.objs.size := Heap.lt_size e
  rw [PyProof.Rows.sortedHeap_old (Nat.ne_of_lt hb) (by rw [size_push']; exact Nat.lt_succ_of_lt hb)]
  exact Heap.get?_push_of_some _ e
/-- sorted(x): a list of ints, a dict with ints as keys -/
def uSorted (K : Frag) : List V → Hp → VK → Prop := fun xs H Q => (∃ (a : Addr) (ns : List Int), xs = [V.ref a] ∧ SqL K H a (ns.map V.int) ∧ ∀ (ys : List Int) (p : Addr), ys.Perm ns → ys.Pairwise (· ≤ ·) → H p = none → Q (.ref p) (upd H p (.lst (ys.map V.int)))) ∨
  (∃ (a : Addr) (kvs : List (Key × V)) (ks : List Int), xs = [.ref a] ∧ Rd H a (.dK kvs) ∧ kvs.map (·.1) = ks.map Sum.inl ∧ ks.length ≤ sizeLine ∧ ∀ (ys : List Int) (p : Addr), ys.Perm ks → ys.Pairwise (· ≤ ·) → H p = none → Q (.ref p) (upd H p (.lst (ys.map V.int))))
theorem c_sorted (hcalm : X.calm = true) : CallR X (.builtin "sorted") (uSorted X.K) := fun pins s σ H xs us Q I r h => by
  rcases h with h | h
  · exact cr_sortedI pins s σ H xs us Q I r h
  · exact call_sortedDN hcalm pins s σ H xs us Q I r h
theorem srt_l {K : Frag} {H : Hp} {a : Addr} {ns : List Int} {Q : VK} (h : H a = some (.lst (ns.map V.int))) (q : ∀ (ys : List Int) (p : Addr), ys.Perm ns → ys.Pairwise (· ≤ ·) → H p = none → Q (.ref p) (upd H p (.lst (ys.map V.int)))) : uSorted K [.ref a] H Q := .inl ⟨a, ns, rfl, .of h, q⟩
theorem srt_d {K : Frag} {H : Hp} {a : Addr} {kvs : List (Key × V)} {ks : List Int} {Q : VK} (h : H a = some (.dK kvs)) (e : kvs.map (·.1) = ks.map Sum.inl) (z : ks.length ≤ sizeLine) (q : ∀ (ys : List Int) (p : Addr), ys.Perm ks → ys.Pairwise (· ≤ ·) → H p = none → Q (.ref p) (upd H p (.lst (ys.map V.int)))) : uSorted K [.ref a] H Q := .inr ⟨a, kvs, ks, rfl, .inl h, e, z, q⟩
/-- sum(xs), ints -/
def uSum (K : Frag) : List V → Hp → VK → Prop := rSum K
theorem c_sum (hc : X.calm = true) : CallR X (.builtin "sum") (uSum X.K) := cr_sum hc
theorem sum_l {K : Frag} {H : Hp} {a : Addr} {ns : List Int} {Q : VK} (h : H a = some (.lst (ns.map V.int))) (q : Q (.int ns.sum) H) : uSum K [.ref a] H Q := ⟨a, ns, rfl, .of h, q⟩
end
/-- a comprehension over a locked dict's keys (ints), where the items are made without a change of the heap -/
theorem lc_pk {d : Addr} {o : Obj} {kvs : List (Key × V)} {ks : List Int} {g : TG} {tt : TT} {te : TE} {vs : List Nat} {σ : L2.St} {H : Hp} {Q : VK} (f : Int → Option V) (hS : H d = some (.frz o (.dK kvs))) (hk : kvs.map (·.1) = ks.map Sum.inl) (hz : ks.length < sizeLine)
    (hs : ∀ (i : Nat) (x : Int) (D : Addr) (acc : List V) (Cy : V → Hp → Prop) (Cn : Hp → Prop), ks[i]? = some x → H D = none → (∀ y, f x = some y → Cy y (upd H D (.lst acc))) → (f x = none → Cn (upd H D (.lst acc))) →
      g (.int x) (wipe σ vs) (upd H D (.lst acc)) fun σ2 H2 => wipe σ2 vs = wipe σ vs ∧ tt σ2 H2 fun b H3 => if b = true then te σ2 H3 fun y H4 => Cy y H4 else Cn H3)
    (hq : ∀ D, H D = none → Q (.ref D) (upd H D (.lst (ks.filterMap f)))) : lcK (Itk d o kvs) g tt te vs σ H Q := by
  intro D hD
  have hl : kvs.length = ks.length := by
    have := congrArg List.length hk
    rw [List.length_map, List.length_map] at this
    exact this
  refine ⟨fun i m H' => m = ks.length - i ∧ i ≤ ks.length ∧ H' = upd H D (.lst ((ks.take i).filterMap f)), ⟨ks.length, by simp⟩, ?_⟩
  rintro i m H' ⟨rfl, hi, rfl⟩
  have hne : d ≠ D := ne_of_none hS hD
  have q : upd H D (.lst ((ks.take i).filterMap f)) d = some (.frz o (.dK kvs)) := by rw [upd_ne hne]; exact hS
  by_cases hlt : i < ks.length
  · refine .inr ⟨⟨q, by omega⟩, fun H'' => H'' = upd H D (.lst ((ks.take (i + 1)).filterMap f)), fun H'' e => ⟨ks.length - (i + 1), by omega, rfl, hlt, e⟩, fun x H' y => ?_⟩
    obtain ⟨e, k, v, hkv, rfl⟩ := y
    subst e
    have e3 : (kvs.map (·.1))[i]? = some k := by rw [List.getElem?_map, hkv]; rfl
    rw [hk, List.getElem?_map] at e3
    obtain ⟨x, hx⟩ : ∃ x, ks[i]? = some x := ⟨_, List.getElem?_eq_getElem hlt⟩
    rw [hx] at e3
    have e5 : Sum.inl x = k := Option.some.inj e3
    subst e5
    have et : ks.take (i + 1) = ks.take i ++ [x] := by
      rw [List.take_add_one, hx]; rfl
    refine hs i x D _ _ _ hx hD (fun y hy => ⟨_, upd_same, ?_, ?_⟩) fun hn => ?_
    · have h1 : ((ks.take i).filterMap f).length ≤ (ks.take i).length := List.length_filterMap_le _ _
      have h2 : (ks.take i).length ≤ ks.length := by rw [List.length_take]; omega
      omega
    · rw [upd_upd, et, List.filterMap_append]
      simp [hy]
    · rw [et, List.filterMap_append]
      simp [hn]
  · have e : i = ks.length := by omega
    subst e
    refine .inl ⟨⟨q, by omega⟩, ?_⟩
    rw [List.take_length]
    exact hq D hD
end KW

set_option Elab.async false
set_option linter.all false
set_option maxRecDepth 100000
set_option maxHeartbeats 4000000
/-! Kw2i: the rules with the frag told (within comprehensions) -/
namespace KW
theorem isEmpty_app {α : Type} (xs ys : List α) : (xs ++ ys).isEmpty = (xs.isEmpty && ys.isEmpty) := by cases xs <;> simp
open PySem PySem.Spec PyProof.Rows L2
section
variable {X : Cx} (K : Frag)
theorem ktK {e : Expr} {t : TE} (h : PE X e t) (he : ∀ whole, isTrue e X.env whole = (do let v ← whole; standAt e.pos; holding [v] (truthy v)) := by intro _; rfl) (hK : X.K = K := by rfl) : PT X e (uTest K t) := hK ▸ kt h he
theorem o_addK (hK : X.K = K := by rfl) : OpR X (binaryOp .Add) (uAdd K) := hK ▸ o_add
theorem o_eqK (hu : X.A.units + 64 < cLine) (hK : X.K = K := by rfl) : OpR X (compareOp .Eq) (uEq K) := hK ▸ o_eq hu
theorem o_neK (hu : X.A.units + 64 < cLine) (hK : X.K = K := by rfl) : OpR X (compareOp .NotEq) (uNe K) := hK ▸ o_ne hu
theorem o_inK (hK : X.K = K := by rfl) : OpR X (compareOp .In) (uIn K) := hK ▸ o_in
theorem o_notinK (hK : X.K = K := by rfl) : OpR X (compareOp .NotIn) (uNotIn K) := hK ▸ o_notin
theorem o_ixK (hK : X.K = K := by rfl) : IxR X (uIx K) := hK ▸ o_ix
theorem o_slK (hK : X.K = K := by rfl) : SlR X (uSl K) := hK ▸ o_sl
theorem c_lenK (hK : X.K = K := by rfl) : CallR X (.builtin "len") (uLen K) := hK ▸ c_len
theorem c_isiK (hK : X.K = K := by rfl) : CallR X (.builtin "isinstance") (uIsi K) := hK ▸ c_isi
theorem c_listK (hK : X.K = K := by rfl) : CallR X (.type "list") (uList K) := hK ▸ c_list
theorem c_sortedK (hc : X.calm = true) (hK : X.K = K := by rfl) : CallR X (.builtin "sorted") (uSorted K) := hK ▸ c_sorted hc
theorem c_sumK (hc : X.calm = true) (hK : X.K = K := by rfl) : CallR X (.builtin "sum") (uSum K) := hK ▸ c_sum hc
theorem k_fldK {e : Expr} {t : TE} {f : Str} {pos : Pos} (he : PE X e t) (hb : attributeBase e f X.env (eval e X.env) = eval e X.env) (hK : X.K = K := by rfl) : PE X (.Attribute e f pos) (uFld K t f) := hK ▸ k_fld he hb
theorem mt_indexK (hK : X.K = K := by rfl) : MtR X "list.index" (rIndex K) := hK ▸ mt_index
theorem pi_listK {tg l : Expr} {tl : TE} (hl : PE X l tl) (hK : X.K = K := by rfl) : PI X tg l (iList K tl) := hK ▸ pi_list hl
end
/-- of a list of ints, ints again -/
theorem lc_ii {K : Frag} {a : Addr} {xs : List Int} {g : TG} {tt : TT} {te : TE} {vs : List Nat} {σ : L2.St} {H : Hp} {Q : VK} (f : Int → Option Int) (hS : SqL K H a (xs.map V.int)) (hz : xs.length < sizeLine)
    (hs : ∀ (i : Nat) (x : Int) (D : Addr) (acc : List V) (Cy : V → Hp → Prop) (Cn : Hp → Prop), xs[i]? = some x → H D = none → (∀ y, f x = some y → Cy (.int y) (upd H D (.lst acc))) → (f x = none → Cn (upd H D (.lst acc))) →
      g (.int x) (wipe σ vs) (upd H D (.lst acc)) fun σ2 H2 => wipe σ2 vs = wipe σ vs ∧ tt σ2 H2 fun b H3 => if b = true then te σ2 H3 fun y H4 => Cy y H4 else Cn H3)
    (hq : ∀ D, H D = none → Q (.ref D) (upd H D (.lst ((xs.filterMap f).map V.int)))) : lcK (Itl K a) g tt te vs σ H Q := by
  refine lc_pl (fun v => match v with | .int i => (f i).map V.int | _ => none) hS (by rw [List.length_map]; exact hz) (fun i x D acc Cy Cn hx hD h1 h2 => ?_) fun D hD => ?_
  · rw [List.getElem?_map] at hx
    cases e : xs[i]? with
    | none => rw [e] at hx; cases hx
    | some z =>
      rw [e] at hx
      cases hx
      exact hs i z D acc Cy Cn e hD (fun y hy => h1 _ (by simp [hy])) fun hn => h2 (by simp [hn])
  · have e : (xs.map V.int).filterMap (fun v => match v with | .int i => (f i).map V.int | _ => none) = (xs.filterMap f).map V.int := by
      rw [List.filterMap_map, List.map_filterMap]; rfl
    rw [e]
    exact hq D hD
/-- over a list of anything told by F -/
theorem lc_f {α : Type} {K : Frag} {a : Addr} {xs : List α} {F : α → V} {g : TG} {tt : TT} {te : TE} {vs : List Nat} {σ : L2.St} {H : Hp} {Q : VK} (f : α → Option V) (hS : SqL K H a (xs.map F)) (hz : xs.length < sizeLine)
    (hs : ∀ (i : Nat) (x : α) (D : Addr) (acc : List V) (Cy : V → Hp → Prop) (Cn : Hp → Prop), xs[i]? = some x → H D = none → (∀ y, f x = some y → Cy y (upd H D (.lst acc))) → (f x = none → Cn (upd H D (.lst acc))) →
      g (F x) (wipe σ vs) (upd H D (.lst acc)) fun σ2 H2 => wipe σ2 vs = wipe σ vs ∧ tt σ2 H2 fun b H3 => if b = true then te σ2 H3 fun y H4 => Cy y H4 else Cn H3)
    (hq : ∀ D, H D = none → Q (.ref D) (upd H D (.lst (xs.filterMap f)))) : lcK (Itl K a) g tt te vs σ H Q := by
  intro D hD
  refine ⟨fun i m H' => m = xs.length - i ∧ i ≤ xs.length ∧ H' = upd H D (.lst ((xs.take i).filterMap f)), ⟨xs.length, by simp⟩, ?_⟩
  rintro i m H' ⟨rfl, hi, rfl⟩
  have q := SqL.new (o := .lst ((xs.take i).filterMap f)) hD hS
  by_cases hlt : i < xs.length
  · refine .inr ⟨⟨_, F xs[i], q, by simp [hlt]⟩, fun H'' => H'' = upd H D (.lst ((xs.take (i + 1)).filterMap f)), fun H'' e => ⟨xs.length - (i + 1), by omega, rfl, hlt, e⟩, fun x H' y => ?_⟩
    obtain ⟨e, y⟩ := y
    subst e
    have hx := y _ q
    obtain ⟨z, hz1⟩ : ∃ z, xs[i]? = some z := ⟨_, List.getElem?_eq_getElem hlt⟩
    rw [List.getElem?_map, hz1] at hx
    cases hx
    have et : xs.take (i + 1) = xs.take i ++ [z] := by
      rw [List.take_add_one, hz1]; rfl
    refine hs i z D _ _ _ hz1 hD (fun y hy => ⟨_, upd_same, ?_, ?_⟩) fun hn => ?_
    · have h1 : ((xs.take i).filterMap f).length ≤ (xs.take i).length := List.length_filterMap_le _ _
      have h2 : (xs.take i).length ≤ xs.length := by rw [List.length_take]; omega
      omega
    · rw [upd_upd, et, List.filterMap_append]
      simp [hy]
    · rw [et, List.filterMap_append]
      simp [hn]
  · have e : i = xs.length := by omega
    subst e
    refine .inl ⟨⟨_, q, by simp⟩, ?_⟩
    rw [List.take_length]
    exact hq D hD
/-- over a range, any answers, the heap may change: Pv tells the list made so far (at D) and the heap -/
theorem lc_rG {lo : Int} {n : Nat} {g : TG} {tt : TT} {te : TE} {vs : List Nat} {σ : L2.St} {H : Hp} {Q : VK} (Pv : Nat → Addr → List V → Hp → Prop) (h0 : ∀ D, H D = none → Pv 0 D [] (upd H D (.lst [])))
    (hs : ∀ (i : Nat) (D : Addr) (acc : List V) (H' : Hp) (Nx : Hp → Prop), i < n → H D = none → Pv i D acc H' → (∀ acc H'', Pv (i + 1) D acc H'' → Nx H'') → g (.int (lo + i)) (wipe σ vs) H' fun σ2 H2 => wipe σ2 vs = wipe σ vs ∧ tt σ2 H2 fun b H3 => if b = true then te σ2 H3 fun y H4 => ∃ acc, H4 D = some (.lst acc) ∧ acc.length < sizeLine ∧ Nx (upd H4 D (.lst (acc ++ [y]))) else Nx H3)
    (hq : ∀ D acc H', H D = none → Pv n D acc H' → Q (.ref D) H') : lcK (Itr lo n) g tt te vs σ H Q := by
  intro D hD
  refine ⟨fun i m H' => m = n - i ∧ i ≤ n ∧ ∃ acc, Pv i D acc H', ⟨n, rfl, Nat.zero_le _, [], h0 D hD⟩, ?_⟩
  rintro i m H' ⟨rfl, hi, acc, hP⟩
  by_cases hlt : i < n
  · refine .inr ⟨hlt, fun H'' => ∃ acc, Pv (i + 1) D acc H'', fun H'' e => ⟨n - (i + 1), by omega, rfl, hlt, e⟩, fun x H2 y => ?_⟩
    obtain ⟨e, rfl⟩ := y
    subst e
    exact hs i D acc _ _ hlt hD hP fun acc H'' h => ⟨acc, h⟩
  · have e : i = n := by omega
    subst e
    exact .inl ⟨Nat.le_refl _, hq D acc H' hD hP⟩
/-- over a list -/
theorem lc_lG {α : Type} {K : Frag} {a : Addr} {xs : List α} {F : α → V} {g : TG} {tt : TT} {te : TE} {vs : List Nat} {σ : L2.St} {H : Hp} {Q : VK} (Pv : Nat → Addr → List V → Hp → Prop) (h0 : ∀ D, H D = none → Pv 0 D [] (upd H D (.lst [])))
    (hl : ∀ i D acc H', Pv i D acc H' → SqL K H' a (xs.map F))
    (hs : ∀ (i : Nat) (x : α) (D : Addr) (acc : List V) (H' : Hp) (Nx : Hp → Prop), xs[i]? = some x → H D = none → Pv i D acc H' → (∀ acc H'', Pv (i + 1) D acc H'' → Nx H'') → g (F x) (wipe σ vs) H' fun σ2 H2 => wipe σ2 vs = wipe σ vs ∧ tt σ2 H2 fun b H3 => if b = true then te σ2 H3 fun y H4 => ∃ acc, H4 D = some (.lst acc) ∧ acc.length < sizeLine ∧ Nx (upd H4 D (.lst (acc ++ [y]))) else Nx H3)
    (hq : ∀ D acc H', H D = none → Pv xs.length D acc H' → Q (.ref D) H') : lcK (Itl K a) g tt te vs σ H Q := by
  intro D hD
  refine ⟨fun i m H' => m = xs.length - i ∧ i ≤ xs.length ∧ ∃ acc, Pv i D acc H', ⟨xs.length, rfl, Nat.zero_le _, [], h0 D hD⟩, ?_⟩
  rintro i m H' ⟨rfl, hi, acc, hP⟩
  have q := hl i D acc H' hP
  by_cases hlt : i < xs.length
  · refine .inr ⟨⟨_, F xs[i], q, by simp [hlt]⟩, fun H'' => ∃ acc, Pv (i + 1) D acc H'', fun H'' e => ⟨xs.length - (i + 1), by omega, rfl, hlt, e⟩, fun x H2 y => ?_⟩
    obtain ⟨e, y⟩ := y
    subst e
    have hx := y _ q
    obtain ⟨z, hz1⟩ : ∃ z, xs[i]? = some z := ⟨_, List.getElem?_eq_getElem hlt⟩
    rw [List.getElem?_map, hz1] at hx
    cases hx
    exact hs i z D acc _ _ hz1 hD hP fun acc H'' h => ⟨acc, h⟩
  · have e : i = xs.length := by omega
    subst e
    exact .inl ⟨⟨_, q, by simp⟩, hq D acc H' hD hP⟩
/-- over reversed(xs) -/
theorem for_rev {K : Frag} {a : Addr} {xs : List V} {g : TG} {tb : TS} {D : Ends} {σ : L2.St} {H : Hp} (Pv : Nat → L2.St → Hp → Prop) (h0 : Pv 0 σ H) (hl : ∀ i σ H, i ≤ xs.length → Pv i σ H → SqL K H a xs)
    (hs : ∀ i x σ H, i < xs.length → xs[xs.length - 1 - i]? = some x → Pv i σ H → g x σ H fun σ2 H2 => tb { D with nx := Pv (i + 1), ct := Pv (i + 1), bk := D.nx } σ2 H2) (hd : ∀ σ H, Pv xs.length σ H → D.nx σ H) : forK (Itv K a xs.length) g tb D σ H := by
  refine ⟨fun i m σ H => m = xs.length - i ∧ i ≤ xs.length ∧ Pv i σ H, ⟨xs.length, rfl, Nat.zero_le _, h0⟩, ?_⟩
  rintro i m σ H ⟨rfl, hi, p⟩
  have q := hl i σ H hi p
  by_cases hlt : i < xs.length
  · refine .inr ⟨⟨hlt, xs, xs[xs.length - 1 - i], q, by rw [List.getElem?_eq_getElem]⟩, Pv (i + 1), fun σ' H' p' => ⟨xs.length - (i + 1), by omega, rfl, hlt, p'⟩, fun x H' y => ?_⟩
    obtain ⟨e, y⟩ := y
    subst e
    exact hs i x σ _ hlt (y xs q) p
  · have e : i = xs.length := by omega
    subst e
    exact .inl ⟨Nat.le_refl _, hd σ H p⟩
end KW
namespace KW
open PySem PySem.Spec PyProof.Rows L2
/-- dict(d): a copy -/
def uDict : List V → Hp → VK → Prop
  | [.ref a], H, Q => ∃ kvs, H a = some (.dK kvs) ∧ ∀ p, H p = none → Q (.ref p) (upd H p (.dK kvs))
  | _, _, _ => False
theorem c_dict {X : Cx} : CallR X (.type "dict") uDict := CallRw call_dictD fun xs H Q h => by
  unfold uDict at h
  split at h
  · obtain ⟨kvs, hs, q⟩ := h
    exact ⟨_, kvs, rfl, .of hs, q⟩
  · exact h.elim
theorem dict_d {H : Hp} {a : Addr} {kvs : List (Key × V)} {Q : VK} (h : H a = some (.dK kvs)) (q : ∀ p, H p = none → Q (.ref p) (upd H p (.dK kvs))) : uDict [.ref a] H Q := ⟨kvs, h, q⟩
end KW

set_option Elab.async false
set_option linter.all false
set_option maxRecDepth 100000
set_option maxHeartbeats 4000000
/-! Kw4: own defs called within an except suite -/
namespace KW
open PySem PySem.Spec PyProof.Rows L2
structure CalH (P : Program) (w : World) (K : Frag) (mg : Str → Option Value) (base : Heap) (k : Nat) (x : Str) (sp : Sp) : Prop where
  ex : ∃ (f : Addr) (fd : FuncData) (ps : List Str), mg x = some (.ref f) ∧ PySem.W.keepIn K (.ref f) = true ∧ Binds K fd ps [] ∧ L2H.FnH P w K mg base (L2N.CX P w) k f fd ps sp
section
variable {P : Program} {w : World} {K : Frag} {mg : Str → Option Value} {base : Heap}
theorem DefAt.okH {x qual : Str} {st : Stmt} {N ps : List Str} {k : Nat} {sp : Sp} (D : DefAt K mg x qual st ps) (S : FnScope N ps (defScope st)) (len : ∀ vs H Q E, sp vs H Q E → vs.length = ps.length)
    (hbody : ∀ (f : Addr) (cdv : Value) (A : Around) (outer : List Env) (s : Shared) (H : Hp) (vs : List V) (Q : VK) (E : XK) (pp : Addr × Obj), L2H.RoomH k (A.deeper (envOfC qual (defScope st) s.heap.objs.size f cdv)) → sp vs H Q E →
      ∃ t, PSs (L2H.cxH (L2N.CX P w) P w K mg base N qual (defScope st) f cdv A outer s H E pp) (defBody st) t ∧ t { nx := fun _ H' => Q .non H', rt := Q } (start N vs) H) : CalH P w K mg base (k + 1) x sp := by
  obtain ⟨f, fd, hm, F, hb⟩ := D.ex
  refine ⟨f, fd, ps, hm, F.kp, hb, ?_⟩
  obtain ⟨oc, od, kV, doc, pm, an, cdv, ct, osl, rfl, lk, hcd⟩ := F.ex
  exact L2H.fn_ofH lk hcd S len fun A outer s H vs Q E pp _ hr hsp => hbody f cdv A outer s H vs Q E pp hr hsp
end
section
variable {X : Cx} {k : Nat} {x : Str} {sp : Sp} {p pos : Pos} {e : Expr} {es : List Expr} {t : TA}
theorem kcH {a : Addr} {oe : Obj} {cls : Value} {d : Option Addr} {pn : List (Addr × Obj)} (hz : L2N.Zn cls d oe) (hf : ∃ vs, oe.data = .fields vs) (c : CalH X.prog X.w X.K X.mg X.base k x sp) (hr : Room k X.A) (ha : PA (X.suite a ((a, oe) :: pn)) (e :: es) t)
    (hg : Gl X x := by rfl) (hdb : (x == ("__debug__" : Str)) = false := by decide)
    (he : starEach (e :: es) X.env = (false, eval e X.env) :: starEach es X.env := by rfl) (hpl : (backTo pos (starEach es X.env)).any (·.1) = false := by rfl) : PE (X.suite a ((a, oe) :: pn)) (.Call (.Name x p) (e :: es) [] pos) (uCall sp t) := by
  obtain ⟨f, fd, ps, hm, hk, hb, F⟩ := c.ex
  obtain ⟨vs, hv⟩ := hf
  exact L2H.pe_callH (X := X.suite a ((a, oe) :: pn)) (E := fun _ => E0) F ⟨hr.dp, hr.un⟩ ⟨(a, oe), ⟨rfl, vs, hv, hz.2.2 vs hv⟩, List.mem_cons_self ..⟩ hg hm hk hb (fun _ => passAt0) ha hdb he hpl
end
end KW
namespace L2H
open PySem PySem.Spec PyProof.Rows L2
theorem RoomH.units {k : Nat} {A : Around} (r : RoomH k A) : A.units + 64 < cLine := by have := r.un; omega
end L2H

set_option Elab.async false
set_option linter.all false
set_option maxRecDepth 100000
set_option maxHeartbeats 4000000
/-! Kw5: int(text) of up to 4300 signs; a def that gets the exception of the suite -/
namespace KW
open PySem PySem.Spec PyProof.Rows L2 PySem.W PySem.NumText PySem.Calls
theorem wp_max {M : Model} {A : Around} {E : Value → Shared → Prop} {s : Shared} {Q : Nat → Shared → Prop} (hd : s.heap.NoDigits) (h : Q 4300 s) : wpAny M A Builtin.intMaxStrDigits Q E s := by
  obtain ⟨mc, hns, hnone⟩ := hd
  unfold Builtin.intMaxStrDigits
  refine wpAny_bind (wpAny_nsGet hns ?_)
  rw [hnone]
  exact wpAny_pure h
theorem wp_textL {M : Model} {A : Around} {E : Value → Shared → Prop} {s : Shared} {Q : Value → Shared → Prop} {v : Value} {text : List Nat} {n : Int} (hd : s.heap.NoDigits) (hs : ¬ (text.takeWhile (· != 0)).length ≤ 640)
    (hr : (int_private% "readNumeral") 4300 10 (text.takeWhile (· != 0)) = (int_private% "Numeral.value") n) (ha : ((text.takeWhile (· != 0)).length == text.length) = true) (h : Q (.int n s.toks) { s with toks := s.toks + 1 }) :
    wpAny M A ((int_private% "intFromText") v text 10) Q E s := by
  obtain ⟨hp, g, d, tk, os⟩ := s
  repeat (any_goals (first
    | assumption
    | (with_reducible refine wpAny_ite_false (decide_eq_false hs) ?_)
    | ((with_reducible show wpAny _ _ Builtin.intMaxStrDigits _ _ _); refine wp_max hd ?_)
    | (with_reducible refine wpAny_ite_true (decide_eq_true ha) ?_)
    | wp_step))
  all_goals (try rw [hr])
  all_goals (try dsimp only)
  repeat (any_goals (first
    | assumption
    | (with_reducible refine wpAny_ite_true (decide_eq_true ha) ?_)
    | wp_step))
structure HidL (p : Prop) : Prop where
  out : p
theorem meets_textL {x : PySem.Str} {u : Tok} {n : Int} (hl : x.length ≤ sizeLine) (hlong : ¬ (numSeenOf x).length ≤ 640) (hn : PySem.intText? x = some n) :
    Meets (Builtin.«int.__new__» ⟨[.type "int", .str x u], []⟩) (fun _ R s => s.heap.NoDigits ∧ R (.ok (.ret (.int n s.toks))) { s with toks := s.toks + 1 }) := by
  intro prog w A R s ⟨hd, h⟩
  refine wpAny_mono (Q := fun fin s' => ∃ v, fin = .done (.ret v) ∧ R (.ok (.ret v)) s') (E := fun e s' => R (.error e) s') ?_ (fun fin s' h' => by obtain ⟨v, rfl, hv⟩ := h'; exact hv) fun _ _ z => z
  obtain ⟨hp, g, d, tk, os⟩ := s
  have f1 := F.conv_sub_int
  have f2 := F.madeHere_int
  have f3 := KIN.str_int
  have f4 := KIN.str_idx
  have f5 := KIN.str_trunc
  have f6 : typeOf (.str x u) = pure (.type "str") := rfl
  have hr : (int_private% "readNumeral") 4300 10 (numSeenOf x) = (int_private% "Numeral.value") n ∧ ((numSeenOf x).length == (numTextOf x).length) = true := by
    rcases read4300 x hl with ⟨m, h1, h2, h3⟩ | ⟨h1, _⟩
    · rw [hn] at h1
      injection h1 with h1
      subst h1
      exact ⟨h3, h2⟩
    · rw [hn] at h1
      cases h1
  have hk := HidL.mk (And.intro hlong hr)
  clear hr hl hn hlong
  repeat (any_goals (first
    | assumption
    | ((with_reducible show wpAny _ _ ((int_private% "intFromText") _ _ _) _ _ _); refine wp_textL hd hk.out.1 hk.out.2.1 hk.out.2.2 ?_)
    | wp_step))
  all_goals first | exact ⟨_, rfl, h⟩ | skip
  all_goals trace_state
theorem tw_all : ∀ l : List Nat, (∀ c ∈ l, 48 ≤ c ∧ c ≤ 57) → l.takeWhile (· != 0) = l
  | [], _ => rfl
  | c :: l, h => by
    have h1 := h c List.mem_cons_self
    have e : (c != 0) = true := by simp only [bne_iff_ne, ne_eq]; omega
    rw [List.takeWhile_cons, if_pos e, tw_all l fun d hd => h d (List.mem_cons_of_mem _ hd)]
theorem seen_all {x : PySem.Str} (h : AllDigits x.cps.toList) : (numSeenOf x).length = x.length := by
  have e : x.cps.all (· < 128) = true := by
    rw [← Array.all_toList, List.all_eq_true]
    intro c hc
    have := h c hc
    simp only [decide_eq_true_eq]; omega
  have e2 : numTextOf x = x.cps.toList := by unfold numTextOf; rw [if_pos e]
  unfold numSeenOf
  rw [e2, tw_all _ h]
  exact Array.length_toList
/-- int(v) -/
def uIntL : List V → Hp → VK → Prop
  | [.int i], H, Q => Q (.int i) H
  | [.str x], H, Q => AllDigits x.cps.toList ∧ x.cps.toList ≠ [] ∧ x.length ≤ 4300 ∧ Q (.int (digitsVal x.cps.toList : Nat)) H
  | _, _, _ => False
theorem uIntL_e1 {i : Int} {H : Hp} {Q : VK} : uIntL [.int i] H Q = Q (.int i) H := rfl
theorem uIntL_e2 {x : Str} {H : Hp} {Q : VK} : uIntL [.str x] H Q = (AllDigits x.cps.toList ∧ x.cps.toList ≠ [] ∧ x.length ≤ 4300 ∧ Q (.int (digitsVal x.cps.toList : Nat)) H) := rfl
theorem c_intL {X : Cx} (hdg : nsIn X.K cStatics "sys.int_max_str_digits" = some none) : CallR X (.type "int") uIntL := by
  intro pins s σ H xs us Q I r h
  unfold uIntL at h
  split at h
  · exact c_int pins s σ H _ us Q I r h
  · rename_i x
    obtain ⟨h1, h2, h3, h⟩ := h
    cases r with
    | cons r1 rs =>
      cases rs
      obtain ⟨t, rfl⟩ := r1
      have hn := intText_digits h1 h2 h3
      have fin := (⟨.int (digitsVal x.cps.toList : Nat), H, I.tok _, ⟨_, rfl⟩, h⟩ : EP X pins σ Q (.int (digitsVal x.cps.toList : Nat) s.toks) { s with toks := s.toks + 1 })
      by_cases c : x.length ≤ 640
      · exact KIN.call_text hn c fin
      · have hd : s.heap.NoDigits := let ⟨mc, a, _⟩ := I.nolimit; ⟨mc, a, ns_none_of I.kIn a hdg⟩
        exact call_int_1 (meets_textL (by rw [sizeLine_eq]; omega) (by rw [seen_all h1]; exact c) hn) ⟨hd, rfl, fin⟩
  · exact h.elim

/-! ### a def that gets the exception of the suite as its first argument -/
structure CalE (P : Program) (w : World) (K : Frag) (mg : Str → Option Value) (base : Heap) (k : Nat) (x : Str) (sp : Addr → Value → Option Addr → Sp) : Prop where
  ex : ∃ (f : Addr) (fd : FuncData) (ps : List Str), mg x = some (.ref f) ∧ PySem.W.keepIn K (.ref f) = true ∧ Binds K fd ps [] ∧ (∀ a c d vs H Q E, sp a c d vs H Q E → vs.length = ps.length) ∧
    ∀ (A : Around) (outer : List Env) (s : Shared) (H : Hp) (args : Args) (us : List Value) (vs : List V) (Q : VK) (a : Addr) (oe : Obj) (c : Value) (d : Option Addr), L2H.RoomH k A → A.handled = some (.ref a) → L2N.Zn c d oe → (∃ fv, oe.data = .fields fv) → L2H.PinOk outer H s (a, oe) → Env0 P w K mg base A outer s H →
      BindsTo s fd args (ps.zip us) → Vals vs us → sp a c d vs H Q E0 → codeAny (model P w) A (.call (.ref f) args) (CR (L2N.CX P w) outer P w H s Q E0) s
theorem mark_self {A : Around} {env : Env} {v : Value} (h : A.handled = some v) : (A.deeper env).mark (some v) = A.deeper env := by
  obtain ⟨hd, dp, fr, gs, un⟩ := A
  simp only at h
  subst h
  rfl
section
variable {P : Program} {w : World} {K : Frag} {mg : Str → Option Value} {base : Heap}
theorem DefAt.okE {x qual : Str} {st : Stmt} {N ps : List Str} {k : Nat} {sp : Addr → Value → Option Addr → Sp} (D : DefAt K mg x qual st ps) (S : FnScope N ps (defScope st)) (len : ∀ a c d vs H Q E, sp a c d vs H Q E → vs.length = ps.length)
    (hbody : ∀ (f : Addr) (cdv : Value) (A : Around) (outer : List Env) (s : Shared) (H : Hp) (vs : List V) (Q : VK) (ea : Addr) (oe : Obj) (cls : Value) (d : Option Addr), L2H.RoomH k (A.deeper (envOfC qual (defScope st) s.heap.objs.size f cdv)) → L2N.Zn cls d oe → (∃ fv, oe.data = .fields fv) → sp ea cls d vs H Q E0 →
      ∃ t, PSs ((cxOf (L2N.CX P w) P w K mg base N qual (defScope st) f cdv A outer s H E0).suite ea ((ea, oe) :: [])) (defBody st) t ∧ t { nx := fun _ H' => Q .non H', rt := Q } (start N vs) H) : CalE P w K mg base (k + 1) x sp := by
  obtain ⟨f, fd, hm, F, hb⟩ := D.ex
  obtain ⟨oc, od, kV, doc, pm, an, cdv, ct, osl, rfl, lk, hcd⟩ := F.ex
  refine ⟨f, _, ps, hm, F.kp, hb, len, fun A outer s H args us vs Q a oe c d hr hh hz hf hpin e0 hbd hv hsp => ?_⟩
  have hlen := len _ _ _ _ _ _ _ hsp
  have up := e0.bs
  have kin : K.In s.heap := e0.mod.kin.keeps fun b o e => (up b o e).1
  have nolim : s.heap.NoLimit := e0.mod.nolimit.keeps fun b o e => (up b o e).1
  have kinds : ∀ y ∈ ps.zip us, (defScope st).names.lookup y.1 = some .local ∨ ((defScope st).names.lookup y.1 = some .cell ∧ ((cellsFrom (s.heap.objs.size + 1) (defScope st).names []).lookup y.1).isSome = true) := by
    rintro ⟨n, v⟩ hy
    cases S.par n (List.of_mem_zip hy).1 with
    | inl q => exact .inl q
    | inr q => exact .inr ⟨q, PySem.W.cellsFrom_some _ _ _ (.inl q)⟩
  refine codeAny_call_function hr.depth (kin _ _ lk) rfl S.co S.gen rfl (PySem.W.codeRec_of kin hcd) (hbd _ _ _ _ ?_)
  refine wpAny_newFunctionEnv_cells S.kind kinds fun env he s1 x => ?_
  subst he
  refine ⟨nolim.keeps x.toInCall.keep, codeAny_func ?_⟩
  obtain ⟨t, ht, hq⟩ := hbody f cdv A outer s H vs Q a oe c d (hr.deeper _) hz hf hsp
  have I0 := L2H.inv_startH (CX := L2N.CX P w) (P := P) (w := w) (K := K) (mg := mg) (base := base) (qual := qual) (f := f) (cd := cdv) (A := A) (outer := outer) (E := E0) S hpin e0 hlen hv x
  have eA := mark_self (A := A) (env := envOfC qual (defScope st) s.heap.objs.size f cdv) hh
  have eX : (cxOf (L2N.CX P w) P w K mg base N qual (defScope st) f cdv A outer s H E0).suite a ((a, oe) :: []) = (L2H.cxH (L2N.CX P w) P w K mg base N qual (defScope st) f cdv A outer s H E0 (a, oe)).wish fun _ _ => False := by
    unfold Cx.suite L2H.cxH Cx.wish cxOf
    simp only [eA]
  rw [eX] at ht
  have hrun := ht.run [] s1 (start N vs) H _ (I0.wish _) hq
  refine wpAny_mono hrun (fun fl s' hs => ?_) fun e s' hs => hs.elim
  have fin : ∀ {σ' : L2.St} {H' : Hp} {v : V} {u : Value}, Inv ((L2H.cxH (L2N.CX P w) P w K mg base N qual (defScope st) f cdv A outer s H E0 (a, oe)).wish fun _ _ => False) [] σ' H' s' → RelV v u → Q v H' → CE outer P w H s Q u s' :=
    fun {σ' H' v u} J rv q => ⟨v, H', J.os, J.bare, J.unwish.base, J.hok, rv, q⟩
  cases fl with
  | ret u => obtain ⟨v, σ', H', J, rv, q⟩ := hs; exact fin J rv q
  | next => obtain ⟨σ', H', J, q⟩ := hs; exact fin (v := V.non) (u := Value.none) J rfl q
  | brk => obtain ⟨_, _, _, q⟩ := hs; exact q.elim
  | cont => obtain ⟨_, _, _, q⟩ := hs; exact q.elim
end
section
variable {X : Cx} {k : Nat} {x : Str} {p pos : Pos} {e : Expr} {es : List Expr} {t : TA}
/-- f(e, ..) in the suite that holds e -/
theorem kcE {a : Addr} {oe : Obj} {cls : Value} {d : Option Addr} {pn : List (Addr × Obj)} {sp : Addr → Value → Option Addr → Sp} (hz : L2N.Zn cls d oe) (hf : ∃ vs, oe.data = .fields vs) (c : CalE X.prog X.w X.K X.mg X.base k x sp) (hr : Room k X.A) (ha : PA (X.suite a ((a, oe) :: pn)) (e :: es) t)
    (hg : Gl X x := by rfl) (hdb : (x == ("__debug__" : Str)) = false := by decide)
    (he : starEach (e :: es) X.env = (false, eval e X.env) :: starEach es X.env := by rfl) (hpl : (backTo pos (starEach es X.env)).any (·.1) = false := by rfl) : PE (X.suite a ((a, oe) :: pn)) (.Call (.Name x p) (e :: es) [] pos) (uCall (sp a cls d) t) := by
  obtain ⟨f, fd, ps, hm, hk, hb, hlen, run⟩ := c.ex
  refine ⟨fun pins s σ H Q I h => ?_⟩
  refine wpAny_Call_Name_kw (ld_glob (x := x) I hg hm ?_ hdb)
  refine PySem.W.callWith_K (h₀ := X.base) I.ok.mod.kin hk (thn (ha.run pos pins s σ H _ I h) fun us s1 ⟨vs, H1, I1, r, q⟩ => ⟨I1.kIn, ?_⟩) he hpl
  have hl : us.length = ps.length := by rw [← r.length]; exact hlen _ _ _ _ _ _ _ q
  have b := hb s1 us I1.kIn (by rw [List.append_nil]; exact hl)
  rw [List.append_nil] at b
  have P1 := I1.pin (a, oe) (List.mem_append_left _ List.mem_cons_self)
  have pk : L2H.PinOk (X.suite a ((a, oe) :: pn)).stack H1 s1 (a, oe) := ⟨P1.1, P1.2.1, fun z => (List.mem_cons.mp (I1.stkSub a z)).elim P1.2.2.1 P1.2.2.2.1, P1.2.2.2.2⟩
  refine wpAny_call (codeAny_mono (run (X.suite a ((a, oe) :: pn)).A (X.suite a ((a, oe) :: pn)).stack s1 H1 ⟨us, []⟩ us vs Q a oe cls d ⟨hr.dp, hr.un⟩ rfl hz hf pk I1.env0 b r q) fun r s' hq => ?_)
  cases r with
  | error e =>
    obtain ⟨_, _, _, _, _, _, _, _, _, _, _, _, z⟩ := hq
    exact z.elim
  | ok fl =>
    cases fl with
    | ret u => exact I1.after hq
    | next => exact hq.elim
    | brk => exact hq.elim
    | cont => exact hq.elim
theorem kcHh {a : Addr} {oe : Obj} {cls : Value} {d : Option Addr} {pn : List (Addr × Obj)} {sp : Sp} (hz : L2N.Zn cls d oe) (hf : ∃ vs, oe.data = .fields vs) (c : CalH X.prog X.w X.K X.mg X.base k x sp) (hr : L2H.RoomH k X.A) (ha : PA (X.suite a ((a, oe) :: pn)) (e :: es) t)
    (hg : Gl X x := by rfl) (hdb : (x == ("__debug__" : Str)) = false := by decide)
    (he : starEach (e :: es) X.env = (false, eval e X.env) :: starEach es X.env := by rfl) (hpl : (backTo pos (starEach es X.env)).any (·.1) = false := by rfl) : PE (X.suite a ((a, oe) :: pn)) (.Call (.Name x p) (e :: es) [] pos) (uCall sp t) := by
  obtain ⟨f, fd, ps, hm, hk, hb, F⟩ := c.ex
  obtain ⟨vs, hv⟩ := hf
  exact L2H.pe_callH (X := X.suite a ((a, oe) :: pn)) (E := fun _ => E0) F ⟨hr.dp, hr.un⟩ ⟨(a, oe), ⟨rfl, vs, hv, hz.2.2 vs hv⟩, List.mem_cons_self ..⟩ hg hm hk hb (fun _ => passAt0) ha hdb he hpl
end
end KW

set_option Elab.async false
set_option linter.all false
set_option maxRecDepth 100000
set_option maxHeartbeats 4000000
/-! Kw7: a try with several clauses, each with a name or without -/
namespace KW
open PySem PySem.Spec PyProof.Rows L2
/-- a clause: the name's slot (if there is one), the class, the suite -/
structure Cl where
  i : Option Nat
  c : Value
  ts : Addr → Value → Option Addr → TS
def wCl (K : Frag) (Wout : WX) (D : Ends) : List Cl → WX
  | [] => Wout
  | k :: r => fun cls d σ H => ∃ b, PySem.W.exmOne K cls k.c = some b ∧
      (b = true → ∀ a, H a = none → match k.i with
        | none => k.ts a cls d D σ H
        | some i => k.ts a cls d { nx := fun σ' H' => D.nx (σ'.set i none) H', rt := D.rt, bk := fun σ' H' => D.bk (σ'.set i none) H', ct := fun σ' H' => D.ct (σ'.set i none) H' } (σ.set i (some (.ref a))) H) ∧
      (b = false → wCl K Wout D r cls d σ H)
def suBk (k : Nat) : Stmt → List Stmt | .Try _ hs _ _ _ => (match hs[k]? with | some (.ExceptHandler _ _ b _) => b | _ => []) | _ => []
def SuOk (X : Cx) (b : List Stmt) (ts : Addr → Value → Option Addr → TS) : Prop := ∀ (a : Addr) (oe : Obj) (cls : Value) (d : Option Addr) (pn : List (Addr × Obj)), L2N.Zn cls d oe → (∃ vs, oe.data = .fields vs) → PSs (X.suite a ((a, oe) :: pn)) b (ts a cls d)
inductive Cls7 (X : Cx) : List ExceptHandler → List Cl → Prop
  | nil : Cls7 X [] []
  | bare {x : Str} {c : Value} {ts : Addr → Value → Option Addr → TS} {b₀ : Stmt} {su : List Stmt} {np p : Pos} {hs : List ExceptHandler} {l : List Cl} (hc : Names X x c) (hsu : SuOk X (b₀ :: su) ts) (r : Cls7 X hs l) :
      Cls7 X (.ExceptHandler (some (.Name x np)) none (b₀ :: su) p :: hs) (⟨none, c, ts⟩ :: l)
  | named {x n : Str} {c : Value} {i : Nat} {ts : Addr → Value → Option Addr → TS} {b₀ : Stmt} {su : List Stmt} {np p : Pos} {hs : List ExceptHandler} {l : List Cl} (hN : X.N.Nodup) (hi : X.N[i]? = some n) (hn : X.env.kindOf n = some .local) (hc : Names X x c) (hsu : SuOk X (b₀ :: su) ts) (r : Cls7 X hs l) :
      Cls7 X (.ExceptHandler (some (.Name x np)) (some n) (b₀ :: su) p :: hs) (⟨some i, c, ts⟩ :: l)
section
variable {K : Frag} {W : WX} {D : Ends} {c : Value} {ts : Addr → Value → Option Addr → TS} {r : List Cl} {cls : Value} {d : Option Addr} {σ : L2.St} {H : Hp} {i : Nat}
theorem cl_no {k : Cl} (h : PySem.W.exmOne K cls k.c = some false) (q : wCl K W D r cls d σ H) : wCl K W D (k :: r) cls d σ H := ⟨false, h, fun z => absurd z Bool.false_ne_true, fun _ => q⟩
theorem cl_yes (h : PySem.W.exmOne K cls c = some true) (q : ∀ a, H a = none → ts a cls d D σ H) : wCl K W D (⟨none, c, ts⟩ :: r) cls d σ H := ⟨true, h, fun _ => q, fun z => absurd z.symm Bool.false_ne_true⟩
theorem cl_yesN (h : PySem.W.exmOne K cls c = some true) (q : ∀ a, H a = none → ts a cls d { nx := fun σ' H' => D.nx (σ'.set i none) H', rt := D.rt, bk := fun σ' H' => D.bk (σ'.set i none) H', ct := fun σ' H' => D.ct (σ'.set i none) H' } (σ.set i (some (.ref a))) H) : wCl K W D (⟨some i, c, ts⟩ :: r) cls d σ H := ⟨true, h, fun _ => q, fun z => absurd z.symm Bool.false_ne_true⟩
end
section
variable {X : Cx} {body : List Stmt} {h₀ : ExceptHandler} {hs : List ExceptHandler} {l : List Cl} {pos : Pos} {tb : WX → TS} {Wo : WX}
theorem ps_try7 (st : X.stack = X.env :: X.outer) (fr : X.env.frame = some X.env.locals) (tk : L2N.Takes X Wo)
    (hb : ∀ (W : WX) (pn : List (Addr × Obj)) (xe : Value → Shared → Prop), L2N.Takes (X.tr pn xe) W → PassesOwn (model X.prog X.w) X.A X.env xe → PSs (X.tr pn xe) body (tb W))
    (hh : Cls7 X (h₀ :: hs) l) : PS X (.Try body (h₀ :: hs) [] [] pos) (fun D σ H => tb (wCl X.K Wo D l) D σ H) := by
  refine ⟨fun pins s σ H D I q => ?_⟩
  have okX := I.ok
  have frs3 : X.A.frames = some (X.env :: X.outer) := by rw [okX.frames, st]
  refine wpAny_Try_except (wpAny_mono ((hb (wCl X.K Wo D l) (X.pn ++ pins) (fun e s₁ => wpAny (model X.prog X.w) X.A (noteFrame e X.env) (fun _ s₂ => wpAny (model X.prog X.w) X.A (setFlight e none)
    (fun _ s₃ => wpAny (model X.prog X.w) X.A (handleBy e X.env (h₀ :: hs)) (SP X pins D) X.xe s₃) X.xe s₂) X.xe s₁) (fun u t xx => ?_) PassesOwn.looking).run [] s σ H D (I.toTry _) q) (fun f t sp => ?_) (fun _ _ z => z))
  rotate_left
  · match f, sp with
    | .next, ⟨τ, G, J, z⟩ => exact wpAny_execs_nil ⟨τ, G, J.ofTry okX, z⟩
    | .brk, ⟨τ, G, J, z⟩ => exact ⟨τ, G, J.ofTry okX, z⟩
    | .cont, ⟨τ, G, J, z⟩ => exact ⟨τ, G, J.ofTry okX, z⟩
    | .ret u, ⟨v, τ, G, J, r, z⟩ => exact ⟨v, τ, G, J.ofTry okX, r, z⟩
  obtain ⟨a, B, sI, pn1, τ, G, cls, d, rfl, J0, nb, up, sky, na, os, ag, w⟩ := xx
  have J1 : Inv X pins τ G sI := J0.ofTry okX
  rw [st] at sky
  show wpAny (model X.prog X.w) X.A (noteFrame (.ref a) X.env) _ _ _
  refine L2N.Sky.land L2N.Zn.steady frs3 fr sky fun h3 fl up3 => ?_
  have J3 : Inv X pins τ G { t with heap := h3 } := J1.landed nb fl.1 (up.trans up3) os ag
  obtain ⟨oe, vs, he, hz, hd⟩ := fl.there
  have off : a ∉ frs (X.env :: X.outer) := fun m => by
    obtain ⟨_, o1, e1, nf⟩ := fl.2.2.1.mem m
    rw [he] at e1
    cases e1
    exact nf _ hd
  have offL : a ≠ X.env.locals := fun z => off (List.mem_filterMap.mpr ⟨X.env, List.mem_cons_self, by rw [fr, z]⟩)
  have offS : a ∉ X.fs := fun m => by
    obtain ⟨e, m1, m2⟩ := List.mem_filterMap.mp m
    exact off (List.mem_filterMap.mpr ⟨e, List.mem_cons_of_mem _ m1, m2⟩)
  have Su := J3.suite he hd na offL offS
  have all : ∀ {k : List ExceptHandler} {m : List Cl}, Cls7 X k m → wCl X.K Wo D m cls d τ G → wpAny (model X.prog X.w) X.A (handleBy (.ref a) X.env k) (SP X pins D) X.xe { t with heap := h3 } := by
    intro k m hk
    have tst : ∀ {x : Str} {np : Pos} {c : Value} {b : Bool} {P1 : Value → Shared → Prop} {E1 : Value → Shared → Prop}, Names X x c → P1 c { t with heap := h3 } → wpAny (model X.prog X.w) (X.A.mark (some (.ref a))) (eval (.Name x np) X.env) P1 E1 { t with heap := h3 } := fun {x np c b P1 E1} hc z => by
      obtain ⟨g1, g2, g3⟩ := hc
      rcases g3 with g3 | ⟨g3, g4, g5⟩
      · exact ld_glob (X := X.suite a ((a, oe) :: (X.pn ++ pins))) Su g1 g3 z g2
      · exact ld_blt (X := X.suite a ((a, oe) :: (X.pn ++ pins))) Su g1 g3 g4 z g5 g2
    have LT : PySem.W.Looks (model X.prog X.w) h3 (typeOf (.ref a)) cls := fun _ _ _ _ kk z => wpAny_typeOf_ref (kk _ _ he) (by rw [hz.1]; exact z)
    induction hk with
    | nil =>
      intro w
      refine wpAny_handleBy_nil ?_
      obtain ⟨_, _, _, o2, v2, T2, oT, t2, e2, z2, d2, g2, r2⟩ := id fl
      unfold PySem.passOn
      refine wpAny_bind (wpAny_field e2 d2 g2 ?_)
      rw [if_neg (by simp)]
      have out : wpAny (model X.prog X.w) X.A (setFlight (.ref a) X.env.frame) (fun _ s4 => wpAny (model X.prog X.w) X.A (throw (.ref a) : Sem Flow) (SP X pins D) X.xe s4) X.xe { t with heap := h3 } := by
        rw [fr]
        refine HandSPX.setFlight_upZ fl fun h4 hh4 up4 => wpAny_throw (tk _ _ ?_)
        exact ⟨a, B, sI, pins, τ, G, cls, d, rfl, J1, nb, (up.trans up3).trans up4, .inr (.inr (by rw [st]; exact hh4)), na, os, ag, w⟩
      first
        | exact wpAny_bind (wpAny_pure (wpAny_bind out))
        | exact wpAny_bind out
    | @bare x c ts b₀ su np p hs2 l2 hc hsu r ih =>
      intro w
      obtain ⟨b, hb1, yes, no⟩ := w
      refine wpAny_handleBy_cons (codeAny_handlers_test ?_) (by intro q; cases q)
      refine tst (b := b) hc ((PySem.W.exm_one (M := model X.prog X.w) J3.kIn LT hb1).here ?_)
      match b with
      | false => exact ih (no rfl)
      | true =>
        refine codeAny_handlers_suite (HandSPX.lands_againZ fl fun h4 fl4 up4 => ?_)
        have J4 : Inv X pins τ G { t with heap := h4 } := J1.landed nb fl4.1 ((up.trans up3).trans up4) os ag
        obtain ⟨o4, v4, e4, z4, d4⟩ := fl4.there
        refine wpAny_mono ((hsu a o4 cls d (X.pn ++ pins) z4 ⟨_, d4⟩).run [] _ _ G _ (J4.suite e4 d4 na offL offS) (yes rfl a na)) (fun f s6 z => ?_) (fun _ _ z => z.elim)
        match f, z with
        | .next, ⟨_, _, S6, z⟩ => exact ⟨_, _, S6.unsuite okX, z⟩
        | .brk, ⟨_, _, S6, z⟩ => exact ⟨_, _, S6.unsuite okX, z⟩
        | .cont, ⟨_, _, S6, z⟩ => exact ⟨_, _, S6.unsuite okX, z⟩
        | .ret u, ⟨_, _, _, S6, r6, z⟩ => exact ⟨_, _, _, S6.unsuite okX, r6, z⟩
    | @named x n c i ts b₀ su np p hs2 l2 hN hi hn hc hsu r ih =>
      intro w
      obtain ⟨b, hb1, yes, no⟩ := w
      refine wpAny_handleBy_cons (codeAny_handlers_test ?_) (by intro q; cases q)
      refine tst (b := b) hc ((PySem.W.exm_one (M := model X.prog X.w) J3.kIn LT hb1).here ?_)
      match b with
      | false => exact ih (no rfl)
      | true =>
        refine codeAny_handlers_suite_as (HandSPX.lands_againZ fl fun h4 fl4 up4 => ?_)
        have J4 : Inv X pins τ G { t with heap := h4 } := J1.landed nb fl4.1 ((up.trans up3).trans up4) os ag
        obtain ⟨o4, v4, e4, z4, d4⟩ := fl4.there
        refine store_ok (X := X.suite a ((a, o4) :: (X.pn ++ pins))) (v := .ref a) (J4.suite e4 d4 na offL offS) hN hi (.inl hn) rfl (fun s5 S5 => ?_) (.inr hn)
        refine wpAny_mono ((hsu a o4 cls d (X.pn ++ pins) z4 ⟨_, d4⟩).run [] s5 _ G _ S5 (yes rfl a na)) (fun f s6 z => ?_) (fun _ _ z => z.elim)
        have fin : ∀ {σ6 : L2.St} {H6 : Hp} {Q : Shared → Prop}, Inv (X.suite a ((a, o4) :: (X.pn ++ pins))) [] σ6 H6 s6 → (∀ s7, Inv X pins (σ6.set i none) H6 s7 → Q s7) → wpAny (model X.prog X.w) X.A (do bindName X.env n .none; unbindBehindTheSuite X.env n p) (fun _ s7 => Q s7) X.xe s6 := fun S6 z => gone_ok (S6.unsuite okX) hN hi hn z
        match f, z with
        | .next, ⟨_, _, S6, z⟩ => exact fin S6 fun _ J7 => ⟨_, _, J7, z⟩
        | .brk, ⟨_, _, S6, z⟩ => exact fin S6 fun _ J7 => ⟨_, _, J7, z⟩
        | .cont, ⟨_, _, S6, z⟩ => exact fin S6 fun _ J7 => ⟨_, _, J7, z⟩
        | .ret u, ⟨_, _, _, S6, r6, z⟩ => exact fin S6 fun _ J7 => ⟨_, _, _, J7, r6, z⟩
  exact all hh w
end
end KW

set_option Elab.async false
set_option linter.all false
set_option maxRecDepth 100000
set_option maxHeartbeats 4000000
/-! Kw8: for over a locked dict's keys, d[y] of a locked dict, a def under a second name, data compared -/
namespace KW
open PySem PySem.Spec PyProof.Rows L2
section
variable {X : Cx} {o i e value : Expr} {pos pos' tpos : Pos} {td ty tv : TE}
def uDGetF : V → V → Hp → VK → Prop
  | .ref a, .int i, H, Q => ∃ ob kvs v, H a = some (.frz ob (.dK kvs)) ∧ valV kvs (.inl i) = some v ∧ Q v H
  | _, _, _, _ => False
theorem uDGetF_of {x y : V} {H2 : Hp} {Q : VK} (q : uDGetF x y H2 Q) : ∃ a v, x = .ref a ∧ DGet H2 a y (some v) ∧ Q v H2 := by
  unfold uDGetF at q
  split at q
  · obtain ⟨ob, kvs, v, h1, h2, q⟩ := q
    exact ⟨_, v, rfl, .inl ⟨kvs, .inl _, .inr ⟨ob, h1⟩, rfl, h2.symm⟩, q⟩
  · exact q.elim
def tDGF (td ty : TE) : TE := fun σ H Q => td σ H fun x H1 => ty σ H1 fun y H2 => uDGetF x y H2 Q
theorem tDGF_eq {σ : L2.St} {H : Hp} {Q : VK} : tDGF td ty σ H Q = td σ H fun x H1 => ty σ H1 fun y H2 => uDGetF x y H2 Q := rfl
theorem k_dgetF (hu : X.A.units + 1 < cLine) (ho : PE X o td) (hi : PE X i ty) (hs : NoSl i := by intro _ _; rfl) : PE X (.Subscript o i pos) (tDGF td ty) := by
  refine ⟨fun pins s σ H Q I h => ?_⟩
  refine subD_of PySem.F.slot_dict_getitem.lookup hs (thn (ho.run pins s σ H _ I h) fun u s1 ⟨x, H1, I1, rx, q1⟩ => thn (hi.run pins s1 σ H1 _ I1 q1) fun iv s2 ⟨y, H2, I2, ry, q2⟩ => ?_)
  obtain ⟨a, v, ex, g, q5⟩ := uDGetF_of q2
  subst ex
  obtain rfl : u = Value.ref a := rx
  exact ⟨dict_typeIs I2 g, d_getItem hu I2 g ry fun w' s3 I3 rw' => ⟨v, H2, I3, rw', q5⟩⟩
end
theorem uDGetF_e1 {a : Addr} {i : Int} {H : Hp} {Q : VK} : uDGetF (.ref a) (.int i) H Q = (∃ ob kvs v, H a = some (.frz ob (.dK kvs)) ∧ valV kvs (.inl i) = some v ∧ Q v H) := rfl
theorem dgetF_i {a : Addr} {ob : Obj} {kvs : List (Key × V)} {v : V} {i : Int} {H : Hp} {Q : VK} (h : H a = some (.frz ob (.dK kvs))) (hv : valV kvs (.inl i) = some v) (q : Q v H) : uDGetF (.ref a) (.int i) H Q := ⟨ob, kvs, v, h, hv, q⟩
/-- for over the keys of a locked dict -/
theorem for_pk {d : Addr} {o : Obj} {kvs : List (Key × V)} {ks : List Int} {g : TG} {tb : TS} {D : Ends} {σ : L2.St} {H : Hp} (hk : kvs.map (·.1) = ks.map Sum.inl) (Pv : Nat → L2.St → Hp → Prop) (h0 : Pv 0 σ H)
    (hl : ∀ i σ H, i ≤ ks.length → Pv i σ H → H d = some (.frz o (.dK kvs)))
    (hs : ∀ i x σ H, ks[i]? = some x → Pv i σ H → g (.int x) σ H fun σ2 H2 => tb { D with nx := Pv (i + 1), ct := Pv (i + 1), bk := D.nx } σ2 H2) (hd : ∀ σ H, Pv ks.length σ H → D.nx σ H) : forK (Itk d o kvs) g tb D σ H := by
  have hle : kvs.length = ks.length := by
    have := congrArg List.length hk
    rwa [List.length_map, List.length_map] at this
  refine ⟨fun i m σ H => m = ks.length - i ∧ i ≤ ks.length ∧ Pv i σ H, ⟨ks.length, by simp, Nat.zero_le _, h0⟩, ?_⟩
  rintro i m σ H ⟨rfl, hi, p⟩
  have q := hl i σ H hi p
  by_cases hlt : i < ks.length
  · refine .inr ⟨⟨q, by omega⟩, Pv (i + 1), fun σ' H' p' => ⟨ks.length - (i + 1), by omega, rfl, hlt, p'⟩, fun x H' y => ?_⟩
    obtain ⟨e, k, v, hkv, rfl⟩ := y
    subst e
    have e3 : (kvs.map (·.1))[i]? = some k := by rw [List.getElem?_map, hkv]; rfl
    rw [hk, List.getElem?_map] at e3
    obtain ⟨x, hx⟩ : ∃ x, ks[i]? = some x := ⟨_, List.getElem?_eq_getElem hlt⟩
    rw [hx] at e3
    have e5 : Sum.inl x = k := Option.some.inj e3
    subst e5
    exact hs i x _ _ hx p
  · have e : i = ks.length := by omega
    subst e
    exact .inl ⟨⟨q, by omega⟩, hd σ H p⟩
theorem Fr.unl {l : List Addr} {H H' : Hp} {d : Addr} {u : HO} (h : H d = some u) (f : KW.Fr (d :: l) H H') : KW.Fr l H (L2.upd H' d u) := fun b o n e => by
  by_cases c : b = d
  · subst c; rw [upd_same, ← h]; exact e
  · rw [upd_ne c]
    exact f b o (by simp [c, n]) e
theorem Fr.lock {l : List Addr} {H H' : Hp} {d : Addr} {u v : HO} (h : H d = some u) (f : KW.Fr l (L2.upd H d v) H') : KW.Fr (d :: l) H H' := fun b o n e => by
  have c : b ≠ d := fun z => n (by simp [z])
  exact f b o (fun z => n (by simp [z])) (by rw [upd_ne c]; exact e)
theorem Fr.atN {H H' : Hp} {l : Addr} {o : HO} (f : KW.Fr [] H H') (h : H l = Option.none) : KW.Fr [] H (L2.upd H' l o) := fun b u n e => by
  rw [upd_ne (ne_of_none e h)]; exact f b u n e
theorem ixI {n j : Nat} {i : Int} (h : i = j) (hj : j < n) : ixN n i = some j := by
  subst h; unfold ixN; rw [if_pos (by omega), if_pos (by omega)]; rfl
theorem set_i {H : Hp} {p : Addr} {xs : List Int} {k z : Int} {j : Nat} {Q : Hp → Prop} (h : H p = some (.lst (xs.map V.int))) (e : k = j) (hj : j < xs.length) (q : Q (upd H p (.lst ((xs.set j z).map V.int)))) : uSet (.ref p) (.int k) (.int z) H Q :=
  set_l h (ixI e (by rw [List.length_map]; exact hj)) (by rw [← List.map_set]; exact q)
/-- a def under a second name -/
structure DefAtA (K : Frag) (mg : Str → Option Value) (al x qual : Str) (st : Stmt) (ps : List Str) : Prop where
  ex : ∃ (f : Addr) (fd : FuncData), mg al = some (.ref f) ∧ Fun K x qual st f fd ∧ Binds K fd ps []
section
variable {P : Program} {w : World} {K : Frag} {mg : Str → Option Value} {base : Heap}
theorem DefAtA.ok {al x qual : Str} {st : Stmt} {N ps : List Str} {k : Nat} {sp : Sp} (D : DefAtA K mg al x qual st ps) (S : FnScope N ps (defScope st)) (len : ∀ vs H Q E, sp vs H Q E → vs.length = ps.length)
    (hbody : ∀ (f : Addr) (cdv : Value) (A : Around) (outer : List Env) (s : Shared) (H : Hp) (vs : List V) (Q : VK) (E : XK), Room k (A.deeper (envOfC qual (defScope st) s.heap.objs.size f cdv)) → sp vs H Q E →
      ∃ t, PSs (cxOf (L2N.CX P w) P w K mg base N qual (defScope st) f cdv A outer s H E) (defBody st) t ∧ t { nx := fun _ H' => Q .non H', rt := Q } (start N vs) H) : Cal P w K mg base (k + 1) al sp := by
  obtain ⟨f, fd, hm, F, hb⟩ := D.ex
  refine ⟨f, fd, ps, hm, F.kp, hb, ?_⟩
  obtain ⟨oc, od, kV, doc, pm, an, cdv, ct, osl, rfl, lk, hcd⟩ := F.ex
  exact fn_of lk hcd S len fun A outer s H vs Q E hr hsp => hbody f cdv A outer s H vs Q E hr hsp
theorem defAtA_mk {al x qual : Str} {st : Stmt} {ps : List Str} {h : Heap} {f : Addr} {oc : Value} {od an : Option Addr} {osl : Array (Option Value)} {kV doc pm cdv ct : Value}
    (X : K.In h) (G : h.Ns mainGlobals mg) (a : PySem.W.nsIn K mainGlobals al = some (some (.ref f)))
    (l : K.lookup f = some ⟨oc, od, .func (PySem.W.fnOf x qual (defArgs st) (defBody st) (defScope st) .none kV doc pm an cdv ct), osl⟩) (c : PySem.W.codeIn K cdv qual = true) (k : PySem.W.keepIn K (.ref f) = true)
    (hb : ∀ (kV doc pm : Value) (an : Option Addr) (cdv ct : Value) (us : List Value), us.length = ps.length → bindArgs (PySem.W.fnOf x qual (defArgs st) (defBody st) (defScope st) .none kV doc pm an cdv ct) ⟨us, []⟩ = pure (ps.zip us)) : DefAtA K mg al x qual st ps := by
  have F := fun_mk (st := st) l c k
  exact ⟨f, _, PySem.W.mg_of X G a, F, F.binds hb⟩
end
/-! data compared -/
def vD : V → Option PyData
  | .int i => some (.int i)
  | .str x => some (.str x)
  | .bl b => some (.bool b)
  | .non => some .none
  | _ => none
theorem dp_flat {K : Frag} {H : Hp} {v : V} {d : PyData} (h : vD v = some d) : Dp K H v d := by
  cases v <;> simp only [vD, Option.some.injEq, reduceCtorEq] at h <;> subst h <;> constructor
theorem dpAll_flat {K : Frag} {H : Hp} : ∀ {vs : List V} {ds : List PyData}, vs.map vD = ds.map some → DpAll K H vs ds
  | [], [], _ => .nil
  | [], _ :: _, h => by cases h
  | _ :: _, [], h => by cases h
  | v :: vs, d :: ds, h => by
    simp only [List.map_cons, List.cons.injEq] at h
    exact .cons (dp_flat h.1) (dpAll_flat h.2)
theorem dpAll_ints {K : Frag} {H : Hp} (ns : List Int) : DpAll K H (ns.map V.int) (ns.map PyData.int) := dpAll_flat (by rw [List.map_map, List.map_map]; rfl)
theorem lay_ints (ns : List Int) : PyData.canLayAll0 (ns.map PyData.int) = true := by
  induction ns with
  | nil => rfl
  | cons n ns ih => rw [List.map_cons, PyData.canLayAll0, ih]; rfl
theorem dep_ints (ns : List Int) : PyData.depthAll (ns.map PyData.int) = 0 := by
  induction ns with
  | nil => rfl
  | cons n ns ih => rw [List.map_cons, PyData.depthAll, ih]; rfl
theorem eqv_sh {d : PyData} (h : SeqAt.shaped d = true) : PyData.eqv d d = true := SeqAt.eqv_refl_plain d (PyData.plain_of_canLay0 d (SeqAt.canLay_of_shaped h))
theorem neD_s {K : Frag} {x y : V} {H : Hp} {Q : VK} {d : PyData} (h1 : Dp K H x d) (h2 : Dp K H y d) (hs : SeqAt.shaped d = true) (q : Q (.bl false) H) : rNeD K x y H Q := ⟨d, d, h1, h2, hs, hs, by rw [eqv_sh hs]; exact q⟩
theorem eqD_s {K : Frag} {x y : V} {H : Hp} {Q : VK} {d : PyData} (h1 : Dp K H x d) (h2 : Dp K H y d) (hs : SeqAt.shaped d = true) (q : Q (.bl true) H) : rEqD K x y H Q := ⟨d, d, h1, h2, hs, hs, by rw [eqv_sh hs]; exact q⟩
theorem sh2 {x : Str} {n : Int} (h : PyData.canLay0 (.str x) = true) : SeqAt.shaped (.tuple [.str x, .int n]) = true := by
  have e : SeqAt.shaped (.tuple [.str x, .int n]) = ((PyData.canLay0 (.str x) && (true && true)) && decide (max 0 (max 0 0) + 1 ≤ 64)) := rfl
  rw [e, h]; decide
theorem sh3 {x : Str} {n m : Int} (h : PyData.canLay0 (.str x) = true) : SeqAt.shaped (.tuple [.str x, .int n, .int m]) = true := by
  have e : SeqAt.shaped (.tuple [.str x, .int n, .int m]) = ((PyData.canLay0 (.str x) && (true && (true && true))) && decide (max 0 (max 0 (max 0 0)) + 1 ≤ 64)) := rfl
  rw [e, h]; decide
theorem eqT_s {K : Frag} {p q : Addr} {xs ys : List V} {ds es : List PyData} {H : Hp} {Q : VK} (h1 : H p = some (.tup xs)) (h2 : H q = some (.tup ys)) (e1 : xs.map vD = ds.map some) (e2 : ys.map vD = es.map some) (h : Q (.bl (PyData.eqvAll ds es)) H) (s1 : SeqAt.shaped (.tuple ds) = true) (s2 : SeqAt.shaped (.tuple es) = true) : rEqD K (.ref p) (.ref q) H Q :=
  ⟨.tuple ds, .tuple es, .tup (.of h1) (dpAll_flat e1), .tup (.of h2) (dpAll_flat e2), s1, s2, by rw [PyData.eqv]; exact h⟩
end KW

set_option Elab.async false
set_option linter.all false
set_option maxRecDepth 100000
set_option maxHeartbeats 4000000
/-! Kw10: e.replace(..) of written texts, where a written text stands ahead -/
namespace KW
open PySem PySem.Spec PyProof.Rows L2 CwR
section
variable {X : Cx} {o e f a b : Expr} {te tf ta tb : TE} {t u : TS} {y z : Str} {j k : Nat} {c0 c1 apos pos p p' : Pos}
/-- "text" op e, where e wants a token -/
theorem k_opC {op : Operator} {r : R2} (ho : OpR X (binaryOp op) r) (hb : PET X f tf) : PE X (.BinOp (.Constant (.str y) j c0) op f pos) (tOp r (tC (.str y)) tf) := by
  refine ⟨fun pins s σ H Q I h => ?_⟩
  refine wpAny_BinOp (Calls.Constant_str ?_)
  refine thn (hb pins _ σ H _ (Nat.succ_le_succ (Nat.zero_le _)) (I.tok _) h) fun v s2 ⟨x, H2, I2, r2, q2⟩ => ?_
  exact ho pins s2 σ H2 (.str y) x _ v Q I2 ⟨_, rfl⟩ r2 q2
/-- if e op "text": its first suite has a token -/
theorem k_ifC {op : CmpOp} {r : R2} {A B : List Stmt} (ho : OpR X (compareOp op) r) (ha : PE X a ta) (hm : behindInMarks op (.Constant (.str y) j c0) = false) (hA : PSsT X A t) (hB : PSs X B u) :
    PS X (.If (.Compare a [op] [.Constant (.str y) j c0] p) A B pos) (tIfS (tTest (tOp r ta (tC (.str y)))) t u) := by
  refine ⟨fun pins s σ H D I h => ?_⟩
  refine wpAny_If ?_
  have hT : wpAny (model X.prog X.w) X.A (isTrue (.Compare a [op] [.Constant (.str y) j c0] p) X.env (eval (.Compare a [op] [.Constant (.str y) j c0] p) X.env)) (fun d s1 => 1 ≤ s1.toks ∧ TP X pins σ (fun b H1 => if b = true then t D σ H1 else u D σ H1) d s1) X.xe s := by
    refine wpAny_isTrue_Compare1 (thn (ha.run pins s σ H _ I h) fun v s1 ⟨x, H1, I1, r1, q1⟩ => Calls.Constant_str ?_) hm
    refine wpAny_mono (PySem.wpAny_toks_of (n := 1) (Nat.succ_le_succ (Nat.zero_le _)) (ho pins _ σ H1 x (.str y) v _ _ (I1.tok _) r1 ⟨_, rfl⟩ q1)) (fun c s3 ⟨n1, z, H3, I3, r3, k, e, q3⟩ => ?_) fun _ _ z => z.2
    subst e
    cases r3
    exact wpAny_truthy_bool ⟨n1, H3, I3, q3⟩
  refine thn hT fun d s1 ⟨n1, H1, I1, q1⟩ => ?_
  cases d with
  | true => exact hA pins s1 σ H1 D n1 I1 q1
  | false => exact hB.run pins s1 σ H1 D I1 q1
theorem k_setT {i : Nat} {x : Str} {pos' : Pos} (hN : X.N.Nodup) (hi : X.N[i]? = some x) (hx : Loc X.env.scope x) (he : PET X e te) (hs : swapsWith e (some (.Name x pos')) pos.line X.env = pure false := by rfl) (hf : X.fn x = true ∨ X.env.scope.names.lookup x = some .local := by first | exact .inl rfl | exact .inr rfl | assumption) :
    PST X (.Assign [.Name x pos'] e pos) (tAsg te (gName i)) := by
  intro pins s σ H D h0 I h
  refine wpAny_Assign_Name (thn (he pins s σ H _ h0 I h) fun v s1 ⟨y, H1, I1, r1, q1⟩ => ?_) hs
  exact store_ok I1 hN hi hx r1 (fun s2 I2 => ⟨_, H1, I2, q1⟩) hf
end
end KW

set_option Elab.async false
set_option linter.all false
set_option maxRecDepth 100000
set_option maxHeartbeats 4000000
/-! Lx1: signs of a text, as lists of code points -/
namespace LX
open PySem PySem.Spec PyProof.Rows L2 KW
def LET : List Nat := [65, 66, 67, 68, 69, 70, 71, 72, 73, 74, 75, 76, 77, 78, 79, 80, 81, 82, 83, 84, 85, 86, 87, 88, 89, 90, 97, 98, 99, 100, 101, 102, 103, 104, 105, 106, 107, 108, 109, 110, 111, 112, 113, 114, 115, 116, 117, 118, 119, 120, 121, 122]
def DIG : List Nat := [48, 49, 50, 51, 52, 53, 54, 55, 56, 57]
def SGN : List Nat := [43, 45, 42, 47, 60, 62, 61, 126, 38, 44, 64]
def MRK : List Nat := [58, 94, 46, 124, 40, 41, 91, 93]
def LD : List Nat := LET ++ DIG
def sub (l : List Nat) (i j : Nat) : List Nat := (l.drop i).take (j - i)
def isIn : List Nat → List Nat → Bool
  | [x], cs => decide (x ∈ cs)
  | _, _ => false
def endOf (l : List Nat) (i : Nat) (cs : List Nat) : Nat := i + ((l.drop i).takeWhile (fun c => decide (c ∈ cs))).length
theorem drop_one {l : List Nat} {i : Nat} {c : Nat} (h : l[i]? = some c) : l.drop i = c :: l.drop (i + 1) := by
  obtain ⟨h1, h2⟩ := List.getElem?_eq_some_iff.mp h
  rw [← h2]; exact List.drop_eq_getElem_cons h1
theorem isIn_at (l cs : List Nat) (i : Nat) : isIn ((l.drop i).take 1) cs = match l[i]? with | some c => decide (c ∈ cs) | none => false := by
  cases e : l[i]? with
  | none => rw [List.drop_eq_nil_of_le (List.getElem?_eq_none_iff.mp e)]; rfl
  | some c => rw [drop_one e]; rfl
theorem endOf_in {l cs : List Nat} {i : Nat} (h : isIn ((l.drop i).take 1) cs = true) : i < l.length ∧ endOf l i cs = endOf l (i + 1) cs := by
  rw [isIn_at] at h
  cases e : l[i]? with
  | none => rw [e] at h; cases h
  | some c =>
    rw [e] at h
    refine ⟨(List.getElem?_eq_some_iff.mp e).1, ?_⟩
    unfold endOf
    have hc : c ∈ cs := of_decide_eq_true h
    rw [drop_one e, List.takeWhile_cons_of_pos (p := fun c => decide (c ∈ cs)) (decide_eq_true hc), List.length_cons]
    omega
theorem endOf_out {l cs : List Nat} {i : Nat} (h : isIn ((l.drop i).take 1) cs = false) : endOf l i cs = i := by
  rw [isIn_at] at h
  unfold endOf
  cases e : l[i]? with
  | none => rw [List.drop_eq_nil_of_le (List.getElem?_eq_none_iff.mp e)]; rfl
  | some c =>
    rw [e] at h
    rw [drop_one e, List.takeWhile_cons_of_neg (by simpa using h)]
    rfl
theorem endOf_ge (l cs : List Nat) (i : Nat) : i ≤ endOf l i cs := Nat.le_add_right _ _
theorem endOf_le {l cs : List Nat} {i : Nat} (h : i ≤ l.length) : endOf l i cs ≤ l.length := by
  unfold endOf
  have := (List.takeWhile_sublist (fun c => decide (c ∈ cs)) (l := l.drop i)).length_le
  rw [List.length_drop] at this
  omega
def isName (l : List Nat) : Bool := isIn (l.take 1) LET && decide (l.length ≤ 32) && decide (endOf l 0 LD = l.length)
theorem sub_len (l : List Nat) (i j : Nat) : (sub l i j).length = min (j - i) (l.length - i) := by unfold sub; rw [List.length_take, List.length_drop]
theorem sub_one (l : List Nat) (i : Nat) : sub l i (i + 1) = (l.drop i).take 1 := by unfold sub; rw [Nat.add_sub_cancel_left]
/-- what a name of one's own at a place is -/
def nameEnd (l : List Nat) (i : Nat) : Option Nat := if isName (sub l i (endOf l i LD)) = true then some (endOf l i LD) else none
def kwEnd (l : List Nat) (i : Nat) : Bool := decide (l[i]? = some 58) && !decide (l[i + 1]? = some 61)
theorem take1_len (l : List Nat) : (l.take 1).length ≤ 1 := by rw [List.length_take]; omega
theorem ch_eq (l : List Nat) (i c : Nat) : ((l.drop i).take 1 = [c]) ↔ l[i]? = some c := by
  cases e : l[i]? with
  | none => rw [List.drop_eq_nil_of_le (List.getElem?_eq_none_iff.mp e)]; simp
  | some d => rw [drop_one e]; simp
/-! promises -/
def spCharAt : Sp := fun vs H Q _ => ∃ (l : List Nat) (i : Nat), vs = [.str (S l), .int i] ∧ l.length ≤ 10000 ∧ Q (.str (S ((l.drop i).take 1))) H
def spIsIn : Sp := fun vs H Q _ => ∃ (c cs : List Nat), vs = [.str (S c), .str (S cs)] ∧ c.length ≤ 1 ∧ Q (.bl (isIn c cs)) H
def spEndOf : Sp := fun vs H Q _ => ∃ (l cs : List Nat) (i : Nat), vs = [.str (S l), .int i, .str (S cs)] ∧ l.length ≤ 10000 ∧ Q (.int (endOf l i cs)) H
def spIsName : Sp := fun vs H Q _ => ∃ (l : List Nat), vs = [.str (S l)] ∧ l.length ≤ 10000 ∧ Q (.bl (isName l)) H
def spNameEnd : Sp := fun vs H Q _ => ∃ (l : List Nat) (i : Nat), vs = [.str (S l), .int i] ∧ l.length ≤ 10000 ∧ Q (match nameEnd l i with | some j => .int j | none => .non) H
def spKwEnd : Sp := fun vs H Q _ => ∃ (l : List Nat) (i : Nat), vs = [.str (S l), .int i] ∧ l.length ≤ 10000 ∧ Q (.bl (kwEnd l i)) H
section
variable {H : Hp} {Q : VK} {E : XK} {l cs c : List Nat} {i : Nat}
theorem charAt_s {z : Int} (hl : l.length ≤ 10000) (q : Q (.str (S ((l.drop i).take 1))) H) (e : z = i := by rfl) : spCharAt [.str (S l), .int z] H Q E := by subst e; exact ⟨l, i, rfl, hl, q⟩
theorem isIn_s (h : c.length ≤ 1) (q : Q (.bl (isIn c cs)) H) : spIsIn [.str (S c), .str (S cs)] H Q E := ⟨c, cs, rfl, h, q⟩
theorem endOf_s {z : Int} (hl : l.length ≤ 10000) (q : Q (.int (endOf l i cs)) H) (e : z = i := by rfl) : spEndOf [.str (S l), .int z, .str (S cs)] H Q E := by subst e; exact ⟨l, cs, i, rfl, hl, q⟩
theorem isName_s (hl : l.length ≤ 10000) (q : Q (.bl (isName l)) H) : spIsName [.str (S l)] H Q E := ⟨l, rfl, hl, q⟩
theorem kwEnd_s {z : Int} (hl : l.length ≤ 10000) (q : Q (.bl (kwEnd l i)) H) (e : z = i := by rfl) : spKwEnd [.str (S l), .int z] H Q E := by subst e; exact ⟨l, i, rfl, hl, q⟩
theorem nameEnd_s {z : Int} (hl : l.length ≤ 10000) (q : Q (match nameEnd l i with | some j => .int j | none => .non) H) (e : z = i := by rfl) : spNameEnd [.str (S l), .int z] H Q E := by subst e; exact ⟨l, i, rfl, hl, q⟩
end
theorem cut_sub (l : List Nat) {i j : Nat} {x y : Int} (e : x = i) (f : y = j) : cutS (S l) (some x) (some y) = S (sub l i j) := by subst e; subst f; exact cutS_S l i j
end LX

set_option Elab.async false
set_option linter.all false
set_option maxRecDepth 100000
set_option maxHeartbeats 4000000
/-! Lx2: tokens, one by one -/
namespace LX
open PySem PySem.Spec PyProof.Rows L2 KW
inductive TK
  | name | keyword | number | symbol | sign | mark
deriving DecidableEq
def TK.s : TK → List Nat
  | .name => [110, 97, 109, 101]
  | .keyword => [107, 101, 121, 119, 111, 114, 100]
  | .number => [110, 117, 109, 98, 101, 114]
  | .symbol => [115, 121, 109, 98, 111, 108]
  | .sign => [115, 105, 103, 110]
  | .mark => [109, 97, 114, 107]
inductive TV
  | txt (t : List Nat)
  | num (n : Nat)
def TV.v : TV → V
  | .txt t => .str (S t)
  | .num n => .int n
def findFrom (l : List Nat) (c i : Nat) : Option Nat := ((l.drop i).findIdx? fun x => decide (x = c)).map fun k => i + k
theorem findFrom_none {l : List Nat} {c i : Nat} : findFrom l c i = none ↔ ∀ v, i ≤ v → l[v]? ≠ some c := by
  unfold findFrom
  rw [Option.map_eq_none_iff, List.findIdx?_eq_none_iff]
  constructor
  · intro h v hv e
    have : c ∈ l.drop i := List.mem_iff_getElem?.mpr ⟨v - i, by rw [List.getElem?_drop, show i + (v - i) = v by omega]; exact e⟩
    simpa using h c this
  · intro h x hx
    obtain ⟨k, hk⟩ := List.getElem?_of_mem hx
    rw [List.getElem?_drop] at hk
    simp only [decide_eq_false_iff_not]
    intro z; subst z
    exact h _ (by omega) hk
theorem findFrom_some {l : List Nat} {c i e : Nat} : findFrom l c i = some e ↔ i ≤ e ∧ l[e]? = some c ∧ ∀ v, i ≤ v → v < e → l[v]? ≠ some c := by
  unfold findFrom
  rw [Option.map_eq_some_iff]
  constructor
  · rintro ⟨k, hk, rfl⟩
    rw [List.findIdx?_eq_some_iff_getElem] at hk
    obtain ⟨h1, h2, h3⟩ := hk
    refine ⟨by omega, ?_, fun v h4 h5 e => ?_⟩
    · rw [← List.getElem?_drop, List.getElem?_eq_getElem h1]
      simpa using h2
    · have := h3 (v - i) (by omega)
      have e2 : (l.drop i)[v - i]? = some c := by rw [List.getElem?_drop, show i + (v - i) = v by omega]; exact e
      obtain ⟨h6, h7⟩ := List.getElem?_eq_some_iff.mp e2
      rw [h7] at this; simp at this
  · rintro ⟨h1, h2, h3⟩
    refine ⟨e - i, ?_, by omega⟩
    rw [List.findIdx?_eq_some_iff_getElem]
    have e2 : (l.drop i)[e - i]? = some c := by rw [List.getElem?_drop, show i + (e - i) = e by omega]; exact h2
    obtain ⟨h6, h7⟩ := List.getElem?_eq_some_iff.mp e2
    refine ⟨h6, by rw [h7]; simp, fun j hj => ?_⟩
    have := h3 (i + j) (by omega) (by omega)
    rw [← List.getElem?_drop] at this
    simp only [decide_eq_true_eq]
    intro z
    exact this (by rw [List.getElem?_eq_getElem (by omega), z])
theorem find3_S (l : List Nat) (c i : Nat) : Txt.find3 (S l) (S [c]) (i : Int) = match findFrom l c i with | some e => (e : Int) | none => -1 := by
  have hf : fromIndex (S l).length (i : Int) = i := by unfold fromIndex; rw [if_neg (by omega)]; omega
  have hl : (S l).length = l.length := S_len l
  have hg : ∀ v, v < l.length → ((S l).cps.getD v 0 = c ↔ l[v]? = some c) := fun v hv => by
    have e1 : (S l).cps.getD v 0 = l[v] := by
      show (l.toArray).getD v 0 = _
      simp [Array.getD, hv]
    rw [e1, List.getElem?_eq_getElem hv]; simp
  rcases StrLaws.find3_spec (S l) c (i : Int) with ⟨h1, h2⟩ | ⟨k, h1, h2, h3, h4, h5⟩
  · rw [hf, hl] at h2
    have : findFrom l c i = none := findFrom_none.mpr fun v hv e => by
      have lv := (List.getElem?_eq_some_iff.mp e).1
      exact h2 v hv lv ((hg v lv).mpr e)
    rw [this]; exact h1
  · rw [hf] at h2 h5
    rw [hl] at h3
    have : findFrom l c i = some k := findFrom_some.mpr ⟨h2, (hg k h3).mp h4, fun v hv hk e => h5 v hv hk ((hg v (by omega)).mpr e)⟩
    rw [this]; exact h1
def rdName (l : List Nat) (i : Nat) : Option (TK × List Nat × Nat) := match nameEnd l i with
  | none => none
  | some s => if kwEnd l s = true then some (.keyword, sub l i (s + 1), s + 1) else some (.name, sub l i s, s)
def rdNum (l : List Nat) (i : Nat) : Option (List Nat × Nat) :=
  if isIn ((l.drop (endOf l i DIG)).take 1) LET = true ∨ 9 < (sub l i (endOf l i DIG)).length ∨ ((sub l i (endOf l i DIG))[0]? = some 48 ∧ 1 < (sub l i (endOf l i DIG)).length) then none else some (sub l i (endOf l i DIG), endOf l i DIG)
def hashGo (l : List Nat) : Nat → List Nat → Nat → List Nat × Nat
  | 0, t, s => (t, s)
  | f + 1, t, s => if isIn ((l.drop s).take 1) LET = true then match nameEnd l s with
      | none => (t, s)
      | some e => if kwEnd l e = true then hashGo l f (t ++ sub l s (e + 1)) (e + 1) else (t, s)
    else (t, s)
def rdHash (l : List Nat) (i : Nat) : Option (List Nat × Nat) := if isIn ((l.drop (i + 1)).take 1) LET = true then match rdName l (i + 1) with
    | none => none
    | some (k, t, s) => if k = .keyword then some (hashGo l l.length t s) else some (t, s)
  else none
def quoGo (l : List Nat) : Nat → List Nat → Nat → Option (List Nat × Nat)
  | 0, _, _ => none
  | f + 1, t, s => match findFrom l 39 s with
    | none => none
    | some e => if l[e + 1]? = some 39 then quoGo l f (t ++ sub l s e ++ [39]) (e + 2) else some (t ++ sub l s e, e + 1)
def rdQuo (l : List Nat) (i : Nat) : Option (List Nat × Nat) := quoGo l (l.length + 1) [] (i + 1)
def rdSign (l : List Nat) (i : Nat) : List Nat × Nat := if isIn ((l.drop (i + 1)).take 1) SGN = true then (sub l i (i + 2), i + 2) else (sub l i (i + 1), i + 1)
/-- a token in the heap -/
def TkAt (H : Hp) (q : Addr) (i : Nat) (k : TK) (v : TV) : Prop := H q = some (.tup [.int i, .str (S k.s), v.v])
/-- a token and a place, told -/
def Told (Q : VK) (H : Hp) (i : Nat) (k : TK) (v : TV) (j : Nat) : Prop := ∀ p q H', KW.Fr [] H H' → H' p = some (.tup [.ref q, .int j]) → TkAt H' q i k v → Q (.ref p) H'
def Bad (MF : Addr) (E : XK) (H : Hp) (i : Nat) : Prop := ∀ d, H d = none → E (.ref MF) (some d) (upd H d (.xd [("at", .int i)]))
def spRdName (MF : Addr) : Sp := fun vs H Q E => ∃ (l : List Nat) (i st : Nat), vs = [.str (S l), .int i, .int st] ∧ l.length ≤ 10000 ∧ st ≤ 10000 ∧ (rdName l i = none → Bad MF E H st) ∧ ∀ k t j, rdName l i = some (k, t, j) → Told Q H i k (.txt t) j
def spRdNum (MF : Addr) : Sp := fun vs H Q E => ∃ (l : List Nat) (i : Nat), vs = [.str (S l), .int i] ∧ l.length ≤ 10000 ∧ i ≤ 10000 ∧ (∃ c, l[i]? = some c ∧ c ∈ DIG) ∧ (rdNum l i = none → Bad MF E H i) ∧ ∀ t j, rdNum l i = some (t, j) → Told Q H i .number (.num (PySem.NumText.digitsVal t)) j
def spRdHash (MF : Addr) : Sp := fun vs H Q E => ∃ (l : List Nat) (i : Nat), vs = [.str (S l), .int i] ∧ l.length ≤ 10000 ∧ i ≤ 10000 ∧ (rdHash l i = none → Bad MF E H i) ∧ ∀ t j, rdHash l i = some (t, j) → Told Q H i .symbol (.txt t) j
def spRdQuo (MF : Addr) : Sp := fun vs H Q E => ∃ (l : List Nat) (i : Nat), vs = [.str (S l), .int i] ∧ l.length ≤ 10000 ∧ i ≤ 10000 ∧ (rdQuo l i = none → Bad MF E H i) ∧ ∀ t j, rdQuo l i = some (t, j) → Told Q H i .symbol (.txt t) j
def spRdSign : Sp := fun vs H Q _ => ∃ (l : List Nat) (i : Nat), vs = [.str (S l), .int i] ∧ l.length ≤ 10000 ∧ Told Q H i .sign (.txt (rdSign l i).1) (rdSign l i).2
theorem tok_mk {Q : VK} {H : Hp} {i j : Nat} {k : TK} {v : TV} {x y : Int} {p q : Addr} (h : Told Q H i k v j) (hp : H p = none) (hq : upd H p (.tup [.int x, .str (S k.s), v.v]) q = none) (e : x = i) (f : y = j) : Q (.ref q) (upd (upd H p (.tup [.int x, .str (S k.s), v.v])) q (.tup [.ref p, .int y])) := by
  subst e; subst f
  have f1 : KW.Fr [] H (upd H p (.tup [.int i, .str (S k.s), v.v])) := Fr.new hp
  have f2 : KW.Fr [] (upd H p (.tup [.int i, .str (S k.s), v.v])) (upd (upd H p (.tup [.int i, .str (S k.s), v.v])) q (.tup [.ref p, .int j])) := Fr.new hq
  exact h q p _ (f1.trans f2) upd_same (f2 _ _ (by simp) upd_same)
theorem cut_sub1 (l : List Nat) (i s : Nat) : cutS (S l) (some (i : Int)) (some ((s : Int) + 1)) = S (sub l i (s + 1)) := cutS_S l i (s + 1)
theorem sub_run (l cs : List Nat) (i : Nat) : sub l i (endOf l i cs) = (l.drop i).takeWhile (fun c => decide (c ∈ cs)) := by
  unfold sub endOf
  rw [Nat.add_sub_cancel_left]
  generalize l.drop i = r
  induction r with
  | nil => rfl
  | cons c r ih =>
    by_cases h : c ∈ cs
    · rw [List.takeWhile_cons_of_pos (by simpa using h), List.length_cons, List.take_succ_cons, ih]
    · rw [List.takeWhile_cons_of_neg (by simpa using h)]; rfl
theorem sub_run_mem {l cs : List Nat} {i c : Nat} (h : c ∈ sub l i (endOf l i cs)) : c ∈ cs := by
  rw [sub_run] at h
  generalize l.drop i = r at h
  induction r with
  | nil => cases h
  | cons d r ih =>
    by_cases hd : d ∈ cs
    · rw [List.takeWhile_cons_of_pos (by simpa using hd)] at h
      rcases List.mem_cons.mp h with q | q
      · rw [q]; exact hd
      · exact ih q
    · rw [List.takeWhile_cons_of_neg (by simpa using hd)] at h
      cases h
theorem sub_run_head {l cs : List Nat} {i c : Nat} (h : l[i]? = some c) (hc : c ∈ cs) : (sub l i (endOf l i cs))[0]? = some c := by
  rw [sub_run, drop_one h, List.takeWhile_cons_of_pos (by simpa using hc)]; rfl
theorem nat4300 {i : Nat} (h : i ≤ 10000) : ((i : Nat) : Int).natAbs < 10 ^ 4300 := small4300 ⟨by omega, by omega⟩
end LX

set_option Elab.async false
set_option linter.all false
set_option maxRecDepth 100000
set_option maxHeartbeats 4000000
namespace PySem
namespace KErr_at
open PySem.W PySem.Calls PyProof.Rows PySem.HandSPX PySem.KErr
def eA (p1 p2 : Pos) : Arguments := { posonlyargs := [], args := [{ arg := "self", annotation := none, pos := p1 }, { arg := "at", annotation := none, pos := p2 }], vararg := none, kwonlyargs := [], kw_defaults := [], kwarg := none, defaults := [] }
def eB (q : Nat → Pos) : List Stmt := [
  .Expr (.Call (.Attribute (.Call (.Name "super" (q 0)) [] [] (q 1)) "__init__" (q 2)) [.Call (.Name "str" (q 3)) [.Name "at" (q 4)] [] (q 5)] [] (q 6)) (q 7),
  .Assign [.Attribute (.Name "self" (q 8)) "at" (q 9)] (.Name "at" (q 10)) (q 11)]
def eS : Scope := { kind := .function, names := [(PySem.Str.ofString "self", .local), (PySem.Str.ofString "at", .local), (PySem.Str.ofString "__class__", .free), (PySem.Str.ofString "super", .globalImplicit), (PySem.Str.ofString "str", .globalImplicit)], isGenerator := false, isCoroutine := false, more := [] }
def MC (q : Nat → Pos) : Prop := ∀ env : Env, ∃ pl : Sem Bool, eval (.Call (.Attribute (.Call (.Name "super" (q 0)) [] [] (q 1)) "__init__" (q 2)) [.Call (.Name "str" (q 3)) [.Name "at" (q 4)] [] (q 5)] [] (q 6)) env = (do
      let ov ← attributeBase (.Call (.Name "super" (q 0)) [] [] (q 1)) "__init__" env (eval (.Call (.Name "super" (q 0)) [] [] (q 1)) env)
      standAt (q 2).atName
      let (f, first) ← holding [ov] (getMethod ov "__init__" pl)
      callWith (q 6) f first (backTo (q 6) (starEach [.Call (.Name "str" (q 3)) [.Name "at" (q 4)] [] (q 5)] env)) [])
def AC (q : Nat → Pos) : Prop := ∀ env : Env, swapsWith (.Name "at" (q 10)) (some (.Attribute (.Name "self" (q 8)) "at" (q 9))) (q 11).line env = pure false
/-- what the top leaves of the class x with the one field -/
structure ErrTxt (prog : Program) (K : Frag) (mg : Str → Option Value) (x qual : Str) (C fI cc cda : Addr) : Prop where
  gC : mg x = some (.ref C)
  cls : ∃ nm q N bs bm sn sub ab col dd k0 k1 k2 k3 k5, K.lookup C = some (excClassObj nm q C N bs bm true sn sub ab col dd k0 k1 k2 k3 k5 "ValueError.__new__") ∧ refsVE bm = true
  sup : ks_superIn K C C "__init__" = some (some (.builtin "ValueError.__init__"))
  sa : findIn K (.ref C) "__setattr__" = some (some (.builtin "object.__setattr__"))
  noN : findIn K (.ref C) "at" = some none
  iC : findIn K (.ref C) "__init__" = some (some (.ref fI))
  tC : typeIn K (.ref fI) = some (.type "function")
  kC : keepIn K (.ref C) = true
  exC : subIn K (.ref C) (.type "BaseException") = some true
  veC : subIn K (.ref C) (.type "ValueError") = some true
  tyC : typeIn K (.ref C) = some (.type "type")
  own : mroIn K C (.ref C) = some true
  tp : nsIn K cStatics "thirdparty.any" = some none
  dg : nsIn K cStatics "sys.int_max_str_digits" = some none
  nsup : mg "super" = none
  nstr : mg "str" = none
  fn : ∃ (oc : Value) (od : Option Addr) (doc pm : Value) (an : Option Addr) (ct : Value) (osl : Array (Option Value)) (p1 p2 : Pos) (q : Nat → Pos),
    K.lookup fI = some ⟨oc, od, .func (ksFn "__init__" qual (eA p1 p2) (eB q) eS .none .none doc pm an (.ref cda) ct cc), osl⟩ ∧ codeIn K (.ref cda) qual = true ∧ MC q ∧ AC q
  cell : ∃ cl cld csl, K.lookup cc = some ⟨cl, cld, .cell (some (.ref C)), csl⟩
  code : ∃ ccl cdd vs ccs file tf, K.lookup cda = some ⟨ccl, cdd, .fields vs, ccs⟩ ∧ vs[2]? = some (.str file tf) ∧ ((prog.main.file : Str) == file) = true
  top : (prog.main.scope.names.lookup ("super" : Str)).isSome = false
section
variable {prog : Program} {w : World} {A : Around} {E : Value → Shared → Prop} {R : Result → Shared → Prop} {s : Shared} {K : Frag} {mg : Str → Option Value} {x qual : Str} {C fI cc cda : Addr}
theorem err_init (T : ErrTxt prog K mg x qual C fI cc cda) {e t0 : Addr} {v : Value} (X : K.In s.heap) (hlim : s.heap.NoLimit) (G : s.heap.Ns mainGlobals mg) (B : ∃ mb, s.heap.Ns builtinsNs mb ∧ ∀ x : Str, x ≠ "__name__" → mb x = bootBuiltins x)
    (hx : s.heap.get? e = some (excO C t0)) (hnx : K.lookup e = none) (hh : A.handled = none) (hroom : A.depth < recursionLimit) (hv : StrOk prog w v)
    (hq : ∀ h' tk dx t1, InitEnd s.heap h' e C dx t1 "at" v → R (.ok (.ret .none)) { s with heap := h', toks := tk }) :
    codeAny (model prog w) A (.call (.ref fI) ⟨[.ref e, v], []⟩) R s := by
  obtain ⟨oc, od, doc, pm, an, ct, osl, p1, p2, q, ho, hcd, hMC, hAC⟩ := T.fn
  obtain ⟨nm, qn, N, bs, bm, sn, sub, ab, col, dd, k0, k1, k2, k3, k5, hC, hbm⟩ := T.cls
  obtain ⟨cl, cld, csl, hcell⟩ := T.cell
  obtain ⟨ccl, cdd, vs, ccs, file, tf, hcode, hvs, hfile⟩ := T.code
  obtain ⟨mb, Bn, Bb⟩ := B
  have hcl : clsIn K C = some { name := nm, bases := bs, mro := .ref C :: bm, ns := N, qualname := qn, hasDict := true, slotNames := sn, subclasses := sub, abstract := ab, collection := col, hasDel := false } := by unfold clsIn; rw [hC] <;> rfl
  refine ks_codeAny_call_defAt (fd := ksFn "__init__" qual (eA p1 p2) (eB q) eS .none .none doc pm an (.ref cda) ct cc) (body := eB q) (binds := [("self", .ref e), ("at", v)]) hroom (X _ _ ho) rfl hlim (codeRec_of X hcd) rfl ?b ?c ?l (fun h₁ hns k₁ => ?_)
  case b => exact BindsTo.of_eq (by first | rfl | with_unfolding_all rfl)
  case c => show ∀ x ∈ eS.names, x.2 ≠ .cell; decide
  case l => exact locs rfl
  obtain ⟨sh, sg, sd, st, sos⟩ := s
  have X₁ : K.In h₁ := X.keeps k₁
  have hx₁ := k₁ _ _ hx
  have hC₁ := X₁ _ _ hC
  show _root_.PySem.wpAt (model prog w) _ (.func (eB q) (ksEnv qual eS sh.objs.size fI (.ref cda) cc)) (execs (eB q) (ksEnv qual eS sh.objs.size fI (.ref cda) cc)) _ _ _
  obtain ⟨pl, hpl⟩ := hMC (ksEnv qual eS sh.objs.size fI (.ref cda) cc)
  refine ks_wpAt_execs_cons (ks_wpAt_Expr_any (ks_wpAt_MethodCall ?_ hpl))
  refine ks_wpAt_super_base (env := ksEnv qual eS sh.objs.size fI (.ref cda) cc) (ar := { arg := "self", annotation := none, pos := p1 }) rfl rfl (by decide) rfl (X₁ _ _ ho) rfl rfl rfl (X₁ _ _ hcode) rfl hvs hfile T.top ?_
  refine ks_loadName_global rfl rfl (loadGlobal_builtin (env := ksEnv qual eS sh.objs.size fI (.ref cda) cc) (G.keeps k₁) T.nsup (Bn.keeps k₁) ((Bb _ (by decide +kernel)).trans (by first | boot_by_name | rfl | kernel_rfl)) ⟨rfl, ?_⟩)
  refine wpAny_loadName_free rfl rfl rfl ⟨_, X₁ _ _ hcell, rfl⟩ ?_
  refine wpAny_loadName_local rfl rfl hns (by first | rfl | with_unfolding_all rfl | kernel_rfl) ?_
  refine ks_wpAny_isType_cls hC₁ rfl ⟨rfl, ?_⟩
  refine ks_wpAny_call_super hC₁ rfl hx₁ rfl (fun c z => by cases z) (looks_mroIn X₁ T.own) (fun h₂ e2 k2 => ?_)
  have X₂ : K.In h₂ := X₁.keeps k2
  have hC₂ := k2 _ _ hC₁
  have hx₂ := k2 _ _ hx₁
  have I₂ : InstAt h₂ e (excO C t0) C none := ⟨hx₂, rfl, rfl, trivial⟩
  have hxC : e ≠ C := ks_ne X₂ I₂ hcl
  have hsup := T.sup
  unfold ks_superIn at hsup
  rw [hcl] at hsup
  refine kxs_getMethod kxs_ValueError e2 (looks_opaque X₂ T.tp) (l₀ := .ref C :: bm) (fun A Q E s k q => wpAny_bind ((looks_clsIn X₂ hcl) A _ E s k (wpAny_pure q))) rfl X₂ hsup (I₂.type.andThen (looks_subIn X₂ T.veC)) hxC rfl ?_
  refine kxs_callWith (i := "ValueError.__init__") (x := e) rfl ?_
  refine Calls.evalArgs_plain (Calls.spliced_cons ?_)
  have k3 : ∀ b o, h₂.get? b = some o → (h₂.push (kxs_mw "ValueError.__init__" e)).get? b = some o := fun b o z => Heap.get?_push_of_some _ z
  have X₃ := X₂.keeps k3
  have G₃ := ((G.keeps k₁).keeps k2).keeps k3
  have B₃ := ((Bn.keeps k₁).keeps k2).keeps k3
  have hns₃ := (hns.keeps k2).keeps k3
  have hu : (h₂.push (kxs_mw "ValueError.__init__" e)).get? h₂.objs.size = some (kxs_mw "ValueError.__init__" e) := by heap_get
  have hdg : (h₂.push (kxs_mw "ValueError.__init__" e)).NoDigits := let ⟨mc, a, _⟩ := ((hlim.keeps k₁).keeps k2).keeps k3; ⟨mc, a, ns_none_of X₃ a T.dg⟩
  generalize h₂.push (kxs_mw "ValueError.__init__" e) = h₃ at *
  refine wpAny_Call_NameR (wpAny_Name (ks_loadName_global rfl rfl (loadGlobal_builtin (env := ksEnv qual eS sh.objs.size fI (.ref cda) cc) G₃ T.nstr B₃ ((Bb _ (by decide +kernel)).trans (by first | boot_by_name | rfl | kernel_rfl)) ?_)) rfl)
  refine callWith_type1 ?_
  show wpAny _ _ (eval (.Name "at" (q 4)) _) _ _ _
  refine wpAny_Name (wpAny_loadName_local rfl rfl hns₃ (by first | rfl | with_unfolding_all rfl | kernel_rfl) ?_) (by decide)
  refine hv _ _ _ _ hh hdg (fun txt tk tk' => ?_)
  refine Calls.spliced_nil ⟨hu, ?_⟩
  refine init_call (hC := k3 _ _ hC₂) (he := k3 _ _ hx₂) (hu := hu) (one_size _) (fun h₄ t1 k4 hx₄ => ?_)
  have hLe : sh.objs.size ≠ e := Nat.ne_of_gt (Heap.lt_size hx)
  have hns₄ : h₄.Ns sh.objs.size (fun x => List.lookup x [((PySem.Str.ofString "self" : Str), Value.ref e), ((PySem.Str.ofString "at" : Str), v)].reverse) := by
    obtain ⟨oL, es, ep, hL, r⟩ := hns₃
    exact ⟨oL, es, ep, k4 _ _ hLe hL, r⟩
  have X₄ : K.In h₄ := kept_but X₃ hnx k4
  show wpAt _ _ _ (execs _ _) _ _ _
  refine ks_wpAt_execs_cons (ks_wpAt_Assign_Attr (wpAt_of_wpAny (wpAny_Name (wpAny_loadName_local rfl rfl hns₄ (by first | rfl | with_unfolding_all rfl | kernel_rfl) ?_) (by decide))) (hAC _))
  refine wpAny_Name (wpAny_loadName_local rfl rfl hns₄ (by first | rfl | with_unfolding_all rfl | kernel_rfl) ?_) (by decide)
  refine set_plain X₄ (ox := excO C t1) (od := none) ⟨hx₄, rfl, rfl, trivial⟩ T.sa ?_
  refine exc_osa X₄ hx₄ hcl (show refsVE (.ref C :: bm) = true from hbm) rfl T.noN (fun h₅ tk₅ dx k₅ dn dne hx₅ hn₅ => ?_)
  show wpAt _ _ _ (execs _ _) _ _ _
  have z : sh.objs.size < h₄.objs.size := hns₄.lt
  refine wpAt_of_wpAny (wpAny_execs_nil (hq h₅ tk₅ dx t1 ⟨fun b o hb e => k₅ b o hb (k4 b o hb (k3 _ _ (k2 _ _ (k₁ b o e)))), hx₅, Nat.le_of_lt (Nat.lt_of_lt_of_le z dn), dne, hn₅⟩))
theorem err_made (T : ErrTxt prog K mg x qual C fI cc cda) : Mkd prog w K mg C ["at"] (fun vs => ∃ v, vs = [v] ∧ okS v) := by
  intro A s R vs us rl hok X hlim G B hh hroom hq
  obtain ⟨v, rfl, ov⟩ := hok
  cases rl with
  | cons rv rn =>
  rename_i u us'
  cases rn
  obtain ⟨nm, q, N, bs, bm, sn, sub, ab, col, dd, k0, k1, k2, k3, k5, hC, hbm⟩ := T.cls
  obtain ⟨hp, g, dr, tk, os⟩ := s
  have k : ∀ b o, hp.get? b = some o → ((hp.push (kdv_tup [u])).push (excO C hp.objs.size)).get? b = some o := fun b o e => Heap.get?_push_of_some _ (Heap.get?_push_of_some _ e)
  have hget : ((hp.push (kdv_tup [u])).push (excO C hp.objs.size)).get? (hp.objs.size + 1) = some (excO C hp.objs.size) := by heap_get
  have hnx : K.lookup (hp.objs.size + 1) = none := by
    cases e : K.lookup (hp.objs.size + 1) with
    | none => rfl
    | some o =>
      have z : hp.get? (hp.objs.size + 1) = some o := X _ _ e
      exact absurd (Nat.lt_of_succ_lt (Heap.lt_size z)) (Nat.lt_irrefl _)
  refine call_own F.excBase_ValueError (fun X => refsVE_contains X bm hbm) (X _ _ hC) (looks_findIn X T.iC) (fun self => bind_fn X self T.tC) (one_size u) ?_
  obtain ⟨mb, B1, B2⟩ := B
  refine err_init (s := ⟨(hp.push (kdv_tup [u])).push (excO C hp.objs.size), g, dr, tk, os⟩) T (X.keeps k) (hlim.keeps k) (G.keeps k) ⟨mb, B1.keeps k, B2⟩ hget hnx ?_ ?_ (okS_ok rv ov) fun h' tk' dx t1 ⟨k', hx, dn, dne, hns⟩ => ?_
  · exact hh
  · show A.depth + 1 < recursionLimit
    exact hroom
  · have old : ∀ b o, hp.get? b = some o → h'.get? b = some o := fun b o e => k' b o (Nat.ne_of_lt (Nat.lt_succ_of_lt (Heap.lt_size e))) (k b o e)
    have z : hp.objs.size + 1 + 1 ≤ dx := by
      first
        | (simpa only [Heap.size_push] using dn)
        | exact dn
        | (have q := dn; rw [Heap.size_push, Heap.size_push] at q; exact q)
    refine ⟨rfl, hq h' tk' (hp.objs.size + 1) dx ⟨old, Nat.le_succ _, ⟨_, _, hx, rfl, rfl, rfl, rfl, rfl⟩, Nat.le_trans (Nat.le_trans (Nat.le_succ _) (Nat.le_succ _)) z, dne, ?_⟩⟩
    have ef : (fun y : Str => List.lookup y ([(PySem.Str.ofString "at" : Str)].zip [u])) = fun y => if y = PySem.Str.ofString "at" then some u else none := by
      funext y
      by_cases h : y = PySem.Str.ofString "at"
      · simp [List.lookup, h]
      · have h2 : (y == PySem.Str.ofString "at") = false := by simpa using h
        simp [List.lookup, h, h2]
    rw [ef]
    exact hns
def p1Of (st : Stmt) : Pos := match (L2.defArgs st).args with | [a, _] => a.pos | _ => ⟨0, 0, 0, 0⟩
def p2Of (st : Stmt) : Pos := match (L2.defArgs st).args with | [_, a] => a.pos | _ => ⟨0, 0, 0, 0⟩
def qOf (st : Stmt) : Nat → Pos := match L2.defBody st with
  | [.Expr (.Call (.Attribute (.Call (.Name _ q0) _ _ q1) _ q2) [.Call (.Name _ q3) [.Name _ q4] _ q5] _ q6) q7, .Assign [.Attribute (.Name _ q8) _ q9] (.Name _ q10) q11] =>
    fun n => [q0, q1, q2, q3, q4, q5, q6, q7, q8, q9, q10, q11].getD n ⟨0, 0, 0, 0⟩
  | _ => fun _ => ⟨0, 0, 0, 0⟩
theorem err_mk (st : Stmt) {h : Heap} {nm q : Str} {N : Addr} {bs bm : List Value} {sn : List Str} {sub : List Value} {ab : Bool} {col : Option Bool} {dd : Option Addr} {k0 k1 k2 k3 k5 : Option Value} {oc : Value} {od : Option Addr} {doc pm : Value} {an : Option Addr} {ct : Value} {osl : Array (Option Value)}
    {cl : Value} {cld : Option Addr} {csl : Array (Option Value)} {ccl : Value} {cdd : Option Addr} {vs : Array Value} {ccs : Array (Option Value)} {file : Str} {tf : Tok}
    (X : K.In h) (G : h.Ns mainGlobals mg) (aC : nsIn K mainGlobals x = some (some (.ref C))) (xL : K.lookup C = some (excClassObj nm q C N bs bm true sn sub ab col dd k0 k1 k2 k3 k5 "ValueError.__new__")) (bmv : refsVE bm = true)
    (sup : ks_superIn K C C "__init__" = some (some (.builtin "ValueError.__init__"))) (sa : findIn K (.ref C) "__setattr__" = some (some (.builtin "object.__setattr__"))) (no : findIn K (.ref C) "at" = some none)
    (a1 : findIn K (.ref C) "__init__" = some (some (.ref fI))) (t1 : typeIn K (.ref fI) = some (.type "function")) (kC : keepIn K (.ref C) = true) (eC : subIn K (.ref C) (.type "BaseException") = some true) (vC : subIn K (.ref C) (.type "ValueError") = some true)
    (tC : typeIn K (.ref C) = some (.type "type")) (own : mroIn K C (.ref C) = some true) (tp : nsIn K cStatics "thirdparty.any" = some none) (dg : nsIn K cStatics "sys.int_max_str_digits" = some none) (nsup : nsIn K mainGlobals "super" = some none) (nstr : nsIn K mainGlobals "str" = some none)
    (hst : L2.defArgs st = eA (p1Of st) (p2Of st) ∧ L2.defBody st = eB (qOf st) ∧ L2.defScope st = eS)
    (l1 : K.lookup fI = some ⟨oc, od, .func (ksFn "__init__" qual (L2.defArgs st) (L2.defBody st) (L2.defScope st) .none .none doc pm an (.ref cda) ct cc), osl⟩) (c1 : codeIn K (.ref cda) qual = true) (mc : MC (qOf st)) (ac : AC (qOf st))
    (ce : K.lookup cc = some ⟨cl, cld, .cell (some (.ref C)), csl⟩) (co : K.lookup cda = some ⟨ccl, cdd, .fields vs, ccs⟩) (cf : vs[2]? = some (.str file tf)) (cg : ((prog.main.file : Str) == file) = true) (top : (prog.main.scope.names.lookup ("super" : Str)).isSome = false)
    (hg : findIn K (.ref C) "__getattribute__" = some (some (.builtin "BaseException.__getattribute__"))) (hk : findIn K (.ref C) "__getattr__" = some none) (hd : hasDictIn K C = true) (ha : findIn K (.ref C) "__class__" = some (some (.builtin "object.__class__")))
    (hn : specialIn K (.builtin "object.__class__") "__get__" = some (some (.builtin "getset_descriptor.__get__"))) (ht : takesIn K (.builtin "object.__class__") = some true) (hm : mroIn K C (.type "object") = some true) :
    KW.ErrC prog w K mg x C ["at"] (fun vs => ∃ v, vs = [v] ∧ okS v) := by
  have T : ErrTxt prog K mg x qual C fI cc cda :=
    { gC := mg_of X G aC, cls := ⟨nm, q, N, bs, bm, sn, sub, ab, col, dd, k0, k1, k2, k3, k5, xL, bmv⟩, sup := sup, sa := sa, noN := no, iC := a1, tC := t1, kC := kC, exC := eC, veC := vC, tyC := tC, own := own, tp := tp, dg := dg,
      nsup := mg_none_of X G nsup, nstr := mg_none_of X G nstr,
      fn := ⟨oc, od, doc, pm, an, ct, osl, p1Of st, p2Of st, qOf st, by rw [← hst.1, ← hst.2.1, ← hst.2.2]; exact l1, c1, mc, ac⟩,
      cell := ⟨cl, cld, csl, ce⟩, code := ⟨ccl, cdd, vs, ccs, file, tf, co, cf, cg⟩, top := top }
  exact ⟨T.gC, err_made T, kC, eC, tC, ⟨hg, hk, eC, hd⟩, ⟨hg, hk, eC, hd, ha, hn, ht, hm⟩, fun f hf => by cases hf with | head => exact no | tail _ z => cases z⟩
end
end KErr_at
end PySem

set_option Elab.async false
set_option linter.all false
set_option maxRecDepth 100000
set_option maxHeartbeats 4000000
namespace PySem
namespace KErr_limit
open PySem.W PySem.Calls PyProof.Rows PySem.HandSPX PySem.KErr
def eA (p1 p2 : Pos) : Arguments := { posonlyargs := [], args := [{ arg := "self", annotation := none, pos := p1 }, { arg := "limit", annotation := none, pos := p2 }], vararg := none, kwonlyargs := [], kw_defaults := [], kwarg := none, defaults := [] }
def eB (q : Nat → Pos) : List Stmt := [
  .Expr (.Call (.Attribute (.Call (.Name "super" (q 0)) [] [] (q 1)) "__init__" (q 2)) [.Call (.Name "str" (q 3)) [.Name "limit" (q 4)] [] (q 5)] [] (q 6)) (q 7),
  .Assign [.Attribute (.Name "self" (q 8)) "limit" (q 9)] (.Name "limit" (q 10)) (q 11)]
def eS : Scope := { kind := .function, names := [(PySem.Str.ofString "self", .local), (PySem.Str.ofString "limit", .local), (PySem.Str.ofString "__class__", .free), (PySem.Str.ofString "super", .globalImplicit), (PySem.Str.ofString "str", .globalImplicit)], isGenerator := false, isCoroutine := false, more := [] }
def MC (q : Nat → Pos) : Prop := ∀ env : Env, ∃ pl : Sem Bool, eval (.Call (.Attribute (.Call (.Name "super" (q 0)) [] [] (q 1)) "__init__" (q 2)) [.Call (.Name "str" (q 3)) [.Name "limit" (q 4)] [] (q 5)] [] (q 6)) env = (do
      let ov ← attributeBase (.Call (.Name "super" (q 0)) [] [] (q 1)) "__init__" env (eval (.Call (.Name "super" (q 0)) [] [] (q 1)) env)
      standAt (q 2).atName
      let (f, first) ← holding [ov] (getMethod ov "__init__" pl)
      callWith (q 6) f first (backTo (q 6) (starEach [.Call (.Name "str" (q 3)) [.Name "limit" (q 4)] [] (q 5)] env)) [])
def AC (q : Nat → Pos) : Prop := ∀ env : Env, swapsWith (.Name "limit" (q 10)) (some (.Attribute (.Name "self" (q 8)) "limit" (q 9))) (q 11).line env = pure false
/-- what the top leaves of the class x with the one field -/
structure ErrTxt (prog : Program) (K : Frag) (mg : Str → Option Value) (x qual : Str) (C fI cc cda : Addr) : Prop where
  gC : mg x = some (.ref C)
  cls : ∃ nm q N bs bm sn sub ab col dd k0 k1 k2 k3 k5, K.lookup C = some (excClassObj nm q C N bs bm true sn sub ab col dd k0 k1 k2 k3 k5 "ValueError.__new__") ∧ refsVE bm = true
  sup : ks_superIn K C C "__init__" = some (some (.builtin "ValueError.__init__"))
  sa : findIn K (.ref C) "__setattr__" = some (some (.builtin "object.__setattr__"))
  noN : findIn K (.ref C) "limit" = some none
  iC : findIn K (.ref C) "__init__" = some (some (.ref fI))
  tC : typeIn K (.ref fI) = some (.type "function")
  kC : keepIn K (.ref C) = true
  exC : subIn K (.ref C) (.type "BaseException") = some true
  veC : subIn K (.ref C) (.type "ValueError") = some true
  tyC : typeIn K (.ref C) = some (.type "type")
  own : mroIn K C (.ref C) = some true
  tp : nsIn K cStatics "thirdparty.any" = some none
  dg : nsIn K cStatics "sys.int_max_str_digits" = some none
  nsup : mg "super" = none
  nstr : mg "str" = none
  fn : ∃ (oc : Value) (od : Option Addr) (doc pm : Value) (an : Option Addr) (ct : Value) (osl : Array (Option Value)) (p1 p2 : Pos) (q : Nat → Pos),
    K.lookup fI = some ⟨oc, od, .func (ksFn "__init__" qual (eA p1 p2) (eB q) eS .none .none doc pm an (.ref cda) ct cc), osl⟩ ∧ codeIn K (.ref cda) qual = true ∧ MC q ∧ AC q
  cell : ∃ cl cld csl, K.lookup cc = some ⟨cl, cld, .cell (some (.ref C)), csl⟩
  code : ∃ ccl cdd vs ccs file tf, K.lookup cda = some ⟨ccl, cdd, .fields vs, ccs⟩ ∧ vs[2]? = some (.str file tf) ∧ ((prog.main.file : Str) == file) = true
  top : (prog.main.scope.names.lookup ("super" : Str)).isSome = false
section
variable {prog : Program} {w : World} {A : Around} {E : Value → Shared → Prop} {R : Result → Shared → Prop} {s : Shared} {K : Frag} {mg : Str → Option Value} {x qual : Str} {C fI cc cda : Addr}
theorem err_init (T : ErrTxt prog K mg x qual C fI cc cda) {e t0 : Addr} {v : Value} (X : K.In s.heap) (hlim : s.heap.NoLimit) (G : s.heap.Ns mainGlobals mg) (B : ∃ mb, s.heap.Ns builtinsNs mb ∧ ∀ x : Str, x ≠ "__name__" → mb x = bootBuiltins x)
    (hx : s.heap.get? e = some (excO C t0)) (hnx : K.lookup e = none) (hh : A.handled = none) (hroom : A.depth < recursionLimit) (hv : StrOk prog w v)
    (hq : ∀ h' tk dx t1, InitEnd s.heap h' e C dx t1 "limit" v → R (.ok (.ret .none)) { s with heap := h', toks := tk }) :
    codeAny (model prog w) A (.call (.ref fI) ⟨[.ref e, v], []⟩) R s := by
  obtain ⟨oc, od, doc, pm, an, ct, osl, p1, p2, q, ho, hcd, hMC, hAC⟩ := T.fn
  obtain ⟨nm, qn, N, bs, bm, sn, sub, ab, col, dd, k0, k1, k2, k3, k5, hC, hbm⟩ := T.cls
  obtain ⟨cl, cld, csl, hcell⟩ := T.cell
  obtain ⟨ccl, cdd, vs, ccs, file, tf, hcode, hvs, hfile⟩ := T.code
  obtain ⟨mb, Bn, Bb⟩ := B
  have hcl : clsIn K C = some { name := nm, bases := bs, mro := .ref C :: bm, ns := N, qualname := qn, hasDict := true, slotNames := sn, subclasses := sub, abstract := ab, collection := col, hasDel := false } := by unfold clsIn; rw [hC] <;> rfl
  refine ks_codeAny_call_defAt (fd := ksFn "__init__" qual (eA p1 p2) (eB q) eS .none .none doc pm an (.ref cda) ct cc) (body := eB q) (binds := [("self", .ref e), ("limit", v)]) hroom (X _ _ ho) rfl hlim (codeRec_of X hcd) rfl ?b ?c ?l (fun h₁ hns k₁ => ?_)
  case b => exact BindsTo.of_eq (by first | rfl | with_unfolding_all rfl)
  case c => show ∀ x ∈ eS.names, x.2 ≠ .cell; decide
  case l => exact locs rfl
  obtain ⟨sh, sg, sd, st, sos⟩ := s
  have X₁ : K.In h₁ := X.keeps k₁
  have hx₁ := k₁ _ _ hx
  have hC₁ := X₁ _ _ hC
  show _root_.PySem.wpAt (model prog w) _ (.func (eB q) (ksEnv qual eS sh.objs.size fI (.ref cda) cc)) (execs (eB q) (ksEnv qual eS sh.objs.size fI (.ref cda) cc)) _ _ _
  obtain ⟨pl, hpl⟩ := hMC (ksEnv qual eS sh.objs.size fI (.ref cda) cc)
  refine ks_wpAt_execs_cons (ks_wpAt_Expr_any (ks_wpAt_MethodCall ?_ hpl))
  refine ks_wpAt_super_base (env := ksEnv qual eS sh.objs.size fI (.ref cda) cc) (ar := { arg := "self", annotation := none, pos := p1 }) rfl rfl (by decide) rfl (X₁ _ _ ho) rfl rfl rfl (X₁ _ _ hcode) rfl hvs hfile T.top ?_
  refine ks_loadName_global rfl rfl (loadGlobal_builtin (env := ksEnv qual eS sh.objs.size fI (.ref cda) cc) (G.keeps k₁) T.nsup (Bn.keeps k₁) ((Bb _ (by decide +kernel)).trans (by first | boot_by_name | rfl | kernel_rfl)) ⟨rfl, ?_⟩)
  refine wpAny_loadName_free rfl rfl rfl ⟨_, X₁ _ _ hcell, rfl⟩ ?_
  refine wpAny_loadName_local rfl rfl hns (by first | rfl | with_unfolding_all rfl | kernel_rfl) ?_
  refine ks_wpAny_isType_cls hC₁ rfl ⟨rfl, ?_⟩
  refine ks_wpAny_call_super hC₁ rfl hx₁ rfl (fun c z => by cases z) (looks_mroIn X₁ T.own) (fun h₂ e2 k2 => ?_)
  have X₂ : K.In h₂ := X₁.keeps k2
  have hC₂ := k2 _ _ hC₁
  have hx₂ := k2 _ _ hx₁
  have I₂ : InstAt h₂ e (excO C t0) C none := ⟨hx₂, rfl, rfl, trivial⟩
  have hxC : e ≠ C := ks_ne X₂ I₂ hcl
  have hsup := T.sup
  unfold ks_superIn at hsup
  rw [hcl] at hsup
  refine kxs_getMethod kxs_ValueError e2 (looks_opaque X₂ T.tp) (l₀ := .ref C :: bm) (fun A Q E s k q => wpAny_bind ((looks_clsIn X₂ hcl) A _ E s k (wpAny_pure q))) rfl X₂ hsup (I₂.type.andThen (looks_subIn X₂ T.veC)) hxC rfl ?_
  refine kxs_callWith (i := "ValueError.__init__") (x := e) rfl ?_
  refine Calls.evalArgs_plain (Calls.spliced_cons ?_)
  have k3 : ∀ b o, h₂.get? b = some o → (h₂.push (kxs_mw "ValueError.__init__" e)).get? b = some o := fun b o z => Heap.get?_push_of_some _ z
  have X₃ := X₂.keeps k3
  have G₃ := ((G.keeps k₁).keeps k2).keeps k3
  have B₃ := ((Bn.keeps k₁).keeps k2).keeps k3
  have hns₃ := (hns.keeps k2).keeps k3
  have hu : (h₂.push (kxs_mw "ValueError.__init__" e)).get? h₂.objs.size = some (kxs_mw "ValueError.__init__" e) := by heap_get
  have hdg : (h₂.push (kxs_mw "ValueError.__init__" e)).NoDigits := let ⟨mc, a, _⟩ := ((hlim.keeps k₁).keeps k2).keeps k3; ⟨mc, a, ns_none_of X₃ a T.dg⟩
  generalize h₂.push (kxs_mw "ValueError.__init__" e) = h₃ at *
  refine wpAny_Call_NameR (wpAny_Name (ks_loadName_global rfl rfl (loadGlobal_builtin (env := ksEnv qual eS sh.objs.size fI (.ref cda) cc) G₃ T.nstr B₃ ((Bb _ (by decide +kernel)).trans (by first | boot_by_name | rfl | kernel_rfl)) ?_)) rfl)
  refine callWith_type1 ?_
  show wpAny _ _ (eval (.Name "limit" (q 4)) _) _ _ _
  refine wpAny_Name (wpAny_loadName_local rfl rfl hns₃ (by first | rfl | with_unfolding_all rfl | kernel_rfl) ?_) (by decide)
  refine hv _ _ _ _ hh hdg (fun txt tk tk' => ?_)
  refine Calls.spliced_nil ⟨hu, ?_⟩
  refine init_call (hC := k3 _ _ hC₂) (he := k3 _ _ hx₂) (hu := hu) (one_size _) (fun h₄ t1 k4 hx₄ => ?_)
  have hLe : sh.objs.size ≠ e := Nat.ne_of_gt (Heap.lt_size hx)
  have hns₄ : h₄.Ns sh.objs.size (fun x => List.lookup x [((PySem.Str.ofString "self" : Str), Value.ref e), ((PySem.Str.ofString "limit" : Str), v)].reverse) := by
    obtain ⟨oL, es, ep, hL, r⟩ := hns₃
    exact ⟨oL, es, ep, k4 _ _ hLe hL, r⟩
  have X₄ : K.In h₄ := kept_but X₃ hnx k4
  show wpAt _ _ _ (execs _ _) _ _ _
  refine ks_wpAt_execs_cons (ks_wpAt_Assign_Attr (wpAt_of_wpAny (wpAny_Name (wpAny_loadName_local rfl rfl hns₄ (by first | rfl | with_unfolding_all rfl | kernel_rfl) ?_) (by decide))) (hAC _))
  refine wpAny_Name (wpAny_loadName_local rfl rfl hns₄ (by first | rfl | with_unfolding_all rfl | kernel_rfl) ?_) (by decide)
  refine set_plain X₄ (ox := excO C t1) (od := none) ⟨hx₄, rfl, rfl, trivial⟩ T.sa ?_
  refine exc_osa X₄ hx₄ hcl (show refsVE (.ref C :: bm) = true from hbm) rfl T.noN (fun h₅ tk₅ dx k₅ dn dne hx₅ hn₅ => ?_)
  show wpAt _ _ _ (execs _ _) _ _ _
  have z : sh.objs.size < h₄.objs.size := hns₄.lt
  refine wpAt_of_wpAny (wpAny_execs_nil (hq h₅ tk₅ dx t1 ⟨fun b o hb e => k₅ b o hb (k4 b o hb (k3 _ _ (k2 _ _ (k₁ b o e)))), hx₅, Nat.le_of_lt (Nat.lt_of_lt_of_le z dn), dne, hn₅⟩))
theorem err_made (T : ErrTxt prog K mg x qual C fI cc cda) : Mkd prog w K mg C ["limit"] (fun vs => ∃ v, vs = [v] ∧ okS v) := by
  intro A s R vs us rl hok X hlim G B hh hroom hq
  obtain ⟨v, rfl, ov⟩ := hok
  cases rl with
  | cons rv rn =>
  rename_i u us'
  cases rn
  obtain ⟨nm, q, N, bs, bm, sn, sub, ab, col, dd, k0, k1, k2, k3, k5, hC, hbm⟩ := T.cls
  obtain ⟨hp, g, dr, tk, os⟩ := s
  have k : ∀ b o, hp.get? b = some o → ((hp.push (kdv_tup [u])).push (excO C hp.objs.size)).get? b = some o := fun b o e => Heap.get?_push_of_some _ (Heap.get?_push_of_some _ e)
  have hget : ((hp.push (kdv_tup [u])).push (excO C hp.objs.size)).get? (hp.objs.size + 1) = some (excO C hp.objs.size) := by heap_get
  have hnx : K.lookup (hp.objs.size + 1) = none := by
    cases e : K.lookup (hp.objs.size + 1) with
    | none => rfl
    | some o =>
      have z : hp.get? (hp.objs.size + 1) = some o := X _ _ e
      exact absurd (Nat.lt_of_succ_lt (Heap.lt_size z)) (Nat.lt_irrefl _)
  refine call_own F.excBase_ValueError (fun X => refsVE_contains X bm hbm) (X _ _ hC) (looks_findIn X T.iC) (fun self => bind_fn X self T.tC) (one_size u) ?_
  obtain ⟨mb, B1, B2⟩ := B
  refine err_init (s := ⟨(hp.push (kdv_tup [u])).push (excO C hp.objs.size), g, dr, tk, os⟩) T (X.keeps k) (hlim.keeps k) (G.keeps k) ⟨mb, B1.keeps k, B2⟩ hget hnx ?_ ?_ (okS_ok rv ov) fun h' tk' dx t1 ⟨k', hx, dn, dne, hns⟩ => ?_
  · exact hh
  · show A.depth + 1 < recursionLimit
    exact hroom
  · have old : ∀ b o, hp.get? b = some o → h'.get? b = some o := fun b o e => k' b o (Nat.ne_of_lt (Nat.lt_succ_of_lt (Heap.lt_size e))) (k b o e)
    have z : hp.objs.size + 1 + 1 ≤ dx := by
      first
        | (simpa only [Heap.size_push] using dn)
        | exact dn
        | (have q := dn; rw [Heap.size_push, Heap.size_push] at q; exact q)
    refine ⟨rfl, hq h' tk' (hp.objs.size + 1) dx ⟨old, Nat.le_succ _, ⟨_, _, hx, rfl, rfl, rfl, rfl, rfl⟩, Nat.le_trans (Nat.le_trans (Nat.le_succ _) (Nat.le_succ _)) z, dne, ?_⟩⟩
    have ef : (fun y : Str => List.lookup y ([(PySem.Str.ofString "limit" : Str)].zip [u])) = fun y => if y = PySem.Str.ofString "limit" then some u else none := by
      funext y
      by_cases h : y = PySem.Str.ofString "limit"
      · simp [List.lookup, h]
      · have h2 : (y == PySem.Str.ofString "limit") = false := by simpa using h
        simp [List.lookup, h, h2]
    rw [ef]
    exact hns
def p1Of (st : Stmt) : Pos := match (L2.defArgs st).args with | [a, _] => a.pos | _ => ⟨0, 0, 0, 0⟩
def p2Of (st : Stmt) : Pos := match (L2.defArgs st).args with | [_, a] => a.pos | _ => ⟨0, 0, 0, 0⟩
def qOf (st : Stmt) : Nat → Pos := match L2.defBody st with
  | [.Expr (.Call (.Attribute (.Call (.Name _ q0) _ _ q1) _ q2) [.Call (.Name _ q3) [.Name _ q4] _ q5] _ q6) q7, .Assign [.Attribute (.Name _ q8) _ q9] (.Name _ q10) q11] =>
    fun n => [q0, q1, q2, q3, q4, q5, q6, q7, q8, q9, q10, q11].getD n ⟨0, 0, 0, 0⟩
  | _ => fun _ => ⟨0, 0, 0, 0⟩
theorem err_mk (st : Stmt) {h : Heap} {nm q : Str} {N : Addr} {bs bm : List Value} {sn : List Str} {sub : List Value} {ab : Bool} {col : Option Bool} {dd : Option Addr} {k0 k1 k2 k3 k5 : Option Value} {oc : Value} {od : Option Addr} {doc pm : Value} {an : Option Addr} {ct : Value} {osl : Array (Option Value)}
    {cl : Value} {cld : Option Addr} {csl : Array (Option Value)} {ccl : Value} {cdd : Option Addr} {vs : Array Value} {ccs : Array (Option Value)} {file : Str} {tf : Tok}
    (X : K.In h) (G : h.Ns mainGlobals mg) (aC : nsIn K mainGlobals x = some (some (.ref C))) (xL : K.lookup C = some (excClassObj nm q C N bs bm true sn sub ab col dd k0 k1 k2 k3 k5 "ValueError.__new__")) (bmv : refsVE bm = true)
    (sup : ks_superIn K C C "__init__" = some (some (.builtin "ValueError.__init__"))) (sa : findIn K (.ref C) "__setattr__" = some (some (.builtin "object.__setattr__"))) (no : findIn K (.ref C) "limit" = some none)
    (a1 : findIn K (.ref C) "__init__" = some (some (.ref fI))) (t1 : typeIn K (.ref fI) = some (.type "function")) (kC : keepIn K (.ref C) = true) (eC : subIn K (.ref C) (.type "BaseException") = some true) (vC : subIn K (.ref C) (.type "ValueError") = some true)
    (tC : typeIn K (.ref C) = some (.type "type")) (own : mroIn K C (.ref C) = some true) (tp : nsIn K cStatics "thirdparty.any" = some none) (dg : nsIn K cStatics "sys.int_max_str_digits" = some none) (nsup : nsIn K mainGlobals "super" = some none) (nstr : nsIn K mainGlobals "str" = some none)
    (hst : L2.defArgs st = eA (p1Of st) (p2Of st) ∧ L2.defBody st = eB (qOf st) ∧ L2.defScope st = eS)
    (l1 : K.lookup fI = some ⟨oc, od, .func (ksFn "__init__" qual (L2.defArgs st) (L2.defBody st) (L2.defScope st) .none .none doc pm an (.ref cda) ct cc), osl⟩) (c1 : codeIn K (.ref cda) qual = true) (mc : MC (qOf st)) (ac : AC (qOf st))
    (ce : K.lookup cc = some ⟨cl, cld, .cell (some (.ref C)), csl⟩) (co : K.lookup cda = some ⟨ccl, cdd, .fields vs, ccs⟩) (cf : vs[2]? = some (.str file tf)) (cg : ((prog.main.file : Str) == file) = true) (top : (prog.main.scope.names.lookup ("super" : Str)).isSome = false)
    (hg : findIn K (.ref C) "__getattribute__" = some (some (.builtin "BaseException.__getattribute__"))) (hk : findIn K (.ref C) "__getattr__" = some none) (hd : hasDictIn K C = true) (ha : findIn K (.ref C) "__class__" = some (some (.builtin "object.__class__")))
    (hn : specialIn K (.builtin "object.__class__") "__get__" = some (some (.builtin "getset_descriptor.__get__"))) (ht : takesIn K (.builtin "object.__class__") = some true) (hm : mroIn K C (.type "object") = some true) :
    KW.ErrC prog w K mg x C ["limit"] (fun vs => ∃ v, vs = [v] ∧ okS v) := by
  have T : ErrTxt prog K mg x qual C fI cc cda :=
    { gC := mg_of X G aC, cls := ⟨nm, q, N, bs, bm, sn, sub, ab, col, dd, k0, k1, k2, k3, k5, xL, bmv⟩, sup := sup, sa := sa, noN := no, iC := a1, tC := t1, kC := kC, exC := eC, veC := vC, tyC := tC, own := own, tp := tp, dg := dg,
      nsup := mg_none_of X G nsup, nstr := mg_none_of X G nstr,
      fn := ⟨oc, od, doc, pm, an, ct, osl, p1Of st, p2Of st, qOf st, by rw [← hst.1, ← hst.2.1, ← hst.2.2]; exact l1, c1, mc, ac⟩,
      cell := ⟨cl, cld, csl, ce⟩, code := ⟨ccl, cdd, vs, ccs, file, tf, co, cf, cg⟩, top := top }
  exact ⟨T.gC, err_made T, kC, eC, tC, ⟨hg, hk, eC, hd⟩, ⟨hg, hk, eC, hd, ha, hn, ht, hm⟩, fun f hf => by cases hf with | head => exact no | tail _ z => cases z⟩
end
end KErr_limit
end PySem

set_option Elab.async false
set_option linter.all false
set_option maxRecDepth 100000
set_option maxHeartbeats 4000000
namespace K11
open PySem PySem.Spec PyProof.Rows L2 KW
def topS (i : Nat) : Stmt := PySem.Challenge.pw_kilnwarden_k11_whole_texts_split_into_to.main.body.getD i (.Pass ⟨0, 0, 0, 0⟩)

def str_0 : List Nat := [65, 66, 67, 68, 69, 70, 71, 72, 73, 74, 75, 76, 77, 78, 79, 80, 81, 82, 83, 84, 85, 86, 87, 88, 89, 90, 97, 98, 99, 100, 101, 102, 103, 104, 105, 106, 107, 108, 109, 110, 111, 112, 113, 114, 115, 116, 117, 118, 119, 120, 121, 122]
theorem lit_0 : (PySem.Str.ofString "ABCDEFGHIJKLMNOPQRSTUVWXYZabcdefghijklmnopqrstuvwxyz") = S str_0 := by decide +kernel
def str_1 : List Nat := [48, 49, 50, 51, 52, 53, 54, 55, 56, 57]
theorem lit_1 : (PySem.Str.ofString "0123456789") = S str_1 := by decide +kernel
def str_2 : List Nat := [43, 45, 42, 47, 60, 62, 61, 126, 38, 44, 64]
theorem lit_2 : (PySem.Str.ofString "+-*/<>=~&,@") = S str_2 := by decide +kernel
def str_3 : List Nat := [58, 94, 46, 124, 40, 41, 91, 93]
theorem lit_3 : (PySem.Str.ofString ":^.|()[]") = S str_3 := by decide +kernel
theorem lit_4 : (PySem.Str.ofString "") = S [] := by decide +kernel
theorem lit_5 : (PySem.Str.ofString ":") = S [58] := by decide +kernel
theorem lit_6 : (PySem.Str.ofString "=") = S [61] := by decide +kernel
def str_7 : List Nat := [107, 101, 121, 119, 111, 114, 100]
theorem lit_7 : (PySem.Str.ofString "keyword") = S str_7 := by decide +kernel
theorem lit_8 : (PySem.Str.ofString "name") = S [110, 97, 109, 101] := by decide +kernel
theorem lit_9 : (PySem.Str.ofString "0") = S [48] := by decide +kernel
theorem lit_10 : (PySem.Str.ofString "number") = S [110, 117, 109, 98, 101, 114] := by decide +kernel
theorem lit_11 : (PySem.Str.ofString "symbol") = S [115, 121, 109, 98, 111, 108] := by decide +kernel
theorem lit_12 : (PySem.Str.ofString "'") = S [39] := by decide +kernel
theorem lit_13 : (PySem.Str.ofString "sign") = S [115, 105, 103, 110] := by decide +kernel
theorem lit_14 : (PySem.Str.ofString "#") = S [35] := by decide +kernel
theorem lit_15 : (PySem.Str.ofString ":=") = S [58, 61] := by decide +kernel
theorem lit_16 : (PySem.Str.ofString "mark") = S [109, 97, 114, 107] := by decide +kernel
theorem lit_17 : (PySem.Str.ofString "\"") = S [34] := by decide +kernel
theorem lit_18 : (PySem.Str.ofString " \n") = S [32, 10] := by decide +kernel
theorem lit_19 : (PySem.Str.ofString "source") = S [115, 111, 117, 114, 99, 101] := by decide +kernel
def str_20 : List Nat := [48, 49, 50, 51, 52, 53, 54, 55, 56, 57, 32, 43, 45, 42, 47, 60, 62, 61, 126, 38, 44, 64, 58, 61, 94, 46, 124, 40, 41, 91, 93, 35, 39, 34, 10, 33, 36, 59, 63, 92, 95, 123, 125, 96]
theorem lit_20 : (PySem.Str.ofString "0123456789 +-*/<>=~&,@:=^.|()[]#'\"\n!$;?\\_{}`") = S str_20 := by decide +kernel
def str_21 : List Nat := [97, 98, 90, 48, 48, 49, 50, 58, 58, 61, 35, 35, 39, 39, 34, 45, 43, 124, 40, 32, 10]
theorem lit_21 : (PySem.Str.ofString "abZ0012::=##''\"-+|( \n") = S str_21 := by decide +kernel
theorem lit_22 : (PySem.Str.ofString "a") = S [97] := by decide +kernel
theorem lit_23 : (PySem.Str.ofString "7") = S [55] := by decide +kernel
theorem lit_24 : (PySem.Str.ofString " ") = S [32] := by decide +kernel
theorem lit_25 : (PySem.Str.ofString "\n") = S [10] := by decide +kernel
theorem lit_26 : (PySem.Str.ofString "''") = S [39, 39] := by decide +kernel
theorem lit_27 : (PySem.Str.ofString "^") = S [94] := by decide +kernel
theorem lit_28 : (PySem.Str.ofString ".") = S [46] := by decide +kernel
theorem lit_29 : (PySem.Str.ofString "|") = S [124] := by decide +kernel
theorem lit_30 : (PySem.Str.ofString "(") = S [40] := by decide +kernel
theorem lit_31 : (PySem.Str.ofString ")") = S [41] := by decide +kernel
theorem lit_32 : (PySem.Str.ofString "[") = S [91] := by decide +kernel
theorem lit_33 : (PySem.Str.ofString "]") = S [93] := by decide +kernel
def str_34 : List Nat := [32, 10, 43, 45, 42, 47, 60, 62, 61, 126, 38, 44, 64, 58, 94, 46, 124, 40, 41, 91, 93]
theorem lit_34 : (PySem.Str.ofString " \n+-*/<>=~&,@:^.|()[]") = S str_34 := by decide +kernel
abbrev s_Malformed_init : Stmt := inClass (topS 2) 0
abbrev s_Oversized_init : Stmt := inClass (topS 3) 0
abbrev s_char_at : Stmt := topS 12
abbrev N_char_at : List Str := ["source", "at"]
theorem sc_char_at : FnScope N_char_at ["source", "at"] (defScope s_char_at) := ⟨rfl, rfl, rfl, by decide +kernel, rfl, by decide +kernel, by decide +kernel⟩
abbrev s_is_in : Stmt := topS 13
abbrev N_is_in : List Str := ["char", "chars"]
theorem sc_is_in : FnScope N_is_in ["char", "chars"] (defScope s_is_in) := ⟨rfl, rfl, rfl, by decide +kernel, rfl, by decide +kernel, by decide +kernel⟩
abbrev s_end_of : Stmt := topS 14
abbrev N_end_of : List Str := ["source", "at", "chars"]
theorem sc_end_of : FnScope N_end_of ["source", "at", "chars"] (defScope s_end_of) := ⟨rfl, rfl, rfl, by decide +kernel, rfl, by decide +kernel, by decide +kernel⟩
abbrev s_is_name : Stmt := topS 15
abbrev N_is_name : List Str := ["text"]
theorem sc_is_name : FnScope N_is_name ["text"] (defScope s_is_name) := ⟨rfl, rfl, rfl, by decide +kernel, rfl, by decide +kernel, by decide +kernel⟩
abbrev s_name_end : Stmt := topS 16
abbrev N_name_end : List Str := ["source", "at", "stop"]
theorem sc_name_end : FnScope N_name_end ["source", "at"] (defScope s_name_end) := ⟨rfl, rfl, rfl, by decide +kernel, rfl, by decide +kernel, by decide +kernel⟩
abbrev s_is_keyword_end : Stmt := topS 17
abbrev N_is_keyword_end : List Str := ["source", "at"]
theorem sc_is_keyword_end : FnScope N_is_keyword_end ["source", "at"] (defScope s_is_keyword_end) := ⟨rfl, rfl, rfl, by decide +kernel, rfl, by decide +kernel, by decide +kernel⟩
abbrev s_read_name : Stmt := topS 18
abbrev N_read_name : List Str := ["source", "at", "start", "stop"]
theorem sc_read_name : FnScope N_read_name ["source", "at", "start"] (defScope s_read_name) := ⟨rfl, rfl, rfl, by decide +kernel, rfl, by decide +kernel, by decide +kernel⟩
abbrev s_read_number : Stmt := topS 19
abbrev N_read_number : List Str := ["source", "at", "stop", "digits"]
theorem sc_read_number : FnScope N_read_number ["source", "at"] (defScope s_read_number) := ⟨rfl, rfl, rfl, by decide +kernel, rfl, by decide +kernel, by decide +kernel⟩
abbrev s_read_hash : Stmt := topS 20
abbrev N_read_hash : List Str := ["source", "at", "token", "stop", "text", "found"]
theorem sc_read_hash : FnScope N_read_hash ["source", "at"] (defScope s_read_hash) := ⟨rfl, rfl, rfl, by decide +kernel, rfl, by decide +kernel, by decide +kernel⟩
abbrev s_read_quoted : Stmt := topS 21
abbrev N_read_quoted : List Str := ["source", "at", "text", "stop", "found"]
theorem sc_read_quoted : FnScope N_read_quoted ["source", "at"] (defScope s_read_quoted) := ⟨rfl, rfl, rfl, by decide +kernel, rfl, by decide +kernel, by decide +kernel⟩
abbrev s_read_sign : Stmt := topS 22
abbrev N_read_sign : List Str := ["source", "at", "stop"]
theorem sc_read_sign : FnScope N_read_sign ["source", "at"] (defScope s_read_sign) := ⟨rfl, rfl, rfl, by decide +kernel, rfl, by decide +kernel, by decide +kernel⟩
abbrev s_read_token : Stmt := topS 23
abbrev N_read_token : List Str := ["source", "at", "char"]
theorem sc_read_token : FnScope N_read_token ["source", "at"] (defScope s_read_token) := ⟨rfl, rfl, rfl, by decide +kernel, rfl, by decide +kernel, by decide +kernel⟩
abbrev s_skipped : Stmt := topS 24
abbrev N_skipped : List Str := ["source", "at", "found"]
theorem sc_skipped : FnScope N_skipped ["source", "at"] (defScope s_skipped) := ⟨rfl, rfl, rfl, by decide +kernel, rfl, by decide +kernel, by decide +kernel⟩
abbrev s_tokens_of : Stmt := topS 25
abbrev N_tokens_of : List Str := ["source", "tokens", "at", "token"]
theorem sc_tokens_of : FnScope N_tokens_of ["source"] (defScope s_tokens_of) := ⟨rfl, rfl, rfl, by decide +kernel, rfl, by decide +kernel, by decide +kernel⟩
abbrev s__law_start : Stmt := topS 27
abbrev N__law_start : List Str := ["script"]
theorem sc__law_start : FnScope N__law_start ["script"] (defScope s__law_start) := ⟨rfl, rfl, rfl, by decide +kernel, rfl, by decide +kernel, by decide +kernel⟩
abbrev s__law_pick : Stmt := topS 28
abbrev N__law_pick : List Str := ["state", "limit", "cell", "drawn"]
theorem sc__law_pick : FnScope N__law_pick ["state", "limit"] (defScope s__law_pick) := ⟨rfl, rfl, rfl, by decide +kernel, rfl, by decide +kernel, by decide +kernel⟩
abbrev s__law_letters : Stmt := topS 29
abbrev N__law_letters : List Str := []
theorem sc__law_letters : FnScope N__law_letters [] (defScope s__law_letters) := ⟨rfl, rfl, rfl, by decide +kernel, rfl, by decide +kernel, by decide +kernel⟩
abbrev s__law_source : Stmt := topS 30
abbrev N__law_source : List Str := ["state", "chars", "source", "size", "k", "most"]
theorem sc__law_source : FnScope N__law_source ["state"] (defScope s__law_source) := ⟨rfl, rfl, rfl, by decide +kernel, rfl, by decide +kernel, by decide +kernel⟩
abbrev s__law_run : Stmt := topS 31
abbrev N__law_run : List Str := ["source", "at", "chars"]
theorem sc__law_run : FnScope N__law_run ["source", "at", "chars"] (defScope s__law_run) := ⟨rfl, rfl, rfl, by decide +kernel, rfl, by decide +kernel, by decide +kernel⟩
abbrev s__law_word_end : Stmt := topS 32
abbrev N__law_word_end : List Str := ["source", "at"]
theorem sc__law_word_end : FnScope N__law_word_end ["source", "at"] (defScope s__law_word_end) := ⟨rfl, rfl, rfl, by decide +kernel, rfl, by decide +kernel, by decide +kernel⟩
abbrev s__law_is_letter : Stmt := topS 33
abbrev N__law_is_letter : List Str := ["source", "at"]
theorem sc__law_is_letter : FnScope N__law_is_letter ["source", "at"] (defScope s__law_is_letter) := ⟨rfl, rfl, rfl, by decide +kernel, rfl, by decide +kernel, by decide +kernel⟩
abbrev s__law_name_end : Stmt := topS 34
abbrev N__law_name_end : List Str := ["source", "at", "end"]
theorem sc__law_name_end : FnScope N__law_name_end ["source", "at"] (defScope s__law_name_end) := ⟨rfl, rfl, rfl, by decide +kernel, rfl, by decide +kernel, by decide +kernel⟩
abbrev s__law_colon : Stmt := topS 35
abbrev N__law_colon : List Str := ["source", "at"]
theorem sc__law_colon : FnScope N__law_colon ["source", "at"] (defScope s__law_colon) := ⟨rfl, rfl, rfl, by decide +kernel, rfl, by decide +kernel, by decide +kernel⟩
abbrev s__law_skip : Stmt := topS 36
abbrev N__law_skip : List Str := ["source", "at", "end"]
theorem sc__law_skip : FnScope N__law_skip ["source", "at"] (defScope s__law_skip) := ⟨rfl, rfl, rfl, by decide +kernel, rfl, by decide +kernel, by decide +kernel⟩
abbrev s__law_symbol_end : Stmt := topS 37
abbrev N__law_symbol_end : List Str := ["source", "at", "text", "form", "end", "stop", "place"]
theorem sc__law_symbol_end : FnScope N__law_symbol_end ["source", "at", "text"] (defScope s__law_symbol_end) := ⟨rfl, rfl, rfl, by decide +kernel, rfl, by decide +kernel, by decide +kernel⟩
abbrev s__law_token_end : Stmt := topS 38
abbrev N__law_token_end : List Str := ["source", "at", "kind", "value", "end"]
theorem sc__law_token_end : FnScope N__law_token_end ["source", "at", "kind", "value"] (defScope s__law_token_end) := ⟨rfl, rfl, rfl, by decide +kernel, rfl, by decide +kernel, by decide +kernel⟩
abbrev s__law_is_token : Stmt := topS 39
abbrev N__law_is_token : List Str := ["token"]
theorem sc__law_is_token : FnScope N__law_is_token ["token"] (defScope s__law_is_token) := ⟨rfl, rfl, rfl, by decide +kernel, rfl, by decide +kernel, by decide +kernel⟩
abbrev s__law_tiles : Stmt := topS 40
abbrev N__law_tiles : List Str := ["source", "tokens", "stop", "at", "token", "end"]
theorem sc__law_tiles : FnScope N__law_tiles ["source", "tokens", "stop"] (defScope s__law_tiles) := ⟨rfl, rfl, rfl, by decide +kernel, rfl, by decide +kernel, by decide +kernel⟩
abbrev s__law_misfit : Stmt := topS 41
abbrev N__law_misfit : List Str := ["source", "at", "char", "end", "rest"]
theorem sc__law_misfit : FnScope N__law_misfit ["source", "at"] (defScope s__law_misfit) := ⟨rfl, rfl, rfl, by decide +kernel, rfl, by decide +kernel, by decide +kernel⟩
abbrev s_law : Stmt := topS 42
abbrev N_law : List Str := ["script", "state", "source", "place", "limit", "tokens", "e"]
theorem sc_law : FnScope N_law ["script"] (defScope s_law) := ⟨rfl, rfl, rfl, by decide +kernel, rfl, by decide +kernel, by decide +kernel⟩
structure Ads where
  KilnwardenError : Addr
  Malformed : Addr
  Oversized : Addr
structure Txt (P : Program) (w : World) (K : Frag) (mg : Str → Option Value) (a : Ads) : Prop where
  g_KilnwardenError : mg "KilnwardenError" = some (.ref a.KilnwardenError)
  g_Malformed : mg "Malformed" = some (.ref a.Malformed)
  g_Oversized : mg "Oversized" = some (.ref a.Oversized)
  e_Malformed : ErrC P w K mg "Malformed" a.Malformed ["at"] (fun vs => ∃ v, vs = [v] ∧ PySem.KErr.okS v)
  x_Malformed_KilnwardenError : PySem.W.exmOne K (.ref a.Malformed) (.ref a.KilnwardenError) = some true
  x_Malformed_Malformed : PySem.W.exmOne K (.ref a.Malformed) (.ref a.Malformed) = some true
  x_Malformed_Oversized : PySem.W.exmOne K (.ref a.Malformed) (.ref a.Oversized) = some false
  e_Oversized : ErrC P w K mg "Oversized" a.Oversized ["limit"] (fun vs => ∃ v, vs = [v] ∧ PySem.KErr.okS v)
  x_Oversized_KilnwardenError : PySem.W.exmOne K (.ref a.Oversized) (.ref a.KilnwardenError) = some true
  x_Oversized_Malformed : PySem.W.exmOne K (.ref a.Oversized) (.ref a.Malformed) = some false
  x_Oversized_Oversized : PySem.W.exmOne K (.ref a.Oversized) (.ref a.Oversized) = some true
  dg : PySem.W.nsIn K cStatics "sys.int_max_str_digits" = some none
  n_abs : mg "abs" = none
  n_bool : mg "bool" = none
  n_int : mg "int" = none
  n_isinstance : mg "isinstance" = none
  n_len : mg "len" = none
  n_list : mg "list" = none
  n_min : mg "min" = none
  n_range : mg "range" = none
  n_str : mg "str" = none
  n_tuple : mg "tuple" = none
  g_MOST_SOURCE : GV mg "MOST_SOURCE" (.int (4000))
  g_MOST_NAME : GV mg "MOST_NAME" (.int (32))
  g_MOST_DIGITS : GV mg "MOST_DIGITS" (.int (9))
  g_LETTERS : GV mg "LETTERS" (.str (S str_0))
  g_DIGITS : GV mg "DIGITS" (.str (S str_1))
  g_SIGNS : GV mg "SIGNS" (.str (S str_2))
  g_MARKS : GV mg "MARKS" (.str (S str_3))
  d_char_at : DefAt K mg "char_at" "char_at" s_char_at ["source", "at"]
  d_is_in : DefAt K mg "is_in" "is_in" s_is_in ["char", "chars"]
  d_end_of : DefAt K mg "end_of" "end_of" s_end_of ["source", "at", "chars"]
  d_is_name : DefAt K mg "is_name" "is_name" s_is_name ["text"]
  d_name_end : DefAt K mg "name_end" "name_end" s_name_end ["source", "at"]
  d_is_keyword_end : DefAt K mg "is_keyword_end" "is_keyword_end" s_is_keyword_end ["source", "at"]
  d_read_name : DefAt K mg "read_name" "read_name" s_read_name ["source", "at", "start"]
  d_read_number : DefAt K mg "read_number" "read_number" s_read_number ["source", "at"]
  d_read_hash : DefAt K mg "read_hash" "read_hash" s_read_hash ["source", "at"]
  d_read_quoted : DefAt K mg "read_quoted" "read_quoted" s_read_quoted ["source", "at"]
  d_read_sign : DefAt K mg "read_sign" "read_sign" s_read_sign ["source", "at"]
  d_read_token : DefAt K mg "read_token" "read_token" s_read_token ["source", "at"]
  d_skipped : DefAt K mg "skipped" "skipped" s_skipped ["source", "at"]
  d_tokens_of : DefAt K mg "tokens_of" "tokens_of" s_tokens_of ["source"]
  d__law_start : DefAt K mg "_law_start" "_law_start" s__law_start ["script"]
  d__law_pick : DefAt K mg "_law_pick" "_law_pick" s__law_pick ["state", "limit"]
  d__law_letters : DefAt K mg "_law_letters" "_law_letters" s__law_letters []
  d__law_source : DefAt K mg "_law_source" "_law_source" s__law_source ["state"]
  d__law_run : DefAt K mg "_law_run" "_law_run" s__law_run ["source", "at", "chars"]
  d__law_word_end : DefAt K mg "_law_word_end" "_law_word_end" s__law_word_end ["source", "at"]
  d__law_is_letter : DefAt K mg "_law_is_letter" "_law_is_letter" s__law_is_letter ["source", "at"]
  d__law_name_end : DefAt K mg "_law_name_end" "_law_name_end" s__law_name_end ["source", "at"]
  d__law_colon : DefAt K mg "_law_colon" "_law_colon" s__law_colon ["source", "at"]
  d__law_skip : DefAt K mg "_law_skip" "_law_skip" s__law_skip ["source", "at"]
  d__law_symbol_end : DefAt K mg "_law_symbol_end" "_law_symbol_end" s__law_symbol_end ["source", "at", "text"]
  d__law_token_end : DefAt K mg "_law_token_end" "_law_token_end" s__law_token_end ["source", "at", "kind", "value"]
  d__law_is_token : DefAt K mg "_law_is_token" "_law_is_token" s__law_is_token ["token"]
  d__law_tiles : DefAt K mg "_law_tiles" "_law_tiles" s__law_tiles ["source", "tokens", "stop"]
  d__law_misfit : DefAt K mg "_law_misfit" "_law_misfit" s__law_misfit ["source", "at"]
  d_law : DefAt K mg "law" "law" s_law ["script"]
theorem Txt.ex {P : Program} {w : World} {K : Frag} {mg : Str → Option Value} {A_KilnwardenError : Addr} {A_Malformed : Addr} {A_Oversized : Addr} (h : Txt P w K mg ⟨A_KilnwardenError, A_Malformed, A_Oversized⟩) : ∃ a, Txt P w K mg a := ⟨_, h⟩
end K11

set_option Elab.async false
set_option linter.all false
set_option maxRecDepth 100000
set_option maxHeartbeats 4000000
namespace K11
open PySem PySem.Spec PyProof.Rows L2 KW LX
local macro_rules | `(tactic| walk_at "kw") => `(tactic| simp only [tSeq, tNext, tIfS, tTest, tAnd, tOr, tNot, tAndV, tOrV, tNotV, tIf, tChain, tOp, tUn, tC, tAsg, gName, gSub, gCons, gNil, tRet, tRetN, tDrop, tCons, tNil, tCB, tAug, tSl, tPart, tNoPart, tLst, tTup, tBM, tBM0, uTest, uFor, iRng1, iRng2, iList, uCall, List.map_cons, List.map_nil, List.length_cons, List.length_nil, List.cons_append, List.nil_append, List.replicate, Nat.zero_add, Nat.reduceAdd, Nat.reduceSub, List.getElem?_cons_zero, List.getElem?_cons_succ, List.set_cons_zero, List.set_cons_succ, V.bl.injEq, V.int.injEq, V.str.injEq, V.ref.injEq, V.ty.injEq, List.cons.injEq, and_true, true_and, exists_eq_left', exists_eq_right, exists_eq_left, exists_and_left, exists_and_right, decide_eq_true_eq, Bool.not_eq_true', decide_eq_false_iff_not, Bool.false_eq_true, if_true, if_false, ite_true, ite_false, Bool.not_true, Bool.not_false, reduceCtorEq, decide_true, decide_false, Bool.not_not, isK_int_int, isK_int_bool, isK_int_str, isK_int_list, isK_int_tuple, isK_bool_int, isK_bool_bool, isK_bool_str, isK_str_str, isK_str_int, isK_str_bool, isK_str_tuple, isK_str_list, isK_list_list, isK_list_tuple, isK_tuple_tuple, isK_tuple_list, isOk_int_int, isOk_int_bool, isOk_int_str, isOk_int_list, isOk_int_tuple, isOk_bool_int, isOk_bool_bool, isOk_bool_str, isOk_str_str, isOk_str_int, isOk_str_bool, isOk_str_tuple, isOk_str_list, isOk_list_list, isOk_list_tuple, isOk_tuple_tuple, isOk_tuple_list, isK_dict_dict, isOk_dict_dict, isK_none_int, isK_none_bool, isOk_none_int, isOk_none_bool, tyV, S_inj, S_cat, L2.start, Nat.reduceSub, List.replicate_succ, List.replicate_zero, and_assoc, List.append_nil, Nat.reduceEqDiff, Option.some.injEq, Int.natCast_inj, upd_upd, Int.reducePow, Int.reduceToNat, Int.reduceMul, Int.reduceAdd, Int.reduceSub, Int.reduceLT, Int.reduceLE, Int.reduceNeg, Int.reduceDiv, Int.reduceMod, Nat.reducePow, Nat.reduceMul, S_len, List.length_append, List.length_map, List.length_range, not_true_eq_false, not_false_eq_true, ne_eq, uAdd_e1, uAdd_e2, uSub_e1, uMod_e1, uDiv_e1, uPow_e1, uShl_e1, uNeg_e1, uIAdd_e1, uIAdd_e2, uIAdd_e3, uISub_e1, uLt_e1, uLt_e2, uLe_e1, uGt_e1, uGe_e1, uEq_e1, uEq_e2, uEq_e3, uEq_e4, uEq_e5, uEq_e6, uEq_e7, uEq_e8, uEq_e9, uEq_e10, uEq_e11, uNe_e1, uNe_e2, uNe_e3, uNe_e4, uNe_e5, uNe_e6, uNe_e7, uNe_e8, uNe_e9, uNe_e10, uNe_e11, uIs_e1, uIs_e2, uIs_e3, uIs_e4, uIs_e5, uIs_e6, uIs_e7, uNotIs_e1, uNotIs_e2, uNotIs_e3, uNotIs_e4, uNotIs_e5, uNotIs_e6, uIn_e1, uIn_e2, uIn_e3, uIn_e4, uNotIn_e1, uNotIn_e2, uNotIn_e3, uNotIn_e4, uTru_e1, uTru_e2, uTru_e3, uTru_e4, uIx_e2, uSl_e2, uLen_e1, uAbs_e1, uInt_e1, uInt_e2, uMin2_e1, uIsi_e1, uIsi_e2, uIsi_e3, uIsi_e4, cx_K, uVar_0, uVar_n, uFld, uSFld, uMet, uMake, tDG, tDI, tDNI, tDP, tDD, uMk, uRaise, uDelSl, tCallS, L2.WE, uStr_e1, uStr_e2, uMul2_e1, uMul2_e2, okS_i, okS_s, List.zip_cons_cons, List.zip_nil_left, List.drop_zero, List.drop_succ_cons, List.drop_nil, putF_nil, putF_cons, eq_self, tDNewK, tB, Option.isSome_some, Option.isSome_none, false_and, false_or, or_false, exists_false, Int.zero_add, uLc, wipe, tYes, isEmpty_app, List.isEmpty_cons, List.isEmpty_nil, List.isEmpty_map, Bool.and_false, Bool.and_true, iRev, K11.lit_0, K11.lit_1, K11.lit_2, K11.lit_3, K11.lit_4, K11.lit_5, K11.lit_6, K11.lit_7, K11.lit_8, K11.lit_9, K11.lit_10, K11.lit_11, K11.lit_12, K11.lit_13, K11.lit_14, K11.lit_15, K11.lit_16, K11.lit_17, K11.lit_18, K11.lit_19, K11.lit_20, K11.lit_21, K11.lit_22, K11.lit_23, K11.lit_24, K11.lit_25, K11.lit_26, K11.lit_27, K11.lit_28, K11.lit_29, K11.lit_30, K11.lit_31, K11.lit_32, K11.lit_33, K11.lit_34, uIntL_e1, uIntL_e2, CwR.tReplC, K11.N_char_at, K11.N_is_in, K11.N_end_of, K11.N_is_name, K11.N_name_end, K11.N_is_keyword_end, K11.N_read_name, K11.N_read_number, K11.N_read_hash, K11.N_read_quoted, K11.N_read_sign, K11.N_read_token, K11.N_skipped, K11.N_tokens_of, K11.N__law_start, K11.N__law_pick, K11.N__law_letters, K11.N__law_source, K11.N__law_run, K11.N__law_word_end, K11.N__law_is_letter, K11.N__law_name_end, K11.N__law_colon, K11.N__law_skip, K11.N__law_symbol_end, K11.N__law_token_end, K11.N__law_is_token, K11.N__law_tiles, K11.N__law_misfit, K11.N_law])
local macro_rules | `(tactic| walk_at "nn") => `(tactic| first | assumption | exact ne_un (by assumption) | exact ne_un (ne_un (by assumption)) | exact ne_un (ne_un (ne_un (by assumption))) | exact ne_un (ne_un (ne_un (ne_un (by assumption)))))
local macro_rules | `(tactic| walk_at "ne") => `(tactic| first | assumption | (apply Ne.symm; assumption) | exact ne_ud (by assumption) | exact Ne.symm (ne_ud (by assumption)) | exact ne_ud (ne_un (by assumption)) | exact Ne.symm (ne_ud (ne_un (by assumption))) | exact ne_ud (ne_un (ne_un (by assumption))) | exact Ne.symm (ne_ud (ne_un (ne_un (by assumption)))) | exact ne_m (by assumption) (by assumption) | exact Ne.symm (ne_m (by assumption) (by assumption)) | exact ne_n (by assumption) (by walk_at "nn") | exact Ne.symm (ne_n (by assumption) (by walk_at "nn")))
local macro_rules | `(tactic| walk_at "hp") => `(tactic| first | assumption | exact upd_same | (refine Eq.trans (upd_ne ?_) ?_; (focus walk_at "ne"); walk_at "hp"))
local macro_rules | `(tactic| walk_at "sc") => `(tactic| first | (with_reducible assumption) | omega | exact le_line (by (try simp only [List.length_map, List.length_append, List.length_cons, List.length_nil, S_len]); omega) | exact div_s (by omega) | exact mul_r (by omega) | exact mul_l (by omega) | exact pow_s (by omega) | exact mul2_r (by omega) | exact mul2_l (by omega) | exact small4300 (by omega) | exact lt_line (by (try simp only [List.length_map, List.length_append, List.length_cons, List.length_nil, S_len]); omega) | exact ⟨_, by assumption⟩ | (guard_target =~ Exists _; exact ⟨_, .of (by walk_at "hp")⟩) | (guard_target =~ _ ∨ _; exact .inl ⟨_, by assumption⟩) | (guard_target =~ _ ∨ _; exact .inl ⟨_, .of (by walk_at "hp")⟩) | (guard_target =~ _ ∨ _; exact .inr (.inr (.inl ⟨rfl, .inl ⟨_, by walk_at "hp"⟩⟩))) | decide)
local macro_rules | `(tactic| walk_at "kr") => `(tactic| first | (guard_target =~ _ ∧ _; first | refine And.intro (by walk_at "sc") ?_) | (guard_target =~ KW.uIx _ _ _ _ _; first | refine ix_l (by walk_at "hp") (by first | walk_at "hv" | rfl) ?_ | refine ix_t (by walk_at "hp") (by first | walk_at "hv" | rfl) ?_ | refine ix_sl (by assumption) (by walk_at "hv") ?_) | (guard_target =~ KW.uLen _ _ _ _; first | refine len_l (by walk_at "hp") ?_ | refine len_t (by walk_at "hp") ?_ | refine len_sl (by assumption) ?_) | (guard_target =~ KW.uSet _ _ _ _ _; first | refine set_l (by walk_at "hp") (by first | walk_at "hv" | rfl) ?_) | (guard_target =~ L2.gTup _ _ _ _ _ _ _; first | refine tup_l (by walk_at "hp") (by rfl) ?_) | (guard_target =~ KW.uGet _ _ _ _ _; first | refine get_l (by walk_at "hp") (by walk_at "hc") (by decide) (by rfl) ?_) | (guard_target =~ KW.uPut _ _ _ _ _ _; first | refine put_l (by walk_at "hp") (by walk_at "hc") (by decide) (by simp) ?_) | (guard_target =~ KW.uMet.uMt _ _ _ _ _ _ _ _ _; first | refine met_l (by walk_at "hp") (by rfl) ?_) | (guard_target =~ KW.uMet.uMt _ _ _ _ _ _ _ _ _; first | refine ST.met_s (by assumption) (by decide) ?_) | (guard_target =~ ST.spExists _ _ _ _ _; first | refine ST.exists_s (by assumption) ?_) | (guard_target =~ ST.spUsed _ _ _ _ _; first | refine ST.used_s (by assumption) ?_) | (guard_target =~ KW.uGet _ _ _ _ _; first | refine ST.words_s (by assumption) (by walk_at "hc") (by decide) ?_) | (guard_target =~ KW.uDIn _ _ _ _; first | refine din_i (by walk_at "hp") ?_ | refine din_s (by walk_at "hp") ?_) | (guard_target =~ KW.uDGet _ _ _ _; first | refine dget_i (by walk_at "hp") (by walk_at "hv") ?_ | refine dget_s (by walk_at "hp") (by walk_at "hv") ?_) | (guard_target =~ KW.uDPut _ _ _ _ _; first | refine dput_i (by walk_at "hp") (by walk_at "sc") ?_ | refine dput_s (by walk_at "hp") (by walk_at "sc") ?_) | (guard_target =~ KW.uDDel _ _ _ _; first | refine ddel_i (by walk_at "hp") (by walk_at "hv") ?_ | refine ddel_s (by walk_at "hp") (by walk_at "hv") ?_) | (guard_target =~ KW.uMul2 _ _ _ _; first | refine rep_l (by walk_at "hp") (by walk_at "sc") (by walk_at "sc") (by walk_at "sc") ?_) | (guard_target =~ L2.rAppend _ _ _ _; first | refine app_l (by walk_at "hp") (by walk_at "sc") ?_) | (guard_target =~ L2.rPop _ _ _ _; first | refine pop_l (by walk_at "hp") (by walk_at "hv") ?_ | refine pops_l (by walk_at "hp") ?_) | (guard_target =~ L2.rClear _ _ _ _; first | refine clr_l (by walk_at "hp") ?_) | (guard_target =~ L2.rReverse _ _ _ _; first | refine rev_l (by walk_at "hp") ?_) | (guard_target =~ L2.rExtend _ _ _ _; first | refine ext_l (by walk_at "hp") (by walk_at "hp") (by walk_at "sc") ?_) | (guard_target =~ KW.uAdd _ _ _ _ _; first | refine ucat_l (by walk_at "hp") (by walk_at "hp") (by walk_at "sc") ?_) | (guard_target =~ KW.uSl _ _ _ _ _ _; first | refine usl_l (by walk_at "hp") ?_) | (guard_target =~ KW.uTru _ _ _ _; first | refine tru_l (by walk_at "hp") ?_ | refine tru_t (by walk_at "hp") ?_ | refine tru_d (by walk_at "hp") ?_ | refine tru_sl (by assumption) ?_) | (guard_target =~ L2.rIndex _ _ _ _ _; first | refine idx_s (by walk_at "hp") (by assumption) ?_ | refine idx_i (by walk_at "hp") (by assumption) ?_) | (guard_target =~ L2.rIn _ _ _ _ _ _; first | refine in_s (by walk_at "hp") ?_ | refine nin_s (by walk_at "hp") ?_ | refine in_i (by walk_at "hp") ?_ | refine nin_i (by walk_at "hp") ?_) | (guard_target =~ KW.uIsi _ _ _ _; first | refine isi_l (by walk_at "hp") (by decide +kernel) ?_ | refine isi_t (by walk_at "hp") (by decide +kernel) ?_ | refine isi_d (by walk_at "hp") (by decide +kernel) ?_) | (guard_target =~ KW.uList _ _ _ _; first | refine list_l (by walk_at "hp") ?_ | refine list_t (by walk_at "hp") ?_ | refine list_sl (by assumption) ?_) | (guard_target =~ KW.uDict _ _ _; first | refine dict_d (by walk_at "hp") ?_) | (guard_target =~ KW.uSorted _ _ _ _; first | refine srt_l (by walk_at "hp") ?_) | (guard_target =~ KW.uSum _ _ _ _; first | refine sum_l (by walk_at "hp") ?_) | (guard_target =~ KW.uDelC _ _ _ _; first | refine dels_l (by walk_at "hp") (by walk_at "sc") ?_) | (guard_target =~ L2.wAs _ _ _ _ _ _ _ _ _ _; first | refine as_yes (by walk_at "hx") ?_ | refine as_no (by walk_at "hx") ?_) | (guard_target =~ KW.uEf _ _ _ _ _ _ _ _ _; first | refine ef_l (by walk_at "he") (by decide) (by rfl) (by walk_at "hp") (by rfl) ?_) | (guard_target =~ KW.uIsE _ _ _ _ _ _ _; first | refine isE_r (by walk_at "he") (by walk_at "hp") (by walk_at "hk") ?_ | refine isE_t (by walk_at "he") (by walk_at "hp") (by walk_at "hk") ?_))
local macro_rules | `(tactic| walk_at "hv") => `(tactic| first | assumption)
local macro_rules | `(tactic| walk_at "kk") => `(tactic| repeat (first | walk_at "kw" | walk_at "kr"))
local macro_rules | `(tactic| walk_at "hc") => `(tactic| first | fail)
local macro_rules | `(tactic| walk_at "he") => `(tactic| first | exact K11.Txt.e_Malformed (by assumption) | exact K11.Txt.e_Oversized (by assumption))
local macro_rules | `(tactic| walk_at "hx") => `(tactic| first | exact K11.Txt.x_Malformed_KilnwardenError (by assumption) | exact K11.Txt.x_Malformed_Malformed (by assumption) | exact K11.Txt.x_Malformed_Oversized (by assumption) | exact K11.Txt.x_Oversized_KilnwardenError (by assumption) | exact K11.Txt.x_Oversized_Malformed (by assumption) | exact K11.Txt.x_Oversized_Oversized (by assumption))
local macro_rules | `(tactic| walk_at "hk") => `(tactic| first | fail)

section
variable {P : Program} {w : World} {K : Frag} {mg : Str → Option Value} {base : Heap} {a : Ads}
theorem ok_char_at (T : Txt P w K mg a) : Cal P w K mg base 1 "char_at" spCharAt := by
  refine T.d_char_at.ok sc_char_at (fun vs H Q E h => ?_) (fun f cdv A outer s H vs Q E hr h => ⟨_, (pss_one (ps_ret (pe_slice o_sl (kv 0) (po_some (kv 1)) (po_some (pe_op o_add (kv 1) pe_int))))), ?_⟩)
  · obtain ⟨l, i, rfl, _⟩ := h; rfl
  · obtain ⟨l, i, rfl, hl, h⟩ := h
    walk_at "kk"
    have e := cutS_S l i (i + 1)
    rw [show i + 1 - i = 1 by omega] at e
    rw [show ((i : Int) + 1) = ((i + 1 : Nat) : Int) from rfl, e]
    exact h
theorem ok_is_in (T : Txt P w K mg a) : Cal P w K mg base 1 "is_in" spIsIn := by
  refine T.d_is_in.ok sc_is_in (fun vs H Q E h => ?_) (fun f cdv A outer s H vs Q E hr h => ⟨_, (pss_one (ps_ret (pe_and (pe_cmpR (o_ne hr.units) (kv 0) pe_str (nomark _)) (pe_one (pe_cmpR o_in (kv 0) (kv 1) (by rfl)))))), ?_⟩)
  · obtain ⟨l, i, rfl, _⟩ := h; rfl
  · obtain ⟨c, cs, rfl, hl, h⟩ := h
    walk_at "kk"
    match c, hl with
    | [], _ => rw [if_neg (by simp)]; exact h
    | [x], _ => rw [if_pos (by simp), subStr_one]; exact h
theorem ok_end_of (T : Txt P w K mg a) : Cal P w K mg base 2 "end_of" spEndOf := by
  have C_char_at := ok_char_at (P := P) (w := w) (base := base) T
  have C_is_in := ok_is_in (P := P) (w := w) (base := base) T
  refine T.d_end_of.ok sc_end_of (fun vs H Q E h => ?_) (fun f cdv A outer s H vs Q E hr h => ⟨_, (pss_cons (k_while (passes_of rfl) (kt (kc C_is_in (hr.mono (by decide)) (pa_cons (kc C_char_at (hr.mono (by decide)) (pa_cons (kv 0) (pa_cons (kv 1) pa_nil))) (pa_cons (kv 2) pa_nil))))
      (pss_one (ps_aug (i := 1) sc_end_of.nd rfl (Or.inl rfl) pe_int o_iadd)))
      (pss_one (ps_ret (kv 1)))), ?_⟩)
  · obtain ⟨l, cs, i, rfl, _⟩ := h; rfl
  · obtain ⟨l, cs, i, rfl, hl, h⟩ := h
    walk_at "kk"
    refine ⟨fun m σ H' => ∃ j : Nat, σ = [some (.str (S l)), some (.int j), some (.str (S cs))] ∧ H' = H ∧ m = l.length - j ∧ endOf l j cs = endOf l i cs, ⟨_, i, rfl, rfl, rfl, rfl⟩, ?_⟩
    rintro m σ _ ⟨j, rfl, rfl, rfl, he⟩
    walk_at "kk"
    refine charAt_s hl ?_
    refine isIn_s (take1_len _) ?_
    walk_at "kk"
    split
    · rename_i c
      have := endOf_in c
      exact ⟨l.length - (j + 1), by omega, j + 1, rfl, rfl, by rw [← he, ← this.2]⟩
    · rename_i c
      have c' := endOf_out (by simpa using c)
      rw [← c', he]
      exact h
theorem ok_is_name (T : Txt P w K mg a) : Cal P w K mg base 3 "is_name" spIsName := by
  have C_char_at := ok_char_at (P := P) (w := w) (base := base) T
  have C_is_in := ok_is_in (P := P) (w := w) (base := base) T
  have C_end_of := ok_end_of (P := P) (w := w) (base := base) T
  refine T.d_is_name.ok sc_is_name (fun vs H Q E h => ?_) (fun f cdv A outer s H vs Q E hr h => ⟨_, (pss_cons (ps_if (PW.pt (pw_or (pt_not (kt (kc C_is_in (hr.mono (by decide)) (pa_cons (kc C_char_at (hr.mono (by decide)) (pa_cons (kv 0) (pa_cons pe_int pa_nil))) (pa_cons (k_g T.g_LETTERS) pa_nil))))) (pw_or1 (pt_cmpR o_gt (pe_callB c_len (by rfl) T.n_len (by decide +kernel) (pa_cons (kv 0) pa_nil)) (k_g T.g_MOST_NAME) (nomark _)))))
      (pss_one (ps_ret pe_bl))
      pss_nil)
      (pss_one (ps_ret (pe_cmpR (o_eq hr.units) (kc C_end_of (hr.mono (by decide)) (pa_cons (kv 0) (pa_cons pe_int (pa_cons (pe_op o_add (k_g T.g_LETTERS) (k_g T.g_DIGITS)) pa_nil)))) (pe_callB c_len (by rfl) T.n_len (by decide +kernel) (pa_cons (kv 0) pa_nil)) (nomark _))))), ?_⟩)
  · obtain ⟨l, rfl, _⟩ := h; rfl
  · obtain ⟨l, rfl, hl, h⟩ := h
    walk_at "kk"
    refine charAt_s (i := 0) hl ?_
    refine isIn_s (take1_len _) ?_
    have e0 : isName l = (isIn (l.take 1) LET && decide (l.length ≤ 32) && decide (endOf l 0 LD = l.length)) := rfl
    rw [List.drop_zero, show str_0 = LET from rfl, show LET ++ str_1 = LD from rfl]
    walk_at "kk"
    cases c1 : isIn (l.take 1) LET with
    | false =>
      rw [c1] at e0
      rw [if_pos rfl]
      rw [e0] at h; exact h
    | true =>
      rw [c1] at e0
      rw [if_neg (by simp)]
      have hl' := le_line (n := l.length) (by omega)
      refine ⟨hl', ?_⟩
      split
      · rw [decide_eq_false (by omega)] at e0
        rw [e0] at h; exact h
      · rw [decide_eq_true (show l.length ≤ 32 by omega)] at e0
        refine ⟨le_line (by decide), ?_⟩
        refine endOf_s (i := 0) hl ?_
        refine ⟨hl', ?_⟩
        walk_at "kk"
        rw [e0] at h
        first | exact h | (simp at h ⊢; exact h)
theorem ok_name_end (T : Txt P w K mg a) : Cal P w K mg base 4 "name_end" spNameEnd := by
  have C_end_of := ok_end_of (P := P) (w := w) (base := base) T
  have C_is_name := ok_is_name (P := P) (w := w) (base := base) T
  refine T.d_name_end.ok sc_name_end (fun vs H Q E h => ?_) (fun f cdv A outer s H vs Q E hr h => ⟨_, (pss_cons (ps_set (i := 2) sc_name_end.nd rfl (Or.inl rfl) (kc C_end_of (hr.mono (by decide)) (pa_cons (kv 0) (pa_cons (kv 1) (pa_cons (pe_op o_add (k_g T.g_LETTERS) (k_g T.g_DIGITS)) pa_nil)))))
      (pss_one (ps_ret (pe_ifExp (kt (kc C_is_name (hr.mono (by decide)) (pa_cons (pe_slice o_sl (kv 0) (po_some (kv 1)) (po_some (kv 2))) pa_nil))) (kv 2) pe_non)))), ?_⟩)
  · obtain ⟨l, i, rfl, _⟩ := h; rfl
  · obtain ⟨l, i, rfl, hl, h⟩ := h
    walk_at "kk"
    rw [show str_0 ++ str_1 = LD from rfl]
    refine endOf_s hl ?_
    refine ⟨_, rfl, le_line (by omega), ?_⟩
    rw [cut_sub l rfl rfl]
    refine isName_s (by rw [sub_len]; omega) ?_
    walk_at "kk"
    unfold nameEnd at h
    split
    · rename_i c
      rw [if_pos c] at h; exact h
    · rename_i c
      rw [if_neg c] at h; exact h
theorem ok_is_keyword_end (T : Txt P w K mg a) : Cal P w K mg base 2 "is_keyword_end" spKwEnd := by
  have C_char_at := ok_char_at (P := P) (w := w) (base := base) T
  refine T.d_is_keyword_end.ok sc_is_keyword_end (fun vs H Q E h => ?_) (fun f cdv A outer s H vs Q E hr h => ⟨_, (pss_one (ps_ret (pe_and (pe_cmpR (o_eq hr.units) (kc C_char_at (hr.mono (by decide)) (pa_cons (kv 0) (pa_cons (kv 1) pa_nil))) pe_str (nomark _)) (pe_one (pe_cmpR (o_ne hr.units) (kc C_char_at (hr.mono (by decide)) (pa_cons (kv 0) (pa_cons (pe_op o_add (kv 1) pe_int) pa_nil))) pe_str (nomark _)))))), ?_⟩)
  · obtain ⟨l, i, rfl, _⟩ := h; rfl
  · obtain ⟨l, i, rfl, hl, h⟩ := h
    walk_at "kk"
    refine charAt_s hl ?_
    walk_at "kk"
    have e0 : kwEnd l i = (decide (l[i]? = some 58) && !decide (l[i + 1]? = some 61)) := rfl
    by_cases c : l[i]? = some 58
    · rw [if_pos ((ch_eq l i 58).mpr c)]
      refine charAt_s (i := i + 1) hl ?_
      walk_at "kk"
      rw [decide_eq_true c] at e0
      rw [e0] at h
      by_cases c2 : l[i + 1]? = some 61
      · rw [decide_eq_true c2] at h
        simpa [(ch_eq l (i + 1) 61).mpr c2] using h
      · rw [decide_eq_false c2] at h
        have : ¬ (l.drop (i + 1)).take 1 = [61] := fun z => c2 ((ch_eq l (i + 1) 61).mp z)
        simpa [this] using h
    · rw [if_neg (fun z => c ((ch_eq l i 58).mp z))]
      rw [decide_eq_false c] at e0
      rw [e0] at h; exact h
end
end K11

set_option Elab.async false
set_option linter.all false
set_option maxRecDepth 100000
set_option maxHeartbeats 4000000
/-! Lx3: whole texts -/
namespace LX
open PySem PySem.Spec PyProof.Rows L2 KW
def rdTok (l : List Nat) (i : Nat) : Option (TK × TV × Nat) := match l[i]? with
  | none => none
  | some c =>
    if c ∈ LET then (rdName l i).map fun x => (x.1, .txt x.2.1, x.2.2)
    else if c ∈ DIG then (rdNum l i).map fun x => (.number, .num (NumText.digitsVal x.1), x.2)
    else if c = 35 then (rdHash l i).map fun x => (.symbol, .txt x.1, x.2)
    else if c = 39 then (rdQuo l i).map fun x => (.symbol, .txt x.1, x.2)
    else if c ∈ SGN then some (.sign, .txt (rdSign l i).1, (rdSign l i).2)
    else if c = 58 ∧ l[i + 1]? = some 61 then some (.mark, .txt [58, 61], i + 2)
    else if c ∈ MRK then some (.mark, .txt [c], i + 1)
    else none
def skp (l : List Nat) : Nat → Nat → Nat ⊕ Nat
  | 0, i => .inr i
  | f + 1, i => match l[i]? with
    | none => .inr i
    | some c => if c = 34 then (match findFrom l 34 (i + 1) with
        | none => .inl i
        | some e => skp l f (e + 1))
      else if c = 32 ∨ c = 10 then skp l f (i + 1) else .inr i
structure Tr where
  i : Nat
  k : TK
  v : TV
def lexGo (l : List Nat) : Nat → Nat → List Tr → Nat ⊕ List Tr
  | 0, _, acc => .inr acc
  | f + 1, i, acc => if i < l.length then (match rdTok l i with
      | none => .inl i
      | some (k, v, j) => match skp l (l.length + 1) j with
        | .inl e => .inl e
        | .inr j' => lexGo l f j' (acc ++ [⟨i, k, v⟩]))
    else .inr acc
def lex (l : List Nat) : Nat ⊕ List Tr := match skp l (l.length + 1) 0 with
  | .inl e => .inl e
  | .inr i => lexGo l (l.length + 1) i []
/-- the tokens in the heap -/
structure Tks (H : Hp) (tl : Addr) (ts : List Tr) (as : List Addr) : Prop where
  li : H tl = some (.lst (as.map V.ref))
  len : as.length = ts.length
  tk : ∀ (j : Nat) (t : Tr) (p : Addr), ts[j]? = some t → as[j]? = some p → TkAt H p t.i t.k t.v
def spRdTok (MF : Addr) : Sp := fun vs H Q E => ∃ (l : List Nat) (i : Nat), vs = [.str (S l), .int i] ∧ l.length ≤ 10000 ∧ i < l.length ∧ (rdTok l i = none → Bad MF E H i) ∧ ∀ k v j, rdTok l i = some (k, v, j) → Told Q H i k v j
def spSkip (MF : Addr) : Sp := fun vs H Q E => ∃ (l : List Nat) (i : Nat), vs = [.str (S l), .int i] ∧ l.length ≤ 10000 ∧ (∀ e, skp l (l.length + 1) i = .inl e → Bad MF E H e) ∧ ∀ j, skp l (l.length + 1) i = .inr j → Q (.int j) H
def spTokens (MF OV : Addr) : Sp := fun vs H Q E => ∃ (l : List Nat), vs = [.str (S l)] ∧ l.length ≤ 10000 ∧ (4000 < l.length → ∀ d, H d = none → E (.ref OV) (some d) (upd H d (.xd [("limit", .str (S [115, 111, 117, 114, 99, 101]))]))) ∧
  (l.length ≤ 4000 → (∀ e, lex l = .inl e → ∀ H', KW.Fr [] H H' → Bad MF E H' e) ∧ ∀ ts, lex l = .inr ts → ∀ tl as H', KW.Fr [] H H' → Tks H' tl ts as → Q (.ref tl) H')
theorem hashGo_le {l : List Nat} : ∀ (f : Nat) (t : List Nat) (s : Nat), s ≤ (hashGo l f t s).2
  | 0, t, s => Nat.le_refl _
  | f + 1, t, s => by
    rw [hashGo]
    split
    · split
      · exact Nat.le_refl _
      · rename_i e he
        split
        · have h1 := hashGo_le (l := l) f (t ++ sub l s (e + 1)) (e + 1)
          have h2 : s ≤ e := by
            unfold nameEnd at he
            split at he
            · cases he; exact endOf_ge _ _ _
            · cases he
          omega
        · exact Nat.le_refl _
    · exact Nat.le_refl _
theorem quoGo_lt {l : List Nat} : ∀ (f : Nat) (t : List Nat) (s : Nat) (u : List Nat) (j : Nat), quoGo l f t s = some (u, j) → s < j
  | 0, t, s, u, j, h => by cases h
  | f + 1, t, s, u, j, h => by
    rw [quoGo] at h
    split at h
    · cases h
    · rename_i e he
      obtain ⟨h1, _⟩ := findFrom_some.mp he
      split at h
      · have := quoGo_lt f _ _ _ _ h; omega
      · cases h; omega
theorem nameEnd_gt {l : List Nat} {i s : Nat} (h : nameEnd l i = some s) : i < s := by
  unfold nameEnd at h
  split at h
  · rename_i c
    cases h
    have h1 := endOf_ge l LD i
    rcases Nat.lt_or_ge i (endOf l i LD) with q | q
    · exact q
    · have e : endOf l i LD = i := by omega
      rw [e] at c
      have : sub l i i = [] := by unfold sub; simp
      rw [this] at c
      cases c
  · cases h
theorem rdTok_gt {l : List Nat} {i j : Nat} {k : TK} {v : TV} (h : rdTok l i = some (k, v, j)) : i < j := by
  unfold rdTok at h
  split at h
  · cases h
  rename_i c hc
  split at h
  · obtain ⟨⟨a, b, d⟩, h1, h2⟩ := Option.map_eq_some_iff.mp h
    cases h2
    unfold rdName at h1
    split at h1
    · cases h1
    · rename_i s hs
      have := nameEnd_gt hs
      split at h1
      · cases h1; dsimp only; omega
      · cases h1; exact this
  split at h
  · rename_i hd
    obtain ⟨⟨a, b⟩, h1, h2⟩ := Option.map_eq_some_iff.mp h
    cases h2
    unfold rdNum at h1
    split at h1
    · cases h1
    · cases h1
      have h3 := sub_run_head hc hd
      have h4 := (List.getElem?_eq_some_iff.mp h3).1
      rw [sub_len] at h4
      dsimp only; omega
  split at h
  · obtain ⟨⟨a, b⟩, h1, h2⟩ := Option.map_eq_some_iff.mp h
    cases h2
    unfold rdHash at h1
    split at h1
    · split at h1
      · cases h1
      · rename_i k t s hs
        have hs2 : i + 1 < s := by
          unfold rdName at hs
          split at hs
          · cases hs
          · rename_i e he
            have := nameEnd_gt he
            split at hs
            · cases hs; omega
            · cases hs; exact this
        split at h1
        · have h3 : b = (hashGo l l.length t s).2 := by rw [Option.some.inj h1]
          have := hashGo_le (l := l) l.length t s
          dsimp only; omega
        · cases h1; dsimp only; omega
    · cases h1
  split at h
  · obtain ⟨⟨a, b⟩, h1, h2⟩ := Option.map_eq_some_iff.mp h
    cases h2
    have := quoGo_lt _ _ _ _ _ h1
    dsimp only; omega
  split at h
  · cases h
    unfold rdSign
    split <;> (dsimp only; omega)
  split at h
  · cases h; omega
  split at h
  · cases h; omega
  · cases h
theorem skp_ge {l : List Nat} : ∀ (f i j : Nat), skp l f i = .inr j → i ≤ j
  | 0, i, j, h => by cases h; exact Nat.le_refl _
  | f + 1, i, j, h => by
    rw [skp] at h
    split at h
    · cases h; exact Nat.le_refl _
    · split at h
      · split at h
        · cases h
        · rename_i e he
          obtain ⟨h1, _⟩ := findFrom_some.mp he
          have := skp_ge f _ _ h; omega
      · split at h
        · have := skp_ge f _ _ h; omega
        · cases h; exact Nat.le_refl _
theorem nameEnd_le {l : List Nat} {i s : Nat} (h : nameEnd l i = some s) : s ≤ l.length := by
  unfold nameEnd at h
  split at h
  · rename_i c
    cases h
    by_cases q : i ≤ l.length
    · exact endOf_le q
    · have : sub l i (endOf l i LD) = [] := by unfold sub; rw [List.drop_eq_nil_of_le (by omega)]; simp
      rw [this] at c; cases c
  · cases h
theorem kwEnd_lt {l : List Nat} {s : Nat} (h : kwEnd l s = true) : s < l.length := by
  unfold kwEnd at h
  simp only [Bool.and_eq_true, decide_eq_true_eq] at h
  exact (List.getElem?_eq_some_iff.mp h.1).1
theorem rdName_le {l : List Nat} {i j : Nat} {k : TK} {t : List Nat} (h : rdName l i = some (k, t, j)) : j ≤ l.length ∧ t.length ≤ j := by
  unfold rdName at h
  split at h
  · cases h
  · rename_i s hs
    split at h
    · rename_i c
      cases h
      have := kwEnd_lt c
      exact ⟨by omega, by rw [sub_len]; omega⟩
    · cases h
      exact ⟨nameEnd_le hs, by rw [sub_len]; omega⟩
theorem Tks.fr0 {H H' : Hp} {tl : Addr} {ts : List Tr} {as : List Addr} (s : Tks H tl ts as) (f : KW.Fr [] H H') : Tks H' tl ts as := ⟨f _ _ (by simp) s.li, s.len, fun j t p h1 h2 => f _ _ (by simp) (s.tk j t p h1 h2)⟩
theorem Tks.add {H : Hp} {tl q : Addr} {ts : List Tr} {as : List Addr} {i : Nat} {k : TK} {v : TV} (s : Tks H tl ts as) (h : TkAt H q i k v) : Tks (upd H tl (.lst (as.map V.ref ++ [.ref q]))) tl (ts ++ [⟨i, k, v⟩]) (as ++ [q]) := by
  have ne : ∀ {p : Addr} {xs : List V}, H p = some (.tup xs) → p ≠ tl := fun h z => by rw [z, s.li] at h; cases h
  refine ⟨by rw [upd_same, List.map_append]; rfl, by simp [s.len], fun j t p h1 h2 => ?_⟩
  unfold TkAt
  have key : TkAt H p t.i t.k t.v := by
    by_cases c : j < ts.length
    · rw [List.getElem?_append_left c] at h1
      rw [List.getElem?_append_left (by rw [s.len]; exact c)] at h2
      exact s.tk j t p h1 h2
    · rw [List.getElem?_append_right (by omega)] at h1
      rw [List.getElem?_append_right (by rw [s.len]; omega), s.len] at h2
      have e1 := List.mem_of_getElem? h1
      have e2 := List.mem_of_getElem? h2
      simp at e1 e2
      subst e1; subst e2; exact h
  rw [upd_ne (ne key)]; exact key
end LX

set_option Elab.async false
set_option linter.all false
set_option maxRecDepth 100000
set_option maxHeartbeats 4000000
/-! Lx4: the law's side -/
namespace LX
open PySem PySem.Spec PyProof.Rows L2 KW
/-- the state of the drawing stands at st -/
def Sta (K : Frag) (H : Hp) (st : Addr) : Prop := ∃ (sc : Addr) (ns : List Int) (i : Nat) (b s : Int), H st = some (.lst [.ref sc, .int i, .int b, .int s]) ∧ SqL K H sc (ns.map .int) ∧ i ≤ ns.length ∧ ns.length ≤ 63 ∧ 0 ≤ b ∧ 0 ≤ s ∧ s < 2147483648
def sp_start (K : Frag) : Sp := fun vs H Q _ => ∃ (sc : Addr) (ns : List Int), vs = [.ref sc] ∧ SqL K H sc (ns.map .int) ∧ ns.length ≤ 63 ∧ ∀ st H', Sta K H' st → Q (.ref st) H'
def sp_pick (K : Frag) : Sp := fun vs H Q _ => ∃ (st : Addr) (n : Int), vs = [.ref st, .int n] ∧ 0 < n ∧ n ≤ 1000000 ∧ Sta K H st ∧ ∀ r H', Sta K H' st → But st H H' → 0 ≤ r → r < n → Q (.int r) H'
theorem But.int {K : Frag} {H H' : Hp} {st sc : Addr} {a : Addr} {r : List V} {ns : List Int} (h : H st = some (.lst (.ref a :: r))) (b : But st H H') (hS : SqL K H sc (ns.map .int)) : SqL K H' sc (ns.map .int) := by
  have ne : ∀ u, H sc = some u → (u = .lst (ns.map .int) ∨ ∃ o, u = .frz o (.lst (ns.map .int))) → sc ≠ st := by
    rintro u e hu rfl
    rw [h] at e
    cases e
    rcases hu with hu | ⟨o, hu⟩
    · injection hu with hu
      cases ns <;> cases hu
    · cases hu
  rcases hS with (q | ⟨o, q⟩) | q
  · exact .inl (.inl (b _ _ (ne _ q (.inl rfl)) q))
  · exact .inl (.inr ⟨o, b _ _ (ne _ q (.inr ⟨o, rfl⟩)) q⟩)
  · exact .inr q

def spLetters : Sp := fun vs H Q _ => vs = [] ∧ Q (.str (S LET)) H
def spRun : Sp := fun vs H Q _ => ∃ (l cs : List Nat) (i : Nat), vs = [.str (S l), .int i, .str (S cs)] ∧ l.length ≤ 10000 ∧ Q (.int (endOf l i cs)) H
def spWordEnd : Sp := fun vs H Q _ => ∃ (l : List Nat) (i : Nat), vs = [.str (S l), .int i] ∧ l.length ≤ 10000 ∧ Q (.int (endOf l i LD)) H
def isLet (l : List Nat) (i : Nat) : Bool := isIn ((l.drop i).take 1) LET
def spIsLetter : Sp := fun vs H Q _ => ∃ (l : List Nat) (i : Nat), vs = [.str (S l), .int i] ∧ l.length ≤ 10000 ∧ Q (.bl (isLet l i)) H
def lName (l : List Nat) (i : Nat) : Nat := match nameEnd l i with
  | some s => s
  | none => i
def spLName : Sp := fun vs H Q _ => ∃ (l : List Nat) (i : Nat), vs = [.str (S l), .int i] ∧ l.length ≤ 10000 ∧ Q (.int (lName l i)) H
def lSkip (l : List Nat) (i : Nat) : Nat := match skp l (l.length + 1) i with
  | .inl e => e
  | .inr j => j
def spLSkip : Sp := fun vs H Q _ => ∃ (l : List Nat) (i : Nat), vs = [.str (S l), .int i] ∧ l.length ≤ 10000 ∧ Q (.int (lSkip l i)) H
theorem all_run {r cs : List Nat} (h : ∀ c ∈ r, c ∈ cs) : r.takeWhile (fun c => decide (c ∈ cs)) = r := by
  induction r with
  | nil => rfl
  | cons c r ih => rw [List.takeWhile_cons_of_pos (by simpa using h c (by simp)), ih fun d hd => h d (by simp [hd])]
theorem lName_eq (l : List Nat) (i : Nat) : lName l i = if isLet l i = false ∨ 32 < endOf l i LD - i then i else endOf l i LD := by
  unfold lName nameEnd
  have e1 : (sub l i (endOf l i LD)).take 1 = if isLet l i = true then (l.drop i).take 1 else (sub l i (endOf l i LD)).take 1 := by
    split
    · rename_i c
      unfold isLet at c
      rw [isIn_at] at c
      cases e : l[i]? with
      | none => rw [e] at c; cases c
      | some d =>
        rw [e] at c
        have hd : d ∈ LD := List.mem_append.mpr (.inl (of_decide_eq_true c))
        rw [sub_run, drop_one e, List.takeWhile_cons_of_pos (by simpa using hd)]; rfl
    · rfl
  have e2 : endOf (sub l i (endOf l i LD)) 0 LD = (sub l i (endOf l i LD)).length := by
    unfold endOf
    rw [List.drop_zero, Nat.zero_add, all_run]
    intro c hc
    exact sub_run_mem hc
  have e3 : (sub l i (endOf l i LD)).length = endOf l i LD - i := by
    rw [sub_run]; unfold endOf; omega
  unfold isName
  rw [decide_eq_true e2, e3, Bool.and_true]
  by_cases c : isLet l i = true
  · rw [if_pos c] at e1
    rw [e1]
    have c' : isIn ((l.drop i).take 1) LET = true := c
    rw [c', Bool.true_and]
    by_cases c2 : endOf l i LD - i ≤ 32
    · rw [if_pos (decide_eq_true c2), if_neg (by rintro (z | z); rw [c] at z; cases z; omega)]
    · rw [if_neg (by simpa using c2), if_pos (.inr (by omega))]
  · have c' : isLet l i = false := by simpa using c
    have h0 : isIn ((l.drop i).take 1) LET = false := c'
    rw [isIn_at] at h0
    have z1 : isIn ((sub l i (endOf l i LD)).take 1) LET = false := by
      cases e : l[i]? with
      | none => rw [sub_run, List.drop_eq_nil_of_le (List.getElem?_eq_none_iff.mp e)]; rfl
      | some d =>
        rw [e] at h0
        rw [sub_run, drop_one e]
        by_cases hd : d ∈ LD
        · rw [List.takeWhile_cons_of_pos (by simpa using hd)]; exact h0
        · rw [List.takeWhile_cons_of_neg (by simpa using hd)]; rfl
    rw [z1, Bool.false_and, if_pos (Or.inl c'), if_neg (by simp)]
def dbl : List Nat → List Nat
  | [] => []
  | c :: r => (if c = 39 then [39, 39] else [c]) ++ dbl r
theorem dbl_replL : ∀ t : List Nat, PySem.StrLaws.replL [39] [39, 39] t = dbl t
  | [] => PySem.StrLaws.replL_nil
  | c :: r => by
    by_cases h : c = 39
    · rw [PySem.StrLaws.replL_hit (by simp) (by rw [h]; rfl), dbl, if_pos h]
      exact congrArg ([39, 39] ++ ·) (dbl_replL r)
    · rw [PySem.StrLaws.replL_miss (by simpa using h), dbl, if_neg h, dbl_replL r]; rfl
theorem S_cps (s : Str) : s = S s.cps.toList := rfl
theorem replace_dbl (t : List Nat) : Txt.replace (S t) (S [39]) (S [39, 39]) = S (dbl t) := by
  have h := PySem.StrLaws.replace_list (x := S t) (y := S [39]) (z := S [39, 39]) (Nat.le_refl 1)
  rw [S_cps (Txt.replace (S t) (S [39]) (S [39, 39])), h]
  exact congrArg S (dbl_replL t)
theorem dbl_len : ∀ t : List Nat, (dbl t).length ≤ 2 * t.length
  | [] => Nat.le_refl _
  | c :: r => by
    have := dbl_len r
    rw [dbl, List.length_append, List.length_cons]
    split <;> simp <;> omega
/-- pairs of quote signs taken out -/
def undbl : List Nat → List Nat
  | 39 :: 39 :: r => undbl r
  | c :: r => c :: undbl r
  | [] => []
def spSource (K : Frag) : Sp := fun vs H Q _ => ∃ (st : Addr), vs = [.ref st] ∧ Sta K H st ∧ ∀ l H', l.length ≤ 9000 → Q (.str (S l)) H'
def symGo (l : List Nat) (i e : Nat) : Nat → Nat → Nat
  | 0, _ => i
  | f + 1, s => if s < l.length ∧ kwEnd l s = true then
      (if s + 1 = e ∧ (lName l (s + 1) = s + 1 ∨ kwEnd l (lName l (s + 1)) = false) then e
       else if lName l (s + 1) = s + 1 then i else symGo l i e f (lName l (s + 1)))
    else i
def lSym (l : List Nat) (i : Nat) (t : List Nat) : Nat :=
  if l[i]? = some 39 then
    (if sub l i (i + ([39] ++ dbl t ++ [39]).length) = [39] ++ dbl t ++ [39] ∧ l[i + ([39] ++ dbl t ++ [39]).length]? ≠ some 39 then i + ([39] ++ dbl t ++ [39]).length else i)
  else if l[i]? ≠ some 35 ∨ sub l (i + 1) (i + 1 + t.length) ≠ t then i
  else if lName l (i + 1) = i + 1 ∨ kwEnd l (lName l (i + 1)) = false then
    (if lName l (i + 1) = i + 1 + t.length ∧ i + 1 < lName l (i + 1) then lName l (i + 1) else i)
  else symGo l i (i + 1 + t.length) (l.length + 1) (lName l (i + 1))
def spSymEnd : Sp := fun vs H Q _ => ∃ (l : List Nat) (i : Nat) (t : List Nat), vs = [.str (S l), .int i, .str (S t)] ∧ l.length ≤ 4000 ∧ t.length ≤ 4000 ∧ i < l.length ∧ Q (.int (lSym l i t)) H
theorem pick_s {K : Frag} {H : Hp} {st : Addr} {n : Int} {Q : VK} {E : XK} (h0 : 0 < n) (h1 : n ≤ 1000000) (s : Sta K H st) (q : ∀ r H', Sta K H' st → 0 ≤ r → r < n → Q (.int r) H') : sp_pick K [.ref st, .int n] H Q E := ⟨st, n, rfl, h0, h1, s, fun r H' s' _ h2 h3 => q r H' s' h2 h3⟩
theorem repS_S (c k : Nat) : repS (S [c]) k = S (List.replicate k c) := by
  unfold repS
  exact congrArg S List.flatten_replicate_singleton
theorem S_app' (a b : List Nat) : S a ++ S b = S (a ++ b) := by
  show Str.mk (a.toArray ++ b.toArray) = _
  rw [List.append_toArray]
theorem Sta_new {K : Frag} {H : Hp} {st p : Addr} {o : HO} (s : Sta K H st) (hp : H p = none) : p ≠ st ∧ Sta K (upd H p o) st := by
  obtain ⟨sc, ns, i, b, x, h1, h2, h3⟩ := s
  have n : st ≠ p := ne_of_none h1 hp
  exact ⟨Ne.symm n, sc, ns, i, b, x, by rw [upd_ne n]; exact h1, KW.SqL.new hp h2, h3⟩
theorem rep_bound {n : Nat} {most r : Int} (hn : 0 < n) (h0 : 0 ≤ most) (hm : most ≤ 4600) (r0 : 0 ≤ r) (r1 : r < 1 + most / (n : Int)) : n * (1 + r).toNat ≤ n + 4600 := by
  obtain ⟨k, rfl⟩ : ∃ k : Nat, r = k := ⟨r.toNat, by omega⟩
  obtain ⟨m, rfl⟩ : ∃ m : Nat, most = m := ⟨most.toNat, by omega⟩
  have e : ((m : Int) / (n : Int)) = ((m / n : Nat) : Int) := rfl
  rw [e] at r1
  have h1 : k ≤ m / n := by omega
  have h2 := Nat.mul_div_le m n
  have h3 := Nat.mul_le_mul_left n h1
  have h4 : (1 + (k : Int)).toNat = 1 + k := by omega
  rw [h4, Nat.mul_add, Nat.mul_one]
  omega
end LX

set_option Elab.async false
set_option linter.all false
set_option maxRecDepth 100000
set_option maxHeartbeats 4000000
namespace K11
open PySem PySem.Spec PyProof.Rows L2 KW LX
local macro_rules | `(tactic| walk_at "kw") => `(tactic| simp only [tSeq, tNext, tIfS, tTest, tAnd, tOr, tNot, tAndV, tOrV, tNotV, tIf, tChain, tOp, tUn, tC, tAsg, gName, gSub, gCons, gNil, tRet, tRetN, tDrop, tCons, tNil, tCB, tAug, tSl, tPart, tNoPart, tLst, tTup, tBM, tBM0, uTest, uFor, iRng1, iRng2, iList, uCall, List.map_cons, List.map_nil, List.length_cons, List.length_nil, List.cons_append, List.nil_append, List.replicate, Nat.zero_add, Nat.reduceAdd, Nat.reduceSub, List.getElem?_cons_zero, List.getElem?_cons_succ, List.set_cons_zero, List.set_cons_succ, V.bl.injEq, V.int.injEq, V.str.injEq, V.ref.injEq, V.ty.injEq, List.cons.injEq, and_true, true_and, exists_eq_left', exists_eq_right, exists_eq_left, exists_and_left, exists_and_right, decide_eq_true_eq, Bool.not_eq_true', decide_eq_false_iff_not, Bool.false_eq_true, if_true, if_false, ite_true, ite_false, Bool.not_true, Bool.not_false, reduceCtorEq, decide_true, decide_false, Bool.not_not, isK_int_int, isK_int_bool, isK_int_str, isK_int_list, isK_int_tuple, isK_bool_int, isK_bool_bool, isK_bool_str, isK_str_str, isK_str_int, isK_str_bool, isK_str_tuple, isK_str_list, isK_list_list, isK_list_tuple, isK_tuple_tuple, isK_tuple_list, isOk_int_int, isOk_int_bool, isOk_int_str, isOk_int_list, isOk_int_tuple, isOk_bool_int, isOk_bool_bool, isOk_bool_str, isOk_str_str, isOk_str_int, isOk_str_bool, isOk_str_tuple, isOk_str_list, isOk_list_list, isOk_list_tuple, isOk_tuple_tuple, isOk_tuple_list, isK_dict_dict, isOk_dict_dict, isK_none_int, isK_none_bool, isOk_none_int, isOk_none_bool, tyV, S_inj, S_cat, L2.start, Nat.reduceSub, List.replicate_succ, List.replicate_zero, and_assoc, List.append_nil, Nat.reduceEqDiff, Option.some.injEq, Int.natCast_inj, upd_upd, Int.reducePow, Int.reduceToNat, Int.reduceMul, Int.reduceAdd, Int.reduceSub, Int.reduceLT, Int.reduceLE, Int.reduceNeg, Int.reduceDiv, Int.reduceMod, Nat.reducePow, Nat.reduceMul, S_len, List.length_append, List.length_map, List.length_range, not_true_eq_false, not_false_eq_true, ne_eq, uAdd_e1, uAdd_e2, uSub_e1, uMod_e1, uDiv_e1, uPow_e1, uShl_e1, uNeg_e1, uIAdd_e1, uIAdd_e2, uIAdd_e3, uISub_e1, uLt_e1, uLt_e2, uLe_e1, uGt_e1, uGe_e1, uEq_e1, uEq_e2, uEq_e3, uEq_e4, uEq_e5, uEq_e6, uEq_e7, uEq_e8, uEq_e9, uEq_e10, uEq_e11, uNe_e1, uNe_e2, uNe_e3, uNe_e4, uNe_e5, uNe_e6, uNe_e7, uNe_e8, uNe_e9, uNe_e10, uNe_e11, uIs_e1, uIs_e2, uIs_e3, uIs_e4, uIs_e5, uIs_e6, uIs_e7, uNotIs_e1, uNotIs_e2, uNotIs_e3, uNotIs_e4, uNotIs_e5, uNotIs_e6, uIn_e1, uIn_e2, uIn_e3, uIn_e4, uNotIn_e1, uNotIn_e2, uNotIn_e3, uNotIn_e4, uTru_e1, uTru_e2, uTru_e3, uTru_e4, uIx_e2, uSl_e2, uLen_e1, uAbs_e1, uInt_e1, uInt_e2, uMin2_e1, uIsi_e1, uIsi_e2, uIsi_e3, uIsi_e4, cx_K, uVar_0, uVar_n, uFld, uSFld, uMet, uMake, tDG, tDI, tDNI, tDP, tDD, uMk, uRaise, uDelSl, tCallS, L2.WE, uStr_e1, uStr_e2, uMul2_e1, uMul2_e2, okS_i, okS_s, List.zip_cons_cons, List.zip_nil_left, List.drop_zero, List.drop_succ_cons, List.drop_nil, putF_nil, putF_cons, eq_self, tDNewK, tB, Option.isSome_some, Option.isSome_none, false_and, false_or, or_false, exists_false, Int.zero_add, uLc, wipe, tYes, isEmpty_app, List.isEmpty_cons, List.isEmpty_nil, List.isEmpty_map, Bool.and_false, Bool.and_true, iRev, K11.lit_0, K11.lit_1, K11.lit_2, K11.lit_3, K11.lit_4, K11.lit_5, K11.lit_6, K11.lit_7, K11.lit_8, K11.lit_9, K11.lit_10, K11.lit_11, K11.lit_12, K11.lit_13, K11.lit_14, K11.lit_15, K11.lit_16, K11.lit_17, K11.lit_18, K11.lit_19, K11.lit_20, K11.lit_21, K11.lit_22, K11.lit_23, K11.lit_24, K11.lit_25, K11.lit_26, K11.lit_27, K11.lit_28, K11.lit_29, K11.lit_30, K11.lit_31, K11.lit_32, K11.lit_33, K11.lit_34, uIntL_e1, uIntL_e2, CwR.tReplC, K11.N_char_at, K11.N_is_in, K11.N_end_of, K11.N_is_name, K11.N_name_end, K11.N_is_keyword_end, K11.N_read_name, K11.N_read_number, K11.N_read_hash, K11.N_read_quoted, K11.N_read_sign, K11.N_read_token, K11.N_skipped, K11.N_tokens_of, K11.N__law_start, K11.N__law_pick, K11.N__law_letters, K11.N__law_source, K11.N__law_run, K11.N__law_word_end, K11.N__law_is_letter, K11.N__law_name_end, K11.N__law_colon, K11.N__law_skip, K11.N__law_symbol_end, K11.N__law_token_end, K11.N__law_is_token, K11.N__law_tiles, K11.N__law_misfit, K11.N_law])
local macro_rules | `(tactic| walk_at "nn") => `(tactic| first | assumption | exact ne_un (by assumption) | exact ne_un (ne_un (by assumption)) | exact ne_un (ne_un (ne_un (by assumption))) | exact ne_un (ne_un (ne_un (ne_un (by assumption)))))
local macro_rules | `(tactic| walk_at "ne") => `(tactic| first | assumption | (apply Ne.symm; assumption) | exact ne_ud (by assumption) | exact Ne.symm (ne_ud (by assumption)) | exact ne_ud (ne_un (by assumption)) | exact Ne.symm (ne_ud (ne_un (by assumption))) | exact ne_ud (ne_un (ne_un (by assumption))) | exact Ne.symm (ne_ud (ne_un (ne_un (by assumption)))) | exact ne_m (by assumption) (by assumption) | exact Ne.symm (ne_m (by assumption) (by assumption)) | exact ne_n (by assumption) (by walk_at "nn") | exact Ne.symm (ne_n (by assumption) (by walk_at "nn")))
local macro_rules | `(tactic| walk_at "hp") => `(tactic| first | assumption | exact upd_same | (refine Eq.trans (upd_ne ?_) ?_; (focus walk_at "ne"); walk_at "hp"))
local macro_rules | `(tactic| walk_at "sc") => `(tactic| first | (with_reducible assumption) | omega | exact le_line (by (try simp only [List.length_map, List.length_append, List.length_cons, List.length_nil, S_len]); omega) | exact div_s (by omega) | exact mul_r (by omega) | exact mul_l (by omega) | exact pow_s (by omega) | exact mul2_r (by omega) | exact mul2_l (by omega) | exact small4300 (by omega) | exact lt_line (by (try simp only [List.length_map, List.length_append, List.length_cons, List.length_nil, S_len]); omega) | exact ⟨_, by assumption⟩ | (guard_target =~ Exists _; exact ⟨_, .of (by walk_at "hp")⟩) | (guard_target =~ _ ∨ _; exact .inl ⟨_, by assumption⟩) | (guard_target =~ _ ∨ _; exact .inl ⟨_, .of (by walk_at "hp")⟩) | (guard_target =~ _ ∨ _; exact .inr (.inr (.inl ⟨rfl, .inl ⟨_, by walk_at "hp"⟩⟩))) | decide)
local macro_rules | `(tactic| walk_at "kr") => `(tactic| first | (guard_target =~ _ ∧ _; first | refine And.intro (by walk_at "sc") ?_) | (guard_target =~ KW.uIx _ _ _ _ _; first | refine ix_l (by walk_at "hp") (by first | walk_at "hv" | rfl) ?_ | refine ix_t (by walk_at "hp") (by first | walk_at "hv" | rfl) ?_ | refine ix_sl (by assumption) (by walk_at "hv") ?_) | (guard_target =~ KW.uLen _ _ _ _; first | refine len_l (by walk_at "hp") ?_ | refine len_t (by walk_at "hp") ?_ | refine len_sl (by assumption) ?_) | (guard_target =~ KW.uSet _ _ _ _ _; first | refine set_l (by walk_at "hp") (by first | walk_at "hv" | rfl) ?_) | (guard_target =~ L2.gTup _ _ _ _ _ _ _; first | refine tup_l (by walk_at "hp") (by rfl) ?_) | (guard_target =~ KW.uGet _ _ _ _ _; first | refine get_l (by walk_at "hp") (by walk_at "hc") (by decide) (by rfl) ?_) | (guard_target =~ KW.uPut _ _ _ _ _ _; first | refine put_l (by walk_at "hp") (by walk_at "hc") (by decide) (by simp) ?_) | (guard_target =~ KW.uMet.uMt _ _ _ _ _ _ _ _ _; first | refine met_l (by walk_at "hp") (by rfl) ?_) | (guard_target =~ KW.uMet.uMt _ _ _ _ _ _ _ _ _; first | refine ST.met_s (by assumption) (by decide) ?_) | (guard_target =~ ST.spExists _ _ _ _ _; first | refine ST.exists_s (by assumption) ?_) | (guard_target =~ ST.spUsed _ _ _ _ _; first | refine ST.used_s (by assumption) ?_) | (guard_target =~ KW.uGet _ _ _ _ _; first | refine ST.words_s (by assumption) (by walk_at "hc") (by decide) ?_) | (guard_target =~ KW.uDIn _ _ _ _; first | refine din_i (by walk_at "hp") ?_ | refine din_s (by walk_at "hp") ?_) | (guard_target =~ KW.uDGet _ _ _ _; first | refine dget_i (by walk_at "hp") (by walk_at "hv") ?_ | refine dget_s (by walk_at "hp") (by walk_at "hv") ?_) | (guard_target =~ KW.uDPut _ _ _ _ _; first | refine dput_i (by walk_at "hp") (by walk_at "sc") ?_ | refine dput_s (by walk_at "hp") (by walk_at "sc") ?_) | (guard_target =~ KW.uDDel _ _ _ _; first | refine ddel_i (by walk_at "hp") (by walk_at "hv") ?_ | refine ddel_s (by walk_at "hp") (by walk_at "hv") ?_) | (guard_target =~ KW.uMul2 _ _ _ _; first | refine rep_l (by walk_at "hp") (by walk_at "sc") (by walk_at "sc") (by walk_at "sc") ?_) | (guard_target =~ L2.rAppend _ _ _ _; first | refine app_l (by walk_at "hp") (by walk_at "sc") ?_) | (guard_target =~ L2.rPop _ _ _ _; first | refine pop_l (by walk_at "hp") (by walk_at "hv") ?_ | refine pops_l (by walk_at "hp") ?_) | (guard_target =~ L2.rClear _ _ _ _; first | refine clr_l (by walk_at "hp") ?_) | (guard_target =~ L2.rReverse _ _ _ _; first | refine rev_l (by walk_at "hp") ?_) | (guard_target =~ L2.rExtend _ _ _ _; first | refine ext_l (by walk_at "hp") (by walk_at "hp") (by walk_at "sc") ?_) | (guard_target =~ KW.uAdd _ _ _ _ _; first | refine ucat_l (by walk_at "hp") (by walk_at "hp") (by walk_at "sc") ?_) | (guard_target =~ KW.uSl _ _ _ _ _ _; first | refine usl_l (by walk_at "hp") ?_) | (guard_target =~ KW.uTru _ _ _ _; first | refine tru_l (by walk_at "hp") ?_ | refine tru_t (by walk_at "hp") ?_ | refine tru_d (by walk_at "hp") ?_ | refine tru_sl (by assumption) ?_) | (guard_target =~ L2.rIndex _ _ _ _ _; first | refine idx_s (by walk_at "hp") (by assumption) ?_ | refine idx_i (by walk_at "hp") (by assumption) ?_) | (guard_target =~ L2.rIn _ _ _ _ _ _; first | refine in_s (by walk_at "hp") ?_ | refine nin_s (by walk_at "hp") ?_ | refine in_i (by walk_at "hp") ?_ | refine nin_i (by walk_at "hp") ?_) | (guard_target =~ KW.uIsi _ _ _ _; first | refine isi_l (by walk_at "hp") (by decide +kernel) ?_ | refine isi_t (by walk_at "hp") (by decide +kernel) ?_ | refine isi_d (by walk_at "hp") (by decide +kernel) ?_) | (guard_target =~ KW.uList _ _ _ _; first | refine list_l (by walk_at "hp") ?_ | refine list_t (by walk_at "hp") ?_ | refine list_sl (by assumption) ?_) | (guard_target =~ KW.uDict _ _ _; first | refine dict_d (by walk_at "hp") ?_) | (guard_target =~ KW.uSorted _ _ _ _; first | refine srt_l (by walk_at "hp") ?_) | (guard_target =~ KW.uSum _ _ _ _; first | refine sum_l (by walk_at "hp") ?_) | (guard_target =~ KW.uDelC _ _ _ _; first | refine dels_l (by walk_at "hp") (by walk_at "sc") ?_) | (guard_target =~ L2.wAs _ _ _ _ _ _ _ _ _ _; first | refine as_yes (by walk_at "hx") ?_ | refine as_no (by walk_at "hx") ?_) | (guard_target =~ KW.uEf _ _ _ _ _ _ _ _ _; first | refine ef_l (by walk_at "he") (by decide) (by rfl) (by walk_at "hp") (by rfl) ?_) | (guard_target =~ KW.uIsE _ _ _ _ _ _ _; first | refine isE_r (by walk_at "he") (by walk_at "hp") (by walk_at "hk") ?_ | refine isE_t (by walk_at "he") (by walk_at "hp") (by walk_at "hk") ?_))
local macro_rules | `(tactic| walk_at "hv") => `(tactic| first | assumption)
local macro_rules | `(tactic| walk_at "kk") => `(tactic| repeat (first | walk_at "kw" | walk_at "kr"))
local macro_rules | `(tactic| walk_at "hc") => `(tactic| first | fail)
local macro_rules | `(tactic| walk_at "he") => `(tactic| first | exact K11.Txt.e_Malformed (by assumption) | exact K11.Txt.e_Oversized (by assumption))
local macro_rules | `(tactic| walk_at "hx") => `(tactic| first | exact K11.Txt.x_Malformed_KilnwardenError (by assumption) | exact K11.Txt.x_Malformed_Malformed (by assumption) | exact K11.Txt.x_Malformed_Oversized (by assumption) | exact K11.Txt.x_Oversized_KilnwardenError (by assumption) | exact K11.Txt.x_Oversized_Malformed (by assumption) | exact K11.Txt.x_Oversized_Oversized (by assumption))
local macro_rules | `(tactic| walk_at "hk") => `(tactic| first | fail)

section
variable {P : Program} {w : World} {K : Frag} {mg : Str → Option Value} {base : Heap} {a : Ads}
theorem ok__law_start (T : Txt P w K mg a) : Cal P w K mg base 1 "_law_start" (sp_start K) := by
  refine T.d__law_start.ok sc__law_start (fun vs H Q E h => ?_) (fun f cdv A outer s H vs Q E hr h => ⟨_, (pss_one (ps_ret (pe_lst (pa_cons (kv 0) (pa_cons pe_int (pa_cons pe_int (pa_cons pe_int pa_nil))))))), ?_⟩)
  · obtain ⟨l, ns, rfl, _⟩ := h; rfl
  · obtain ⟨sc, ns, rfl, hS, hn, h⟩ := h
    walk_at "kw"
    exact ⟨le_line (by decide), fun p hp => h p _ ⟨sc, ns, 0, 0, 7, upd_same, KW.SqL.new hp hS, Nat.zero_le _, hn, by omega, by omega, by omega⟩⟩
theorem ok__law_pick (T : Txt P w K mg a) : Cal P w K mg base 1 "_law_pick" (sp_pick K) := by
  refine T.d__law_pick.ok sc__law_pick (fun vs H Q E h => ?_) (fun f cdv A outer s H vs Q E hr h => ⟨_, (C8.pss_cut (ps_if (PW.pt (pw_and (pt_cmpR (o_eq hr.units) (pe_ix o_ix (kv 0) pe_int (fun _ _ => rfl)) pe_int (nomark _)) (pw_and1 (pt_cmpR o_lt (pe_ix o_ix (kv 0) pe_int (fun _ _ => rfl)) (pe_callB c_len (by rfl) T.n_len (by decide +kernel) (pa_cons (pe_ix o_ix (kv 0) pe_int (fun _ _ => rfl)) pa_nil)) (nomark _)))))
      (pss_cons (ps_set (i := 2) sc__law_pick.nd rfl (Or.inl rfl) (pe_callB c_abs (by rfl) T.n_abs (by decide +kernel) (pa_cons (pe_ix o_ix (pe_ix o_ix (kv 0) pe_int (fun _ _ => rfl)) (pe_ix o_ix (kv 0) pe_int (fun _ _ => rfl)) (fun _ _ => rfl)) pa_nil)))
      (pss_cons (ps_asg (pe_op o_add (pe_ix o_ix (kv 0) pe_int (fun _ _ => rfl)) pe_int) (pg_sub (kv 0) pe_int s_set))
      (pss_one (ps_if (pt_cmpR o_ge (kv 2) (pe_op o_pow pe_int pe_int) (nomark _))
      (pss_one (ps_asg (kv 2) (pg_sub (kv 0) pe_int s_set)))
      (pss_one (ps_asg (pe_op o_add (pe_op o_mod (pe_callTy (c_intL T.dg) (by rfl) T.n_int (by decide +kernel) (pa_cons (pe_op o_add (pe_op o_mul2 (pe_ix o_ix (kv 0) pe_int (fun _ _ => rfl)) pe_int) (kv 2)) pa_nil)) pe_int) pe_int) (pg_sub (kv 0) pe_int s_set)))))))
      pss_nil)
      (pss_cons (ps_if (pt_cmpR o_gt (pe_ix o_ix (kv 0) pe_int (fun _ _ => rfl)) pe_int (nomark _))
      (pss_cons (ps_set (i := 3) sc__law_pick.nd rfl (Or.inl rfl) (pe_op o_mod (pe_callTy (c_intL T.dg) (by rfl) T.n_int (by decide +kernel) (pa_cons (pe_ix o_ix (kv 0) pe_int (fun _ _ => rfl)) pa_nil)) (kv 1)))
      (pss_cons (ps_asg (pe_op o_fdiv (pe_ix o_ix (kv 0) pe_int (fun _ _ => rfl)) (kv 1)) (pg_sub (kv 0) pe_int s_set))
      (pss_one (ps_ret (kv 3)))))
      pss_nil)
      (pss_cons (ps_asg (pe_op o_mod (pe_callTy (c_intL T.dg) (by rfl) T.n_int (by decide +kernel) (pa_cons (pe_op o_mul2 (pe_ix o_ix (kv 0) pe_int (fun _ _ => rfl)) pe_int) pa_nil)) pe_int) (pg_sub (kv 0) pe_int s_set))
      (pss_one (ps_ret (pe_op o_mod (pe_callTy (c_intL T.dg) (by rfl) T.n_int (by decide +kernel) (pa_cons (pe_op o_add (pe_op o_fdiv (pe_ix o_ix (kv 0) pe_int (fun _ _ => rfl)) pe_int) (pe_op o_mod (pe_callTy (c_intL T.dg) (by rfl) T.n_int (by decide +kernel) (pa_cons (pe_op o_mul2 (pe_ix o_ix (kv 0) pe_int (fun _ _ => rfl)) (pe_ix o_ix (kv 0) pe_int (fun _ _ => rfl))) pa_nil)) pe_int)) pa_nil)) (kv 1))))))), ?_⟩)
  · obtain ⟨l, ns, rfl, _⟩ := h; rfl
  · obtain ⟨st, n, rfl, hn0, hn1, ⟨sc, ns, i, b, s, hst, hS, hi, hl, hb, hs0, hs1⟩, h⟩ := h
    walk_at "kk"
    refine ⟨fun σ H' => ∃ (i : Nat) (b s : Int) (c : Option V), σ = [some (.ref st), some (.int n), c, none] ∧ H' st = some (.lst [.ref sc, .int i, .int b, .int s]) ∧ But st H H' ∧ i ≤ ns.length ∧ 0 ≤ b ∧ 0 ≤ s ∧ s < 2147483648, ?_, ?_⟩
    · have hbut : But st H H := .refl _
      walk_at "kk"
      split
      · walk_at "kk"
        split
        · walk_at "kk"
          obtain ⟨c, hc⟩ : ∃ c, ns[i]? = some c := ⟨_, List.getElem?_eq_getElem (by omega)⟩
          refine ix_sl hS (atI_nat (v := .int c) (by rw [List.getElem?_map, hc]; rfl)) ?_
          walk_at "kk"
          have hd : 0 ≤ (if c < 0 then -c else c) := by split <;> omega
          generalize (if c < 0 then -c else c) = d at hd ⊢
          split
          · walk_at "kk"
            exact ⟨i + 1, _, _, upd_same, .upd, by omega, by omega, by omega, by omega⟩
          · walk_at "kk"
            exact ⟨i + 1, _, _, upd_same, .upd, by omega, by omega, by omega, by omega⟩
        · exact ⟨i, b, s, hst, hbut, hi, hb, hs0, hs1⟩
      · exact ⟨i, b, s, hst, hbut, hi, hb, hs0, hs1⟩
    · rintro σ H' ⟨i, b, s, c, rfl, hst', hbut, hi, hb, hs0, hs1⟩
      walk_at "kk"
      split
      · walk_at "kk"
        exact h _ _ ⟨sc, ns, i, _, _, upd_same, But.int hst (hbut.trans .upd) hS, hi, hl, Int.ediv_nonneg hb (by omega), hs0, hs1⟩ (hbut.trans .upd) (Int.emod_nonneg _ (by omega)) (Int.emod_lt_of_pos _ hn0)
      · walk_at "kk"
        exact h _ _ ⟨sc, ns, i, _, _, upd_same, But.int hst (hbut.trans .upd) hS, hi, hl, hb, by omega, by omega⟩ (hbut.trans .upd) (Int.emod_nonneg _ (by omega)) (Int.emod_lt_of_pos _ hn0)
theorem ok__law_letters (T : Txt P w K mg a) : Cal P w K mg base 1 "_law_letters" spLetters := by
  refine T.d__law_letters.ok sc__law_letters (fun vs H Q E h => ?_) (fun f cdv A outer s H vs Q E hr h => ⟨_, (pss_one (ps_ret pe_str)), ?_⟩)
  · obtain ⟨rfl, _⟩ := h; rfl
  · obtain ⟨rfl, h⟩ := h
    walk_at "kk"
    exact h
theorem ok__law_run (T : Txt P w K mg a) : Cal P w K mg base 1 "_law_run" spRun := by
  refine T.d__law_run.ok sc__law_run (fun vs H Q E h => ?_) (fun f cdv A outer s H vs Q E hr h => ⟨_, (pss_cons (k_while (passes_of rfl) (PW.pt (pw_and (pt_cmpR o_lt (kv 1) (pe_callB c_len (by rfl) T.n_len (by decide +kernel) (pa_cons (kv 0) pa_nil)) (nomark _)) (pw_and1 (pt_cmpR o_in (pe_ix o_ix (kv 0) (kv 1) (fun _ _ => rfl)) (kv 2) (by rfl)))))
      (pss_one (ps_set (i := 1) sc__law_run.nd rfl (Or.inl rfl) (pe_op o_add (kv 1) pe_int))))
      (pss_one (ps_ret (kv 1)))), ?_⟩)
  · obtain ⟨l, cs, i, rfl, _⟩ := h; rfl
  · obtain ⟨l, cs, i, rfl, hl, h⟩ := h
    walk_at "kk"
    refine ⟨fun m σ H' => ∃ j : Nat, σ = [some (.str (S l)), some (.int j), some (.str (S cs))] ∧ H' = H ∧ m = l.length - j ∧ endOf l j cs = endOf l i cs, ⟨_, i, rfl, rfl, rfl, rfl⟩, ?_⟩
    rintro m σ _ ⟨j, rfl, rfl, rfl, he⟩
    walk_at "kk"
    split
    · rename_i c
      obtain ⟨d, hd⟩ : ∃ d, l[j]? = some d := ⟨_, List.getElem?_eq_getElem (by omega)⟩
      refine ⟨le_line (by omega), d, atI_nat hd, ?_⟩
      rw [subStr_one]
      have ei : isIn ((l.drop j).take 1) cs = decide (d ∈ cs) := by rw [isIn_at, hd]
      by_cases c2 : d ∈ cs
      · rw [if_pos (decide_eq_true c2)]
        have := (endOf_in (ei.trans (decide_eq_true c2))).2
        exact ⟨l.length - (j + 1), by omega, j + 1, rfl, rfl, by rw [← he, ← this]⟩
      · rw [if_neg (by simpa using c2)]
        have := endOf_out (ei.trans (decide_eq_false c2))
        rw [← this, he]; exact h
    · rename_i c
      have : isIn ((l.drop j).take 1) cs = false := by rw [isIn_at, List.getElem?_eq_none (by omega)]
      rw [← endOf_out this, he]; exact h
theorem ok__law_word_end (T : Txt P w K mg a) : Cal P w K mg base 2 "_law_word_end" spWordEnd := by
  have C__law_letters := ok__law_letters (P := P) (w := w) (base := base) T
  have C__law_run := ok__law_run (P := P) (w := w) (base := base) T
  refine T.d__law_word_end.ok sc__law_word_end (fun vs H Q E h => ?_) (fun f cdv A outer s H vs Q E hr h => ⟨_, (pss_one (ps_ret (kc C__law_run (hr.mono (by decide)) (pa_cons (kv 0) (pa_cons (kv 1) (pa_cons (pe_op o_add (kc0 C__law_letters (hr.mono (by decide))) pe_str) pa_nil)))))), ?_⟩)
  · obtain ⟨l, i, rfl, _⟩ := h; rfl
  · obtain ⟨l, i, rfl, hl, h⟩ := h
    walk_at "kk"
    exact ⟨l, LD, i, rfl, hl, h⟩
theorem ok__law_is_letter (T : Txt P w K mg a) : Cal P w K mg base 2 "_law_is_letter" spIsLetter := by
  have C__law_letters := ok__law_letters (P := P) (w := w) (base := base) T
  refine T.d__law_is_letter.ok sc__law_is_letter (fun vs H Q E h => ?_) (fun f cdv A outer s H vs Q E hr h => ⟨_, (pss_one (ps_ret (pe_and (pe_cmpR o_lt (kv 1) (pe_callB c_len (by rfl) T.n_len (by decide +kernel) (pa_cons (kv 0) pa_nil)) (nomark _)) (pe_one (pe_cmpR o_in (pe_ix o_ix (kv 0) (kv 1) (fun _ _ => rfl)) (kc0 C__law_letters (hr.mono (by decide))) (by rfl)))))), ?_⟩)
  · obtain ⟨l, i, rfl, _⟩ := h; rfl
  · obtain ⟨l, i, rfl, hl, h⟩ := h
    walk_at "kk"
    unfold isLet at h
    split
    · rename_i c
      obtain ⟨d, hd⟩ : ∃ d, l[i]? = some d := ⟨_, List.getElem?_eq_getElem (by omega)⟩
      refine ⟨le_line (by omega), d, atI_nat hd, rfl, ?_⟩
      walk_at "kk"
      rw [subStr_one]
      rw [isIn_at, hd] at h
      exact h
    · rename_i c
      rw [isIn_at, List.getElem?_eq_none (by omega)] at h
      exact h
theorem ok__law_name_end (T : Txt P w K mg a) : Cal P w K mg base 3 "_law_name_end" spLName := by
  have C__law_word_end := ok__law_word_end (P := P) (w := w) (base := base) T
  have C__law_is_letter := ok__law_is_letter (P := P) (w := w) (base := base) T
  refine T.d__law_name_end.ok sc__law_name_end (fun vs H Q E h => ?_) (fun f cdv A outer s H vs Q E hr h => ⟨_, (pss_cons (ps_set (i := 2) sc__law_name_end.nd rfl (Or.inl rfl) (kc C__law_word_end (hr.mono (by decide)) (pa_cons (kv 0) (pa_cons (kv 1) pa_nil))))
      (pss_cons (ps_if (PW.pt (pw_or (pt_not (kt (kc C__law_is_letter (hr.mono (by decide)) (pa_cons (kv 0) (pa_cons (kv 1) pa_nil))))) (pw_or1 (pt_cmpR o_gt (pe_op o_sub (kv 2) (kv 1)) pe_int (nomark _)))))
      (pss_one (ps_ret (kv 1)))
      pss_nil)
      (pss_one (ps_ret (kv 2))))), ?_⟩)
  · obtain ⟨l, i, rfl, _⟩ := h; rfl
  · obtain ⟨l, i, rfl, hl, h⟩ := h
    walk_at "kk"
    refine ⟨l, i, rfl, hl, ?_⟩
    refine ⟨l, i, rfl, hl, ?_⟩
    walk_at "kk"
    rw [lName_eq] at h
    split
    · rename_i c
      rw [if_pos (.inl (by simpa using c))] at h; exact h
    · rename_i c
      have c' : isLet l i = true := by simpa using c
      split
      · rename_i c2
        rw [if_pos (.inr (by omega))] at h; exact h
      · rename_i c2
        rw [if_neg (by rintro (z | z); rw [c'] at z; cases z; omega)] at h; exact h
theorem ok__law_colon (T : Txt P w K mg a) : Cal P w K mg base 1 "_law_colon" spKwEnd := by
  refine T.d__law_colon.ok sc__law_colon (fun vs H Q E h => ?_) (fun f cdv A outer s H vs Q E hr h => ⟨_, (pss_one (ps_ret (pe_and (pe_cmpR (o_eq hr.units) (pe_slice o_sl (kv 0) (po_some (kv 1)) (po_some (pe_op o_add (kv 1) pe_int))) pe_str (nomark _)) (pe_one (pe_cmpR (o_ne hr.units) (pe_slice o_sl (kv 0) (po_some (pe_op o_add (kv 1) pe_int)) (po_some (pe_op o_add (kv 1) pe_int))) pe_str (nomark _)))))), ?_⟩)
  · obtain ⟨l, i, rfl, _⟩ := h; rfl
  · obtain ⟨l, i, rfl, hl, h⟩ := h
    walk_at "kk"
    rw [cut_sub1, sub_one, cut_sub l (i := i + 1) (j := i + 2) (x := (i : Int) + 1) (y := (i : Int) + 2) rfl (by omega), show i + 2 = i + 1 + 1 from rfl, sub_one]
    have e0 : kwEnd l i = (decide (l[i]? = some 58) && !decide (l[i + 1]? = some 61)) := rfl
    have q1 : S ((l.drop i).take 1) = S [58] ↔ l[i]? = some 58 := S_inj.trans (ch_eq l i 58)
    have q2 : S ((l.drop (i + 1)).take 1) = S [61] ↔ l[i + 1]? = some 61 := S_inj.trans (ch_eq l (i + 1) 61)
    by_cases c : l[i]? = some 58
    · rw [if_pos (q1.mpr c)]
      rw [decide_eq_true c] at e0
      rw [e0] at h
      refine ⟨le_line (by omega), ?_⟩
      by_cases c2 : l[i + 1]? = some 61
      · rw [decide_eq_true (q2.mpr c2)]
        rw [decide_eq_true c2] at h; exact h
      · rw [decide_eq_false (fun z => c2 (q2.mp z))]
        rw [decide_eq_false c2] at h; exact h
    · rw [if_neg (fun z => c (q1.mp z))]
      rw [decide_eq_false c] at e0
      rw [e0] at h; exact h
theorem ok__law_skip (T : Txt P w K mg a) : Cal P w K mg base 1 "_law_skip" spLSkip := by
  refine T.d__law_skip.ok sc__law_skip (fun vs H Q E h => ?_) (fun f cdv A outer s H vs Q E hr h => ⟨_, (pss_cons (k_while (passes_of rfl) (pt_cmpR o_lt (kv 1) (pe_callB c_len (by rfl) T.n_len (by decide +kernel) (pa_cons (kv 0) pa_nil)) (nomark _))
      (pss_one (ps_if (pt_cmpR (o_eq hr.units) (pe_ix o_ix (kv 0) (kv 1) (fun _ _ => rfl)) pe_str (nomark _))
      (pss_cons (ps_set (i := 2) sc__law_skip.nd rfl (Or.inl rfl) (pe_bm PySem.F.plainAttrs_str PySem.F.slot_str_find PySem.F.type_str_find mt_find3 (kv 0) (pa_cons pe_str (pa_cons (pe_op o_add (kv 1) pe_int) pa_nil))))
      (pss_cons (ps_if (pt_cmpR o_lt (kv 2) pe_int (nomark _))
      (pss_one (ps_ret (kv 1)))
      pss_nil)
      (pss_one (ps_set (i := 1) sc__law_skip.nd rfl (Or.inl rfl) (pe_op o_add (kv 2) pe_int)))))
      (pss_one (ps_if (PW.pt (pw_or (pt_cmpR (o_eq hr.units) (pe_ix o_ix (kv 0) (kv 1) (fun _ _ => rfl)) pe_str (nomark _)) (pw_or1 (pt_cmpR (o_eq hr.units) (pe_ix o_ix (kv 0) (kv 1) (fun _ _ => rfl)) pe_str (nomark _)))))
      (pss_one (ps_set (i := 1) sc__law_skip.nd rfl (Or.inl rfl) (pe_op o_add (kv 1) pe_int)))
      (pss_one (ps_ret (kv 1))))))))
      (pss_one (ps_ret (kv 1)))), ?_⟩)
  · obtain ⟨l, i, rfl, _⟩ := h; rfl
  · obtain ⟨l, i, rfl, hl, h⟩ := h
    walk_at "kk"
    unfold lSkip at h
    refine ⟨fun m σ H' => ∃ (st : Nat) (v2 : Option V), σ = [some (.str (S l)), some (.int st), v2] ∧ H' = H ∧ skp l m st = skp l (l.length + 1) i ∧ l.length + 1 ≤ m + st, ⟨_, i, _, rfl, rfl, rfl, by omega⟩, ?_⟩
    rintro m σ _ ⟨st, v2, rfl, rfl, hq, hf⟩
    walk_at "kk"
    split
    · rename_i c0
      obtain ⟨c, hc⟩ : ∃ c, l[st]? = some c := ⟨_, List.getElem?_eq_getElem (by omega)⟩
      cases m with
      | zero => omega
      | succ m =>
        rw [skp, hc] at hq
        dsimp only at hq
        have hat : atI l (st : Int) = some c := atI_nat hc
        walk_at "kk"
        refine ⟨c, hat, ?_⟩
        by_cases c1 : c = 34
        · rw [if_pos c1]
          rw [if_pos c1] at hq
          rw [show ((st : Int) + 1) = ((st + 1 : Nat) : Int) from rfl, find3_S]
          cases e : findFrom l 34 (st + 1) with
          | none =>
            rw [e] at hq
            dsimp only
            rw [if_pos (by omega)]
            rw [← hq] at h; exact h
          | some k =>
            rw [e] at hq
            dsimp only
            rw [if_neg (Int.not_lt.mpr (Int.natCast_nonneg k))]
            obtain ⟨k1, _⟩ := findFrom_some.mp e
            exact ⟨m, by omega, k + 1, rfl, hq, by omega⟩
        · rw [if_neg c1]
          rw [if_neg c1] at hq
          refine ⟨le_line (by omega), c, hat, ?_⟩
          by_cases c2 : c = 32
          · rw [if_pos c2]
            rw [if_pos (.inl c2)] at hq
            exact ⟨m, by omega, st + 1, rfl, hq, by omega⟩
          · rw [if_neg c2]
            refine ⟨le_line (by omega), c, hat, ?_⟩
            by_cases c3 : c = 10
            · rw [if_pos c3]
              rw [if_pos (.inr c3)] at hq
              exact ⟨m, by omega, st + 1, rfl, hq, by omega⟩
            · rw [if_neg c3]
              rw [if_neg (by rintro (z | z); exact c2 z; exact c3 z)] at hq
              rw [← hq] at h; exact h
    · rename_i c0
      have : skp l m st = .inr st := by
        cases m with
        | zero => rfl
        | succ m => rw [skp, List.getElem?_eq_none (by omega)]
      rw [← hq, this] at h; exact h
end
end K11

set_option Elab.async false
set_option linter.all false
set_option maxRecDepth 100000
set_option maxHeartbeats 4000000
namespace K11
open PySem PySem.Spec PyProof.Rows L2 KW LX
local macro_rules | `(tactic| walk_at "kw") => `(tactic| simp only [tSeq, tNext, tIfS, tTest, tAnd, tOr, tNot, tAndV, tOrV, tNotV, tIf, tChain, tOp, tUn, tC, tAsg, gName, gSub, gCons, gNil, tRet, tRetN, tDrop, tCons, tNil, tCB, tAug, tSl, tPart, tNoPart, tLst, tTup, tBM, tBM0, uTest, uFor, iRng1, iRng2, iList, uCall, List.map_cons, List.map_nil, List.length_cons, List.length_nil, List.cons_append, List.nil_append, List.replicate, Nat.zero_add, Nat.reduceAdd, Nat.reduceSub, List.getElem?_cons_zero, List.getElem?_cons_succ, List.set_cons_zero, List.set_cons_succ, V.bl.injEq, V.int.injEq, V.str.injEq, V.ref.injEq, V.ty.injEq, List.cons.injEq, and_true, true_and, exists_eq_left', exists_eq_right, exists_eq_left, exists_and_left, exists_and_right, decide_eq_true_eq, Bool.not_eq_true', decide_eq_false_iff_not, Bool.false_eq_true, if_true, if_false, ite_true, ite_false, Bool.not_true, Bool.not_false, reduceCtorEq, decide_true, decide_false, Bool.not_not, isK_int_int, isK_int_bool, isK_int_str, isK_int_list, isK_int_tuple, isK_bool_int, isK_bool_bool, isK_bool_str, isK_str_str, isK_str_int, isK_str_bool, isK_str_tuple, isK_str_list, isK_list_list, isK_list_tuple, isK_tuple_tuple, isK_tuple_list, isOk_int_int, isOk_int_bool, isOk_int_str, isOk_int_list, isOk_int_tuple, isOk_bool_int, isOk_bool_bool, isOk_bool_str, isOk_str_str, isOk_str_int, isOk_str_bool, isOk_str_tuple, isOk_str_list, isOk_list_list, isOk_list_tuple, isOk_tuple_tuple, isOk_tuple_list, isK_dict_dict, isOk_dict_dict, isK_none_int, isK_none_bool, isOk_none_int, isOk_none_bool, tyV, S_inj, S_cat, L2.start, Nat.reduceSub, List.replicate_succ, List.replicate_zero, and_assoc, List.append_nil, Nat.reduceEqDiff, Option.some.injEq, Int.natCast_inj, upd_upd, Int.reducePow, Int.reduceToNat, Int.reduceMul, Int.reduceAdd, Int.reduceSub, Int.reduceLT, Int.reduceLE, Int.reduceNeg, Int.reduceDiv, Int.reduceMod, Nat.reducePow, Nat.reduceMul, S_len, List.length_append, List.length_map, List.length_range, not_true_eq_false, not_false_eq_true, ne_eq, uAdd_e1, uAdd_e2, uSub_e1, uMod_e1, uDiv_e1, uPow_e1, uShl_e1, uNeg_e1, uIAdd_e1, uIAdd_e2, uIAdd_e3, uISub_e1, uLt_e1, uLt_e2, uLe_e1, uGt_e1, uGe_e1, uEq_e1, uEq_e2, uEq_e3, uEq_e4, uEq_e5, uEq_e6, uEq_e7, uEq_e8, uEq_e9, uEq_e10, uEq_e11, uNe_e1, uNe_e2, uNe_e3, uNe_e4, uNe_e5, uNe_e6, uNe_e7, uNe_e8, uNe_e9, uNe_e10, uNe_e11, uIs_e1, uIs_e2, uIs_e3, uIs_e4, uIs_e5, uIs_e6, uIs_e7, uNotIs_e1, uNotIs_e2, uNotIs_e3, uNotIs_e4, uNotIs_e5, uNotIs_e6, uIn_e1, uIn_e2, uIn_e3, uIn_e4, uNotIn_e1, uNotIn_e2, uNotIn_e3, uNotIn_e4, uTru_e1, uTru_e2, uTru_e3, uTru_e4, uIx_e2, uSl_e2, uLen_e1, uAbs_e1, uInt_e1, uInt_e2, uMin2_e1, uIsi_e1, uIsi_e2, uIsi_e3, uIsi_e4, cx_K, uVar_0, uVar_n, uFld, uSFld, uMet, uMake, tDG, tDI, tDNI, tDP, tDD, uMk, uRaise, uDelSl, tCallS, L2.WE, uStr_e1, uStr_e2, uMul2_e1, uMul2_e2, okS_i, okS_s, List.zip_cons_cons, List.zip_nil_left, List.drop_zero, List.drop_succ_cons, List.drop_nil, putF_nil, putF_cons, eq_self, tDNewK, tB, Option.isSome_some, Option.isSome_none, false_and, false_or, or_false, exists_false, Int.zero_add, uLc, wipe, tYes, isEmpty_app, List.isEmpty_cons, List.isEmpty_nil, List.isEmpty_map, Bool.and_false, Bool.and_true, iRev, K11.lit_0, K11.lit_1, K11.lit_2, K11.lit_3, K11.lit_4, K11.lit_5, K11.lit_6, K11.lit_7, K11.lit_8, K11.lit_9, K11.lit_10, K11.lit_11, K11.lit_12, K11.lit_13, K11.lit_14, K11.lit_15, K11.lit_16, K11.lit_17, K11.lit_18, K11.lit_19, K11.lit_20, K11.lit_21, K11.lit_22, K11.lit_23, K11.lit_24, K11.lit_25, K11.lit_26, K11.lit_27, K11.lit_28, K11.lit_29, K11.lit_30, K11.lit_31, K11.lit_32, K11.lit_33, K11.lit_34, uIntL_e1, uIntL_e2, CwR.tReplC, K11.N_char_at, K11.N_is_in, K11.N_end_of, K11.N_is_name, K11.N_name_end, K11.N_is_keyword_end, K11.N_read_name, K11.N_read_number, K11.N_read_hash, K11.N_read_quoted, K11.N_read_sign, K11.N_read_token, K11.N_skipped, K11.N_tokens_of, K11.N__law_start, K11.N__law_pick, K11.N__law_letters, K11.N__law_source, K11.N__law_run, K11.N__law_word_end, K11.N__law_is_letter, K11.N__law_name_end, K11.N__law_colon, K11.N__law_skip, K11.N__law_symbol_end, K11.N__law_token_end, K11.N__law_is_token, K11.N__law_tiles, K11.N__law_misfit, K11.N_law])
local macro_rules | `(tactic| walk_at "nn") => `(tactic| first | assumption | exact ne_un (by assumption) | exact ne_un (ne_un (by assumption)) | exact ne_un (ne_un (ne_un (by assumption))) | exact ne_un (ne_un (ne_un (ne_un (by assumption)))))
local macro_rules | `(tactic| walk_at "ne") => `(tactic| first | assumption | (apply Ne.symm; assumption) | exact ne_ud (by assumption) | exact Ne.symm (ne_ud (by assumption)) | exact ne_ud (ne_un (by assumption)) | exact Ne.symm (ne_ud (ne_un (by assumption))) | exact ne_ud (ne_un (ne_un (by assumption))) | exact Ne.symm (ne_ud (ne_un (ne_un (by assumption)))) | exact ne_m (by assumption) (by assumption) | exact Ne.symm (ne_m (by assumption) (by assumption)) | exact ne_n (by assumption) (by walk_at "nn") | exact Ne.symm (ne_n (by assumption) (by walk_at "nn")))
local macro_rules | `(tactic| walk_at "hp") => `(tactic| first | assumption | exact upd_same | (refine Eq.trans (upd_ne ?_) ?_; (focus walk_at "ne"); walk_at "hp"))
local macro_rules | `(tactic| walk_at "sc") => `(tactic| first | (with_reducible assumption) | omega | exact le_line (by (try simp only [List.length_map, List.length_append, List.length_cons, List.length_nil, S_len]); omega) | exact div_s (by omega) | exact mul_r (by omega) | exact mul_l (by omega) | exact pow_s (by omega) | exact mul2_r (by omega) | exact mul2_l (by omega) | exact small4300 (by omega) | exact lt_line (by (try simp only [List.length_map, List.length_append, List.length_cons, List.length_nil, S_len]); omega) | exact ⟨_, by assumption⟩ | (guard_target =~ Exists _; exact ⟨_, .of (by walk_at "hp")⟩) | (guard_target =~ _ ∨ _; exact .inl ⟨_, by assumption⟩) | (guard_target =~ _ ∨ _; exact .inl ⟨_, .of (by walk_at "hp")⟩) | (guard_target =~ _ ∨ _; exact .inr (.inr (.inl ⟨rfl, .inl ⟨_, by walk_at "hp"⟩⟩))) | decide)
local macro_rules | `(tactic| walk_at "kr") => `(tactic| first | (guard_target =~ _ ∧ _; first | refine And.intro (by walk_at "sc") ?_) | (guard_target =~ KW.uIx _ _ _ _ _; first | refine ix_l (by walk_at "hp") (by first | walk_at "hv" | rfl) ?_ | refine ix_t (by walk_at "hp") (by first | walk_at "hv" | rfl) ?_ | refine ix_sl (by assumption) (by walk_at "hv") ?_) | (guard_target =~ KW.uLen _ _ _ _; first | refine len_l (by walk_at "hp") ?_ | refine len_t (by walk_at "hp") ?_ | refine len_sl (by assumption) ?_) | (guard_target =~ KW.uSet _ _ _ _ _; first | refine set_l (by walk_at "hp") (by first | walk_at "hv" | rfl) ?_) | (guard_target =~ L2.gTup _ _ _ _ _ _ _; first | refine tup_l (by walk_at "hp") (by rfl) ?_) | (guard_target =~ KW.uGet _ _ _ _ _; first | refine get_l (by walk_at "hp") (by walk_at "hc") (by decide) (by rfl) ?_) | (guard_target =~ KW.uPut _ _ _ _ _ _; first | refine put_l (by walk_at "hp") (by walk_at "hc") (by decide) (by simp) ?_) | (guard_target =~ KW.uMet.uMt _ _ _ _ _ _ _ _ _; first | refine met_l (by walk_at "hp") (by rfl) ?_) | (guard_target =~ KW.uMet.uMt _ _ _ _ _ _ _ _ _; first | refine ST.met_s (by assumption) (by decide) ?_) | (guard_target =~ ST.spExists _ _ _ _ _; first | refine ST.exists_s (by assumption) ?_) | (guard_target =~ ST.spUsed _ _ _ _ _; first | refine ST.used_s (by assumption) ?_) | (guard_target =~ KW.uGet _ _ _ _ _; first | refine ST.words_s (by assumption) (by walk_at "hc") (by decide) ?_) | (guard_target =~ KW.uDIn _ _ _ _; first | refine din_i (by walk_at "hp") ?_ | refine din_s (by walk_at "hp") ?_) | (guard_target =~ KW.uDGet _ _ _ _; first | refine dget_i (by walk_at "hp") (by walk_at "hv") ?_ | refine dget_s (by walk_at "hp") (by walk_at "hv") ?_) | (guard_target =~ KW.uDPut _ _ _ _ _; first | refine dput_i (by walk_at "hp") (by walk_at "sc") ?_ | refine dput_s (by walk_at "hp") (by walk_at "sc") ?_) | (guard_target =~ KW.uDDel _ _ _ _; first | refine ddel_i (by walk_at "hp") (by walk_at "hv") ?_ | refine ddel_s (by walk_at "hp") (by walk_at "hv") ?_) | (guard_target =~ KW.uMul2 _ _ _ _; first | refine rep_l (by walk_at "hp") (by walk_at "sc") (by walk_at "sc") (by walk_at "sc") ?_) | (guard_target =~ L2.rAppend _ _ _ _; first | refine app_l (by walk_at "hp") (by walk_at "sc") ?_) | (guard_target =~ L2.rPop _ _ _ _; first | refine pop_l (by walk_at "hp") (by walk_at "hv") ?_ | refine pops_l (by walk_at "hp") ?_) | (guard_target =~ L2.rClear _ _ _ _; first | refine clr_l (by walk_at "hp") ?_) | (guard_target =~ L2.rReverse _ _ _ _; first | refine rev_l (by walk_at "hp") ?_) | (guard_target =~ L2.rExtend _ _ _ _; first | refine ext_l (by walk_at "hp") (by walk_at "hp") (by walk_at "sc") ?_) | (guard_target =~ KW.uAdd _ _ _ _ _; first | refine ucat_l (by walk_at "hp") (by walk_at "hp") (by walk_at "sc") ?_) | (guard_target =~ KW.uSl _ _ _ _ _ _; first | refine usl_l (by walk_at "hp") ?_) | (guard_target =~ KW.uTru _ _ _ _; first | refine tru_l (by walk_at "hp") ?_ | refine tru_t (by walk_at "hp") ?_ | refine tru_d (by walk_at "hp") ?_ | refine tru_sl (by assumption) ?_) | (guard_target =~ L2.rIndex _ _ _ _ _; first | refine idx_s (by walk_at "hp") (by assumption) ?_ | refine idx_i (by walk_at "hp") (by assumption) ?_) | (guard_target =~ L2.rIn _ _ _ _ _ _; first | refine in_s (by walk_at "hp") ?_ | refine nin_s (by walk_at "hp") ?_ | refine in_i (by walk_at "hp") ?_ | refine nin_i (by walk_at "hp") ?_) | (guard_target =~ KW.uIsi _ _ _ _; first | refine isi_l (by walk_at "hp") (by decide +kernel) ?_ | refine isi_t (by walk_at "hp") (by decide +kernel) ?_ | refine isi_d (by walk_at "hp") (by decide +kernel) ?_) | (guard_target =~ KW.uList _ _ _ _; first | refine list_l (by walk_at "hp") ?_ | refine list_t (by walk_at "hp") ?_ | refine list_sl (by assumption) ?_) | (guard_target =~ KW.uDict _ _ _; first | refine dict_d (by walk_at "hp") ?_) | (guard_target =~ KW.uSorted _ _ _ _; first | refine srt_l (by walk_at "hp") ?_) | (guard_target =~ KW.uSum _ _ _ _; first | refine sum_l (by walk_at "hp") ?_) | (guard_target =~ KW.uDelC _ _ _ _; first | refine dels_l (by walk_at "hp") (by walk_at "sc") ?_) | (guard_target =~ L2.wAs _ _ _ _ _ _ _ _ _ _; first | refine as_yes (by walk_at "hx") ?_ | refine as_no (by walk_at "hx") ?_) | (guard_target =~ KW.uEf _ _ _ _ _ _ _ _ _; first | refine ef_l (by walk_at "he") (by decide) (by rfl) (by walk_at "hp") (by rfl) ?_) | (guard_target =~ KW.uIsE _ _ _ _ _ _ _; first | refine isE_r (by walk_at "he") (by walk_at "hp") (by walk_at "hk") ?_ | refine isE_t (by walk_at "he") (by walk_at "hp") (by walk_at "hk") ?_))
local macro_rules | `(tactic| walk_at "hv") => `(tactic| first | assumption)
local macro_rules | `(tactic| walk_at "kk") => `(tactic| repeat (first | walk_at "kw" | walk_at "kr"))
local macro_rules | `(tactic| walk_at "hc") => `(tactic| first | fail)
local macro_rules | `(tactic| walk_at "he") => `(tactic| first | exact K11.Txt.e_Malformed (by assumption) | exact K11.Txt.e_Oversized (by assumption))
local macro_rules | `(tactic| walk_at "hx") => `(tactic| first | exact K11.Txt.x_Malformed_KilnwardenError (by assumption) | exact K11.Txt.x_Malformed_Malformed (by assumption) | exact K11.Txt.x_Malformed_Oversized (by assumption) | exact K11.Txt.x_Oversized_KilnwardenError (by assumption) | exact K11.Txt.x_Oversized_Malformed (by assumption) | exact K11.Txt.x_Oversized_Oversized (by assumption))
local macro_rules | `(tactic| walk_at "hk") => `(tactic| first | fail)

section
variable {P : Program} {w : World} {K : Frag} {mg : Str → Option Value} {base : Heap} {a : Ads}
theorem ok__law_source (T : Txt P w K mg a) : Cal P w K mg base 2 "_law_source" (spSource K) := by
  have C__law_letters := ok__law_letters (P := P) (w := w) (base := base) T
  have C__law_pick := ok__law_pick (P := P) (w := w) (base := base) T
  refine T.d__law_source.ok sc__law_source (fun vs H Q E h => ?_) (fun f cdv A outer s H vs Q E hr h => ⟨_, (pss_cons (ps_set (i := 1) sc__law_source.nd rfl (Or.inl rfl) (pe_op o_add (kc0 C__law_letters (hr.mono (by decide))) pe_str))
      (C8.pss_cut (ps_if (pt_cmpR (o_eq hr.units) (kc C__law_pick (hr.mono (by decide)) (pa_cons (kv 0) (pa_cons pe_int pa_nil))) pe_int (nomark _))
      (pss_one (ps_set (i := 1) sc__law_source.nd rfl (Or.inl rfl) pe_str))
      pss_nil)
      (pss_cons (ps_set (i := 2) sc__law_source.nd rfl (Or.inl rfl) pe_str)
      (pss_cons (ps_set (i := 3) sc__law_source.nd rfl (Or.inl rfl) (kc C__law_pick (hr.mono (by decide)) (pa_cons (kv 0) (pa_cons pe_int pa_nil))))
      (C8.pss_cut (ps_if (pt_cmpR (o_eq hr.units) (kc C__law_pick (hr.mono (by decide)) (pa_cons (kv 0) (pa_cons pe_int pa_nil))) pe_int (nomark _))
      (pss_one (ps_set (i := 3) sc__law_source.nd rfl (Or.inl rfl) (kc C__law_pick (hr.mono (by decide)) (pa_cons (kv 0) (pa_cons pe_int pa_nil)))))
      pss_nil)
      (pss_cons (k_for (passes_of rfl) rfl (pi_range1 (by rfl) T.n_range (pa_cons (kv 3) pa_nil)) (pg_name (i := 4) sc__law_source.nd rfl (Or.inl rfl))
      (pss_one (ps_set (i := 2) sc__law_source.nd rfl (Or.inl rfl) (pe_op o_add (kv 2) (pe_ix o_ix (kv 1) (kc C__law_pick (hr.mono (by decide)) (pa_cons (kv 0) (pa_cons (pe_callB c_len (by rfl) T.n_len (by decide +kernel) (pa_cons (kv 1) pa_nil)) pa_nil))) (fun _ _ => rfl))))))
      (C8.pss_cut (ps_if (pt_cmpR (o_eq hr.units) (kc C__law_pick (hr.mono (by decide)) (pa_cons (kv 0) (pa_cons pe_int pa_nil))) pe_int (nomark _))
      (pss_one (ps_set (i := 2) sc__law_source.nd rfl (Or.inl rfl) (pe_op o_add (kv 2) (pe_op o_mul2 pe_str (pe_op o_add pe_int (kc C__law_pick (hr.mono (by decide)) (pa_cons (kv 0) (pa_cons pe_int pa_nil))))))))
      pss_nil)
      (C8.pss_cut (ps_if (pt_cmpR (o_eq hr.units) (kc C__law_pick (hr.mono (by decide)) (pa_cons (kv 0) (pa_cons pe_int pa_nil))) pe_int (nomark _))
      (pss_one (ps_set (i := 2) sc__law_source.nd rfl (Or.inl rfl) (pe_op o_add (kv 2) (pe_op o_mul2 pe_str (pe_op o_add pe_int (kc C__law_pick (hr.mono (by decide)) (pa_cons (kv 0) (pa_cons pe_int pa_nil))))))))
      pss_nil)
      (C8.pss_cut (ps_if (pt_cmpR (o_eq hr.units) (kc C__law_pick (hr.mono (by decide)) (pa_cons (kv 0) (pa_cons pe_int pa_nil))) pe_int (nomark _))
      (pss_one (ps_set (i := 2) sc__law_source.nd rfl (Or.inl rfl) (pe_op o_add (kv 2) (pe_op o_mul2 pe_str (pe_op o_sub (pe_op o_add pe_int (kc C__law_pick (hr.mono (by decide)) (pa_cons (kv 0) (pa_cons pe_int pa_nil)))) (pe_callB c_len (by rfl) T.n_len (by decide +kernel) (pa_cons (kv 2) pa_nil)))))))
      (pss_one (ps_if (PW.pt (pw_and (pt_cmpR (o_eq hr.units) (kc C__law_pick (hr.mono (by decide)) (pa_cons (kv 0) (pa_cons pe_int pa_nil))) pe_int (nomark _)) (pw_and1 (pt_cmpR (o_ne hr.units) (kv 2) pe_str (nomark _)))))
      (pss_cons (ps_set (i := 5) sc__law_source.nd rfl (Or.inl rfl) (pe_ix o_ix (pe_lst (pa_cons pe_int (pa_cons pe_int (pa_cons pe_int pa_nil)))) (kc C__law_pick (hr.mono (by decide)) (pa_cons (kv 0) (pa_cons pe_int pa_nil))) (fun _ _ => rfl)))
      (pss_one (ps_set (i := 2) sc__law_source.nd rfl (Or.inl rfl) (pe_op o_mul2 (kv 2) (pe_op o_add pe_int (kc C__law_pick (hr.mono (by decide)) (pa_cons (kv 0) (pa_cons (pe_op o_add pe_int (pe_op o_fdiv (kv 5) (pe_callB c_len (by rfl) T.n_len (by decide +kernel) (pa_cons (kv 2) pa_nil)))) pa_nil))))))))
      pss_nil)))
      (pss_one (ps_ret (kv 2)))))))))))), ?_⟩)
  · obtain ⟨st, rfl, _⟩ := h; rfl
  · obtain ⟨st, rfl, hst, h⟩ := h
    walk_at "kk"
    refine ⟨fun σ H' => ∃ cs : List Nat, σ = [some (.ref st), some (.str (S cs)), none, none, none, none] ∧ Sta K H' st ∧ 1 ≤ cs.length ∧ cs.length ≤ 1000, ?_, ?_⟩
    · walk_at "kk"
      refine pick_s (by omega) (by omega) hst fun r H1 s1 r0 r1 => ?_
      walk_at "kk"
      split
      · walk_at "kk"
        decide
      · exact ⟨s1, by decide, by decide⟩
    rintro σ H1 ⟨cs, rfl, s1, c0, c1⟩
    walk_at "kk"
    refine pick_s (by omega) (by omega) s1 fun r H2 s2 r0 r1 => ?_
    walk_at "kk"
    refine ⟨fun σ H' => ∃ n : Int, σ = [some (.ref st), some (.str (S cs)), some (.str (S [])), some (.int n), none, none] ∧ Sta K H' st ∧ 0 ≤ n ∧ n ≤ 40, ?_, ?_⟩
    · walk_at "kk"
      refine pick_s (by omega) (by omega) s2 fun r' H3 s3 r0' r1' => ?_
      walk_at "kk"
      split
      · walk_at "kk"
        refine pick_s (by omega) (by omega) s3 fun r' H4 s4 r0' r1' => ?_
        walk_at "kk"
        omega
      · exact ⟨s3, by omega, by omega⟩
    rintro σ H3 ⟨n, rfl, s3, n0, n1⟩
    walk_at "kk"
    have en : n = (n.toNat : Nat) := by omega
    refine for_rng (fun i σ H' => ∃ (src : List Nat) (v4 : Option V), σ = [some (.ref st), some (.str (S cs)), some (.str (S src)), some (.int n), v4, none] ∧ Sta K H' st ∧ src.length ≤ i) ⟨[], _, rfl, s3, by simp⟩ ?_ ?_
    · rintro i σ H4 hi ⟨src, v4, rfl, s4, ls⟩
      walk_at "kk"
      refine pick_s (by omega) (by omega) s4 fun r' H5 s5 r0' r1' => ?_
      obtain ⟨m, hm⟩ : ∃ m : Nat, r' = m := ⟨r'.toNat, by omega⟩
      subst hm
      obtain ⟨c, hc⟩ : ∃ c, cs[m]? = some c := ⟨_, List.getElem?_eq_getElem (by omega)⟩
      walk_at "kk"
      refine ⟨⟨c, atI_nat hc⟩, le_line (by omega), s5, by omega⟩
    rintro σ H4 ⟨src, v4, rfl, s4, ls⟩
    have ls : src.length ≤ 40 := by omega
    walk_at "kk"
    refine ⟨fun σ H' => ∃ (src : List Nat), σ = [some (.ref st), some (.str (S cs)), some (.str (S src)), some (.int n), v4, none] ∧ Sta K H' st ∧ src.length ≤ 80, ?_, ?_⟩
    · walk_at "kk"
      refine pick_s (by omega) (by omega) s4 fun r' H5 s5 r0' r1' => ?_
      walk_at "kk"
      split
      · walk_at "kk"
        refine pick_s (by omega) (by omega) s5 fun r2 H6 s6 r2' r3' => ?_
        walk_at "kk"
        rw [repS_S, S_app']
        refine ⟨le_line (by rw [S_len, List.length_replicate]; omega), _, rfl, s6, by rw [List.length_append, List.length_replicate]; omega⟩
      · exact ⟨s5, by omega⟩
    rintro σ H5 ⟨src, rfl, s5, ls⟩
    walk_at "kk"
    refine ⟨fun σ H' => ∃ (src : List Nat), σ = [some (.ref st), some (.str (S cs)), some (.str (S src)), some (.int n), v4, none] ∧ Sta K H' st ∧ src.length ≤ 100, ?_, ?_⟩
    · walk_at "kk"
      refine pick_s (by omega) (by omega) s5 fun r' H5 s5 r0' r1' => ?_
      walk_at "kk"
      split
      · walk_at "kk"
        refine pick_s (by omega) (by omega) s5 fun r2 H6 s6 r2' r3' => ?_
        walk_at "kk"
        rw [repS_S, S_app']
        refine ⟨le_line (by rw [S_len, List.length_replicate]; omega), _, rfl, s6, by rw [List.length_append, List.length_replicate]; omega⟩
      · exact ⟨s5, by omega⟩
    rintro σ H6 ⟨src, rfl, s6, ls⟩
    walk_at "kk"
    refine ⟨fun σ H' => ∃ (src : List Nat) (v5 : Option V), σ = [some (.ref st), some (.str (S cs)), some (.str (S src)), some (.int n), v4, v5] ∧ Sta K H' st ∧ src.length ≤ 9000, ?_, ?_⟩
    · walk_at "kk"
      refine pick_s (by omega) (by omega) s6 fun r' H5 s5 r0' r1' => ?_
      walk_at "kk"
      split
      · walk_at "kk"
        refine pick_s (by omega) (by omega) s5 fun r2 H6 s6 r2' r3' => ?_
        walk_at "kk"
        rw [repS_S, S_app']
        refine ⟨le_line (by rw [S_len, List.length_replicate]; omega), _, rfl, s6, by rw [List.length_append, List.length_replicate]; omega⟩
      · walk_at "kk"
        refine pick_s (by omega) (by omega) s5 fun r2 H6 s6 r2' r3' => ?_
        walk_at "kk"
        split
        · split
          · rename_i ne
            have lp : 0 < src.length := List.length_pos_iff.mpr ne
            refine ⟨by decide, fun p hp => ?_⟩
            obtain ⟨np, s7⟩ := Sta_new (o := .lst [.int 400, .int 400, .int 4600]) s6 hp
            have p7 : upd H6 p (.lst [.int 400, .int 400, .int 4600]) p = some (.lst [.int 400, .int 400, .int 4600]) := upd_same
            refine ⟨st, 3, rfl, by omega, by omega, s7, fun r3 H8 s8 b8 r30 r31 => ?_⟩
            have p8 := b8 _ _ np p7
            obtain ⟨most, hm, m0, m1⟩ : ∃ most : Int, atI [V.int 400, V.int 400, V.int 4600] r3 = some (.int most) ∧ 0 ≤ most ∧ most ≤ 4600 := by
              rcases (show r3 = 0 ∨ r3 = 1 ∨ r3 = 2 by omega) with e | e | e
              · exact ⟨400, by rw [e]; rfl, by omega, by omega⟩
              · exact ⟨400, by rw [e]; rfl, by omega, by omega⟩
              · exact ⟨4600, by rw [e]; rfl, by omega, by omega⟩
            walk_at "kk"
            have d0 : 0 ≤ most / (src.length : Int) := Int.ediv_nonneg m0 (by omega)
            have d1 : most / (src.length : Int) ≤ most := Int.ediv_le_self _ m0
            refine pick_s (by omega) (by omega) s8 fun r4 H9 s9 r40 r41 => ?_
            have rb := rep_bound lp m0 m1 r40 r41
            have rl := repS_len (S src) (1 + r4).toNat
            walk_at "kk"
            refine ⟨_, rfl, s9, ?_⟩
            have e : ((List.replicate (1 + r4).toNat (S src).cps.toList).flatten).length = src.length * (1 + r4).toNat := (S_len _).symm.trans (rl.trans (by rw [S_len]))
            rw [e]; omega
          · exact ⟨s6, by omega⟩
        · exact ⟨s6, by omega⟩
    rintro σ H7 ⟨src, v5, rfl, s7, ls⟩
    walk_at "kk"
    exact h src H7 ls
end
end K11

set_option Elab.async false
set_option linter.all false
set_option maxRecDepth 100000
set_option maxHeartbeats 4000000
namespace K11
open PySem PySem.Spec PyProof.Rows L2 KW LX
local macro_rules | `(tactic| walk_at "kw") => `(tactic| simp only [tSeq, tNext, tIfS, tTest, tAnd, tOr, tNot, tAndV, tOrV, tNotV, tIf, tChain, tOp, tUn, tC, tAsg, gName, gSub, gCons, gNil, tRet, tRetN, tDrop, tCons, tNil, tCB, tAug, tSl, tPart, tNoPart, tLst, tTup, tBM, tBM0, uTest, uFor, iRng1, iRng2, iList, uCall, List.map_cons, List.map_nil, List.length_cons, List.length_nil, List.cons_append, List.nil_append, List.replicate, Nat.zero_add, Nat.reduceAdd, Nat.reduceSub, List.getElem?_cons_zero, List.getElem?_cons_succ, List.set_cons_zero, List.set_cons_succ, V.bl.injEq, V.int.injEq, V.str.injEq, V.ref.injEq, V.ty.injEq, List.cons.injEq, and_true, true_and, exists_eq_left', exists_eq_right, exists_eq_left, exists_and_left, exists_and_right, decide_eq_true_eq, Bool.not_eq_true', decide_eq_false_iff_not, Bool.false_eq_true, if_true, if_false, ite_true, ite_false, Bool.not_true, Bool.not_false, reduceCtorEq, decide_true, decide_false, Bool.not_not, isK_int_int, isK_int_bool, isK_int_str, isK_int_list, isK_int_tuple, isK_bool_int, isK_bool_bool, isK_bool_str, isK_str_str, isK_str_int, isK_str_bool, isK_str_tuple, isK_str_list, isK_list_list, isK_list_tuple, isK_tuple_tuple, isK_tuple_list, isOk_int_int, isOk_int_bool, isOk_int_str, isOk_int_list, isOk_int_tuple, isOk_bool_int, isOk_bool_bool, isOk_bool_str, isOk_str_str, isOk_str_int, isOk_str_bool, isOk_str_tuple, isOk_str_list, isOk_list_list, isOk_list_tuple, isOk_tuple_tuple, isOk_tuple_list, isK_dict_dict, isOk_dict_dict, isK_none_int, isK_none_bool, isOk_none_int, isOk_none_bool, tyV, S_inj, S_cat, L2.start, Nat.reduceSub, List.replicate_succ, List.replicate_zero, and_assoc, List.append_nil, Nat.reduceEqDiff, Option.some.injEq, Int.natCast_inj, upd_upd, Int.reducePow, Int.reduceToNat, Int.reduceMul, Int.reduceAdd, Int.reduceSub, Int.reduceLT, Int.reduceLE, Int.reduceNeg, Int.reduceDiv, Int.reduceMod, Nat.reducePow, Nat.reduceMul, S_len, List.length_append, List.length_map, List.length_range, not_true_eq_false, not_false_eq_true, ne_eq, uAdd_e1, uAdd_e2, uSub_e1, uMod_e1, uDiv_e1, uPow_e1, uShl_e1, uNeg_e1, uIAdd_e1, uIAdd_e2, uIAdd_e3, uISub_e1, uLt_e1, uLt_e2, uLe_e1, uGt_e1, uGe_e1, uEq_e1, uEq_e2, uEq_e3, uEq_e4, uEq_e5, uEq_e6, uEq_e7, uEq_e8, uEq_e9, uEq_e10, uEq_e11, uNe_e1, uNe_e2, uNe_e3, uNe_e4, uNe_e5, uNe_e6, uNe_e7, uNe_e8, uNe_e9, uNe_e10, uNe_e11, uIs_e1, uIs_e2, uIs_e3, uIs_e4, uIs_e5, uIs_e6, uIs_e7, uNotIs_e1, uNotIs_e2, uNotIs_e3, uNotIs_e4, uNotIs_e5, uNotIs_e6, uIn_e1, uIn_e2, uIn_e3, uIn_e4, uNotIn_e1, uNotIn_e2, uNotIn_e3, uNotIn_e4, uTru_e1, uTru_e2, uTru_e3, uTru_e4, uIx_e2, uSl_e2, uLen_e1, uAbs_e1, uInt_e1, uInt_e2, uMin2_e1, uIsi_e1, uIsi_e2, uIsi_e3, uIsi_e4, cx_K, uVar_0, uVar_n, uFld, uSFld, uMet, uMake, tDG, tDI, tDNI, tDP, tDD, uMk, uRaise, uDelSl, tCallS, L2.WE, uStr_e1, uStr_e2, uMul2_e1, uMul2_e2, okS_i, okS_s, List.zip_cons_cons, List.zip_nil_left, List.drop_zero, List.drop_succ_cons, List.drop_nil, putF_nil, putF_cons, eq_self, tDNewK, tB, Option.isSome_some, Option.isSome_none, false_and, false_or, or_false, exists_false, Int.zero_add, uLc, wipe, tYes, isEmpty_app, List.isEmpty_cons, List.isEmpty_nil, List.isEmpty_map, Bool.and_false, Bool.and_true, iRev, K11.lit_0, K11.lit_1, K11.lit_2, K11.lit_3, K11.lit_4, K11.lit_5, K11.lit_6, K11.lit_7, K11.lit_8, K11.lit_9, K11.lit_10, K11.lit_11, K11.lit_12, K11.lit_13, K11.lit_14, K11.lit_15, K11.lit_16, K11.lit_17, K11.lit_18, K11.lit_19, K11.lit_20, K11.lit_21, K11.lit_22, K11.lit_23, K11.lit_24, K11.lit_25, K11.lit_26, K11.lit_27, K11.lit_28, K11.lit_29, K11.lit_30, K11.lit_31, K11.lit_32, K11.lit_33, K11.lit_34, uIntL_e1, uIntL_e2, CwR.tReplC, K11.N_char_at, K11.N_is_in, K11.N_end_of, K11.N_is_name, K11.N_name_end, K11.N_is_keyword_end, K11.N_read_name, K11.N_read_number, K11.N_read_hash, K11.N_read_quoted, K11.N_read_sign, K11.N_read_token, K11.N_skipped, K11.N_tokens_of, K11.N__law_start, K11.N__law_pick, K11.N__law_letters, K11.N__law_source, K11.N__law_run, K11.N__law_word_end, K11.N__law_is_letter, K11.N__law_name_end, K11.N__law_colon, K11.N__law_skip, K11.N__law_symbol_end, K11.N__law_token_end, K11.N__law_is_token, K11.N__law_tiles, K11.N__law_misfit, K11.N_law])
local macro_rules | `(tactic| walk_at "nn") => `(tactic| first | assumption | exact ne_un (by assumption) | exact ne_un (ne_un (by assumption)) | exact ne_un (ne_un (ne_un (by assumption))) | exact ne_un (ne_un (ne_un (ne_un (by assumption)))))
local macro_rules | `(tactic| walk_at "ne") => `(tactic| first | assumption | (apply Ne.symm; assumption) | exact ne_ud (by assumption) | exact Ne.symm (ne_ud (by assumption)) | exact ne_ud (ne_un (by assumption)) | exact Ne.symm (ne_ud (ne_un (by assumption))) | exact ne_ud (ne_un (ne_un (by assumption))) | exact Ne.symm (ne_ud (ne_un (ne_un (by assumption)))) | exact ne_m (by assumption) (by assumption) | exact Ne.symm (ne_m (by assumption) (by assumption)) | exact ne_n (by assumption) (by walk_at "nn") | exact Ne.symm (ne_n (by assumption) (by walk_at "nn")))
local macro_rules | `(tactic| walk_at "hp") => `(tactic| first | assumption | exact upd_same | (refine Eq.trans (upd_ne ?_) ?_; (focus walk_at "ne"); walk_at "hp"))
local macro_rules | `(tactic| walk_at "sc") => `(tactic| first | (with_reducible assumption) | omega | exact le_line (by (try simp only [List.length_map, List.length_append, List.length_cons, List.length_nil, S_len]); omega) | exact div_s (by omega) | exact mul_r (by omega) | exact mul_l (by omega) | exact pow_s (by omega) | exact mul2_r (by omega) | exact mul2_l (by omega) | exact small4300 (by omega) | exact lt_line (by (try simp only [List.length_map, List.length_append, List.length_cons, List.length_nil, S_len]); omega) | exact ⟨_, by assumption⟩ | (guard_target =~ Exists _; exact ⟨_, .of (by walk_at "hp")⟩) | (guard_target =~ _ ∨ _; exact .inl ⟨_, by assumption⟩) | (guard_target =~ _ ∨ _; exact .inl ⟨_, .of (by walk_at "hp")⟩) | (guard_target =~ _ ∨ _; exact .inr (.inr (.inl ⟨rfl, .inl ⟨_, by walk_at "hp"⟩⟩))) | decide)
local macro_rules | `(tactic| walk_at "kr") => `(tactic| first | (guard_target =~ _ ∧ _; first | refine And.intro (by walk_at "sc") ?_) | (guard_target =~ KW.uIx _ _ _ _ _; first | refine ix_l (by walk_at "hp") (by first | walk_at "hv" | rfl) ?_ | refine ix_t (by walk_at "hp") (by first | walk_at "hv" | rfl) ?_ | refine ix_sl (by assumption) (by walk_at "hv") ?_) | (guard_target =~ KW.uLen _ _ _ _; first | refine len_l (by walk_at "hp") ?_ | refine len_t (by walk_at "hp") ?_ | refine len_sl (by assumption) ?_) | (guard_target =~ KW.uSet _ _ _ _ _; first | refine set_l (by walk_at "hp") (by first | walk_at "hv" | rfl) ?_) | (guard_target =~ L2.gTup _ _ _ _ _ _ _; first | refine tup_l (by walk_at "hp") (by rfl) ?_) | (guard_target =~ KW.uGet _ _ _ _ _; first | refine get_l (by walk_at "hp") (by walk_at "hc") (by decide) (by rfl) ?_) | (guard_target =~ KW.uPut _ _ _ _ _ _; first | refine put_l (by walk_at "hp") (by walk_at "hc") (by decide) (by simp) ?_) | (guard_target =~ KW.uMet.uMt _ _ _ _ _ _ _ _ _; first | refine met_l (by walk_at "hp") (by rfl) ?_) | (guard_target =~ KW.uMet.uMt _ _ _ _ _ _ _ _ _; first | refine ST.met_s (by assumption) (by decide) ?_) | (guard_target =~ ST.spExists _ _ _ _ _; first | refine ST.exists_s (by assumption) ?_) | (guard_target =~ ST.spUsed _ _ _ _ _; first | refine ST.used_s (by assumption) ?_) | (guard_target =~ KW.uGet _ _ _ _ _; first | refine ST.words_s (by assumption) (by walk_at "hc") (by decide) ?_) | (guard_target =~ KW.uDIn _ _ _ _; first | refine din_i (by walk_at "hp") ?_ | refine din_s (by walk_at "hp") ?_) | (guard_target =~ KW.uDGet _ _ _ _; first | refine dget_i (by walk_at "hp") (by walk_at "hv") ?_ | refine dget_s (by walk_at "hp") (by walk_at "hv") ?_) | (guard_target =~ KW.uDPut _ _ _ _ _; first | refine dput_i (by walk_at "hp") (by walk_at "sc") ?_ | refine dput_s (by walk_at "hp") (by walk_at "sc") ?_) | (guard_target =~ KW.uDDel _ _ _ _; first | refine ddel_i (by walk_at "hp") (by walk_at "hv") ?_ | refine ddel_s (by walk_at "hp") (by walk_at "hv") ?_) | (guard_target =~ KW.uMul2 _ _ _ _; first | refine rep_l (by walk_at "hp") (by walk_at "sc") (by walk_at "sc") (by walk_at "sc") ?_) | (guard_target =~ L2.rAppend _ _ _ _; first | refine app_l (by walk_at "hp") (by walk_at "sc") ?_) | (guard_target =~ L2.rPop _ _ _ _; first | refine pop_l (by walk_at "hp") (by walk_at "hv") ?_ | refine pops_l (by walk_at "hp") ?_) | (guard_target =~ L2.rClear _ _ _ _; first | refine clr_l (by walk_at "hp") ?_) | (guard_target =~ L2.rReverse _ _ _ _; first | refine rev_l (by walk_at "hp") ?_) | (guard_target =~ L2.rExtend _ _ _ _; first | refine ext_l (by walk_at "hp") (by walk_at "hp") (by walk_at "sc") ?_) | (guard_target =~ KW.uAdd _ _ _ _ _; first | refine ucat_l (by walk_at "hp") (by walk_at "hp") (by walk_at "sc") ?_) | (guard_target =~ KW.uSl _ _ _ _ _ _; first | refine usl_l (by walk_at "hp") ?_) | (guard_target =~ KW.uTru _ _ _ _; first | refine tru_l (by walk_at "hp") ?_ | refine tru_t (by walk_at "hp") ?_ | refine tru_d (by walk_at "hp") ?_ | refine tru_sl (by assumption) ?_) | (guard_target =~ L2.rIndex _ _ _ _ _; first | refine idx_s (by walk_at "hp") (by assumption) ?_ | refine idx_i (by walk_at "hp") (by assumption) ?_) | (guard_target =~ L2.rIn _ _ _ _ _ _; first | refine in_s (by walk_at "hp") ?_ | refine nin_s (by walk_at "hp") ?_ | refine in_i (by walk_at "hp") ?_ | refine nin_i (by walk_at "hp") ?_) | (guard_target =~ KW.uIsi _ _ _ _; first | refine isi_l (by walk_at "hp") (by decide +kernel) ?_ | refine isi_t (by walk_at "hp") (by decide +kernel) ?_ | refine isi_d (by walk_at "hp") (by decide +kernel) ?_) | (guard_target =~ KW.uList _ _ _ _; first | refine list_l (by walk_at "hp") ?_ | refine list_t (by walk_at "hp") ?_ | refine list_sl (by assumption) ?_) | (guard_target =~ KW.uDict _ _ _; first | refine dict_d (by walk_at "hp") ?_) | (guard_target =~ KW.uSorted _ _ _ _; first | refine srt_l (by walk_at "hp") ?_) | (guard_target =~ KW.uSum _ _ _ _; first | refine sum_l (by walk_at "hp") ?_) | (guard_target =~ KW.uDelC _ _ _ _; first | refine dels_l (by walk_at "hp") (by walk_at "sc") ?_) | (guard_target =~ L2.wAs _ _ _ _ _ _ _ _ _ _; first | refine as_yes (by walk_at "hx") ?_ | refine as_no (by walk_at "hx") ?_) | (guard_target =~ KW.uEf _ _ _ _ _ _ _ _ _; first | refine ef_l (by walk_at "he") (by decide) (by rfl) (by walk_at "hp") (by rfl) ?_) | (guard_target =~ KW.uIsE _ _ _ _ _ _ _; first | refine isE_r (by walk_at "he") (by walk_at "hp") (by walk_at "hk") ?_ | refine isE_t (by walk_at "he") (by walk_at "hp") (by walk_at "hk") ?_))
local macro_rules | `(tactic| walk_at "hv") => `(tactic| first | assumption)
local macro_rules | `(tactic| walk_at "kk") => `(tactic| repeat (first | walk_at "kw" | walk_at "kr"))
local macro_rules | `(tactic| walk_at "hc") => `(tactic| first | fail)
local macro_rules | `(tactic| walk_at "he") => `(tactic| first | exact K11.Txt.e_Malformed (by assumption) | exact K11.Txt.e_Oversized (by assumption))
local macro_rules | `(tactic| walk_at "hx") => `(tactic| first | exact K11.Txt.x_Malformed_KilnwardenError (by assumption) | exact K11.Txt.x_Malformed_Malformed (by assumption) | exact K11.Txt.x_Malformed_Oversized (by assumption) | exact K11.Txt.x_Oversized_KilnwardenError (by assumption) | exact K11.Txt.x_Oversized_Malformed (by assumption) | exact K11.Txt.x_Oversized_Oversized (by assumption))
local macro_rules | `(tactic| walk_at "hk") => `(tactic| first | fail)

section
variable {P : Program} {w : World} {K : Frag} {mg : Str → Option Value} {base : Heap} {a : Ads}
theorem ok__law_symbol_end (T : Txt P w K mg a) : Cal P w K mg base 4 "_law_symbol_end" spSymEnd := by
  have C__law_name_end := ok__law_name_end (P := P) (w := w) (base := base) T
  have C__law_colon := ok__law_colon (P := P) (w := w) (base := base) T
  refine T.d__law_symbol_end.ok sc__law_symbol_end (fun vs H Q E h => ?_) (fun f cdv A outer s H vs Q E hr h => ⟨_, (pss_cons (ps_if (pt_cmpR (o_eq hr.units) (pe_ix o_ix (kv 0) (kv 1) (fun _ _ => rfl)) pe_str (nomark _))
      (pss_cons (ps_set (i := 3) sc__law_symbol_end.nd rfl (Or.inl rfl) (pe_op o_add (k_opC o_add (CwR.pet_replC (kv 2))) pe_str))
      (pss_cons (ps_set (i := 4) sc__law_symbol_end.nd rfl (Or.inl rfl) (pe_op o_add (kv 1) (pe_callB c_len (by rfl) T.n_len (by decide +kernel) (pa_cons (kv 3) pa_nil))))
      (pss_cons (ps_if (PW.pt (pw_and (pt_cmpR (o_eq hr.units) (pe_slice o_sl (kv 0) (po_some (kv 1)) (po_some (kv 4))) (kv 3) (nomark _)) (pw_and1 (pt_cmpR (o_ne hr.units) (pe_slice o_sl (kv 0) (po_some (kv 4)) (po_some (pe_op o_add (kv 4) pe_int))) pe_str (nomark _)))))
      (pss_one (ps_ret (kv 4)))
      pss_nil)
      (pss_one (ps_ret (kv 1))))))
      pss_nil)
      (pss_cons (ps_set (i := 4) sc__law_symbol_end.nd rfl (Or.inl rfl) (pe_op o_add (pe_op o_add (kv 1) pe_int) (pe_callB c_len (by rfl) T.n_len (by decide +kernel) (pa_cons (kv 2) pa_nil))))
      (pss_cons (ps_if (PW.pt (pw_or (pt_cmpR (o_ne hr.units) (pe_ix o_ix (kv 0) (kv 1) (fun _ _ => rfl)) pe_str (nomark _)) (pw_or1 (pt_cmpR (o_ne hr.units) (pe_slice o_sl (kv 0) (po_some (pe_op o_add (kv 1) pe_int)) (po_some (kv 4))) (kv 2) (nomark _)))))
      (pss_one (ps_ret (kv 1)))
      pss_nil)
      (pss_cons (ps_set (i := 5) sc__law_symbol_end.nd rfl (Or.inl rfl) (kc C__law_name_end (hr.mono (by decide)) (pa_cons (kv 0) (pa_cons (pe_op o_add (kv 1) pe_int) pa_nil))))
      (pss_cons (ps_if (PW.pt (pw_or (pt_cmpR (o_eq hr.units) (kv 5) (pe_op o_add (kv 1) pe_int) (nomark _)) (pw_or1 (pt_not (kt (kc C__law_colon (hr.mono (by decide)) (pa_cons (kv 0) (pa_cons (kv 5) pa_nil))))))))
      (pss_one (ps_ret (pe_ifExp (PW.pt (pw_and (pt_cmpR (o_eq hr.units) (kv 5) (kv 4) (nomark _)) (pw_and1 (pt_cmpR o_gt (kv 5) (pe_op o_add (kv 1) pe_int) (nomark _))))) (kv 5) (kv 1))))
      pss_nil)
      (pss_cons (k_while (passes_of rfl) (PW.pt (pw_and (pt_cmpR o_lt (kv 5) (pe_callB c_len (by rfl) T.n_len (by decide +kernel) (pa_cons (kv 0) pa_nil)) (nomark _)) (pw_and1 (kt (kc C__law_colon (hr.mono (by decide)) (pa_cons (kv 0) (pa_cons (kv 5) pa_nil)))))))
      (pss_cons (ps_set (i := 6) sc__law_symbol_end.nd rfl (Or.inl rfl) (pe_op o_add (kv 5) pe_int))
      (pss_cons (ps_set (i := 5) sc__law_symbol_end.nd rfl (Or.inl rfl) (kc C__law_name_end (hr.mono (by decide)) (pa_cons (kv 0) (pa_cons (kv 6) pa_nil))))
      (pss_cons (ps_if (PW.pt (pw_and (pt_cmpR (o_eq hr.units) (kv 6) (kv 4) (nomark _)) (pw_and1 (PW.pt (pw_or (pt_cmpR (o_eq hr.units) (kv 5) (kv 6) (nomark _)) (pw_or1 (pt_not (kt (kc C__law_colon (hr.mono (by decide)) (pa_cons (kv 0) (pa_cons (kv 5) pa_nil)))))))))))
      (pss_one (ps_ret (kv 4)))
      pss_nil)
      (pss_one (ps_if (pt_cmpR (o_eq hr.units) (kv 5) (kv 6) (nomark _))
      (pss_one (ps_ret (kv 1)))
      pss_nil))))))
      (pss_one (ps_ret (kv 1))))))))), ?_⟩)
  · obtain ⟨l, i, t, rfl, _⟩ := h; rfl
  · obtain ⟨l, i, t, rfl, hl, ht, hi, h⟩ := h
    walk_at "kk"
    obtain ⟨c, hc⟩ : ∃ c, l[i]? = some c := ⟨_, List.getElem?_eq_getElem hi⟩
    refine ⟨c, atI_nat hc, ?_⟩
    rw [LX.replace_dbl]
    have dl : (dbl t).length ≤ 2 * t.length := dbl_len t
    rw [S_app', S_app']
    obtain ⟨F, hF⟩ : ∃ F, F = [39] ++ dbl t ++ [39] := ⟨_, rfl⟩
    have lF : F.length ≤ 8002 := by rw [hF]; simp; omega
    have h0 : lSym l i t = if l[i]? = some 39 then (if sub l i (i + F.length) = F ∧ l[i + F.length]? ≠ some 39 then i + F.length else i) else if l[i]? ≠ some 35 ∨ sub l (i + 1) (i + 1 + t.length) ≠ t then i
        else if lName l (i + 1) = i + 1 ∨ kwEnd l (lName l (i + 1)) = false then (if lName l (i + 1) = i + 1 + t.length ∧ i + 1 < lName l (i + 1) then lName l (i + 1) else i)
        else symGo l i (i + 1 + t.length) (l.length + 1) (lName l (i + 1)) := by rw [hF]; rfl
    rw [← hF]
    rw [h0] at h
    by_cases c1 : c = 39
    · subst c1
      rw [if_pos rfl]
      rw [if_pos hc] at h
      rw [cut_sub l (i := i) (j := i + F.length) (y := (i : Int) + ((S F).length : Nat)) rfl (by rw [S_len]; omega), cut_sub l (i := i + F.length) (j := i + F.length + 1) (x := (i : Int) + ((S F).length : Nat)) (y := (i : Int) + ((S F).length : Nat) + 1) (by rw [S_len]; omega) (by rw [S_len]; omega), sub_one]
      refine ⟨by omega, le_line (by rw [S_len]; omega), le_line (by rw [S_len]; simp; omega), le_line (by rw [S_len]; omega), le_line (by omega), ?_⟩
      have q1 : S (sub l i (i + F.length)) = S F ↔ sub l i (i + F.length) = F := S_inj
      have q2 : S ((l.drop (i + F.length)).take 1) = S [39] ↔ l[i + F.length]? = some 39 := S_inj.trans (ch_eq l _ 39)
      have eF : (i : Int) + ((S F).length : Nat) = ((i + F.length : Nat) : Int) := by rw [S_len]; omega
      by_cases c2 : sub l i (i + F.length) = F
      · rw [if_pos (q1.mpr c2)]
        refine ⟨le_line (by omega), ?_⟩
        by_cases c3 : l[i + F.length]? = some 39
        · rw [if_neg (fun z => z (q2.mpr c3))]
          rw [if_neg (fun z => z.2 c3)] at h; exact h
        · rw [if_pos (fun z => c3 (q2.mp z))]
          rw [if_pos ⟨c2, c3⟩] at h
          rw [eF]; exact h
      · rw [if_neg (fun z => c2 (q1.mp z))]
        rw [if_neg (fun z => c2 z.1)] at h; exact h
    · rw [if_neg c1]
      rw [if_neg (by rw [hc]; exact fun z => c1 (Option.some.inj z))] at h
      refine ⟨le_line (by omega), le_line (by omega), c, atI_nat hc, ?_⟩
      by_cases c2 : c = 35
      · subst c2
        rw [if_neg (by simp)]
        refine ⟨le_line (by omega), ?_⟩
        rw [cut_sub l (i := i + 1) (j := i + 1 + t.length) (x := (i : Int) + 1) (y := (i : Int) + 1 + (t.length : Nat)) rfl (by omega)]
        have q1 : S (sub l (i + 1) (i + 1 + t.length)) = S t ↔ sub l (i + 1) (i + 1 + t.length) = t := S_inj
        by_cases c3 : sub l (i + 1) (i + 1 + t.length) = t
        · rw [if_neg (fun z => z (q1.mpr c3))]
          rw [if_neg (by rintro (z | z); exact z hc; exact z c3)] at h
          refine ⟨l, i + 1, rfl, by omega, ?_⟩
          generalize hs : lName l (i + 1) = s0 at h
          have tail : (s0 = i + 1 ∨ kwEnd l s0 = false) → (if ((s0 : Nat) : Int) = (i : Int) + 1 + (t.length : Nat) then (if (i : Int) + 1 < ((s0 : Nat) : Int) then Q (.int ((s0 : Nat) : Int)) H else Q (.int (i : Int)) H) else Q (.int (i : Int)) H) := fun hc' => by
            rw [if_pos hc'] at h
            by_cases c4 : s0 = i + 1 + t.length
            · rw [if_pos (by omega)]
              by_cases c5 : i + 1 < s0
              · rw [if_pos (by omega)]
                rw [if_pos ⟨c4, c5⟩] at h; exact h
              · rw [if_neg (by omega)]
                rw [if_neg (fun z => c5 z.2)] at h; exact h
            · rw [if_neg (by omega)]
              rw [if_neg (fun z => c4 z.1)] at h; exact h
          walk_at "kk"
          by_cases c6 : s0 = i + 1
          · rw [if_pos (by omega)]
            exact tail (.inl c6)
          · rw [if_neg (by omega)]
            refine kwEnd_s (by omega) ?_
            walk_at "kk"
            by_cases c7 : kwEnd l s0 = true
            · rw [if_neg (by rw [c7]; simp)]
              rw [if_neg (by rintro (z | z); exact c6 z; rw [c7] at z; cases z)] at h
              refine ⟨fun m σ H' => ∃ (st : Nat) (v6 : Option V), σ = [some (.str (S l)), some (.int i), some (.str (S t)), none, some (.int ((i + 1 + t.length : Nat) : Int)), some (.int st), v6] ∧ H' = H ∧ symGo l i (i + 1 + t.length) m st = symGo l i (i + 1 + t.length) (l.length + 1) s0 ∧ l.length + 1 ≤ m + st, ⟨l.length + 1, s0, _, rfl, rfl, rfl, by omega⟩, ?_⟩
              rintro m σ _ ⟨st, v6, rfl, rfl, hq, hf⟩
              have nm : st + 1 ≤ lName l (st + 1) := by
                unfold lName
                split
                · rename_i s hs; exact Nat.le_of_lt (nameEnd_gt hs)
                · exact Nat.le_refl _
              walk_at "kk"
              by_cases d1 : st < l.length
              · rw [if_pos (by omega)]
                refine kwEnd_s (by omega) ?_
                by_cases d2 : kwEnd l st = true
                · obtain ⟨m, rfl⟩ : ∃ k, m = k + 1 := ⟨m - 1, by omega⟩
                  rw [symGo, if_pos ⟨d1, d2⟩] at hq
                  rw [d2]
                  walk_at "kk"
                  refine ⟨l, st + 1, rfl, by omega, ?_⟩
                  generalize lName l (st + 1) = s1 at hq nm ⊢
                  have dn : (s1 = st + 1) → (st + 1 = i + 1 + t.length → False) → symGo l i (i + 1 + t.length) (l.length + 1) s0 = i := fun z y => by
                    rw [if_neg (fun w => y w.1), if_pos z] at hq; exact hq.symm
                  have yes : st + 1 = i + 1 + t.length → (s1 = st + 1 ∨ kwEnd l s1 = false) → symGo l i (i + 1 + t.length) (l.length + 1) s0 = i + 1 + t.length := fun z y => by
                    rw [if_pos ⟨z, y⟩] at hq; exact hq.symm
                  have go : ¬ s1 = st + 1 → (st + 1 = i + 1 + t.length → kwEnd l s1 = true) → symGo l i (i + 1 + t.length) m s1 = symGo l i (i + 1 + t.length) (l.length + 1) s0 := fun z y => by
                    rw [if_neg (by rintro ⟨w, w' | w'⟩; exact z w'; rw [y w] at w'; cases w'), if_neg z] at hq; exact hq
                  by_cases d3 : st + 1 = i + 1 + t.length
                  · rw [if_pos (by omega)]
                    walk_at "kk"
                    by_cases d4 : s1 = st + 1
                    · rw [if_pos (by omega)]
                      rw [yes d3 (.inl d4)] at h; exact h
                    · rw [if_neg (by omega)]
                      refine kwEnd_s (by omega) ?_
                      by_cases d5 : kwEnd l s1 = true
                      · rw [d5]
                        walk_at "kk"
                        rw [if_neg (by omega)]
                        exact ⟨m, Nat.lt_succ_self m, go d4 (fun _ => d5), by omega⟩
                      · have d5' : kwEnd l s1 = false := by simpa using d5
                        rw [d5']
                        walk_at "kk"
                        rw [yes d3 (.inr d5')] at h; exact h
                  · rw [if_neg (by omega)]
                    walk_at "kk"
                    by_cases d4 : s1 = st + 1
                    · rw [if_pos (by omega)]
                      rw [dn d4 d3] at h; exact h
                    · rw [if_neg (by omega)]
                      exact ⟨m, Nat.lt_succ_self m, go d4 (fun z => (d3 z).elim), by omega⟩
                · have d2' : kwEnd l st = false := by simpa using d2
                  rw [d2']
                  walk_at "kk"
                  have : symGo l i (i + 1 + t.length) m st = i := by
                    cases m with
                    | zero => rfl
                    | succ m => rw [symGo, if_neg (fun z => d2 z.2)]
                  rw [← hq, this] at h; exact h
              · rw [if_neg (by omega)]
                have : symGo l i (i + 1 + t.length) m st = i := by
                  cases m with
                  | zero => rfl
                  | succ m => rw [symGo, if_neg (fun z => d1 z.1)]
                rw [← hq, this] at h; exact h
            · rw [if_pos (by simpa using c7)]
              exact tail (.inr (by simpa using c7))
        · rw [if_pos (fun z => c3 (q1.mp z))]
          rw [if_pos (.inr c3)] at h; exact h
      · rw [if_pos c2]
        rw [if_pos (.inl (by rw [hc]; exact fun z => c2 (Option.some.inj z)))] at h; exact h
end
end K11

set_option Elab.async false
set_option linter.all false
set_option maxRecDepth 100000
set_option maxHeartbeats 4000000
/-! Lx5: the law's side: tokens, tiles, misfits -/
namespace LX
open PySem PySem.Spec PyProof.Rows L2 KW
def natTxt (n : Nat) : Str := toString (n : Int)
def MRKS : List (List Nat) := [[58, 61], [58], [94], [46], [124], [40], [41], [91], [93]]
def lTok (l : List Nat) (i : Nat) : TK → TV → Nat
  | .symbol, .txt t => lSym l i t
  | .number, .num n => if isLet l (endOf l i DIG) = true ∨ 9 < endOf l i DIG - i ∨ natTxt n ≠ S (sub l i (endOf l i DIG)) then i else endOf l i DIG
  | .name, .txt t => if sub l i (i + t.length) = t ∧ lName l i = i + t.length ∧ kwEnd l (i + t.length) = false then i + t.length else i
  | .keyword, .txt t => if sub l i (i + t.length) = t ∧ 1 < t.length ∧ lName l i + 1 = i + t.length ∧ kwEnd l (i + t.length - 1) = true then i + t.length else i
  | .sign, .txt t => if sub l i (i + t.length) = t ∧ min (i + 2) (endOf l i SGN) = i + t.length then i + t.length else i
  | .mark, .txt t => if sub l i (i + t.length) = t ∧ t ∈ MRKS ∧ ¬ (t = [58] ∧ l[i + t.length]? = some 61) then i + t.length else i
  | _, _ => i
/-- the value fits the kind -/
def Fit : TK → TV → Prop
  | .number, .num n => n < 10 ^ 9
  | .number, .txt _ => False
  | _, .num _ => False
  | .symbol, .txt t => t.length ≤ 4000
  | _, .txt t => t ≠ [] ∧ t.length ≤ 4000
def spTokEnd : Sp := fun vs H Q _ => ∃ (l : List Nat) (i : Nat) (k : TK) (v : TV), vs = [.str (S l), .int i, .str (S k.s), v.v] ∧ l.length ≤ 4000 ∧ i < l.length ∧ Fit k v ∧ ∀ H', KW.Fr [] H H' → Q (.int (lTok l i k v)) H'
def spIsTok : Sp := fun vs H Q _ => ∃ (p : Addr) (i : Nat) (k : TK) (v : TV), vs = [.ref p] ∧ TkAt H p i k v ∧ Fit k v ∧ Q (.bl true) H
theorem ks_symbol (k : TK) : (k.s = [115, 121, 109, 98, 111, 108]) = (k = .symbol) := by cases k <;> decide
theorem ks_number (k : TK) : (k.s = [110, 117, 109, 98, 101, 114]) = (k = .number) := by cases k <;> decide
theorem ks_name (k : TK) : (k.s = [110, 97, 109, 101]) = (k = .name) := by cases k <;> decide
theorem ks_keyword (k : TK) : (k.s = [107, 101, 121, 119, 111, 114, 100]) = (k = .keyword) := by cases k <;> decide
theorem ks_sign (k : TK) : (k.s = [115, 105, 103, 110]) = (k = .sign) := by cases k <;> decide
theorem ks_mark (k : TK) : (k.s = [109, 97, 114, 107]) = (k = .mark) := by cases k <;> decide
theorem vt (t : List Nat) : (TV.txt t).v = .str (S t) := rfl
theorem vn (n : Nat) : (TV.num n).v = .int n := rfl
end LX

set_option Elab.async false
set_option linter.all false
set_option maxRecDepth 100000
set_option maxHeartbeats 4000000
namespace K11
open PySem PySem.Spec PyProof.Rows L2 KW LX
local macro_rules | `(tactic| walk_at "kw") => `(tactic| simp only [tSeq, tNext, tIfS, tTest, tAnd, tOr, tNot, tAndV, tOrV, tNotV, tIf, tChain, tOp, tUn, tC, tAsg, gName, gSub, gCons, gNil, tRet, tRetN, tDrop, tCons, tNil, tCB, tAug, tSl, tPart, tNoPart, tLst, tTup, tBM, tBM0, uTest, uFor, iRng1, iRng2, iList, uCall, List.map_cons, List.map_nil, List.length_cons, List.length_nil, List.cons_append, List.nil_append, List.replicate, Nat.zero_add, Nat.reduceAdd, Nat.reduceSub, List.getElem?_cons_zero, List.getElem?_cons_succ, List.set_cons_zero, List.set_cons_succ, V.bl.injEq, V.int.injEq, V.str.injEq, V.ref.injEq, V.ty.injEq, List.cons.injEq, and_true, true_and, exists_eq_left', exists_eq_right, exists_eq_left, exists_and_left, exists_and_right, decide_eq_true_eq, Bool.not_eq_true', decide_eq_false_iff_not, Bool.false_eq_true, if_true, if_false, ite_true, ite_false, Bool.not_true, Bool.not_false, reduceCtorEq, decide_true, decide_false, Bool.not_not, isK_int_int, isK_int_bool, isK_int_str, isK_int_list, isK_int_tuple, isK_bool_int, isK_bool_bool, isK_bool_str, isK_str_str, isK_str_int, isK_str_bool, isK_str_tuple, isK_str_list, isK_list_list, isK_list_tuple, isK_tuple_tuple, isK_tuple_list, isOk_int_int, isOk_int_bool, isOk_int_str, isOk_int_list, isOk_int_tuple, isOk_bool_int, isOk_bool_bool, isOk_bool_str, isOk_str_str, isOk_str_int, isOk_str_bool, isOk_str_tuple, isOk_str_list, isOk_list_list, isOk_list_tuple, isOk_tuple_tuple, isOk_tuple_list, isK_dict_dict, isOk_dict_dict, isK_none_int, isK_none_bool, isOk_none_int, isOk_none_bool, tyV, S_inj, S_cat, L2.start, Nat.reduceSub, List.replicate_succ, List.replicate_zero, and_assoc, List.append_nil, Nat.reduceEqDiff, Option.some.injEq, Int.natCast_inj, upd_upd, Int.reducePow, Int.reduceToNat, Int.reduceMul, Int.reduceAdd, Int.reduceSub, Int.reduceLT, Int.reduceLE, Int.reduceNeg, Int.reduceDiv, Int.reduceMod, Nat.reducePow, Nat.reduceMul, S_len, List.length_append, List.length_map, List.length_range, not_true_eq_false, not_false_eq_true, ne_eq, uAdd_e1, uAdd_e2, uSub_e1, uMod_e1, uDiv_e1, uPow_e1, uShl_e1, uNeg_e1, uIAdd_e1, uIAdd_e2, uIAdd_e3, uISub_e1, uLt_e1, uLt_e2, uLe_e1, uGt_e1, uGe_e1, uEq_e1, uEq_e2, uEq_e3, uEq_e4, uEq_e5, uEq_e6, uEq_e7, uEq_e8, uEq_e9, uEq_e10, uEq_e11, uNe_e1, uNe_e2, uNe_e3, uNe_e4, uNe_e5, uNe_e6, uNe_e7, uNe_e8, uNe_e9, uNe_e10, uNe_e11, uIs_e1, uIs_e2, uIs_e3, uIs_e4, uIs_e5, uIs_e6, uIs_e7, uNotIs_e1, uNotIs_e2, uNotIs_e3, uNotIs_e4, uNotIs_e5, uNotIs_e6, uIn_e1, uIn_e2, uIn_e3, uIn_e4, uNotIn_e1, uNotIn_e2, uNotIn_e3, uNotIn_e4, uTru_e1, uTru_e2, uTru_e3, uTru_e4, uIx_e2, uSl_e2, uLen_e1, uAbs_e1, uInt_e1, uInt_e2, uMin2_e1, uIsi_e1, uIsi_e2, uIsi_e3, uIsi_e4, cx_K, uVar_0, uVar_n, uFld, uSFld, uMet, uMake, tDG, tDI, tDNI, tDP, tDD, uMk, uRaise, uDelSl, tCallS, L2.WE, uStr_e1, uStr_e2, uMul2_e1, uMul2_e2, okS_i, okS_s, List.zip_cons_cons, List.zip_nil_left, List.drop_zero, List.drop_succ_cons, List.drop_nil, putF_nil, putF_cons, eq_self, tDNewK, tB, Option.isSome_some, Option.isSome_none, false_and, false_or, or_false, exists_false, Int.zero_add, uLc, wipe, tYes, isEmpty_app, List.isEmpty_cons, List.isEmpty_nil, List.isEmpty_map, Bool.and_false, Bool.and_true, iRev, K11.lit_0, K11.lit_1, K11.lit_2, K11.lit_3, K11.lit_4, K11.lit_5, K11.lit_6, K11.lit_7, K11.lit_8, K11.lit_9, K11.lit_10, K11.lit_11, K11.lit_12, K11.lit_13, K11.lit_14, K11.lit_15, K11.lit_16, K11.lit_17, K11.lit_18, K11.lit_19, K11.lit_20, K11.lit_21, K11.lit_22, K11.lit_23, K11.lit_24, K11.lit_25, K11.lit_26, K11.lit_27, K11.lit_28, K11.lit_29, K11.lit_30, K11.lit_31, K11.lit_32, K11.lit_33, K11.lit_34, uIntL_e1, uIntL_e2, CwR.tReplC, K11.N_char_at, K11.N_is_in, K11.N_end_of, K11.N_is_name, K11.N_name_end, K11.N_is_keyword_end, K11.N_read_name, K11.N_read_number, K11.N_read_hash, K11.N_read_quoted, K11.N_read_sign, K11.N_read_token, K11.N_skipped, K11.N_tokens_of, K11.N__law_start, K11.N__law_pick, K11.N__law_letters, K11.N__law_source, K11.N__law_run, K11.N__law_word_end, K11.N__law_is_letter, K11.N__law_name_end, K11.N__law_colon, K11.N__law_skip, K11.N__law_symbol_end, K11.N__law_token_end, K11.N__law_is_token, K11.N__law_tiles, K11.N__law_misfit, K11.N_law])
local macro_rules | `(tactic| walk_at "nn") => `(tactic| first | assumption | exact ne_un (by assumption) | exact ne_un (ne_un (by assumption)) | exact ne_un (ne_un (ne_un (by assumption))) | exact ne_un (ne_un (ne_un (ne_un (by assumption)))))
local macro_rules | `(tactic| walk_at "ne") => `(tactic| first | assumption | (apply Ne.symm; assumption) | exact ne_ud (by assumption) | exact Ne.symm (ne_ud (by assumption)) | exact ne_ud (ne_un (by assumption)) | exact Ne.symm (ne_ud (ne_un (by assumption))) | exact ne_ud (ne_un (ne_un (by assumption))) | exact Ne.symm (ne_ud (ne_un (ne_un (by assumption)))) | exact ne_m (by assumption) (by assumption) | exact Ne.symm (ne_m (by assumption) (by assumption)) | exact ne_n (by assumption) (by walk_at "nn") | exact Ne.symm (ne_n (by assumption) (by walk_at "nn")))
local macro_rules | `(tactic| walk_at "hp") => `(tactic| first | assumption | exact upd_same | (refine Eq.trans (upd_ne ?_) ?_; (focus walk_at "ne"); walk_at "hp"))
local macro_rules | `(tactic| walk_at "sc") => `(tactic| first | (with_reducible assumption) | omega | exact le_line (by (try simp only [List.length_map, List.length_append, List.length_cons, List.length_nil, S_len]); omega) | exact div_s (by omega) | exact mul_r (by omega) | exact mul_l (by omega) | exact pow_s (by omega) | exact mul2_r (by omega) | exact mul2_l (by omega) | exact small4300 (by omega) | exact lt_line (by (try simp only [List.length_map, List.length_append, List.length_cons, List.length_nil, S_len]); omega) | exact ⟨_, by assumption⟩ | (guard_target =~ Exists _; exact ⟨_, .of (by walk_at "hp")⟩) | (guard_target =~ _ ∨ _; exact .inl ⟨_, by assumption⟩) | (guard_target =~ _ ∨ _; exact .inl ⟨_, .of (by walk_at "hp")⟩) | (guard_target =~ _ ∨ _; exact .inr (.inr (.inl ⟨rfl, .inl ⟨_, by walk_at "hp"⟩⟩))) | decide)
local macro_rules | `(tactic| walk_at "kr") => `(tactic| first | (guard_target =~ _ ∧ _; first | refine And.intro (by walk_at "sc") ?_) | (guard_target =~ KW.uIx _ _ _ _ _; first | refine ix_l (by walk_at "hp") (by first | walk_at "hv" | rfl) ?_ | refine ix_t (by walk_at "hp") (by first | walk_at "hv" | rfl) ?_ | refine ix_sl (by assumption) (by walk_at "hv") ?_) | (guard_target =~ KW.uLen _ _ _ _; first | refine len_l (by walk_at "hp") ?_ | refine len_t (by walk_at "hp") ?_ | refine len_sl (by assumption) ?_) | (guard_target =~ KW.uSet _ _ _ _ _; first | refine set_l (by walk_at "hp") (by first | walk_at "hv" | rfl) ?_) | (guard_target =~ L2.gTup _ _ _ _ _ _ _; first | refine tup_l (by walk_at "hp") (by rfl) ?_) | (guard_target =~ KW.uGet _ _ _ _ _; first | refine get_l (by walk_at "hp") (by walk_at "hc") (by decide) (by rfl) ?_) | (guard_target =~ KW.uPut _ _ _ _ _ _; first | refine put_l (by walk_at "hp") (by walk_at "hc") (by decide) (by simp) ?_) | (guard_target =~ KW.uMet.uMt _ _ _ _ _ _ _ _ _; first | refine met_l (by walk_at "hp") (by rfl) ?_) | (guard_target =~ KW.uMet.uMt _ _ _ _ _ _ _ _ _; first | refine ST.met_s (by assumption) (by decide) ?_) | (guard_target =~ ST.spExists _ _ _ _ _; first | refine ST.exists_s (by assumption) ?_) | (guard_target =~ ST.spUsed _ _ _ _ _; first | refine ST.used_s (by assumption) ?_) | (guard_target =~ KW.uGet _ _ _ _ _; first | refine ST.words_s (by assumption) (by walk_at "hc") (by decide) ?_) | (guard_target =~ KW.uDIn _ _ _ _; first | refine din_i (by walk_at "hp") ?_ | refine din_s (by walk_at "hp") ?_) | (guard_target =~ KW.uDGet _ _ _ _; first | refine dget_i (by walk_at "hp") (by walk_at "hv") ?_ | refine dget_s (by walk_at "hp") (by walk_at "hv") ?_) | (guard_target =~ KW.uDPut _ _ _ _ _; first | refine dput_i (by walk_at "hp") (by walk_at "sc") ?_ | refine dput_s (by walk_at "hp") (by walk_at "sc") ?_) | (guard_target =~ KW.uDDel _ _ _ _; first | refine ddel_i (by walk_at "hp") (by walk_at "hv") ?_ | refine ddel_s (by walk_at "hp") (by walk_at "hv") ?_) | (guard_target =~ KW.uMul2 _ _ _ _; first | refine rep_l (by walk_at "hp") (by walk_at "sc") (by walk_at "sc") (by walk_at "sc") ?_) | (guard_target =~ L2.rAppend _ _ _ _; first | refine app_l (by walk_at "hp") (by walk_at "sc") ?_) | (guard_target =~ L2.rPop _ _ _ _; first | refine pop_l (by walk_at "hp") (by walk_at "hv") ?_ | refine pops_l (by walk_at "hp") ?_) | (guard_target =~ L2.rClear _ _ _ _; first | refine clr_l (by walk_at "hp") ?_) | (guard_target =~ L2.rReverse _ _ _ _; first | refine rev_l (by walk_at "hp") ?_) | (guard_target =~ L2.rExtend _ _ _ _; first | refine ext_l (by walk_at "hp") (by walk_at "hp") (by walk_at "sc") ?_) | (guard_target =~ KW.uAdd _ _ _ _ _; first | refine ucat_l (by walk_at "hp") (by walk_at "hp") (by walk_at "sc") ?_) | (guard_target =~ KW.uSl _ _ _ _ _ _; first | refine usl_l (by walk_at "hp") ?_) | (guard_target =~ KW.uTru _ _ _ _; first | refine tru_l (by walk_at "hp") ?_ | refine tru_t (by walk_at "hp") ?_ | refine tru_d (by walk_at "hp") ?_ | refine tru_sl (by assumption) ?_) | (guard_target =~ L2.rIndex _ _ _ _ _; first | refine idx_s (by walk_at "hp") (by assumption) ?_ | refine idx_i (by walk_at "hp") (by assumption) ?_) | (guard_target =~ L2.rIn _ _ _ _ _ _; first | refine in_s (by walk_at "hp") ?_ | refine nin_s (by walk_at "hp") ?_ | refine in_i (by walk_at "hp") ?_ | refine nin_i (by walk_at "hp") ?_) | (guard_target =~ KW.uIsi _ _ _ _; first | refine isi_l (by walk_at "hp") (by decide +kernel) ?_ | refine isi_t (by walk_at "hp") (by decide +kernel) ?_ | refine isi_d (by walk_at "hp") (by decide +kernel) ?_) | (guard_target =~ KW.uList _ _ _ _; first | refine list_l (by walk_at "hp") ?_ | refine list_t (by walk_at "hp") ?_ | refine list_sl (by assumption) ?_) | (guard_target =~ KW.uDict _ _ _; first | refine dict_d (by walk_at "hp") ?_) | (guard_target =~ KW.uSorted _ _ _ _; first | refine srt_l (by walk_at "hp") ?_) | (guard_target =~ KW.uSum _ _ _ _; first | refine sum_l (by walk_at "hp") ?_) | (guard_target =~ KW.uDelC _ _ _ _; first | refine dels_l (by walk_at "hp") (by walk_at "sc") ?_) | (guard_target =~ L2.wAs _ _ _ _ _ _ _ _ _ _; first | refine as_yes (by walk_at "hx") ?_ | refine as_no (by walk_at "hx") ?_) | (guard_target =~ KW.uEf _ _ _ _ _ _ _ _ _; first | refine ef_l (by walk_at "he") (by decide) (by rfl) (by walk_at "hp") (by rfl) ?_) | (guard_target =~ KW.uIsE _ _ _ _ _ _ _; first | refine isE_r (by walk_at "he") (by walk_at "hp") (by walk_at "hk") ?_ | refine isE_t (by walk_at "he") (by walk_at "hp") (by walk_at "hk") ?_))
local macro_rules | `(tactic| walk_at "hv") => `(tactic| first | assumption)
local macro_rules | `(tactic| walk_at "kk") => `(tactic| repeat (first | walk_at "kw" | walk_at "kr"))
local macro_rules | `(tactic| walk_at "hc") => `(tactic| first | fail)
local macro_rules | `(tactic| walk_at "he") => `(tactic| first | exact K11.Txt.e_Malformed (by assumption) | exact K11.Txt.e_Oversized (by assumption))
local macro_rules | `(tactic| walk_at "hx") => `(tactic| first | exact K11.Txt.x_Malformed_KilnwardenError (by assumption) | exact K11.Txt.x_Malformed_Malformed (by assumption) | exact K11.Txt.x_Malformed_Oversized (by assumption) | exact K11.Txt.x_Oversized_KilnwardenError (by assumption) | exact K11.Txt.x_Oversized_Malformed (by assumption) | exact K11.Txt.x_Oversized_Oversized (by assumption))
local macro_rules | `(tactic| walk_at "hk") => `(tactic| first | fail)

section
variable {P : Program} {w : World} {K : Frag} {mg : Str → Option Value} {base : Heap} {a : Ads}
theorem ok__law_token_end (T : Txt P w K mg a) : Cal P w K mg base 5 "_law_token_end" spTokEnd := by
  have C__law_symbol_end := ok__law_symbol_end (P := P) (w := w) (base := base) T
  have C__law_run := ok__law_run (P := P) (w := w) (base := base) T
  have C__law_is_letter := ok__law_is_letter (P := P) (w := w) (base := base) T
  have C__law_name_end := ok__law_name_end (P := P) (w := w) (base := base) T
  have C__law_colon := ok__law_colon (P := P) (w := w) (base := base) T
  refine T.d__law_token_end.ok sc__law_token_end (fun vs H Q E h => ?_) (fun f cdv A outer s H vs Q E hr h => ⟨_, (pss_cons (ps_if (pt_cmpR (o_eq hr.units) (kv 2) pe_str (nomark _))
      (pss_one (ps_ret (kc C__law_symbol_end (hr.mono (by decide)) (pa_cons (kv 0) (pa_cons (kv 1) (pa_cons (kv 3) pa_nil))))))
      pss_nil)
      (pss_cons (ps_if (pt_cmpR (o_eq hr.units) (kv 2) pe_str (nomark _))
      (pss_cons (ps_set (i := 4) sc__law_token_end.nd rfl (Or.inl rfl) (kc C__law_run (hr.mono (by decide)) (pa_cons (kv 0) (pa_cons (kv 1) (pa_cons pe_str pa_nil)))))
      (pss_cons (ps_if (PW.pt (pw_or (kt (kc C__law_is_letter (hr.mono (by decide)) (pa_cons (kv 0) (pa_cons (kv 4) pa_nil)))) (pw_or (pt_cmpR o_gt (pe_op o_sub (kv 4) (kv 1)) pe_int (nomark _)) (pw_or1 (pt_cmpR (o_ne hr.units) (pe_callTy c_str (by rfl) T.n_str (by decide +kernel) (pa_cons (kv 3) pa_nil)) (pe_slice o_sl (kv 0) (po_some (kv 1)) (po_some (kv 4))) (nomark _))))))
      (pss_one (ps_ret (kv 1)))
      pss_nil)
      (pss_one (ps_ret (kv 4)))))
      pss_nil)
      (pss_cons (ps_set (i := 4) sc__law_token_end.nd rfl (Or.inl rfl) (pe_op o_add (kv 1) (pe_callB c_len (by rfl) T.n_len (by decide +kernel) (pa_cons (kv 3) pa_nil))))
      (pss_cons (ps_if (pt_cmpR (o_ne hr.units) (pe_slice o_sl (kv 0) (po_some (kv 1)) (po_some (kv 4))) (kv 3) (nomark _))
      (pss_one (ps_ret (kv 1)))
      pss_nil)
      (pss_cons (ps_if (pt_cmpR (o_eq hr.units) (kv 2) pe_str (nomark _))
      (pss_one (ps_ret (pe_ifExp (PW.pt (pw_and (pt_cmpR (o_eq hr.units) (kc C__law_name_end (hr.mono (by decide)) (pa_cons (kv 0) (pa_cons (kv 1) pa_nil))) (kv 4) (nomark _)) (pw_and1 (pt_not (kt (kc C__law_colon (hr.mono (by decide)) (pa_cons (kv 0) (pa_cons (kv 4) pa_nil)))))))) (kv 4) (kv 1))))
      pss_nil)
      (pss_cons (ps_if (pt_cmpR (o_eq hr.units) (kv 2) pe_str (nomark _))
      (pss_one (ps_ret (pe_ifExp (PW.pt (pw_and (pt_cmpR o_gt (kv 4) (pe_op o_add (kv 1) pe_int) (nomark _)) (pw_and (pt_cmpR (o_eq hr.units) (kc C__law_name_end (hr.mono (by decide)) (pa_cons (kv 0) (pa_cons (kv 1) pa_nil))) (pe_op o_sub (kv 4) pe_int) (nomark _)) (pw_and1 (kt (kc C__law_colon (hr.mono (by decide)) (pa_cons (kv 0) (pa_cons (pe_op o_sub (kv 4) pe_int) pa_nil)))))))) (kv 4) (kv 1))))
      pss_nil)
      (pss_cons (ps_if (pt_cmpR (o_eq hr.units) (kv 2) pe_str (nomark _))
      (pss_one (ps_ret (pe_ifExp (pt_cmpR (o_eq hr.units) (pe_callB (c_min2 rfl) (by rfl) T.n_min (by decide +kernel) (pa_cons (pe_op o_add (kv 1) pe_int) (pa_cons (kc C__law_run (hr.mono (by decide)) (pa_cons (kv 0) (pa_cons (kv 1) (pa_cons pe_str pa_nil)))) pa_nil))) (kv 4) (nomark _)) (kv 4) (kv 1))))
      pss_nil)
      (pss_cons (ps_if (PW.pt (pw_or (pt_cmpR (o_ne hr.units) (kv 2) pe_str (nomark _)) (pw_or1 (pt_cmpR o_notin (kv 3) (pe_lst (pa_cons pe_str (pa_cons pe_str (pa_cons pe_str (pa_cons pe_str (pa_cons pe_str (pa_cons pe_str (pa_cons pe_str (pa_cons pe_str (pa_cons pe_str pa_nil)))))))))) (by rfl)))))
      (pss_one (ps_ret (kv 1)))
      pss_nil)
      (pss_one (ps_ret (pe_ifExp (PW.pt (pw_and (pt_cmpR (o_eq hr.units) (kv 3) pe_str (nomark _)) (pw_and1 (pt_cmpR (o_eq hr.units) (pe_slice o_sl (kv 0) (po_some (kv 4)) (po_some (pe_op o_add (kv 4) pe_int))) pe_str (nomark _))))) (kv 1) (kv 4)))))))))))), ?_⟩)
  · obtain ⟨l, i, k, v, rfl, _⟩ := h; rfl
  · obtain ⟨l, i, k, v, rfl, hl, hi, hv, h⟩ := h
    have h0 := h
    replace h := h H (KW.Fr.refl H)
    have le_ : i ≤ l.length := by omega
    have kk7 : ∀ k : TK, (k.s = str_7) = (k = .keyword) := ks_keyword
    cases k with
    | symbol =>
      cases v with
      | num n => exact hv.elim
      | txt t =>
        simp only [vt]
        have ht : t.length ≤ 4000 := by first | exact hv | exact hv.2
        walk_at "kk"
        simp only [ks_symbol, ks_number, ks_name, kk7, ks_sign, ks_mark, reduceCtorEq, if_true, if_false, not_true_eq_false, not_false_eq_true]
        exact ⟨l, i, t, rfl, hl, ht, hi, h⟩
    | number =>
      cases v with
      | txt t => exact hv.elim
      | num n =>
        have hn : ((n : Nat) : Int).natAbs.log2 < 1920 := by
          have : n < 2 ^ 30 := Nat.lt_trans hv (by decide)
          by_cases n0 : n = 0
          · subst n0; decide
          · exact Nat.lt_trans ((Nat.log2_lt (by simpa using n0)).mpr (show n < 2 ^ 30 from this)) (by decide)
        simp only [vn]
        walk_at "kk"
        simp only [ks_symbol, ks_number, ks_name, kk7, ks_sign, ks_mark, reduceCtorEq, if_true, if_false, not_true_eq_false, not_false_eq_true]
        refine ⟨l, DIG, i, rfl, by omega, ?_⟩
        refine ⟨l, endOf l i DIG, rfl, by omega, ?_⟩
        have ge := endOf_ge l DIG i
        have le : endOf l i DIG ≤ l.length := endOf_le le_
        have h' : Q (.int ((if isLet l (endOf l i DIG) = true ∨ 9 < endOf l i DIG - i ∨ natTxt n ≠ S (sub l i (endOf l i DIG)) then i else endOf l i DIG : Nat) : Int)) H := h
        clear h
        generalize endOf l i DIG = e at h' ge le ⊢
        walk_at "kk"
        by_cases c1 : isLet l e = true
        · rw [if_pos c1]
          rw [if_pos (.inl c1)] at h'; exact h'
        · rw [if_neg c1]
          by_cases c2 : 9 < e - i
          · rw [if_pos (by omega)]
            rw [if_pos (.inr (.inl c2))] at h'; exact h'
          · rw [if_neg (by omega)]
            refine ⟨hn, le_line (by omega), ?_⟩
            rw [cut_sub l (i := i) (j := e) rfl rfl, ← show natTxt n = Str.ofString (toString ((n : Nat) : Int)) from rfl]
            by_cases c3 : natTxt n ≠ S (sub l i e)
            · rw [if_pos (show ¬ _ from c3)]
              rw [if_pos (.inr (.inr c3))] at h'; exact h'
            · rw [if_neg (show ¬ ¬ _ from c3)]
              rw [if_neg (by rintro (z | z | z); exact c1 z; exact c2 z; exact c3 z)] at h'; exact h'
    | name =>
      cases v with
      | num n => exact hv.elim
      | txt t =>
        simp only [vt]
        have ht : t.length ≤ 4000 := by first | exact hv | exact hv.2
        walk_at "kk"
        simp only [ks_symbol, ks_number, ks_name, kk7, ks_sign, ks_mark, reduceCtorEq, if_true, if_false, not_true_eq_false, not_false_eq_true]
        walk_at "kk"
        have q1 : (cutS (S l) (some (i : Int)) (some ((i : Int) + (t.length : Nat))) = S t) ↔ sub l i (i + t.length) = t := by
          rw [cut_sub l (i := i) (j := i + t.length) rfl (by omega)]; exact S_inj
        have et : (i : Int) + (t.length : Nat) = ((i + t.length : Nat) : Int) := by omega
        by_cases c1 : sub l i (i + t.length) = t
        · rw [if_neg (fun z => z (q1.mpr c1))]
          have h' : Q (.int ((if sub l i (i + t.length) = t ∧ lName l i = i + t.length ∧ kwEnd l (i + t.length) = false then i + t.length else i : Nat) : Int)) H := h
          refine ⟨l, i, rfl, by omega, ?_⟩
          walk_at "kk"
          by_cases c2 : lName l i = i + t.length
          · rw [if_pos (by omega)]
            refine kwEnd_s (i := i + t.length) (by omega) ?_ (by omega)
            rw [et]
            walk_at "kk"
            by_cases c3 : kwEnd l (i + t.length) = false
            · rw [if_pos c3]
              rw [if_pos ⟨c1, c2, c3⟩] at h'; exact h'
            · rw [if_neg c3]
              rw [if_neg (fun z => c3 z.2.2)] at h'; exact h'
          · rw [if_neg (by omega)]
            rw [if_neg (fun z => c2 z.2.1)] at h'; exact h'
        · rw [if_pos (fun z => c1 (q1.mp z))]
          have : lTok l i .name (.txt t) = i := if_neg (fun z => c1 z.1)
          rw [this] at h; exact h
    | keyword =>
      cases v with
      | num n => exact hv.elim
      | txt t =>
        simp only [vt]
        have ht : t.length ≤ 4000 := by first | exact hv | exact hv.2
        walk_at "kk"
        simp only [ks_symbol, ks_number, ks_name, kk7, ks_sign, ks_mark, reduceCtorEq, if_true, if_false, not_true_eq_false, not_false_eq_true]
        walk_at "kk"
        have q1 : (cutS (S l) (some (i : Int)) (some ((i : Int) + (t.length : Nat))) = S t) ↔ sub l i (i + t.length) = t := by
          rw [cut_sub l (i := i) (j := i + t.length) rfl (by omega)]; exact S_inj
        have et : (i : Int) + (t.length : Nat) = ((i + t.length : Nat) : Int) := by omega
        by_cases c1 : sub l i (i + t.length) = t
        · rw [if_neg (fun z => z (q1.mpr c1))]
          have h' : Q (.int ((if sub l i (i + t.length) = t ∧ 1 < t.length ∧ lName l i + 1 = i + t.length ∧ kwEnd l (i + t.length - 1) = true then i + t.length else i : Nat) : Int)) H := h
          by_cases c4 : 1 < t.length
          · rw [if_pos (by omega)]
            refine ⟨l, i, rfl, by omega, ?_⟩
            walk_at "kk"
            by_cases c2 : lName l i + 1 = i + t.length
            · rw [if_pos (by omega)]
              refine kwEnd_s (i := i + t.length - 1) (by omega) ?_ (by omega)
              rw [et]
              walk_at "kk"
              by_cases c3 : kwEnd l (i + t.length - 1) = true
              · rw [if_pos c3]
                rw [if_pos ⟨c1, c4, c2, c3⟩] at h'; exact h'
              · rw [if_neg c3]
                rw [if_neg (fun z => c3 z.2.2.2)] at h'; exact h'
            · rw [if_neg (by omega)]
              rw [if_neg (fun z => c2 z.2.2.1)] at h'; exact h'
          · rw [if_neg (by omega)]
            rw [if_neg (fun z => c4 z.2.1)] at h'; exact h'
        · rw [if_pos (fun z => c1 (q1.mp z))]
          have : lTok l i .keyword (.txt t) = i := if_neg (fun z => c1 z.1)
          rw [this] at h; exact h
    | sign =>
      cases v with
      | num n => exact hv.elim
      | txt t =>
        simp only [vt]
        have ht : t.length ≤ 4000 := by first | exact hv | exact hv.2
        walk_at "kk"
        simp only [ks_symbol, ks_number, ks_name, kk7, ks_sign, ks_mark, reduceCtorEq, if_true, if_false, not_true_eq_false, not_false_eq_true]
        walk_at "kk"
        have q1 : (cutS (S l) (some (i : Int)) (some ((i : Int) + (t.length : Nat))) = S t) ↔ sub l i (i + t.length) = t := by
          rw [cut_sub l (i := i) (j := i + t.length) rfl (by omega)]; exact S_inj
        have et : (i : Int) + (t.length : Nat) = ((i + t.length : Nat) : Int) := by omega
        by_cases c1 : sub l i (i + t.length) = t
        · rw [if_neg (fun z => z (q1.mpr c1))]
          have h' : Q (.int ((if sub l i (i + t.length) = t ∧ min (i + 2) (endOf l i SGN) = i + t.length then i + t.length else i : Nat) : Int)) H := h
          refine ⟨l, SGN, i, rfl, by omega, ?_⟩
          walk_at "kk"
          by_cases c2 : min (i + 2) (endOf l i SGN) = i + t.length
          · rw [if_pos ⟨c1, c2⟩] at h'
            split
            · rw [if_pos (by omega), et]; exact h'
            · rw [if_pos (by omega), et]; exact h'
          · rw [if_neg (fun z => c2 z.2)] at h'
            split
            · rw [if_neg (by omega)]; exact h'
            · rw [if_neg (by omega)]; exact h'
        · rw [if_pos (fun z => c1 (q1.mp z))]
          have : lTok l i .sign (.txt t) = i := if_neg (fun z => c1 z.1)
          rw [this] at h; exact h
    | mark =>
      cases v with
      | num n => exact hv.elim
      | txt t =>
        simp only [vt]
        have ht : t.length ≤ 4000 := by first | exact hv | exact hv.2
        walk_at "kk"
        simp only [ks_symbol, ks_number, ks_name, kk7, ks_sign, ks_mark, reduceCtorEq, if_true, if_false, not_true_eq_false, not_false_eq_true]
        walk_at "kk"
        have q1 : (cutS (S l) (some (i : Int)) (some ((i : Int) + (t.length : Nat))) = S t) ↔ sub l i (i + t.length) = t := by
          rw [cut_sub l (i := i) (j := i + t.length) rfl (by omega)]; exact S_inj
        have et : (i : Int) + (t.length : Nat) = ((i + t.length : Nat) : Int) := by omega
        by_cases c1 : sub l i (i + t.length) = t
        · rw [if_neg (fun z => z (q1.mpr c1))]
          have h' : Q (.int ((if sub l i (i + t.length) = t ∧ t ∈ MRKS ∧ ¬ (t = [58] ∧ l[i + t.length]? = some 61) then i + t.length else i : Nat) : Int)) H := h
          refine ⟨by decide +kernel, fun p hp => ?_⟩
          have f1 : KW.Fr [] H _ := Fr.new (o := HO.lst (MRKS.map fun t => V.str (S t))) hp
          refine nin_s (xs := MRKS.map S) upd_same ?_
          have em : S t ∈ MRKS.map S ↔ t ∈ MRKS := by
            constructor
            · intro z
              obtain ⟨u, h1, h2⟩ := List.mem_map.mp z
              rw [← S_inj.mp h2]; exact h1
            · exact List.mem_map_of_mem
          walk_at "kk"
          replace h' : Q (.int ((if sub l i (i + t.length) = t ∧ t ∈ MRKS ∧ ¬ (t = [58] ∧ l[i + t.length]? = some 61) then i + t.length else i : Nat) : Int)) _ := h0 _ f1
          by_cases c2 : t ∈ MRKS
          · rw [if_neg (fun z => z (em.mpr c2))]
            rw [cut_sub l (i := i + t.length) (j := i + t.length + 1) et (by omega), sub_one, et]
            have q2 : S ((l.drop (i + t.length)).take 1) = S [61] ↔ l[i + t.length]? = some 61 := S_inj.trans (ch_eq l _ 61)
            by_cases c3 : t = [58]
            · rw [if_pos c3]
              refine ⟨le_line (by omega), ?_⟩
              by_cases c4 : l[i + t.length]? = some 61
              · rw [if_pos (q2.mpr c4)]
                rw [if_neg (fun z => z.2.2 ⟨c3, c4⟩)] at h'; exact h'
              · rw [if_neg (fun z => c4 (q2.mp z))]
                rw [if_pos ⟨c1, c2, fun z => c4 z.2⟩] at h'; exact h'
            · rw [if_neg c3]
              rw [if_pos ⟨c1, c2, fun z => c3 z.1⟩] at h'; exact h'
          · rw [if_pos (fun z => c2 (em.mp z))]
            rw [if_neg (fun z => c2 z.2.1)] at h'; exact h'
        · rw [if_pos (fun z => c1 (q1.mp z))]
          have : lTok l i .mark (.txt t) = i := if_neg (fun z => c1 z.1)
          rw [this] at h; exact h
end
end K11

set_option Elab.async false
set_option linter.all false
set_option maxRecDepth 100000
set_option maxHeartbeats 4000000
namespace LX
open PySem KW
/-! Lx6: plain: tokens of a text and of its beginning -/
theorem endOf_mem {l cs : List Nat} : ∀ (n : Nat) {i v : Nat}, endOf l i cs = i + n → i ≤ v → v < i + n → ∃ c, c ∈ cs ∧ l[v]? = some c
  | 0, i, v, _, h1, h2 => by omega
  | n + 1, i, v, h, h1, h2 => by
    have hin : isIn ((l.drop i).take 1) cs = true := by
      cases c : isIn ((l.drop i).take 1) cs with
      | true => rfl
      | false => rw [endOf_out c] at h; omega
    have ⟨h3, h4⟩ := endOf_in hin
    by_cases q : v = i
    · subst q
      rw [isIn_at] at hin
      cases e : l[v]? with
      | none => rw [e] at hin; cases hin
      | some c => rw [e] at hin; exact ⟨c, of_decide_eq_true hin, rfl⟩
    · exact endOf_mem n (i := i + 1) (by rw [← h4, h]; omega) (by omega) (by omega)
theorem endOf_at {l cs : List Nat} {i v : Nat} (h1 : i ≤ v) (h2 : v < endOf l i cs) : ∃ c, c ∈ cs ∧ l[v]? = some c :=
  endOf_mem (endOf l i cs - i) (by have := endOf_ge l cs i; omega) h1 (by omega)
theorem endOf_stop {l cs : List Nat} {i c : Nat} (h : l[endOf l i cs]? = some c) : c ∉ cs := by
  generalize hn : endOf l i cs - i = n
  induction n generalizing i with
  | zero =>
    have e : endOf l i cs = i := by have := endOf_ge l cs i; omega
    intro hc
    have hin : isIn ((l.drop i).take 1) cs = true := by
      rw [e] at h
      rw [isIn_at, h]; exact decide_eq_true hc
    have ⟨_, h4⟩ := endOf_in hin
    have := endOf_ge l cs (i + 1)
    omega
  | succ n ih =>
    have hin : isIn ((l.drop i).take 1) cs = true := by
      cases c : isIn ((l.drop i).take 1) cs with
      | true => rfl
      | false => have := endOf_out c; omega
    have ⟨_, h4⟩ := endOf_in hin
    rw [h4] at h hn
    exact ih h (by omega)
theorem endOf_uniq {l cs : List Nat} {i j : Nat} (h0 : i ≤ j) (h1 : ∀ v, i ≤ v → v < j → ∃ c, c ∈ cs ∧ l[v]? = some c) (h2 : ∀ c, l[j]? = some c → c ∉ cs) : endOf l i cs = j := by
  rcases Nat.lt_trichotomy (endOf l i cs) j with q | q | q
  · obtain ⟨c, hc, e⟩ := h1 _ (endOf_ge l cs i) q
    exact (endOf_stop e hc).elim
  · exact q
  · obtain ⟨c, hc, e⟩ := endOf_at h0 q
    exact (h2 c e hc).elim
theorem tk_lt {l : List Nat} {e i : Nat} (h : i < e) : (l.take e)[i]? = l[i]? := by rw [List.getElem?_take, if_pos h]
theorem tk_ge {l : List Nat} {e i : Nat} (h : e ≤ i) : (l.take e)[i]? = none := by rw [List.getElem?_take, if_neg (by omega)]
theorem tk_some {l : List Nat} {e i c : Nat} (h : (l.take e)[i]? = some c) : i < e ∧ l[i]? = some c := by
  rw [List.getElem?_take] at h
  split at h
  · exact ⟨‹_›, h⟩
  · cases h
theorem endOf_take {l cs : List Nat} {i e : Nat} (h : endOf l i cs ≤ e) : endOf (l.take e) i cs = endOf l i cs := by
  refine endOf_uniq (endOf_ge _ _ _) (fun v h1 h2 => ?_) (fun c hc => endOf_stop (tk_some hc).2)
  obtain ⟨c, hc, e1⟩ := endOf_at h1 h2
  exact ⟨c, hc, by rw [tk_lt (by omega)]; exact e1⟩
theorem sub_take {l : List Nat} {i j e : Nat} (h : j ≤ e) : sub (l.take e) i j = sub l i j := by
  unfold sub
  rw [List.drop_take, List.take_take]
  congr 1
  omega
structure Bnd (l : List Nat) (e : Nat) : Prop where
  le : e ≤ l.length
  sg : ∀ c, l[e]? = some c → c ∉ SGN ∧ c ≠ 58
  ld : ∀ c d, 0 < e → l[e]? = some c → c ∈ LD → l[e - 1]? = some d → d ∉ LD
theorem Bnd.word {l : List Nat} {i e : Nat} (b : Bnd l e) (h : i < e) : endOf l i LD ≤ e := by
  rcases Nat.lt_or_ge e (endOf l i LD) with q | q
  · obtain ⟨c, hc, e1⟩ := endOf_at (l := l) (cs := LD) (i := i) (v := e) (by omega) q
    obtain ⟨d, hd, e2⟩ := endOf_at (l := l) (cs := LD) (i := i) (v := e - 1) (by omega) (by omega)
    exact (b.ld c d (by omega) e1 hc e2 hd).elim
  · exact q
theorem Bnd.kw {l : List Nat} {s e : Nat} (b : Bnd l e) (h : s ≤ e) : kwEnd (l.take e) s = kwEnd l s := by
  unfold kwEnd
  by_cases c : s < e
  · rw [tk_lt c]
    by_cases d : s + 1 < e
    · rw [tk_lt d]
    · have : s + 1 = e := by omega
      rw [tk_ge (by omega)]
      have h2 : l[s + 1]? ≠ some 61 := fun z => by
        rw [this] at z
        exact (b.sg 61 z).1 (by decide)
      have h3 : (none : Option Nat) ≠ some 61 := by simp
      rw [decide_eq_false h3, decide_eq_false h2]
  · have : s = e := by omega
    rw [tk_ge (by omega)]
    have h2 : l[s]? ≠ some 58 := fun z => by
      rw [this] at z
      exact (b.sg 58 z).2 rfl
    have h3 : (none : Option Nat) ≠ some 58 := by simp
    rw [decide_eq_false h3, decide_eq_false h2]; rfl
theorem nameEnd_take {l : List Nat} {i e : Nat} (h : endOf l i LD ≤ e) : nameEnd (l.take e) i = nameEnd l i := by
  unfold nameEnd
  rw [endOf_take h, sub_take h]
theorem nameEnd_eq {l : List Nat} {i s : Nat} (h : nameEnd l i = some s) : s = endOf l i LD := by
  unfold nameEnd at h
  split at h
  · cases h; rfl
  · cases h
theorem rdName_take {l : List Nat} {i e : Nat} (b : Bnd l e) (h : i < e) : rdName (l.take e) i = rdName l i := by
  unfold rdName
  rw [nameEnd_take (b.word h)]
  cases hs : nameEnd l i with
  | none => rfl
  | some s =>
    have : s ≤ e := by rw [nameEnd_eq hs]; exact b.word h
    dsimp only
    rw [b.kw this]
    by_cases c : kwEnd l s = true
    · rw [if_pos c, if_pos c]
      have c2 := c
      rw [← b.kw this] at c2
      have := kwEnd_lt c2
      rw [List.length_take] at this
      rw [sub_take (by omega)]
    · rw [if_neg c, if_neg c, sub_take this]
theorem isIn_take {l cs : List Nat} {i e : Nat} : isIn (((l.take e).drop i).take 1) cs = true ↔ i < e ∧ isIn ((l.drop i).take 1) cs = true := by
  rw [isIn_at, isIn_at]
  by_cases c : i < e
  · rw [tk_lt c]; simp [c]
  · rw [tk_ge (by omega)]; simp [c]
theorem rdNum_take {l : List Nat} {i j e : Nat} {t : List Nat} (h : rdNum l i = some (t, j)) (hj : j ≤ e) : rdNum (l.take e) i = some (t, j) := by
  unfold rdNum at h
  split at h
  · cases h
  rename_i c
  cases h
  unfold rdNum
  rw [endOf_take hj, sub_take hj, if_neg]
  rintro (z | z)
  · exact c (.inl (isIn_take.mp z).2)
  · exact c (.inr z)
theorem hashGo_take {l : List Nat} {e : Nat} (b : Bnd l e) : ∀ (f f' : Nat) (t : List Nat) (s : Nat), l.length ≤ f + s → e ≤ f' + s → s ≤ e → (hashGo l f t s).2 ≤ e → hashGo (l.take e) f' t s = hashGo l f t s
  | 0, f', t, s, h1, h2, h3, h4 => by
    have bl := b.le
    cases f' with
    | zero => rfl
    | succ f' =>
      have e0 : hashGo l 0 t s = (t, s) := rfl
      rw [e0, hashGo, if_neg]
      · intro z
        have := (isIn_take.mp z).1
        omega
  | f + 1, f', t, s, h1, h2, h3, h4 => by
    rw [hashGo] at h4 ⊢
    by_cases c : isIn ((l.drop s).take 1) LET = true
    · rw [if_pos c] at h4 ⊢
      cases hs : nameEnd l s with
      | none =>
        dsimp only
        cases f' with
        | zero => rfl
        | succ f' =>
          rw [hashGo]
          by_cases d : s < e
          · rw [if_pos (isIn_take.mpr ⟨d, c⟩), nameEnd_take (b.word d), hs]
          · rw [if_neg (fun z => d (isIn_take.mp z).1)]
      | some x =>
        rw [hs] at h4
        dsimp only at h4 ⊢
        have gx := nameEnd_gt hs
        by_cases k : kwEnd l x = true
        · rw [if_pos k] at h4 ⊢
          have h5 := hashGo_le (l := l) f (t ++ sub l s (x + 1)) (x + 1)
          obtain ⟨f', rfl⟩ : ∃ g, f' = g + 1 := ⟨f' - 1, by omega⟩
          rw [hashGo, if_pos (isIn_take.mpr ⟨by omega, c⟩), nameEnd_take (b.word (by omega)), hs]
          dsimp only
          rw [b.kw (by omega), if_pos k, sub_take (by omega)]
          exact hashGo_take b f f' _ _ (by omega) (by omega) (by omega) h4
        · rw [if_neg k] at h4 ⊢
          cases f' with
          | zero => rfl
          | succ f' =>
            rw [hashGo]
            by_cases d : s < e
            · have := b.word d
              rw [if_pos (isIn_take.mpr ⟨d, c⟩), nameEnd_take this, hs]
              dsimp only
              rw [b.kw (by rw [nameEnd_eq hs]; exact this), if_neg k]
            · rw [if_neg (fun z => d (isIn_take.mp z).1)]
    · rw [if_neg c] at h4 ⊢
      cases f' with
      | zero => rfl
      | succ f' => rw [hashGo, if_neg (fun z => c (isIn_take.mp z).2)]
theorem rdName_gt {l : List Nat} {i j : Nat} {k : TK} {t : List Nat} (h : rdName l i = some (k, t, j)) : i < j := by
  unfold rdName at h
  split at h
  · cases h
  · rename_i s hs
    have := nameEnd_gt hs
    split at h
    · cases h; omega
    · cases h; exact this
theorem rdHash_take {l : List Nat} {i j e : Nat} {t : List Nat} (b : Bnd l e) (h : rdHash l i = some (t, j)) (hj : j ≤ e) : rdHash (l.take e) i = some (t, j) := by
  unfold rdHash at h
  split at h
  case isFalse => cases h
  rename_i c
  split at h
  · cases h
  rename_i k u s hs
  have g1 := rdName_gt hs
  have g2 : s ≤ j := by
    split at h
    · have := hashGo_le (l := l) l.length u s
      rw [Option.some.inj h] at this; exact this
    · cases h; exact Nat.le_refl _
  unfold rdHash
  rw [if_pos (isIn_take.mpr ⟨by omega, c⟩), rdName_take b (by omega), hs]
  dsimp only
  by_cases d : k = .keyword
  · rw [if_pos d] at h ⊢
    have h4 := Option.some.inj h
    rw [hashGo_take b l.length (l.take e).length u s (by omega) (by rw [List.length_take]; have := b.le; omega) (by omega) (by rw [h4]; exact hj), h4]
  · rw [if_neg d] at h ⊢; exact h
theorem findFrom_take {l : List Nat} {c i x e : Nat} (h : findFrom l c i = some x) (hx : x < e) : findFrom (l.take e) c i = some x := by
  rw [findFrom_some] at h ⊢
  obtain ⟨h1, h2, h3⟩ := h
  exact ⟨h1, by rw [tk_lt hx]; exact h2, fun v h4 h5 => by rw [tk_lt (by omega)]; exact h3 v h4 h5⟩
theorem quoGo_take {l : List Nat} {e : Nat} : ∀ (f f' : Nat) (t : List Nat) (s : Nat) (u : List Nat) (j : Nat), quoGo l f t s = some (u, j) → j ≤ e → e + 1 ≤ f' + s → quoGo (l.take e) f' t s = some (u, j)
  | 0, f', t, s, u, j, h, _, _ => by cases h
  | f + 1, f', t, s, u, j, h, hj, hf => by
    have g := quoGo_lt _ _ _ _ _ h
    obtain ⟨f', rfl⟩ : ∃ g, f' = g + 1 := ⟨f' - 1, by omega⟩
    rw [quoGo] at h ⊢
    cases hx : findFrom l 39 s with
    | none => rw [hx] at h; cases h
    | some x =>
      rw [hx] at h
      dsimp only at h
      have h1 := (findFrom_some.mp hx).1
      by_cases c : l[x + 1]? = some 39
      · rw [if_pos c] at h
        have g2 := quoGo_lt _ _ _ _ _ h
        rw [findFrom_take hx (by omega)]
        dsimp only
        rw [if_pos (by rw [tk_lt (by omega)]; exact c), sub_take (by omega)]
        exact quoGo_take f f' _ _ _ _ h hj (by omega)
      · rw [if_neg c] at h
        cases h
        rw [findFrom_take hx (by omega)]
        dsimp only
        rw [if_neg (fun z => c (tk_some z).2), sub_take (by omega)]
theorem rdSign_take {l : List Nat} {i e : Nat} (h : (rdSign l i).2 ≤ e) : rdSign (l.take e) i = rdSign l i := by
  unfold rdSign at h ⊢
  by_cases c : isIn ((l.drop (i + 1)).take 1) SGN = true
  · rw [if_pos c] at h ⊢
    rw [if_pos (isIn_take.mpr ⟨h, c⟩), sub_take h]
  · rw [if_neg c] at h ⊢
    rw [if_neg (fun z => c (isIn_take.mp z).2), sub_take h]
theorem rdTok_take {l : List Nat} {i j e : Nat} {k : TK} {v : TV} (b : Bnd l e) (h : rdTok l i = some (k, v, j)) (hj : j ≤ e) : rdTok (l.take e) i = some (k, v, j) := by
  have g := rdTok_gt h
  unfold rdTok at h ⊢
  have e0 : (l.take e)[i]? = l[i]? := tk_lt (by omega)
  rw [e0]
  split at h
  · cases h
  rename_i c hc
  by_cases c1 : c ∈ LET
  · rw [if_pos c1] at h ⊢
    rw [rdName_take b (by omega)]; exact h
  rw [if_neg c1] at h ⊢
  by_cases c2 : c ∈ DIG
  · rw [if_pos c2] at h ⊢
    obtain ⟨⟨a, b⟩, h1, h2⟩ := Option.map_eq_some_iff.mp h
    cases h2
    rw [rdNum_take h1 hj]; rfl
  rw [if_neg c2] at h ⊢
  by_cases c3 : c = 35
  · rw [if_pos c3] at h ⊢
    obtain ⟨⟨a, d⟩, h1, h2⟩ := Option.map_eq_some_iff.mp h
    cases h2
    rw [rdHash_take b h1 hj]; rfl
  rw [if_neg c3] at h ⊢
  by_cases c4 : c = 39
  · rw [if_pos c4] at h ⊢
    obtain ⟨⟨a, d⟩, h1, h2⟩ := Option.map_eq_some_iff.mp h
    cases h2
    have : rdQuo (l.take e) i = some (a, d) := quoGo_take _ _ _ _ _ _ h1 hj (by rw [List.length_take]; have := b.le; omega)
    rw [this]; rfl
  rw [if_neg c4] at h ⊢
  by_cases c5 : c ∈ SGN
  · rw [if_pos c5] at h ⊢
    cases h
    rw [rdSign_take hj]
  rw [if_neg c5] at h ⊢
  by_cases c6 : c = 58 ∧ l[i + 1]? = some 61
  · rw [if_pos c6] at h
    cases h
    rw [if_pos ⟨c6.1, by rw [tk_lt (by omega)]; exact c6.2⟩]
  · rw [if_neg c6] at h
    rw [if_neg (fun z => c6 ⟨z.1, (tk_some z.2).2⟩)]; exact h
theorem skp_take {l : List Nat} {e : Nat} (he : e ≤ l.length) : ∀ (f f' i j : Nat), skp l f i = .inr j → l.length + 1 ≤ f + i → j ≤ e → e + 1 ≤ f' + i → skp (l.take e) f' i = .inr j
  | 0, f', i, j, h, h1, h2, h3 => by cases h; omega
  | f + 1, f', i, j, h, h1, h2, h3 => by
    have ge := skp_ge _ _ _ h
    obtain ⟨f', rfl⟩ : ∃ g, f' = g + 1 := ⟨f' - 1, by omega⟩
    rw [skp] at h ⊢
    cases hc : l[i]? with
    | none =>
      rw [hc] at h
      have : (l.take e)[i]? = none := by
        rw [List.getElem?_take]
        split
        · exact hc
        · rfl
      rw [this]; exact h
    | some c =>
      rw [hc] at h
      dsimp only at h
      by_cases c1 : c = 34
      · rw [if_pos c1] at h
        cases hx : findFrom l 34 (i + 1) with
        | none => rw [hx] at h; cases h
        | some x =>
          rw [hx] at h
          dsimp only at h
          have h4 := (findFrom_some.mp hx).1
          have h5 := skp_ge _ _ _ h
          rw [tk_lt (by omega), hc]
          dsimp only
          rw [if_pos c1, findFrom_take hx (by omega)]
          exact skp_take he f f' _ _ h (by omega) h2 (by omega)
      · rw [if_neg c1] at h
        by_cases c2 : c = 32 ∨ c = 10
        · rw [if_pos c2] at h
          have h5 := skp_ge _ _ _ h
          rw [tk_lt (by omega), hc]
          dsimp only
          rw [if_neg c1, if_pos c2]
          exact skp_take he f f' _ _ h (by omega) h2 (by omega)
        · rw [if_neg c2] at h
          cases h
          by_cases d : i < e
          · rw [tk_lt d, hc]
            dsimp only
            rw [if_neg c1, if_neg c2]
          · rw [tk_ge (by omega)]
theorem skp_bad {l : List Nat} {e : Nat} : ∀ (f f' i : Nat), skp l f i = .inl e → e + 1 ≤ f' + i → i ≤ e ∧ l[e]? = some 34 ∧ findFrom l 34 (e + 1) = none ∧ skp (l.take e) f' i = .inr e
  | 0, f', i, h, h3 => by cases h
  | f + 1, f', i, h, h3 => by
    rw [skp] at h
    cases hc : l[i]? with
    | none => rw [hc] at h; cases h
    | some c =>
      rw [hc] at h
      dsimp only at h
      by_cases c1 : c = 34
      · rw [if_pos c1] at h
        cases hx : findFrom l 34 (i + 1) with
        | none =>
          rw [hx] at h
          cases h
          refine ⟨Nat.le_refl _, by rw [hc, c1], hx, ?_⟩
          obtain ⟨f', rfl⟩ : ∃ g, f' = g + 1 := ⟨f' - 1, by omega⟩
          rw [skp, tk_ge (Nat.le_refl _)]
        | some x =>
          rw [hx] at h
          dsimp only at h
          have h4 := (findFrom_some.mp hx).1
          have ⟨h5, h6, h7, h8⟩ := skp_bad f (f' - 1) (x + 1) h (by omega)
          obtain ⟨f', rfl⟩ : ∃ g, f' = g + 1 := ⟨f' - 1, by omega⟩
          refine ⟨by omega, h6, h7, ?_⟩
          rw [skp, tk_lt (by omega), hc]
          dsimp only
          rw [if_pos c1, findFrom_take hx (by omega)]
          exact h8
      · rw [if_neg c1] at h
        by_cases c2 : c = 32 ∨ c = 10
        · rw [if_pos c2] at h
          have ⟨h5, h6, h7, h8⟩ := skp_bad f (f' - 1) (i + 1) h (by omega)
          obtain ⟨f', rfl⟩ : ∃ g, f' = g + 1 := ⟨f' - 1, by omega⟩
          refine ⟨by omega, h6, h7, ?_⟩
          rw [skp, tk_lt (by omega), hc]
          dsimp only
          rw [if_neg c1, if_pos c2]
          exact h8
        · rw [if_neg c2] at h; cases h
/-! where a token may end -/
def Sep (l : List Nat) (j : Nat) : Prop := ∀ c d, 0 < j → l[j]? = some c → c ∈ LD → l[j - 1]? = some d → d ∉ LD
theorem Sep.of {l : List Nat} {j d : Nat} (h : l[j - 1]? = some d) (hd : d ∉ LD) : Sep l j := fun c d' _ _ _ h' => by
  rw [h] at h'; cases h'; exact hd
theorem Sep.end {l : List Nat} {i : Nat} : Sep l (endOf l i LD) := fun c d _ hc hl _ => (endOf_stop hc hl).elim
theorem rdName_sep {l : List Nat} {i j : Nat} {k : TK} {t : List Nat} (h : rdName l i = some (k, t, j)) : Sep l j ∧ (k = .keyword → l[j - 1]? = some 58) := by
  unfold rdName at h
  split at h
  · cases h
  · rename_i s hs
    split at h
    · rename_i c
      cases h
      have : l[s + 1 - 1]? = some 58 := by
        unfold kwEnd at c
        rw [Bool.and_eq_true] at c
        exact of_decide_eq_true c.1
      exact ⟨Sep.of this (by decide), fun _ => this⟩
    · cases h
      refine ⟨?_, fun z => by cases z⟩
      rw [nameEnd_eq hs]; exact Sep.end
theorem hashGo_sep {l : List Nat} : ∀ (f : Nat) (t : List Nat) (s : Nat), l[s - 1]? = some 58 → Sep l (hashGo l f t s).2
  | 0, t, s, h => Sep.of h (by decide)
  | f + 1, t, s, h => by
    rw [hashGo]
    split
    · split
      · exact Sep.of h (by decide)
      · rename_i e he
        split
        · rename_i c
          refine hashGo_sep f _ _ ?_
          unfold kwEnd at c
          rw [Bool.and_eq_true] at c
          exact of_decide_eq_true c.1
        · exact Sep.of h (by decide)
    · exact Sep.of h (by decide)
theorem quoGo_sep {l : List Nat} : ∀ (f : Nat) (t : List Nat) (s : Nat) (u : List Nat) (j : Nat), quoGo l f t s = some (u, j) → l[j - 1]? = some 39
  | 0, t, s, u, j, h => by cases h
  | f + 1, t, s, u, j, h => by
    rw [quoGo] at h
    split at h
    · cases h
    · rename_i x hx
      split at h
      · exact quoGo_sep f _ _ _ _ h
      · cases h
        exact (findFrom_some.mp hx).2.1
theorem isIn_get {l cs : List Nat} {i : Nat} (h : isIn ((l.drop i).take 1) cs = true) : ∃ c, l[i]? = some c ∧ c ∈ cs := by
  rw [isIn_at] at h
  cases e : l[i]? with
  | none => rw [e] at h; cases h
  | some c => rw [e] at h; exact ⟨c, rfl, of_decide_eq_true h⟩
theorem isIn_not {l cs : List Nat} {i c : Nat} (h : ¬ isIn ((l.drop i).take 1) cs = true) (e : l[i]? = some c) : c ∉ cs := by
  intro z
  rw [isIn_at, e] at h
  exact h (decide_eq_true z)
theorem sgn_ld : ∀ c ∈ SGN, c ∉ LD := by decide
theorem mrk_ld : ∀ c ∈ MRK, c ∉ LD := by decide
theorem rdTok_sep {l : List Nat} {i j : Nat} {k : TK} {v : TV} (h : rdTok l i = some (k, v, j)) : Sep l j := by
  unfold rdTok at h
  split at h
  · cases h
  rename_i c hc
  split at h
  · obtain ⟨⟨a, b, d⟩, h1, h2⟩ := Option.map_eq_some_iff.mp h
    cases h2
    exact (rdName_sep h1).1
  split at h
  · obtain ⟨⟨a, b⟩, h1, h2⟩ := Option.map_eq_some_iff.mp h
    cases h2
    unfold rdNum at h1
    split at h1
    · cases h1
    rename_i q
    cases h1
    intro x y _ hx hl _
    dsimp only at hx
    rcases List.mem_append.mp hl with z | z
    · exact (isIn_not (fun y => q (.inl y)) hx z).elim
    · exact (endOf_stop hx z).elim
  split at h
  · obtain ⟨⟨a, b⟩, h1, h2⟩ := Option.map_eq_some_iff.mp h
    cases h2
    unfold rdHash at h1
    split at h1
    case isFalse => cases h1
    split at h1
    · cases h1
    rename_i k u s hs
    have ⟨s1, s2⟩ := rdName_sep hs
    split at h1
    · rename_i q
      have := hashGo_sep (l := l) l.length u s (s2 q)
      rw [Option.some.inj h1] at this; exact this
    · cases h1; exact s1
  split at h
  · obtain ⟨⟨a, b⟩, h1, h2⟩ := Option.map_eq_some_iff.mp h
    cases h2
    exact Sep.of (quoGo_sep _ _ _ _ _ h1) (by decide)
  split at h
  · rename_i q
    cases h
    unfold rdSign
    split
    · rename_i z
      obtain ⟨x, hx, hs⟩ := isIn_get z
      exact Sep.of (d := x) hx (sgn_ld x hs)
    · exact Sep.of (d := c) hc (sgn_ld c q)
  split at h
  · rename_i q
    cases h
    exact Sep.of (d := 61) q.2 (by decide)
  split at h
  · rename_i q
    cases h
    exact Sep.of (d := c) hc (mrk_ld c q)
  · cases h
theorem skp_sep {l : List Nat} : ∀ (f i : Nat), Sep l i → (∀ j, skp l f i = .inr j → Sep l j) ∧ (∀ j, skp l f i = .inl j → Sep l j)
  | 0, i, h => ⟨fun j e => by cases e; exact h, fun j e => by cases e⟩
  | f + 1, i, h => by
    rw [skp]
    split
    · exact ⟨fun j e => by cases e; exact h, fun j e => by cases e⟩
    · rename_i c hc
      split
      · split
        · exact ⟨fun j e => (by cases e), fun j e => by cases e; exact h⟩
        · rename_i x hx
          exact skp_sep f _ (Sep.of (d := 34) (findFrom_some.mp hx).2.1 (by decide))
      · split
        · rename_i q
          refine skp_sep f _ (Sep.of (d := c) hc ?_)
          rcases q with q | q <;> (subst q; decide)
        · exact ⟨fun j e => by cases e; exact h, fun j e => by cases e⟩
/-! chains of tokens -/
inductive Ch (l : List Nat) (e : Nat) : Nat → List Tr → Prop
  | nil {i : Nat} : (skp l (l.length + 1) i = .inr e ∨ skp l (l.length + 1) i = .inl e) → Ch l e i []
  | cons {i i' j : Nat} {k : TK} {v : TV} {ts : List Tr} : skp l (l.length + 1) i = .inr i' → i' < e → rdTok l i' = some (k, v, j) → j ≤ e → Ch l e j ts → Ch l e i (⟨i', k, v⟩ :: ts)
theorem Ch.start_le {l : List Nat} {e i : Nat} {ts : List Tr} (h : Ch l e i ts) : i ≤ e := by
  cases h with
  | nil h => rcases h with h | h
             · exact skp_ge _ _ _ h
             · exact (skp_bad _ (e + 1) _ h (by omega)).1
  | cons h1 h2 h3 h4 h5 => have := skp_ge _ _ _ h1; omega
theorem skp_le {l : List Nat} : ∀ (f i j : Nat), skp l f i = .inr j → i ≤ l.length → j ≤ l.length
  | 0, i, j, h, hi => by cases h; exact hi
  | f + 1, i, j, h, hi => by
    rw [skp] at h
    split at h
    · cases h; exact hi
    · rename_i c hc
      have := (List.getElem?_eq_some_iff.mp hc).1
      split at h
      · split at h
        · cases h
        · rename_i x hx
          have := (List.getElem?_eq_some_iff.mp (findFrom_some.mp hx).2.1).1
          exact skp_le f _ _ h (by omega)
      · split at h
        · exact skp_le f _ _ h (by omega)
        · cases h; exact hi
theorem rdTok_le {l : List Nat} {i j : Nat} {k : TK} {v : TV} (h : rdTok l i = some (k, v, j)) : j ≤ l.length := by
  have take_id : l.take l.length = l := List.take_length
  unfold rdTok at h
  split at h
  · cases h
  rename_i c hc
  have li := (List.getElem?_eq_some_iff.mp hc).1
  split at h
  · obtain ⟨⟨a, b, d⟩, h1, h2⟩ := Option.map_eq_some_iff.mp h
    cases h2
    exact (rdName_le h1).1
  split at h
  · obtain ⟨⟨a, b⟩, h1, h2⟩ := Option.map_eq_some_iff.mp h
    cases h2
    unfold rdNum at h1
    split at h1
    · cases h1
    cases h1
    exact endOf_le (by omega)
  split at h
  · obtain ⟨⟨a, b⟩, h1, h2⟩ := Option.map_eq_some_iff.mp h
    cases h2
    unfold rdHash at h1
    split at h1
    case isFalse => cases h1
    split at h1
    · cases h1
    rename_i k u s hs
    have h0 := (rdName_le hs).1
    split at h1
    · have go : ∀ (f : Nat) (t : List Nat) (s : Nat), s ≤ l.length → (hashGo l f t s).2 ≤ l.length := by
        intro f
        induction f with
        | zero => intro t s h; exact h
        | succ f ih =>
          intro t s h
          rw [hashGo]
          split
          · split
            · exact h
            · split
              · rename_i c
                exact ih _ _ (kwEnd_lt c)
              · exact h
          · exact h
      have := go l.length u s h0
      rw [Option.some.inj h1] at this; exact this
    · cases h1; exact h0
  split at h
  · obtain ⟨⟨a, b⟩, h1, h2⟩ := Option.map_eq_some_iff.mp h
    cases h2
    have g := quoGo_lt _ _ _ _ _ h1
    have := (List.getElem?_eq_some_iff.mp (quoGo_sep _ _ _ _ _ h1)).1
    dsimp only; omega
  split at h
  · cases h
    unfold rdSign
    split
    · rename_i z
      obtain ⟨x, hx, _⟩ := isIn_get z
      have := (List.getElem?_eq_some_iff.mp hx).1
      exact this
    · exact li
  split at h
  · rename_i q
    cases h
    exact (List.getElem?_eq_some_iff.mp q.2).1
  split at h
  · cases h; exact li
  · cases h
/-- a place at which nothing begins -/
def Mis (l : List Nat) (e : Nat) : Prop := ((∃ c, l[e]? = some c ∧ c ≠ 34 ∧ c ≠ 32 ∧ c ≠ 10) ∧ rdTok l e = none) ∨ (l[e]? = some 34 ∧ findFrom l 34 (e + 1) = none)
theorem skp_end {l : List Nat} : ∀ (f i j : Nat), skp l f i = .inr j → l.length + 1 ≤ f + i → j < l.length → ∃ c, l[j]? = some c ∧ c ≠ 34 ∧ c ≠ 32 ∧ c ≠ 10
  | 0, i, j, h, h1, h2 => by cases h; omega
  | f + 1, i, j, h, h1, h2 => by
    rw [skp] at h
    split at h
    · rename_i e
      cases h
      have := List.getElem?_eq_none_iff.mp e
      omega
    · rename_i c hc
      split at h
      · split at h
        · cases h
        · rename_i x hx
          have := (findFrom_some.mp hx).1
          exact skp_end f _ _ h (by omega) h2
      · split at h
        · exact skp_end f _ _ h (by omega) h2
        · rename_i c1 c2
          cases h
          exact ⟨c, hc, c1, fun z => c2 (.inl z), fun z => c2 (.inr z)⟩
/-- what lexGo does, told by chains -/
theorem lexGo_in {l : List Nat} : ∀ (f i at_ : Nat) (acc : List Tr), skp l (l.length + 1) at_ = .inr i → at_ ≤ l.length → l.length + 1 ≤ f + i → Sep l at_ →
    (∀ ts, lexGo l f i acc = .inr ts → ∃ r, ts = acc ++ r ∧ Ch l l.length at_ r) ∧
    (∀ e, lexGo l f i acc = .inl e → ∃ r, Ch l e at_ r ∧ Sep l e ∧ e ≤ l.length ∧ Mis l e)
  | 0, i, at_, acc, h, ha, hf, hs => by have := skp_le _ _ _ h ha; omega
  | f + 1, i, at_, acc, h, ha, hf, hs => by
    have il := skp_le _ _ _ h ha
    have is := (skp_sep _ _ hs).1 _ h
    rw [lexGo]
    by_cases c : i < l.length
    · rw [if_pos c]
      cases ht : rdTok l i with
      | none =>
        refine ⟨fun ts e => (by cases e), fun e he => ?_⟩
        cases he
        exact ⟨[], .nil (.inl h), is, by omega, .inl ⟨skp_end _ _ _ h (by omega) c, ht⟩⟩
      | some x =>
        obtain ⟨k, v, j⟩ := x
        dsimp only
        have jl := rdTok_le ht
        have js := rdTok_sep ht
        have gt := rdTok_gt ht
        cases hk : skp l (l.length + 1) j with
        | inl e =>
          refine ⟨fun ts e => (by cases e), fun e he => ?_⟩
          cases he
          have ⟨h1, h2, h3, _⟩ := skp_bad _ (e + 1) _ hk (by omega)
          exact ⟨[⟨i, k, v⟩], .cons h (by omega) ht h1 (.nil (.inr hk)), (skp_sep _ _ js).2 _ hk, by have := (List.getElem?_eq_some_iff.mp h2).1; omega, .inr ⟨h2, h3⟩⟩
        | inr j' =>
          dsimp only
          have gj := skp_ge _ _ _ hk
          have ⟨h1, h2⟩ := lexGo_in f j' j (acc ++ [⟨i, k, v⟩]) hk jl (by omega) js
          refine ⟨fun ts e => ?_, fun e he => ?_⟩
          · obtain ⟨r, h3, h4⟩ := h1 ts e
            exact ⟨⟨i, k, v⟩ :: r, by rw [h3, List.append_assoc]; rfl, .cons h c ht jl h4⟩
          · obtain ⟨r, h3, h4⟩ := h2 e he
            have := h3.start_le
            exact ⟨⟨i, k, v⟩ :: r, .cons h (by omega) ht this h3, h4⟩
    · rw [if_neg c]
      have e : i = l.length := by omega
      refine ⟨fun ts q => ?_, fun e q => by cases q⟩
      cases q
      exact ⟨[], (List.append_nil _).symm, .nil (.inl (by rw [h, e]))⟩
/-- a chain tells what lexGo does, if the end is the text's -/
theorem lexGo_of {l : List Nat} {at_ : Nat} {r : List Tr} (h : Ch l l.length at_ r) : ∀ (f i : Nat) (acc : List Tr), skp l (l.length + 1) at_ = .inr i → l.length + 1 ≤ f + i → lexGo l f i acc = .inr (acc ++ r) := by
  generalize hL : l.length = L at h
  induction h with
  | nil h =>
    intro f i acc hi hf
    subst hL
    have : i = l.length := by
      rcases h with h | h
      · rw [h] at hi; cases hi; rfl
      · rw [h] at hi; cases hi
    rw [List.append_nil]
    cases f with
    | zero => rfl
    | succ f => rw [lexGo, if_neg (by omega)]
  | cons h1 h2 h3 h4 h5 ih =>
    intro f i acc hi hf
    subst hL
    rw [h1] at hi
    cases hi
    obtain ⟨f, rfl⟩ : ∃ g, f = g + 1 := ⟨f - 1, by omega⟩
    rw [lexGo, if_pos (by omega), h3]
    dsimp only
    have gt := rdTok_gt h3
    cases hk : skp l (l.length + 1) _ with
    | inl e =>
      exfalso
      have hb := (skp_bad _ (e + 1) _ hk (by omega))
      have hlt := (List.getElem?_eq_some_iff.mp hb.2.1).1
      cases h5 with
      | nil q =>
        rcases q with q | q
        · rw [q] at hk; cases hk
        · rw [q] at hk; cases hk; omega
      | cons q _ _ _ _ => rw [q] at hk; cases hk
    | inr j' =>
      dsimp only
      have := skp_ge _ _ _ hk
      rw [ih _ _ _ hk (by omega), List.append_assoc]; rfl
theorem Ch.take {l : List Nat} {e i : Nat} {r : List Tr} (b : Bnd l e) (h : Ch l e i r) : Ch (l.take e) e i r := by
  have hL : (l.take e).length = e := by rw [List.length_take]; have := b.le; omega
  induction h with
  | nil h =>
    refine .nil (.inl ?_)
    rcases h with h | h
    · exact skp_take b.le _ _ _ _ h (by omega) (Nat.le_refl _) (by omega)
    · exact (skp_bad _ _ _ h (by omega)).2.2.2
  | cons h1 h2 h3 h4 h5 ih => exact .cons (skp_take b.le _ _ _ _ h1 (by omega) (by omega) (by omega)) h2 (rdTok_take b h3 h4) h4 ih
theorem Mis.sg {l : List Nat} {e : Nat} (h : Mis l e) : ∀ c, l[e]? = some c → c ∉ SGN ∧ c ≠ 58 := by
  intro c hc
  rcases h with ⟨_, h⟩ | ⟨h, _⟩
  · unfold rdTok at h
    rw [hc] at h
    dsimp only at h
    refine ⟨fun z => ?_, fun z => ?_⟩
    · have h1 : c ∉ LET := fun y => sgn_ld c z (List.mem_append.mpr (.inl y))
      have h2 : c ∉ DIG := fun y => sgn_ld c z (List.mem_append.mpr (.inr y))
      have h3 : c ≠ 35 := by intro q; subst q; revert z; decide
      have h4 : c ≠ 39 := by intro q; subst q; revert z; decide
      rw [if_neg h1, if_neg h2, if_neg h3, if_neg h4, if_pos z] at h
      cases h
    · subst z
      rw [if_neg (by decide), if_neg (by decide), if_neg (by decide), if_neg (by decide), if_neg (by decide)] at h
      split at h
      · cases h
      · rw [if_pos (by decide)] at h; cases h
  · rw [h] at hc; cases hc; exact ⟨by decide, by decide⟩
theorem lex_told (l : List Nat) : (∀ ts, lex l = .inr ts → Ch l l.length 0 ts) ∧ (∀ e, lex l = .inl e → ∃ ts, Ch l e 0 ts ∧ Mis l e ∧ e < l.length ∧ lex (l.take e) = .inr ts) := by
  have s0 : Sep l 0 := fun c d h => by omega
  have key : ∀ e ts, Ch l e 0 ts → Sep l e → e ≤ l.length → Mis l e → lex (l.take e) = .inr ts := by
    intro e ts h hs hl hm
    have b : Bnd l e := ⟨hl, hm.sg, hs⟩
    have hL : (l.take e).length = e := by rw [List.length_take]; omega
    have h' : Ch (l.take e) (l.take e).length 0 ts := by rw [hL]; exact h.take b
    unfold lex
    cases hk : skp (l.take e) ((l.take e).length + 1) 0 with
    | inl x =>
      exfalso
      have hb := (skp_bad _ (x + 1) _ hk (by omega))
      have hlt := (List.getElem?_eq_some_iff.mp hb.2.1).1
      cases h' with
      | nil q =>
        rcases q with q | q
        · rw [q] at hk; cases hk
        · rw [q] at hk; cases hk; omega
      | cons q _ _ _ _ => rw [q] at hk; cases hk
    | inr i =>
      dsimp only
      rw [lexGo_of h' _ _ _ hk (by omega)]; rfl
  unfold lex
  cases hk : skp l (l.length + 1) 0 with
  | inl e =>
    refine ⟨fun ts q => (by cases q), fun e' q => ?_⟩
    cases q
    have ⟨_, h2, h3, _⟩ := skp_bad _ (e + 1) _ hk (by omega)
    have hc : Ch l e 0 [] := .nil (.inr hk)
    have hl := (List.getElem?_eq_some_iff.mp h2).1
    refine ⟨[], hc, .inr ⟨h2, h3⟩, hl, ?_⟩
    exact key e [] hc ((skp_sep _ _ s0).2 _ hk) (by omega) (.inr ⟨h2, h3⟩)
  | inr i =>
    dsimp only
    have ⟨h1, h2⟩ := lexGo_in (l.length + 1) i 0 [] hk (by omega) (by omega) s0
    refine ⟨fun ts q => ?_, fun e q => ?_⟩
    · obtain ⟨r, h3, h4⟩ := h1 ts q
      rw [h3]; exact h4
    · obtain ⟨r, h3, h4, h5, h6⟩ := h2 e q
      have hl : e < l.length := by
        rcases h6 with h6 | h6
        · obtain ⟨⟨c, hc, _⟩, _⟩ := h6
          exact (List.getElem?_eq_some_iff.mp hc).1
        · exact (List.getElem?_eq_some_iff.mp h6.1).1
      exact ⟨r, h3, h6, hl, key e r h3 h4 h5 h6⟩

/-! the ends of tokens as the law tells them -/
theorem lName_some {l : List Nat} {i s : Nat} (h : nameEnd l i = some s) : lName l i = s := by unfold lName; rw [h]
theorem lName_none {l : List Nat} {i : Nat} (h : nameEnd l i = none) : lName l i = i := by unfold lName; rw [h]
theorem sub_len' {l : List Nat} {i j : Nat} (h1 : i ≤ j) (h2 : j ≤ l.length) : i + (sub l i j).length = j := by rw [sub_len]; omega
theorem sub_app {l : List Nat} {i j k : Nat} (h1 : i ≤ j) (h2 : j ≤ k) : sub l i j ++ sub l j k = sub l i k := by
  unfold sub
  rw [show k - i = (j - i) + (k - j) by omega, List.take_add, List.drop_drop, show i + (j - i) = j by omega]
theorem hashGo_sub {l : List Nat} {a : Nat} : ∀ (f : Nat) (s : Nat), a ≤ s → (hashGo l f (sub l a s) s).1 = sub l a (hashGo l f (sub l a s) s).2
  | 0, s, h => rfl
  | f + 1, s, h => by
    rw [hashGo]
    split
    · split
      · rfl
      · rename_i e he
        have := nameEnd_gt he
        split
        · rw [sub_app h (by omega)]
          exact hashGo_sub f _ (by omega)
        · rfl
    · rfl
theorem nameEnd_let {l : List Nat} {i s : Nat} (h : nameEnd l i = some s) : isIn ((l.drop i).take 1) LET = true := by
  have h1 := lName_some h
  have h2 := nameEnd_gt h
  rw [lName_eq] at h1
  cases c : isIn ((l.drop i).take 1) LET with
  | true => rfl
  | false =>
    rw [if_pos (Or.inl (show isLet l i = false from c))] at h1
    omega
theorem symGo_of {l : List Nat} {i j : Nat} : ∀ (f f2 : Nat) (t u : List Nat) (p : Nat), hashGo l f t (p + 1) = (u, j) → kwEnd l p = true → l.length ≤ f + (p + 1) → l.length + 1 ≤ f2 + p → symGo l i j f2 p = j
  | 0, f2, t, u, p, h, hk, h1, h2 => by
    have pl := kwEnd_lt hk
    obtain ⟨f2, rfl⟩ : ∃ g, f2 = g + 1 := ⟨f2 - 1, by omega⟩
    cases h
    rw [symGo, if_pos ⟨pl, hk⟩]
    have : nameEnd l (p + 1) = none := by
      cases e : nameEnd l (p + 1) with
      | none => rfl
      | some x =>
        obtain ⟨c, hc, _⟩ := isIn_get (nameEnd_let e)
        have := (List.getElem?_eq_some_iff.mp hc).1
        omega
    rw [if_pos ⟨rfl, .inl (lName_none this)⟩]
  | f + 1, f2, t, u, p, h, hk, h1, h2 => by
    have pl := kwEnd_lt hk
    obtain ⟨f2, rfl⟩ : ∃ g, f2 = g + 1 := ⟨f2 - 1, by omega⟩
    rw [symGo, if_pos ⟨pl, hk⟩]
    rw [hashGo] at h
    cases hs : nameEnd l (p + 1) with
    | none =>
      have : j = p + 1 := by
        rw [hs] at h
        split at h
        · cases h; rfl
        · cases h; rfl
      rw [if_pos ⟨this.symm, .inl (lName_none hs)⟩]
    | some x =>
      have gx := nameEnd_gt hs
      rw [if_pos (nameEnd_let hs), hs] at h
      dsimp only at h
      rw [lName_some hs]
      by_cases c : kwEnd l x = true
      · rw [if_pos c] at h
        have h3 := hashGo_le (l := l) f (t ++ sub l (p + 1) (x + 1)) (x + 1)
        rw [h] at h3
        dsimp only at h3
        rw [if_neg (fun z => by omega), if_neg (by omega)]
        exact symGo_of f f2 _ u x h c (by omega) (by omega)
      · rw [if_neg c] at h
        cases h
        rw [if_pos ⟨rfl, .inr (by simpa using c)⟩]
theorem lSym_hash {l : List Nat} {i j : Nat} {t : List Nat} (h0 : l[i]? = some 35) (h : rdHash l i = some (t, j)) (hj : j ≤ l.length) : lSym l i t = j ∧ t.length ≤ l.length := by
  unfold rdHash at h
  split at h
  case isFalse => cases h
  split at h
  · cases h
  rename_i k u s hs
  unfold rdName at hs
  split at hs
  · cases hs
  rename_i x hx
  have gx := nameEnd_gt hx
  have lx := lName_some hx
  have key : t = sub l (i + 1) j → i + 1 ≤ j → lSym l i t = (if lName l (i + 1) = i + 1 ∨ kwEnd l (lName l (i + 1)) = false then (if lName l (i + 1) = j ∧ i + 1 < lName l (i + 1) then lName l (i + 1) else i) else symGo l i j (l.length + 1) (lName l (i + 1))) := by
    intro ht hi
    have e : i + 1 + t.length = j := by rw [ht]; exact sub_len' hi hj
    unfold lSym
    rw [if_neg (by rw [h0]; decide), e, if_neg (by rintro (z | z); exact z h0; exact z ht.symm)]
  by_cases c : kwEnd l x = true
  · rw [if_pos c] at hs
    cases hs
    rw [if_pos rfl] at h
    have h4 := Option.some.inj h
    have h5 := hashGo_sub (l := l) (a := i + 1) l.length (x + 1) (by omega)
    have h6 := hashGo_le (l := l) l.length (sub l (i + 1) (x + 1)) (x + 1)
    rw [h4] at h5 h6
    dsimp only at h5 h6
    refine ⟨?_, by rw [h5, sub_len]; omega⟩
    rw [key h5 (by omega), lx, if_neg (by rintro (z | z); omega; rw [c] at z; cases z)]
    exact symGo_of l.length _ _ t x h4 c (by omega) (by omega)
  · rw [if_neg c] at hs
    cases hs
    rw [if_neg (by decide)] at h
    cases h
    refine ⟨?_, by rw [sub_len]; omega⟩
    rw [key rfl (by omega), lx, if_pos (.inr (by simpa using c)), if_pos ⟨rfl, gx⟩]
theorem dbl_app : ∀ a b : List Nat, dbl (a ++ b) = dbl a ++ dbl b
  | [], b => rfl
  | c :: a, b => by rw [List.cons_append, dbl, dbl, dbl_app a b, List.append_assoc]
theorem dbl_id {a : List Nat} (h : 39 ∉ a) : dbl a = a := by
  induction a with
  | nil => rfl
  | cons c a ih =>
    rw [dbl, if_neg (fun z => h (by rw [z]; exact List.mem_cons_self)), ih (fun z => h (List.mem_cons_of_mem _ z))]; rfl
theorem sub_mem {l : List Nat} {i j c : Nat} (h : c ∈ sub l i j) : ∃ v, i ≤ v ∧ v < j ∧ l[v]? = some c := by
  unfold sub at h
  obtain ⟨n, hn, e⟩ := List.mem_iff_getElem.mp h
  rw [List.length_take] at hn
  refine ⟨i + n, by omega, by omega, ?_⟩
  rw [← List.getElem?_drop, ← List.getElem?_take_of_lt (show n < j - i by omega), List.getElem?_eq_getElem (by rw [List.length_take]; exact hn), e]
theorem sub_two {l : List Nat} {x : Nat} (h1 : l[x]? = some 39) (h2 : l[x + 1]? = some 39) : sub l x (x + 2) = [39, 39] := by
  unfold sub
  rw [drop_one h1, drop_one h2, Nat.add_sub_cancel_left]; rfl
theorem sub_1 {l : List Nat} {x c : Nat} (h1 : l[x]? = some c) : sub l x (x + 1) = [c] := by
  unfold sub
  rw [drop_one h1, Nat.add_sub_cancel_left]; rfl
theorem quoGo_sub {l : List Nat} : ∀ (f : Nat) (t : List Nat) (s : Nat) (u : List Nat) (j : Nat), quoGo l f t s = some (u, j) → l[j]? ≠ some 39 ∧ ∃ w, u = t ++ w ∧ sub l s j = dbl w ++ [39]
  | 0, t, s, u, j, h => by cases h
  | f + 1, t, s, u, j, h => by
    rw [quoGo] at h
    split at h
    · cases h
    · rename_i x hx
      obtain ⟨h1, h2, h3⟩ := findFrom_some.mp hx
      have ni : 39 ∉ sub l s x := fun z => by
        obtain ⟨v, a, b, c⟩ := sub_mem z
        exact h3 v a b c
      split at h
      · rename_i c
        have g := quoGo_lt _ _ _ _ _ h
        obtain ⟨h4, w, h5, h6⟩ := quoGo_sub f _ _ _ _ h
        refine ⟨h4, sub l s x ++ [39] ++ w, by rw [h5]; simp, ?_⟩
        rw [dbl_app, dbl_app, dbl_id ni, ← sub_app h1 (show x ≤ j by omega), ← sub_app (show x ≤ x + 2 by omega) (show x + 2 ≤ j by omega), sub_two h2 c, h6]
        simp [dbl]
      · rename_i c
        cases h
        refine ⟨c, sub l s x, rfl, ?_⟩
        rw [dbl_id ni, ← sub_app h1 (Nat.le_succ x), sub_1 h2]
theorem dbl_len2 : ∀ t : List Nat, t.length ≤ (dbl t).length
  | [] => Nat.le_refl _
  | c :: r => by
    have := dbl_len2 r
    rw [dbl, List.length_append, List.length_cons]
    split <;> simp <;> omega
theorem lSym_quo {l : List Nat} {i j : Nat} {t : List Nat} (h0 : l[i]? = some 39) (h : rdQuo l i = some (t, j)) (hj : j ≤ l.length) : lSym l i t = j ∧ t.length ≤ l.length := by
  have g := quoGo_lt _ _ _ _ _ h
  obtain ⟨h1, w, h2, h3⟩ := quoGo_sub _ _ _ _ _ h
  rw [List.nil_append] at h2
  subst h2
  have e1 : sub l i j = [39] ++ dbl t ++ [39] := by
    rw [← sub_app (show i ≤ i + 1 by omega) (show i + 1 ≤ j by omega), sub_1 h0, h3, List.append_assoc]
  have e2 : i + ([39] ++ dbl t ++ [39]).length = j := by rw [← e1]; exact sub_len' (by omega) hj
  refine ⟨?_, ?_⟩
  · unfold lSym
    rw [if_pos h0, e2, if_pos ⟨e1, h1⟩]
  · have := dbl_len2 t
    rw [List.length_append, List.length_append] at e2
    omega
theorem lTok_sign {l : List Nat} {i c : Nat} (h0 : l[i]? = some c) (hc : c ∈ SGN) (hl : l.length ≤ 4000) : lTok l i .sign (.txt (rdSign l i).1) = (rdSign l i).2 ∧ Fit .sign (.txt (rdSign l i).1) := by
  have li := (List.getElem?_eq_some_iff.mp h0).1
  have e1 : isIn ((l.drop i).take 1) SGN = true := by rw [isIn_at, h0]; exact decide_eq_true hc
  have e2 := (endOf_in e1).2
  unfold rdSign
  by_cases d : isIn ((l.drop (i + 1)).take 1) SGN = true
  · rw [if_pos d]
    obtain ⟨x, hx, _⟩ := isIn_get d
    have lx := (List.getElem?_eq_some_iff.mp hx).1
    have e3 := (endOf_in d).2
    have e4 := endOf_ge l SGN (i + 1 + 1)
    have e5 : i + (sub l i (i + 2)).length = i + 2 := sub_len' (by omega) (by omega)
    refine ⟨?_, ?_, ?_⟩
    · show (if sub l i (i + (sub l i (i + 2)).length) = sub l i (i + 2) ∧ min (i + 2) (endOf l i SGN) = i + (sub l i (i + 2)).length then i + (sub l i (i + 2)).length else i) = i + 2
      rw [e5, if_pos ⟨rfl, by omega⟩]
    · intro z; dsimp only at z; rw [z] at e5; simp at e5
    · rw [sub_len]; omega
  · rw [if_neg d]
    have d' : isIn ((l.drop (i + 1)).take 1) SGN = false := by simpa using d
    have e3 := endOf_out d'
    have e5 : i + (sub l i (i + 1)).length = i + 1 := sub_len' (by omega) (by omega)
    refine ⟨?_, ?_, ?_⟩
    · show (if sub l i (i + (sub l i (i + 1)).length) = sub l i (i + 1) ∧ min (i + 2) (endOf l i SGN) = i + (sub l i (i + 1)).length then i + (sub l i (i + 1)).length else i) = i + 1
      rw [e5, if_pos ⟨rfl, by omega⟩]
    · intro z; dsimp only at z; rw [z] at e5; simp at e5
    · rw [sub_len]; omega

/-- what the number's text is -/
def NumOk (l : List Nat) (i : Nat) : Prop := ∀ t j, rdNum l i = some (t, j) → natTxt (NumText.digitsVal t) = S t ∧ NumText.digitsVal t < 10 ^ 9
theorem rdTok_end {l : List Nat} {i j : Nat} {k : TK} {v : TV} (h : rdTok l i = some (k, v, j)) (hl : l.length ≤ 4000) (hn : (∃ c, l[i]? = some c ∧ c ∈ DIG) → NumOk l i) : lTok l i k v = j ∧ Fit k v := by
  have jl := rdTok_le h
  unfold rdTok at h
  split at h
  · cases h
  rename_i c hc
  have li := (List.getElem?_eq_some_iff.mp hc).1
  split at h
  · obtain ⟨⟨a, t, d⟩, h1, h2⟩ := Option.map_eq_some_iff.mp h
    cases h2
    dsimp only at jl h1 ⊢
    unfold rdName at h1
    split at h1
    · cases h1
    rename_i s hs
    have gt := nameEnd_gt hs
    have ln := lName_some hs
    have sl := nameEnd_le hs
    split at h1
    · rename_i ck
      cases h1
      have e := sub_len' (l := l) (i := i) (j := s + 1) (by omega) jl
      refine ⟨?_, ?_, ?_⟩
      · show (if sub l i (i + (sub l i (s + 1)).length) = sub l i (s + 1) ∧ 1 < (sub l i (s + 1)).length ∧ lName l i + 1 = i + (sub l i (s + 1)).length ∧ kwEnd l (i + (sub l i (s + 1)).length - 1) = true then i + (sub l i (s + 1)).length else i) = s + 1
        rw [e, if_pos ⟨rfl, by omega, by rw [ln], by rw [Nat.add_sub_cancel]; exact ck⟩]
      · intro z; rw [z] at e; simp at e; omega
      · rw [sub_len]; omega
    · rename_i ck
      obtain ⟨rfl, rfl, rfl⟩ : TK.name = a ∧ sub l i s = t ∧ s = d := by cases h1; exact ⟨rfl, rfl, rfl⟩
      have e := sub_len' (l := l) (i := i) (j := s) (by omega) sl
      refine ⟨?_, ?_, ?_⟩
      · show (if sub l i (i + (sub l i s).length) = sub l i s ∧ lName l i = i + (sub l i s).length ∧ kwEnd l (i + (sub l i s).length) = false then i + (sub l i s).length else i) = s
        rw [e, if_pos ⟨rfl, ln, by simpa using ck⟩]
      · intro z; rw [z] at e; simp at e; omega
      · rw [sub_len]; omega
  split at h
  · rename_i hd
    obtain ⟨⟨a, b⟩, h1, h2⟩ := Option.map_eq_some_iff.mp h
    cases h2
    obtain ⟨n1, n2⟩ := hn ⟨c, hc, hd⟩ _ _ h1
    unfold rdNum at h1
    split at h1
    · cases h1
    rename_i q
    cases h1
    refine ⟨?_, n2⟩
    have e := sub_len' (endOf_ge l DIG i) (endOf_le (cs := DIG) (Nat.le_of_lt li))
    show (if isLet l (endOf l i DIG) = true ∨ 9 < endOf l i DIG - i ∨ natTxt _ ≠ S (sub l i (endOf l i DIG)) then i else endOf l i DIG) = endOf l i DIG
    rw [if_neg]
    rintro (z | z | z)
    · exact q (.inl z)
    · exact q (.inr (.inl (by omega)))
    · exact z n1
  split at h
  · rename_i h35
    obtain ⟨⟨a, b⟩, h1, h2⟩ := Option.map_eq_some_iff.mp h
    cases h2
    obtain ⟨e1, e2⟩ := lSym_hash (by rw [hc, h35]) h1 jl
    exact ⟨e1, by show a.length ≤ 4000; omega⟩
  split at h
  · rename_i h39
    obtain ⟨⟨a, b⟩, h1, h2⟩ := Option.map_eq_some_iff.mp h
    cases h2
    obtain ⟨e1, e2⟩ := lSym_quo (by rw [hc, h39]) h1 jl
    exact ⟨e1, by show a.length ≤ 4000; omega⟩
  split at h
  · rename_i hs
    cases h
    exact lTok_sign hc hs hl
  split at h
  · rename_i q
    cases h
    have e : sub l i (i + 2) = [58, 61] := by
      unfold sub
      rw [Nat.add_sub_cancel_left, drop_one hc, drop_one q.2, q.1]; rfl
    refine ⟨?_, by decide, by decide⟩
    show (if sub l i (i + 2) = [58, 61] ∧ [58, 61] ∈ MRKS ∧ ¬ ([58, 61] = [58] ∧ _) then i + 2 else i) = i + 2
    rw [if_pos ⟨e, by decide, fun z => by cases z.1⟩]
  split at h
  · rename_i q1 q2
    cases h
    have e : sub l i (i + 1) = [c] := sub_1 hc
    refine ⟨?_, by simp, by simp⟩
    show (if sub l i (i + 1) = [c] ∧ [c] ∈ MRKS ∧ ¬ ([c] = [58] ∧ l[i + 1]? = some 61) then i + 1 else i) = i + 1
    have m1 : ∀ c ∈ MRK, [c] ∈ MRKS := by decide
    have m2 : ¬ ([c] = [58] ∧ l[i + 1]? = some 61) := by
      rintro ⟨z1, z2⟩
      cases z1
      exact q1 ⟨rfl, z2⟩
    rw [if_pos ⟨e, m1 c q2, m2⟩]
  · cases h
/-- the tokens tile the text -/
def Tl (l : List Nat) (stop : Nat) : Nat → List Tr → Prop
  | i, [] => lSkip l i = stop
  | i, t :: r => t.i = lSkip l i ∧ t.i < stop ∧ t.i < l.length ∧ t.i < lTok l t.i t.k t.v ∧ Fit t.k t.v ∧ Tl l stop (lTok l t.i t.k t.v) r
theorem Ch.tl {l : List Nat} {e i : Nat} {r : List Tr} (h : Ch l e i r) (hl : l.length ≤ 4000) (hn : ∀ i, (∃ c, l[i]? = some c ∧ c ∈ DIG) → NumOk l i) : Tl l e i r := by
  induction h with
  | nil h =>
    show lSkip l _ = e
    unfold lSkip
    rcases h with h | h
    · rw [h]
    · rw [h]
  | cons h1 h2 h3 h4 h5 ih =>
    have ⟨e1, e2⟩ := rdTok_end h3 hl (hn _)
    have g := rdTok_gt h3
    have lt : _ < l.length := Nat.lt_of_lt_of_le g (rdTok_le h3)
    refine ⟨?_, h2, lt, by rw [e1]; exact g, e2, by rw [e1]; exact ih⟩
    unfold lSkip
    rw [h1]
def SGMK : List Nat := [32, 10] ++ SGN ++ MRK
def lMis (l : List Nat) (i : Nat) : Bool := match l[i]? with
  | none => false
  | some c =>
    if c ∈ LET then decide (32 < endOf l i LD - i)
    else if c ∈ DIG then decide (9 < endOf l i DIG - i) || isLet l (endOf l i DIG) || (decide (c = 48) && decide (1 < endOf l i DIG - i))
    else if c = 35 then decide (lName l (i + 1) = i + 1)
    else if c = 34 then decide (findFrom l 34 (i + 1) = none)
    else if c = 39 then decide (39 ∉ undbl (l.drop (i + 1)))
    else decide (c ∉ SGMK)
theorem undbl_pre {a r : List Nat} (h : 39 ∉ a) : undbl (a ++ 39 :: 39 :: r) = a ++ undbl r := by
  induction a with
  | nil => rfl
  | cons c a ih =>
    have hc : c ≠ 39 := fun z => h (by rw [z]; exact List.mem_cons_self)
    have ha : 39 ∉ a := fun z => h (List.mem_cons_of_mem _ z)
    rw [List.cons_append, undbl, ih ha]
    · rfl
    · intro z hz; exact absurd hz (by simp [hc])
theorem undbl_id {a : List Nat} (h : 39 ∉ a) : undbl a = a := by
  induction a with
  | nil => rfl
  | cons c a ih =>
    have hc : c ≠ 39 := fun z => h (by rw [z]; exact List.mem_cons_self)
    have ha : 39 ∉ a := fun z => h (List.mem_cons_of_mem _ z)
    rw [undbl, ih ha]
    intro z hz; exact absurd hz (by simp [hc])
theorem quoGo_none {l : List Nat} : ∀ (f : Nat) (t : List Nat) (s : Nat), quoGo l f t s = none → l.length + 1 ≤ f + s → 39 ∉ undbl (l.drop s)
  | 0, t, s, h, hf => by rw [List.drop_eq_nil_of_le (by omega)]; decide
  | f + 1, t, s, h, hf => by
    rw [quoGo] at h
    split at h
    · rename_i hx
      rw [findFrom_none] at hx
      have : 39 ∉ l.drop s := fun z => by
        obtain ⟨n, hn⟩ := List.getElem?_of_mem z
        rw [List.getElem?_drop] at hn
        exact hx _ (by omega) hn
      rw [undbl_id this]; exact this
    · rename_i x hx
      obtain ⟨h1, h2, h3⟩ := findFrom_some.mp hx
      split at h
      · rename_i c
        have ih := quoGo_none f _ _ h (by omega)
        have ni : 39 ∉ sub l s x := fun z => by
          obtain ⟨v, a, b, c⟩ := sub_mem z
          exact h3 v a b c
        have e : l.drop s = sub l s x ++ 39 :: 39 :: l.drop (x + 2) := by
          have e1 : l.drop s = (l.drop s).take (x - s) ++ (l.drop s).drop (x - s) := (List.take_append_drop _ _).symm
          rw [List.drop_drop, show s + (x - s) = x by omega, drop_one h2, drop_one c] at e1
          exact e1
        rw [e, undbl_pre ni]
        intro z
        rcases List.mem_append.mp z with z | z
        · exact ni z
        · exact ih z
      · cases h
theorem Mis.mis {l : List Nat} {e : Nat} (h : Mis l e) : lMis l e = true := by
  unfold lMis
  rcases h with ⟨⟨c, hc, n1, n2, n3⟩, h⟩ | ⟨hc, h⟩
  · have li := (List.getElem?_eq_some_iff.mp hc).1
    rw [hc]
    dsimp only
    unfold rdTok at h
    rw [hc] at h
    dsimp only at h
    by_cases c1 : c ∈ LET
    · rw [if_pos c1] at h ⊢
      have h1 := Option.map_eq_none_iff.mp h
      unfold rdName at h1
      split at h1
      · rename_i hn
        have h2 := lName_none hn
        rw [lName_eq] at h2
        have hl : isLet l e = true := by show isIn _ _ = true; rw [isIn_at, hc]; exact decide_eq_true c1
        refine decide_eq_true ?_
        rcases Nat.lt_or_ge 32 (endOf l e LD - e) with q | q
        · exact q
        · rw [if_neg (by rintro (z | z); rw [hl] at z; cases z; omega)] at h2
          have : isIn ((l.drop e).take 1) LD = true := by rw [isIn_at, hc]; exact decide_eq_true (List.mem_append.mpr (.inl c1))
          have h3 := (endOf_in this).2
          have h4 := endOf_ge l LD (e + 1)
          omega
      · split at h1 <;> cases h1
    rw [if_neg c1] at h ⊢
    by_cases c2 : c ∈ DIG
    · rw [if_pos c2] at h ⊢
      have h1 := Option.map_eq_none_iff.mp h
      unfold rdNum at h1
      split at h1
      case isFalse => cases h1
      rename_i q
      have e1 := sub_len' (endOf_ge l DIG e) (endOf_le (cs := DIG) (Nat.le_of_lt li))
      rw [Bool.or_eq_true, Bool.or_eq_true, Bool.and_eq_true, decide_eq_true_eq, decide_eq_true_eq, decide_eq_true_eq]
      rcases q with q | q | ⟨q1, q2⟩
      · exact .inl (.inr q)
      · exact .inl (.inl (by omega))
      · refine .inr ⟨?_, by omega⟩
        rw [sub_run_head hc c2] at q1
        exact Option.some.inj q1
    rw [if_neg c2] at h ⊢
    by_cases c3 : c = 35
    · rw [if_pos c3] at h ⊢
      have h1 := Option.map_eq_none_iff.mp h
      refine decide_eq_true (lName_none ?_)
      unfold rdHash at h1
      split at h1
      · split at h1
        · rename_i q
          unfold rdName at q
          split at q
          · rename_i z; exact z
          · split at q <;> cases q
        · split at h1 <;> cases h1
      · rename_i q
        cases z : nameEnd l (e + 1) with
        | none => rfl
        | some x => exact (q (nameEnd_let z)).elim
    rw [if_neg c3] at h ⊢
    by_cases c4 : c = 39
    · rw [if_pos c4] at h
      rw [if_neg n1, if_pos c4]
      have h1 := Option.map_eq_none_iff.mp h
      exact decide_eq_true (quoGo_none _ _ _ h1 (by omega))
    rw [if_neg c4] at h
    rw [if_neg n1, if_neg c4]
    by_cases c5 : c ∈ SGN
    · rw [if_pos c5] at h; cases h
    rw [if_neg c5] at h
    split at h
    · cases h
    split at h
    · cases h
    rename_i c6
    refine decide_eq_true (fun z => ?_)
    rcases List.mem_append.mp z with z | z
    · rcases List.mem_append.mp z with z | z
      · rcases List.mem_cons.mp z with z | z
        · exact n2 z
        · exact n3 (by simpa using z)
      · exact c5 z
    · exact c6 z
  · rw [hc]
    dsimp only
    rw [if_neg (by decide), if_neg (by decide), if_neg (by decide), if_pos rfl]
    exact decide_eq_true h
end LX

set_option Elab.async false
set_option linter.all false
set_option maxRecDepth 100000
set_option maxHeartbeats 4000000
/-! Lx7: numbers' texts; promises of the law's judges -/
namespace LX
open PySem PySem.Spec PyProof.Rows L2 KW
theorem dig_all {l : List Nat} {i : Nat} : NumText.AllDigits (sub l i (endOf l i DIG)) := fun c m => by
  have := sub_run_mem m
  simp only [DIG, List.mem_cons, List.not_mem_nil, or_false] at this
  omega
theorem dv_lt : ∀ (cs : List Nat) (a : Nat), (∀ c ∈ cs, c ≤ 57) → cs.foldl (fun acc c => acc * 10 + (c - 48)) a < (a + 1) * 10 ^ cs.length
  | [], a, _ => by simp
  | c :: cs, a, h => by
    have ih := dv_lt cs (a * 10 + (c - 48)) fun d hd => h d (List.mem_cons_of_mem _ hd)
    have hc := h c (List.mem_cons_self)
    rw [List.foldl_cons, List.length_cons, Nat.pow_succ]
    refine Nat.lt_of_lt_of_le ih ?_
    have : a * 10 + (c - 48) + 1 ≤ (a + 1) * 10 := by omega
    calc (a * 10 + (c - 48) + 1) * 10 ^ cs.length ≤ ((a + 1) * 10) * 10 ^ cs.length := Nat.mul_le_mul_right _ this
      _ = (a + 1) * (10 ^ cs.length * 10) := by rw [Nat.mul_assoc, Nat.mul_comm 10]
theorem numOk (l : List Nat) (i : Nat) (h : ∃ c, l[i]? = some c ∧ c ∈ DIG) : NumOk l i := by
  intro t j ht
  obtain ⟨c, hc, hd⟩ := h
  unfold rdNum at ht
  split at ht
  · cases ht
  rename_i q
  cases ht
  have al := dig_all (l := l) (i := i)
  have h0 := sub_run_head hc hd
  generalize hX : sub l i (endOf l i DIG) = X at *
  have l9 : X.length ≤ 9 := by
    rcases Nat.lt_or_ge 9 X.length with z | z
    · exact (q (.inr (.inl z))).elim
    · exact z
  obtain ⟨x, r, rfl⟩ : ∃ x r, X = x :: r := by
    cases X with
    | nil => cases h0
    | cons x r => exact ⟨x, r, rfl⟩
  cases h0
  refine ⟨?_, ?_⟩
  · have e := NumText.toDigits_digitsVal r.length (c :: r) rfl al ?_
    · have e2 := PySem.W.KIN.signs_num (NumText.digitsVal (c :: r))
      rw [e, List.map_map] at e2
      have e3 : (c :: r).map (Char.toNat ∘ Char.ofNat) = c :: r := by
        have : ∀ ys : List Nat, NumText.AllDigits ys → ys.map (Char.toNat ∘ Char.ofNat) = ys := by
          intro ys
          induction ys with
          | nil => intro _; rfl
          | cons y ys ih =>
            intro hy
            rw [List.map_cons, ih hy.tail]
            have hb := hy.head
            have : (Char.toNat ∘ Char.ofNat) y = y := by
              have hh : ∀ d, d < 10 → (Char.ofNat (48 + d)).toNat = 48 + d := by decide
              have h2 := hh (y - 48) (by omega)
              rw [show 48 + (y - 48) = y by omega] at h2
              exact h2
            rw [this]
        exact this _ al
      rw [e3] at e2
      have : ∀ x : Str, x.cps.toList = c :: r → x = S (c :: r) := fun x hx => hx ▸ S_cps x
      exact this _ e2
    · have hb := al.head
      by_cases z : c = 48
      · refine .inl ?_
        rcases Nat.lt_or_ge 1 (c :: r).length with y | y
        · exact (q (.inr (.inr ⟨by rw [z]; rfl, y⟩))).elim
        · rw [List.length_cons] at y; omega
      · exact .inr ⟨c, r, rfl, by omega⟩
  · have := dv_lt (c :: r) 0 fun d hd => (al d hd).2
    refine Nat.lt_of_lt_of_le (show NumText.digitsVal (c :: r) < _ from this) ?_
    rw [Nat.zero_add, Nat.one_mul]
    exact Nat.pow_le_pow_right (by decide) l9
theorem drop_cons {α : Type} {l : List α} {i : Nat} {c : α} (h : l[i]? = some c) : l.drop i = c :: l.drop (i + 1) := by
  obtain ⟨h1, h2⟩ := List.getElem?_eq_some_iff.mp h
  rw [← h2]; exact List.drop_eq_getElem_cons h1
def spTiles : Sp := fun vs H Q _ => ∃ (l : List Nat) (ts : List Tr) (tl : Addr) (as : List Addr) (stop : Nat), vs = [.str (S l), .ref tl, .int stop] ∧ l.length ≤ 4000 ∧ Tks H tl ts as ∧ Tl l stop 0 ts ∧ ∀ H', KW.Fr [] H H' → Q (.bl true) H'
def spMisfit : Sp := fun vs H Q _ => ∃ (l : List Nat) (i : Nat), vs = [.str (S l), .int i] ∧ l.length ≤ 4000 ∧ i < l.length ∧ Q (.bl (lMis l i)) H
theorem undbl_replL : ∀ t : List Nat, PySem.StrLaws.replL [39, 39] [] t = undbl t
  | [] => PySem.StrLaws.replL_nil
  | [c] => by
    rw [PySem.StrLaws.replL_miss (by simp)]
    have : undbl [c] = [c] := by
      rw [undbl]
      · rfl
      · intro z hz; simp
    rw [this, PySem.StrLaws.replL_nil]
  | c :: d :: r => by
    by_cases h : c = 39 ∧ d = 39
    · obtain ⟨rfl, rfl⟩ := h
      rw [PySem.StrLaws.replL_hit (by simp) (by rfl), undbl]
      exact congrArg ([] ++ ·) (undbl_replL r)
    · rw [PySem.StrLaws.replL_miss (by simpa using h), undbl_replL (d :: r)]
      refine (undbl.eq_2 c (d :: r) ?_).symm
      intro z hz y
      injection y with y1 y2
      exact h ⟨hz, y1⟩
theorem replace_undbl (t : List Nat) : Txt.replace (S t) (S [39, 39]) (S []) = S (undbl t) := by
  have h := PySem.StrLaws.replace_list (x := S t) (y := S [39, 39]) (z := S []) (by show 1 ≤ (S [39, 39]).length; rw [S_len]; decide)
  rw [S_cps (Txt.replace (S t) (S [39, 39]) (S [])), h]
  exact congrArg S (undbl_replL t)
theorem cut_drop (l : List Nat) {i : Nat} {x : Int} (e : x = i) : cutS (S l) (some x) none = S (l.drop i) := by
  subst e
  unfold cutS
  rw [HT.sIx_nat, cps_S]
  have e : (S l).length = l.length := S_len l
  have e2 : HT.sIx l.length l.length none = l.length := rfl
  rw [e, e2]
  refine congrArg S ?_
  by_cases h : i ≤ l.length
  · rw [Nat.min_eq_left h]
    exact List.take_of_length_le (by rw [List.length_drop]; first | omega | simp)
  · rw [List.drop_eq_nil_of_le (show l.length ≤ i by omega), List.drop_eq_nil_of_le (by omega), List.take_nil]
end LX

set_option Elab.async false
set_option linter.all false
set_option maxRecDepth 100000
set_option maxHeartbeats 4000000
namespace K11
open PySem PySem.Spec PyProof.Rows L2 KW LX
local macro_rules | `(tactic| walk_at "kw") => `(tactic| simp only [tSeq, tNext, tIfS, tTest, tAnd, tOr, tNot, tAndV, tOrV, tNotV, tIf, tChain, tOp, tUn, tC, tAsg, gName, gSub, gCons, gNil, tRet, tRetN, tDrop, tCons, tNil, tCB, tAug, tSl, tPart, tNoPart, tLst, tTup, tBM, tBM0, uTest, uFor, iRng1, iRng2, iList, uCall, List.map_cons, List.map_nil, List.length_cons, List.length_nil, List.cons_append, List.nil_append, List.replicate, Nat.zero_add, Nat.reduceAdd, Nat.reduceSub, List.getElem?_cons_zero, List.getElem?_cons_succ, List.set_cons_zero, List.set_cons_succ, V.bl.injEq, V.int.injEq, V.str.injEq, V.ref.injEq, V.ty.injEq, List.cons.injEq, and_true, true_and, exists_eq_left', exists_eq_right, exists_eq_left, exists_and_left, exists_and_right, decide_eq_true_eq, Bool.not_eq_true', decide_eq_false_iff_not, Bool.false_eq_true, if_true, if_false, ite_true, ite_false, Bool.not_true, Bool.not_false, reduceCtorEq, decide_true, decide_false, Bool.not_not, isK_int_int, isK_int_bool, isK_int_str, isK_int_list, isK_int_tuple, isK_bool_int, isK_bool_bool, isK_bool_str, isK_str_str, isK_str_int, isK_str_bool, isK_str_tuple, isK_str_list, isK_list_list, isK_list_tuple, isK_tuple_tuple, isK_tuple_list, isOk_int_int, isOk_int_bool, isOk_int_str, isOk_int_list, isOk_int_tuple, isOk_bool_int, isOk_bool_bool, isOk_bool_str, isOk_str_str, isOk_str_int, isOk_str_bool, isOk_str_tuple, isOk_str_list, isOk_list_list, isOk_list_tuple, isOk_tuple_tuple, isOk_tuple_list, isK_dict_dict, isOk_dict_dict, isK_none_int, isK_none_bool, isOk_none_int, isOk_none_bool, tyV, S_inj, S_cat, L2.start, Nat.reduceSub, List.replicate_succ, List.replicate_zero, and_assoc, List.append_nil, Nat.reduceEqDiff, Option.some.injEq, Int.natCast_inj, upd_upd, Int.reducePow, Int.reduceToNat, Int.reduceMul, Int.reduceAdd, Int.reduceSub, Int.reduceLT, Int.reduceLE, Int.reduceNeg, Int.reduceDiv, Int.reduceMod, Nat.reducePow, Nat.reduceMul, S_len, List.length_append, List.length_map, List.length_range, not_true_eq_false, not_false_eq_true, ne_eq, uAdd_e1, uAdd_e2, uSub_e1, uMod_e1, uDiv_e1, uPow_e1, uShl_e1, uNeg_e1, uIAdd_e1, uIAdd_e2, uIAdd_e3, uISub_e1, uLt_e1, uLt_e2, uLe_e1, uGt_e1, uGe_e1, uEq_e1, uEq_e2, uEq_e3, uEq_e4, uEq_e5, uEq_e6, uEq_e7, uEq_e8, uEq_e9, uEq_e10, uEq_e11, uNe_e1, uNe_e2, uNe_e3, uNe_e4, uNe_e5, uNe_e6, uNe_e7, uNe_e8, uNe_e9, uNe_e10, uNe_e11, uIs_e1, uIs_e2, uIs_e3, uIs_e4, uIs_e5, uIs_e6, uIs_e7, uNotIs_e1, uNotIs_e2, uNotIs_e3, uNotIs_e4, uNotIs_e5, uNotIs_e6, uIn_e1, uIn_e2, uIn_e3, uIn_e4, uNotIn_e1, uNotIn_e2, uNotIn_e3, uNotIn_e4, uTru_e1, uTru_e2, uTru_e3, uTru_e4, uIx_e2, uSl_e2, uLen_e1, uAbs_e1, uInt_e1, uInt_e2, uMin2_e1, uIsi_e1, uIsi_e2, uIsi_e3, uIsi_e4, cx_K, uVar_0, uVar_n, uFld, uSFld, uMet, uMake, tDG, tDI, tDNI, tDP, tDD, uMk, uRaise, uDelSl, tCallS, L2.WE, uStr_e1, uStr_e2, uMul2_e1, uMul2_e2, okS_i, okS_s, List.zip_cons_cons, List.zip_nil_left, List.drop_zero, List.drop_succ_cons, List.drop_nil, putF_nil, putF_cons, eq_self, tDNewK, tB, Option.isSome_some, Option.isSome_none, false_and, false_or, or_false, exists_false, Int.zero_add, uLc, wipe, tYes, isEmpty_app, List.isEmpty_cons, List.isEmpty_nil, List.isEmpty_map, Bool.and_false, Bool.and_true, iRev, K11.lit_0, K11.lit_1, K11.lit_2, K11.lit_3, K11.lit_4, K11.lit_5, K11.lit_6, K11.lit_7, K11.lit_8, K11.lit_9, K11.lit_10, K11.lit_11, K11.lit_12, K11.lit_13, K11.lit_14, K11.lit_15, K11.lit_16, K11.lit_17, K11.lit_18, K11.lit_19, K11.lit_20, K11.lit_21, K11.lit_22, K11.lit_23, K11.lit_24, K11.lit_25, K11.lit_26, K11.lit_27, K11.lit_28, K11.lit_29, K11.lit_30, K11.lit_31, K11.lit_32, K11.lit_33, K11.lit_34, uIntL_e1, uIntL_e2, CwR.tReplC, K11.N_char_at, K11.N_is_in, K11.N_end_of, K11.N_is_name, K11.N_name_end, K11.N_is_keyword_end, K11.N_read_name, K11.N_read_number, K11.N_read_hash, K11.N_read_quoted, K11.N_read_sign, K11.N_read_token, K11.N_skipped, K11.N_tokens_of, K11.N__law_start, K11.N__law_pick, K11.N__law_letters, K11.N__law_source, K11.N__law_run, K11.N__law_word_end, K11.N__law_is_letter, K11.N__law_name_end, K11.N__law_colon, K11.N__law_skip, K11.N__law_symbol_end, K11.N__law_token_end, K11.N__law_is_token, K11.N__law_tiles, K11.N__law_misfit, K11.N_law])
local macro_rules | `(tactic| walk_at "nn") => `(tactic| first | assumption | exact ne_un (by assumption) | exact ne_un (ne_un (by assumption)) | exact ne_un (ne_un (ne_un (by assumption))) | exact ne_un (ne_un (ne_un (ne_un (by assumption)))))
local macro_rules | `(tactic| walk_at "ne") => `(tactic| first | assumption | (apply Ne.symm; assumption) | exact ne_ud (by assumption) | exact Ne.symm (ne_ud (by assumption)) | exact ne_ud (ne_un (by assumption)) | exact Ne.symm (ne_ud (ne_un (by assumption))) | exact ne_ud (ne_un (ne_un (by assumption))) | exact Ne.symm (ne_ud (ne_un (ne_un (by assumption)))) | exact ne_m (by assumption) (by assumption) | exact Ne.symm (ne_m (by assumption) (by assumption)) | exact ne_n (by assumption) (by walk_at "nn") | exact Ne.symm (ne_n (by assumption) (by walk_at "nn")))
local macro_rules | `(tactic| walk_at "hp") => `(tactic| first | assumption | exact upd_same | (refine Eq.trans (upd_ne ?_) ?_; (focus walk_at "ne"); walk_at "hp"))
local macro_rules | `(tactic| walk_at "sc") => `(tactic| first | (with_reducible assumption) | omega | exact le_line (by (try simp only [List.length_map, List.length_append, List.length_cons, List.length_nil, S_len]); omega) | exact div_s (by omega) | exact mul_r (by omega) | exact mul_l (by omega) | exact pow_s (by omega) | exact mul2_r (by omega) | exact mul2_l (by omega) | exact small4300 (by omega) | exact lt_line (by (try simp only [List.length_map, List.length_append, List.length_cons, List.length_nil, S_len]); omega) | exact ⟨_, by assumption⟩ | (guard_target =~ Exists _; exact ⟨_, .of (by walk_at "hp")⟩) | (guard_target =~ _ ∨ _; exact .inl ⟨_, by assumption⟩) | (guard_target =~ _ ∨ _; exact .inl ⟨_, .of (by walk_at "hp")⟩) | (guard_target =~ _ ∨ _; exact .inr (.inr (.inl ⟨rfl, .inl ⟨_, by walk_at "hp"⟩⟩))) | decide)
local macro_rules | `(tactic| walk_at "kr") => `(tactic| first | (guard_target =~ _ ∧ _; first | refine And.intro (by walk_at "sc") ?_) | (guard_target =~ KW.uIx _ _ _ _ _; first | refine ix_l (by walk_at "hp") (by first | walk_at "hv" | rfl) ?_ | refine ix_t (by walk_at "hp") (by first | walk_at "hv" | rfl) ?_ | refine ix_sl (by assumption) (by walk_at "hv") ?_) | (guard_target =~ KW.uLen _ _ _ _; first | refine len_l (by walk_at "hp") ?_ | refine len_t (by walk_at "hp") ?_ | refine len_sl (by assumption) ?_) | (guard_target =~ KW.uSet _ _ _ _ _; first | refine set_l (by walk_at "hp") (by first | walk_at "hv" | rfl) ?_) | (guard_target =~ L2.gTup _ _ _ _ _ _ _; first | refine tup_l (by walk_at "hp") (by rfl) ?_) | (guard_target =~ KW.uGet _ _ _ _ _; first | refine get_l (by walk_at "hp") (by walk_at "hc") (by decide) (by rfl) ?_) | (guard_target =~ KW.uPut _ _ _ _ _ _; first | refine put_l (by walk_at "hp") (by walk_at "hc") (by decide) (by simp) ?_) | (guard_target =~ KW.uMet.uMt _ _ _ _ _ _ _ _ _; first | refine met_l (by walk_at "hp") (by rfl) ?_) | (guard_target =~ KW.uMet.uMt _ _ _ _ _ _ _ _ _; first | refine ST.met_s (by assumption) (by decide) ?_) | (guard_target =~ ST.spExists _ _ _ _ _; first | refine ST.exists_s (by assumption) ?_) | (guard_target =~ ST.spUsed _ _ _ _ _; first | refine ST.used_s (by assumption) ?_) | (guard_target =~ KW.uGet _ _ _ _ _; first | refine ST.words_s (by assumption) (by walk_at "hc") (by decide) ?_) | (guard_target =~ KW.uDIn _ _ _ _; first | refine din_i (by walk_at "hp") ?_ | refine din_s (by walk_at "hp") ?_) | (guard_target =~ KW.uDGet _ _ _ _; first | refine dget_i (by walk_at "hp") (by walk_at "hv") ?_ | refine dget_s (by walk_at "hp") (by walk_at "hv") ?_) | (guard_target =~ KW.uDPut _ _ _ _ _; first | refine dput_i (by walk_at "hp") (by walk_at "sc") ?_ | refine dput_s (by walk_at "hp") (by walk_at "sc") ?_) | (guard_target =~ KW.uDDel _ _ _ _; first | refine ddel_i (by walk_at "hp") (by walk_at "hv") ?_ | refine ddel_s (by walk_at "hp") (by walk_at "hv") ?_) | (guard_target =~ KW.uMul2 _ _ _ _; first | refine rep_l (by walk_at "hp") (by walk_at "sc") (by walk_at "sc") (by walk_at "sc") ?_) | (guard_target =~ L2.rAppend _ _ _ _; first | refine app_l (by walk_at "hp") (by walk_at "sc") ?_) | (guard_target =~ L2.rPop _ _ _ _; first | refine pop_l (by walk_at "hp") (by walk_at "hv") ?_ | refine pops_l (by walk_at "hp") ?_) | (guard_target =~ L2.rClear _ _ _ _; first | refine clr_l (by walk_at "hp") ?_) | (guard_target =~ L2.rReverse _ _ _ _; first | refine rev_l (by walk_at "hp") ?_) | (guard_target =~ L2.rExtend _ _ _ _; first | refine ext_l (by walk_at "hp") (by walk_at "hp") (by walk_at "sc") ?_) | (guard_target =~ KW.uAdd _ _ _ _ _; first | refine ucat_l (by walk_at "hp") (by walk_at "hp") (by walk_at "sc") ?_) | (guard_target =~ KW.uSl _ _ _ _ _ _; first | refine usl_l (by walk_at "hp") ?_) | (guard_target =~ KW.uTru _ _ _ _; first | refine tru_l (by walk_at "hp") ?_ | refine tru_t (by walk_at "hp") ?_ | refine tru_d (by walk_at "hp") ?_ | refine tru_sl (by assumption) ?_) | (guard_target =~ L2.rIndex _ _ _ _ _; first | refine idx_s (by walk_at "hp") (by assumption) ?_ | refine idx_i (by walk_at "hp") (by assumption) ?_) | (guard_target =~ L2.rIn _ _ _ _ _ _; first | refine in_s (by walk_at "hp") ?_ | refine nin_s (by walk_at "hp") ?_ | refine in_i (by walk_at "hp") ?_ | refine nin_i (by walk_at "hp") ?_) | (guard_target =~ KW.uIsi _ _ _ _; first | refine isi_l (by walk_at "hp") (by decide +kernel) ?_ | refine isi_t (by walk_at "hp") (by decide +kernel) ?_ | refine isi_d (by walk_at "hp") (by decide +kernel) ?_) | (guard_target =~ KW.uList _ _ _ _; first | refine list_l (by walk_at "hp") ?_ | refine list_t (by walk_at "hp") ?_ | refine list_sl (by assumption) ?_) | (guard_target =~ KW.uDict _ _ _; first | refine dict_d (by walk_at "hp") ?_) | (guard_target =~ KW.uSorted _ _ _ _; first | refine srt_l (by walk_at "hp") ?_) | (guard_target =~ KW.uSum _ _ _ _; first | refine sum_l (by walk_at "hp") ?_) | (guard_target =~ KW.uDelC _ _ _ _; first | refine dels_l (by walk_at "hp") (by walk_at "sc") ?_) | (guard_target =~ L2.wAs _ _ _ _ _ _ _ _ _ _; first | refine as_yes (by walk_at "hx") ?_ | refine as_no (by walk_at "hx") ?_) | (guard_target =~ KW.uEf _ _ _ _ _ _ _ _ _; first | refine ef_l (by walk_at "he") (by decide) (by rfl) (by walk_at "hp") (by rfl) ?_) | (guard_target =~ KW.uIsE _ _ _ _ _ _ _; first | refine isE_r (by walk_at "he") (by walk_at "hp") (by walk_at "hk") ?_ | refine isE_t (by walk_at "he") (by walk_at "hp") (by walk_at "hk") ?_))
local macro_rules | `(tactic| walk_at "hv") => `(tactic| first | assumption)
local macro_rules | `(tactic| walk_at "kk") => `(tactic| repeat (first | walk_at "kw" | walk_at "kr"))
local macro_rules | `(tactic| walk_at "hc") => `(tactic| first | fail)
local macro_rules | `(tactic| walk_at "he") => `(tactic| first | exact K11.Txt.e_Malformed (by assumption) | exact K11.Txt.e_Oversized (by assumption))
local macro_rules | `(tactic| walk_at "hx") => `(tactic| first | exact K11.Txt.x_Malformed_KilnwardenError (by assumption) | exact K11.Txt.x_Malformed_Malformed (by assumption) | exact K11.Txt.x_Malformed_Oversized (by assumption) | exact K11.Txt.x_Oversized_KilnwardenError (by assumption) | exact K11.Txt.x_Oversized_Malformed (by assumption) | exact K11.Txt.x_Oversized_Oversized (by assumption))
local macro_rules | `(tactic| walk_at "hk") => `(tactic| first | fail)

section
variable {P : Program} {w : World} {K : Frag} {mg : Str → Option Value} {base : Heap} {a : Ads}
theorem ok__law_is_token (T : Txt P w K mg a) : Cal P w K mg base 1 "_law_is_token" spIsTok := by
  refine T.d__law_is_token.ok sc__law_is_token (fun vs H Q E h => ?_) (fun f cdv A outer s H vs Q E hr h => ⟨_, (pss_cons (ps_if (PW.pt (pw_or (pt_not (kt (pe_callB c_isi (by rfl) T.n_isinstance (by decide +kernel) (pa_cons (kv 0) (pa_cons (pe_bltn (v := .ty "tuple") (by rfl) T.n_tuple (by decide +kernel) rfl) pa_nil))))) (pw_or1 (pt_cmpR (o_ne hr.units) (pe_callB c_len (by rfl) T.n_len (by decide +kernel) (pa_cons (kv 0) pa_nil)) pe_int (nomark _)))))
      (pss_one (ps_ret pe_bl))
      pss_nil)
      (pss_cons (ps_if (PW.pt (pw_or (pt_not (kt (pe_callB c_isi (by rfl) T.n_isinstance (by decide +kernel) (pa_cons (pe_ix o_ix (kv 0) pe_int (fun _ _ => rfl)) (pa_cons (pe_bltn (v := .ty "int") (by rfl) T.n_int (by decide +kernel) rfl) pa_nil))))) (pw_or (kt (pe_callB c_isi (by rfl) T.n_isinstance (by decide +kernel) (pa_cons (pe_ix o_ix (kv 0) pe_int (fun _ _ => rfl)) (pa_cons (pe_bltn (v := .ty "bool") (by rfl) T.n_bool (by decide +kernel) rfl) pa_nil)))) (pw_or1 (pt_not (kt (pe_callB c_isi (by rfl) T.n_isinstance (by decide +kernel) (pa_cons (pe_ix o_ix (kv 0) pe_int (fun _ _ => rfl)) (pa_cons (pe_bltn (v := .ty "str") (by rfl) T.n_str (by decide +kernel) rfl) pa_nil)))))))))
      (pss_one (ps_ret pe_bl))
      pss_nil)
      (pss_cons (ps_if (pt_cmpR (o_eq hr.units) (pe_ix o_ix (kv 0) pe_int (fun _ _ => rfl)) pe_str (nomark _))
      (pss_one (ps_ret (pe_and (pe_callB c_isi (by rfl) T.n_isinstance (by decide +kernel) (pa_cons (pe_ix o_ix (kv 0) pe_int (fun _ _ => rfl)) (pa_cons (pe_bltn (v := .ty "int") (by rfl) T.n_int (by decide +kernel) rfl) pa_nil))) (pe_and (pe_not (pe_callB c_isi (by rfl) T.n_isinstance (by decide +kernel) (pa_cons (pe_ix o_ix (kv 0) pe_int (fun _ _ => rfl)) (pa_cons (pe_bltn (v := .ty "bool") (by rfl) T.n_bool (by decide +kernel) rfl) pa_nil)))) (pe_one (pe_chain o_le o_lt pe_int (pe_ix o_ix (kv 0) pe_int (fun _ _ => rfl)) (pe_op o_pow pe_int pe_int)))))))
      pss_nil)
      (pss_one (ps_ret (pe_and (pe_callB c_isi (by rfl) T.n_isinstance (by decide +kernel) (pa_cons (pe_ix o_ix (kv 0) pe_int (fun _ _ => rfl)) (pa_cons (pe_bltn (v := .ty "str") (by rfl) T.n_str (by decide +kernel) rfl) pa_nil))) (pe_one (pe_or (pe_cmpR (o_eq hr.units) (pe_ix o_ix (kv 0) pe_int (fun _ _ => rfl)) pe_str (nomark _)) (pe_one (pe_cmpR (o_ne hr.units) (pe_ix o_ix (kv 0) pe_int (fun _ _ => rfl)) pe_str (nomark _))))))))))), ?_⟩)
  · obtain ⟨p, i, k, v, rfl, _⟩ := h; rfl
  · obtain ⟨p, i, k, v, rfl, ht, hf, h⟩ := h
    unfold TkAt at ht
    have kk7 : ∀ k : TK, (k.s = str_7) = (k = .keyword) := ks_keyword
    cases v with
    | txt t =>
      simp only [vt] at ht
      have hne : k = .symbol ∨ (decide (t = []) = false) := by
        cases k <;> first
          | exact .inl rfl
          | exact hf.elim
          | exact .inr (decide_eq_false hf.1)
      have kn : k ≠ .number := fun z => by subst z; exact hf
      walk_at "kk"
      rw [if_neg (by simp)]
      walk_at "kk"
      simp only [ks_symbol, ks_number, kn, if_false]
      walk_at "kk"
      by_cases c : k = .symbol
      · rw [if_pos (by rw [ks_symbol]; exact c)]; exact h
      · rw [if_neg (by rw [ks_symbol]; exact c)]
        rcases hne with z | z
        · exact (c z).elim
        · walk_at "kk"
          rw [z]; exact h
    | num n =>
      simp only [vn] at ht
      have kn : k = .number := by
        cases k <;> first
          | rfl
          | exact hf.elim
      subst kn
      walk_at "kk"
      rw [if_neg (by simp)]
      walk_at "kk"
      simp only [ks_number, if_true]
      walk_at "kk"
      have h1 : n < 1000000000 := Nat.lt_of_lt_of_le (show n < 10 ^ 9 from hf) (by decide)
      rw [decide_eq_true (show ((n : Nat) : Int) < 1000000000 by omega)]
      exact h
theorem ok__law_tiles (T : Txt P w K mg a) : Cal P w K mg base 6 "_law_tiles" spTiles := by
  have C__law_is_token := ok__law_is_token (P := P) (w := w) (base := base) T
  have C__law_skip := ok__law_skip (P := P) (w := w) (base := base) T
  have C__law_token_end := ok__law_token_end (P := P) (w := w) (base := base) T
  refine T.d__law_tiles.ok sc__law_tiles (fun vs H Q E h => ?_) (fun f cdv A outer s H vs Q E hr h => ⟨_, (pss_cons (ps_if (pt_not (kt (pe_callB c_isi (by rfl) T.n_isinstance (by decide +kernel) (pa_cons (kv 1) (pa_cons (pe_bltn (v := .ty "list") (by rfl) T.n_list (by decide +kernel) rfl) pa_nil)))))
      (pss_one (ps_ret pe_bl))
      pss_nil)
      (pss_cons (ps_set (i := 3) sc__law_tiles.nd rfl (Or.inl rfl) pe_int)
      (pss_cons (k_for (passes_of rfl) rfl (pi_list (kv 1)) (pg_name (i := 4) sc__law_tiles.nd rfl (Or.inl rfl))
      (pss_cons (ps_if (pt_not (kt (kc C__law_is_token (hr.mono (by decide)) (pa_cons (kv 4) pa_nil))))
      (pss_one (ps_ret pe_bl))
      pss_nil)
      (pss_cons (ps_set (i := 3) sc__law_tiles.nd rfl (Or.inl rfl) (kc C__law_skip (hr.mono (by decide)) (pa_cons (kv 0) (pa_cons (kv 3) pa_nil))))
      (pss_cons (ps_if (PW.pt (pw_or (pt_cmpR (o_ne hr.units) (pe_ix o_ix (kv 4) pe_int (fun _ _ => rfl)) (kv 3) (nomark _)) (pw_or1 (pt_cmpR o_ge (kv 3) (kv 2) (nomark _)))))
      (pss_one (ps_ret pe_bl))
      pss_nil)
      (pss_cons (ps_set (i := 5) sc__law_tiles.nd rfl (Or.inl rfl) (kc C__law_token_end (hr.mono (by decide)) (pa_cons (kv 0) (pa_cons (kv 3) (pa_cons (pe_ix o_ix (kv 4) pe_int (fun _ _ => rfl)) (pa_cons (pe_ix o_ix (kv 4) pe_int (fun _ _ => rfl)) pa_nil))))))
      (pss_cons (ps_if (pt_cmpR o_le (kv 5) (kv 3) (nomark _))
      (pss_one (ps_ret pe_bl))
      pss_nil)
      (pss_one (ps_set (i := 3) sc__law_tiles.nd rfl (Or.inl rfl) (kv 5)))))))))
      (pss_one (ps_ret (pe_cmpR (o_eq hr.units) (kc C__law_skip (hr.mono (by decide)) (pa_cons (kv 0) (pa_cons (kv 3) pa_nil))) (kv 2) (nomark _))))))), ?_⟩)
  · obtain ⟨l, ts, tl, as, stop, rfl, _⟩ := h; rfl
  · obtain ⟨l, ts, tl, as, stop, rfl, hl, hk, ht, h⟩ := h
    have li := hk.li
    walk_at "kk"
    obtain ⟨Pv, hPv⟩ : ∃ Pv : Nat → L2.St → Hp → Prop, Pv = fun i σ H' => ∃ (at_ : Nat) (v4 v5 : Option V), σ = [some (.str (S l)), some (.ref tl), some (.int stop), some (.int at_), v4, v5] ∧ KW.Fr [] H H' ∧ Tl l stop at_ (ts.drop i) := ⟨_, rfl⟩
    have len : (as.map V.ref).length = ts.length := by rw [List.length_map]; exact hk.len
    refine for_lst (xs := as.map V.ref) Pv (by rw [hPv]; exact ⟨0, _, _, rfl, Fr.refl _, ht⟩) ?_ ?_ ?_
    · intro i σ H' hi p
      rw [hPv] at p
      obtain ⟨_, _, _, _, f1, _⟩ := p
      exact .of (f1 _ _ (by simp) li)
    · intro i x σ H1 hx p
      rw [hPv] at p
      obtain ⟨at_, v4, v5, rfl, f1, tt⟩ := p
      rw [List.getElem?_map] at hx
      obtain ⟨q, hq, rfl⟩ := Option.map_eq_some_iff.mp hx
      have iq := (List.getElem?_eq_some_iff.mp hq).1
      obtain ⟨t, hti⟩ : ∃ t, ts[i]? = some t := ⟨_, List.getElem?_eq_getElem (by rw [← hk.len]; exact iq)⟩
      have tk := (hk.fr0 f1).tk i t q hti hq
      rw [drop_cons hti] at tt
      obtain ⟨t1, t2, t3, t4, t5, t6⟩ := tt
      have tk' := tk
      unfold TkAt at tk'
      walk_at "kk"
      refine ⟨q, t.i, t.k, t.v, rfl, tk, t5, ?_⟩
      walk_at "kk"
      refine ⟨l, at_, rfl, by omega, ?_⟩
      rw [← t1]
      walk_at "kk"
      rw [if_neg (by omega)]
      walk_at "kk"
      refine ⟨l, t.i, t.k, t.v, rfl, hl, t3, t5, fun H2 f2 => ?_⟩
      walk_at "kk"
      rw [if_neg (by omega)]
      rw [hPv]
      exact ⟨_, _, _, rfl, f1.trans f2, t6⟩
    · intro σ H1 p
      rw [hPv] at p
      obtain ⟨at_, v4, v5, rfl, f1, tt⟩ := p
      rw [len, List.drop_length] at tt
      walk_at "kk"
      refine ⟨l, at_, rfl, by omega, ?_⟩
      walk_at "kk"
      have e : lSkip l at_ = stop := tt
      rw [e]
      simpa using h _ f1
end
end K11

set_option Elab.async false
set_option linter.all false
set_option maxRecDepth 100000
set_option maxHeartbeats 4000000
namespace K11
open PySem PySem.Spec PyProof.Rows L2 KW LX
local macro_rules | `(tactic| walk_at "kw") => `(tactic| simp only [tSeq, tNext, tIfS, tTest, tAnd, tOr, tNot, tAndV, tOrV, tNotV, tIf, tChain, tOp, tUn, tC, tAsg, gName, gSub, gCons, gNil, tRet, tRetN, tDrop, tCons, tNil, tCB, tAug, tSl, tPart, tNoPart, tLst, tTup, tBM, tBM0, uTest, uFor, iRng1, iRng2, iList, uCall, List.map_cons, List.map_nil, List.length_cons, List.length_nil, List.cons_append, List.nil_append, List.replicate, Nat.zero_add, Nat.reduceAdd, Nat.reduceSub, List.getElem?_cons_zero, List.getElem?_cons_succ, List.set_cons_zero, List.set_cons_succ, V.bl.injEq, V.int.injEq, V.str.injEq, V.ref.injEq, V.ty.injEq, List.cons.injEq, and_true, true_and, exists_eq_left', exists_eq_right, exists_eq_left, exists_and_left, exists_and_right, decide_eq_true_eq, Bool.not_eq_true', decide_eq_false_iff_not, Bool.false_eq_true, if_true, if_false, ite_true, ite_false, Bool.not_true, Bool.not_false, reduceCtorEq, decide_true, decide_false, Bool.not_not, isK_int_int, isK_int_bool, isK_int_str, isK_int_list, isK_int_tuple, isK_bool_int, isK_bool_bool, isK_bool_str, isK_str_str, isK_str_int, isK_str_bool, isK_str_tuple, isK_str_list, isK_list_list, isK_list_tuple, isK_tuple_tuple, isK_tuple_list, isOk_int_int, isOk_int_bool, isOk_int_str, isOk_int_list, isOk_int_tuple, isOk_bool_int, isOk_bool_bool, isOk_bool_str, isOk_str_str, isOk_str_int, isOk_str_bool, isOk_str_tuple, isOk_str_list, isOk_list_list, isOk_list_tuple, isOk_tuple_tuple, isOk_tuple_list, isK_dict_dict, isOk_dict_dict, isK_none_int, isK_none_bool, isOk_none_int, isOk_none_bool, tyV, S_inj, S_cat, L2.start, Nat.reduceSub, List.replicate_succ, List.replicate_zero, and_assoc, List.append_nil, Nat.reduceEqDiff, Option.some.injEq, Int.natCast_inj, upd_upd, Int.reducePow, Int.reduceToNat, Int.reduceMul, Int.reduceAdd, Int.reduceSub, Int.reduceLT, Int.reduceLE, Int.reduceNeg, Int.reduceDiv, Int.reduceMod, Nat.reducePow, Nat.reduceMul, S_len, List.length_append, List.length_map, List.length_range, not_true_eq_false, not_false_eq_true, ne_eq, uAdd_e1, uAdd_e2, uSub_e1, uMod_e1, uDiv_e1, uPow_e1, uShl_e1, uNeg_e1, uIAdd_e1, uIAdd_e2, uIAdd_e3, uISub_e1, uLt_e1, uLt_e2, uLe_e1, uGt_e1, uGe_e1, uEq_e1, uEq_e2, uEq_e3, uEq_e4, uEq_e5, uEq_e6, uEq_e7, uEq_e8, uEq_e9, uEq_e10, uEq_e11, uNe_e1, uNe_e2, uNe_e3, uNe_e4, uNe_e5, uNe_e6, uNe_e7, uNe_e8, uNe_e9, uNe_e10, uNe_e11, uIs_e1, uIs_e2, uIs_e3, uIs_e4, uIs_e5, uIs_e6, uIs_e7, uNotIs_e1, uNotIs_e2, uNotIs_e3, uNotIs_e4, uNotIs_e5, uNotIs_e6, uIn_e1, uIn_e2, uIn_e3, uIn_e4, uNotIn_e1, uNotIn_e2, uNotIn_e3, uNotIn_e4, uTru_e1, uTru_e2, uTru_e3, uTru_e4, uIx_e2, uSl_e2, uLen_e1, uAbs_e1, uInt_e1, uInt_e2, uMin2_e1, uIsi_e1, uIsi_e2, uIsi_e3, uIsi_e4, cx_K, uVar_0, uVar_n, uFld, uSFld, uMet, uMake, tDG, tDI, tDNI, tDP, tDD, uMk, uRaise, uDelSl, tCallS, L2.WE, uStr_e1, uStr_e2, uMul2_e1, uMul2_e2, okS_i, okS_s, List.zip_cons_cons, List.zip_nil_left, List.drop_zero, List.drop_succ_cons, List.drop_nil, putF_nil, putF_cons, eq_self, tDNewK, tB, Option.isSome_some, Option.isSome_none, false_and, false_or, or_false, exists_false, Int.zero_add, uLc, wipe, tYes, isEmpty_app, List.isEmpty_cons, List.isEmpty_nil, List.isEmpty_map, Bool.and_false, Bool.and_true, iRev, K11.lit_0, K11.lit_1, K11.lit_2, K11.lit_3, K11.lit_4, K11.lit_5, K11.lit_6, K11.lit_7, K11.lit_8, K11.lit_9, K11.lit_10, K11.lit_11, K11.lit_12, K11.lit_13, K11.lit_14, K11.lit_15, K11.lit_16, K11.lit_17, K11.lit_18, K11.lit_19, K11.lit_20, K11.lit_21, K11.lit_22, K11.lit_23, K11.lit_24, K11.lit_25, K11.lit_26, K11.lit_27, K11.lit_28, K11.lit_29, K11.lit_30, K11.lit_31, K11.lit_32, K11.lit_33, K11.lit_34, uIntL_e1, uIntL_e2, CwR.tReplC, K11.N_char_at, K11.N_is_in, K11.N_end_of, K11.N_is_name, K11.N_name_end, K11.N_is_keyword_end, K11.N_read_name, K11.N_read_number, K11.N_read_hash, K11.N_read_quoted, K11.N_read_sign, K11.N_read_token, K11.N_skipped, K11.N_tokens_of, K11.N__law_start, K11.N__law_pick, K11.N__law_letters, K11.N__law_source, K11.N__law_run, K11.N__law_word_end, K11.N__law_is_letter, K11.N__law_name_end, K11.N__law_colon, K11.N__law_skip, K11.N__law_symbol_end, K11.N__law_token_end, K11.N__law_is_token, K11.N__law_tiles, K11.N__law_misfit, K11.N_law])
local macro_rules | `(tactic| walk_at "nn") => `(tactic| first | assumption | exact ne_un (by assumption) | exact ne_un (ne_un (by assumption)) | exact ne_un (ne_un (ne_un (by assumption))) | exact ne_un (ne_un (ne_un (ne_un (by assumption)))))
local macro_rules | `(tactic| walk_at "ne") => `(tactic| first | assumption | (apply Ne.symm; assumption) | exact ne_ud (by assumption) | exact Ne.symm (ne_ud (by assumption)) | exact ne_ud (ne_un (by assumption)) | exact Ne.symm (ne_ud (ne_un (by assumption))) | exact ne_ud (ne_un (ne_un (by assumption))) | exact Ne.symm (ne_ud (ne_un (ne_un (by assumption)))) | exact ne_m (by assumption) (by assumption) | exact Ne.symm (ne_m (by assumption) (by assumption)) | exact ne_n (by assumption) (by walk_at "nn") | exact Ne.symm (ne_n (by assumption) (by walk_at "nn")))
local macro_rules | `(tactic| walk_at "hp") => `(tactic| first | assumption | exact upd_same | (refine Eq.trans (upd_ne ?_) ?_; (focus walk_at "ne"); walk_at "hp"))
local macro_rules | `(tactic| walk_at "sc") => `(tactic| first | (with_reducible assumption) | omega | exact le_line (by (try simp only [List.length_map, List.length_append, List.length_cons, List.length_nil, S_len]); omega) | exact div_s (by omega) | exact mul_r (by omega) | exact mul_l (by omega) | exact pow_s (by omega) | exact mul2_r (by omega) | exact mul2_l (by omega) | exact small4300 (by omega) | exact lt_line (by (try simp only [List.length_map, List.length_append, List.length_cons, List.length_nil, S_len]); omega) | exact ⟨_, by assumption⟩ | (guard_target =~ Exists _; exact ⟨_, .of (by walk_at "hp")⟩) | (guard_target =~ _ ∨ _; exact .inl ⟨_, by assumption⟩) | (guard_target =~ _ ∨ _; exact .inl ⟨_, .of (by walk_at "hp")⟩) | (guard_target =~ _ ∨ _; exact .inr (.inr (.inl ⟨rfl, .inl ⟨_, by walk_at "hp"⟩⟩))) | decide)
local macro_rules | `(tactic| walk_at "kr") => `(tactic| first | (guard_target =~ _ ∧ _; first | refine And.intro (by walk_at "sc") ?_) | (guard_target =~ KW.uIx _ _ _ _ _; first | refine ix_l (by walk_at "hp") (by first | walk_at "hv" | rfl) ?_ | refine ix_t (by walk_at "hp") (by first | walk_at "hv" | rfl) ?_ | refine ix_sl (by assumption) (by walk_at "hv") ?_) | (guard_target =~ KW.uLen _ _ _ _; first | refine len_l (by walk_at "hp") ?_ | refine len_t (by walk_at "hp") ?_ | refine len_sl (by assumption) ?_) | (guard_target =~ KW.uSet _ _ _ _ _; first | refine set_l (by walk_at "hp") (by first | walk_at "hv" | rfl) ?_) | (guard_target =~ L2.gTup _ _ _ _ _ _ _; first | refine tup_l (by walk_at "hp") (by rfl) ?_) | (guard_target =~ KW.uGet _ _ _ _ _; first | refine get_l (by walk_at "hp") (by walk_at "hc") (by decide) (by rfl) ?_) | (guard_target =~ KW.uPut _ _ _ _ _ _; first | refine put_l (by walk_at "hp") (by walk_at "hc") (by decide) (by simp) ?_) | (guard_target =~ KW.uMet.uMt _ _ _ _ _ _ _ _ _; first | refine met_l (by walk_at "hp") (by rfl) ?_) | (guard_target =~ KW.uMet.uMt _ _ _ _ _ _ _ _ _; first | refine ST.met_s (by assumption) (by decide) ?_) | (guard_target =~ ST.spExists _ _ _ _ _; first | refine ST.exists_s (by assumption) ?_) | (guard_target =~ ST.spUsed _ _ _ _ _; first | refine ST.used_s (by assumption) ?_) | (guard_target =~ KW.uGet _ _ _ _ _; first | refine ST.words_s (by assumption) (by walk_at "hc") (by decide) ?_) | (guard_target =~ KW.uDIn _ _ _ _; first | refine din_i (by walk_at "hp") ?_ | refine din_s (by walk_at "hp") ?_) | (guard_target =~ KW.uDGet _ _ _ _; first | refine dget_i (by walk_at "hp") (by walk_at "hv") ?_ | refine dget_s (by walk_at "hp") (by walk_at "hv") ?_) | (guard_target =~ KW.uDPut _ _ _ _ _; first | refine dput_i (by walk_at "hp") (by walk_at "sc") ?_ | refine dput_s (by walk_at "hp") (by walk_at "sc") ?_) | (guard_target =~ KW.uDDel _ _ _ _; first | refine ddel_i (by walk_at "hp") (by walk_at "hv") ?_ | refine ddel_s (by walk_at "hp") (by walk_at "hv") ?_) | (guard_target =~ KW.uMul2 _ _ _ _; first | refine rep_l (by walk_at "hp") (by walk_at "sc") (by walk_at "sc") (by walk_at "sc") ?_) | (guard_target =~ L2.rAppend _ _ _ _; first | refine app_l (by walk_at "hp") (by walk_at "sc") ?_) | (guard_target =~ L2.rPop _ _ _ _; first | refine pop_l (by walk_at "hp") (by walk_at "hv") ?_ | refine pops_l (by walk_at "hp") ?_) | (guard_target =~ L2.rClear _ _ _ _; first | refine clr_l (by walk_at "hp") ?_) | (guard_target =~ L2.rReverse _ _ _ _; first | refine rev_l (by walk_at "hp") ?_) | (guard_target =~ L2.rExtend _ _ _ _; first | refine ext_l (by walk_at "hp") (by walk_at "hp") (by walk_at "sc") ?_) | (guard_target =~ KW.uAdd _ _ _ _ _; first | refine ucat_l (by walk_at "hp") (by walk_at "hp") (by walk_at "sc") ?_) | (guard_target =~ KW.uSl _ _ _ _ _ _; first | refine usl_l (by walk_at "hp") ?_) | (guard_target =~ KW.uTru _ _ _ _; first | refine tru_l (by walk_at "hp") ?_ | refine tru_t (by walk_at "hp") ?_ | refine tru_d (by walk_at "hp") ?_ | refine tru_sl (by assumption) ?_) | (guard_target =~ L2.rIndex _ _ _ _ _; first | refine idx_s (by walk_at "hp") (by assumption) ?_ | refine idx_i (by walk_at "hp") (by assumption) ?_) | (guard_target =~ L2.rIn _ _ _ _ _ _; first | refine in_s (by walk_at "hp") ?_ | refine nin_s (by walk_at "hp") ?_ | refine in_i (by walk_at "hp") ?_ | refine nin_i (by walk_at "hp") ?_) | (guard_target =~ KW.uIsi _ _ _ _; first | refine isi_l (by walk_at "hp") (by decide +kernel) ?_ | refine isi_t (by walk_at "hp") (by decide +kernel) ?_ | refine isi_d (by walk_at "hp") (by decide +kernel) ?_) | (guard_target =~ KW.uList _ _ _ _; first | refine list_l (by walk_at "hp") ?_ | refine list_t (by walk_at "hp") ?_ | refine list_sl (by assumption) ?_) | (guard_target =~ KW.uDict _ _ _; first | refine dict_d (by walk_at "hp") ?_) | (guard_target =~ KW.uSorted _ _ _ _; first | refine srt_l (by walk_at "hp") ?_) | (guard_target =~ KW.uSum _ _ _ _; first | refine sum_l (by walk_at "hp") ?_) | (guard_target =~ KW.uDelC _ _ _ _; first | refine dels_l (by walk_at "hp") (by walk_at "sc") ?_) | (guard_target =~ L2.wAs _ _ _ _ _ _ _ _ _ _; first | refine as_yes (by walk_at "hx") ?_ | refine as_no (by walk_at "hx") ?_) | (guard_target =~ KW.uEf _ _ _ _ _ _ _ _ _; first | refine ef_l (by walk_at "he") (by decide) (by rfl) (by walk_at "hp") (by rfl) ?_) | (guard_target =~ KW.uIsE _ _ _ _ _ _ _; first | refine isE_r (by walk_at "he") (by walk_at "hp") (by walk_at "hk") ?_ | refine isE_t (by walk_at "he") (by walk_at "hp") (by walk_at "hk") ?_))
local macro_rules | `(tactic| walk_at "hv") => `(tactic| first | assumption)
local macro_rules | `(tactic| walk_at "kk") => `(tactic| repeat (first | walk_at "kw" | walk_at "kr"))
local macro_rules | `(tactic| walk_at "hc") => `(tactic| first | fail)
local macro_rules | `(tactic| walk_at "he") => `(tactic| first | exact K11.Txt.e_Malformed (by assumption) | exact K11.Txt.e_Oversized (by assumption))
local macro_rules | `(tactic| walk_at "hx") => `(tactic| first | exact K11.Txt.x_Malformed_KilnwardenError (by assumption) | exact K11.Txt.x_Malformed_Malformed (by assumption) | exact K11.Txt.x_Malformed_Oversized (by assumption) | exact K11.Txt.x_Oversized_KilnwardenError (by assumption) | exact K11.Txt.x_Oversized_Malformed (by assumption) | exact K11.Txt.x_Oversized_Oversized (by assumption))
local macro_rules | `(tactic| walk_at "hk") => `(tactic| first | fail)

section
variable {P : Program} {w : World} {K : Frag} {mg : Str → Option Value} {base : Heap} {a : Ads}
theorem ok__law_misfit (T : Txt P w K mg a) : Cal P w K mg base 4 "_law_misfit" spMisfit := by
  have C__law_letters := ok__law_letters (P := P) (w := w) (base := base) T
  have C__law_word_end := ok__law_word_end (P := P) (w := w) (base := base) T
  have C__law_run := ok__law_run (P := P) (w := w) (base := base) T
  have C__law_is_letter := ok__law_is_letter (P := P) (w := w) (base := base) T
  have C__law_name_end := ok__law_name_end (P := P) (w := w) (base := base) T
  refine T.d__law_misfit.ok sc__law_misfit (fun vs H Q E h => ?_) (fun f cdv A outer s H vs Q E hr h => ⟨_, (pss_cons (ps_if (pt_cmpR o_ge (kv 1) (pe_callB c_len (by rfl) T.n_len (by decide +kernel) (pa_cons (kv 0) pa_nil)) (nomark _))
      (pss_one (ps_ret pe_bl))
      pss_nil)
      (pss_cons (ps_set (i := 2) sc__law_misfit.nd rfl (Or.inl rfl) (pe_ix o_ix (kv 0) (kv 1) (fun _ _ => rfl)))
      (pss_cons (ps_if (pt_cmpR o_in (kv 2) (kc0 C__law_letters (hr.mono (by decide))) (by rfl))
      (pss_one (ps_ret (pe_cmpR o_gt (pe_op o_sub (kc C__law_word_end (hr.mono (by decide)) (pa_cons (kv 0) (pa_cons (kv 1) pa_nil))) (kv 1)) pe_int (nomark _))))
      pss_nil)
      (pss_cons (ps_if (pt_cmpR o_in (kv 2) pe_str (by rfl))
      (pss_cons (ps_set (i := 3) sc__law_misfit.nd rfl (Or.inl rfl) (kc C__law_run (hr.mono (by decide)) (pa_cons (kv 0) (pa_cons (kv 1) (pa_cons pe_str pa_nil)))))
      (pss_one (ps_ret (pe_or (pe_cmpR o_gt (pe_op o_sub (kv 3) (kv 1)) pe_int (nomark _)) (pe_or (kc C__law_is_letter (hr.mono (by decide)) (pa_cons (kv 0) (pa_cons (kv 3) pa_nil))) (pe_one (pe_and (pe_cmpR (o_eq hr.units) (kv 2) pe_str (nomark _)) (pe_one (pe_cmpR o_gt (pe_op o_sub (kv 3) (kv 1)) pe_int (nomark _))))))))))
      pss_nil)
      (pss_cons (ps_if (pt_cmpR (o_eq hr.units) (kv 2) pe_str (nomark _))
      (pss_one (ps_ret (pe_cmpR (o_eq hr.units) (kc C__law_name_end (hr.mono (by decide)) (pa_cons (kv 0) (pa_cons (pe_op o_add (kv 1) pe_int) pa_nil))) (pe_op o_add (kv 1) pe_int) (nomark _))))
      pss_nil)
      (pss_cons (ps_if (pt_cmpR (o_eq hr.units) (kv 2) pe_str (nomark _))
      (pss_one (ps_ret (pe_cmpR o_lt (pe_bm PySem.F.plainAttrs_str PySem.F.slot_str_find PySem.F.type_str_find mt_find3 (kv 0) (pa_cons pe_str (pa_cons (pe_op o_add (kv 1) pe_int) pa_nil))) pe_int (nomark _))))
      pss_nil)
      (pss_cons (k_ifC (o_eq hr.units) (kv 2) (nomark _)
      (L2.psst_cons (k_setT (i := 4) sc__law_misfit.nd rfl (Or.inl rfl) (CwR.pet_replC (pe_slice o_sl (kv 0) (po_some (pe_op o_add (kv 1) pe_int)) po_none)))
      (L2.psst_cons (L2.PST.of (ps_ret (pe_cmpR o_notin pe_str (kv 4) (by rfl))))
      CwR.psst_nil))
      pss_nil)
      (pss_one (ps_ret (pe_cmpR o_notin (kv 2) pe_str (by rfl))))))))))), ?_⟩)
  · obtain ⟨l, i, rfl, _⟩ := h; rfl
  · obtain ⟨l, i, rfl, hl, hi, h⟩ := h
    obtain ⟨c, hc⟩ : ∃ c, l[i]? = some c := ⟨_, List.getElem?_eq_getElem hi⟩
    have hat : atI l (i : Int) = some c := atI_nat hc
    walk_at "kk"
    rw [if_neg (by omega)]
    refine ⟨le_line (by omega), c, hat, ?_⟩
    have h0 : lMis l i = if c ∈ LET then decide (32 < endOf l i LD - i)
      else if c ∈ DIG then decide (9 < endOf l i DIG - i) || isLet l (endOf l i DIG) || (decide (c = 48) && decide (1 < endOf l i DIG - i))
      else if c = 35 then decide (lName l (i + 1) = i + 1)
      else if c = 34 then decide (findFrom l 34 (i + 1) = none)
      else if c = 39 then decide (39 ∉ undbl (l.drop (i + 1)))
      else decide (c ∉ SGMK) := by
      unfold lMis
      rw [hc]
    rw [h0] at h
    clear h0
    walk_at "kk"
    rw [subStr_one]
    by_cases c1 : c ∈ LET
    · rw [if_pos c1] at h
      rw [decide_eq_true c1, if_pos rfl]
      refine ⟨l, i, rfl, by omega, ?_⟩
      have ge := endOf_ge l LD i
      walk_at "kk"
      have e : decide ((32 : Int) < (endOf l i LD : Nat) - (i : Int)) = decide (32 < endOf l i LD - i) := decide_eq_decide.mpr (by omega)
      rw [e]; exact h
    rw [if_neg c1] at h
    rw [decide_eq_false c1, if_neg (by simp), show str_1 = DIG from rfl, subStr_one]
    by_cases c2 : c ∈ DIG
    · rw [if_pos c2] at h
      rw [decide_eq_true c2, if_pos rfl]
      refine ⟨l, DIG, i, rfl, by omega, ?_⟩
      have ge := endOf_ge l DIG i
      generalize endOf l i DIG = e at h ge ⊢
      walk_at "kk"
      have e9 : decide ((9 : Int) < (e : Int) - (i : Int)) = decide (9 < e - i) := decide_eq_decide.mpr (by omega)
      have e1 : decide ((1 : Int) < (e : Int) - (i : Int)) = decide (1 < e - i) := decide_eq_decide.mpr (by omega)
      try rw [e1]
      by_cases d1 : 9 < e - i
      · rw [decide_eq_true d1] at h
        rw [if_pos (by omega)]; simpa using h
      · rw [decide_eq_false d1] at h
        rw [if_neg (by omega)]
        refine ⟨l, e, rfl, by omega, ?_⟩
        walk_at "kk"
        by_cases d2 : isLet l e = true
        · rw [d2] at h
          rw [if_pos d2]; simpa using h
        · have d2' : isLet l e = false := by simpa using d2
          rw [d2'] at h
          rw [if_neg d2]
          by_cases d3 : c = 48
          · rw [decide_eq_true d3] at h
            rw [if_pos d3]
            try rw [e1]
            simpa using h
          · rw [decide_eq_false d3] at h
            rw [if_neg d3]; simpa using h
    rw [if_neg c2] at h
    rw [decide_eq_false c2, if_neg (by simp)]
    by_cases c3 : c = 35
    · rw [if_pos c3] at h
      rw [if_pos c3]
      refine ⟨l, i + 1, rfl, by omega, ?_⟩
      walk_at "kk"
      have e : decide ((lName l (i + 1) : Int) = (i : Int) + 1) = decide (lName l (i + 1) = i + 1) := decide_eq_decide.mpr (by omega)
      rw [e]; exact h
    rw [if_neg c3] at h
    rw [if_neg c3]
    by_cases c4 : c = 34
    · rw [if_pos c4] at h
      rw [if_pos c4]
      rw [show ((i : Int) + 1) = ((i + 1 : Nat) : Int) from rfl, find3_S]
      cases e : findFrom l 34 (i + 1) with
      | none => rw [e] at h; simpa using h
      | some x =>
        rw [e] at h
        dsimp only
        rw [decide_eq_false (Int.not_lt.mpr (Int.natCast_nonneg x))]
        simpa using h
    rw [if_neg c4] at h
    rw [if_neg c4]
    by_cases c5 : c = 39
    · rw [if_pos c5] at h
      rw [if_pos c5]
      rw [cut_drop l (i := i + 1) (x := (i : Int) + 1) rfl, replace_undbl, subStr_one]
      refine ⟨le_line (by omega), ?_, by simpa using h⟩
      rw [S_len, List.length_drop]; omega
    rw [if_neg c5] at h
    rw [if_neg c5, subStr_one]
    have e : decide (c ∈ str_34) = decide (c ∈ SGMK) := decide_eq_decide.mpr (by
      simp only [str_34, SGMK, SGN, MRK, List.mem_append, List.mem_cons, List.not_mem_nil, or_false]
      omega)
    rw [e]
    simpa using h
end
end K11

set_option Elab.async false
set_option linter.all false
set_option maxRecDepth 100000
set_option maxHeartbeats 4000000
namespace K11
open PySem PySem.Spec PyProof.Rows L2 KW LX
local macro_rules | `(tactic| walk_at "kw") => `(tactic| simp only [tSeq, tNext, tIfS, tTest, tAnd, tOr, tNot, tAndV, tOrV, tNotV, tIf, tChain, tOp, tUn, tC, tAsg, gName, gSub, gCons, gNil, tRet, tRetN, tDrop, tCons, tNil, tCB, tAug, tSl, tPart, tNoPart, tLst, tTup, tBM, tBM0, uTest, uFor, iRng1, iRng2, iList, uCall, List.map_cons, List.map_nil, List.length_cons, List.length_nil, List.cons_append, List.nil_append, List.replicate, Nat.zero_add, Nat.reduceAdd, Nat.reduceSub, List.getElem?_cons_zero, List.getElem?_cons_succ, List.set_cons_zero, List.set_cons_succ, V.bl.injEq, V.int.injEq, V.str.injEq, V.ref.injEq, V.ty.injEq, List.cons.injEq, and_true, true_and, exists_eq_left', exists_eq_right, exists_eq_left, exists_and_left, exists_and_right, decide_eq_true_eq, Bool.not_eq_true', decide_eq_false_iff_not, Bool.false_eq_true, if_true, if_false, ite_true, ite_false, Bool.not_true, Bool.not_false, reduceCtorEq, decide_true, decide_false, Bool.not_not, isK_int_int, isK_int_bool, isK_int_str, isK_int_list, isK_int_tuple, isK_bool_int, isK_bool_bool, isK_bool_str, isK_str_str, isK_str_int, isK_str_bool, isK_str_tuple, isK_str_list, isK_list_list, isK_list_tuple, isK_tuple_tuple, isK_tuple_list, isOk_int_int, isOk_int_bool, isOk_int_str, isOk_int_list, isOk_int_tuple, isOk_bool_int, isOk_bool_bool, isOk_bool_str, isOk_str_str, isOk_str_int, isOk_str_bool, isOk_str_tuple, isOk_str_list, isOk_list_list, isOk_list_tuple, isOk_tuple_tuple, isOk_tuple_list, isK_dict_dict, isOk_dict_dict, isK_none_int, isK_none_bool, isOk_none_int, isOk_none_bool, tyV, S_inj, S_cat, L2.start, Nat.reduceSub, List.replicate_succ, List.replicate_zero, and_assoc, List.append_nil, Nat.reduceEqDiff, Option.some.injEq, Int.natCast_inj, upd_upd, Int.reducePow, Int.reduceToNat, Int.reduceMul, Int.reduceAdd, Int.reduceSub, Int.reduceLT, Int.reduceLE, Int.reduceNeg, Int.reduceDiv, Int.reduceMod, Nat.reducePow, Nat.reduceMul, S_len, List.length_append, List.length_map, List.length_range, not_true_eq_false, not_false_eq_true, ne_eq, uAdd_e1, uAdd_e2, uSub_e1, uMod_e1, uDiv_e1, uPow_e1, uShl_e1, uNeg_e1, uIAdd_e1, uIAdd_e2, uIAdd_e3, uISub_e1, uLt_e1, uLt_e2, uLe_e1, uGt_e1, uGe_e1, uEq_e1, uEq_e2, uEq_e3, uEq_e4, uEq_e5, uEq_e6, uEq_e7, uEq_e8, uEq_e9, uEq_e10, uEq_e11, uNe_e1, uNe_e2, uNe_e3, uNe_e4, uNe_e5, uNe_e6, uNe_e7, uNe_e8, uNe_e9, uNe_e10, uNe_e11, uIs_e1, uIs_e2, uIs_e3, uIs_e4, uIs_e5, uIs_e6, uIs_e7, uNotIs_e1, uNotIs_e2, uNotIs_e3, uNotIs_e4, uNotIs_e5, uNotIs_e6, uIn_e1, uIn_e2, uIn_e3, uIn_e4, uNotIn_e1, uNotIn_e2, uNotIn_e3, uNotIn_e4, uTru_e1, uTru_e2, uTru_e3, uTru_e4, uIx_e2, uSl_e2, uLen_e1, uAbs_e1, uInt_e1, uInt_e2, uMin2_e1, uIsi_e1, uIsi_e2, uIsi_e3, uIsi_e4, cx_K, uVar_0, uVar_n, uFld, uSFld, uMet, uMake, tDG, tDI, tDNI, tDP, tDD, uMk, uRaise, uDelSl, tCallS, L2.WE, uStr_e1, uStr_e2, uMul2_e1, uMul2_e2, okS_i, okS_s, List.zip_cons_cons, List.zip_nil_left, List.drop_zero, List.drop_succ_cons, List.drop_nil, putF_nil, putF_cons, eq_self, tDNewK, tB, Option.isSome_some, Option.isSome_none, false_and, false_or, or_false, exists_false, Int.zero_add, uLc, wipe, tYes, isEmpty_app, List.isEmpty_cons, List.isEmpty_nil, List.isEmpty_map, Bool.and_false, Bool.and_true, iRev, K11.lit_0, K11.lit_1, K11.lit_2, K11.lit_3, K11.lit_4, K11.lit_5, K11.lit_6, K11.lit_7, K11.lit_8, K11.lit_9, K11.lit_10, K11.lit_11, K11.lit_12, K11.lit_13, K11.lit_14, K11.lit_15, K11.lit_16, K11.lit_17, K11.lit_18, K11.lit_19, K11.lit_20, K11.lit_21, K11.lit_22, K11.lit_23, K11.lit_24, K11.lit_25, K11.lit_26, K11.lit_27, K11.lit_28, K11.lit_29, K11.lit_30, K11.lit_31, K11.lit_32, K11.lit_33, K11.lit_34, uIntL_e1, uIntL_e2, CwR.tReplC, K11.N_char_at, K11.N_is_in, K11.N_end_of, K11.N_is_name, K11.N_name_end, K11.N_is_keyword_end, K11.N_read_name, K11.N_read_number, K11.N_read_hash, K11.N_read_quoted, K11.N_read_sign, K11.N_read_token, K11.N_skipped, K11.N_tokens_of, K11.N__law_start, K11.N__law_pick, K11.N__law_letters, K11.N__law_source, K11.N__law_run, K11.N__law_word_end, K11.N__law_is_letter, K11.N__law_name_end, K11.N__law_colon, K11.N__law_skip, K11.N__law_symbol_end, K11.N__law_token_end, K11.N__law_is_token, K11.N__law_tiles, K11.N__law_misfit, K11.N_law])
local macro_rules | `(tactic| walk_at "nn") => `(tactic| first | assumption | exact ne_un (by assumption) | exact ne_un (ne_un (by assumption)) | exact ne_un (ne_un (ne_un (by assumption))) | exact ne_un (ne_un (ne_un (ne_un (by assumption)))))
local macro_rules | `(tactic| walk_at "ne") => `(tactic| first | assumption | (apply Ne.symm; assumption) | exact ne_ud (by assumption) | exact Ne.symm (ne_ud (by assumption)) | exact ne_ud (ne_un (by assumption)) | exact Ne.symm (ne_ud (ne_un (by assumption))) | exact ne_ud (ne_un (ne_un (by assumption))) | exact Ne.symm (ne_ud (ne_un (ne_un (by assumption)))) | exact ne_m (by assumption) (by assumption) | exact Ne.symm (ne_m (by assumption) (by assumption)) | exact ne_n (by assumption) (by walk_at "nn") | exact Ne.symm (ne_n (by assumption) (by walk_at "nn")))
local macro_rules | `(tactic| walk_at "hp") => `(tactic| first | assumption | exact upd_same | (refine Eq.trans (upd_ne ?_) ?_; (focus walk_at "ne"); walk_at "hp"))
local macro_rules | `(tactic| walk_at "sc") => `(tactic| first | (with_reducible assumption) | omega | exact le_line (by (try simp only [List.length_map, List.length_append, List.length_cons, List.length_nil, S_len]); omega) | exact div_s (by omega) | exact mul_r (by omega) | exact mul_l (by omega) | exact pow_s (by omega) | exact mul2_r (by omega) | exact mul2_l (by omega) | exact small4300 (by omega) | exact lt_line (by (try simp only [List.length_map, List.length_append, List.length_cons, List.length_nil, S_len]); omega) | exact ⟨_, by assumption⟩ | (guard_target =~ Exists _; exact ⟨_, .of (by walk_at "hp")⟩) | (guard_target =~ _ ∨ _; exact .inl ⟨_, by assumption⟩) | (guard_target =~ _ ∨ _; exact .inl ⟨_, .of (by walk_at "hp")⟩) | (guard_target =~ _ ∨ _; exact .inr (.inr (.inl ⟨rfl, .inl ⟨_, by walk_at "hp"⟩⟩))) | decide)
local macro_rules | `(tactic| walk_at "kr") => `(tactic| first | (guard_target =~ _ ∧ _; first | refine And.intro (by walk_at "sc") ?_) | (guard_target =~ KW.uIx _ _ _ _ _; first | refine ix_l (by walk_at "hp") (by first | walk_at "hv" | rfl) ?_ | refine ix_t (by walk_at "hp") (by first | walk_at "hv" | rfl) ?_ | refine ix_sl (by assumption) (by walk_at "hv") ?_) | (guard_target =~ KW.uLen _ _ _ _; first | refine len_l (by walk_at "hp") ?_ | refine len_t (by walk_at "hp") ?_ | refine len_sl (by assumption) ?_) | (guard_target =~ KW.uSet _ _ _ _ _; first | refine set_l (by walk_at "hp") (by first | walk_at "hv" | rfl) ?_) | (guard_target =~ L2.gTup _ _ _ _ _ _ _; first | refine tup_l (by walk_at "hp") (by rfl) ?_) | (guard_target =~ KW.uGet _ _ _ _ _; first | refine get_l (by walk_at "hp") (by walk_at "hc") (by decide) (by rfl) ?_) | (guard_target =~ KW.uPut _ _ _ _ _ _; first | refine put_l (by walk_at "hp") (by walk_at "hc") (by decide) (by simp) ?_) | (guard_target =~ KW.uMet.uMt _ _ _ _ _ _ _ _ _; first | refine met_l (by walk_at "hp") (by rfl) ?_) | (guard_target =~ KW.uMet.uMt _ _ _ _ _ _ _ _ _; first | refine ST.met_s (by assumption) (by decide) ?_) | (guard_target =~ ST.spExists _ _ _ _ _; first | refine ST.exists_s (by assumption) ?_) | (guard_target =~ ST.spUsed _ _ _ _ _; first | refine ST.used_s (by assumption) ?_) | (guard_target =~ KW.uGet _ _ _ _ _; first | refine ST.words_s (by assumption) (by walk_at "hc") (by decide) ?_) | (guard_target =~ KW.uDIn _ _ _ _; first | refine din_i (by walk_at "hp") ?_ | refine din_s (by walk_at "hp") ?_) | (guard_target =~ KW.uDGet _ _ _ _; first | refine dget_i (by walk_at "hp") (by walk_at "hv") ?_ | refine dget_s (by walk_at "hp") (by walk_at "hv") ?_) | (guard_target =~ KW.uDPut _ _ _ _ _; first | refine dput_i (by walk_at "hp") (by walk_at "sc") ?_ | refine dput_s (by walk_at "hp") (by walk_at "sc") ?_) | (guard_target =~ KW.uDDel _ _ _ _; first | refine ddel_i (by walk_at "hp") (by walk_at "hv") ?_ | refine ddel_s (by walk_at "hp") (by walk_at "hv") ?_) | (guard_target =~ KW.uMul2 _ _ _ _; first | refine rep_l (by walk_at "hp") (by walk_at "sc") (by walk_at "sc") (by walk_at "sc") ?_) | (guard_target =~ L2.rAppend _ _ _ _; first | refine app_l (by walk_at "hp") (by walk_at "sc") ?_) | (guard_target =~ L2.rPop _ _ _ _; first | refine pop_l (by walk_at "hp") (by walk_at "hv") ?_ | refine pops_l (by walk_at "hp") ?_) | (guard_target =~ L2.rClear _ _ _ _; first | refine clr_l (by walk_at "hp") ?_) | (guard_target =~ L2.rReverse _ _ _ _; first | refine rev_l (by walk_at "hp") ?_) | (guard_target =~ L2.rExtend _ _ _ _; first | refine ext_l (by walk_at "hp") (by walk_at "hp") (by walk_at "sc") ?_) | (guard_target =~ KW.uAdd _ _ _ _ _; first | refine ucat_l (by walk_at "hp") (by walk_at "hp") (by walk_at "sc") ?_) | (guard_target =~ KW.uSl _ _ _ _ _ _; first | refine usl_l (by walk_at "hp") ?_) | (guard_target =~ KW.uTru _ _ _ _; first | refine tru_l (by walk_at "hp") ?_ | refine tru_t (by walk_at "hp") ?_ | refine tru_d (by walk_at "hp") ?_ | refine tru_sl (by assumption) ?_) | (guard_target =~ L2.rIndex _ _ _ _ _; first | refine idx_s (by walk_at "hp") (by assumption) ?_ | refine idx_i (by walk_at "hp") (by assumption) ?_) | (guard_target =~ L2.rIn _ _ _ _ _ _; first | refine in_s (by walk_at "hp") ?_ | refine nin_s (by walk_at "hp") ?_ | refine in_i (by walk_at "hp") ?_ | refine nin_i (by walk_at "hp") ?_) | (guard_target =~ KW.uIsi _ _ _ _; first | refine isi_l (by walk_at "hp") (by decide +kernel) ?_ | refine isi_t (by walk_at "hp") (by decide +kernel) ?_ | refine isi_d (by walk_at "hp") (by decide +kernel) ?_) | (guard_target =~ KW.uList _ _ _ _; first | refine list_l (by walk_at "hp") ?_ | refine list_t (by walk_at "hp") ?_ | refine list_sl (by assumption) ?_) | (guard_target =~ KW.uDict _ _ _; first | refine dict_d (by walk_at "hp") ?_) | (guard_target =~ KW.uSorted _ _ _ _; first | refine srt_l (by walk_at "hp") ?_) | (guard_target =~ KW.uSum _ _ _ _; first | refine sum_l (by walk_at "hp") ?_) | (guard_target =~ KW.uDelC _ _ _ _; first | refine dels_l (by walk_at "hp") (by walk_at "sc") ?_) | (guard_target =~ L2.wAs _ _ _ _ _ _ _ _ _ _; first | refine as_yes (by walk_at "hx") ?_ | refine as_no (by walk_at "hx") ?_) | (guard_target =~ KW.uEf _ _ _ _ _ _ _ _ _; first | refine ef_l (by walk_at "he") (by decide) (by rfl) (by walk_at "hp") (by rfl) ?_) | (guard_target =~ KW.uIsE _ _ _ _ _ _ _; first | refine isE_r (by walk_at "he") (by walk_at "hp") (by walk_at "hk") ?_ | refine isE_t (by walk_at "he") (by walk_at "hp") (by walk_at "hk") ?_))
local macro_rules | `(tactic| walk_at "hv") => `(tactic| first | assumption)
local macro_rules | `(tactic| walk_at "kk") => `(tactic| repeat (first | walk_at "kw" | walk_at "kr"))
local macro_rules | `(tactic| walk_at "hc") => `(tactic| first | fail)
local macro_rules | `(tactic| walk_at "he") => `(tactic| first | exact K11.Txt.e_Malformed (by assumption) | exact K11.Txt.e_Oversized (by assumption))
local macro_rules | `(tactic| walk_at "hx") => `(tactic| first | exact K11.Txt.x_Malformed_KilnwardenError (by assumption) | exact K11.Txt.x_Malformed_Malformed (by assumption) | exact K11.Txt.x_Malformed_Oversized (by assumption) | exact K11.Txt.x_Oversized_KilnwardenError (by assumption) | exact K11.Txt.x_Oversized_Malformed (by assumption) | exact K11.Txt.x_Oversized_Oversized (by assumption))
local macro_rules | `(tactic| walk_at "hk") => `(tactic| first | fail)

section
variable {P : Program} {w : World} {K : Frag} {mg : Str → Option Value} {base : Heap} {a : Ads}
theorem ok_read_name (T : Txt P w K mg a) : Cal P w K mg base 5 "read_name" (spRdName a.Malformed) := by
  have C_name_end := ok_name_end (P := P) (w := w) (base := base) T
  have C_is_keyword_end := ok_is_keyword_end (P := P) (w := w) (base := base) T
  refine T.d_read_name.ok sc_read_name (fun vs H Q E h => ?_) (fun f cdv A outer s H vs Q E hr h => ⟨_, (pss_cons (ps_set (i := 3) sc_read_name.nd rfl (Or.inl rfl) (kc C_name_end (hr.mono (by decide)) (pa_cons (kv 0) (pa_cons (kv 1) pa_nil))))
      (pss_cons (ps_if (pt_cmpR o_is (kv 3) pe_non (nomark _))
      (pss_one (k_raise (L2N.takes_of rfl rfl rfl rfl) (k_mk T.e_Malformed hr (pa_cons (kv 2) pa_nil))))
      pss_nil)
      (pss_cons (ps_if (kt (kc C_is_keyword_end (hr.mono (by decide)) (pa_cons (kv 0) (pa_cons (kv 3) pa_nil))))
      (pss_one (ps_ret (pe_tup (pa_cons (pe_tup (pa_cons (kv 1) (pa_cons pe_str (pa_cons (pe_slice o_sl (kv 0) (po_some (kv 1)) (po_some (pe_op o_add (kv 3) pe_int))) pa_nil)))) (pa_cons (pe_op o_add (kv 3) pe_int) pa_nil)))))
      pss_nil)
      (pss_one (ps_ret (pe_tup (pa_cons (pe_tup (pa_cons (kv 1) (pa_cons pe_str (pa_cons (pe_slice o_sl (kv 0) (po_some (kv 1)) (po_some (kv 3))) pa_nil)))) (pa_cons (kv 3) pa_nil)))))))), ?_⟩)
  · obtain ⟨l, i, st, rfl, _⟩ := h; rfl
  · obtain ⟨l, i, st, rfl, hl, ls, hb, h⟩ := h
    walk_at "kk"
    refine nameEnd_s hl ?_
    unfold rdName at h hb
    cases e : nameEnd l i with
    | none =>
      rw [e] at hb
      walk_at "kk"
      exact hb rfl
    | some s' =>
      rw [e] at h
      walk_at "kk"
      refine kwEnd_s hl ?_
      walk_at "kk"
      split
      · rename_i c
        rw [cut_sub1]
        refine ⟨le_line (by omega), by decide, fun p hp => ⟨by decide, fun q hq => ?_⟩⟩
        exact tok_mk (k := .keyword) (v := .txt _) (h _ _ _ (if_pos c)) hp hq rfl rfl
      · rename_i c
        rw [cut_sub l rfl rfl]
        refine ⟨le_line (by omega), by decide, fun p hp => ⟨by decide, fun q hq => ?_⟩⟩
        exact tok_mk (k := .name) (v := .txt _) (h _ _ _ (if_neg c)) hp hq rfl rfl
theorem ok_read_number (T : Txt P w K mg a) : Cal P w K mg base 4 "read_number" (spRdNum a.Malformed) := by
  have C_end_of := ok_end_of (P := P) (w := w) (base := base) T
  have C_char_at := ok_char_at (P := P) (w := w) (base := base) T
  have C_is_in := ok_is_in (P := P) (w := w) (base := base) T
  refine T.d_read_number.ok sc_read_number (fun vs H Q E h => ?_) (fun f cdv A outer s H vs Q E hr h => ⟨_, (pss_cons (ps_set (i := 2) sc_read_number.nd rfl (Or.inl rfl) (kc C_end_of (hr.mono (by decide)) (pa_cons (kv 0) (pa_cons (kv 1) (pa_cons (k_g T.g_DIGITS) pa_nil)))))
      (pss_cons (ps_set (i := 3) sc_read_number.nd rfl (Or.inl rfl) (pe_slice o_sl (kv 0) (po_some (kv 1)) (po_some (kv 2))))
      (pss_cons (ps_if (PW.pt (pw_or (kt (kc C_is_in (hr.mono (by decide)) (pa_cons (kc C_char_at (hr.mono (by decide)) (pa_cons (kv 0) (pa_cons (kv 2) pa_nil))) (pa_cons (k_g T.g_LETTERS) pa_nil)))) (pw_or1 (pt_cmpR o_gt (pe_callB c_len (by rfl) T.n_len (by decide +kernel) (pa_cons (kv 3) pa_nil)) (k_g T.g_MOST_DIGITS) (nomark _)))))
      (pss_one (k_raise (L2N.takes_of rfl rfl rfl rfl) (k_mk T.e_Malformed hr (pa_cons (kv 1) pa_nil))))
      pss_nil)
      (pss_cons (ps_if (PW.pt (pw_and (pt_cmpR (o_eq hr.units) (pe_ix o_ix (kv 3) pe_int (fun _ _ => rfl)) pe_str (nomark _)) (pw_and1 (pt_cmpR o_gt (pe_callB c_len (by rfl) T.n_len (by decide +kernel) (pa_cons (kv 3) pa_nil)) pe_int (nomark _)))))
      (pss_one (k_raise (L2N.takes_of rfl rfl rfl rfl) (k_mk T.e_Malformed hr (pa_cons (kv 1) pa_nil))))
      pss_nil)
      (pss_one (ps_ret (pe_tup (pa_cons (pe_tup (pa_cons (kv 1) (pa_cons pe_str (pa_cons (pe_callTy (c_intL T.dg) (by rfl) T.n_int (by decide +kernel) (pa_cons (kv 3) pa_nil)) pa_nil)))) (pa_cons (kv 2) pa_nil))))))))), ?_⟩)
  · obtain ⟨l, i, rfl, _⟩ := h; rfl
  · obtain ⟨l, i, rfl, hl, ls, ⟨c, hc, hd⟩, hb, h⟩ := h
    walk_at "kk"
    refine endOf_s hl ?_
    walk_at "kk"
    rw [show str_1 = DIG from rfl, show str_0 = LET from rfl]
    refine charAt_s hl ?_
    refine isIn_s (take1_len _) ?_
    rw [cut_sub l rfl rfl]
    walk_at "kk"
    have hd0 := sub_run_head hc hd
    have al : NumText.AllDigits (sub l i (endOf l i DIG)) := fun c m => by
      have := sub_run_mem m
      simp only [DIG, List.mem_cons, List.not_mem_nil, or_false] at this
      omega
    have ne : ¬ sub l i (endOf l i DIG) = [] := fun z => by rw [z] at hd0; cases hd0
    have sl : (sub l i (endOf l i DIG)).length ≤ 10000 := by rw [sub_len]; omega
    unfold rdNum at h hb
    split
    · rename_i c1
      rw [if_pos (.inl c1)] at hb
      first | exact hb rfl | exact ⟨nat4300 ls, hb rfl⟩
    · rename_i c1
      refine ⟨le_line (by omega), ?_⟩
      split
      · rename_i c2
        rw [if_pos (.inr (.inl (by omega)))] at hb
        first | exact hb rfl | exact ⟨nat4300 ls, hb rfl⟩
      · rename_i c2
        refine ⟨le_line (by omega), c, atI_nat (j := 0) hd0, ?_⟩
        have fin : ¬ ((sub l i (endOf l i DIG))[0]? = some 48 ∧ 1 < (sub l i (endOf l i DIG)).length) → ∀ p, H p = none → ∀ q, upd H p (.tup [.int i, .str (S TK.number.s), (TV.num (NumText.digitsVal (sub l i (endOf l i DIG)))).v]) q = none → Q (.ref q) (upd (upd H p (.tup [.int i, .str (S TK.number.s), (TV.num (NumText.digitsVal (sub l i (endOf l i DIG)))).v])) q (.tup [.ref p, .int (endOf l i DIG)])) := fun c3 p hp q hq => by
          rw [if_neg (by rintro (z | z | z); exact c1 z; exact c2 (by omega); exact c3 z)] at h
          exact tok_mk (h _ _ rfl) hp hq rfl rfl
        split
        · rename_i c3
          subst c3
          refine ⟨le_line (by omega), ?_⟩
          split
          · rename_i c4
            rw [if_pos (.inr (.inr ⟨hd0, by omega⟩))] at hb
            first | exact hb rfl | exact ⟨nat4300 ls, hb rfl⟩
          · rename_i c4
            exact ⟨al, ne, by omega, by decide, fun p hp => ⟨by decide, fun q hq => fin (fun z => c4 (by omega)) p hp q hq⟩⟩
        · rename_i c3
          exact ⟨al, ne, by omega, by decide, fun p hp => ⟨by decide, fun q hq => fin (fun z => c3 (by rw [hd0] at z; exact Option.some.inj z.1)) p hp q hq⟩⟩
theorem ok_read_sign (T : Txt P w K mg a) : Cal P w K mg base 3 "read_sign" spRdSign := by
  have C_char_at := ok_char_at (P := P) (w := w) (base := base) T
  have C_is_in := ok_is_in (P := P) (w := w) (base := base) T
  refine T.d_read_sign.ok sc_read_sign (fun vs H Q E h => ?_) (fun f cdv A outer s H vs Q E hr h => ⟨_, (pss_cons (ps_set (i := 2) sc_read_sign.nd rfl (Or.inl rfl) (pe_op o_add (kv 1) pe_int))
      (pss_cons (ps_if (kt (kc C_is_in (hr.mono (by decide)) (pa_cons (kc C_char_at (hr.mono (by decide)) (pa_cons (kv 0) (pa_cons (kv 2) pa_nil))) (pa_cons (k_g T.g_SIGNS) pa_nil))))
      (pss_one (ps_aug (i := 2) sc_read_sign.nd rfl (Or.inl rfl) pe_int o_iadd))
      pss_nil)
      (pss_one (ps_ret (pe_tup (pa_cons (pe_tup (pa_cons (kv 1) (pa_cons pe_str (pa_cons (pe_slice o_sl (kv 0) (po_some (kv 1)) (po_some (kv 2))) pa_nil)))) (pa_cons (kv 2) pa_nil))))))), ?_⟩)
  · obtain ⟨l, i, rfl, _⟩ := h; rfl
  · obtain ⟨l, i, rfl, hl, h⟩ := h
    walk_at "kk"
    refine charAt_s (i := i + 1) hl ?_
    refine isIn_s (take1_len _) ?_
    walk_at "kk"
    unfold rdSign at h
    rw [show str_2 = SGN from rfl]
    split
    · rename_i c
      rw [if_pos c] at h
      rw [cut_sub l (j := i + 2) (y := (i : Int) + 1 + 1) rfl (by omega)]
      refine ⟨le_line (by omega), by decide, fun p hp => ⟨by decide, fun q hq => ?_⟩⟩
      exact tok_mk (k := .sign) (v := .txt _) h hp hq rfl (by omega)
    · rename_i c
      rw [if_neg c] at h
      rw [cut_sub1]
      refine ⟨le_line (by omega), by decide, fun p hp => ⟨by decide, fun q hq => ?_⟩⟩
      exact tok_mk (k := .sign) (v := .txt _) h hp hq rfl (by omega)
theorem ok_read_quoted (T : Txt P w K mg a) : Cal P w K mg base 2 "read_quoted" (spRdQuo a.Malformed) := by
  have C_char_at := ok_char_at (P := P) (w := w) (base := base) T
  refine T.d_read_quoted.ok sc_read_quoted (fun vs H Q E h => ?_) (fun f cdv A outer s H vs Q E hr h => ⟨_, (pss_cons (ps_set (i := 2) sc_read_quoted.nd rfl (Or.inl rfl) pe_str)
      (pss_cons (ps_set (i := 3) sc_read_quoted.nd rfl (Or.inl rfl) (pe_op o_add (kv 1) pe_int))
      (pss_one (k_while (passes_of rfl) (kt pe_bl)
      (pss_cons (ps_set (i := 4) sc_read_quoted.nd rfl (Or.inl rfl) (pe_bm PySem.F.plainAttrs_str PySem.F.slot_str_find PySem.F.type_str_find mt_find3 (kv 0) (pa_cons pe_str (pa_cons (kv 3) pa_nil))))
      (pss_cons (ps_if (pt_cmpR o_lt (kv 4) pe_int (nomark _))
      (pss_one (k_raise (L2N.takes_of rfl rfl rfl rfl) (k_mk T.e_Malformed hr (pa_cons (kv 1) pa_nil))))
      pss_nil)
      (pss_cons (ps_aug (i := 2) sc_read_quoted.nd rfl (Or.inl rfl) (pe_slice o_sl (kv 0) (po_some (kv 3)) (po_some (kv 4))) o_iadd)
      (pss_cons (ps_if (pt_cmpR (o_ne hr.units) (kc C_char_at (hr.mono (by decide)) (pa_cons (kv 0) (pa_cons (pe_op o_add (kv 4) pe_int) pa_nil))) pe_str (nomark _))
      (pss_one (ps_ret (pe_tup (pa_cons (pe_tup (pa_cons (kv 1) (pa_cons pe_str (pa_cons (kv 2) pa_nil)))) (pa_cons (pe_op o_add (kv 4) pe_int) pa_nil)))))
      pss_nil)
      (pss_cons (ps_aug (i := 2) sc_read_quoted.nd rfl (Or.inl rfl) pe_str o_iadd)
      (pss_one (ps_set (i := 3) sc_read_quoted.nd rfl (Or.inl rfl) (pe_op o_add (kv 4) pe_int)))))))))))), ?_⟩)
  · obtain ⟨l, i, rfl, _⟩ := h; rfl
  · obtain ⟨l, i, rfl, hl, ls, hb, h⟩ := h
    walk_at "kk"
    refine ⟨fun m σ H' => ∃ (t : List Nat) (st f : Nat) (v4 : Option V), σ = [some (.str (S l)), some (.int i), some (.str (S t)), some (.int st), v4] ∧ H' = H ∧ m = f ∧ quoGo l f t st = rdQuo l i ∧ l.length + 1 ≤ f + st ∧ t.length ≤ st, ?_, ?_⟩
    · exact ⟨_, [], i + 1, l.length + 1, _, rfl, rfl, rfl, rfl, by omega, by simp⟩
    rintro m σ _ ⟨t, st, f, v4, rfl, rfl, rfl, hq, hf, ht⟩
    walk_at "kk"
    rw [find3_S]
    cases m with
    | zero =>
      have : findFrom l 39 st = none := findFrom_none.mpr fun v hv e => by have := (List.getElem?_eq_some_iff.mp e).1; omega
      rw [this]
      rw [show rdQuo l i = none from hq.symm] at hb
      dsimp only
      rw [if_pos (by omega)]
      first | exact hb rfl | exact ⟨nat4300 ls, hb rfl⟩
    | succ f =>
      rw [quoGo] at hq
      cases e : findFrom l 39 st with
      | none =>
        rw [e] at hq
        rw [← hq] at hb
        dsimp only
        rw [if_pos (by omega)]
        first | exact hb rfl | exact ⟨nat4300 ls, hb rfl⟩
      | some k =>
        rw [e] at hq
        dsimp only at hq ⊢
        rw [if_neg (Int.not_lt.mpr (Int.natCast_nonneg k))]
        obtain ⟨k1, k2, _⟩ := findFrom_some.mp e
        have lk := (List.getElem?_eq_some_iff.mp k2).1
        rw [cut_sub l rfl rfl]
        have sl : (sub l st k).length ≤ 10000 := by rw [sub_len]; omega
        refine ⟨le_line (by omega), le_line (by rw [S_len]; omega), charAt_s (i := k + 1) hl ?_⟩
        walk_at "kk"
        by_cases c : l[k + 1]? = some 39
        · rw [if_neg (fun z => z ((ch_eq l (k + 1) 39).mpr c))]
          rw [if_pos c] at hq
          have sk : (sub l st k).length ≤ k - st := by rw [sub_len]; omega
          refine ⟨le_line (by omega), f, by omega, k + 2, by omega, hq, by omega, by omega⟩
        · rw [if_pos (fun z => c ((ch_eq l (k + 1) 39).mp z))]
          rw [if_neg c] at hq
          exact ⟨by decide, fun p hp => ⟨by decide, fun q hq2 => tok_mk (k := .symbol) (v := .txt _) (h _ _ hq.symm) hp hq2 rfl rfl⟩⟩
end
end K11

set_option Elab.async false
set_option linter.all false
set_option maxRecDepth 100000
set_option maxHeartbeats 4000000
namespace K11
open PySem PySem.Spec PyProof.Rows L2 KW LX
local macro_rules | `(tactic| walk_at "kw") => `(tactic| simp only [tSeq, tNext, tIfS, tTest, tAnd, tOr, tNot, tAndV, tOrV, tNotV, tIf, tChain, tOp, tUn, tC, tAsg, gName, gSub, gCons, gNil, tRet, tRetN, tDrop, tCons, tNil, tCB, tAug, tSl, tPart, tNoPart, tLst, tTup, tBM, tBM0, uTest, uFor, iRng1, iRng2, iList, uCall, List.map_cons, List.map_nil, List.length_cons, List.length_nil, List.cons_append, List.nil_append, List.replicate, Nat.zero_add, Nat.reduceAdd, Nat.reduceSub, List.getElem?_cons_zero, List.getElem?_cons_succ, List.set_cons_zero, List.set_cons_succ, V.bl.injEq, V.int.injEq, V.str.injEq, V.ref.injEq, V.ty.injEq, List.cons.injEq, and_true, true_and, exists_eq_left', exists_eq_right, exists_eq_left, exists_and_left, exists_and_right, decide_eq_true_eq, Bool.not_eq_true', decide_eq_false_iff_not, Bool.false_eq_true, if_true, if_false, ite_true, ite_false, Bool.not_true, Bool.not_false, reduceCtorEq, decide_true, decide_false, Bool.not_not, isK_int_int, isK_int_bool, isK_int_str, isK_int_list, isK_int_tuple, isK_bool_int, isK_bool_bool, isK_bool_str, isK_str_str, isK_str_int, isK_str_bool, isK_str_tuple, isK_str_list, isK_list_list, isK_list_tuple, isK_tuple_tuple, isK_tuple_list, isOk_int_int, isOk_int_bool, isOk_int_str, isOk_int_list, isOk_int_tuple, isOk_bool_int, isOk_bool_bool, isOk_bool_str, isOk_str_str, isOk_str_int, isOk_str_bool, isOk_str_tuple, isOk_str_list, isOk_list_list, isOk_list_tuple, isOk_tuple_tuple, isOk_tuple_list, isK_dict_dict, isOk_dict_dict, isK_none_int, isK_none_bool, isOk_none_int, isOk_none_bool, tyV, S_inj, S_cat, L2.start, Nat.reduceSub, List.replicate_succ, List.replicate_zero, and_assoc, List.append_nil, Nat.reduceEqDiff, Option.some.injEq, Int.natCast_inj, upd_upd, Int.reducePow, Int.reduceToNat, Int.reduceMul, Int.reduceAdd, Int.reduceSub, Int.reduceLT, Int.reduceLE, Int.reduceNeg, Int.reduceDiv, Int.reduceMod, Nat.reducePow, Nat.reduceMul, S_len, List.length_append, List.length_map, List.length_range, not_true_eq_false, not_false_eq_true, ne_eq, uAdd_e1, uAdd_e2, uSub_e1, uMod_e1, uDiv_e1, uPow_e1, uShl_e1, uNeg_e1, uIAdd_e1, uIAdd_e2, uIAdd_e3, uISub_e1, uLt_e1, uLt_e2, uLe_e1, uGt_e1, uGe_e1, uEq_e1, uEq_e2, uEq_e3, uEq_e4, uEq_e5, uEq_e6, uEq_e7, uEq_e8, uEq_e9, uEq_e10, uEq_e11, uNe_e1, uNe_e2, uNe_e3, uNe_e4, uNe_e5, uNe_e6, uNe_e7, uNe_e8, uNe_e9, uNe_e10, uNe_e11, uIs_e1, uIs_e2, uIs_e3, uIs_e4, uIs_e5, uIs_e6, uIs_e7, uNotIs_e1, uNotIs_e2, uNotIs_e3, uNotIs_e4, uNotIs_e5, uNotIs_e6, uIn_e1, uIn_e2, uIn_e3, uIn_e4, uNotIn_e1, uNotIn_e2, uNotIn_e3, uNotIn_e4, uTru_e1, uTru_e2, uTru_e3, uTru_e4, uIx_e2, uSl_e2, uLen_e1, uAbs_e1, uInt_e1, uInt_e2, uMin2_e1, uIsi_e1, uIsi_e2, uIsi_e3, uIsi_e4, cx_K, uVar_0, uVar_n, uFld, uSFld, uMet, uMake, tDG, tDI, tDNI, tDP, tDD, uMk, uRaise, uDelSl, tCallS, L2.WE, uStr_e1, uStr_e2, uMul2_e1, uMul2_e2, okS_i, okS_s, List.zip_cons_cons, List.zip_nil_left, List.drop_zero, List.drop_succ_cons, List.drop_nil, putF_nil, putF_cons, eq_self, tDNewK, tB, Option.isSome_some, Option.isSome_none, false_and, false_or, or_false, exists_false, Int.zero_add, uLc, wipe, tYes, isEmpty_app, List.isEmpty_cons, List.isEmpty_nil, List.isEmpty_map, Bool.and_false, Bool.and_true, iRev, K11.lit_0, K11.lit_1, K11.lit_2, K11.lit_3, K11.lit_4, K11.lit_5, K11.lit_6, K11.lit_7, K11.lit_8, K11.lit_9, K11.lit_10, K11.lit_11, K11.lit_12, K11.lit_13, K11.lit_14, K11.lit_15, K11.lit_16, K11.lit_17, K11.lit_18, K11.lit_19, K11.lit_20, K11.lit_21, K11.lit_22, K11.lit_23, K11.lit_24, K11.lit_25, K11.lit_26, K11.lit_27, K11.lit_28, K11.lit_29, K11.lit_30, K11.lit_31, K11.lit_32, K11.lit_33, K11.lit_34, uIntL_e1, uIntL_e2, CwR.tReplC, K11.N_char_at, K11.N_is_in, K11.N_end_of, K11.N_is_name, K11.N_name_end, K11.N_is_keyword_end, K11.N_read_name, K11.N_read_number, K11.N_read_hash, K11.N_read_quoted, K11.N_read_sign, K11.N_read_token, K11.N_skipped, K11.N_tokens_of, K11.N__law_start, K11.N__law_pick, K11.N__law_letters, K11.N__law_source, K11.N__law_run, K11.N__law_word_end, K11.N__law_is_letter, K11.N__law_name_end, K11.N__law_colon, K11.N__law_skip, K11.N__law_symbol_end, K11.N__law_token_end, K11.N__law_is_token, K11.N__law_tiles, K11.N__law_misfit, K11.N_law])
local macro_rules | `(tactic| walk_at "nn") => `(tactic| first | assumption | exact ne_un (by assumption) | exact ne_un (ne_un (by assumption)) | exact ne_un (ne_un (ne_un (by assumption))) | exact ne_un (ne_un (ne_un (ne_un (by assumption)))))
local macro_rules | `(tactic| walk_at "ne") => `(tactic| first | assumption | (apply Ne.symm; assumption) | exact ne_ud (by assumption) | exact Ne.symm (ne_ud (by assumption)) | exact ne_ud (ne_un (by assumption)) | exact Ne.symm (ne_ud (ne_un (by assumption))) | exact ne_ud (ne_un (ne_un (by assumption))) | exact Ne.symm (ne_ud (ne_un (ne_un (by assumption)))) | exact ne_m (by assumption) (by assumption) | exact Ne.symm (ne_m (by assumption) (by assumption)) | exact ne_n (by assumption) (by walk_at "nn") | exact Ne.symm (ne_n (by assumption) (by walk_at "nn")))
local macro_rules | `(tactic| walk_at "hp") => `(tactic| first | assumption | exact upd_same | (refine Eq.trans (upd_ne ?_) ?_; (focus walk_at "ne"); walk_at "hp"))
local macro_rules | `(tactic| walk_at "sc") => `(tactic| first | (with_reducible assumption) | omega | exact le_line (by (try simp only [List.length_map, List.length_append, List.length_cons, List.length_nil, S_len]); omega) | exact div_s (by omega) | exact mul_r (by omega) | exact mul_l (by omega) | exact pow_s (by omega) | exact mul2_r (by omega) | exact mul2_l (by omega) | exact small4300 (by omega) | exact lt_line (by (try simp only [List.length_map, List.length_append, List.length_cons, List.length_nil, S_len]); omega) | exact ⟨_, by assumption⟩ | (guard_target =~ Exists _; exact ⟨_, .of (by walk_at "hp")⟩) | (guard_target =~ _ ∨ _; exact .inl ⟨_, by assumption⟩) | (guard_target =~ _ ∨ _; exact .inl ⟨_, .of (by walk_at "hp")⟩) | (guard_target =~ _ ∨ _; exact .inr (.inr (.inl ⟨rfl, .inl ⟨_, by walk_at "hp"⟩⟩))) | decide)
local macro_rules | `(tactic| walk_at "kr") => `(tactic| first | (guard_target =~ _ ∧ _; first | refine And.intro (by walk_at "sc") ?_) | (guard_target =~ KW.uIx _ _ _ _ _; first | refine ix_l (by walk_at "hp") (by first | walk_at "hv" | rfl) ?_ | refine ix_t (by walk_at "hp") (by first | walk_at "hv" | rfl) ?_ | refine ix_sl (by assumption) (by walk_at "hv") ?_) | (guard_target =~ KW.uLen _ _ _ _; first | refine len_l (by walk_at "hp") ?_ | refine len_t (by walk_at "hp") ?_ | refine len_sl (by assumption) ?_) | (guard_target =~ KW.uSet _ _ _ _ _; first | refine set_l (by walk_at "hp") (by first | walk_at "hv" | rfl) ?_) | (guard_target =~ L2.gTup _ _ _ _ _ _ _; first | refine tup_l (by walk_at "hp") (by rfl) ?_) | (guard_target =~ KW.uGet _ _ _ _ _; first | refine get_l (by walk_at "hp") (by walk_at "hc") (by decide) (by rfl) ?_) | (guard_target =~ KW.uPut _ _ _ _ _ _; first | refine put_l (by walk_at "hp") (by walk_at "hc") (by decide) (by simp) ?_) | (guard_target =~ KW.uMet.uMt _ _ _ _ _ _ _ _ _; first | refine met_l (by walk_at "hp") (by rfl) ?_) | (guard_target =~ KW.uMet.uMt _ _ _ _ _ _ _ _ _; first | refine ST.met_s (by assumption) (by decide) ?_) | (guard_target =~ ST.spExists _ _ _ _ _; first | refine ST.exists_s (by assumption) ?_) | (guard_target =~ ST.spUsed _ _ _ _ _; first | refine ST.used_s (by assumption) ?_) | (guard_target =~ KW.uGet _ _ _ _ _; first | refine ST.words_s (by assumption) (by walk_at "hc") (by decide) ?_) | (guard_target =~ KW.uDIn _ _ _ _; first | refine din_i (by walk_at "hp") ?_ | refine din_s (by walk_at "hp") ?_) | (guard_target =~ KW.uDGet _ _ _ _; first | refine dget_i (by walk_at "hp") (by walk_at "hv") ?_ | refine dget_s (by walk_at "hp") (by walk_at "hv") ?_) | (guard_target =~ KW.uDPut _ _ _ _ _; first | refine dput_i (by walk_at "hp") (by walk_at "sc") ?_ | refine dput_s (by walk_at "hp") (by walk_at "sc") ?_) | (guard_target =~ KW.uDDel _ _ _ _; first | refine ddel_i (by walk_at "hp") (by walk_at "hv") ?_ | refine ddel_s (by walk_at "hp") (by walk_at "hv") ?_) | (guard_target =~ KW.uMul2 _ _ _ _; first | refine rep_l (by walk_at "hp") (by walk_at "sc") (by walk_at "sc") (by walk_at "sc") ?_) | (guard_target =~ L2.rAppend _ _ _ _; first | refine app_l (by walk_at "hp") (by walk_at "sc") ?_) | (guard_target =~ L2.rPop _ _ _ _; first | refine pop_l (by walk_at "hp") (by walk_at "hv") ?_ | refine pops_l (by walk_at "hp") ?_) | (guard_target =~ L2.rClear _ _ _ _; first | refine clr_l (by walk_at "hp") ?_) | (guard_target =~ L2.rReverse _ _ _ _; first | refine rev_l (by walk_at "hp") ?_) | (guard_target =~ L2.rExtend _ _ _ _; first | refine ext_l (by walk_at "hp") (by walk_at "hp") (by walk_at "sc") ?_) | (guard_target =~ KW.uAdd _ _ _ _ _; first | refine ucat_l (by walk_at "hp") (by walk_at "hp") (by walk_at "sc") ?_) | (guard_target =~ KW.uSl _ _ _ _ _ _; first | refine usl_l (by walk_at "hp") ?_) | (guard_target =~ KW.uTru _ _ _ _; first | refine tru_l (by walk_at "hp") ?_ | refine tru_t (by walk_at "hp") ?_ | refine tru_d (by walk_at "hp") ?_ | refine tru_sl (by assumption) ?_) | (guard_target =~ L2.rIndex _ _ _ _ _; first | refine idx_s (by walk_at "hp") (by assumption) ?_ | refine idx_i (by walk_at "hp") (by assumption) ?_) | (guard_target =~ L2.rIn _ _ _ _ _ _; first | refine in_s (by walk_at "hp") ?_ | refine nin_s (by walk_at "hp") ?_ | refine in_i (by walk_at "hp") ?_ | refine nin_i (by walk_at "hp") ?_) | (guard_target =~ KW.uIsi _ _ _ _; first | refine isi_l (by walk_at "hp") (by decide +kernel) ?_ | refine isi_t (by walk_at "hp") (by decide +kernel) ?_ | refine isi_d (by walk_at "hp") (by decide +kernel) ?_) | (guard_target =~ KW.uList _ _ _ _; first | refine list_l (by walk_at "hp") ?_ | refine list_t (by walk_at "hp") ?_ | refine list_sl (by assumption) ?_) | (guard_target =~ KW.uDict _ _ _; first | refine dict_d (by walk_at "hp") ?_) | (guard_target =~ KW.uSorted _ _ _ _; first | refine srt_l (by walk_at "hp") ?_) | (guard_target =~ KW.uSum _ _ _ _; first | refine sum_l (by walk_at "hp") ?_) | (guard_target =~ KW.uDelC _ _ _ _; first | refine dels_l (by walk_at "hp") (by walk_at "sc") ?_) | (guard_target =~ L2.wAs _ _ _ _ _ _ _ _ _ _; first | refine as_yes (by walk_at "hx") ?_ | refine as_no (by walk_at "hx") ?_) | (guard_target =~ KW.uEf _ _ _ _ _ _ _ _ _; first | refine ef_l (by walk_at "he") (by decide) (by rfl) (by walk_at "hp") (by rfl) ?_) | (guard_target =~ KW.uIsE _ _ _ _ _ _ _; first | refine isE_r (by walk_at "he") (by walk_at "hp") (by walk_at "hk") ?_ | refine isE_t (by walk_at "he") (by walk_at "hp") (by walk_at "hk") ?_))
local macro_rules | `(tactic| walk_at "hv") => `(tactic| first | assumption)
local macro_rules | `(tactic| walk_at "kk") => `(tactic| repeat (first | walk_at "kw" | walk_at "kr"))
local macro_rules | `(tactic| walk_at "hc") => `(tactic| first | fail)
local macro_rules | `(tactic| walk_at "he") => `(tactic| first | exact K11.Txt.e_Malformed (by assumption) | exact K11.Txt.e_Oversized (by assumption))
local macro_rules | `(tactic| walk_at "hx") => `(tactic| first | exact K11.Txt.x_Malformed_KilnwardenError (by assumption) | exact K11.Txt.x_Malformed_Malformed (by assumption) | exact K11.Txt.x_Malformed_Oversized (by assumption) | exact K11.Txt.x_Oversized_KilnwardenError (by assumption) | exact K11.Txt.x_Oversized_Malformed (by assumption) | exact K11.Txt.x_Oversized_Oversized (by assumption))
local macro_rules | `(tactic| walk_at "hk") => `(tactic| first | fail)

section
variable {P : Program} {w : World} {K : Frag} {mg : Str → Option Value} {base : Heap} {a : Ads}
theorem ok_read_hash (T : Txt P w K mg a) : Cal P w K mg base 6 "read_hash" (spRdHash a.Malformed) := by
  have C_char_at := ok_char_at (P := P) (w := w) (base := base) T
  have C_is_in := ok_is_in (P := P) (w := w) (base := base) T
  have C_name_end := ok_name_end (P := P) (w := w) (base := base) T
  have C_is_keyword_end := ok_is_keyword_end (P := P) (w := w) (base := base) T
  have C_read_name := ok_read_name (P := P) (w := w) (base := base) T
  refine T.d_read_hash.ok sc_read_hash (fun vs H Q E h => ?_) (fun f cdv A outer s H vs Q E hr h => ⟨_, (pss_cons (ps_if (pt_not (kt (kc C_is_in (hr.mono (by decide)) (pa_cons (kc C_char_at (hr.mono (by decide)) (pa_cons (kv 0) (pa_cons (pe_op o_add (kv 1) pe_int) pa_nil))) (pa_cons (k_g T.g_LETTERS) pa_nil)))))
      (pss_one (k_raise (L2N.takes_of rfl rfl rfl rfl) (k_mk T.e_Malformed hr (pa_cons (kv 1) pa_nil))))
      pss_nil)
      (pss_cons (ps_asg (kcX (L2N.takes_of rfl rfl rfl rfl) C_read_name (hr.mono (by decide)) (pa_cons (kv 0) (pa_cons (pe_op o_add (kv 1) pe_int) (pa_cons (kv 1) pa_nil)))) (pg_tup (n := 2) (by rfl) (pgs_cons (pg_name (i := 2) sc_read_hash.nd rfl (Or.inl rfl)) (pgs_cons (pg_name (i := 3) sc_read_hash.nd rfl (Or.inl rfl)) pgs_nil))))
      (pss_cons (ps_set (i := 4) sc_read_hash.nd rfl (Or.inl rfl) (pe_ix o_ix (kv 2) pe_int (fun _ _ => rfl)))
      (pss_cons (k_while (passes_of rfl) (PW.pt (pw_and (pt_cmpR (o_eq hr.units) (pe_ix o_ix (kv 2) pe_int (fun _ _ => rfl)) pe_str (nomark _)) (pw_and1 (kt (kc C_is_in (hr.mono (by decide)) (pa_cons (kc C_char_at (hr.mono (by decide)) (pa_cons (kv 0) (pa_cons (kv 3) pa_nil))) (pa_cons (k_g T.g_LETTERS) pa_nil)))))))
      (pss_cons (ps_set (i := 5) sc_read_hash.nd rfl (Or.inl rfl) (kc C_name_end (hr.mono (by decide)) (pa_cons (kv 0) (pa_cons (kv 3) pa_nil))))
      (pss_cons (ps_if (PW.pt (pw_or (pt_cmpR o_is (kv 5) pe_non (nomark _)) (pw_or1 (pt_not (kt (kc C_is_keyword_end (hr.mono (by decide)) (pa_cons (kv 0) (pa_cons (kv 5) pa_nil))))))))
      (pss_one ps_break)
      pss_nil)
      (pss_cons (ps_asg (kcX (L2N.takes_of rfl rfl rfl rfl) C_read_name (hr.mono (by decide)) (pa_cons (kv 0) (pa_cons (kv 3) (pa_cons (kv 1) pa_nil)))) (pg_tup (n := 2) (by rfl) (pgs_cons (pg_name (i := 2) sc_read_hash.nd rfl (Or.inl rfl)) (pgs_cons (pg_name (i := 3) sc_read_hash.nd rfl (Or.inl rfl)) pgs_nil))))
      (pss_one (ps_aug (i := 4) sc_read_hash.nd rfl (Or.inl rfl) (pe_ix o_ix (kv 2) pe_int (fun _ _ => rfl)) o_iadd))))))
      (pss_one (ps_ret (pe_tup (pa_cons (pe_tup (pa_cons (kv 1) (pa_cons pe_str (pa_cons (kv 4) pa_nil)))) (pa_cons (kv 3) pa_nil))))))))), ?_⟩)
  · obtain ⟨l, i, rfl, _⟩ := h; rfl
  · obtain ⟨l, i, rfl, hl, ls, hb, h⟩ := h
    walk_at "kk"
    rw [show str_0 = LET from rfl]
    refine charAt_s (i := i + 1) hl ?_
    refine isIn_s (take1_len _) ?_
    unfold rdHash at h hb
    walk_at "kk"
    by_cases c : isIn ((l.drop (i + 1)).take 1) LET = true
    · rw [if_pos c] at h hb
      rw [if_neg (by rw [c]; simp)]
      refine ⟨l, i + 1, i, rfl, hl, ls, fun e => hb (by rw [e]), fun k t j e => ?_⟩
      rw [e] at h
      dsimp only at h
      intro p q H1 f1 hp hq
      have hq' : H1 q = some (.tup [.int ((i + 1 : Nat) : Int), .str (S k.s), (TV.txt t).v]) := hq
      walk_at "kk"
      obtain ⟨z, hz⟩ : ∃ z, z = if k = TK.keyword then hashGo l l.length t j else (t, j) := ⟨_, rfl⟩
      have h' : Told Q H i .symbol (.txt z.1) z.2 := h z.1 z.2 (by rw [hz]; split <;> rfl)
      refine ⟨fun m σ H' => ∃ (f : Nat) (k : TK) (u u' : List Nat) (s i' : Nat) (q : Addr) (v5 : Option V), σ = [some (.str (S l)), some (.int i), some (.ref q), some (.int s), some (.str (S u)), v5] ∧ m = f ∧ H' q = some (.tup [.int i', .str (S k.s), .str (S u')]) ∧ KW.Fr [] H H' ∧ u.length ≤ s ∧ s ≤ l.length ∧ l.length ≤ f + s ∧ (if k = TK.keyword then hashGo l f u s else (u, s)) = z, ⟨_, l.length, k, t, t, j, i + 1, q, _, rfl, rfl, hq', f1, (rdName_le e).2, (rdName_le e).1, by omega, hz.symm⟩, ?_⟩
      clear h hq hq' hp hz
      rintro m σ H2 ⟨f, k, u, u', s2, i', q, v5, rfl, rfl, hq, f2, hu, hs2, hf, hz⟩
      have ek : (k.s = str_7) ↔ k = TK.keyword := by
        cases k <;> decide
      have fin : (u, s2) = z → ∀ p, H2 p = none → ∀ q, upd H2 p (.tup [.int i, .str (S TK.symbol.s), (TV.txt u).v]) q = none → Q (.ref q) (upd (upd H2 p (.tup [.int i, .str (S TK.symbol.s), (TV.txt u).v])) q (.tup [.ref p, .int s2])) := fun ez p hp q hq => by
        subst ez
        have h2 : Told Q H2 i .symbol (.txt u) s2 := fun p q H' f hp hq => h' p q H' (f2.trans f) hp hq
        exact tok_mk h2 hp hq rfl rfl
      walk_at "kk"
      by_cases c1 : k = TK.keyword
      · rw [if_pos (ek.mpr c1)]
        rw [if_pos c1] at hz
        refine charAt_s hl ?_
        refine isIn_s (take1_len _) ?_
        walk_at "kk"
        cases m with
        | zero =>
          have : isIn ((l.drop s2).take 1) LET = false := by
            rw [isIn_at, List.getElem?_eq_none (by omega)]
          rw [if_neg (by rw [this]; simp)]
          exact ⟨by decide, fun p hp => ⟨by decide, fun q hq => fin hz p hp q hq⟩⟩
        | succ m =>
          rw [hashGo] at hz
          by_cases c2 : isIn ((l.drop s2).take 1) LET = true
          · rw [if_pos c2]
            rw [if_pos c2] at hz
            refine nameEnd_s hl ?_
            cases e : nameEnd l s2 with
            | none =>
              rw [e] at hz
              walk_at "kk"
              exact fun p hp => ⟨by decide, fun q hq => fin hz p hp q hq⟩
            | some e2 =>
              rw [e] at hz
              dsimp only at hz
              walk_at "kk"
              refine kwEnd_s hl ?_
              walk_at "kk"
              by_cases c3 : kwEnd l e2 = true
              · rw [if_pos c3] at hz
                rw [if_neg (by rw [c3]; simp)]
                have er : rdName l s2 = some (.keyword, sub l s2 (e2 + 1), e2 + 1) := by
                  unfold rdName; rw [e]; dsimp only; rw [if_pos c3]
                refine ⟨l, s2, i, rfl, hl, ls, fun e' => (by rw [er] at e'; cases e'), fun k' t' j' e' => ?_⟩
                rw [er] at e'
                cases e'
                intro p q H3 f3 hp3 hq3
                have hq3' : H3 q = some (.tup [.int (s2 : Int), .str (S TK.keyword.s), .str (S (sub l s2 (e2 + 1)))]) := hq3
                walk_at "kk"
                have l1 := nameEnd_gt e
                have l2 := kwEnd_lt c3
                have l3 : (sub l s2 (e2 + 1)).length ≤ e2 + 1 - s2 := by rw [sub_len]; omega
                refine ⟨le_line (by omega), m, by omega, ⟨_, rfl⟩, .keyword, ⟨_, _, hq3'⟩, f2.trans f3, ?_, ?_, by omega, by rw [if_pos rfl]; exact hz⟩
                · first | (rw [List.length_append]; omega) | omega
                · omega
              · rw [if_neg c3] at hz
                rw [if_pos (by simpa using c3)]
                walk_at "kk"
                exact fun p hp => ⟨by decide, fun q hq => fin hz p hp q hq⟩
          · rw [if_neg c2]
            rw [if_neg c2] at hz
            exact ⟨by decide, fun p hp => ⟨by decide, fun q hq => fin hz p hp q hq⟩⟩
      · rw [if_neg (fun z => c1 (ek.mp z))]
        rw [if_neg c1] at hz
        exact ⟨by decide, fun p hp => ⟨by decide, fun q hq => fin hz p hp q hq⟩⟩
    · rw [if_neg c] at hb
      rw [if_pos (by simpa using c)]
      exact ⟨nat4300 ls, hb rfl⟩
theorem ok_skipped (T : Txt P w K mg a) : Cal P w K mg base 1 "skipped" (spSkip a.Malformed) := by
  refine T.d_skipped.ok sc_skipped (fun vs H Q E h => ?_) (fun f cdv A outer s H vs Q E hr h => ⟨_, (pss_cons (k_while (passes_of rfl) (pt_cmpR o_lt (kv 1) (pe_callB c_len (by rfl) T.n_len (by decide +kernel) (pa_cons (kv 0) pa_nil)) (nomark _))
      (pss_one (ps_if (pt_cmpR (o_eq hr.units) (pe_ix o_ix (kv 0) (kv 1) (fun _ _ => rfl)) pe_str (nomark _))
      (pss_cons (ps_set (i := 2) sc_skipped.nd rfl (Or.inl rfl) (pe_bm PySem.F.plainAttrs_str PySem.F.slot_str_find PySem.F.type_str_find mt_find3 (kv 0) (pa_cons pe_str (pa_cons (pe_op o_add (kv 1) pe_int) pa_nil))))
      (pss_cons (ps_if (pt_cmpR o_lt (kv 2) pe_int (nomark _))
      (pss_one (k_raise (L2N.takes_of rfl rfl rfl rfl) (k_mk T.e_Malformed hr (pa_cons (kv 1) pa_nil))))
      pss_nil)
      (pss_one (ps_set (i := 1) sc_skipped.nd rfl (Or.inl rfl) (pe_op o_add (kv 2) pe_int)))))
      (pss_one (ps_if (pt_cmpR o_in (pe_ix o_ix (kv 0) (kv 1) (fun _ _ => rfl)) pe_str (by rfl))
      (pss_one (ps_aug (i := 1) sc_skipped.nd rfl (Or.inl rfl) pe_int o_iadd))
      (pss_one (ps_ret (kv 1))))))))
      (pss_one (ps_ret (kv 1)))), ?_⟩)
  · obtain ⟨l, i, rfl, _⟩ := h; rfl
  · obtain ⟨l, i, rfl, hl, hb, h⟩ := h
    walk_at "kk"
    refine ⟨fun m σ H' => ∃ (st : Nat) (v2 : Option V), σ = [some (.str (S l)), some (.int st), v2] ∧ H' = H ∧ skp l m st = skp l (l.length + 1) i ∧ l.length + 1 ≤ m + st, ⟨_, i, _, rfl, rfl, rfl, by omega⟩, ?_⟩
    rintro m σ _ ⟨st, v2, rfl, rfl, hq, hf⟩
    walk_at "kk"
    split
    · rename_i c0
      obtain ⟨c, hc⟩ : ∃ c, l[st]? = some c := ⟨_, List.getElem?_eq_getElem (by omega)⟩
      cases m with
      | zero => omega
      | succ m =>
        rw [skp, hc] at hq
        dsimp only at hq
        have hat : atI l (st : Int) = some c := atI_nat hc
        walk_at "kk"
        refine ⟨c, hat, ?_⟩
        by_cases c1 : c = 34
        · rw [if_pos c1]
          rw [if_pos c1] at hq
          rw [show ((st : Int) + 1) = ((st + 1 : Nat) : Int) from rfl, find3_S]
          cases e : findFrom l 34 (st + 1) with
          | none =>
            rw [e] at hq
            dsimp only
            rw [if_pos (by omega)]
            exact ⟨nat4300 (by omega), hb st hq.symm⟩
          | some k =>
            rw [e] at hq
            dsimp only
            rw [if_neg (Int.not_lt.mpr (Int.natCast_nonneg k))]
            obtain ⟨k1, _⟩ := findFrom_some.mp e
            exact ⟨m, by omega, k + 1, rfl, hq, by omega⟩
        · rw [if_neg c1]
          rw [if_neg c1] at hq
          refine ⟨le_line (by omega), c, hat, ?_⟩
          rw [subStr_one]
          by_cases c2 : c = 32 ∨ c = 10
          · rw [if_pos (by simpa using c2)]
            rw [if_pos c2] at hq
            exact ⟨m, by omega, st + 1, rfl, hq, by omega⟩
          · rw [if_neg (by simpa using c2)]
            rw [if_neg c2] at hq
            exact h st hq.symm
    · rename_i c0
      have : skp l m st = .inr st := by
        cases m with
        | zero => rfl
        | succ m => rw [skp, List.getElem?_eq_none (by omega)]
      exact h st (by rw [← hq]; exact this)
theorem ok_read_token (T : Txt P w K mg a) : Cal P w K mg base 7 "read_token" (spRdTok a.Malformed) := by
  have C_read_hash := ok_read_hash (P := P) (w := w) (base := base) T
  have C_read_name := ok_read_name (P := P) (w := w) (base := base) T
  have C_read_number := ok_read_number (P := P) (w := w) (base := base) T
  have C_read_quoted := ok_read_quoted (P := P) (w := w) (base := base) T
  have C_read_sign := ok_read_sign (P := P) (w := w) (base := base) T
  refine T.d_read_token.ok sc_read_token (fun vs H Q E h => ?_) (fun f cdv A outer s H vs Q E hr h => ⟨_, (pss_cons (ps_set (i := 2) sc_read_token.nd rfl (Or.inl rfl) (pe_ix o_ix (kv 0) (kv 1) (fun _ _ => rfl)))
      (pss_cons (ps_if (pt_cmpR o_in (kv 2) (k_g T.g_LETTERS) (by rfl))
      (pss_one (ps_ret (kcX (L2N.takes_of rfl rfl rfl rfl) C_read_name (hr.mono (by decide)) (pa_cons (kv 0) (pa_cons (kv 1) (pa_cons (kv 1) pa_nil))))))
      pss_nil)
      (pss_cons (ps_if (pt_cmpR o_in (kv 2) (k_g T.g_DIGITS) (by rfl))
      (pss_one (ps_ret (kcX (L2N.takes_of rfl rfl rfl rfl) C_read_number (hr.mono (by decide)) (pa_cons (kv 0) (pa_cons (kv 1) pa_nil)))))
      pss_nil)
      (pss_cons (ps_if (pt_cmpR (o_eq hr.units) (kv 2) pe_str (nomark _))
      (pss_one (ps_ret (kcX (L2N.takes_of rfl rfl rfl rfl) C_read_hash (hr.mono (by decide)) (pa_cons (kv 0) (pa_cons (kv 1) pa_nil)))))
      pss_nil)
      (pss_cons (ps_if (pt_cmpR (o_eq hr.units) (kv 2) pe_str (nomark _))
      (pss_one (ps_ret (kcX (L2N.takes_of rfl rfl rfl rfl) C_read_quoted (hr.mono (by decide)) (pa_cons (kv 0) (pa_cons (kv 1) pa_nil)))))
      pss_nil)
      (pss_cons (ps_if (pt_cmpR o_in (kv 2) (k_g T.g_SIGNS) (by rfl))
      (pss_one (ps_ret (kc C_read_sign (hr.mono (by decide)) (pa_cons (kv 0) (pa_cons (kv 1) pa_nil)))))
      pss_nil)
      (pss_cons (ps_if (pt_cmpR (o_eq hr.units) (pe_slice o_sl (kv 0) (po_some (kv 1)) (po_some (pe_op o_add (kv 1) pe_int))) pe_str (nomark _))
      (pss_one (ps_ret (pe_tup (pa_cons (pe_tup (pa_cons (kv 1) (pa_cons pe_str (pa_cons pe_str pa_nil)))) (pa_cons (pe_op o_add (kv 1) pe_int) pa_nil)))))
      pss_nil)
      (pss_cons (ps_if (pt_cmpR o_in (kv 2) (k_g T.g_MARKS) (by rfl))
      (pss_one (ps_ret (pe_tup (pa_cons (pe_tup (pa_cons (kv 1) (pa_cons pe_str (pa_cons (kv 2) pa_nil)))) (pa_cons (pe_op o_add (kv 1) pe_int) pa_nil)))))
      pss_nil)
      (pss_one (k_raise (L2N.takes_of rfl rfl rfl rfl) (k_mk T.e_Malformed hr (pa_cons (kv 1) pa_nil)))))))))))), ?_⟩)
  · obtain ⟨l, i, rfl, _⟩ := h; rfl
  · obtain ⟨l, i, rfl, hl, hi, hb, h⟩ := h
    walk_at "kk"
    obtain ⟨c, hc⟩ : ∃ c, l[i]? = some c := ⟨_, List.getElem?_eq_getElem hi⟩
    refine ⟨c, atI_nat hc, ?_⟩
    rw [subStr_one, subStr_one, subStr_one, subStr_one, show str_0 = LET from rfl, show str_1 = DIG from rfl, show str_2 = SGN from rfl, show str_3 = MRK from rfl]
    unfold rdTok at h hb
    rw [hc] at h hb
    dsimp only at h hb
    by_cases c1 : c ∈ LET
    · rw [if_pos (decide_eq_true c1)]
      rw [if_pos c1] at h hb
      exact ⟨l, i, i, rfl, hl, by omega, fun e => hb (by rw [e]; rfl), fun k t j e => h k (.txt t) j (by rw [e]; rfl)⟩
    rw [if_neg (by simpa using c1)]
    rw [if_neg c1] at h hb
    by_cases c2 : c ∈ DIG
    · rw [if_pos (decide_eq_true c2)]
      rw [if_pos c2] at h hb
      exact ⟨l, i, rfl, hl, by omega, ⟨c, hc, c2⟩, fun e => hb (by rw [e]; rfl), fun t j e => h .number (.num _) j (by rw [e]; rfl)⟩
    rw [if_neg (by simpa using c2)]
    rw [if_neg c2] at h hb
    by_cases c3 : c = 35
    · rw [if_pos c3]
      rw [if_pos c3] at h hb
      exact ⟨l, i, rfl, hl, by omega, fun e => hb (by rw [e]; rfl), fun t j e => h .symbol (.txt t) j (by rw [e]; rfl)⟩
    rw [if_neg c3]
    rw [if_neg c3] at h hb
    by_cases c4 : c = 39
    · rw [if_pos c4]
      rw [if_pos c4] at h hb
      exact ⟨l, i, rfl, hl, by omega, fun e => hb (by rw [e]; rfl), fun t j e => h .symbol (.txt t) j (by rw [e]; rfl)⟩
    rw [if_neg c4]
    rw [if_neg c4] at h hb
    by_cases c5 : c ∈ SGN
    · rw [if_pos (decide_eq_true c5)]
      rw [if_pos c5] at h hb
      exact ⟨l, i, rfl, hl, h _ _ _ rfl⟩
    rw [if_neg (by simpa using c5)]
    rw [if_neg c5] at h hb
    refine ⟨le_line (by omega), ?_⟩
    rw [cut_sub l (j := i + 2) (y := (i : Int) + 2) rfl (by omega)]
    have e2 : sub l i (i + 2) = [58, 61] ↔ c = 58 ∧ l[i + 1]? = some 61 := by
      unfold sub
      rw [Nat.add_sub_cancel_left, drop_one hc]
      cases hd : l[i + 1]? with
      | none =>
        rw [List.drop_eq_nil_of_le (List.getElem?_eq_none_iff.mp hd)]
        simp
      | some d => rw [drop_one hd]; simp
    by_cases c6 : c = 58 ∧ l[i + 1]? = some 61
    · rw [if_pos (S_inj.mpr (e2.mpr c6))]
      rw [if_pos c6] at h
      exact ⟨by decide, fun p hp => ⟨by decide, fun q hq => tok_mk (k := .mark) (v := .txt _) (h _ _ _ rfl) hp hq rfl (by omega)⟩⟩
    rw [if_neg (fun z => c6 (e2.mp (S_inj.mp z)))]
    rw [if_neg c6] at h hb
    by_cases c7 : c ∈ MRK
    · rw [if_pos (decide_eq_true c7)]
      rw [if_pos c7] at h
      exact ⟨by decide, fun p hp => ⟨by decide, fun q hq => tok_mk (k := .mark) (v := .txt _) (h _ _ _ rfl) hp hq rfl (by omega)⟩⟩
    rw [if_neg (by simpa using c7)]
    rw [if_neg c7] at hb
    exact ⟨nat4300 (by omega), hb rfl⟩
end
end K11

set_option Elab.async false
set_option linter.all false
set_option maxRecDepth 100000
set_option maxHeartbeats 4000000
namespace K11
open PySem PySem.Spec PyProof.Rows L2 KW LX
local macro_rules | `(tactic| walk_at "kw") => `(tactic| simp only [tSeq, tNext, tIfS, tTest, tAnd, tOr, tNot, tAndV, tOrV, tNotV, tIf, tChain, tOp, tUn, tC, tAsg, gName, gSub, gCons, gNil, tRet, tRetN, tDrop, tCons, tNil, tCB, tAug, tSl, tPart, tNoPart, tLst, tTup, tBM, tBM0, uTest, uFor, iRng1, iRng2, iList, uCall, List.map_cons, List.map_nil, List.length_cons, List.length_nil, List.cons_append, List.nil_append, List.replicate, Nat.zero_add, Nat.reduceAdd, Nat.reduceSub, List.getElem?_cons_zero, List.getElem?_cons_succ, List.set_cons_zero, List.set_cons_succ, V.bl.injEq, V.int.injEq, V.str.injEq, V.ref.injEq, V.ty.injEq, List.cons.injEq, and_true, true_and, exists_eq_left', exists_eq_right, exists_eq_left, exists_and_left, exists_and_right, decide_eq_true_eq, Bool.not_eq_true', decide_eq_false_iff_not, Bool.false_eq_true, if_true, if_false, ite_true, ite_false, Bool.not_true, Bool.not_false, reduceCtorEq, decide_true, decide_false, Bool.not_not, isK_int_int, isK_int_bool, isK_int_str, isK_int_list, isK_int_tuple, isK_bool_int, isK_bool_bool, isK_bool_str, isK_str_str, isK_str_int, isK_str_bool, isK_str_tuple, isK_str_list, isK_list_list, isK_list_tuple, isK_tuple_tuple, isK_tuple_list, isOk_int_int, isOk_int_bool, isOk_int_str, isOk_int_list, isOk_int_tuple, isOk_bool_int, isOk_bool_bool, isOk_bool_str, isOk_str_str, isOk_str_int, isOk_str_bool, isOk_str_tuple, isOk_str_list, isOk_list_list, isOk_list_tuple, isOk_tuple_tuple, isOk_tuple_list, isK_dict_dict, isOk_dict_dict, isK_none_int, isK_none_bool, isOk_none_int, isOk_none_bool, tyV, S_inj, S_cat, L2.start, Nat.reduceSub, List.replicate_succ, List.replicate_zero, and_assoc, List.append_nil, Nat.reduceEqDiff, Option.some.injEq, Int.natCast_inj, upd_upd, Int.reducePow, Int.reduceToNat, Int.reduceMul, Int.reduceAdd, Int.reduceSub, Int.reduceLT, Int.reduceLE, Int.reduceNeg, Int.reduceDiv, Int.reduceMod, Nat.reducePow, Nat.reduceMul, S_len, List.length_append, List.length_map, List.length_range, not_true_eq_false, not_false_eq_true, ne_eq, uAdd_e1, uAdd_e2, uSub_e1, uMod_e1, uDiv_e1, uPow_e1, uShl_e1, uNeg_e1, uIAdd_e1, uIAdd_e2, uIAdd_e3, uISub_e1, uLt_e1, uLt_e2, uLe_e1, uGt_e1, uGe_e1, uEq_e1, uEq_e2, uEq_e3, uEq_e4, uEq_e5, uEq_e6, uEq_e7, uEq_e8, uEq_e9, uEq_e10, uEq_e11, uNe_e1, uNe_e2, uNe_e3, uNe_e4, uNe_e5, uNe_e6, uNe_e7, uNe_e8, uNe_e9, uNe_e10, uNe_e11, uIs_e1, uIs_e2, uIs_e3, uIs_e4, uIs_e5, uIs_e6, uIs_e7, uNotIs_e1, uNotIs_e2, uNotIs_e3, uNotIs_e4, uNotIs_e5, uNotIs_e6, uIn_e1, uIn_e2, uIn_e3, uIn_e4, uNotIn_e1, uNotIn_e2, uNotIn_e3, uNotIn_e4, uTru_e1, uTru_e2, uTru_e3, uTru_e4, uIx_e2, uSl_e2, uLen_e1, uAbs_e1, uInt_e1, uInt_e2, uMin2_e1, uIsi_e1, uIsi_e2, uIsi_e3, uIsi_e4, cx_K, uVar_0, uVar_n, uFld, uSFld, uMet, uMake, tDG, tDI, tDNI, tDP, tDD, uMk, uRaise, uDelSl, tCallS, L2.WE, uStr_e1, uStr_e2, uMul2_e1, uMul2_e2, okS_i, okS_s, List.zip_cons_cons, List.zip_nil_left, List.drop_zero, List.drop_succ_cons, List.drop_nil, putF_nil, putF_cons, eq_self, tDNewK, tB, Option.isSome_some, Option.isSome_none, false_and, false_or, or_false, exists_false, Int.zero_add, uLc, wipe, tYes, isEmpty_app, List.isEmpty_cons, List.isEmpty_nil, List.isEmpty_map, Bool.and_false, Bool.and_true, iRev, K11.lit_0, K11.lit_1, K11.lit_2, K11.lit_3, K11.lit_4, K11.lit_5, K11.lit_6, K11.lit_7, K11.lit_8, K11.lit_9, K11.lit_10, K11.lit_11, K11.lit_12, K11.lit_13, K11.lit_14, K11.lit_15, K11.lit_16, K11.lit_17, K11.lit_18, K11.lit_19, K11.lit_20, K11.lit_21, K11.lit_22, K11.lit_23, K11.lit_24, K11.lit_25, K11.lit_26, K11.lit_27, K11.lit_28, K11.lit_29, K11.lit_30, K11.lit_31, K11.lit_32, K11.lit_33, K11.lit_34, uIntL_e1, uIntL_e2, CwR.tReplC, K11.N_char_at, K11.N_is_in, K11.N_end_of, K11.N_is_name, K11.N_name_end, K11.N_is_keyword_end, K11.N_read_name, K11.N_read_number, K11.N_read_hash, K11.N_read_quoted, K11.N_read_sign, K11.N_read_token, K11.N_skipped, K11.N_tokens_of, K11.N__law_start, K11.N__law_pick, K11.N__law_letters, K11.N__law_source, K11.N__law_run, K11.N__law_word_end, K11.N__law_is_letter, K11.N__law_name_end, K11.N__law_colon, K11.N__law_skip, K11.N__law_symbol_end, K11.N__law_token_end, K11.N__law_is_token, K11.N__law_tiles, K11.N__law_misfit, K11.N_law])
local macro_rules | `(tactic| walk_at "nn") => `(tactic| first | assumption | exact ne_un (by assumption) | exact ne_un (ne_un (by assumption)) | exact ne_un (ne_un (ne_un (by assumption))) | exact ne_un (ne_un (ne_un (ne_un (by assumption)))))
local macro_rules | `(tactic| walk_at "ne") => `(tactic| first | assumption | (apply Ne.symm; assumption) | exact ne_ud (by assumption) | exact Ne.symm (ne_ud (by assumption)) | exact ne_ud (ne_un (by assumption)) | exact Ne.symm (ne_ud (ne_un (by assumption))) | exact ne_ud (ne_un (ne_un (by assumption))) | exact Ne.symm (ne_ud (ne_un (ne_un (by assumption)))) | exact ne_m (by assumption) (by assumption) | exact Ne.symm (ne_m (by assumption) (by assumption)) | exact ne_n (by assumption) (by walk_at "nn") | exact Ne.symm (ne_n (by assumption) (by walk_at "nn")))
local macro_rules | `(tactic| walk_at "hp") => `(tactic| first | assumption | exact upd_same | (refine Eq.trans (upd_ne ?_) ?_; (focus walk_at "ne"); walk_at "hp"))
local macro_rules | `(tactic| walk_at "sc") => `(tactic| first | (with_reducible assumption) | omega | exact le_line (by (try simp only [List.length_map, List.length_append, List.length_cons, List.length_nil, S_len]); omega) | exact div_s (by omega) | exact mul_r (by omega) | exact mul_l (by omega) | exact pow_s (by omega) | exact mul2_r (by omega) | exact mul2_l (by omega) | exact small4300 (by omega) | exact lt_line (by (try simp only [List.length_map, List.length_append, List.length_cons, List.length_nil, S_len]); omega) | exact ⟨_, by assumption⟩ | (guard_target =~ Exists _; exact ⟨_, .of (by walk_at "hp")⟩) | (guard_target =~ _ ∨ _; exact .inl ⟨_, by assumption⟩) | (guard_target =~ _ ∨ _; exact .inl ⟨_, .of (by walk_at "hp")⟩) | (guard_target =~ _ ∨ _; exact .inr (.inr (.inl ⟨rfl, .inl ⟨_, by walk_at "hp"⟩⟩))) | decide)
local macro_rules | `(tactic| walk_at "kr") => `(tactic| first | (guard_target =~ _ ∧ _; first | refine And.intro (by walk_at "sc") ?_) | (guard_target =~ KW.uIx _ _ _ _ _; first | refine ix_l (by walk_at "hp") (by first | walk_at "hv" | rfl) ?_ | refine ix_t (by walk_at "hp") (by first | walk_at "hv" | rfl) ?_ | refine ix_sl (by assumption) (by walk_at "hv") ?_) | (guard_target =~ KW.uLen _ _ _ _; first | refine len_l (by walk_at "hp") ?_ | refine len_t (by walk_at "hp") ?_ | refine len_sl (by assumption) ?_) | (guard_target =~ KW.uSet _ _ _ _ _; first | refine set_l (by walk_at "hp") (by first | walk_at "hv" | rfl) ?_) | (guard_target =~ L2.gTup _ _ _ _ _ _ _; first | refine tup_l (by walk_at "hp") (by rfl) ?_) | (guard_target =~ KW.uGet _ _ _ _ _; first | refine get_l (by walk_at "hp") (by walk_at "hc") (by decide) (by rfl) ?_) | (guard_target =~ KW.uPut _ _ _ _ _ _; first | refine put_l (by walk_at "hp") (by walk_at "hc") (by decide) (by simp) ?_) | (guard_target =~ KW.uMet.uMt _ _ _ _ _ _ _ _ _; first | refine met_l (by walk_at "hp") (by rfl) ?_) | (guard_target =~ KW.uMet.uMt _ _ _ _ _ _ _ _ _; first | refine ST.met_s (by assumption) (by decide) ?_) | (guard_target =~ ST.spExists _ _ _ _ _; first | refine ST.exists_s (by assumption) ?_) | (guard_target =~ ST.spUsed _ _ _ _ _; first | refine ST.used_s (by assumption) ?_) | (guard_target =~ KW.uGet _ _ _ _ _; first | refine ST.words_s (by assumption) (by walk_at "hc") (by decide) ?_) | (guard_target =~ KW.uDIn _ _ _ _; first | refine din_i (by walk_at "hp") ?_ | refine din_s (by walk_at "hp") ?_) | (guard_target =~ KW.uDGet _ _ _ _; first | refine dget_i (by walk_at "hp") (by walk_at "hv") ?_ | refine dget_s (by walk_at "hp") (by walk_at "hv") ?_) | (guard_target =~ KW.uDPut _ _ _ _ _; first | refine dput_i (by walk_at "hp") (by walk_at "sc") ?_ | refine dput_s (by walk_at "hp") (by walk_at "sc") ?_) | (guard_target =~ KW.uDDel _ _ _ _; first | refine ddel_i (by walk_at "hp") (by walk_at "hv") ?_ | refine ddel_s (by walk_at "hp") (by walk_at "hv") ?_) | (guard_target =~ KW.uMul2 _ _ _ _; first | refine rep_l (by walk_at "hp") (by walk_at "sc") (by walk_at "sc") (by walk_at "sc") ?_) | (guard_target =~ L2.rAppend _ _ _ _; first | refine app_l (by walk_at "hp") (by walk_at "sc") ?_) | (guard_target =~ L2.rPop _ _ _ _; first | refine pop_l (by walk_at "hp") (by walk_at "hv") ?_ | refine pops_l (by walk_at "hp") ?_) | (guard_target =~ L2.rClear _ _ _ _; first | refine clr_l (by walk_at "hp") ?_) | (guard_target =~ L2.rReverse _ _ _ _; first | refine rev_l (by walk_at "hp") ?_) | (guard_target =~ L2.rExtend _ _ _ _; first | refine ext_l (by walk_at "hp") (by walk_at "hp") (by walk_at "sc") ?_) | (guard_target =~ KW.uAdd _ _ _ _ _; first | refine ucat_l (by walk_at "hp") (by walk_at "hp") (by walk_at "sc") ?_) | (guard_target =~ KW.uSl _ _ _ _ _ _; first | refine usl_l (by walk_at "hp") ?_) | (guard_target =~ KW.uTru _ _ _ _; first | refine tru_l (by walk_at "hp") ?_ | refine tru_t (by walk_at "hp") ?_ | refine tru_d (by walk_at "hp") ?_ | refine tru_sl (by assumption) ?_) | (guard_target =~ L2.rIndex _ _ _ _ _; first | refine idx_s (by walk_at "hp") (by assumption) ?_ | refine idx_i (by walk_at "hp") (by assumption) ?_) | (guard_target =~ L2.rIn _ _ _ _ _ _; first | refine in_s (by walk_at "hp") ?_ | refine nin_s (by walk_at "hp") ?_ | refine in_i (by walk_at "hp") ?_ | refine nin_i (by walk_at "hp") ?_) | (guard_target =~ KW.uIsi _ _ _ _; first | refine isi_l (by walk_at "hp") (by decide +kernel) ?_ | refine isi_t (by walk_at "hp") (by decide +kernel) ?_ | refine isi_d (by walk_at "hp") (by decide +kernel) ?_) | (guard_target =~ KW.uList _ _ _ _; first | refine list_l (by walk_at "hp") ?_ | refine list_t (by walk_at "hp") ?_ | refine list_sl (by assumption) ?_) | (guard_target =~ KW.uDict _ _ _; first | refine dict_d (by walk_at "hp") ?_) | (guard_target =~ KW.uSorted _ _ _ _; first | refine srt_l (by walk_at "hp") ?_) | (guard_target =~ KW.uSum _ _ _ _; first | refine sum_l (by walk_at "hp") ?_) | (guard_target =~ KW.uDelC _ _ _ _; first | refine dels_l (by walk_at "hp") (by walk_at "sc") ?_) | (guard_target =~ L2.wAs _ _ _ _ _ _ _ _ _ _; first | refine as_yes (by walk_at "hx") ?_ | refine as_no (by walk_at "hx") ?_) | (guard_target =~ KW.uEf _ _ _ _ _ _ _ _ _; first | refine ef_l (by walk_at "he") (by decide) (by rfl) (by walk_at "hp") (by rfl) ?_) | (guard_target =~ KW.uIsE _ _ _ _ _ _ _; first | refine isE_r (by walk_at "he") (by walk_at "hp") (by walk_at "hk") ?_ | refine isE_t (by walk_at "he") (by walk_at "hp") (by walk_at "hk") ?_))
local macro_rules | `(tactic| walk_at "hv") => `(tactic| first | assumption)
local macro_rules | `(tactic| walk_at "kk") => `(tactic| repeat (first | walk_at "kw" | walk_at "kr"))
local macro_rules | `(tactic| walk_at "hc") => `(tactic| first | fail)
local macro_rules | `(tactic| walk_at "he") => `(tactic| first | exact K11.Txt.e_Malformed (by assumption) | exact K11.Txt.e_Oversized (by assumption))
local macro_rules | `(tactic| walk_at "hx") => `(tactic| first | exact K11.Txt.x_Malformed_KilnwardenError (by assumption) | exact K11.Txt.x_Malformed_Malformed (by assumption) | exact K11.Txt.x_Malformed_Oversized (by assumption) | exact K11.Txt.x_Oversized_KilnwardenError (by assumption) | exact K11.Txt.x_Oversized_Malformed (by assumption) | exact K11.Txt.x_Oversized_Oversized (by assumption))
local macro_rules | `(tactic| walk_at "hk") => `(tactic| first | fail)

section
variable {P : Program} {w : World} {K : Frag} {mg : Str → Option Value} {base : Heap} {a : Ads}
theorem ok_tokens_of (T : Txt P w K mg a) : Cal P w K mg base 8 "tokens_of" (spTokens a.Malformed a.Oversized) := by
  have C_skipped := ok_skipped (P := P) (w := w) (base := base) T
  have C_read_token := ok_read_token (P := P) (w := w) (base := base) T
  refine T.d_tokens_of.ok sc_tokens_of (fun vs H Q E h => ?_) (fun f cdv A outer s H vs Q E hr h => ⟨_, (pss_cons (ps_if (pt_cmpR o_gt (pe_callB c_len (by rfl) T.n_len (by decide +kernel) (pa_cons (kv 0) pa_nil)) (k_g T.g_MOST_SOURCE) (nomark _))
      (pss_one (k_raise (L2N.takes_of rfl rfl rfl rfl) (k_mk T.e_Oversized hr (pa_cons pe_str pa_nil))))
      pss_nil)
      (pss_cons (ps_set (i := 1) sc_tokens_of.nd rfl (Or.inl rfl) (pe_lst pa_nil))
      (pss_cons (ps_set (i := 2) sc_tokens_of.nd rfl (Or.inl rfl) (kcX (L2N.takes_of rfl rfl rfl rfl) C_skipped (hr.mono (by decide)) (pa_cons (kv 0) (pa_cons pe_int pa_nil))))
      (pss_cons (k_while (passes_of rfl) (pt_cmpR o_lt (kv 2) (pe_callB c_len (by rfl) T.n_len (by decide +kernel) (pa_cons (kv 0) pa_nil)) (nomark _))
      (pss_cons (ps_asg (kcX (L2N.takes_of rfl rfl rfl rfl) C_read_token (hr.mono (by decide)) (pa_cons (kv 0) (pa_cons (kv 2) pa_nil))) (pg_tup (n := 2) (by rfl) (pgs_cons (pg_name (i := 3) sc_tokens_of.nd rfl (Or.inl rfl)) (pgs_cons (pg_name (i := 2) sc_tokens_of.nd rfl (Or.inl rfl)) pgs_nil))))
      (pss_cons (ps_expr (pe_bm PySem.F.plainAttrs_list PySem.F.slot_list_append PySem.F.type_list_append mt_append (kv 1) (pa_cons (kv 3) pa_nil)))
      (pss_one (ps_set (i := 2) sc_tokens_of.nd rfl (Or.inl rfl) (kcX (L2N.takes_of rfl rfl rfl rfl) C_skipped (hr.mono (by decide)) (pa_cons (kv 0) (pa_cons (kv 2) pa_nil))))))))
      (pss_one (ps_ret (kv 1))))))), ?_⟩)
  · obtain ⟨l, rfl, _⟩ := h; rfl
  · obtain ⟨l, rfl, hl, ho, h⟩ := h
    walk_at "kk"
    split
    · rename_i c
      walk_at "kk"
      exact ho (by omega)
    · rename_i c
      obtain ⟨hb, h⟩ := h (by omega)
      walk_at "kk"
      intro tl htl
      have f1 : KW.Fr [] H (upd H tl (.lst [])) := Fr.new htl
      have t1 : Tks (upd H tl (.lst [])) tl [] [] := ⟨upd_same, rfl, fun j t p e => by simp at e⟩
      revert f1 t1
      generalize upd H tl (.lst []) = H1
      intro f1 t1
      walk_at "kk"
      refine ⟨l, 0, rfl, hl, fun e he => hb e (by unfold lex; rw [he]) H1 f1, fun j hj => ?_⟩
      have hlex : lex l = lexGo l (l.length + 1) j [] := by unfold lex; rw [hj]
      rw [hlex] at hb h
      walk_at "kk"
      refine ⟨fun m σ H' => ∃ (i : Nat) (acc : List Tr) (as : List Addr) (v3 : Option V), σ = [some (.str (S l)), some (.ref tl), some (.int i), v3] ∧ lexGo l m i acc = lexGo l (l.length + 1) j [] ∧ l.length + 1 ≤ m + i ∧ acc.length ≤ i ∧ Tks H' tl acc as ∧ KW.Fr [] H H', ⟨_, j, [], [], _, rfl, rfl, by omega, by simp, t1, f1⟩, ?_⟩
      rintro m σ H2 ⟨i, acc, as, v3, rfl, hq, hm, ha, t2, f2⟩
      walk_at "kk"
      by_cases c2 : i < l.length
      · rw [if_pos (by omega)]
        cases m with
        | zero => omega
        | succ m =>
          rw [lexGo, if_pos c2] at hq
          refine ⟨l, i, rfl, hl, c2, fun e => ?_, fun k v j2 e => ?_⟩
          · rw [e] at hq
            exact hb i hq.symm H2 f2
          rw [e] at hq
          dsimp only at hq
          have gt := rdTok_gt e
          intro p q H3 f3 hp hq3
          have t3 := t2.fr0 f3
          have li3 := t3.li
          have al := t3.len
          walk_at "kk"
          have t4 := t3.add hq3
          have f4 : KW.Fr [] H (upd H3 tl (.lst (as.map V.ref ++ [.ref q]))) := Fr.atN (f2.trans f3) htl
          refine ⟨l, j2, rfl, hl, fun e3 he => ?_, fun j3 hj3 => ?_⟩
          · rw [he] at hq
            exact hb e3 hq.symm _ f4
          · rw [hj3] at hq
            dsimp only at hq
            have ge := skp_ge _ _ _ hj3
            exact ⟨m, by omega, j3, rfl, ⟨_, rfl⟩, _, hq, by omega, by rw [List.length_append]; simp; omega, ⟨_, t4⟩, f4⟩
      · rw [if_neg (by omega)]
        have e : lexGo l m i acc = .inr acc := by
          cases m with
          | zero => rfl
          | succ m => rw [lexGo, if_neg c2]
        exact h acc (by rw [← hq]; exact e) tl as H2 f2 t2
end
end K11

set_option Elab.async false
set_option linter.all false
set_option maxRecDepth 100000
set_option maxHeartbeats 4000000
namespace K11
open PySem PySem.Spec PyProof.Rows L2 KW LX
local macro_rules | `(tactic| walk_at "kw") => `(tactic| simp only [tSeq, tNext, tIfS, tTest, tAnd, tOr, tNot, tAndV, tOrV, tNotV, tIf, tChain, tOp, tUn, tC, tAsg, gName, gSub, gCons, gNil, tRet, tRetN, tDrop, tCons, tNil, tCB, tAug, tSl, tPart, tNoPart, tLst, tTup, tBM, tBM0, uTest, uFor, iRng1, iRng2, iList, uCall, List.map_cons, List.map_nil, List.length_cons, List.length_nil, List.cons_append, List.nil_append, List.replicate, Nat.zero_add, Nat.reduceAdd, Nat.reduceSub, List.getElem?_cons_zero, List.getElem?_cons_succ, List.set_cons_zero, List.set_cons_succ, V.bl.injEq, V.int.injEq, V.str.injEq, V.ref.injEq, V.ty.injEq, List.cons.injEq, and_true, true_and, exists_eq_left', exists_eq_right, exists_eq_left, exists_and_left, exists_and_right, decide_eq_true_eq, Bool.not_eq_true', decide_eq_false_iff_not, Bool.false_eq_true, if_true, if_false, ite_true, ite_false, Bool.not_true, Bool.not_false, reduceCtorEq, decide_true, decide_false, Bool.not_not, isK_int_int, isK_int_bool, isK_int_str, isK_int_list, isK_int_tuple, isK_bool_int, isK_bool_bool, isK_bool_str, isK_str_str, isK_str_int, isK_str_bool, isK_str_tuple, isK_str_list, isK_list_list, isK_list_tuple, isK_tuple_tuple, isK_tuple_list, isOk_int_int, isOk_int_bool, isOk_int_str, isOk_int_list, isOk_int_tuple, isOk_bool_int, isOk_bool_bool, isOk_bool_str, isOk_str_str, isOk_str_int, isOk_str_bool, isOk_str_tuple, isOk_str_list, isOk_list_list, isOk_list_tuple, isOk_tuple_tuple, isOk_tuple_list, isK_dict_dict, isOk_dict_dict, isK_none_int, isK_none_bool, isOk_none_int, isOk_none_bool, tyV, S_inj, S_cat, L2.start, Nat.reduceSub, List.replicate_succ, List.replicate_zero, and_assoc, List.append_nil, Nat.reduceEqDiff, Option.some.injEq, Int.natCast_inj, upd_upd, Int.reducePow, Int.reduceToNat, Int.reduceMul, Int.reduceAdd, Int.reduceSub, Int.reduceLT, Int.reduceLE, Int.reduceNeg, Int.reduceDiv, Int.reduceMod, Nat.reducePow, Nat.reduceMul, S_len, List.length_append, List.length_map, List.length_range, not_true_eq_false, not_false_eq_true, ne_eq, uAdd_e1, uAdd_e2, uSub_e1, uMod_e1, uDiv_e1, uPow_e1, uShl_e1, uNeg_e1, uIAdd_e1, uIAdd_e2, uIAdd_e3, uISub_e1, uLt_e1, uLt_e2, uLe_e1, uGt_e1, uGe_e1, uEq_e1, uEq_e2, uEq_e3, uEq_e4, uEq_e5, uEq_e6, uEq_e7, uEq_e8, uEq_e9, uEq_e10, uEq_e11, uNe_e1, uNe_e2, uNe_e3, uNe_e4, uNe_e5, uNe_e6, uNe_e7, uNe_e8, uNe_e9, uNe_e10, uNe_e11, uIs_e1, uIs_e2, uIs_e3, uIs_e4, uIs_e5, uIs_e6, uIs_e7, uNotIs_e1, uNotIs_e2, uNotIs_e3, uNotIs_e4, uNotIs_e5, uNotIs_e6, uIn_e1, uIn_e2, uIn_e3, uIn_e4, uNotIn_e1, uNotIn_e2, uNotIn_e3, uNotIn_e4, uTru_e1, uTru_e2, uTru_e3, uTru_e4, uIx_e2, uSl_e2, uLen_e1, uAbs_e1, uInt_e1, uInt_e2, uMin2_e1, uIsi_e1, uIsi_e2, uIsi_e3, uIsi_e4, cx_K, uVar_0, uVar_n, uFld, uSFld, uMet, uMake, tDG, tDI, tDNI, tDP, tDD, uMk, uRaise, uDelSl, tCallS, L2.WE, uStr_e1, uStr_e2, uMul2_e1, uMul2_e2, okS_i, okS_s, List.zip_cons_cons, List.zip_nil_left, List.drop_zero, List.drop_succ_cons, List.drop_nil, putF_nil, putF_cons, eq_self, tDNewK, tB, Option.isSome_some, Option.isSome_none, false_and, false_or, or_false, exists_false, Int.zero_add, uLc, wipe, tYes, isEmpty_app, List.isEmpty_cons, List.isEmpty_nil, List.isEmpty_map, Bool.and_false, Bool.and_true, iRev, K11.lit_0, K11.lit_1, K11.lit_2, K11.lit_3, K11.lit_4, K11.lit_5, K11.lit_6, K11.lit_7, K11.lit_8, K11.lit_9, K11.lit_10, K11.lit_11, K11.lit_12, K11.lit_13, K11.lit_14, K11.lit_15, K11.lit_16, K11.lit_17, K11.lit_18, K11.lit_19, K11.lit_20, K11.lit_21, K11.lit_22, K11.lit_23, K11.lit_24, K11.lit_25, K11.lit_26, K11.lit_27, K11.lit_28, K11.lit_29, K11.lit_30, K11.lit_31, K11.lit_32, K11.lit_33, K11.lit_34, uIntL_e1, uIntL_e2, CwR.tReplC, K11.N_char_at, K11.N_is_in, K11.N_end_of, K11.N_is_name, K11.N_name_end, K11.N_is_keyword_end, K11.N_read_name, K11.N_read_number, K11.N_read_hash, K11.N_read_quoted, K11.N_read_sign, K11.N_read_token, K11.N_skipped, K11.N_tokens_of, K11.N__law_start, K11.N__law_pick, K11.N__law_letters, K11.N__law_source, K11.N__law_run, K11.N__law_word_end, K11.N__law_is_letter, K11.N__law_name_end, K11.N__law_colon, K11.N__law_skip, K11.N__law_symbol_end, K11.N__law_token_end, K11.N__law_is_token, K11.N__law_tiles, K11.N__law_misfit, K11.N_law])
local macro_rules | `(tactic| walk_at "nn") => `(tactic| first | assumption | exact ne_un (by assumption) | exact ne_un (ne_un (by assumption)) | exact ne_un (ne_un (ne_un (by assumption))) | exact ne_un (ne_un (ne_un (ne_un (by assumption)))))
local macro_rules | `(tactic| walk_at "ne") => `(tactic| first | assumption | (apply Ne.symm; assumption) | exact ne_ud (by assumption) | exact Ne.symm (ne_ud (by assumption)) | exact ne_ud (ne_un (by assumption)) | exact Ne.symm (ne_ud (ne_un (by assumption))) | exact ne_ud (ne_un (ne_un (by assumption))) | exact Ne.symm (ne_ud (ne_un (ne_un (by assumption)))) | exact ne_m (by assumption) (by assumption) | exact Ne.symm (ne_m (by assumption) (by assumption)) | exact ne_n (by assumption) (by walk_at "nn") | exact Ne.symm (ne_n (by assumption) (by walk_at "nn")))
local macro_rules | `(tactic| walk_at "hp") => `(tactic| first | assumption | exact upd_same | (refine Eq.trans (upd_ne ?_) ?_; (focus walk_at "ne"); walk_at "hp"))
local macro_rules | `(tactic| walk_at "sc") => `(tactic| first | (with_reducible assumption) | omega | exact le_line (by (try simp only [List.length_map, List.length_append, List.length_cons, List.length_nil, S_len]); omega) | exact div_s (by omega) | exact mul_r (by omega) | exact mul_l (by omega) | exact pow_s (by omega) | exact mul2_r (by omega) | exact mul2_l (by omega) | exact small4300 (by omega) | exact lt_line (by (try simp only [List.length_map, List.length_append, List.length_cons, List.length_nil, S_len]); omega) | exact ⟨_, by assumption⟩ | (guard_target =~ Exists _; exact ⟨_, .of (by walk_at "hp")⟩) | (guard_target =~ _ ∨ _; exact .inl ⟨_, by assumption⟩) | (guard_target =~ _ ∨ _; exact .inl ⟨_, .of (by walk_at "hp")⟩) | (guard_target =~ _ ∨ _; exact .inr (.inr (.inl ⟨rfl, .inl ⟨_, by walk_at "hp"⟩⟩))) | decide)
local macro_rules | `(tactic| walk_at "kr") => `(tactic| first | (guard_target =~ _ ∧ _; first | refine And.intro (by walk_at "sc") ?_) | (guard_target =~ KW.uIx _ _ _ _ _; first | refine ix_l (by walk_at "hp") (by first | walk_at "hv" | rfl) ?_ | refine ix_t (by walk_at "hp") (by first | walk_at "hv" | rfl) ?_ | refine ix_sl (by assumption) (by walk_at "hv") ?_) | (guard_target =~ KW.uLen _ _ _ _; first | refine len_l (by walk_at "hp") ?_ | refine len_t (by walk_at "hp") ?_ | refine len_sl (by assumption) ?_) | (guard_target =~ KW.uSet _ _ _ _ _; first | refine set_l (by walk_at "hp") (by first | walk_at "hv" | rfl) ?_) | (guard_target =~ L2.gTup _ _ _ _ _ _ _; first | refine tup_l (by walk_at "hp") (by rfl) ?_) | (guard_target =~ KW.uGet _ _ _ _ _; first | refine get_l (by walk_at "hp") (by walk_at "hc") (by decide) (by rfl) ?_) | (guard_target =~ KW.uPut _ _ _ _ _ _; first | refine put_l (by walk_at "hp") (by walk_at "hc") (by decide) (by simp) ?_) | (guard_target =~ KW.uMet.uMt _ _ _ _ _ _ _ _ _; first | refine met_l (by walk_at "hp") (by rfl) ?_) | (guard_target =~ KW.uMet.uMt _ _ _ _ _ _ _ _ _; first | refine ST.met_s (by assumption) (by decide) ?_) | (guard_target =~ ST.spExists _ _ _ _ _; first | refine ST.exists_s (by assumption) ?_) | (guard_target =~ ST.spUsed _ _ _ _ _; first | refine ST.used_s (by assumption) ?_) | (guard_target =~ KW.uGet _ _ _ _ _; first | refine ST.words_s (by assumption) (by walk_at "hc") (by decide) ?_) | (guard_target =~ KW.uDIn _ _ _ _; first | refine din_i (by walk_at "hp") ?_ | refine din_s (by walk_at "hp") ?_) | (guard_target =~ KW.uDGet _ _ _ _; first | refine dget_i (by walk_at "hp") (by walk_at "hv") ?_ | refine dget_s (by walk_at "hp") (by walk_at "hv") ?_) | (guard_target =~ KW.uDPut _ _ _ _ _; first | refine dput_i (by walk_at "hp") (by walk_at "sc") ?_ | refine dput_s (by walk_at "hp") (by walk_at "sc") ?_) | (guard_target =~ KW.uDDel _ _ _ _; first | refine ddel_i (by walk_at "hp") (by walk_at "hv") ?_ | refine ddel_s (by walk_at "hp") (by walk_at "hv") ?_) | (guard_target =~ KW.uMul2 _ _ _ _; first | refine rep_l (by walk_at "hp") (by walk_at "sc") (by walk_at "sc") (by walk_at "sc") ?_) | (guard_target =~ L2.rAppend _ _ _ _; first | refine app_l (by walk_at "hp") (by walk_at "sc") ?_) | (guard_target =~ L2.rPop _ _ _ _; first | refine pop_l (by walk_at "hp") (by walk_at "hv") ?_ | refine pops_l (by walk_at "hp") ?_) | (guard_target =~ L2.rClear _ _ _ _; first | refine clr_l (by walk_at "hp") ?_) | (guard_target =~ L2.rReverse _ _ _ _; first | refine rev_l (by walk_at "hp") ?_) | (guard_target =~ L2.rExtend _ _ _ _; first | refine ext_l (by walk_at "hp") (by walk_at "hp") (by walk_at "sc") ?_) | (guard_target =~ KW.uAdd _ _ _ _ _; first | refine ucat_l (by walk_at "hp") (by walk_at "hp") (by walk_at "sc") ?_) | (guard_target =~ KW.uSl _ _ _ _ _ _; first | refine usl_l (by walk_at "hp") ?_) | (guard_target =~ KW.uTru _ _ _ _; first | refine tru_l (by walk_at "hp") ?_ | refine tru_t (by walk_at "hp") ?_ | refine tru_d (by walk_at "hp") ?_ | refine tru_sl (by assumption) ?_) | (guard_target =~ L2.rIndex _ _ _ _ _; first | refine idx_s (by walk_at "hp") (by assumption) ?_ | refine idx_i (by walk_at "hp") (by assumption) ?_) | (guard_target =~ L2.rIn _ _ _ _ _ _; first | refine in_s (by walk_at "hp") ?_ | refine nin_s (by walk_at "hp") ?_ | refine in_i (by walk_at "hp") ?_ | refine nin_i (by walk_at "hp") ?_) | (guard_target =~ KW.uIsi _ _ _ _; first | refine isi_l (by walk_at "hp") (by decide +kernel) ?_ | refine isi_t (by walk_at "hp") (by decide +kernel) ?_ | refine isi_d (by walk_at "hp") (by decide +kernel) ?_) | (guard_target =~ KW.uList _ _ _ _; first | refine list_l (by walk_at "hp") ?_ | refine list_t (by walk_at "hp") ?_ | refine list_sl (by assumption) ?_) | (guard_target =~ KW.uDict _ _ _; first | refine dict_d (by walk_at "hp") ?_) | (guard_target =~ KW.uSorted _ _ _ _; first | refine srt_l (by walk_at "hp") ?_) | (guard_target =~ KW.uSum _ _ _ _; first | refine sum_l (by walk_at "hp") ?_) | (guard_target =~ KW.uDelC _ _ _ _; first | refine dels_l (by walk_at "hp") (by walk_at "sc") ?_) | (guard_target =~ L2.wAs _ _ _ _ _ _ _ _ _ _; first | refine as_yes (by walk_at "hx") ?_ | refine as_no (by walk_at "hx") ?_) | (guard_target =~ KW.uEf _ _ _ _ _ _ _ _ _; first | refine ef_l (by walk_at "he") (by decide) (by rfl) (by walk_at "hp") (by rfl) ?_) | (guard_target =~ KW.uIsE _ _ _ _ _ _ _; first | refine isE_r (by walk_at "he") (by walk_at "hp") (by walk_at "hk") ?_ | refine isE_t (by walk_at "he") (by walk_at "hp") (by walk_at "hk") ?_))
local macro_rules | `(tactic| walk_at "hv") => `(tactic| first | assumption)
local macro_rules | `(tactic| walk_at "kk") => `(tactic| repeat (first | walk_at "kw" | walk_at "kr"))
local macro_rules | `(tactic| walk_at "hc") => `(tactic| first | fail)
local macro_rules | `(tactic| walk_at "he") => `(tactic| first | exact K11.Txt.e_Malformed (by assumption) | exact K11.Txt.e_Oversized (by assumption))
local macro_rules | `(tactic| walk_at "hx") => `(tactic| first | exact K11.Txt.x_Malformed_KilnwardenError (by assumption) | exact K11.Txt.x_Malformed_Malformed (by assumption) | exact K11.Txt.x_Malformed_Oversized (by assumption) | exact K11.Txt.x_Oversized_KilnwardenError (by assumption) | exact K11.Txt.x_Oversized_Malformed (by assumption) | exact K11.Txt.x_Oversized_Oversized (by assumption))
local macro_rules | `(tactic| walk_at "hk") => `(tactic| first | fail)

section
variable {P : Program} {w : World} {K : Frag} {mg : Str → Option Value} {base : Heap} {a : Ads}
theorem ok_law (T : Txt P w K mg a) : ∀ f fd, Fun K "law" "law" s_law f fd → FnOk P w K mg base (L2N.CX P w) 9 f fd ["script"] (sp_law63 K) := by
  have C__law_start := ok__law_start (P := P) (w := w) (base := base) T
  have C__law_source := ok__law_source (P := P) (w := w) (base := base) T
  have C_tokens_of := ok_tokens_of (P := P) (w := w) (base := base) T
  have C__law_tiles := ok__law_tiles (P := P) (w := w) (base := base) T
  have C__law_misfit := ok__law_misfit (P := P) (w := w) (base := base) T
  refine DefAt.fn sc_law (fun vs H Q E h => ?_) (fun f cdv A outer s H vs Q E hr h => ⟨_, (pss_cons (ps_set (i := 1) sc_law.nd rfl (Or.inl rfl) (kc C__law_start (hr.mono (by decide)) (pa_cons (kv 0) pa_nil)))
      (pss_cons (ps_set (i := 2) sc_law.nd rfl (Or.inl rfl) (kc C__law_source (hr.mono (by decide)) (pa_cons (kv 1) pa_nil)))
      (pss_cons (ps_set (i := 3) sc_law.nd rfl (Or.inl rfl) pe_non)
      (pss_cons (ps_set (i := 4) sc_law.nd rfl (Or.inl rfl) pe_non)
      (pss_cons (ps_set (i := 5) sc_law.nd rfl (Or.inl rfl) (pe_lst pa_nil))
      (pss_cons (ps_try7 (X := (cxOf (L2N.CX P w) P w K mg base N_law "law" (defScope s_law) f cdv A outer s H E)) rfl rfl (L2N.takes_of rfl rfl rfl rfl) (fun W pn xe tk po => by
        have hbd : PSs (Cx.tr (cxOf (L2N.CX P w) P w K mg base N_law "law" (defScope s_law) f cdv A outer s H E) pn xe) (tryB (nthS (defBody s_law) 5)) _ := (pss_one (ps_set (i := 5) sc_law.nd rfl (Or.inl rfl) (kcX tk C_tokens_of (hr.mono (by decide)) (pa_cons (kv 2) pa_nil))))
        dsimp only [Cx.tr] at hbd
        exact hbd)
      (Cls7.named (X := (cxOf (L2N.CX P w) P w K mg base N_law "law" (defScope s_law) f cdv A outer s H E)) (i := 6) sc_law.nd rfl rfl ⟨by rfl, by decide, .inl T.g_Malformed⟩ (fun ea oe cls d pn hzn hf => by
        have hz := hzn.zc
        have hsu : PSs (Cx.suite (cxOf (L2N.CX P w) P w K mg base N_law "law" (defScope s_law) f cdv A outer s H E) ea ((ea, oe) :: pn)) (suBk 0 (nthS (defBody s_law) 5)) _ := (pss_one (ps_set (i := 3) sc_law.nd rfl (Or.inl rfl) (k_ef 6 hz hf)))
        dsimp only [Cx.suite] at hsu
        exact hsu)
      (Cls7.named (X := (cxOf (L2N.CX P w) P w K mg base N_law "law" (defScope s_law) f cdv A outer s H E)) (i := 6) sc_law.nd rfl rfl ⟨by rfl, by decide, .inl T.g_Oversized⟩ (fun ea oe cls d pn hzn hf => by
        have hz := hzn.zc
        have hsu : PSs (Cx.suite (cxOf (L2N.CX P w) P w K mg base N_law "law" (defScope s_law) f cdv A outer s H E) ea ((ea, oe) :: pn)) (suBk 1 (nthS (defBody s_law) 5)) _ := (pss_one (ps_set (i := 4) sc_law.nd rfl (Or.inl rfl) (k_ef 6 hz hf)))
        dsimp only [Cx.suite] at hsu
        exact hsu)
      (Cls7.bare (X := (cxOf (L2N.CX P w) P w K mg base N_law "law" (defScope s_law) f cdv A outer s H E)) ⟨by rfl, by decide, .inl T.g_KilnwardenError⟩ (fun ea oe cls d pn hzn hf => by
        have hz := hzn.zc
        have hsu : PSs (Cx.suite (cxOf (L2N.CX P w) P w K mg base N_law "law" (defScope s_law) f cdv A outer s H E) ea ((ea, oe) :: pn)) (suBk 2 (nthS (defBody s_law) 5)) _ := (pss_one (ps_ret pe_bl))
        dsimp only [Cx.suite] at hsu
        exact hsu)
      Cls7.nil))))
      (pss_cons (ps_if (PW.pt (pw_or (pt_cmpR o_gt (pe_callB c_len (by rfl) T.n_len (by decide +kernel) (pa_cons (kv 2) pa_nil)) pe_int (nomark _)) (pw_or1 (pt_cmpR o_isnot (kv 4) pe_non (nomark _)))))
      (pss_one (ps_ret (pe_and (pe_cmpR o_gt (pe_callB c_len (by rfl) T.n_len (by decide +kernel) (pa_cons (kv 2) pa_nil)) pe_int (nomark _)) (pe_one (pe_cmpR (o_eq hr.units) (kv 4) pe_str (nomark _))))))
      pss_nil)
      (pss_cons (ps_if (pt_cmpR o_is (kv 3) pe_non (nomark _))
      (pss_one (ps_ret (kc C__law_tiles (hr.mono (by decide)) (pa_cons (kv 2) (pa_cons (kv 5) (pa_cons (pe_callB c_len (by rfl) T.n_len (by decide +kernel) (pa_cons (kv 2) pa_nil)) pa_nil))))))
      pss_nil)
      (pss_cons (ps_if (PW.pt (pw_or (pt_not (kt (pe_callB c_isi (by rfl) T.n_isinstance (by decide +kernel) (pa_cons (kv 3) (pa_cons (pe_bltn (v := .ty "int") (by rfl) T.n_int (by decide +kernel) rfl) pa_nil))))) (pw_or (kt (pe_callB c_isi (by rfl) T.n_isinstance (by decide +kernel) (pa_cons (kv 3) (pa_cons (pe_bltn (v := .ty "bool") (by rfl) T.n_bool (by decide +kernel) rfl) pa_nil)))) (pw_or (pt_cmpR o_lt (kv 3) pe_int (nomark _)) (pw_or1 (pt_not (kt (kc C__law_misfit (hr.mono (by decide)) (pa_cons (kv 2) (pa_cons (kv 3) pa_nil))))))))))
      (pss_one (ps_ret pe_bl))
      pss_nil)
      (pss_one (ps_ret (kc C__law_tiles (hr.mono (by decide)) (pa_cons (kv 2) (pa_cons (kcX (L2N.takes_of rfl rfl rfl rfl) C_tokens_of (hr.mono (by decide)) (pa_cons (pe_slice o_sl (kv 2) po_none (po_some (kv 3))) pa_nil)) (pa_cons (kv 3) pa_nil))))))))))))))), ?_⟩)
  · obtain ⟨sc, ns, rfl, _⟩ := h; rfl
  · obtain ⟨sc, ns, rfl, hS, hn, h⟩ := h
    walk_at "kk"
    refine ⟨sc, ns, rfl, hS, hn, fun st H1 s1 => ?_⟩
    walk_at "kk"
    refine ⟨st, rfl, s1, fun l H2 hl => ?_⟩
    walk_at "kk"
    intro p hp
    refine ⟨l, rfl, by omega, fun hov d hd => ?_, fun h4 => ⟨fun e he H' f' d hd => ?_, fun ts hts tl as H' f' tk => ?_⟩⟩
    · refine cl_no T.x_Oversized_Malformed ?_
      refine cl_yesN T.x_Oversized_Oversized fun ea hea => ?_
      walk_at "kk"
      rw [if_pos (by omega)]
      refine ⟨le_line (by omega), ?_⟩
      rw [if_pos (by omega)]
      exact h _
    · obtain ⟨ts, hc, hm, hlt, hlx⟩ := (lex_told l).2 e he
      refine cl_yesN T.x_Malformed_Malformed fun ea hea => ?_
      walk_at "kk"
      rw [if_neg (by omega)]
      rw [if_neg (by omega)]
      refine ⟨l, e, rfl, h4, hlt, ?_⟩
      rw [hm.mis]
      walk_at "kk"
      have ec : cutS (S l) none (some (e : Int)) = S (l.take e) := cutS_S l 0 e
      have lt : (l.take e).length = e := by rw [List.length_take]; omega
      rw [ec]
      refine ⟨l.take e, rfl, by omega, fun z => by omega, fun _ => ⟨fun x hx => (by rw [hlx] at hx; cases hx), fun ts' hts' tl as H4 f4 tk => ?_⟩⟩
      rw [hlx] at hts'
      cases hts'
      exact ⟨l, ts, tl, as, e, rfl, h4, tk, hc.tl h4 (numOk l), fun H5 _ => h H5⟩
    · have hc := (lex_told l).1 ts hts
      walk_at "kk"
      rw [if_neg (by omega)]
      refine ⟨le_line (by omega), l, ts, tl, as, l.length, rfl, h4, tk, hc.tl h4 (numOk l), fun H3 _ => h H3⟩
end
end K11

set_option Elab.async false
set_option linter.all false
set_option maxRecDepth 100000
namespace K11
end K11
open PySem PySem.W PyProof.Rows
set_option maxRecDepth 100000 in
set_option maxHeartbeats 0 in
theorem PySem.Challenge.cw_kilnwarden_k11_whole_texts_split_into_to_holds : PySem.Challenge.rw_kilnwarden_k11_whole_texts_split_into_to.Holds := by
  w_on; o_law; k_head; (case hw => w_witness2)
  k_fill
  refine KW.walk63 (k := 9) (l := PySem.Challenge.rw_kilnwarden_k11_whole_texts_split_into_to) (st := K11.s_law) rfl rfl rfl ⟨rfl, by decide, by decide⟩ (fun w h Y => PySem.W.kIn_of Y) (fun _ _ _ _ _ _ us hl => match us, hl with | [_], _ => rfl) ?F
  case F =>
    intro w mg h KX G
    have T : ∃ a : K11.Ads, K11.Txt PySem.Challenge.rw_kilnwarden_k11_whole_texts_split_into_to.prog w (L2.KOf KX) mg a := by
      delta L2.KOf
      refine' K11.Txt.ex ?T
      case T =>
        constructor
        all_goals (try dsimp only)
        case g_KilnwardenError => refine' PySem.W.mg_of KX G ?za; (case za => k_is)
        case g_Malformed => refine' PySem.W.mg_of KX G ?za; (case za => k_is)
        case g_Oversized => refine' PySem.W.mg_of KX G ?za; (case za => k_is)
        case e_Malformed =>
          refine' PySem.KErr_at.err_mk K11.s_Malformed_init KX G ?zaC ?zxL ?zbmv ?zsup ?zsa ?zno ?za1 ?zt1 ?zkC ?zeC ?zvC ?ztC ?zown ?ztp ?zdg ?znsup ?znstr ?zhst ?zl1 ?zc1 ?zmc ?zac ?zce ?zco ?zcf ?zcg ?ztop ?zhg ?zhk ?zhd ?zha ?zhn ?zht ?zhm
          (case zaC => k_is)
          (case zxL => k_is)
          (case zbmv => first | rfl | decide +kernel)
          (case zsup => ks_is)
          (case zsa => k_is)
          (case zno => k_is)
          (case za1 => k_is)
          (case zt1 => k_is)
          (case zkC => k_is)
          (case zeC => k_is)
          (case zvC => k_is)
          (case ztC => k_is)
          (case zown => k_is)
          (case ztp => k_is)
          (case zdg => k_is)
          (case znsup => k_is)
          (case znstr => k_is)
          (case zhst => exact ⟨rfl, rfl, rfl⟩)
          (case zl1 => k_is)
          (case zc1 => k_is)
          (case zmc => exact fun env => ⟨_, rfl⟩)
          (case zac => exact fun env => rfl)
          (case zce => k_is)
          (case zco => k_is)
          (case zcf => first | rfl | k_is)
          (case zcg => first | decide +kernel | k_is)
          (case ztop => first | decide +kernel | k_is)
          (case zhg => k_is)
          (case zhk => k_is)
          (case zhd => k_is)
          (case zha => k_is)
          (case zhn => k_is)
          (case zht => k_is)
          (case zhm => k_is)
        case x_Malformed_KilnwardenError => refine' PySem.W.exm_ref ?za ?zb ?zc ?zd; (case za => k_is); (case zb => k_is); (case zc => k_is); (case zd => k_is)
        case x_Malformed_Malformed => refine' PySem.W.exm_ref ?za ?zb ?zc ?zd; (case za => k_is); (case zb => k_is); (case zc => k_is); (case zd => k_is)
        case x_Malformed_Oversized => refine' PySem.W.exm_ref ?za ?zb ?zc ?zd; (case za => k_is); (case zb => k_is); (case zc => k_is); (case zd => k_is)
        case e_Oversized =>
          refine' PySem.KErr_limit.err_mk K11.s_Oversized_init KX G ?zaC ?zxL ?zbmv ?zsup ?zsa ?zno ?za1 ?zt1 ?zkC ?zeC ?zvC ?ztC ?zown ?ztp ?zdg ?znsup ?znstr ?zhst ?zl1 ?zc1 ?zmc ?zac ?zce ?zco ?zcf ?zcg ?ztop ?zhg ?zhk ?zhd ?zha ?zhn ?zht ?zhm
          (case zaC => k_is)
          (case zxL => k_is)
          (case zbmv => first | rfl | decide +kernel)
          (case zsup => ks_is)
          (case zsa => k_is)
          (case zno => k_is)
          (case za1 => k_is)
          (case zt1 => k_is)
          (case zkC => k_is)
          (case zeC => k_is)
          (case zvC => k_is)
          (case ztC => k_is)
          (case zown => k_is)
          (case ztp => k_is)
          (case zdg => k_is)
          (case znsup => k_is)
          (case znstr => k_is)
          (case zhst => exact ⟨rfl, rfl, rfl⟩)
          (case zl1 => k_is)
          (case zc1 => k_is)
          (case zmc => exact fun env => ⟨_, rfl⟩)
          (case zac => exact fun env => rfl)
          (case zce => k_is)
          (case zco => k_is)
          (case zcf => first | rfl | k_is)
          (case zcg => first | decide +kernel | k_is)
          (case ztop => first | decide +kernel | k_is)
          (case zhg => k_is)
          (case zhk => k_is)
          (case zhd => k_is)
          (case zha => k_is)
          (case zhn => k_is)
          (case zht => k_is)
          (case zhm => k_is)
        case x_Oversized_KilnwardenError => refine' PySem.W.exm_ref ?za ?zb ?zc ?zd; (case za => k_is); (case zb => k_is); (case zc => k_is); (case zd => k_is)
        case x_Oversized_Malformed => refine' PySem.W.exm_ref ?za ?zb ?zc ?zd; (case za => k_is); (case zb => k_is); (case zc => k_is); (case zd => k_is)
        case x_Oversized_Oversized => refine' PySem.W.exm_ref ?za ?zb ?zc ?zd; (case za => k_is); (case zb => k_is); (case zc => k_is); (case zd => k_is)
        case dg => k_is
        case n_abs => exact PySem.W.mg_none_of KX G (by k_is)
        case n_bool => exact PySem.W.mg_none_of KX G (by k_is)
        case n_int => exact PySem.W.mg_none_of KX G (by k_is)
        case n_isinstance => exact PySem.W.mg_none_of KX G (by k_is)
        case n_len => exact PySem.W.mg_none_of KX G (by k_is)
        case n_list => exact PySem.W.mg_none_of KX G (by k_is)
        case n_min => exact PySem.W.mg_none_of KX G (by k_is)
        case n_range => exact PySem.W.mg_none_of KX G (by k_is)
        case n_str => exact PySem.W.mg_none_of KX G (by k_is)
        case n_tuple => exact PySem.W.mg_none_of KX G (by k_is)
        case g_MOST_SOURCE => refine' KW.gv_mk KX G ?za ?zr; (case za => k_is); (case zr => exact ⟨_, rfl⟩)
        case g_MOST_NAME => refine' KW.gv_mk KX G ?za ?zr; (case za => k_is); (case zr => exact ⟨_, rfl⟩)
        case g_MOST_DIGITS => refine' KW.gv_mk KX G ?za ?zr; (case za => k_is); (case zr => exact ⟨_, rfl⟩)
        case g_LETTERS => refine' KW.gv_mk KX G ?za ?zr; (case za => k_is); (case zr => exact ⟨_, rfl⟩)
        case g_DIGITS => refine' KW.gv_mk KX G ?za ?zr; (case za => k_is); (case zr => exact ⟨_, rfl⟩)
        case g_SIGNS => refine' KW.gv_mk KX G ?za ?zr; (case za => k_is); (case zr => exact ⟨_, rfl⟩)
        case g_MARKS => refine' KW.gv_mk KX G ?za ?zr; (case za => k_is); (case zr => exact ⟨_, rfl⟩)
        case d_char_at => refine' KW.defAt_mk KX G ?za ?zl ?zc ?zk ?zb; (case za => k_is); (case zl => k_is); (case zc => k_is); (case zk => k_is); (case zb => exact fun _ _ _ _ _ _ us hl => match us, hl with | [_, _], _ => rfl)
        case d_is_in => refine' KW.defAt_mk KX G ?za ?zl ?zc ?zk ?zb; (case za => k_is); (case zl => k_is); (case zc => k_is); (case zk => k_is); (case zb => exact fun _ _ _ _ _ _ us hl => match us, hl with | [_, _], _ => rfl)
        case d_end_of => refine' KW.defAt_mk KX G ?za ?zl ?zc ?zk ?zb; (case za => k_is); (case zl => k_is); (case zc => k_is); (case zk => k_is); (case zb => exact fun _ _ _ _ _ _ us hl => match us, hl with | [_, _, _], _ => rfl)
        case d_is_name => refine' KW.defAt_mk KX G ?za ?zl ?zc ?zk ?zb; (case za => k_is); (case zl => k_is); (case zc => k_is); (case zk => k_is); (case zb => exact fun _ _ _ _ _ _ us hl => match us, hl with | [_], _ => rfl)
        case d_name_end => refine' KW.defAt_mk KX G ?za ?zl ?zc ?zk ?zb; (case za => k_is); (case zl => k_is); (case zc => k_is); (case zk => k_is); (case zb => exact fun _ _ _ _ _ _ us hl => match us, hl with | [_, _], _ => rfl)
        case d_is_keyword_end => refine' KW.defAt_mk KX G ?za ?zl ?zc ?zk ?zb; (case za => k_is); (case zl => k_is); (case zc => k_is); (case zk => k_is); (case zb => exact fun _ _ _ _ _ _ us hl => match us, hl with | [_, _], _ => rfl)
        case d_read_name => refine' KW.defAt_mk KX G ?za ?zl ?zc ?zk ?zb; (case za => k_is); (case zl => k_is); (case zc => k_is); (case zk => k_is); (case zb => exact fun _ _ _ _ _ _ us hl => match us, hl with | [_, _, _], _ => rfl)
        case d_read_number => refine' KW.defAt_mk KX G ?za ?zl ?zc ?zk ?zb; (case za => k_is); (case zl => k_is); (case zc => k_is); (case zk => k_is); (case zb => exact fun _ _ _ _ _ _ us hl => match us, hl with | [_, _], _ => rfl)
        case d_read_hash => refine' KW.defAt_mk KX G ?za ?zl ?zc ?zk ?zb; (case za => k_is); (case zl => k_is); (case zc => k_is); (case zk => k_is); (case zb => exact fun _ _ _ _ _ _ us hl => match us, hl with | [_, _], _ => rfl)
        case d_read_quoted => refine' KW.defAt_mk KX G ?za ?zl ?zc ?zk ?zb; (case za => k_is); (case zl => k_is); (case zc => k_is); (case zk => k_is); (case zb => exact fun _ _ _ _ _ _ us hl => match us, hl with | [_, _], _ => rfl)
        case d_read_sign => refine' KW.defAt_mk KX G ?za ?zl ?zc ?zk ?zb; (case za => k_is); (case zl => k_is); (case zc => k_is); (case zk => k_is); (case zb => exact fun _ _ _ _ _ _ us hl => match us, hl with | [_, _], _ => rfl)
        case d_read_token => refine' KW.defAt_mk KX G ?za ?zl ?zc ?zk ?zb; (case za => k_is); (case zl => k_is); (case zc => k_is); (case zk => k_is); (case zb => exact fun _ _ _ _ _ _ us hl => match us, hl with | [_, _], _ => rfl)
        case d_skipped => refine' KW.defAt_mk KX G ?za ?zl ?zc ?zk ?zb; (case za => k_is); (case zl => k_is); (case zc => k_is); (case zk => k_is); (case zb => exact fun _ _ _ _ _ _ us hl => match us, hl with | [_, _], _ => rfl)
        case d_tokens_of => refine' KW.defAt_mk KX G ?za ?zl ?zc ?zk ?zb; (case za => k_is); (case zl => k_is); (case zc => k_is); (case zk => k_is); (case zb => exact fun _ _ _ _ _ _ us hl => match us, hl with | [_], _ => rfl)
        case d__law_start => refine' KW.defAt_mk KX G ?za ?zl ?zc ?zk ?zb; (case za => k_is); (case zl => k_is); (case zc => k_is); (case zk => k_is); (case zb => exact fun _ _ _ _ _ _ us hl => match us, hl with | [_], _ => rfl)
        case d__law_pick => refine' KW.defAt_mk KX G ?za ?zl ?zc ?zk ?zb; (case za => k_is); (case zl => k_is); (case zc => k_is); (case zk => k_is); (case zb => exact fun _ _ _ _ _ _ us hl => match us, hl with | [_, _], _ => rfl)
        case d__law_letters => refine' KW.defAt_mk KX G ?za ?zl ?zc ?zk ?zb; (case za => k_is); (case zl => k_is); (case zc => k_is); (case zk => k_is); (case zb => exact fun _ _ _ _ _ _ us hl => match us, hl with | [], _ => rfl)
        case d__law_source => refine' KW.defAt_mk KX G ?za ?zl ?zc ?zk ?zb; (case za => k_is); (case zl => k_is); (case zc => k_is); (case zk => k_is); (case zb => exact fun _ _ _ _ _ _ us hl => match us, hl with | [_], _ => rfl)
        case d__law_run => refine' KW.defAt_mk KX G ?za ?zl ?zc ?zk ?zb; (case za => k_is); (case zl => k_is); (case zc => k_is); (case zk => k_is); (case zb => exact fun _ _ _ _ _ _ us hl => match us, hl with | [_, _, _], _ => rfl)
        case d__law_word_end => refine' KW.defAt_mk KX G ?za ?zl ?zc ?zk ?zb; (case za => k_is); (case zl => k_is); (case zc => k_is); (case zk => k_is); (case zb => exact fun _ _ _ _ _ _ us hl => match us, hl with | [_, _], _ => rfl)
        case d__law_is_letter => refine' KW.defAt_mk KX G ?za ?zl ?zc ?zk ?zb; (case za => k_is); (case zl => k_is); (case zc => k_is); (case zk => k_is); (case zb => exact fun _ _ _ _ _ _ us hl => match us, hl with | [_, _], _ => rfl)
        case d__law_name_end => refine' KW.defAt_mk KX G ?za ?zl ?zc ?zk ?zb; (case za => k_is); (case zl => k_is); (case zc => k_is); (case zk => k_is); (case zb => exact fun _ _ _ _ _ _ us hl => match us, hl with | [_, _], _ => rfl)
        case d__law_colon => refine' KW.defAt_mk KX G ?za ?zl ?zc ?zk ?zb; (case za => k_is); (case zl => k_is); (case zc => k_is); (case zk => k_is); (case zb => exact fun _ _ _ _ _ _ us hl => match us, hl with | [_, _], _ => rfl)
        case d__law_skip => refine' KW.defAt_mk KX G ?za ?zl ?zc ?zk ?zb; (case za => k_is); (case zl => k_is); (case zc => k_is); (case zk => k_is); (case zb => exact fun _ _ _ _ _ _ us hl => match us, hl with | [_, _], _ => rfl)
        case d__law_symbol_end => refine' KW.defAt_mk KX G ?za ?zl ?zc ?zk ?zb; (case za => k_is); (case zl => k_is); (case zc => k_is); (case zk => k_is); (case zb => exact fun _ _ _ _ _ _ us hl => match us, hl with | [_, _, _], _ => rfl)
        case d__law_token_end => refine' KW.defAt_mk KX G ?za ?zl ?zc ?zk ?zb; (case za => k_is); (case zl => k_is); (case zc => k_is); (case zk => k_is); (case zb => exact fun _ _ _ _ _ _ us hl => match us, hl with | [_, _, _, _], _ => rfl)
        case d__law_is_token => refine' KW.defAt_mk KX G ?za ?zl ?zc ?zk ?zb; (case za => k_is); (case zl => k_is); (case zc => k_is); (case zk => k_is); (case zb => exact fun _ _ _ _ _ _ us hl => match us, hl with | [_], _ => rfl)
        case d__law_tiles => refine' KW.defAt_mk KX G ?za ?zl ?zc ?zk ?zb; (case za => k_is); (case zl => k_is); (case zc => k_is); (case zk => k_is); (case zb => exact fun _ _ _ _ _ _ us hl => match us, hl with | [_, _, _], _ => rfl)
        case d__law_misfit => refine' KW.defAt_mk KX G ?za ?zl ?zc ?zk ?zb; (case za => k_is); (case zl => k_is); (case zc => k_is); (case zk => k_is); (case zb => exact fun _ _ _ _ _ _ us hl => match us, hl with | [_, _], _ => rfl)
        case d_law => refine' KW.defAt_mk KX G ?za ?zl ?zc ?zk ?zb; (case za => k_is); (case zl => k_is); (case zc => k_is); (case zk => k_is); (case zb => exact fun _ _ _ _ _ _ us hl => match us, hl with | [_], _ => rfl)
    obtain ⟨a, T⟩ := T
    exact ⟨T.d_law, fun base f fd F => K11.ok_law T f fd F⟩
#print axioms PySem.Challenge.cw_kilnwarden_k11_whole_texts_split_into_to_holds
