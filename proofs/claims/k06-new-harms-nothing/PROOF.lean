import PyProof.Rows.All
import Wide.All
import OpenK.AllK
import HandS.ExcCtx
import HandS.HotCalls
import Wide.FinOn
import HandS.Call
import HandS.List
import HandS.Ends
import HandS.Words
import HandS.Exc
import HandS.ExcOwn
import HandS.TryOnly
import HandS.Text
import HandS.Codes
import HandS.Style
import HandS.IsInst
import HandS.Wide
import KE.KExcSuper
import HandS.ExcField
import HandS.ExcIs
import HandS.TryMany
import HandS.Defaults
import HandS.Dict
import HandS.BoundDict
import HandS.NoneIn
import HandS.Flow
import HandS.WideBits
import HandS.Conv
import HandS.SortInts
import HandS.RaiseMore
import KE.RegKIsAll
import HandS.Comp
import HandS.More
import HandS.Iter
import KE.SortKeyHeap
import KE.SortData
import KE.KSortKey
import HandS.Lambda
import HandS.EndTab
import KE.KNestM
import KE.DataEq
import HandS.ReplaceLit
import HandS.ReplaceList
import HandS.TupAny
import HandS.Flt
import HandS.WordsDict
import HandS.MakeKwOnly
import PySem.Challenge.RW_kilnwarden_k06_new_harms_nothing_reached
set_option Elab.async false
set_option linter.all false
set_option maxRecDepth 100000
set_option maxHeartbeats 2000000
/-! Kw: universal readings over HandS: one rule a construct, whatever the kinds of its parts are; the readings go by cases of the values and so reduce by simp. -/
namespace KW
open PySem PySem.Spec PyProof.Rows L2
abbrev Frag := PySem.W.Frag
abbrev S (l : List Nat) : Str := SX.S l

section
variable {X : Cx}
theorem PEw {e : Expr} {t t' : TE} (h : PE X e t) (w : ∀ σ H Q, t' σ H Q → t σ H Q) : PE X e t' := ⟨fun pins s σ H Q I q => h.run pins s σ H Q I (w σ H Q q)⟩
theorem PTw {e : Expr} {t t' : TT} (h : PT X e t) (w : ∀ σ H Q, t' σ H Q → t σ H Q) : PT X e t' := ⟨fun pins s σ H Q I q => h.run pins s σ H Q I (w σ H Q q)⟩
theorem PSw {st : Stmt} {t t' : TS} (h : PS X st t) (w : ∀ D σ H, t' D σ H → t D σ H) : PS X st t' := ⟨fun pins s σ H D I q => h.run pins s σ H D I (w D σ H q)⟩
theorem OpRw {f : Value → Value → Sem Value} {r r' : R2} (h : OpR X f r) (w : ∀ x y H Q, r' x y H Q → r x y H Q) : OpR X f r' := fun pins s σ H x y v u Q I rx ry q => h pins s σ H x y v u Q I rx ry (w _ _ _ _ q)
theorem UnRw {f : Value → Sem Value} {r r' : V → Hp → VK → Prop} (h : UnR X f r) (w : ∀ x H Q, r' x H Q → r x H Q) : UnR X f r' := fun pins s σ H x v Q I rx q => h pins s σ H x v Q I rx (w _ _ _ q)
theorem CallRw {f : Value} {r r' : List V → Hp → VK → Prop} (h : CallR X f r) (w : ∀ xs H Q, r' xs H Q → r xs H Q) : CallR X f r' := fun pins s σ H xs us Q I rx q => h pins s σ H xs us Q I rx (w _ _ _ q)
theorem IxRw {r r' : R2} (h : IxR X r) (w : ∀ x y H Q, r' x y H Q → r x y H Q) : IxR X r' := fun a b pins s σ H x y v u Q I rx ry q => h a b pins s σ H x y v u Q I rx ry (w _ _ _ _ q)
theorem SlRw {r r' : V → Option Int → Option Int → Hp → VK → Prop} (h : SlR X r) (w : ∀ x l u H Q, r' x l u H Q → r x l u H Q) : SlR X r' := fun pins s σ H x v vl vu lo hi sl Q I rx a b c q => h pins s σ H x v vl vu lo hi sl Q I rx a b c (w _ _ _ _ _ q)

/-! ### names -/
def uVar (i : Nat) : TE := fun σ H Q => match σ[i]? with
  | some (some v) => Q v H
  | _ => False
theorem kv (i : Nat) {x : Str} {pos : Pos} (hN : X.N[i]? = some x := by rfl) (hv : Vis X.env.scope x := by first | exact Or.inl rfl | exact Or.inr (Or.inl rfl) | exact Or.inr (Or.inr rfl)) (hd : (x == ("__debug__" : Str)) = false := by decide)
    (hcd : (x == ("__classdict__" : Str)) = false := by decide) : PE X (.Name x pos) (uVar i) := PEw (pe_var hN hv hd hcd) fun σ H Q h => by
  unfold uVar at h
  split at h
  · rename_i v e
    exact ⟨v, e, h⟩
  · exact h.elim

/-! ### operators -/
def uAdd (K : Frag) : R2
  | .int i, .int j, H, Q => Q (.int (i + j)) H
  | .str i, .str j, H, Q => i.length + j.length ≤ sizeLine ∧ Q (.str (i ++ j)) H
  | .ref a, .ref b, H, Q => rCat (.ref a) (.ref b) H Q ∨ rCatT K (.ref a) (.ref b) H Q
  | _, _, _, _ => False
theorem o_add : OpR X (binaryOp .Add) (uAdd X.K) := OpRw (op_add.or (op_add_str.or (op_cat.or op_catT))) fun x y H Q h => by
  unfold uAdd at h
  split at h
  · exact .inl ⟨_, _, rfl, rfl, h⟩
  · exact .inr (.inl ⟨_, _, rfl, rfl, h⟩)
  · exact .inr (.inr h)
  · exact h.elim
def uSub : R2
  | .int i, .int j, H, Q => Q (.int (i - j)) H
  | _, _, _, _ => False
theorem o_sub : OpR X (binaryOp .Sub) uSub := OpRw op_sub fun x y H Q h => by
  unfold uSub at h
  split at h
  · exact ⟨_, _, rfl, rfl, h⟩
  · exact h.elim
def uMul : R2
  | .int i, .int j, H, Q => (CMul i j ∨ CMulW i j) ∧ Q (.int (i * j)) H
  | .ref l, .int k, H, Q => rRep (.ref l) (.int k) H Q
  | _, _, _, _ => False
theorem o_mul : OpR X (binaryOp .Mult) uMul := OpRw (op_mul.or (op_mulW.or op_rep)) fun x y H Q h => by
  unfold uMul at h
  split at h
  · obtain ⟨c | c, h⟩ := h
    · exact .inl ⟨_, _, rfl, rfl, c, h⟩
    · exact .inr (.inl ⟨_, _, rfl, rfl, c, h⟩)
  · exact .inr (.inr h)
  · exact h.elim
def uMod : R2
  | .int i, .int j, H, Q => 0 < j ∧ Q (.int (i % j)) H
  | _, _, _, _ => False
theorem o_mod : OpR X (binaryOp .Mod) uMod := OpRw op_mod fun x y H Q h => by
  unfold uMod at h
  split at h
  · exact ⟨_, _, rfl, rfl, h⟩
  · exact h.elim
def uDiv : R2
  | .int i, .int j, H, Q => (CDiv i j ∨ CDivW i j) ∧ Q (.int (i / j)) H
  | _, _, _, _ => False
theorem o_fdiv : OpR X (binaryOp .FloorDiv) uDiv := OpRw (op_fdiv.or op_fdivW) fun x y H Q h => by
  unfold uDiv at h
  split at h
  · obtain ⟨c | c, h⟩ := h
    · exact .inl ⟨_, _, rfl, rfl, c, h⟩
    · exact .inr ⟨_, _, rfl, rfl, c, h⟩
  · exact h.elim
def uPow : R2
  | .int i, .int j, H, Q => CPow i j ∧ Q (.int (i ^ j.toNat)) H
  | _, _, _, _ => False
theorem o_pow : OpR X (binaryOp .Pow) uPow := OpRw op_pow fun x y H Q h => by
  unfold uPow at h
  split at h
  · exact ⟨_, _, rfl, rfl, h⟩
  · exact h.elim
def uShl : R2
  | .int i, .int j, H, Q => CPow i j ∧ Q (.int (i * 2 ^ j.toNat)) H
  | _, _, _, _ => False
theorem o_shl : OpR X (binaryOp .LShift) uShl := OpRw op_shl fun x y H Q h => by
  unfold uShl at h
  split at h
  · exact ⟨_, _, rfl, rfl, h⟩
  · exact h.elim
def uNeg : V → Hp → VK → Prop
  | .int i, H, Q => Q (.int (-i)) H
  | _, _, _ => False
theorem o_neg : UnR X (unaryOp .USub) uNeg := UnRw un_neg fun x H Q h => by
  unfold uNeg at h
  split at h
  · exact ⟨_, rfl, h⟩
  · exact h.elim
/-- in place: ints and texts; a list is lengthened -/
def uIAdd : R2
  | .int i, .int j, H, Q => Q (.int (i + j)) H
  | .str i, .str j, H, Q => i.length + j.length ≤ sizeLine ∧ Q (.str (i ++ j)) H
  | .ref a, .ref b, H, Q => rExt2 (.ref a) (.ref b) H Q
  | _, _, _, _ => False
theorem o_iadd : OpR X (inplaceOp .Add) uIAdd := OpRw (iop_add.or (iop_add_str.or iop_ext)) fun x y H Q h => by
  unfold uIAdd at h
  split at h
  · exact .inl ⟨_, _, rfl, rfl, h⟩
  · exact .inr (.inl ⟨_, _, rfl, rfl, h⟩)
  · exact .inr (.inr h)
  · exact h.elim
def uISub : R2
  | .int i, .int j, H, Q => Q (.int (i - j)) H
  | _, _, _, _ => False
theorem o_isub : OpR X (inplaceOp .Sub) uISub := OpRw iop_sub fun x y H Q h => by
  unfold uISub at h
  split at h
  · exact ⟨_, _, rfl, rfl, h⟩
  · exact h.elim

/-! ### comparisons -/
def uLt : R2
  | .int i, .int j, H, Q => Q (.bl (decide (i < j))) H
  | .str i, .str j, H, Q => Q (.bl (decide (i.cps.toList < j.cps.toList))) H
  | _, _, _, _ => False
theorem o_lt : OpR X (compareOp .Lt) uLt := OpRw (op_lt.or op_lt_str) fun x y H Q h => by
  unfold uLt at h
  split at h
  · exact .inl ⟨_, _, rfl, rfl, h⟩
  · exact .inr ⟨_, _, rfl, rfl, h⟩
  · exact h.elim
def uLe : R2
  | .int i, .int j, H, Q => Q (.bl (decide (i ≤ j))) H
  | _, _, _, _ => False
theorem o_le : OpR X (compareOp .LtE) uLe := OpRw op_le fun x y H Q h => by
  unfold uLe at h
  split at h
  · exact ⟨_, _, rfl, rfl, h⟩
  · exact h.elim
def uGt : R2
  | .int i, .int j, H, Q => Q (.bl (decide (j < i))) H
  | _, _, _, _ => False
theorem o_gt : OpR X (compareOp .Gt) uGt := OpRw op_gt fun x y H Q h => by
  unfold uGt at h
  split at h
  · exact ⟨_, _, rfl, rfl, h⟩
  · exact h.elim
def uGe : R2
  | .int i, .int j, H, Q => Q (.bl (decide (j ≤ i))) H
  | _, _, _, _ => False
theorem o_ge : OpR X (compareOp .GtE) uGe := OpRw op_ge fun x y H Q h => by
  unfold uGe at h
  split at h
  · exact ⟨_, _, rfl, rfl, h⟩
  · exact h.elim
def uEq (K : Frag) : R2
  | .int i, .int j, H, Q => Q (.bl (decide (i = j))) H
  | .str i, .str j, H, Q => Q (.bl (decide (i = j))) H
  | .bl i, .bl j, H, Q => Q (.bl (decide (i = j))) H
  | .non, .non, H, Q => Q (.bl true) H
  | .int _, .str _, H, Q => Q (.bl false) H
  | .str _, .int _, H, Q => Q (.bl false) H
  | .int _, .non, H, Q => Q (.bl false) H
  | .non, .int _, H, Q => Q (.bl false) H
  | .str _, .non, H, Q => Q (.bl false) H
  | .non, .str _, H, Q => Q (.bl false) H
  | .ref a, .ref b, H, Q => rEqD K (.ref a) (.ref b) H Q
  | _, _, _, _ => False
theorem o_eq (hu : X.A.units + 64 < cLine) : OpR X (compareOp .Eq) (uEq X.K) := OpRw (op_eq.or (op_eqD hu)) fun x y H Q h => by
  unfold uEq at h
  split at h <;> first
    | exact .inl ⟨rfl, by simpa using h⟩
    | exact .inr h
    | exact h.elim
def uNe (K : Frag) : R2
  | .int i, .int j, H, Q => Q (.bl (!decide (i = j))) H
  | .str i, .str j, H, Q => Q (.bl (!decide (i = j))) H
  | .bl i, .bl j, H, Q => Q (.bl (!decide (i = j))) H
  | .non, .non, H, Q => Q (.bl false) H
  | .int _, .str _, H, Q => Q (.bl true) H
  | .str _, .int _, H, Q => Q (.bl true) H
  | .int _, .non, H, Q => Q (.bl true) H
  | .non, .int _, H, Q => Q (.bl true) H
  | .str _, .non, H, Q => Q (.bl true) H
  | .non, .str _, H, Q => Q (.bl true) H
  | .ref a, .ref b, H, Q => rNeD K (.ref a) (.ref b) H Q
  | _, _, _, _ => False
theorem o_ne (hu : X.A.units + 64 < cLine) : OpR X (compareOp .NotEq) (uNe X.K) := OpRw (op_ne.or (op_neD hu)) fun x y H Q h => by
  unfold uNe at h
  split at h <;> first
    | exact .inl ⟨rfl, by simpa using h⟩
    | exact .inr h
    | exact h.elim
/-- is, is not: None and bools on the right -/
theorem op_isIB : OpR X (compareOp .Is) (fun x y H Q => (∃ i b, x = V.int i ∧ y = V.bl b) ∧ Q (.bl false) H) := by
  intro pins s σ H x y v u Q I rx ry h
  obtain ⟨⟨i, b, rfl, rfl⟩, q⟩ := h
  obtain ⟨t, rfl⟩ := rx
  cases (show u = Value.bool b from ry)
  exact wpAny_is_other rfl (fun z => nomatch z) ⟨.bl false, H, I, rfl, q⟩
def uIs : R2
  | .non, .non, H, Q => Q (.bl true) H
  | .int _, .non, H, Q => Q (.bl false) H
  | .str _, .non, H, Q => Q (.bl false) H
  | .ref _, .non, H, Q => Q (.bl false) H
  | .bl _, .non, H, Q => Q (.bl false) H
  | .bl a, .bl b, H, Q => Q (.bl (decide (a = b))) H
  | .int _, .bl _, H, Q => Q (.bl false) H
  | _, _, _, _ => False
theorem o_is : OpR X (compareOp .Is) uIs := OpRw (op_isN.or (op_isBl.or op_isIB)) fun x y H Q h => by
  unfold uIs at h
  split at h <;> first
    | exact .inl ⟨rfl, by simpa using h⟩
    | exact .inr (.inl ⟨_, _, rfl, rfl, h⟩)
    | exact .inr (.inr ⟨⟨_, _, rfl, rfl⟩, h⟩)
    | exact h.elim
def uNotIs : R2
  | .non, .non, H, Q => Q (.bl false) H
  | .int _, .non, H, Q => Q (.bl true) H
  | .str _, .non, H, Q => Q (.bl true) H
  | .ref _, .non, H, Q => Q (.bl true) H
  | .bl _, .non, H, Q => Q (.bl true) H
  | .bl a, .bl b, H, Q => Q (.bl (!decide (a = b))) H
  | _, _, _, _ => False
theorem o_isnot : OpR X (compareOp .IsNot) uNotIs := OpRw (op_notN.or op_notBl) fun x y H Q h => by
  unfold uNotIs at h
  split at h <;> first
    | exact .inl ⟨rfl, by simpa using h⟩
    | exact .inr ⟨_, _, rfl, rfl, h⟩
    | exact h.elim
/-- one text within another -/
def subStr (i j : Str) : Bool := !(Builtin.Str.occurrences j i 0 j.length 1).isEmpty
theorem subStr_one (c : Nat) (a : List Nat) : subStr (S [c]) (S a) = decide (c ∈ a) := SX.in_one a c
def uIn (K : Frag) : R2
  | .str i, .str j, H, Q => Q (.bl (subStr i j)) H
  | .int i, .ref p, H, Q => rIn K false (.int i) (.ref p) H Q
  | .str i, .ref p, H, Q => rIn K false (.str i) (.ref p) H Q
  | .non, .ref p, H, Q => rIn K false .non (.ref p) H Q
  | _, _, _, _ => False
theorem o_in : OpR X (compareOp .In) (uIn X.K) := OpRw (op_in_str.or op_in_seq) fun x y H Q h => by
  unfold uIn at h
  split at h <;> first
    | exact .inl ⟨_, _, rfl, rfl, h⟩
    | exact .inr h
    | exact h.elim
def uNotIn (K : Frag) : R2
  | .str i, .str j, H, Q => Q (.bl (!subStr i j)) H
  | .int i, .ref p, H, Q => rIn K true (.int i) (.ref p) H Q
  | .str i, .ref p, H, Q => rIn K true (.str i) (.ref p) H Q
  | .non, .ref p, H, Q => rIn K true .non (.ref p) H Q
  | _, _, _, _ => False
theorem o_notin : OpR X (compareOp .NotIn) (uNotIn X.K) := OpRw (op_notin_str.or op_notIn_seq) fun x y H Q h => by
  unfold uNotIn at h
  split at h <;> first
    | exact .inl ⟨_, _, rfl, rfl, h⟩
    | exact .inr h
    | exact h.elim

/-! ### tests -/
def uTru (K : Frag) : V → Hp → (Bool → Prop) → Prop
  | .non, _, k => k false
  | .bl b, _, k => k b
  | .int i, _, k => k (i != 0)
  | .str y, _, k => y.length ≤ sizeLine ∧ k ((y.length : Int) != 0)
  | .ref p, H, k => ∃ b, TruV K (.ref p) H b ∧ k b
  | _, _, _ => False
def uTest (K : Frag) (t : TE) : TT := fun σ H Q => t σ H fun x H1 => uTru K x H1 fun b => Q b H1
theorem kt {e : Expr} {t : TE} (h : PE X e t) (he : ∀ whole, isTrue e X.env whole = (do let v ← whole; standAt e.pos; holding [v] (truthy v)) := by intro _; rfl) : PT X e (uTest X.K t) := by
  refine ⟨fun pins s σ H Q I hq => ?_⟩
  refine isTrue_plain (thn (h.run pins s σ H _ I hq) fun v s1 ⟨x, H1, I1, r1, q1⟩ => tru_ok pins s1 σ H1 x v Q I1 r1 ?_) (he _)
  cases x with
  | non => exact ⟨false, rfl, q1⟩
  | bl b => exact ⟨b, rfl, q1⟩
  | int i => exact ⟨_, rfl, q1⟩
  | str y => exact ⟨_, ⟨q1.1, rfl⟩, q1.2⟩
  | ref p => exact q1
  | _ => exact False.elim q1

/-! ### subscripts -/
def uIx (K : Frag) : R2
  | .ref p, .int i, H, Q => ∃ xs v, (SqL K H p xs ∨ SqT K H p xs) ∧ atI xs i = some v ∧ Q v H
  | .str z, .int i, H, Q => z.length ≤ sizeLine ∧ ∃ c, atI z.cps.toList i = some c ∧ Q (.str (S [c])) H
  | _, _, _, _ => False
theorem o_ix : IxR X (uIx X.K) := IxRw ix_seq fun x y H Q h => by
  unfold uIx at h
  split at h
  · obtain ⟨xs, v, hs | hs, e, q⟩ := h
    · exact .inl ⟨_, xs, _, v, rfl, rfl, hs, e, q⟩
    · exact .inr (.inl ⟨_, xs, _, v, rfl, rfl, hs, e, q⟩)
  · obtain ⟨hz, c, e, q⟩ := h
    exact .inr (.inr ⟨_, _, c, rfl, rfl, hz, e, q⟩)
  · exact h.elim
def uSl (K : Frag) : V → Option Int → Option Int → Hp → VK → Prop
  | .ref a, lo, hi, H, Q => rSlL K (.ref a) lo hi H Q ∨ rSlT K (.ref a) lo hi H Q
  | .str z, lo, hi, H, Q => z.length ≤ sizeLine ∧ Q (.str (cutS z lo hi)) H
  | _, _, _, _, _ => False
theorem o_sl : SlR X (uSl X.K) := SlRw (sl_list.or (sl_tup.or sl_str)) fun x lo hi H Q h => by
  unfold uSl at h
  split at h
  · exact h.elim .inl fun z => .inr (.inl z)
  · exact .inr (.inr ⟨_, rfl, h.1, h.2⟩)
  · exact h.elim
theorem S_len (a : List Nat) : (S a).length = a.length := SX.S_len a
theorem S_nil : (S []).length = 0 := rfl
theorem S_tl (x : Str) : S x.cps.toList = x := SX.S_tl x
theorem cps_S (a : List Nat) : (S a).cps.toList = a := rfl
theorem S_cat (a b : List Nat) : S a ++ S b = S (a ++ b) := SX.S_cat a b
theorem S_inj {a b : List Nat} : S a = S b ↔ a = b := ⟨SX.S_inj, fun h => congrArg S h⟩
theorem cutS_S (a : List Nat) (i j : Nat) : cutS (S a) (some (i : Int)) (some (j : Int)) = S ((a.drop i).take (j - i)) := by
  unfold cutS
  rw [HT.sIx_nat, HT.sIx_nat, cps_S]
  have e : (S a).length = a.length := S_len a
  rw [e]
  refine congrArg S ?_
  rw [show a.drop (min i a.length) = a.drop i by
    by_cases h : i ≤ a.length
    · rw [Nat.min_eq_left h]
    · rw [Nat.min_eq_right (by omega), List.drop_length, List.drop_eq_nil_of_le (by omega)]]
  refine List.take_eq_take_iff.mpr ?_
  rw [List.length_drop]
  omega

/-! ### calls of built-ins -/
def uLen (K : Frag) : List V → Hp → VK → Prop
  | [.str y], H, Q => y.length ≤ sizeLine ∧ Q (.int y.length) H
  | [.ref p], H, Q => ∃ xs, (SqL K H p xs ∨ SqT K H p xs) ∧ Q (.int xs.length) H
  | _, _, _ => False
theorem c_len : CallR X (.builtin "len") (uLen X.K) := CallRw call_len fun xs H Q h => by
  unfold uLen at h
  split at h
  · exact ⟨_, _, rfl, ⟨h.1, rfl⟩, h.2⟩
  · obtain ⟨xs, hs | hs, q⟩ := h
    · exact ⟨_, _, rfl, .inl ⟨xs, hs, rfl⟩, q⟩
    · exact ⟨_, _, rfl, .inr ⟨xs, hs, rfl⟩, q⟩
  · exact h.elim
def uAbs : List V → Hp → VK → Prop
  | [.int i], H, Q => Q (.int (if i < 0 then -i else i)) H
  | _, _, _ => False
theorem c_abs : CallR X (.builtin "abs") uAbs := CallRw call_abs fun xs H Q h => by
  unfold uAbs at h
  split at h
  · exact ⟨_, rfl, h⟩
  · exact h.elim
def uInt : List V → Hp → VK → Prop
  | [.int i], H, Q => Q (.int i) H
  | [.bl k], H, Q => Q (.int (if k then 1 else 0)) H
  | _, _, _ => False
theorem c_int : CallR X (.type "int") uInt := CallRw call_int1 fun xs H Q h => by
  unfold uInt at h
  split at h
  · exact .inl ⟨_, rfl, h⟩
  · exact .inr ⟨_, rfl, h⟩
  · exact h.elim
def uMin2 : List V → Hp → VK → Prop
  | [.int i, .int j], H, Q => Q (.int (if j < i then j else i)) H
  | _, _, _ => False
theorem c_min2 (hc : X.calm = true) : CallR X (.builtin "min") uMin2 := CallRw (call_min2 hc) fun xs H Q h => by
  unfold uMin2 at h
  split at h
  · exact ⟨_, _, rfl, h⟩
  · exact h.elim
/-- isinstance against a built-in type -/
def isK (a b : String) : Bool := match kitB a b with
  | some r => r
  | none => false
def isOk (a b : String) : Bool := (kitB a b).isSome
theorem isK_of {a b : String} (h : isOk a b = true) {K : Frag} : PySem.W.kitOne K (.type a) (.type b) = some (isK a b) := by
  refine kit_ty ?_
  unfold isOk at h
  unfold isK
  cases e : kitB a b with
  | none => rw [e] at h; cases h
  | some r => rfl
def uIsi (K : Frag) : List V → Hp → VK → Prop
  | [.non, .ty n], H, Q => isOk "NoneType" n = true ∧ Q (.bl (isK "NoneType" n)) H
  | [.bl _, .ty n], H, Q => isOk "bool" n = true ∧ Q (.bl (isK "bool" n)) H
  | [.int _, .ty n], H, Q => isOk "int" n = true ∧ Q (.bl (isK "int" n)) H
  | [.str _, .ty n], H, Q => isOk "str" n = true ∧ Q (.bl (isK "str" n)) H
  | [.ref p, .ty n], H, Q => ∃ T, TyX K H (.ref p) (.type T) ∧ isOk T n = true ∧ Q (.bl (isK T n)) H
  | _, _, _ => False
theorem c_isi : CallR X (.builtin "isinstance") (uIsi X.K) := CallRw call_isi fun xs H Q h => by
  unfold uIsi at h
  split at h
  · exact ⟨_, _, _, _, _, rfl, .ty _, .base .non, isK_of h.1, h.2⟩
  · exact ⟨_, _, _, _, _, rfl, .ty _, .base (.bl _), isK_of h.1, h.2⟩
  · exact ⟨_, _, _, _, _, rfl, .ty _, .base (.int _), isK_of h.1, h.2⟩
  · exact ⟨_, _, _, _, _, rfl, .ty _, .base (.str _), isK_of h.1, h.2⟩
  · obtain ⟨T, ty, o, q⟩ := h
    exact ⟨_, _, _, _, _, rfl, .ty _, ty, isK_of o, q⟩
  · exact h.elim
theorem isK_int_int : isK "int" "int" = true := by decide +kernel
theorem isK_int_bool : isK "int" "bool" = false := by decide +kernel
theorem isK_int_str : isK "int" "str" = false := by decide +kernel
theorem isK_int_list : isK "int" "list" = false := by decide +kernel
theorem isK_int_tuple : isK "int" "tuple" = false := by decide +kernel
theorem isK_bool_int : isK "bool" "int" = true := by decide +kernel
theorem isK_bool_bool : isK "bool" "bool" = true := by decide +kernel
theorem isK_bool_str : isK "bool" "str" = false := by decide +kernel
theorem isK_str_str : isK "str" "str" = true := by decide +kernel
theorem isK_str_int : isK "str" "int" = false := by decide +kernel
theorem isK_str_bool : isK "str" "bool" = false := by decide +kernel
theorem isK_str_tuple : isK "str" "tuple" = false := by decide +kernel
theorem isK_str_list : isK "str" "list" = false := by decide +kernel
theorem isK_list_list : isK "list" "list" = true := by decide +kernel
theorem isK_list_tuple : isK "list" "tuple" = false := by decide +kernel
theorem isK_tuple_tuple : isK "tuple" "tuple" = true := by decide +kernel
theorem isK_tuple_list : isK "tuple" "list" = false := by decide +kernel
theorem isK_dict_dict : isK "dict" "dict" = true := by decide +kernel
theorem isK_none_int : isK "NoneType" "int" = false := by decide +kernel
theorem isK_none_bool : isK "NoneType" "bool" = false := by decide +kernel
theorem isOk_int_int : isOk "int" "int" = true := by decide +kernel
theorem isOk_int_bool : isOk "int" "bool" = true := by decide +kernel
theorem isOk_int_str : isOk "int" "str" = true := by decide +kernel
theorem isOk_int_list : isOk "int" "list" = true := by decide +kernel
theorem isOk_int_tuple : isOk "int" "tuple" = true := by decide +kernel
theorem isOk_bool_int : isOk "bool" "int" = true := by decide +kernel
theorem isOk_bool_bool : isOk "bool" "bool" = true := by decide +kernel
theorem isOk_bool_str : isOk "bool" "str" = true := by decide +kernel
theorem isOk_str_str : isOk "str" "str" = true := by decide +kernel
theorem isOk_str_int : isOk "str" "int" = true := by decide +kernel
theorem isOk_str_bool : isOk "str" "bool" = true := by decide +kernel
theorem isOk_str_tuple : isOk "str" "tuple" = true := by decide +kernel
theorem isOk_str_list : isOk "str" "list" = true := by decide +kernel
theorem isOk_list_list : isOk "list" "list" = true := by decide +kernel
theorem isOk_list_tuple : isOk "list" "tuple" = true := by decide +kernel
theorem isOk_tuple_tuple : isOk "tuple" "tuple" = true := by decide +kernel
theorem isOk_tuple_list : isOk "tuple" "list" = true := by decide +kernel
theorem isOk_dict_dict : isOk "dict" "dict" = true := by decide +kernel
theorem isOk_none_int : isOk "NoneType" "int" = true := by decide +kernel
theorem isOk_none_bool : isOk "NoneType" "bool" = true := by decide +kernel
end

/-! ### loops -/
/-- the loop itself, behind the making of its iterator: not opened by simp -/
def forK (J : It) (g : TG) (tb : TS) (D : Ends) (σ : L2.St) (H : Hp) : Prop :=
  ∃ W : Nat → Nat → L2.St → Hp → Prop, (∃ m, W 0 m σ H) ∧ ∀ i m σ H, W i m σ H →
    (J.stop i H ∧ D.nx σ H) ∨ (J.go i H ∧ ∃ N : L2.St → Hp → Prop, (∀ σ' H', N σ' H' → ∃ m', m' < m ∧ W (i + 1) m' σ' H') ∧ ∀ x H', J.yld i H x H' → g x σ H' fun σ2 H2 => tb { D with nx := N, ct := N, bk := D.nx } σ2 H2)
def uFor (wi : TI) (g : TG) (tb : TS) : TS := fun D σ H => wi σ H fun J H1 => forK J g tb D σ H1
theorem for_rng {lo : Int} {n : Nat} {g : TG} {tb : TS} {D : Ends} {σ : L2.St} {H : Hp} (Pv : Nat → L2.St → Hp → Prop) (h0 : Pv 0 σ H)
    (hs : ∀ i σ H, i < n → Pv i σ H → g (.int (lo + i)) σ H fun σ2 H2 => tb { D with nx := Pv (i + 1), ct := Pv (i + 1), bk := D.nx } σ2 H2) (hd : ∀ σ H, Pv n σ H → D.nx σ H) : forK (Itr lo n) g tb D σ H := for_range Pv h0 hs hd
theorem for_lst {K : Frag} {a : Addr} {xs : List V} {g : TG} {tb : TS} {D : Ends} {σ : L2.St} {H : Hp} (Pv : Nat → L2.St → Hp → Prop) (h0 : Pv 0 σ H) (hl : ∀ i σ H, i ≤ xs.length → Pv i σ H → SqL K H a xs)
    (hs : ∀ i x σ H, xs[i]? = some x → Pv i σ H → g x σ H fun σ2 H2 => tb { D with nx := Pv (i + 1), ct := Pv (i + 1), bk := D.nx } σ2 H2) (hd : ∀ σ H, Pv xs.length σ H → D.nx σ H) : forK (Itl K a) g tb D σ H := for_list Pv h0 hl hs hd
/-- while: what holds, by a measure -/
def uWhile (c : TT) (tb : TS) : TS := fun D σ H => ∃ W : Nat → L2.St → Hp → Prop, (∃ m, W m σ H) ∧ ∀ m σ H, W m σ H →
  c σ H fun b H1 => if b = true then tb { D with nx := fun σ' H' => ∃ m', m' < m ∧ W m' σ' H', ct := fun σ' H' => ∃ m', m' < m ∧ W m' σ' H', bk := D.nx } σ H1 else D.nx σ H1
section
variable {X : Cx}
theorem k_for {tg iter : Expr} {body : List Stmt} {wi : TI} {g : TG} {tb : TS} {pos : Pos} (hp : PassesOwn (model X.prog X.w) X.A X.env X.xe) (hc : X.calm = true) (hi : PI X tg iter wi) (hg : PG X tg g) (hb : PSs X body tb)
    (hs : ∀ x, foldedSetIterable iter X.env x = pure x := by intro _; rfl) : PS X (.For tg iter body [] pos) (uFor wi g tb) := ⟨(ps_for hp hc hi hg hb hs).run⟩
theorem k_while {c : Expr} {body : List Stmt} {tc : TT} {tb : TS} {pos : Pos} (hp : PassesOwn (model X.prog X.w) X.A X.env X.xe) (hc : PT X c tc) (hb : PSs X body tb) : PS X (.While c body [] pos) (uWhile tc tb) := by
  refine ⟨fun pins s σ H D I h => ?_⟩
  obtain ⟨W, ⟨m0, w0⟩, turn⟩ := h
  refine wpAny_While (codeAny_whileLoop (fun n s' => ∃ σ' H', Inv X pins σ' H' s' ∧ W n σ' H') ?_ m0 ⟨σ, H, I, w0⟩)
  rintro n s1 ⟨σ1, H1, I1, w1⟩
  refine wpAny_passesOwn hp (thn (hc.run pins s1 σ1 H1 _ I1 (turn n σ1 H1 w1)) fun b s2 ⟨H2, I2, q2⟩ => ?_)
  cases b with
  | true =>
    rw [if_pos rfl] at q2
    rw [if_pos rfl]
    refine wpAny_passesOwn hp (thn (hb.run pins s2 σ1 H2 _ I2 q2) fun f s3 q3 => ?_)
    cases f with
    | next =>
      obtain ⟨σ3, H3, I3, m', hm, w3⟩ := q3
      exact ⟨m', hm, σ3, H3, I3, w3⟩
    | cont =>
      obtain ⟨σ3, H3, I3, m', hm, w3⟩ := q3
      exact ⟨m', hm, σ3, H3, I3, w3⟩
    | brk => exact q3
    | ret v => exact q3
  | false =>
    rw [if_neg Bool.false_ne_true] at q2
    rw [if_neg Bool.false_ne_true]
    exact wpAny_execs_nil ⟨σ1, H2, I2, q2⟩

/-! ### defs of the text, called by their names -/
/-- the def x of the module keeps the promise sp, at level k; ps its parameters, dvs the defaults that a call leaves open -/
structure Cal (P : Program) (w : World) (K : Frag) (mg : Str → Option Value) (base : Heap) (k : Nat) (x : Str) (sp : Sp) : Prop where
  ex : ∃ (f : Addr) (fd : FuncData) (ps : List Str), mg x = some (.ref f) ∧ PySem.W.keepIn K (.ref f) = true ∧ Binds K fd ps [] ∧ FnOk P w K mg base (L2N.CX P w) k f fd ps sp
def uCall (sp : Sp) (t : TA) : TE := fun σ H Q => t σ H fun vs H1 => sp vs H1 Q E0
theorem passAt0 {σ : L2.St} : PassesAt (L2N.CX X.prog X.w) X σ E0 := fun _ _ _ _ _ _ h => by
  obtain ⟨_, _, _, _, _, _, _, _, _, _, _, _, z⟩ := h
  exact z.elim
section
variable {k : Nat} {x : Str} {sp : Sp} {p pos : Pos} {e : Expr} {es : List Expr} {t : TA}
/-- f(e, ..), f a def that raises nothing here -/
theorem kc (c : Cal X.prog X.w X.K X.mg X.base k x sp) (hr : Room k X.A) (ha : PA X (e :: es) t) (hg : Gl X x := by rfl) (hdb : (x == ("__debug__" : Str)) = false := by decide)
    (he : starEach (e :: es) X.env = (false, eval e X.env) :: starEach es X.env := by rfl) (hpl : (backTo pos (starEach es X.env)).any (·.1) = false := by rfl) : PE X (.Call (.Name x p) (e :: es) [] pos) (uCall sp t) := by
  obtain ⟨f, fd, ps, hm, hk, hb, F⟩ := c.ex
  exact pe_callS F hr hg hm hk hb (fun _ => passAt0) ha hdb he hpl
theorem kc0 (c : Cal X.prog X.w X.K X.mg X.base k x sp) (hr : Room k X.A) (hg : Gl X x := by rfl) (hdb : (x == ("__debug__" : Str)) = false := by decide) : PE X (.Call (.Name x p) [] [] pos) (uCall sp tNil) := by
  obtain ⟨f, fd, ps, hm, hk, hb, F⟩ := c.ex
  refine ⟨fun pins s σ H Q I h => ?_⟩
  refine wpAny_Call_Name_kw (ld_glob I hg hm ?_ hdb)
  exact PySem.W.callWith_K0 I.kIn hk (run_fnS (E := fun _ => E0) F hr hb passAt0 I .nil h)
/-- f(e, ..), f a def that may raise: W is what is wanted of it -/
theorem kcX {W : WX} (tk : L2N.Takes X W) (c : Cal X.prog X.w X.K X.mg X.base k x sp) (hr : Room k X.A) (ha : PA X (e :: es) t) (hg : Gl X x := by rfl) (hdb : (x == ("__debug__" : Str)) = false := by decide)
    (he : starEach (e :: es) X.env = (false, eval e X.env) :: starEach es X.env := by rfl) (hpl : (backTo pos (starEach es X.env)).any (·.1) = false := by rfl) : PE X (.Call (.Name x p) (e :: es) [] pos) (tCallS sp (WE W) t) := by
  obtain ⟨f, fd, ps, hm, hk, hb, F⟩ := c.ex
  exact pe_callS F hr hg hm hk hb (fun σ => L2N.passAt tk σ) ha hdb he hpl
end
end
/-- a def of the text, with what binds its arguments -/
structure DefAt (K : Frag) (mg : Str → Option Value) (x qual : Str) (st : Stmt) (ps : List Str) : Prop where
  ex : ∃ (f : Addr) (fd : FuncData), mg x = some (.ref f) ∧ Fun K x qual st f fd ∧ Binds K fd ps []
section
variable {P : Program} {w : World} {K : Frag} {mg : Str → Option Value} {base : Heap}
theorem DefAt.ok {x qual : Str} {st : Stmt} {N ps : List Str} {k : Nat} {sp : Sp} (D : DefAt K mg x qual st ps) (S : FnScope N ps (defScope st)) (len : ∀ vs H Q E, sp vs H Q E → vs.length = ps.length)
    (hbody : ∀ (f : Addr) (cdv : Value) (A : Around) (outer : List Env) (s : Shared) (H : Hp) (vs : List V) (Q : VK) (E : XK), Room k (A.deeper (envOfC qual (defScope st) s.heap.objs.size f cdv)) → sp vs H Q E →
      ∃ t, PSs (cxOf (L2N.CX P w) P w K mg base N qual (defScope st) f cdv A outer s H E) (defBody st) t ∧ t { nx := fun _ H' => Q .non H', rt := Q } (start N vs) H) : Cal P w K mg base (k + 1) x sp := by
  obtain ⟨f, fd, hm, F, hb⟩ := D.ex
  refine ⟨f, fd, ps, hm, F.kp, hb, ?_⟩
  obtain ⟨oc, od, kV, doc, pm, an, cdv, ct, osl, rfl, lk, hcd⟩ := F.ex
  exact fn_of lk hcd S len fun A outer s H vs Q E hr hsp => hbody f cdv A outer s H vs Q E hr hsp
theorem Cal.mono {j k : Nat} {x : Str} {sp : Sp} (c : Cal P w K mg base j x sp) (h : j ≤ k) : Cal P w K mg base k x sp := by
  obtain ⟨f, fd, ps, hm, hk, hb, F⟩ := c.ex
  exact ⟨f, fd, ps, hm, hk, hb, F.mono h⟩
end
end KW
namespace KW
open PySem PySem.Spec PyProof.Rows L2
/-- the module's name x holds the constant v -/
def GV (mg : Str → Option Value) (x : Str) (v : V) : Prop := ∃ u, mg x = some u ∧ RelV v u
theorem k_g {X : Cx} {x : Str} {v : V} {pos : Pos} (h : GV X.mg x v) (hg : Gl X x := by rfl) (hd : (x == ("__debug__" : Str)) = false := by decide) : PE X (.Name x pos) (tC v) := by
  obtain ⟨u, hm, r⟩ := h
  exact pe_glob hg hm r hd
/-- an object that stands by itself may be changed while all else stands -/
def But (a : Addr) (H H' : Hp) : Prop := ∀ b o, b ≠ a → H b = some o → H' b = some o
theorem But.refl {a : Addr} (H : Hp) : But a H H := fun _ _ _ h => h
theorem But.trans {a : Addr} {H H1 H2 : Hp} (x : But a H H1) (y : But a H1 H2) : But a H H2 := fun b o n h => y b o n (x b o n h)
theorem But.upd {a : Addr} {H : Hp} {o : HO} : But a H (upd H a o) := fun b _ n h => by rw [upd_ne n]; exact h
theorem But.seq {a b : Addr} {K : Frag} {H H' : Hp} {xs : List V} (e : But a H H') (n : b ≠ a) (h : SqL K H b xs) : SqL K H' b xs := by
  rcases h with (h | ⟨o, h⟩) | h
  · exact .inl (.inl (e _ _ n h))
  · exact .inl (.inr ⟨o, e _ _ n h⟩)
  · exact .inr h
end KW
namespace KW
open PySem PySem.Spec PyProof.Rows L2
/-! ### reads and stores of lists and tuples: by lemmas, not by simp -/
section
variable {K : Frag} {H : Hp} {p : Addr} {xs : List V} {i : Int} {v : V} {Q : VK}
theorem ix_l (h : H p = some (.lst xs)) (e : atI xs i = some v) (q : Q v H) : uIx K (.ref p) (.int i) H Q := ⟨xs, v, .inl (.of h), e, q⟩
theorem ix_t (h : H p = some (.tup xs)) (e : atI xs i = some v) (q : Q v H) : uIx K (.ref p) (.int i) H Q := ⟨xs, v, .inr (.of h), e, q⟩
theorem ix_sl (h : SqL K H p xs) (e : atI xs i = some v) (q : Q v H) : uIx K (.ref p) (.int i) H Q := ⟨xs, v, .inl h, e, q⟩
theorem ix_st (h : SqT K H p xs) (e : atI xs i = some v) (q : Q v H) : uIx K (.ref p) (.int i) H Q := ⟨xs, v, .inr h, e, q⟩
theorem len_l (h : H p = some (.lst xs)) (q : Q (.int xs.length) H) : uLen K [.ref p] H Q := ⟨xs, .inl (.of h), q⟩
theorem len_t (h : H p = some (.tup xs)) (q : Q (.int xs.length) H) : uLen K [.ref p] H Q := ⟨xs, .inr (.of h), q⟩
theorem len_sl (h : SqL K H p xs) (q : Q (.int xs.length) H) : uLen K [.ref p] H Q := ⟨xs, .inl h, q⟩
theorem len_st (h : SqT K H p xs) (q : Q (.int xs.length) H) : uLen K [.ref p] H Q := ⟨xs, .inr h, q⟩
end
/-- o[i] = v -/
def uSet : TSet
  | .ref p, .int k, v, H, Q => ∃ xs j, H p = some (.lst xs) ∧ ixN xs.length k = some j ∧ Q (upd H p (.lst (xs.set j v)))
  | _, _, _, _, _ => False
theorem s_set {X : Cx} : PSet X uSet := fun pins s σ H o i v ov iv u Q I ro ri rv h => by
  unfold uSet at h
  split at h
  · obtain ⟨xs, j, h1, h2, q⟩ := h
    exact set_list pins s σ H _ _ _ ov iv u Q I ro ri rv ⟨_, xs, _, j, rfl, rfl, h1, h2, q⟩
  · exact h.elim
theorem set_l {H : Hp} {p : Addr} {xs : List V} {k : Int} {j : Nat} {v : V} {Q : Hp → Prop} (h : H p = some (.lst xs)) (e : ixN xs.length k = some j) (q : Q (upd H p (.lst (xs.set j v)))) : uSet (.ref p) (.int k) v H Q := ⟨xs, j, h, e, q⟩
end KW
namespace KW
open PySem PySem.Spec PyProof.Rows L2
theorem le_line {n : Nat} (h : n ≤ 16000000) : n ≤ sizeLine := by rw [sizeLine_eq]; omega
theorem lt_line {n : Nat} (h : n ≤ 16000000) : n < sizeLine := by rw [sizeLine_eq]; omega
theorem mul_l {i j : Int} (h : -18446744073709551616 < i ∧ i < 18446744073709551616) : CMul i j ∨ CMulW i j := .inl (.inl ⟨by omega, by omega⟩)
theorem mul_r {i j : Int} (h : -18446744073709551616 < j ∧ j < 18446744073709551616) : CMul i j ∨ CMulW i j := .inl (.inr ⟨by omega, by omega⟩)
theorem div_s {i j : Int} (h : 0 < j ∧ j < 1073741824) : CDiv i j ∨ CDivW i j := .inl h
theorem pow_s {i j : Int} (h : 0 ≤ j ∧ j ≤ 1000000 ∧ -18446744073709551616 < i ∧ i < 18446744073709551616) : CPow i j := ⟨h.1, h.2.1, by omega⟩
end KW
namespace KW
open PySem PySem.Spec PyProof.Rows L2
theorem But.new {st p : Addr} {H : Hp} {o : HO} (h : H p = none) : But st H (L2.upd H p o) := fun b u _ e => by rw [upd_ne (ne_of_none e h)]; exact e
theorem SqL.new {K : Frag} {H : Hp} {sc p : Addr} {o : HO} {xs : List V} (h : H p = none) (hS : SqL K H sc xs) : SqL K (upd H p o) sc xs := by
  rcases hS with (q | ⟨o, q⟩) | q
  · exact .inl (.inl (by rw [upd_ne (ne_of_none q h)]; exact q))
  · exact .inl (.inr ⟨o, by rw [upd_ne (ne_of_none q h)]; exact q⟩)
  · exact .inr q
theorem atI_int {α : Type} {xs : List α} {r : Int} (h0 : 0 ≤ r) (h1 : r < xs.length) : ∃ v, xs[r.toNat]? = some v ∧ atI xs r = some v := by
  obtain ⟨j, rfl⟩ := Int.eq_ofNat_of_zero_le h0
  have h : j < xs.length := by omega
  exact ⟨xs[j], List.getElem?_eq_getElem h, atI_nat (List.getElem?_eq_getElem h)⟩
end KW
namespace KW
open PySem PySem.Spec PyProof.Rows L2
theorem tup_l {K : Frag} {n : Nat} {t : TGs} {a : Addr} {xs : List V} {σ : L2.St} {H : Hp} {Q : L2.St → Hp → Prop} (h : H a = some (.tup xs)) (hn : xs.length = n) (q : t xs σ H Q) : gTup K n t (.ref a) σ H Q := ⟨a, xs, rfl, .of h, hn, q⟩
theorem tup_s {K : Frag} {n : Nat} {t : TGs} {a : Addr} {xs : List V} {σ : L2.St} {H : Hp} {Q : L2.St → Hp → Prop} (h : SqT K H a xs) (hn : xs.length = n) (q : t xs σ H Q) : gTup K n t (.ref a) σ H Q := ⟨a, xs, rfl, h, hn, q⟩
end KW
namespace KW
open PySem PySem.Spec PyProof.Rows L2
section
variable {P : Program} {w : World} {K : Frag} {mg : Str → Option Value} {base : Heap}
theorem DefAt.fn {x qual : Str} {st : Stmt} {N ps : List Str} {k : Nat} {sp : Sp} (S : FnScope N ps (defScope st)) (len : ∀ vs H Q E, sp vs H Q E → vs.length = ps.length)
    (hbody : ∀ (f : Addr) (cdv : Value) (A : Around) (outer : List Env) (s : Shared) (H : Hp) (vs : List V) (Q : VK) (E : XK), Room k (A.deeper (envOfC qual (defScope st) s.heap.objs.size f cdv)) → sp vs H Q E →
      ∃ t, PSs (cxOf (L2N.CX P w) P w K mg base N qual (defScope st) f cdv A outer s H E) (defBody st) t ∧ t { nx := fun _ H' => Q .non H', rt := Q } (start N vs) H) :
    ∀ f fd, Fun K x qual st f fd → FnOk P w K mg base (L2N.CX P w) (k + 1) f fd ps sp := by
  intro f fd F
  obtain ⟨oc, od, kV, doc, pm, an, cdv, ct, osl, rfl, lk, hcd⟩ := F.ex
  exact fn_of lk hcd S len fun A outer s H vs Q E hr hsp => hbody f cdv A outer s H vs Q E hr hsp
theorem defAt_mk {x qual : Str} {st : Stmt} {ps : List Str} {h : Heap} {f : Addr} {oc : Value} {od an : Option Addr} {osl : Array (Option Value)} {kV doc pm cdv ct : Value}
    (X : K.In h) (G : h.Ns mainGlobals mg) (a : PySem.W.nsIn K mainGlobals x = some (some (.ref f)))
    (l : K.lookup f = some ⟨oc, od, .func (PySem.W.fnOf x qual (defArgs st) (defBody st) (defScope st) .none kV doc pm an cdv ct), osl⟩) (c : PySem.W.codeIn K cdv qual = true) (k : PySem.W.keepIn K (.ref f) = true)
    (hb : ∀ (kV doc pm : Value) (an : Option Addr) (cdv ct : Value) (us : List Value), us.length = ps.length → bindArgs (PySem.W.fnOf x qual (defArgs st) (defBody st) (defScope st) .none kV doc pm an cdv ct) ⟨us, []⟩ = pure (ps.zip us)) : DefAt K mg x qual st ps := by
  have F := fun_mk (st := st) l c k
  exact ⟨f, _, PySem.W.mg_of X G a, F, F.binds hb⟩
theorem gv_mk {x : Str} {v : V} {u : Value} {h : Heap} (X : K.In h) (G : h.Ns mainGlobals mg) (a : PySem.W.nsIn K mainGlobals x = some (some u)) (r : RelV v u) : GV mg x v := ⟨u, PySem.W.mg_of X G a, r⟩
/-- the law's promise: True for every list of at most 63 ints -/
def sp_law63 (K : Frag) : Sp := fun vs H Q _ => ∃ (sc : Addr) (ns : List Int), vs = [.ref sc] ∧ SqL K H sc (ns.map .int) ∧ ns.length ≤ 63 ∧ ∀ H', Q (.bl true) H'
end
theorem CX_none {P : Program} {w : World} {l : List Env} {H : Hp} {s : Shared} {e : Value} {s' : Shared} (h : L2N.CX P w l H s (fun _ _ _ => False) e s') : False := by
  obtain ⟨_, _, _, _, _, _, _, _, _, _, _, _, z⟩ := h
  exact z.elim
theorem walk63 {l : PySem.W.OpenLaw} {k : Nat} {st : Stmt} {q : Program} {loose : List Str} {XP : (Str → Option Value) → Heap → Prop} {YP : World → Heap → Prop} {d : DefRec} {K : Params → PySem.W.Frag} (hn : l.most = some 63) (hdf : d.params.defaults = []) (hd : d.name = "law") (hr : Room k callerA)
    (hY : ∀ (w : World) (h : Heap), YP w h → (K w.params).In h)
    (hb : ∀ (kV doc pm : Value) (an : Option Addr) (cdv ct : Value) (us : List Value), us.length = ["script"].length → bindArgs (PySem.W.fnOf "law" "law" (defArgs st) (defBody st) (defScope st) .none kV doc pm an cdv ct) ⟨us, []⟩ = pure ((["script"] : List Str).zip us))
    (F : ∀ (w : World) (mg : Str → Option Value) (h : Heap), (K w.params).In h → h.Ns mainGlobals mg →
      DefAt (K w.params) mg "law" "law" st ["script"] ∧ ∀ base f fd, Fun (K w.params) "law" "law" st f fd → FnOk l.prog w (K w.params) mg base (L2N.CX l.prog w) k f fd ["script"] (sp_law63 (K w.params))) :
    PySem.W.WalkO q loose XP YP l.row.toRowW d [] (fun f vs => PySem.call f vs) := by
  refine L2.walk_of (n := 63) (k := k) (x := "script") (CX := fun w => L2N.CX l.prog w) (sp := fun w => sp_law63 (K w.params)) hn (by decide) hdf hr hY ?_ (fun _ _ a ns hl _ hS => ⟨a, ns, rfl, hS, hl, fun _ => rfl⟩) fun _ _ _ _ _ h => CX_none h
  intro w mg fa h KX G hmg
  obtain ⟨D, ok⟩ := F w mg h KX G
  obtain ⟨f, fd, hm, Fu, _⟩ := D.ex
  rw [hd, hm] at hmg
  cases hmg
  have Fu' := Fu
  obtain ⟨oc, od, kV, doc, pm, an, cdv, ct, osl, rfl, lk, hcd⟩ := Fu.ex
  exact ⟨_, fun s u => .of_eq (hb kV doc pm an cdv ct [u] rfl), fun base _ _ => ok base _ _ Fu'⟩
end KW
/-! ### case lemmas -/
namespace KW
open PySem PySem.Spec PyProof.Rows L2
theorem uAdd_e1 {K : Frag} {i : Int} {j : Int} {H : Hp} {Q : VK} : uAdd K (.int i) (.int j) H Q = (Q (.int (i + j)) H) := rfl
theorem uAdd_e2 {K : Frag} {i : Str} {j : Str} {H : Hp} {Q : VK} : uAdd K (.str i) (.str j) H Q = (i.length + j.length ≤ sizeLine ∧ Q (.str (i ++ j)) H) := rfl
theorem uAdd_e3 {K : Frag} {a : Addr} {b : Addr} {H : Hp} {Q : VK} : uAdd K (.ref a) (.ref b) H Q = (rCat (.ref a) (.ref b) H Q ∨ rCatT K (.ref a) (.ref b) H Q) := rfl
theorem uSub_e1 {i : Int} {j : Int} {H : Hp} {Q : VK} : uSub (.int i) (.int j) H Q = (Q (.int (i - j)) H) := rfl
theorem uMul_e1 {i : Int} {j : Int} {H : Hp} {Q : VK} : uMul (.int i) (.int j) H Q = ((CMul i j ∨ CMulW i j) ∧ Q (.int (i * j)) H) := rfl
theorem uMul_e2 {l : Addr} {k : Int} {H : Hp} {Q : VK} : uMul (.ref l) (.int k) H Q = (rRep (.ref l) (.int k) H Q) := rfl
theorem uMod_e1 {i : Int} {j : Int} {H : Hp} {Q : VK} : uMod (.int i) (.int j) H Q = (0 < j ∧ Q (.int (i % j)) H) := rfl
theorem uDiv_e1 {i : Int} {j : Int} {H : Hp} {Q : VK} : uDiv (.int i) (.int j) H Q = ((CDiv i j ∨ CDivW i j) ∧ Q (.int (i / j)) H) := rfl
theorem uPow_e1 {i : Int} {j : Int} {H : Hp} {Q : VK} : uPow (.int i) (.int j) H Q = (CPow i j ∧ Q (.int (i ^ j.toNat)) H) := rfl
theorem uShl_e1 {i : Int} {j : Int} {H : Hp} {Q : VK} : uShl (.int i) (.int j) H Q = (CPow i j ∧ Q (.int (i * 2 ^ j.toNat)) H) := rfl
theorem uNeg_e1 {i : Int} {H : Hp} {Q : VK} : uNeg (.int i) H Q = (Q (.int (-i)) H) := rfl
theorem uIAdd_e1 {i : Int} {j : Int} {H : Hp} {Q : VK} : uIAdd (.int i) (.int j) H Q = (Q (.int (i + j)) H) := rfl
theorem uIAdd_e2 {i : Str} {j : Str} {H : Hp} {Q : VK} : uIAdd (.str i) (.str j) H Q = (i.length + j.length ≤ sizeLine ∧ Q (.str (i ++ j)) H) := rfl
theorem uIAdd_e3 {a : Addr} {b : Addr} {H : Hp} {Q : VK} : uIAdd (.ref a) (.ref b) H Q = (rExt2 (.ref a) (.ref b) H Q) := rfl
theorem uISub_e1 {i : Int} {j : Int} {H : Hp} {Q : VK} : uISub (.int i) (.int j) H Q = (Q (.int (i - j)) H) := rfl
theorem uLt_e1 {i : Int} {j : Int} {H : Hp} {Q : VK} : uLt (.int i) (.int j) H Q = (Q (.bl (decide (i < j))) H) := rfl
theorem uLt_e2 {i : Str} {j : Str} {H : Hp} {Q : VK} : uLt (.str i) (.str j) H Q = (Q (.bl (decide (i.cps.toList < j.cps.toList))) H) := rfl
theorem uLe_e1 {i : Int} {j : Int} {H : Hp} {Q : VK} : uLe (.int i) (.int j) H Q = (Q (.bl (decide (i ≤ j))) H) := rfl
theorem uGt_e1 {i : Int} {j : Int} {H : Hp} {Q : VK} : uGt (.int i) (.int j) H Q = (Q (.bl (decide (j < i))) H) := rfl
theorem uGe_e1 {i : Int} {j : Int} {H : Hp} {Q : VK} : uGe (.int i) (.int j) H Q = (Q (.bl (decide (j ≤ i))) H) := rfl
theorem uEq_e1 {K : Frag} {i : Int} {j : Int} {H : Hp} {Q : VK} : uEq K (.int i) (.int j) H Q = (Q (.bl (decide (i = j))) H) := rfl
theorem uEq_e2 {K : Frag} {i : Str} {j : Str} {H : Hp} {Q : VK} : uEq K (.str i) (.str j) H Q = (Q (.bl (decide (i = j))) H) := rfl
theorem uEq_e3 {K : Frag} {i : Bool} {j : Bool} {H : Hp} {Q : VK} : uEq K (.bl i) (.bl j) H Q = (Q (.bl (decide (i = j))) H) := rfl
theorem uEq_e4 {K : Frag} {H : Hp} {Q : VK} : uEq K (.non) (.non) H Q = (Q (.bl true) H) := rfl
theorem uEq_e5 {K : Frag} {w1 : Int} {w2 : Str} {H : Hp} {Q : VK} : uEq K (.int w1) (.str w2) H Q = (Q (.bl false) H) := rfl
theorem uEq_e6 {K : Frag} {w1 : Str} {w2 : Int} {H : Hp} {Q : VK} : uEq K (.str w1) (.int w2) H Q = (Q (.bl false) H) := rfl
theorem uEq_e7 {K : Frag} {w1 : Int} {H : Hp} {Q : VK} : uEq K (.int w1) (.non) H Q = (Q (.bl false) H) := rfl
theorem uEq_e8 {K : Frag} {w1 : Int} {H : Hp} {Q : VK} : uEq K (.non) (.int w1) H Q = (Q (.bl false) H) := rfl
theorem uEq_e9 {K : Frag} {w1 : Str} {H : Hp} {Q : VK} : uEq K (.str w1) (.non) H Q = (Q (.bl false) H) := rfl
theorem uEq_e10 {K : Frag} {w1 : Str} {H : Hp} {Q : VK} : uEq K (.non) (.str w1) H Q = (Q (.bl false) H) := rfl
theorem uEq_e11 {K : Frag} {a : Addr} {b : Addr} {H : Hp} {Q : VK} : uEq K (.ref a) (.ref b) H Q = (rEqD K (.ref a) (.ref b) H Q) := rfl
theorem uNe_e1 {K : Frag} {i : Int} {j : Int} {H : Hp} {Q : VK} : uNe K (.int i) (.int j) H Q = (Q (.bl (!decide (i = j))) H) := rfl
theorem uNe_e2 {K : Frag} {i : Str} {j : Str} {H : Hp} {Q : VK} : uNe K (.str i) (.str j) H Q = (Q (.bl (!decide (i = j))) H) := rfl
theorem uNe_e3 {K : Frag} {i : Bool} {j : Bool} {H : Hp} {Q : VK} : uNe K (.bl i) (.bl j) H Q = (Q (.bl (!decide (i = j))) H) := rfl
theorem uNe_e4 {K : Frag} {H : Hp} {Q : VK} : uNe K (.non) (.non) H Q = (Q (.bl false) H) := rfl
theorem uNe_e5 {K : Frag} {w1 : Int} {w2 : Str} {H : Hp} {Q : VK} : uNe K (.int w1) (.str w2) H Q = (Q (.bl true) H) := rfl
theorem uNe_e6 {K : Frag} {w1 : Str} {w2 : Int} {H : Hp} {Q : VK} : uNe K (.str w1) (.int w2) H Q = (Q (.bl true) H) := rfl
theorem uNe_e7 {K : Frag} {w1 : Int} {H : Hp} {Q : VK} : uNe K (.int w1) (.non) H Q = (Q (.bl true) H) := rfl
theorem uNe_e8 {K : Frag} {w1 : Int} {H : Hp} {Q : VK} : uNe K (.non) (.int w1) H Q = (Q (.bl true) H) := rfl
theorem uNe_e9 {K : Frag} {w1 : Str} {H : Hp} {Q : VK} : uNe K (.str w1) (.non) H Q = (Q (.bl true) H) := rfl
theorem uNe_e10 {K : Frag} {w1 : Str} {H : Hp} {Q : VK} : uNe K (.non) (.str w1) H Q = (Q (.bl true) H) := rfl
theorem uNe_e11 {K : Frag} {a : Addr} {b : Addr} {H : Hp} {Q : VK} : uNe K (.ref a) (.ref b) H Q = (rNeD K (.ref a) (.ref b) H Q) := rfl
theorem uIs_e1 {H : Hp} {Q : VK} : uIs (.non) (.non) H Q = (Q (.bl true) H) := rfl
theorem uIs_e2 {w1 : Int} {H : Hp} {Q : VK} : uIs (.int w1) (.non) H Q = (Q (.bl false) H) := rfl
theorem uIs_e3 {w1 : Str} {H : Hp} {Q : VK} : uIs (.str w1) (.non) H Q = (Q (.bl false) H) := rfl
theorem uIs_e4 {w1 : Addr} {H : Hp} {Q : VK} : uIs (.ref w1) (.non) H Q = (Q (.bl false) H) := rfl
theorem uIs_e5 {w1 : Bool} {H : Hp} {Q : VK} : uIs (.bl w1) (.non) H Q = (Q (.bl false) H) := rfl
theorem uIs_e6 {a : Bool} {b : Bool} {H : Hp} {Q : VK} : uIs (.bl a) (.bl b) H Q = (Q (.bl (decide (a = b))) H) := rfl
theorem uIs_e7 {a : Int} {b : Bool} {H : Hp} {Q : VK} : uIs (.int a) (.bl b) H Q = (Q (.bl false) H) := rfl
theorem uNotIs_e1 {H : Hp} {Q : VK} : uNotIs (.non) (.non) H Q = (Q (.bl false) H) := rfl
theorem uNotIs_e2 {w1 : Int} {H : Hp} {Q : VK} : uNotIs (.int w1) (.non) H Q = (Q (.bl true) H) := rfl
theorem uNotIs_e3 {w1 : Str} {H : Hp} {Q : VK} : uNotIs (.str w1) (.non) H Q = (Q (.bl true) H) := rfl
theorem uNotIs_e4 {w1 : Addr} {H : Hp} {Q : VK} : uNotIs (.ref w1) (.non) H Q = (Q (.bl true) H) := rfl
theorem uNotIs_e5 {w1 : Bool} {H : Hp} {Q : VK} : uNotIs (.bl w1) (.non) H Q = (Q (.bl true) H) := rfl
theorem uNotIs_e6 {a : Bool} {b : Bool} {H : Hp} {Q : VK} : uNotIs (.bl a) (.bl b) H Q = (Q (.bl (!decide (a = b))) H) := rfl
theorem uIn_e1 {K : Frag} {i : Str} {j : Str} {H : Hp} {Q : VK} : uIn K (.str i) (.str j) H Q = (Q (.bl (subStr i j)) H) := rfl
theorem uIn_e2 {K : Frag} {i : Int} {p : Addr} {H : Hp} {Q : VK} : uIn K (.int i) (.ref p) H Q = (rIn K false (.int i) (.ref p) H Q) := rfl
theorem uIn_e3 {K : Frag} {i : Str} {p : Addr} {H : Hp} {Q : VK} : uIn K (.str i) (.ref p) H Q = (rIn K false (.str i) (.ref p) H Q) := rfl
theorem uIn_e4 {K : Frag} {p : Addr} {H : Hp} {Q : VK} : uIn K (.non) (.ref p) H Q = (rIn K false .non (.ref p) H Q) := rfl
theorem uNotIn_e1 {K : Frag} {i : Str} {j : Str} {H : Hp} {Q : VK} : uNotIn K (.str i) (.str j) H Q = (Q (.bl (!subStr i j)) H) := rfl
theorem uNotIn_e2 {K : Frag} {i : Int} {p : Addr} {H : Hp} {Q : VK} : uNotIn K (.int i) (.ref p) H Q = (rIn K true (.int i) (.ref p) H Q) := rfl
theorem uNotIn_e3 {K : Frag} {i : Str} {p : Addr} {H : Hp} {Q : VK} : uNotIn K (.str i) (.ref p) H Q = (rIn K true (.str i) (.ref p) H Q) := rfl
theorem uNotIn_e4 {K : Frag} {p : Addr} {H : Hp} {Q : VK} : uNotIn K (.non) (.ref p) H Q = (rIn K true .non (.ref p) H Q) := rfl
theorem uTru_e1 {K : Frag} {w1 : Hp} {k : Bool → Prop} : uTru K (.non) w1 k = (k false) := rfl
theorem uTru_e2 {K : Frag} {b : Bool} {w1 : Hp} {k : Bool → Prop} : uTru K (.bl b) w1 k = (k b) := rfl
theorem uTru_e3 {K : Frag} {i : Int} {w1 : Hp} {k : Bool → Prop} : uTru K (.int i) w1 k = (k (i != 0)) := rfl
theorem uTru_e4 {K : Frag} {y : Str} {w1 : Hp} {k : Bool → Prop} : uTru K (.str y) w1 k = (y.length ≤ sizeLine ∧ k ((y.length : Int) != 0)) := rfl
theorem uTru_e5 {K : Frag} {p : Addr} {H : Hp} {k : Bool → Prop} : uTru K (.ref p) H k = (∃ b, TruV K (.ref p) H b ∧ k b) := rfl
theorem uIx_e1 {K : Frag} {p : Addr} {i : Int} {H : Hp} {Q : VK} : uIx K (.ref p) (.int i) H Q = (∃ xs v, (SqL K H p xs ∨ SqT K H p xs) ∧ atI xs i = some v ∧ Q v H) := rfl
theorem uIx_e2 {K : Frag} {z : Str} {i : Int} {H : Hp} {Q : VK} : uIx K (.str z) (.int i) H Q = (z.length ≤ sizeLine ∧ ∃ c, atI z.cps.toList i = some c ∧ Q (.str (S [c])) H) := rfl
theorem uSl_e1 {K : Frag} {a : Addr} {lo : Option Int} {hi : Option Int} {H : Hp} {Q : VK} : uSl K (.ref a) lo hi H Q = (rSlL K (.ref a) lo hi H Q ∨ rSlT K (.ref a) lo hi H Q) := rfl
theorem uSl_e2 {K : Frag} {z : Str} {lo : Option Int} {hi : Option Int} {H : Hp} {Q : VK} : uSl K (.str z) lo hi H Q = (z.length ≤ sizeLine ∧ Q (.str (cutS z lo hi)) H) := rfl
theorem uLen_e1 {K : Frag} {y : Str} {H : Hp} {Q : VK} : uLen K [.str y] H Q = (y.length ≤ sizeLine ∧ Q (.int y.length) H) := rfl
theorem uLen_e2 {K : Frag} {p : Addr} {H : Hp} {Q : VK} : uLen K [.ref p] H Q = (∃ xs, (SqL K H p xs ∨ SqT K H p xs) ∧ Q (.int xs.length) H) := rfl
theorem uAbs_e1 {i : Int} {H : Hp} {Q : VK} : uAbs [.int i] H Q = (Q (.int (if i < 0 then -i else i)) H) := rfl
theorem uInt_e1 {i : Int} {H : Hp} {Q : VK} : uInt [.int i] H Q = (Q (.int i) H) := rfl
theorem uInt_e2 {k : Bool} {H : Hp} {Q : VK} : uInt [.bl k] H Q = (Q (.int (if k then 1 else 0)) H) := rfl
theorem uMin2_e1 {i : Int} {j : Int} {H : Hp} {Q : VK} : uMin2 [.int i, .int j] H Q = (Q (.int (if j < i then j else i)) H) := rfl
theorem uIsi_e1 {K : Frag} {n : String} {H : Hp} {Q : VK} : uIsi K [.non, .ty n] H Q = (isOk "NoneType" n = true ∧ Q (.bl (isK "NoneType" n)) H) := rfl
theorem uIsi_e2 {K : Frag} {w1 : Bool} {n : String} {H : Hp} {Q : VK} : uIsi K [.bl w1, .ty n] H Q = (isOk "bool" n = true ∧ Q (.bl (isK "bool" n)) H) := rfl
theorem uIsi_e3 {K : Frag} {w1 : Int} {n : String} {H : Hp} {Q : VK} : uIsi K [.int w1, .ty n] H Q = (isOk "int" n = true ∧ Q (.bl (isK "int" n)) H) := rfl
theorem uIsi_e4 {K : Frag} {w1 : Str} {n : String} {H : Hp} {Q : VK} : uIsi K [.str w1, .ty n] H Q = (isOk "str" n = true ∧ Q (.bl (isK "str" n)) H) := rfl
theorem uIsi_e5 {K : Frag} {p : Addr} {n : String} {H : Hp} {Q : VK} : uIsi K [.ref p, .ty n] H Q = (∃ T, TyX K H (.ref p) (.type T) ∧ isOk T n = true ∧ Q (.bl (isK T n)) H) := rfl
theorem cx_K {CX : CXT} {P : Program} {w : World} {K : Frag} {mg : Str → Option Value} {base : Heap} {N : List Str} {qual : Str} {scope : Scope} {f : Addr} {cd : Value} {A : Around} {outer : List Env} {s : Shared} {H : Hp} {E : XK} : (cxOf CX P w K mg base N qual scope f cd A outer s H E).K = K := rfl
theorem uVar_s {i : Nat} {σ : L2.St} {H : Hp} {Q : VK} {v : V} (h : σ[i]? = some (some v)) : uVar i σ H Q = Q v H := by unfold uVar; rw [h]
theorem uVar_0 {a : V} {l : L2.St} {H : Hp} {Q : VK} : uVar 0 (some a :: l) H Q = Q a H := rfl
theorem uVar_n {i : Nat} {a : Option V} {l : L2.St} {H : Hp} {Q : VK} : uVar (i + 1) (a :: l) H Q = uVar i l H Q := rfl
end KW

set_option Elab.async false
set_option linter.all false
set_option maxRecDepth 100000
set_option maxHeartbeats 4000000
/-! KErr: own exception classes whose __init__(self, f) says super().__init__(str(f)); self.f = f -/
namespace PySem
namespace KErr
open PySem.W PySem.Calls PyProof.Rows PySem.HandSPX
/-- str(v) is made: some text -/
def StrOk (prog : Program) (w : World) (v : Value) : Prop := ∀ (A : Around) (s : Shared) (Q : Value → Shared → Prop) (E : Value → Shared → Prop), A.handled = none → s.heap.NoDigits → (∀ txt tk k, Q (.str txt tk) { s with toks := k }) → wpAny (model prog w) A (call (.type "str") [v]) Q E s
theorem strOk_int {prog : Program} {w : World} {n : Int} {t : Tok} (h : n.natAbs < 10 ^ 4300) : StrOk prog w (.int n t) := fun A s Q E hh hn q => str_of_int_or hh hn (fun _ => q _ _ _) fun z => absurd h (Nat.not_lt.mpr z)
theorem one_size (v : Value) : [v].length ≤ sizeLine := by
  rw [sizeLine_eq]
  exact (by decide : 1 ≤ 16777216)
theorem kept_but {K : Frag} {h h' : Heap} {x : Addr} (X : K.In h) (hx : K.lookup x = none) (k : ∀ b o, b ≠ x → h.get? b = some o → h'.get? b = some o) : K.In h' := fun a o e =>
  k a o (fun z => by rw [z, hx] at e; cases e) (X a o e)
structure InitEnd (h h' : Heap) (x C dx t1 : Addr) (f : Str) (v : Value) : Prop where
  keep : ∀ b o, b ≠ x → h.get? b = some o → h'.get? b = some o
  obj : h'.get? x = some { cls := .ref C, dict := some dx, data := .fields #[.ref t1, .none, .none, .none, .bool false, .none] }
  dbig : h.objs.size ≤ dx
  dne : dx ≠ x
  ns : h'.Ns1 dx (fun y => if y = f then some v else none)
section
variable {prog : Program} {w : World} {A : Around} {E : Value → Shared → Prop} {h : Heap} {g : Array GenState} {d : Drawn} {t : Nat} {os : OsState}
variable {nm q : Str} {C N : Addr} {bs bm : List Value} {hdct : Bool} {sn : List Str} {sub : List Value} {ab : Bool} {col : Option Bool} {dd : Option Addr} {k0 k1 k2 k3 k5 : Option Value}
theorem init_call {u e t0 : Addr} {rest : List Value} {Q : Value → Shared → Prop}
    (hC : h.get? C = some (excClassObj nm q C N bs bm hdct sn sub ab col dd k0 k1 k2 k3 k5 "ValueError.__new__")) (he : h.get? e = some (excO C t0)) (hu : h.get? u = some (kxs_mw "ValueError.__init__" e)) (hrest : rest.length ≤ sizeLine)
    (hq : ∀ h' t1, (∀ b o, b ≠ e → h.get? b = some o → h'.get? b = some o) → h'.get? e = some (excO C t1) → Q .none ⟨h', g, d, t, os⟩) :
    wpAny (model prog w) A (call (.ref u) rest) Q E ⟨h, g, d, t, os⟩ := by
  have FB := F.excBase_ValueError
  refine wpAny_call (codeAny_of_tree ?_)
  show wpAny _ A.in1 (callAny (.ref u) ⟨rest, []⟩) _ _ _
  simp only [callAny]
  refine wpAny_bind (wpAny_load hu ?_)
  simp only [kxs_mw, show (Value.type "method-wrapper" == Value.type "method" || Value.type "method-wrapper" == Value.type "builtin_function_or_method" || Value.type "method-wrapper" == Value.type "method-wrapper") = true by decide, if_true]
  refine KFB.if_so (by decide) ?_
  refine wpAny_bind (check_bound_init FB.toExcCallFacts hC he rfl ?_)
  refine wpAny_bind (wpAny_pure (wpAny_pure ?_))
  refine ⟨plainId_quiet FB.init.plain _, codeAny_builtin FB.initEntry ?_⟩
  rw [Around.under_plainId FB.init.plain _]
  exact exc_init_tree (cls := .ref C) (t0 := t0) (dv := none) (c2 := .none) (c3 := .none) (b4 := .bool false) he hrest (fun h' k e' _ => hq h' _ k e')
end
/-- a made own error -/
structure OwnMade (h h' : Heap) (e C d : Addr) (fs : List (Str × Value)) : Prop where
  keep : ∀ b o, h.get? b = some o → h'.get? b = some o
  new : h.objs.size ≤ e
  obj : ∃ oe vs, h'.get? e = some oe ∧ oe.cls = .ref C ∧ oe.dict = some d ∧ oe.data = .fields vs ∧ vs[1]? = some .none ∧ vs[2]? = some .none
  dbig : h.objs.size ≤ d
  dne : d ≠ e
  ns : h'.Ns1 d (fun y => fs.lookup y)
/-- C(us): made, where us are the values of vs and ok vs -/
def Mkd (prog : Program) (w : World) (K : Frag) (mg : Str → Option Value) (C : Addr) (ns : List Str) (ok : List L2.V → Prop) : Prop :=
  ∀ {A : Around} {s : Shared} {R : Result → Shared → Prop} {vs : List L2.V} {us : List Value}, L2.Vals vs us → ok vs → K.In s.heap → s.heap.NoLimit → s.heap.Ns mainGlobals mg → (∃ mb, s.heap.Ns builtinsNs mb ∧ ∀ x : Str, x ≠ "__name__" → mb x = bootBuiltins x) → A.handled = none → A.depth + 1 < recursionLimit →
    (∀ h' tk e d, OwnMade s.heap h' e C d (ns.zip us) → R (.ok (.ret (.ref e))) { s with heap := h', toks := tk }) → codeAny (model prog w) A (.call (.ref C) ⟨us, []⟩) R s
/-- str of the value is some text -/
def okS : L2.V → Prop
  | .int n => n.natAbs < 10 ^ 4300
  | .str _ => True
  | _ => False
theorem strOk_str {prog : Program} {w : World} {x : Str} {t : Tok} : StrOk prog w (.str x t) := fun _ _ _ _ _ _ q => PySem.P.str_of_str (q _ _ _)
theorem okS_ok {prog : Program} {w : World} {v : L2.V} {u : Value} (r : L2.RelV v u) (h : okS v) : StrOk prog w u := by
  cases v <;> simp only [okS] at h
  · obtain ⟨t, rfl⟩ := r
    exact strOk_int h
  · obtain ⟨t, rfl⟩ := r
    exact strOk_str
end KErr
end PySem

set_option Elab.async false
set_option linter.all false
set_option maxRecDepth 100000
set_option maxHeartbeats 4000000
/-! Kw2a: errors at the readings' level: made, raised, caught, asked -/
namespace PySem.W
open PySem PySem.Spec PySem.Calls PyProof.Rows
section
variable {prog : Program} {w : World} {A : Around} {E : Value → Shared → Prop} {s : Shared} {K : Frag} {x D : Addr} {ox : Obj} {od : Option Obj}
theorem kw_findCls {C : Addr} {name : Str} {a g : Value} (hc : (clsIn K C).isSome = true) (ha : findIn K (.ref C) name = some (some a)) (hg : specialIn K a "__get__" = some (some g)) (ht : takesIn K a = some true) : findObj K C od name = some (.bind g a) := by
  obtain ⟨cd, hc⟩ := Option.isSome_iff_exists.mp hc
  unfold findObj
  rw [hc, Option.bind_some, ha, Option.bind_some]
  simp [hg, ht]
/-- the class of an own error, asked by __class__, whatever its own dict holds -/
theorem kw_class {Q : Option Value → Shared → Prop} (C : L2.ExcC K D) (X : K.In s.heap) (I : InstAt s.heap x ox D od) (h : Q (some (.ref D)) { s with toks := s.toks + 1 }) : wpAny (model prog w) A (getAttr? (.ref x) "__class__") Q E s := by
  have hf : findObj K D od "__class__" = some (.bind (.builtin "getset_descriptor.__get__") (.builtin "object.__class__")) := kw_findCls (by obtain ⟨cd, hc, _⟩ := any_some C.hd; rw [hc]; rfl) C.ha C.hn C.ht
  obtain ⟨hp, g, d, t, os⟩ := s
  have L0 := I.type (M := model prog w)
  have L1 := looks_findIn (M := model prog w) X C.hg
  have L2 := looks_findIn (M := model prog w) X C.hk
  have L3 := looks_find (M := model prog w) X I hf
  have sub : Looks (model prog w) hp (isInstance (.ref x) (.type "BaseException")) true := L0.andThen (looks_subIn X C.hs)
  have hx2 : (Value.builtin "BaseException.__getattribute__" == Value.builtin "object.__getattribute__") = false := by decide +kernel
  have hx1 : (onTheHeap (Value.ref D) && Value.builtin "BaseException.__getattribute__" == Value.builtin "object.__getattribute__") = false := by rw [hx2]; rfl
  have hx0 : (false && onTheHeap (Value.builtin "BaseException.__getattribute__")) = false := rfl
  unfold getAttr? getAttrBy? getAttrBy
  refine wpAny_bind (wpAny_mkText (wpAny_bind (wpAny_attempt (wpAny_holding (wpAny_bind (L0.at (wpAny_bind (L1.at ?_))))))))
  show wpAny _ _ (if (onTheHeap (Value.ref D) && Value.builtin "BaseException.__getattribute__" == Value.builtin "object.__getattribute__") = true then _ else _) _ _ _
  rw [hx1, if_neg Bool.false_ne_true]
  unfold getAttrByItsOwn hookBefore
  refine wpAny_bind ?_
  rw [if_pos (show onTheHeap (Value.ref D) = true from rfl)]
  refine L2.at ?_
  refine wpAny_bind (wpAny_attempt (wpAny_holding ?_))
  unfold callGetattribute
  rw [hx0, if_neg Bool.false_ne_true]
  unfold boundAndCalled
  rw [PySem.F.excAttr_ValueError.ga.bind (.ref x)]
  refine wpAny_bind (wpAny_pure ?_)
  refine wpAny_call (codeAny_call_builtin PySem.F.excAttr_ValueError.ga.plain PySem.F.entry_bexc_ga ?_)
  refine @check_slot (model prog w) _ _ ⟨hp, g, d, t + 1, os⟩ "BaseException.__getattribute__" "BaseException" "__getattribute__" (.ref x) [.str "__class__" t] [] _ (by decide +kernel) (by decide +kernel) sub (PySem.F.args_bexc_ga (.ref x) (.str "__class__" t)) ?_
  unfold Builtin.«object.__getattribute__»
  refine wpAny_bind (wpAny_of_eq (a := ((Value.ref x : Value), [Value.str "__class__" t])) (by first | rfl | (simp only [slotArgs]; rfl)) ?_)
  refine wpAny_bind (wpAny_pure (wpAny_bind (L0.at (wpAny_bind (L3.at ?_)))))
  refine wpAny_bind (wpAny_holding (wpAny_call (class_get (s := ⟨hp, g, d, t + 1, os⟩) (ox := ox) (od := od) X I C.hm ?_)))
  refine wpAny_pure ?_
  show wpAny _ _ (handedOut (.ref D)) _ _ _
  rw [handedOut_of (v := .ref D) rfl]
  first
    | exact wpAny_pure (wpAny_pure h)
    | exact wpAny_pure h
    | exact wpAny_pure (wpAny_bind (wpAny_pure (wpAny_pure h)))
theorem kw_kitx (C : L2.ExcC K D) : KitX K (.ref x) (.ref D) (fun h => InstAt h x ox D od) where
  ty := fun _ _ _ I => I.type
  it := fun _ _ X _ => by
    obtain ⟨cdD, hcD, _⟩ := any_some C.hd
    unfold clsIn at hcD
    split at hcD
    · rename_i c' d' cd' sl' ho
      intro A' Q' E' s' k q
      unfold isType loadHead
      exact wpAny_bind (wpAny_loadPart (k _ _ (X _ _ ho)) (wpAny_pure q))
    · cases hcD
  ne := fun h tp dd its n sl X htp => by
    obtain ⟨cdD, hcD, _⟩ := any_some C.hd
    refine Bool.eq_false_iff.mpr fun q => ?_
    have e : D = tp := Value.ref.inj (beq_iff_eq.mp q)
    subst e
    unfold clsIn at hcD
    split at hcD
    · rename_i c' d' cd' sl' ho
      have z := (X _ _ ho).symm.trans htp
      cases z
    · cases hcD
  ca := fun X I k => kw_class C X I k
end
end PySem.W
namespace KW
open PySem PySem.Spec PyProof.Rows L2
/-- an own error class of the text: x its name, C its place, ns its fields, ok what its arguments must be -/
structure ErrC (P : Program) (w : World) (K : Frag) (mg : Str → Option Value) (x : Str) (C : Addr) (ns : List Str) (ok : List V → Prop) : Prop where
  gC : mg x = some (.ref C)
  made : PySem.KErr.Mkd P w K mg C ns ok
  kC : PySem.W.keepIn K (.ref C) = true
  exC : PySem.W.subIn K (.ref C) (.type "BaseException") = some true
  tyC : PySem.W.typeIn K (.ref C) = some (.type "type")
  xf : XfC K C
  is : ExcC K C
  no : ∀ f ∈ ns, PySem.W.findIn K (.ref C) f = some none
section
variable {X : Cx} {x : Str} {C : Addr} {ns : List Str} {ok : List V → Prop}
theorem relO_zip : ∀ {ns : List Str} {vs : List V} {us : List Value}, Vals vs us → ∀ f, RelO (List.lookup f (ns.zip vs)) (List.lookup f (ns.zip us))
  | [], _, _, _, f => by simp [List.lookup, RelO]
  | n :: ns, _, _, .nil, f => by simp [List.lookup, RelO]
  | n :: ns, _, _, .cons r rs, f => by
    rw [List.zip_cons_cons, List.zip_cons_cons]
    by_cases h : f = n
    · subst h
      simp only [List.lookup, beq_self_eq_true]
      exact r
    · have q : (f == n) = false := by simpa using h
      simp only [List.lookup, q]
      exact relO_zip rs f
/-- x(args): the error made -/
def uMk (C : Addr) (ns : List Str) (ok : List V → Prop) (t : TA) : L2.St → Hp → XK → Prop := fun σ H Q => t σ H fun vs H1 => ok vs ∧ ∀ d, H1 d = none → Q (.ref C) (some d) (upd H1 d (.xd (ns.zip vs)))
theorem k_mk {e : Expr} {es : List Expr} {t : TA} {p pos : Pos} {k : Nat} (T : ErrC X.prog X.w X.K X.mg x C ns ok) (hr : Room k X.A) (ha : PA X (e :: es) t) (hg : Gl X x := by rfl) (hdb : (x == ("__debug__" : Str)) = false := by decide)
    (he : starEach (e :: es) X.env = (false, eval e X.env) :: starEach es X.env := by rfl) (hpl : (backTo pos (starEach es X.env)).any (·.1) = false := by rfl) : L2N.PMk X (.Call (.Name x p) (e :: es) [] pos) (uMk C ns ok t) := by
  intro pins s σ H Q I h
  refine wpAny_Call_Name_kw (ld_glob I hg T.gC ?_ hdb)
  refine PySem.W.callWith_K (h₀ := X.base) I.ok.mod.kin T.kC (thn (ha.run pos pins s σ H _ I h) fun us s1 hh => ?_) he hpl
  obtain ⟨vs, H1, I1, r1, okv, q1⟩ := hh
  refine ⟨I1.kIn, ?_⟩
  show wpAny _ _ (call (.ref C) us) _ _ _
  have hlim := I1.nolimit
  have G := I1.mod.glob.keeps I1.bk
  have B : ∃ mb, s1.heap.Ns builtinsNs mb ∧ ∀ x : Str, x ≠ "__name__" → mb x = bootBuiltins x := by
    obtain ⟨mb, h1, h2⟩ := I1.mod.blt
    exact ⟨mb, h1.keeps I1.bk, h2⟩
  obtain ⟨hp, g, dr, tk, os⟩ := s1
  refine wpAny_call (T.made r1 okv I1.kIn hlim G B (by exact hr.hd) (by show X.A.depth + 1 < _; have := hr.dp; omega) fun h' tk' e d M => ?_)
  show L2N.MkP X pins σ Q (.ref e) ⟨h', g, dr, tk', os⟩
  obtain ⟨oe, fv, hoe, hc, hd, hdat, h1, h2⟩ := M.obj
  have hns := M.ns
  obtain ⟨G', g1, g2⟩ := restrict h' fun b => decide (b ≠ e)
  have gk : ∀ b, b ≠ e → G'.get? b = h'.get? b := fun b hb => g1 b (decide_eq_true hb)
  have ge : G'.get? e = none := g2 e (by simp)
  have old : ∀ b o, hp.get? b = some o → G'.get? b = some o := fun b o q => (gk b (Nat.ne_of_lt (Nat.lt_of_lt_of_le (Heap.lt_size q) M.new))).trans (M.keep b o q)
  have ob : ObjOk X.prog X.w (upd H1 d (.xd (ns.zip vs))) G' d (.xd (ns.zip vs)) := ⟨_, hns.at (fun o q => (gk d M.dne).trans q), fun f => relO_zip r1 f⟩
  have J : Inv X pins σ (upd H1 d (.xd (ns.zip vs))) ⟨G', g, dr, tk', os⟩ := I1.laid (t' := tk') old M.dbig ob
  refine ⟨e, oe, fv, ⟨G', g, dr, tk', os⟩, _, .ref C, some d, rfl, J, fun b o q => ?_, ge, hoe, ⟨hc, hd, fun vs' e' => by rw [hdat] at e'; cases e'; exact h2⟩, hdat, h1, ?_, rfl, I1.bare, raises_own T.exC T.tyC, q1 d (I1.hok.fresh M.dbig)⟩
  · by_cases hb : b = e
    · have q' : G'.get? b = some o := q
      rw [hb, ge] at q'; cases q'
    · exact (gk b hb).symm.trans q
  · rw [upd_ne (Ne.symm M.dne)]
    exact I1.hok.fresh M.new
/-- raise x(..) -/
def uRaise (W : WX) (t : L2.St → Hp → XK → Prop) : TS := fun _ σ H => t σ H fun cls d H' => W cls d σ H'
theorem k_raise {W : WX} {e : Expr} {t : L2.St → Hp → XK → Prop} {pos : Pos} (tk : L2N.Takes X W) (he : L2N.PMk X e t) (hc : X.calm = true := by rfl) : PS X (.Raise (some e) none pos) (uRaise W t) := L2N.ps_raise hc tk he
/-- what does not come about -/
def uDead : TE := fun _ _ _ => False
def sDead : TS := fun _ _ _ => False
theorem k_dead {e : Expr} : PE X e uDead := ⟨fun _ _ _ _ _ _ h => h.elim⟩
theorem k_deadS {st : Stmt} : PS X st sDead := ⟨fun _ _ _ _ _ _ h => h.elim⟩
/-- e.f in the suite that holds e -/
def uEf (K : Frag) (a : Addr) (cls : Value) (d : Option Addr) (i : Nat) (f : Str) : TE := fun σ H Q => ∃ (C dd : Addr) (fs : List (Str × V)) (v : V), σ[i]? = some (some (.ref a)) ∧ cls = .ref C ∧ XfC K C ∧ PySem.W.findIn K (.ref C) f = some none ∧ d = some dd ∧ H dd = some (.xd fs) ∧ fs.lookup f = some v ∧ Q v H
theorem k_ef (i : Nat) {a : Addr} {oe : Obj} {cls : Value} {d : Option Addr} {pn : List (Addr × Obj)} {n f : Str} {p pos : Pos} (hz : Zc cls d oe) (hf : ∃ vs, oe.data = .fields vs) (hN : X.N[i]? = some n := by rfl)
    (hv : Vis X.env.scope n := by first | exact Or.inl rfl | exact Or.inr (Or.inl rfl) | exact Or.inr (Or.inr rfl)) (hd : (n == ("__debug__" : Str)) = false := by decide) (hcd : (n == ("__classdict__" : Str)) = false := by decide)
    (hb : attributeBase (.Name n p) f X.env (eval (.Name n p) X.env) = eval (.Name n p) X.env := by rfl) : PE (X.suite a ((a, oe) :: pn)) (.Attribute (.Name n p) f pos) (uEf X.K a cls d i f) := by
  refine ⟨fun pins s σ H Q I h => ?_⟩
  obtain ⟨C, dd, fs, v, e0, e1, xf, no, e2, e3, e4, q⟩ := h
  exact (pe_xf (X := X) xf no hz hf (pe_var (X := X.suite a ((a, oe) :: pn)) hN hv hd hcd) hb).run pins s σ H Q I ⟨.ref a, e0, rfl, e1, dd, fs, v, e2, e3, e4, q⟩
/-- isinstance(e, c) in the suite that holds e -/
def uIsE (K : Frag) (a : Addr) (cls : Value) (d : Option Addr) : List V → Hp → VK → Prop
  | [.ref b, .ref c], H, Q => ∃ (D dd : Addr) (fs : List (Str × V)) (r : Bool), b = a ∧ cls = .ref D ∧ ExcC K D ∧ d = some dd ∧ H dd = some (.xd fs) ∧ PySem.W.kitOne K (.ref D) (.ref c) = some r ∧ Q (.bl r) H
  | [.ref b, .ty T], H, Q => ∃ (D dd : Addr) (fs : List (Str × V)) (r : Bool), b = a ∧ cls = .ref D ∧ ExcC K D ∧ d = some dd ∧ H dd = some (.xd fs) ∧ PySem.W.kitOne K (.ref D) (.type T) = some r ∧ Q (.bl r) H
  | _, _, _ => False
theorem c_isE {a : Addr} {oe : Obj} {cls : Value} {d : Option Addr} {pn : List (Addr × Obj)} (hz : Zc cls d oe) (hf : ∃ vs, oe.data = .fields vs) : CallR (X.suite a ((a, oe) :: pn)) (.builtin "isinstance") (uIsE X.K a cls d) := by
  intro pins s σ H xs us Q I r h
  have key : ∀ {D dd : Addr} {fs : List (Str × V)} {cv : Value} {b : Bool}, cls = .ref D → ExcC X.K D → d = some dd → H dd = some (.xd fs) → PySem.W.kitOne X.K (.ref D) cv = some b → Q (.bl b) H →
      wpAny (model X.prog X.w) (X.A.mark (some (.ref a))) (call (.builtin "isinstance") [.ref a, cv]) (EP (X.suite a ((a, oe) :: pn)) pins σ Q) (fun _ _ => False) s := fun {D dd fs cv b} e1 C e2 e3 e4 q => by
    subst e1 e2
    obtain ⟨hget, _⟩ := I.pin (a, oe) (List.mem_append.mpr (.inl List.mem_cons_self))
    obtain ⟨vs, hv⟩ := hf
    obtain ⟨mA, hns, hr⟩ := (show ObjOk X.prog X.w H s.heap dd (.xd fs) from I.hok dd _ e3)
    obtain ⟨od, ho, hl⟩ := lookIn_ns hns
    have J : PySem.W.InstAt s.heap a oe D (some od) := by
      refine ⟨hget, hz.1, by unfold PySem.W.notCls; rw [hv] <;> rfl, ?_⟩
      rw [hz.2]
      exact ho
    exact PySem.W.kia_one (PySem.W.kw_kitx C) I.kIn J e4 (fun z => nomatch z) fun tk => ⟨.bl b, H, I.kept (t' := tk) fun _ _ z => z, rfl, q⟩
  unfold uIsE at h
  split at h
  · obtain ⟨D, dd, fs, b, rfl, e1, C, e2, e3, e4, q⟩ := h
    cases r with
    | cons rx rr =>
      cases rr with
      | cons rt rr =>
        cases rr
        cases rx
        cases rt
        exact key e1 C e2 e3 e4 q
  · obtain ⟨D, dd, fs, b, rfl, e1, C, e2, e3, e4, q⟩ := h
    cases r with
    | cons rx rr =>
      cases rr with
      | cons rt rr =>
        cases rr
        cases rx
        cases rt
        exact key e1 C e2 e3 e4 q
  · exact h.elim
theorem k_isE {a : Addr} {oe : Obj} {cls : Value} {d : Option Addr} {pn : List (Addr × Obj)} {e : Expr} {es : List Expr} {t : TA} {p pos : Pos} (hz : Zc cls d oe) (hf : ∃ vs, oe.data = .fields vs) (hm : X.mg "isinstance" = none) (ha : PA (X.suite a ((a, oe) :: pn)) (e :: es) t) (hg : Gl X "isinstance" := by rfl)
    (he : starEach (e :: es) X.env = (false, eval e X.env) :: starEach es X.env := by rfl) (hpl : (backTo pos (starEach es X.env)).any (·.1) = false := by rfl) : PE (X.suite a ((a, oe) :: pn)) (.Call (.Name "isinstance" p) (e :: es) [] pos) (tCB (uIsE X.K a cls d) t) :=
  pe_callB (c_isE hz hf) hg hm (by decide +kernel) ha (by decide) (by decide) he hpl
end
end KW

set_option Elab.async false
set_option linter.all false
set_option maxRecDepth 100000
set_option maxHeartbeats 4000000
/-! Kw2b: instances of plain classes: made, their fields and methods -/
namespace KW
open PySem PySem.Spec PyProof.Rows L2
/-- a plain class of the text and the names of its fields -/
structure ClsA (K : Frag) (mg : Str → Option Value) (x : Str) (C : Addr) (ns : List Str) : Prop where
  gC : mg x = some (.ref C)
  cls : Cls K C
  no : ∀ f ∈ ns, NoAttr K C f
/-- e.f -/
def uGet (K : Frag) (f : Str) : V → Hp → VK → Prop
  | .ref a, H, Q => ∃ C dx fs v, H a = some (.ins C dx fs) ∧ Cls K C ∧ NoAttr K C f ∧ fs.lookup f = some v ∧ Q v H
  | _, _, _ => False
def uFld (K : Frag) (t : TE) (f : Str) : TE := fun σ H Q => t σ H fun x H1 => uGet K f x H1 Q
section
variable {X : Cx}
theorem k_fld {e : Expr} {t : TE} {f : Str} {pos : Pos} (he : PE X e t) (hb : attributeBase e f X.env (eval e X.env) = eval e X.env) : PE X (.Attribute e f pos) (uFld X.K t f) := by
  refine PEw (pe_fld (PEw he (t' := fun σ H Q => t σ H Q) fun _ _ _ h => h) hb) fun σ H Q h => ?_
  unfold uFld at h
  unfold tFld
  have e : (fun x H1 => uGet X.K f x H1 Q) = fun x H1 => ∃ a C dx fs v, x = .ref a ∧ H1 a = some (.ins C dx fs) ∧ Cls X.K C ∧ NoAttr X.K C f ∧ fs.lookup f = some v ∧ Q v H1 := by
    funext x H1
    cases x <;> simp only [uGet, eq_iff_iff] <;> first
      | exact ⟨False.elim, fun ⟨_, _, _, _, _, z, _⟩ => nomatch z⟩
      | (rename_i p
         exact ⟨fun ⟨C, dx, fs, v, h⟩ => ⟨p, C, dx, fs, v, rfl, h⟩, fun ⟨a, C, dx, fs, v, z, h⟩ => by cases z; exact ⟨C, dx, fs, v, h⟩⟩)
  rw [e] at h
  exact h
/-- o.f = v -/
def uPut (K : Frag) (f : Str) : V → V → Hp → (Hp → Prop) → Prop
  | .ref a, y, H, Q => ∃ C dx fs, H a = some (.ins C dx fs) ∧ Cls K C ∧ NoAttr K C f ∧ fs.length < 1000 ∧ Q (upd H a (.ins C dx (putF f y fs)))
  | _, _, _, _ => False
def uSFld (K : Frag) (ta tv : TE) (f : Str) : TS := fun D σ H => tv σ H fun y H1 => ta σ H1 fun x H2 => uPut K f x y H2 fun H3 => D.nx σ H3
theorem k_sfld {o value : Expr} {ta tv : TE} {f : Str} {pos' pos : Pos} (ha : PE X o ta) (hv : PE X value tv) (hs : swapsWith value (some (.Attribute o f pos')) pos.line X.env = pure false) : PS X (.Assign [.Attribute o f pos'] value pos) (uSFld X.K ta tv f) := by
  refine PSw (ps_fld ha hv hs) fun D σ H h => ?_
  unfold uSFld at h
  unfold sFld
  have e : (fun (y : V) (H1 : Hp) => ta σ H1 fun x H2 => uPut X.K f x y H2 fun H3 => D.nx σ H3) = fun y H1 => ta σ H1 fun x H2 => ∃ a C dx fs, x = .ref a ∧ H2 a = some (.ins C dx fs) ∧ Cls X.K C ∧ NoAttr X.K C f ∧ fs.length < 1000 ∧ D.nx σ (upd H2 a (.ins C dx (putF f y fs))) := by
    funext y H1
    refine congrArg (ta σ H1) ?_
    funext x H2
    cases x <;> simp only [uPut, eq_iff_iff] <;> first
      | exact ⟨False.elim, fun ⟨_, _, _, _, z, _⟩ => nomatch z⟩
      | (rename_i p
         exact ⟨fun ⟨C, dx, fs, h⟩ => ⟨p, C, dx, fs, rfl, h⟩, fun ⟨a, C, dx, fs, z, h⟩ => by cases z; exact ⟨C, dx, fs, h⟩⟩)
  rw [e] at h
  exact h
end
section
variable {K : Frag} {mg : Str → Option Value} {x f : Str} {C a dx : Addr} {ns : List Str} {fs fs' : List (Str × V)} {v y : V} {H : Hp}
theorem get_l {Q : VK} (h : H a = some (.ins C dx fs)) (c : ClsA K mg x C ns) (m : f ∈ ns) (l : fs.lookup f = some v) (q : Q v H) : uGet K f (.ref a) H Q := ⟨C, dx, fs, v, h, c.cls, c.no f m, l, q⟩
theorem put_l {Q : Hp → Prop} (h : H a = some (.ins C dx fs)) (c : ClsA K mg x C ns) (m : f ∈ ns) (z : fs.length < 1000) (q : Q (upd H a (.ins C dx (putF f y fs)))) : uPut K f (.ref a) y H Q := ⟨C, dx, fs, h, c.cls, c.no f m, z, q⟩
end
/-! ### methods -/
/-- a def at f: ps its parameters, dvs its defaults -/
structure DfnAt (K : Frag) (x qual : Str) (st : Stmt) (ps : List Str) (dvs : List V) (f : Addr) : Prop where
  ex : ∃ fd, FunD K x qual (defArgs st) (defBody st) (defScope st) dvs [] f fd ∧ ∀ j, j ≤ dvs.length → ∃ ds, Vals (dvs.drop j) ds ∧ Binds K fd ps ds
/-- the method m of the class C -/
structure MetAt (K : Frag) (C : Addr) (m qual : Str) (st : Stmt) (ps : List Str) : Prop where
  ex : ∃ f, Meth K C m f ∧ DfnAt K m qual st ps [] f
/-- the __init__ of the class x at C -/
structure IniAt (K : Frag) (C : Addr) (qual : Str) (st : Stmt) (ps : List Str) (dvs : List V) : Prop where
  ex : ∃ f, Mk K C f ∧ DfnAt K "__init__" qual st ps dvs f
structure CalM (P : Program) (w : World) (K : Frag) (mg : Str → Option Value) (base : Heap) (k : Nat) (C : Addr) (m : Str) (sp : Sp) : Prop where
  cls : Cls K C
  ex : ∃ (f : Addr) (fd : FuncData) (ps : List Str), Meth K C m f ∧ Binds K fd ps [] ∧ FnOk P w K mg base (L2N.CX P w) k f fd ps sp
structure CalI (P : Program) (w : World) (K : Frag) (mg : Str → Option Value) (base : Heap) (k : Nat) (x : Str) (C : Addr) (dvs : List V) (sp : Sp) : Prop where
  ex : mg x = some (.ref C) ∧ ∃ (f : Addr) (fd : FuncData) (ps : List Str), Mk K C f ∧ FnOk P w K mg base (L2N.CX P w) k f fd ps sp ∧ ∀ j, j ≤ dvs.length → ∃ ds, Vals (dvs.drop j) ds ∧ Binds K fd ps ds
section
variable {P : Program} {w : World} {K : Frag} {mg : Str → Option Value} {base : Heap}
theorem DfnAt.fn {x qual : Str} {st : Stmt} {N ps : List Str} {dvs : List V} {f : Addr} {k : Nat} {sp : Sp} (D : DfnAt K x qual st ps dvs f) (S : FnScope N ps (defScope st)) (len : ∀ vs H Q E, sp vs H Q E → vs.length = ps.length)
    (hbody : ∀ (f : Addr) (cdv : Value) (A : Around) (outer : List Env) (s : Shared) (H : Hp) (vs : List V) (Q : VK) (E : XK), Room k (A.deeper (envOfC qual (defScope st) s.heap.objs.size f cdv)) → sp vs H Q E →
      ∃ t, PSs (cxOf (L2N.CX P w) P w K mg base N qual (defScope st) f cdv A outer s H E) (defBody st) t ∧ t { nx := fun _ H' => Q .non H', rt := Q } (start N vs) H) :
    ∃ fd, FnOk P w K mg base (L2N.CX P w) (k + 1) f fd ps sp ∧ ∀ j, j ≤ dvs.length → ∃ ds, Vals (dvs.drop j) ds ∧ Binds K fd ps ds := by
  obtain ⟨fd, F, hb⟩ := D.ex
  exact ⟨fd, F.ok S len fun cdv A outer s H vs Q E hr hsp => hbody f cdv A outer s H vs Q E hr hsp, hb⟩
theorem MetAt.ok {C : Addr} {m qual : Str} {st : Stmt} {N ps : List Str} {k : Nat} {sp : Sp} (D : MetAt K C m qual st ps) (c : Cls K C) (S : FnScope N ps (defScope st)) (len : ∀ vs H Q E, sp vs H Q E → vs.length = ps.length)
    (hbody : ∀ (f : Addr) (cdv : Value) (A : Around) (outer : List Env) (s : Shared) (H : Hp) (vs : List V) (Q : VK) (E : XK), Room k (A.deeper (envOfC qual (defScope st) s.heap.objs.size f cdv)) → sp vs H Q E →
      ∃ t, PSs (cxOf (L2N.CX P w) P w K mg base N qual (defScope st) f cdv A outer s H E) (defBody st) t ∧ t { nx := fun _ H' => Q .non H', rt := Q } (start N vs) H) : CalM P w K mg base (k + 1) C m sp := by
  obtain ⟨f, M, D⟩ := D.ex
  obtain ⟨fd, F, hb⟩ := D.fn S len hbody
  obtain ⟨ds, hd, b⟩ := hb 0 (Nat.le_refl _)
  cases hd
  exact ⟨c, f, fd, ps, M, b, F⟩
theorem IniAt.ok {x : Str} {C : Addr} {qual : Str} {st : Stmt} {N ps : List Str} {dvs : List V} {k : Nat} {sp : Sp} (D : IniAt K C qual st ps dvs) (g : mg x = some (.ref C)) (S : FnScope N ps (defScope st)) (len : ∀ vs H Q E, sp vs H Q E → vs.length = ps.length)
    (hbody : ∀ (f : Addr) (cdv : Value) (A : Around) (outer : List Env) (s : Shared) (H : Hp) (vs : List V) (Q : VK) (E : XK), Room k (A.deeper (envOfC qual (defScope st) s.heap.objs.size f cdv)) → sp vs H Q E →
      ∃ t, PSs (cxOf (L2N.CX P w) P w K mg base N qual (defScope st) f cdv A outer s H E) (defBody st) t ∧ t { nx := fun _ H' => Q .non H', rt := Q } (start N vs) H) : CalI P w K mg base (k + 1) x C dvs sp := by
  obtain ⟨f, M, D⟩ := D.ex
  obtain ⟨fd, F, hb⟩ := D.fn S len hbody
  exact ⟨g, f, fd, ps, M, F, hb⟩
end
/-- o.m(args): what it may let out is taken at the slots as they stand -/
def uMet (C : Addr) (m : Str) (sp : Sp) (E : L2.St → XK) (ta : TE) (t : TA) : TE := fun σ H Q => ta σ H fun x H1 => uMt C m sp (E σ) t σ x H1 Q
where uMt (C : Addr) (m : Str) (sp : Sp) (E : XK) (t : TA) (σ : L2.St) : V → Hp → VK → Prop
  | .ref a, H1, Q => ∃ dx fs, H1 a = some (.ins C dx fs) ∧ fs.lookup m = none ∧ t σ H1 fun vs H2 => sp (.ref a :: vs) H2 Q E
  | _, _, _ => False
section
variable {X : Cx} {k : Nat} {C : Addr} {m x : Str} {sp : Sp} {o e : Expr} {es : List Expr} {ta : TE} {t : TA} {apos p pos : Pos} {pl : Sem Bool}
theorem uMt_of {E : XK} {σ : L2.St} {x : V} {H : Hp} {Q : VK} (h : uMet.uMt C m sp E t σ x H Q) : ∃ a dx fs, x = .ref a ∧ H a = some (.ins C dx fs) ∧ fs.lookup m = none ∧ t σ H fun vs H2 => sp (.ref a :: vs) H2 Q E := by
  cases x with
  | ref a => obtain ⟨dx, fs, h⟩ := h; exact ⟨a, dx, fs, rfl, h⟩
  | _ => exact False.elim h
theorem km_of {E : L2.St → XK} (hx : ∀ σ, PassesAt (L2N.CX X.prog X.w) X σ (E σ)) (c : CalM X.prog X.w X.K X.mg X.base k C m sp) (hr : Room k X.A) (he : PE X o ta) (ha : PA X (e :: es) t)
    (hst : starEach (e :: es) X.env = (false, eval e X.env) :: starEach es X.env) (hpl : (backTo pos (starEach es X.env)).any (·.1) = false)
    (ht : eval (.Call (.Attribute o m apos) (e :: es) [] pos) X.env = (do
      let ov ← eval o X.env
      standAt apos.atName
      let (f, first) ← holding [ov] (getMethod ov m pl)
      callWith pos f first (backTo pos (starEach (e :: es) X.env)) (backToKw pos (keywordEach [] X.env)))) :
    PE X (.Call (.Attribute o m apos) (e :: es) [] pos) (uMet C m sp E ta t) := by
  obtain ⟨cl, f, fd, ps, hm, hb, F⟩ := c
  refine ⟨fun pins s σ H Q I h => ?_⟩
  refine PySem.W.methodCall_KW (pl := pl) (thn (he.run pins s σ H _ I h) fun u s1 ⟨x, H1, I1, rx, hu⟩ => ?_) ht
  obtain ⟨a, dx, fs, ex, ea, l, q⟩ := uMt_of hu
  subst ex
  obtain rfl : u = Value.ref a := rx
  refine getmeth_ok I1 ea cl hm l ?_
  refine PySem.W.callWith_K (h₀ := X.base) I.ok.mod.kin hm.kp (thn (ha.run pos pins s1 σ H1 _ I1 q) fun us s2 ⟨vs, H2, I2, r, q2⟩ => ⟨I2.kIn, ?_⟩) hst hpl
  exact run_fnS (us := .ref a :: us) (vs := .ref a :: vs) F hr hb (hx σ) I2 (.cons rfl r) q2
theorem km0_of {E : L2.St → XK} (hx : ∀ σ, PassesAt (L2N.CX X.prog X.w) X σ (E σ)) (c : CalM X.prog X.w X.K X.mg X.base k C m sp) (hr : Room k X.A) (he : PE X o ta)
    (ht : eval (.Call (.Attribute o m apos) [] [] pos) X.env = (do
      let ov ← eval o X.env
      standAt apos.atName
      let (f, first) ← holding [ov] (getMethod ov m pl)
      callWith pos f first (backTo pos (starEach [] X.env)) (backToKw pos (keywordEach [] X.env)))) :
    PE X (.Call (.Attribute o m apos) [] [] pos) (uMet C m sp E ta tNil) := by
  obtain ⟨cl, f, fd, ps, hm, hb, F⟩ := c
  refine ⟨fun pins s σ H Q I h => ?_⟩
  refine PySem.W.methodCall_KW (pl := pl) (thn (he.run pins s σ H _ I h) fun u s1 ⟨x, H1, I1, rx, hu⟩ => ?_) ht
  obtain ⟨a, dx, fs, ex, ea, l, q⟩ := uMt_of hu
  subst ex
  obtain rfl : u = Value.ref a := rx
  refine getmeth_ok I1 ea cl hm l ?_
  exact PySem.W.callWith_K0 (first := [.ref a]) I1.kIn hm.kp (run_fnS (us := [.ref a]) (vs := [.ref a]) F hr hb (hx σ) I1 (.cons rfl .nil) q)
theorem km (c : CalM X.prog X.w X.K X.mg X.base k C m sp) (hr : Room k X.A) (he : PE X o ta) (ha : PA X (e :: es) t)
    (hst : starEach (e :: es) X.env = (false, eval e X.env) :: starEach es X.env := by rfl) (hpl : (backTo pos (starEach es X.env)).any (·.1) = false := by rfl)
    (ht : eval (.Call (.Attribute o m apos) (e :: es) [] pos) X.env = (do
      let ov ← eval o X.env
      standAt apos.atName
      let (f, first) ← holding [ov] (getMethod ov m pl)
      callWith pos f first (backTo pos (starEach (e :: es) X.env)) (backToKw pos (keywordEach [] X.env))) := by rfl) :
    PE X (.Call (.Attribute o m apos) (e :: es) [] pos) (uMet C m sp (fun _ => E0) ta t) := km_of (fun _ => passAt0) c hr he ha hst hpl ht
theorem km0 (c : CalM X.prog X.w X.K X.mg X.base k C m sp) (hr : Room k X.A) (he : PE X o ta)
    (ht : eval (.Call (.Attribute o m apos) [] [] pos) X.env = (do
      let ov ← eval o X.env
      standAt apos.atName
      let (f, first) ← holding [ov] (getMethod ov m pl)
      callWith pos f first (backTo pos (starEach [] X.env)) (backToKw pos (keywordEach [] X.env))) := by rfl) :
    PE X (.Call (.Attribute o m apos) [] [] pos) (uMet C m sp (fun _ => E0) ta tNil) := km0_of (fun _ => passAt0) c hr he ht
theorem kmX {W : WX} (tk : L2N.Takes X W) (c : CalM X.prog X.w X.K X.mg X.base k C m sp) (hr : Room k X.A) (he : PE X o ta) (ha : PA X (e :: es) t)
    (hst : starEach (e :: es) X.env = (false, eval e X.env) :: starEach es X.env := by rfl) (hpl : (backTo pos (starEach es X.env)).any (·.1) = false := by rfl)
    (ht : eval (.Call (.Attribute o m apos) (e :: es) [] pos) X.env = (do
      let ov ← eval o X.env
      standAt apos.atName
      let (f, first) ← holding [ov] (getMethod ov m pl)
      callWith pos f first (backTo pos (starEach (e :: es) X.env)) (backToKw pos (keywordEach [] X.env))) := by rfl) :
    PE X (.Call (.Attribute o m apos) (e :: es) [] pos) (uMet C m sp (WE W) ta t) := km_of (fun σ => L2N.passAt tk σ) c hr he ha hst hpl ht
theorem kmX0 {W : WX} (tk : L2N.Takes X W) (c : CalM X.prog X.w X.K X.mg X.base k C m sp) (hr : Room k X.A) (he : PE X o ta)
    (ht : eval (.Call (.Attribute o m apos) [] [] pos) X.env = (do
      let ov ← eval o X.env
      standAt apos.atName
      let (f, first) ← holding [ov] (getMethod ov m pl)
      callWith pos f first (backTo pos (starEach [] X.env)) (backToKw pos (keywordEach [] X.env))) := by rfl) :
    PE X (.Call (.Attribute o m apos) [] [] pos) (uMet C m sp (WE W) ta tNil) := km0_of (fun σ => L2N.passAt tk σ) c hr he ht
theorem met_l {E : XK} {a dx : Addr} {fs : List (Str × V)} {σ : L2.St} {H : Hp} {Q : VK} (h : H a = some (.ins C dx fs)) (l : fs.lookup m = none) (q : t σ H fun vs H2 => sp (.ref a :: vs) H2 Q E) : uMet.uMt C m sp E t σ (.ref a) H Q := ⟨dx, fs, h, l, q⟩
/-- x(args): an instance made; the last defaults fill up -/
def uMake (C : Addr) (sp : Sp) (dvs : List V) (t : TA) : TE := fun σ H Q => t σ H fun vs H1 => ∀ x dx, H1 x = none → H1 dx = none → dx ≠ x → sp (.ref x :: (vs ++ dvs)) (upd (upd H1 dx (.own x)) x (.ins C dx [])) (fun v H2 => v = .non ∧ Q (.ref x) H2) E0
theorem pass0 : Passes (L2N.CX X.prog X.w) X E0 := fun _ _ _ _ _ _ _ h => by
  obtain ⟨_, _, _, _, _, _, _, _, _, _, _, _, z⟩ := h
  exact z.elim
theorem kmk {dvs : List V} (j : Nat) (c : CalI X.prog X.w X.K X.mg X.base k x C dvs sp) (hr : Room (k + 1) X.A) (ha : PA X (e :: es) t) (hj : j ≤ dvs.length := by decide) (hg : Gl X x := by rfl) (hdb : (x == ("__debug__" : Str)) = false := by decide)
    (he : starEach (e :: es) X.env = (false, eval e X.env) :: starEach es X.env := by rfl) (hpl : (backTo pos (starEach es X.env)).any (·.1) = false := by rfl) : PE X (.Call (.Name x p) (e :: es) [] pos) (uMake C sp (dvs.drop j) t) := by
  obtain ⟨hm, f, fd, ps, M, F, hb⟩ := c
  obtain ⟨ds, hd, b⟩ := hb j hj
  exact pe_make M F hr hg hm b hd pass0 ha hdb he hpl
theorem kmk0 {dvs : List V} (c : CalI X.prog X.w X.K X.mg X.base k x C dvs sp) (hr : Room (k + 1) X.A) (hg : Gl X x := by rfl) (hdb : (x == ("__debug__" : Str)) = false := by decide) : PE X (.Call (.Name x p) [] [] pos) (uMake C sp dvs tNil) := by
  obtain ⟨hm, f, fd, ps, M, F, hb⟩ := c
  obtain ⟨ds, hd, b⟩ := hb 0 (Nat.zero_le _)
  exact pe_make0 M F hr hg hm b hd pass0 hdb
end
end KW

set_option Elab.async false
set_option linter.all false
set_option maxRecDepth 100000
set_option maxHeartbeats 4000000
/-! Kw2c: del xs[a:] of a list -/
namespace KW
open PySem PySem.Spec PyProof.Rows L2
theorem fm_take {α : Type} (p : Nat → Bool) (a : Nat) : ∀ (l : List α) (j : Nat), (∀ k, j ≤ k → k < j + l.length → p k = decide (a ≤ k)) → (l.zipIdx j).filterMap (fun x => if p x.2 = true then none else some x.1) = l.take (a - j)
  | [], j, _ => by simp
  | x :: l, j, h => by
    have h0 := h j (Nat.le_refl _) (by simp)
    have ih := fm_take p a l (j + 1) fun k h1 h2 => h k (by omega) (by simp only [List.length_cons]; omega)
    rw [List.zipIdx_cons, List.filterMap_cons]
    by_cases c : a ≤ j
    · simp only [h0, c, decide_true, if_true]
      rw [ih, show a - j = 0 by omega, show a - (j + 1) = 0 by omega]
      simp
    · simp only [h0, c, decide_false, Bool.false_eq_true, if_false]
      rw [ih, show a - j = (a - (j + 1)) + 1 by omega]
      rfl
section
variable {prog : Program} {w : World} {A : Around} {E : Value → Shared → Prop} {s : Shared}
theorem bounds_from (a n : Nat) : sliceBounds (some (a : Int)) none none n = (((min a n : Nat) : Int), (n : Int), 1) := by
  simp only [sliceBounds, Option.getD_none]
  have h1 : ¬ ((a : Int) < 0) := by omega
  simp only [h1, if_false, show (1 : Int) > 0 by decide, if_true]
  congr 1
  omega
theorem delItem_cut {l sl : Addr} {items : Array Value} {n : Nat} {vl : Value} {a : Nat} {Q : Unit → Shared → Prop}
    (e : s.heap.get? l = some { cls := .type "list", data := .seq items n })
    (hs : s.heap.IsSliceOf sl vl .none .none) (pl : IsPart vl (some (a : Int)))
    (hsz : items.size ≤ sizeLine) (h : ∀ F : Array Value → Array Value, F items = (items.toList.take a).toArray → Q () { s with heap := s.heap.update l (Obj.mapSeq F) }) :
    wpAny (model prog w) A (delItem (.ref l) (.ref sl)) Q E s := by
  have hl : s.heap.IsList l items := PySem.IsL.isList e
  obtain ⟨os, hos, hcs, hds⟩ := id hs
  have hTs : s.TypeIs (.ref sl) "slice" := ⟨os, hos, hcs⟩
  have hstep : ¬ ((rawPart none == rawInt 0) = true) := Bool.false_ne_true
  refine wpAny_delItem_slot hl.typeIs (by decide) PySem.F.slot_list_delitem ?_
  refine wpAny_call_entry PySem.F.slot_list_delitem hl.typeIs PySem.F.entry_list_delitem ?_ (PySem.F.args_list_delitem_2 _ _)
  show wpAny _ _ (Builtin.List.listSubscript? (.ref sl) >>= _) _ _ s
  refine wpAny_bind ?_
  unfold Builtin.List.listSubscript?
  refine wpAny_bind (wpAny_specialOf hTs slice_no_index ?_)
  simp only [Option.isNone_none, if_true]
  refine wpAny_pure ?_
  show wpAny _ _ (typeOf (.ref sl) >>= _) _ _ s
  refine wpAny_bind (wpAny_typeOf hTs ?_)
  first
    | rw [if_neg (by decide)]
    | refine PySem.W.KFB.if_not (by decide) ?_
  rw [listSliceParts_eq]
  refine wpAny_bind (wpAny_bind (wpAny_field hos hds (x := .none) rfl (wpAny_bind (wpAny_listPart .none ?_))))
  rw [if_neg hstep]
  refine wpAny_bind (wpAny_field hos hds (x := vl) rfl (wpAny_bind (wpAny_listPart pl ?_)))
  refine wpAny_bind (wpAny_field hos hds (x := .none) rfl (wpAny_bind (wpAny_listPart .none (wpAny_pure ?_))))
  unfold Builtin.List.listItems
  refine wpAny_bind (wpAny_bind (wpAny_seqItems e rfl (wpAny_pure ?_)))
  refine wpAny_bind (wpAny_of_eq ((sliceIndices_raw (some (a : Int)) none none items.size (by simp)).trans (congrArg (pure : Int × Int × Int → Sem (Int × Int × Int)) (bounds_from a items.size))) ?_)
  refine wpAny_bind (wpAny_rule ?_)
  have key : ∀ (p : Nat → Bool), (∀ k, k < items.size → p k = decide (a ≤ k)) → (List.filterMap (fun x : Value × Nat => if p x.2 = true then none else some x.1) items.toList.zipIdx).toArray = (items.toList.take a).toArray := fun p hp => by
    rw [fm_take p a items.toList 0 fun k _ h2 => hp k (by rw [Array.length_toList] at h2; omega)]
    rfl
  refine wpAny_bind (m := Builtin.List.listUpdate (.ref l) _) ?_
  show wpAny _ _ (updateSeq l _) _ _ _
  have kk : ∀ k, k < items.size → (if (1 : Int) > 0 then decide (((min a items.size : Nat) : Int) ≤ (k : Int)) && decide ((k : Int) < (items.size : Int)) && (((k : Int) - ((min a items.size : Nat) : Int)) % 1 == 0) else false) = decide (a ≤ k) := fun k hk => by
    rw [if_pos (by decide)]
    have e1 : (((k : Int) - ((min a items.size : Nat) : Int)) % 1 == 0) = true := by rw [Int.emod_one]; rfl
    rw [e1, Bool.and_true]
    by_cases c : a ≤ k
    · rw [decide_eq_true c, decide_eq_true (by omega), decide_eq_true (by omega)]
      rfl
    · rw [decide_eq_false c, decide_eq_false (by omega)]
      rfl
  refine wpAny_updateSeq (hz := hsz) (_hz' := ?z) e rfl ?_
  case z =>
    refine Nat.le_trans (Nat.le_of_eq (congrArg Array.size (key _ ?_))) ?_
    · exact fun k hk => (kk k hk)
    · rw [List.size_toArray, List.length_take, Array.length_toList]
      omega
  refine wpAny_bind (wpAny_letGo ?_)
  refine wpAny_pure ⟨.none, rfl, h _ (key _ ?_)⟩
  exact fun k hk => (kk k hk)
end
section
variable {X : Cx}
/-- del xs[a:] -/
def uDelC : V → Option Int → Hp → (Hp → Prop) → Prop
  | .ref l, some a, H, Q => ∃ xs, H l = some (.lst xs) ∧ 0 ≤ a ∧ Q (upd H l (.lst (xs.take a.toNat)))
  | _, _, _, _ => False
def uDelSl (to ti : TE) : TS := fun D σ H => to σ H fun x H1 => tPart ti σ H1 fun l H2 => uDelC x l H2 fun H3 => D.nx σ H3
theorem dels_l {H : Hp} {p : Addr} {xs : List V} {a : Int} {Q : Hp → Prop} (h : H p = some (.lst xs)) (e : 0 ≤ a) (q : Q (upd H p (.lst (xs.take a.toNat)))) : uDelC (.ref p) (some a) H Q := ⟨xs, h, e, q⟩
theorem k_delsl {o i : Expr} {to ti : TE} {p2 tpos pos : Pos} (ho : PE X o to) (hi : PE X i ti) : PS X (.Delete [.Subscript o (.Slice (some i) none none p2) tpos] pos) (uDelSl to ti) := by
  refine ⟨fun pins s σ H D I h => ?_⟩
  refine wpAny_Delete (wpAny_deleteEach_cons (wpAny_delete_Subscript (thn (ho.run pins s σ H _ I h) fun u s1 ⟨x, H1, I1, rx, q1⟩ => ?_)))
  refine wpAny_Slice (thn ((po_some hi).run pins s1 σ H1 _ I1 q1) fun vl s2 ⟨l, H2, I2, pl, q2⟩ => ?_)
  rw [evalPart_none]
  refine wpAny_pure (wpAny_pure ?_)
  have I4 : Inv X pins σ H2 { s2 with heap := s2.heap.push { cls := .type "slice", data := .fields #[vl, .none, .none] } } := I2.kept (t' := s2.toks) fun b ob q => Heap.get?_push_of_some _ q
  unfold uDelC at q2
  split at q2
  · rename_i w1 p a w2
    obtain ⟨xs, hH, h0, q2⟩ := q2
    obtain rfl : u = Value.ref p := rx
    obtain ⟨a', rfl⟩ := Int.eq_ofNat_of_zero_le h0
    obtain ⟨z, its, n, r, hl, e⟩ := I4.lstM hH
    rw [Int.toNat_natCast] at q2
    refine delItem_cut (a := a') e (Heap.IsSliceOf.new ..) pl (by rw [List.size_toArray]; omega) fun F hF => wpAny_deleteEach_nil ⟨σ, _, ?_, q2⟩
    refine I4.lset (its' := its.take a') (t' := s2.toks) hH e hF (r.take _) ?_
    rw [List.length_take]
    omega
  · exact q2.elim
end
end KW

set_option Elab.async false
set_option linter.all false
set_option maxRecDepth 100000
set_option maxHeartbeats 4000000
/-! Kw2d: dicts, texts and built-ins -/
namespace KW
open PySem PySem.Spec PyProof.Rows L2
section
variable {X : Cx} {o i e value : Expr} {pos pos' tpos : Pos} {td ty tv : TE}
/-- d[y] -/
def uDGet : V → V → Hp → VK → Prop
  | .ref a, .int i, H, Q => ∃ kvs v, H a = some (.dK kvs) ∧ valV kvs (.inl i) = some v ∧ Q v H
  | .ref a, .str i, H, Q => ∃ kvs v, H a = some (.dK kvs) ∧ valV kvs (.inr i) = some v ∧ Q v H
  | _, _, _, _ => False
theorem uDGet_of {x y : V} {H2 : Hp} {Q : VK} (q : uDGet x y H2 Q) : ∃ a v, x = .ref a ∧ DGet H2 a y (some v) ∧ Q v H2 := by
  unfold uDGet at q
  split at q
  · obtain ⟨kvs, v, h1, h2, q⟩ := q
    exact ⟨_, v, rfl, by rw [← h2]; exact DGet.k (k := .inl _) h1, q⟩
  · obtain ⟨kvs, v, h1, h2, q⟩ := q
    exact ⟨_, v, rfl, by rw [← h2]; exact DGet.k (k := .inr _) h1, q⟩
  · exact q.elim
def tDG (td ty : TE) : TE := fun σ H Q => td σ H fun x H1 => ty σ H1 fun y H2 => uDGet x y H2 Q
theorem k_dget (hu : X.A.units + 1 < cLine) (ho : PE X o td) (hi : PE X i ty) (hs : NoSl i := by intro _ _; rfl) : PE X (.Subscript o i pos) (tDG td ty) := by
  refine ⟨fun pins s σ H Q I h => ?_⟩
  refine subD_of PySem.F.slot_dict_getitem.lookup hs (thn (ho.run pins s σ H _ I h) fun u s1 ⟨x, H1, I1, rx, q1⟩ => thn (hi.run pins s1 σ H1 _ I1 q1) fun iv s2 ⟨y, H2, I2, ry, q2⟩ => ?_)
  obtain ⟨a, v, ex, g, q5⟩ := uDGet_of q2
  subst ex
  obtain rfl : u = Value.ref a := rx
  exact ⟨dict_typeIs I2 g, d_getItem hu I2 g ry fun w' s3 I3 rw' => ⟨v, H2, I3, rw', q5⟩⟩
/-- y in d -/
def uDIn : V → V → Hp → (Bool → Prop) → Prop
  | .int i, .ref a, H, Q => ∃ kvs, H a = some (.dK kvs) ∧ Q (valV kvs (.inl i)).isSome
  | .str i, .ref a, H, Q => ∃ kvs, H a = some (.dK kvs) ∧ Q (valV kvs (.inr i)).isSome
  | _, _, _, _ => False
theorem uDIn_of {x y : V} {H2 : Hp} {Q : Bool → Prop} (q : uDIn y x H2 Q) : ∃ a o, x = .ref a ∧ DGet H2 a y o ∧ Q o.isSome := by
  unfold uDIn at q
  split at q
  · obtain ⟨kvs, h1, q⟩ := q
    exact ⟨_, _, rfl, DGet.k (k := .inl _) h1, q⟩
  · obtain ⟨kvs, h1, q⟩ := q
    exact ⟨_, _, rfl, DGet.k (k := .inr _) h1, q⟩
  · exact q.elim
def tDI (ty td : TE) : TE := fun σ H Q => ty σ H fun y H1 => td σ H1 fun x H2 => uDIn y x H2 fun b => Q (.bl b) H2
def tDNI (ty td : TE) : TE := fun σ H Q => ty σ H fun y H1 => td σ H1 fun x H2 => uDIn y x H2 fun b => Q (.bl (!b)) H2
theorem k_din (hu : X.A.units + 1 < cLine) (hi : PE X i ty) (ho : PE X o td) : PC X .In i o (tDI ty td) := by
  refine ⟨fun pins s σ H Q I h => ?_⟩
  refine thn (hi.run pins s σ H _ I h) fun iv s1 ⟨y, H1, I1, ry, q1⟩ => thn (ho.run pins s1 σ H1 _ I1 q1) fun u s2 ⟨x, H2, I2, rx, q2⟩ => ?_
  obtain ⟨a, ov, ex, g, q5⟩ := uDIn_of q2
  subst ex
  obtain rfl : u = Value.ref a := rx
  exact d_in hu I2 g ry fun s3 I3 => ⟨.bl ov.isSome, H2, I3, rfl, q5⟩
theorem k_dnotin (hu : X.A.units + 1 < cLine) (hi : PE X i ty) (ho : PE X o td) : PC X .NotIn i o (tDNI ty td) := by
  refine ⟨fun pins s σ H Q I h => ?_⟩
  refine thn (hi.run pins s σ H _ I h) fun iv s1 ⟨y, H1, I1, ry, q1⟩ => thn (ho.run pins s1 σ H1 _ I1 q1) fun u s2 ⟨x, H2, I2, rx, q2⟩ => ?_
  obtain ⟨a, ov, ex, g, q5⟩ := uDIn_of q2
  subst ex
  obtain rfl : u = Value.ref a := rx
  exact d_notIn hu I2 g ry fun s3 I3 => ⟨.bl (!ov.isSome), H2, I3, rfl, q5⟩
/-- d[y] = v -/
def uDPut : V → V → V → Hp → (Hp → Prop) → Prop
  | .ref a, .int i, v, H, Q => ∃ kvs, H a = some (.dK kvs) ∧ kvs.length < sizeLine ∧ Q (upd H a (.dK (putK kvs (.inl i) v)))
  | .ref a, .str i, v, H, Q => ∃ kvs, H a = some (.dK kvs) ∧ kvs.length < sizeLine ∧ Q (upd H a (.dK (putK kvs (.inr i) v)))
  | _, _, _, _, _ => False
theorem uDPut_of {x y v : V} {H : Hp} {Q : Hp → Prop} (q : uDPut x y v H Q) : ∃ a H4, x = .ref a ∧ DPut H a y v H4 ∧ Q H4 := by
  unfold uDPut at q
  split at q
  · obtain ⟨kvs, h1, h2, q⟩ := q
    exact ⟨_, _, rfl, DPut.k (k := .inl _) h1 h2, q⟩
  · obtain ⟨kvs, h1, h2, q⟩ := q
    exact ⟨_, _, rfl, DPut.k (k := .inr _) h1 h2, q⟩
  · exact q.elim
def tDP (td ty tv : TE) : TS := fun D σ H => tv σ H fun v H1 => td σ H1 fun x H2 => ty σ H2 fun y H3 => uDPut x y v H3 fun H4 => D.nx σ H4
theorem k_dput (hu : X.A.units + 1 < cLine) (ho : PE X o td) (hi : PE X i ty) (hv : PE X value tv) (hs : swapsWith value (some (.Subscript o i pos')) pos.line X.env = pure false := by rfl) :
    PS X (.Assign [.Subscript o i pos'] value pos) (tDP td ty tv) := by
  refine ⟨fun pins s σ H D I h => ?_⟩
  refine wpAny_Assign_Subscript (thn (hv.run pins s σ H _ I h) fun r s1 ⟨v, H1, I1, rv, q1⟩ => thn (ho.run pins s1 σ H1 _ I1 q1) fun u s2 ⟨x, H2, I2, rx, q2⟩ => thn (hi.run pins s2 σ H2 _ I2 q2) fun iv s3 ⟨y, H3, I3, ry, q3⟩ => ?_) hs
  obtain ⟨a, H4, ex, g, q5⟩ := uDPut_of q3
  subst ex
  obtain rfl : u = Value.ref a := rx
  exact d_setItem hu I3 g ry rv fun s4 I4 => ⟨σ, H4, I4, q5⟩
/-- del d[y] -/
def uDDel : V → V → Hp → (Hp → Prop) → Prop
  | .ref a, .int i, H, Q => ∃ kvs, H a = some (.dK kvs) ∧ (valV kvs (.inl i)).isSome = true ∧ Q (upd H a (.dK (dropK kvs (.inl i))))
  | .ref a, .str i, H, Q => ∃ kvs, H a = some (.dK kvs) ∧ (valV kvs (.inr i)).isSome = true ∧ Q (upd H a (.dK (dropK kvs (.inr i))))
  | _, _, _, _ => False
theorem uDDel_of {x y : V} {H2 : Hp} {Q : Hp → Prop} (q : uDDel x y H2 Q) : ∃ a kvs k, x = .ref a ∧ H2 a = some (.dK kvs) ∧ y = kV k ∧ (valV kvs k).isSome = true ∧ Q (upd H2 a (.dK (dropK kvs k))) := by
  unfold uDDel at q
  split at q
  · obtain ⟨kvs, h1, h2, q⟩ := q
    exact ⟨_, kvs, .inl _, rfl, h1, rfl, h2, q⟩
  · obtain ⟨kvs, h1, h2, q⟩ := q
    exact ⟨_, kvs, .inr _, rfl, h1, rfl, h2, q⟩
  · exact q.elim
def tDD (td ty : TE) : TS := fun D σ H => td σ H fun x H1 => ty σ H1 fun y H2 => uDDel x y H2 fun H3 => D.nx σ H3
theorem k_ddel (ho : PE X o td) (hi : PE X i ty) : PS X (.Delete [.Subscript o i tpos] pos) (tDD td ty) := by
  refine ⟨fun pins s σ H D I h => ?_⟩
  refine wpAny_Delete (wpAny_deleteEach_cons (wpAny_delete_Subscript (thn (ho.run pins s σ H _ I h) fun u s1 ⟨x, H1, I1, rx, q1⟩ => thn (hi.run pins s1 σ H1 _ I1 q1) fun iv s2 ⟨y, H2, I2, ry, q2⟩ => ?_)))
  obtain ⟨a, kvs, k, ex, e, ey, l, q5⟩ := uDDel_of q2
  subst ex ey
  obtain rfl : u = Value.ref a := rx
  exact d_delItem I2 e ry l fun s3 I3 => wpAny_deleteEach_nil ⟨σ, _, I3, q5⟩
end
section
variable {H : Hp} {a : Addr} {kvs : List (Key × V)} {v : V} {i : Int} {x : Str}
theorem dget_i {Q : VK} (h : H a = some (.dK kvs)) (e : valV kvs (.inl i) = some v) (q : Q v H) : uDGet (.ref a) (.int i) H Q := ⟨kvs, v, h, e, q⟩
theorem dget_s {Q : VK} (h : H a = some (.dK kvs)) (e : valV kvs (.inr x) = some v) (q : Q v H) : uDGet (.ref a) (.str x) H Q := ⟨kvs, v, h, e, q⟩
theorem din_i {Q : Bool → Prop} (h : H a = some (.dK kvs)) (q : Q (valV kvs (.inl i)).isSome) : uDIn (.int i) (.ref a) H Q := ⟨kvs, h, q⟩
theorem din_s {Q : Bool → Prop} (h : H a = some (.dK kvs)) (q : Q (valV kvs (.inr x)).isSome) : uDIn (.str x) (.ref a) H Q := ⟨kvs, h, q⟩
theorem dput_i {Q : Hp → Prop} (h : H a = some (.dK kvs)) (e : kvs.length < sizeLine) (q : Q (upd H a (.dK (putK kvs (.inl i) v)))) : uDPut (.ref a) (.int i) v H Q := ⟨kvs, h, e, q⟩
theorem dput_s {Q : Hp → Prop} (h : H a = some (.dK kvs)) (e : kvs.length < sizeLine) (q : Q (upd H a (.dK (putK kvs (.inr x) v)))) : uDPut (.ref a) (.str x) v H Q := ⟨kvs, h, e, q⟩
theorem ddel_i {Q : Hp → Prop} (h : H a = some (.dK kvs)) (e : (valV kvs (.inl i)).isSome = true) (q : Q (upd H a (.dK (dropK kvs (.inl i))))) : uDDel (.ref a) (.int i) H Q := ⟨kvs, h, e, q⟩
theorem ddel_s {Q : Hp → Prop} (h : H a = some (.dK kvs)) (e : (valV kvs (.inr x)).isSome = true) (q : Q (upd H a (.dK (dropK kvs (.inr x))))) : uDDel (.ref a) (.str x) H Q := ⟨kvs, h, e, q⟩
end
/-! ### built-ins -/
section
variable {X : Cx}
/-- list(xs): of a list or a tuple -/
def uList (K : Frag) : List V → Hp → VK → Prop
  | [.ref p], H, Q => ∃ ys, (SqL K H p ys ∨ SqT K H p ys) ∧ ∀ l, H l = none → Q (.ref l) (upd H l (.lst ys))
  | _, _, _ => False
theorem c_list : CallR X (.type "list") (uList X.K) := CallRw call_list_of fun xs H Q h => by
  unfold uList at h
  split at h
  · obtain ⟨ys, hs, q⟩ := h
    exact ⟨_, ys, rfl, hs, q⟩
  · exact h.elim
theorem list_l {K : Frag} {H : Hp} {p : Addr} {ys : List V} {Q : VK} (h : H p = some (.lst ys)) (q : ∀ l, H l = none → Q (.ref l) (upd H l (.lst ys))) : uList K [.ref p] H Q := ⟨ys, .inl (.of h), q⟩
theorem list_t {K : Frag} {H : Hp} {p : Addr} {ys : List V} {Q : VK} (h : H p = some (.tup ys)) (q : ∀ l, H l = none → Q (.ref l) (upd H l (.lst ys))) : uList K [.ref p] H Q := ⟨ys, .inr (.of h), q⟩
theorem list_sl {K : Frag} {H : Hp} {p : Addr} {ys : List V} {Q : VK} (h : SqL K H p ys) (q : ∀ l, H l = none → Q (.ref l) (upd H l (.lst ys))) : uList K [.ref p] H Q := ⟨ys, .inl h, q⟩
/-- str(x) -/
def uStr : List V → Hp → VK → Prop
  | [.int i], H, Q => i.natAbs.log2 < 1920 ∧ Q (.str (toString i)) H
  | [.str a], H, Q => Q (.str a) H
  | _, _, _ => False
theorem c_str : CallR X (.type "str") uStr := CallRw (r := fun xs H Q => (∃ i, xs = [.int i] ∧ i.natAbs.log2 < 1920 ∧ Q (.str (toString i)) H) ∨ ∃ a, xs = [.str a] ∧ Q (.str a) H) (by
  intro pins s σ H xs us Q I r h
  rcases h with h | h
  · exact call_str_int pins s σ H xs us Q I r h
  · exact SkE.call_str_str pins s σ H xs us Q I r h) fun xs H Q h => by
  unfold uStr at h
  split at h
  · exact .inl ⟨_, rfl, h.1, h.2⟩
  · exact .inr ⟨_, rfl, h⟩
  · exact h.elim
/-- text * k -/
theorem foldl_cps (a : Array Nat) : ∀ (m : Nat) (acc : Array Nat), (List.replicate m a).foldl (· ++ ·) acc = acc ++ (List.replicate m a.toList).flatten.toArray
  | 0, acc => by simp
  | m + 1, acc => by
    rw [List.replicate_succ, List.foldl_cons, foldl_cps a m, List.replicate_succ, List.flatten_cons]
    apply Array.toList_inj.mp
    simp
def repS (a : Str) (k : Nat) : Str := S (List.replicate k a.cps.toList).flatten
theorem repS_len (a : Str) (k : Nat) : (repS a k).length = a.length * k := by
  unfold repS
  rw [S_len]
  have : ∀ k, ((List.replicate k a.cps.toList).flatten).length = a.cps.toList.length * k := fun k => by
    induction k with
    | zero => simp
    | succ k ih => rw [List.replicate_succ, List.flatten_cons, List.length_append, ih, Nat.mul_succ, Nat.add_comm]
  rw [this]
  rfl
theorem op_repS : OpR X (binaryOp .Mult) (fun x y H Q => ∃ a k, x = .str a ∧ y = .int k ∧ 0 ≤ k ∧ k ≤ 1000000 ∧ a.length * k.toNat ≤ sizeLine ∧ Q (.str (repS a k.toNat)) H) := by
  intro pins s σ H x y v u Q I rx ry h
  obtain ⟨a, k, rfl, rfl, h0, h1, hz, q⟩ := h
  obtain ⟨t, rfl⟩ := rx
  obtain ⟨tu, rfl⟩ := ry
  have e1 : (decide (k < -(2 ^ 63 : Int)) || decide (k ≥ 2 ^ 63)) = false := by
    rw [decide_eq_false (by omega), decide_eq_false (by omega)]; rfl
  have hs : sizeLine = 16777216 := sizeLine_eq
  have tl : Builtin.Str.tooLong (a.length * k.toNat) = false := by
    first
      | exact decide_eq_false (by omega)
      | (unfold Builtin.Str.tooLong; exact decide_eq_false (by omega))
      | (unfold Builtin.Str.tooLong; simp; omega)
  refine PySem.P.mul_str e1 (fun h2 h3 => ?_) (fun _ _ => tl) ?_
  · have h4 : (k == 1 || a.length == 0) = false := h3
    have p : 1 ≤ k := by omega
    have hl : (a.length : Int) ≤ 16777216 := by
      have : a.length * 1 ≤ a.length * k.toNat := Nat.mul_le_mul_left _ (by omega)
      omega
    have : (16777216 : Int) ≤ (2 ^ 63 - 1) / k := by
      rw [Int.le_ediv_iff_mul_le (by omega)]
      omega
    omega
  · by_cases c : k < 1
    · rw [if_pos c]
      have e : k = 0 := by omega
      subst e
      exact ⟨by decide, ⟨.str _, H, I.tok _, ⟨_, rfl⟩, q⟩⟩
    · rw [if_neg c]
      by_cases c2 : (k == 1 || a.length == 0) = true
      · rw [if_pos c2]
        have e : repS a k.toNat = a := by
          rcases (by simpa using c2 : k = 1 ∨ a.length = 0) with e | e
          · subst e
            show S (List.replicate 1 a.cps.toList).flatten = a
            rw [show (List.replicate 1 a.cps.toList).flatten = a.cps.toList by simp, S_tl]
          · have l0 : (repS a k.toNat).length = 0 := by rw [repS_len, e, Nat.zero_mul]
            have z : ∀ x : Str, x.length = 0 → x = S [] := fun x hx => by
              rw [← S_tl x]
              have : x.cps.toList = [] := List.eq_nil_of_length_eq_zero (by have : x.cps.toList.length = x.length := rfl; omega)
              rw [this]
            rw [z _ l0, z _ e]
        rw [e] at q
        exact ⟨.str _, H, I, ⟨_, rfl⟩, q⟩
      · rw [if_neg c2]
        have e : (⟨(List.replicate k.toNat a.cps).foldl (· ++ ·) #[]⟩ : Str) = repS a k.toNat := by
          rw [foldl_cps]
          unfold repS
          show _ = Str.mk _
          congr 1
          simp
        rw [e]
        exact ⟨by rw [repS_len]; exact hz, ⟨.str _, H, I.tok _, ⟨_, rfl⟩, q⟩⟩
/-- times: ints, texts, lists -/
def uMul2 : R2
  | .int i, .int j, H, Q => (CMul i j ∨ CMulW i j ∨ CMulX i j) ∧ Q (.int (i * j)) H
  | .str a, .int k, H, Q => 0 ≤ k ∧ k ≤ 1000000 ∧ a.length * k.toNat ≤ sizeLine ∧ Q (.str (repS a k.toNat)) H
  | .ref l, .int k, H, Q => ∃ xs, H l = some (.lst xs) ∧ 0 ≤ k ∧ k ≤ 1000000 ∧ xs.length * k.toNat ≤ sizeLine ∧ ∀ p, H p = none → Q (.ref p) (upd H p (.lst (List.replicate k.toNat xs).flatten))
  | _, _, _, _ => False
theorem o_mul2 : OpR X (binaryOp .Mult) uMul2 := OpRw (op_mul.or (op_mulW.or (op_mulX.or (op_repS.or op_rep)))) fun x y H Q h => by
  unfold uMul2 at h
  split at h
  · obtain ⟨c | c | c, h⟩ := h
    · exact .inl ⟨_, _, rfl, rfl, c, h⟩
    · exact .inr (.inl ⟨_, _, rfl, rfl, c, h⟩)
    · exact .inr (.inr (.inl ⟨_, _, rfl, rfl, c, h⟩))
  · exact .inr (.inr (.inr (.inl ⟨_, _, rfl, rfl, h.1, h.2.1, h.2.2.1, h.2.2.2⟩)))
  · obtain ⟨xs, h1, h2, h3, h4, q⟩ := h
    exact .inr (.inr (.inr (.inr ⟨_, _, xs, rfl, rfl, h1, by omega, by omega, h4, q⟩)))
  · exact h.elim
theorem mul2_l {i j : Int} (h : -18446744073709551616 < i ∧ i < 18446744073709551616) : CMul i j ∨ CMulW i j ∨ CMulX i j := .inl (.inl ⟨by omega, by omega⟩)
theorem mul2_r {i j : Int} (h : -18446744073709551616 < j ∧ j < 18446744073709551616) : CMul i j ∨ CMulW i j ∨ CMulX i j := .inl (.inr ⟨by omega, by omega⟩)
theorem rep_l {H : Hp} {l : Addr} {k : Int} {xs : List V} {Q : VK} (h : H l = some (.lst xs)) (h0 : 0 ≤ k) (h1 : k ≤ 1000000) (h2 : xs.length * k.toNat ≤ sizeLine) (q : ∀ p, H p = none → Q (.ref p) (upd H p (.lst (List.replicate k.toNat xs).flatten))) : uMul2 (.ref l) (.int k) H Q := ⟨xs, h, h0, h1, h2, q⟩
end
end KW

set_option Elab.async false
set_option linter.all false
set_option maxRecDepth 100000
set_option maxHeartbeats 4000000
/-! Kw2e: what the top leaves, made; case lemmas; steps -/
namespace KW
open PySem PySem.Spec PyProof.Rows L2
section
variable {K : Frag} {mg : Str → Option Value} {h : Heap} {x m qual : Str} {C f T : Addr} {st : Stmt} {ns ps : List Str} {oc : Value} {od an : Option Addr} {osl : Array (Option Value)} {kV doc pm cdv ct : Value}
theorem clsA_mk (X : K.In h) (G : h.Ns mainGlobals mg) (a : PySem.W.nsIn K mainGlobals x = some (some (.ref C))) (pg : PySem.W.plainGet K C Str.empty = true) (hd : PySem.W.hasDictIn K C = true) (po : PySem.W.plainOver K C = true)
    (sa : PySem.W.findIn K (.ref C) "__setattr__" = some (some (.builtin "object.__setattr__"))) (no : ∀ f ∈ ns, PySem.W.findIn K (.ref C) f = some none) : ClsA K mg x C ns :=
  ⟨PySem.W.mg_of X G a, ⟨pg, hd, po, sa⟩, no⟩
theorem metAt_mk (a : PySem.W.findIn K (.ref C) m = some (some (.ref f))) (fn : PySem.W.isFn K (.ref f) = true) (kp : PySem.W.keepIn K (.ref f) = true)
    (l : K.lookup f = some ⟨oc, od, .func (PySem.W.fnOf m qual (defArgs st) (defBody st) (defScope st) .none kV doc pm an cdv ct), osl⟩) (c : PySem.W.codeIn K cdv qual = true)
    (hb : ∀ (kV doc pm : Value) (an : Option Addr) (cdv ct : Value) (us : List Value), us.length = ps.length → bindArgs (PySem.W.fnOf m qual (defArgs st) (defBody st) (defScope st) .none kV doc pm an cdv ct) ⟨us, []⟩ = pure (ps.zip us)) : MetAt K C m qual st ps := by
  have F : FunD K m qual (defArgs st) (defBody st) (defScope st) [] [] f _ := ⟨⟨oc, od, .none, kV, doc, pm, an, cdv, ct, osl, rfl, l, c, .inl ⟨rfl, rfl⟩, .inl rfl⟩, kp⟩
  exact ⟨f, ⟨a, fn, kp⟩, _, F, fun j hj => ⟨[], by simpa using Paired.nil, F.bindsN hb⟩⟩
theorem iniAt_mk (kc : PySem.W.keepIn K (.ref C) = true) (mk : PySem.W.makesIn K C = true) (a : PySem.W.findIn K (.ref C) "__init__" = some (some (.ref f))) (fn : PySem.W.isFn K (.ref f) = true) (kp : PySem.W.keepIn K (.ref f) = true)
    (l : K.lookup f = some ⟨oc, od, .func (PySem.W.fnOf "__init__" qual (defArgs st) (defBody st) (defScope st) .none kV doc pm an cdv ct), osl⟩) (c : PySem.W.codeIn K cdv qual = true)
    (hb : ∀ (kV doc pm : Value) (an : Option Addr) (cdv ct : Value) (us : List Value), us.length = ps.length → bindArgs (PySem.W.fnOf "__init__" qual (defArgs st) (defBody st) (defScope st) .none kV doc pm an cdv ct) ⟨us, []⟩ = pure (ps.zip us)) : IniAt K C qual st ps [] := by
  have F : FunD K "__init__" qual (defArgs st) (defBody st) (defScope st) [] [] f _ := ⟨⟨oc, od, .none, kV, doc, pm, an, cdv, ct, osl, rfl, l, c, .inl ⟨rfl, rfl⟩, .inl rfl⟩, kp⟩
  exact ⟨f, ⟨mk, a, fn, kc⟩, _, F, fun j hj => ⟨[], by simpa using Paired.nil, F.bindsN hb⟩⟩
theorem iniAt_mkD {dvs : List V} {its : List Value} {o : Obj} {n : Nat} (kc : PySem.W.keepIn K (.ref C) = true) (mk : PySem.W.makesIn K C = true) (a : PySem.W.findIn K (.ref C) "__init__" = some (some (.ref f))) (fn : PySem.W.isFn K (.ref f) = true) (kp : PySem.W.keepIn K (.ref f) = true)
    (l : K.lookup f = some ⟨oc, od, .func (PySem.W.fnOf "__init__" qual (defArgs st) (defBody st) (defScope st) (.ref T) kV doc pm an cdv ct), osl⟩) (c : PySem.W.codeIn K cdv qual = true)
    (lT : K.lookup T = some o) (oT : o.data = .seq its.toArray n) (r : Vals dvs its) (hd : dvs ≠ []) (hl : dvs.length ≤ ps.length)
    (hb : ∀ j, j ≤ dvs.length → ∀ (T : Addr) (kV doc pm : Value) (an : Option Addr) (cdv ct : Value) (us its : List Value), us.length = ps.length - (dvs.length - j) → its.length = dvs.length →
      ∃ k, bindArgs (PySem.W.fnOf "__init__" qual (defArgs st) (defBody st) (defScope st) (.ref T) kV doc pm an cdv ct) ⟨us, []⟩ = seqItems? (.ref T) >>= k ∧ k (some its.toArray) = pure (ps.zip (us ++ its.drop j))) : IniAt K C qual st ps dvs := by
  have F : FunD K "__init__" qual (defArgs st) (defBody st) (defScope st) dvs [] f _ := ⟨⟨oc, od, .ref T, kV, doc, pm, an, cdv, ct, osl, rfl, l, c, .inr ⟨hd, T, o, its, n, rfl, lT, oT, r⟩, .inl rfl⟩, kp⟩
  exact ⟨f, ⟨mk, a, fn, kc⟩, _, F, fun j hj => F.binds1 (ps.length - (dvs.length - j)) j hd (by omega) (hb j hj)⟩
end
/-! ### case lemmas -/
theorem uStr_e1 {i : Int} {H : Hp} {Q : VK} : uStr [.int i] H Q = (i.natAbs.log2 < 1920 ∧ Q (.str (toString i)) H) := rfl
theorem uStr_e2 {a : Str} {H : Hp} {Q : VK} : uStr [.str a] H Q = Q (.str a) H := rfl
theorem uMul2_e1 {i j : Int} {H : Hp} {Q : VK} : uMul2 (.int i) (.int j) H Q = ((CMul i j ∨ CMulW i j ∨ CMulX i j) ∧ Q (.int (i * j)) H) := rfl
theorem uMul2_e2 {a : Str} {k : Int} {H : Hp} {Q : VK} : uMul2 (.str a) (.int k) H Q = (0 ≤ k ∧ k ≤ 1000000 ∧ a.length * k.toNat ≤ sizeLine ∧ Q (.str (repS a k.toNat)) H) := rfl
theorem okS_i {n : Int} : PySem.KErr.okS (.int n) = (n.natAbs < 10 ^ 4300) := rfl
theorem okS_s {x : Str} : PySem.KErr.okS (.str x) = True := rfl
theorem small4300 {n : Int} (h : -100000000000000000000000000000000000000000000000000000000000000000000000000000000 < n ∧ n < 100000000000000000000000000000000000000000000000000000000000000000000000000000000) : n.natAbs < 10 ^ 4300 := by
  refine Nat.lt_of_lt_of_le (show n.natAbs < 10 ^ 80 by omega) (Nat.pow_le_pow_right (by decide) (by decide))
theorem WE_e {W : WX} {σ : L2.St} {c : Value} {d : Option Addr} {H : Hp} : WE W σ c d H = W c d σ H := rfl
/-! ### errors caught or let through -/
section
variable {K : Frag} {c cls : Value} {d : Option Addr} {i : Nat} {ts : Addr → Value → Option Addr → TS} {W : WX} {D : Ends} {σ : L2.St} {H : Hp}
theorem as_yes (h : PySem.W.exmOne K cls c = some true) (q : ∀ a, H a = none → ts a cls d { nx := fun σ' H' => D.nx (σ'.set i none) H', rt := D.rt, bk := fun σ' H' => D.bk (σ'.set i none) H', ct := fun σ' H' => D.ct (σ'.set i none) H' } (σ.set i (some (.ref a))) H) : wAs K c i ts W D cls d σ H :=
  ⟨true, h, ⟨fun _ => q, fun z => absurd z.symm Bool.false_ne_true⟩⟩
theorem as_no (h : PySem.W.exmOne K cls c = some false) (q : W cls d σ H) : wAs K c i ts W D cls d σ H := ⟨false, h, ⟨fun z => absurd z Bool.false_ne_true, fun _ => q⟩⟩
variable {a C dd : Addr} {fs : List (Str × V)} {v : V} {f : Str} {Q : VK} {P : Program} {w : World} {mg : Str → Option Value} {x : Str} {ns : List Str} {ok : List V → Prop}
theorem ef_l (c : ErrC P w K mg x C ns ok) (m : f ∈ ns) (e : σ[i]? = some (some (.ref a))) (h : H dd = some (.xd fs)) (l : fs.lookup f = some v) (q : Q v H) : uEf K a (.ref C) (some dd) i f σ H Q := ⟨C, dd, fs, v, e, rfl, c.xf, c.no f m, rfl, h, l, q⟩
theorem isE_r {b : Addr} {r : Bool} (c : ErrC P w K mg x C ns ok) (h : H dd = some (.xd fs)) (k : PySem.W.kitOne K (.ref C) (.ref b) = some r) (q : Q (.bl r) H) : uIsE K a (.ref C) (some dd) [.ref a, .ref b] H Q := ⟨C, dd, fs, r, rfl, rfl, c.is, rfl, h, k, q⟩
theorem isE_t {T : String} {r : Bool} (c : ErrC P w K mg x C ns ok) (h : H dd = some (.xd fs)) (k : PySem.W.kitOne K (.ref C) (.type T) = some r) (q : Q (.bl r) H) : uIsE K a (.ref C) (some dd) [.ref a, .ty T] H Q := ⟨C, dd, fs, r, rfl, rfl, c.is, rfl, h, k, q⟩
end
section
variable {H : Hp} {a b p : Addr} {o : HO}
theorem upd_none : upd H a o p = none ↔ p ≠ a ∧ H p = none := by
  by_cases h : p = a
  · subst h; rw [upd_same]; simp
  · rw [upd_ne h]; simp [h]
theorem ne_ud (h : upd H a o p = none) : p ≠ a := (upd_none.mp h).1
theorem ne_un (h : upd H a o p = none) : H p = none := (upd_none.mp h).2
theorem ne_n (h2 : H b = some o) (h : H p = none) : p ≠ b := fun e => by subst e; rw [h] at h2; cases h2
theorem ne_m (h : H p = none) (h2 : H b = some o) : p ≠ b := ne_n h2 h
theorem putF_nil {f : Str} {v : V} : putF f v [] = [(f, v)] := rfl
theorem putF_cons {f g : Str} {v x : V} {r : List (Str × V)} : putF f v ((g, x) :: r) = if g = f then (g, v) :: r else (g, x) :: putF f v r := rfl
end
end KW

set_option Elab.async false
set_option linter.all false
set_option maxRecDepth 100000
set_option maxHeartbeats 4000000
/-! Kw2f: methods of lists, stepwise; lists of texts and of ints -/
namespace KW
open PySem PySem.Spec PyProof.Rows L2
section
variable {K : Frag} {H : Hp} {l b p : Addr} {xs zs : List V} {y v : V} {Q : VK}
theorem app_l (h : H l = some (.lst xs)) (z : xs.length < sizeLine) (q : Q .non (upd H l (.lst (xs ++ [y])))) : rAppend (.ref l) [y] H Q := ⟨l, xs, y, rfl, rfl, h, z, q⟩
theorem ext_l (h : H l = some (.lst xs)) (h2 : H b = some (.lst zs)) (z : xs.length + zs.length ≤ sizeLine) (q : Q .non (upd H l (.lst (xs ++ zs)))) : rExtend (.ref l) [.ref b] H Q := ⟨l, b, xs, zs, rfl, rfl, h, h2, z, q⟩
theorem pop_l (h : H l = some (.lst xs)) (e : xs[xs.length - 1]? = some y) (q : Q y (upd H l (.lst xs.dropLast))) : rPop (.ref l) [] H Q := ⟨l, xs, y, rfl, rfl, h, e, q⟩
theorem pops_l {y : V} (h : H l = some (.lst (xs ++ [y]))) (q : Q y (upd H l (.lst xs))) : rPop (.ref l) [] H Q := ⟨l, _, y, rfl, rfl, h, by simp, by rw [List.dropLast_concat]; exact q⟩
theorem rev_l (h : H l = some (.lst xs)) (q : Q .non (upd H l (.lst xs.reverse))) : rReverse (.ref l) [] H Q := ⟨l, xs, rfl, rfl, h, q⟩
theorem clr_l (h : H l = some (.lst xs)) (q : Q .non (upd H l (.lst []))) : rClear (.ref l) [] H Q := ⟨l, xs, rfl, rfl, h, q⟩
theorem cat_l (h : H l = some (.lst xs)) (h2 : H b = some (.lst zs)) (z : xs.length + zs.length ≤ sizeLine) (q : ∀ p, H p = none → Q (.ref p) (upd H p (.lst (xs ++ zs)))) : rCat (.ref l) (.ref b) H Q := ⟨l, b, xs, zs, rfl, rfl, h, h2, z, q⟩
theorem sll_l {lo hi : Option Int} (h : H l = some (.lst xs)) (q : ∀ p, H p = none → Q (.ref p) (upd H p (.lst (cutV xs lo hi)))) : rSlL K (.ref l) lo hi H Q := ⟨l, xs, rfl, .of h, q⟩
theorem usl_l {lo hi : Option Int} (h : H l = some (.lst xs)) (q : ∀ p, H p = none → Q (.ref p) (upd H p (.lst (cutV xs lo hi)))) : uSl K (.ref l) lo hi H Q := .inl (sll_l h q)
theorem ucat_l (h : H l = some (.lst xs)) (h2 : H b = some (.lst zs)) (z : xs.length + zs.length ≤ sizeLine) (q : ∀ p, H p = none → Q (.ref p) (upd H p (.lst (xs ++ zs)))) : uAdd K (.ref l) (.ref b) H Q := .inl (cat_l h h2 z q)
theorem tru_l {k : Bool → Prop} (h : H l = some (.lst xs)) (q : k (!xs.isEmpty)) : uTru K (.ref l) H k := ⟨_, .inl ⟨xs, .of h, rfl⟩, q⟩
theorem tru_sl {k : Bool → Prop} (h : SqL K H l xs) (q : k (!xs.isEmpty)) : uTru K (.ref l) H k := ⟨_, .inl ⟨xs, h, rfl⟩, q⟩
theorem tru_t {k : Bool → Prop} (h : H l = some (.tup xs)) (q : k (!xs.isEmpty)) : uTru K (.ref l) H k := ⟨_, .inr (.inl ⟨xs, .of h, rfl⟩), q⟩
theorem tru_d {k : Bool → Prop} {kvs : List (Key × V)} (h : H l = some (.dK kvs)) (q : k (!kvs.isEmpty)) : uTru K (.ref l) H k := ⟨_, .inr (.inr ⟨kvs, h, rfl⟩), q⟩
end
section
variable {K : Frag} {H : Hp} {p : Addr} {xs : List V} {Q : VK} {n : String}
theorem isi_l (h : H p = some (.lst xs)) (o : isOk "list" n = true) (q : Q (.bl (isK "list" n)) H) : uIsi K [.ref p, .ty n] H Q := ⟨"list", .base (.lst h), o, q⟩
theorem isi_t (h : H p = some (.tup xs)) (o : isOk "tuple" n = true) (q : Q (.bl (isK "tuple" n)) H) : uIsi K [.ref p, .ty n] H Q := ⟨"tuple", .base (.tup h), o, q⟩
theorem isi_d {kvs : List (Key × V)} (h : H p = some (.dK kvs)) (o : isOk "dict" n = true) (q : Q (.bl (isK "dict" n)) H) : uIsi K [.ref p, .ty n] H Q := ⟨"dict", .base (.dK h), o, q⟩
end
/-! ### lists of texts, of ints -/
section
variable {K : Frag} {H : Hp} {l : Addr} {Q : VK}
theorem flat_strs (xs : List Str) : (xs.map V.str).all flatV = true := by simp [flatV]
theorem flat_ints (xs : List Int) : (xs.map V.int).all flatV = true := by simp [flatV]
theorem inV_strs (x : Str) : ∀ xs : List Str, inV (.str x) (xs.map V.str) = decide (x ∈ xs)
  | [] => rfl
  | a :: r => by
    show ((a == x) || inV (.str x) (r.map V.str)) = decide (x ∈ a :: r)
    rw [inV_strs x r]
    by_cases e : a = x
    · subst e; simp
    · have e2 : ¬ x = a := fun z => e z.symm
      have e3 : (a == x) = false := by simpa using e
      simp [e2, e3]
theorem inV_ints (x : Int) : ∀ xs : List Int, inV (.int x) (xs.map V.int) = decide (x ∈ xs)
  | [] => rfl
  | a :: r => by
    show ((a == x) || inV (.int x) (r.map V.int)) = decide (x ∈ a :: r)
    rw [inV_ints x r]
    by_cases e : a = x
    · subst e; simp
    · have e2 : ¬ x = a := fun z => e z.symm
      have e3 : (a == x) = false := by simpa using e
      simp [e2, e3]
theorem in_s {x : Str} {xs : List Str} (h : H l = some (.lst (xs.map V.str))) (q : Q (.bl (decide (x ∈ xs))) H) : rIn K false (.str x) (.ref l) H Q := ⟨l, _, rfl, .inl (.of h), rfl, flat_strs xs, by rw [inV_strs]; exact q⟩
theorem nin_s {x : Str} {xs : List Str} (h : H l = some (.lst (xs.map V.str))) (q : Q (.bl (!decide (x ∈ xs))) H) : rIn K true (.str x) (.ref l) H Q := ⟨l, _, rfl, .inl (.of h), rfl, flat_strs xs, by rw [inV_strs]; exact q⟩
theorem in_i {x : Int} {xs : List Int} (h : H l = some (.lst (xs.map V.int))) (q : Q (.bl (decide (x ∈ xs))) H) : rIn K false (.int x) (.ref l) H Q := ⟨l, _, rfl, .inl (.of h), rfl, flat_ints xs, by rw [inV_ints]; exact q⟩
theorem nin_i {x : Int} {xs : List Int} (h : H l = some (.lst (xs.map V.int))) (q : Q (.bl (!decide (x ∈ xs))) H) : rIn K true (.int x) (.ref l) H Q := ⟨l, _, rfl, .inl (.of h), rfl, flat_ints xs, by rw [inV_ints]; exact q⟩
theorem idxOf_get {α : Type} [BEq α] [LawfulBEq α] {x : α} : ∀ {xs : List α}, x ∈ xs → xs[xs.idxOf x]? = some x ∧ ∀ m z, m < xs.idxOf x → xs[m]? = some z → z ≠ x
  | [], h => by cases h
  | a :: r, h => by
    by_cases e : a = x
    · subst e
      rw [List.idxOf_cons_self]
      exact ⟨rfl, fun m z hm => absurd hm (Nat.not_lt_zero _)⟩
    · have hm : x ∈ r := by
        rcases List.mem_cons.mp h with q | q
        · exact absurd q.symm e
        · exact q
      obtain ⟨h1, h2⟩ := idxOf_get hm
      have hi : (a :: r).idxOf x = r.idxOf x + 1 := by
        rw [List.idxOf_cons]
        have : (a == x) = false := by simpa using e
        rw [this]
        rfl
      rw [hi]
      refine ⟨h1, fun m z hm hz => ?_⟩
      cases m with
      | zero => simp at hz; rw [← hz]; exact e
      | succ m => exact h2 m z (by omega) hz
theorem idx_s {x : Str} {xs : List Str} (h : H l = some (.lst (xs.map V.str))) (m : x ∈ xs) (q : Q (.int (xs.idxOf x : Nat)) H) : rIndex K (.ref l) [.str x] H Q := by
  obtain ⟨h1, h2⟩ := idxOf_get m
  refine ⟨l, _, .str x, xs.idxOf x, .str x, rfl, rfl, .of h, rfl, flat_strs xs, ?_, by simp [eqV], fun m z hm hz => ?_, q⟩
  · rw [List.getElem?_map, h1]; rfl
  · rw [List.getElem?_map] at hz
    cases e : xs[m]? with
    | none => rw [e] at hz; cases hz
    | some w =>
      rw [e] at hz
      cases hz
      simpa [eqV] using h2 m w hm e
theorem idx_i {x : Int} {xs : List Int} (h : H l = some (.lst (xs.map V.int))) (m : x ∈ xs) (q : Q (.int (xs.idxOf x : Nat)) H) : rIndex K (.ref l) [.int x] H Q := by
  obtain ⟨h1, h2⟩ := idxOf_get m
  refine ⟨l, _, .int x, xs.idxOf x, .int x, rfl, rfl, .of h, rfl, flat_ints xs, ?_, by simp [eqV], fun m z hm hz => ?_, q⟩
  · rw [List.getElem?_map, h1]; rfl
  · rw [List.getElem?_map] at hz
    cases e : xs[m]? with
    | none => rw [e] at hz; cases hz
    | some w =>
      rw [e] at hz
      cases hz
      simpa [eqV] using h2 m w hm e
theorem atI_map {α β : Type} {f : α → β} {xs : List α} {i : Nat} {x : α} (h : xs[i]? = some x) : atI (xs.map f) (i : Int) = some (f x) := atI_nat (by rw [List.getElem?_map, h]; rfl)
end
theorem cutV_from (xs : List V) (n : Nat) : cutV xs (some (n : Int)) none = xs.drop n := by
  unfold cutV
  rw [HT.sIx_nat]
  show (xs.drop (min n xs.length)).take (xs.length - min n xs.length) = xs.drop n
  by_cases h : n ≤ xs.length
  · rw [Nat.min_eq_left h, List.take_of_length_le (by rw [List.length_drop]; omega)]
  · rw [Nat.min_eq_right (by omega), List.drop_length, List.drop_eq_nil_of_le (by omega)]
    simp
theorem cutV_nat (xs : List V) (i j : Nat) : cutV xs (some (i : Int)) (some (j : Int)) = (xs.drop i).take (j - i) := by
  unfold cutV
  rw [HT.sIx_nat, HT.sIx_nat]
  have e : xs.drop (min i xs.length) = xs.drop i := by
    by_cases h : i ≤ xs.length
    · rw [Nat.min_eq_left h]
    · rw [Nat.min_eq_right (by omega), List.drop_length, List.drop_eq_nil_of_le (by omega)]
  rw [e]
  refine List.take_eq_take_iff.mpr ?_
  rw [List.length_drop]
  omega
theorem valV_drop (kvs : List (Key × V)) (k j : Key) : valV (dropK kvs k) j = if j = k then none else valV kvs j := by
  unfold valV dropK
  rw [List.find?_filter]
  by_cases e : j = k
  · subst e
    rw [if_pos rfl]
    have : (kvs.find? fun a => decide (a.1 ≠ j) && decide (a.1 = j)) = none := by
      rw [List.find?_eq_none]
      intro a _
      simp
    simp [this]
  · rw [if_neg e]
    congr 1
    congr 1
    funext a
    by_cases c : a.1 = j
    · have : ¬ a.1 = k := fun z => e (c.symm.trans z)
      simp [c, this, e]
    · simp [c]
/-! ### places in a text -/
def nthS (l : List Stmt) (i : Nat) : Stmt := l.getD i (.Pass ⟨0, 0, 0, 0⟩)
def ifB : Stmt → List Stmt | .If _ b _ _ => b | _ => []
def ifE : Stmt → List Stmt | .If _ _ b _ => b | _ => []
def whB : Stmt → List Stmt | .While _ b _ _ => b | _ => []
def forB : Stmt → List Stmt | .For _ _ b _ _ => b | _ => []
def tryB : Stmt → List Stmt | .Try b _ _ _ _ => b | _ => []
def suB : Stmt → List Stmt | .Try _ [.ExceptHandler _ _ b _] _ _ _ => b | _ => []
/-! ### all but some stands -/
def Fr (l : List Addr) (H H' : Hp) : Prop := ∀ b o, b ∉ l → H b = some o → H' b = some o
theorem Fr.refl {l : List Addr} (H : Hp) : Fr l H H := fun _ _ _ h => h
theorem Fr.trans {l : List Addr} {H H1 H2 : Hp} (x : Fr l H H1) (y : Fr l H1 H2) : Fr l H H2 := fun b o n h => y b o n (x b o n h)
theorem Fr.mono {l m : List Addr} {H H1 : Hp} (x : Fr l H H1) (y : ∀ b, b ∈ l → b ∈ m) : Fr m H H1 := fun b o n h => x b o (fun z => n (y b z)) h
theorem Fr.upd {l : List Addr} {a : Addr} {H : Hp} {o : HO} (h : a ∈ l) : Fr l H (L2.upd H a o) := fun b _ n e => by rw [upd_ne (fun z => n (by rw [z]; exact h))]; exact e
theorem Fr.new {l : List Addr} {p : Addr} {H : Hp} {o : HO} (h : H p = none) : Fr l H (L2.upd H p o) := fun b u _ e => by rw [upd_ne (ne_of_none e h)]; exact e
theorem Fr.lst {l : List Addr} {H H' : Hp} {b : Addr} {o : HO} (x : Fr l H H') (h : H b = some o) (n : b ∉ l) : H' b = some o := x b o n h
theorem Fr.seq {l : List Addr} {b : Addr} {K : Frag} {H H' : Hp} {xs : List V} (e : Fr l H H') (n : b ∉ l) (h : SqL K H b xs) : SqL K H' b xs := by
  rcases h with (h | ⟨o, h⟩) | h
  · exact .inl (.inl (e _ _ n h))
  · exact .inl (.inr ⟨o, e _ _ n h⟩)
  · exact .inr h
end KW

set_option Elab.async false
set_option linter.all false
set_option maxRecDepth 100000
set_option maxHeartbeats 4000000
/-! Kw2g: list comprehensions -/
namespace KW
open PySem PySem.Spec PyProof.Rows L2
/-- the loop of a comprehension, behind the making of its iterator: not opened by simp -/
def lcK (J : It) (g : TG) (tt : TT) (te : TE) (vs : List Nat) (σ : L2.St) (H1 : Hp) (Q : VK) : Prop := ∀ D, H1 D = none → ∃ W : Nat → Nat → Hp → Prop, (∃ m, W 0 m (upd H1 D (.lst []))) ∧ ∀ i m H, W i m H →
  (J.stop i H ∧ Q (.ref D) H) ∨ (J.go i H ∧ ∃ Nx : Hp → Prop, (∀ H', Nx H' → ∃ m', m' < m ∧ W (i + 1) m' H') ∧ ∀ x H', J.yld i H x H' → g x (wipe σ vs) H' fun σ2 H2 => wipe σ2 vs = wipe σ vs ∧ tt σ2 H2 fun b H3 =>
    if b = true then te σ2 H3 fun y H4 => ∃ acc, H4 D = some (.lst acc) ∧ acc.length < sizeLine ∧ Nx (upd H4 D (.lst (acc ++ [y]))) else Nx H3)
def uLc (wi : TI) (g : TG) (tt : TT) (te : TE) (vs : List Nat) : TE := fun σ H Q => wi σ H fun J H1 => lcK J g tt te vs σ H1 Q
section
variable {X : Cx}
theorem k_lc {elt tg iter : Expr} {ifs : List Expr} {scope : Scope} {own : List (Str × Nat)} {pos : Pos} {wi : TI} {g : TG} {tt : TT} {te : TE} (hc : X.calm = true) (hN : X.N.Nodup) (hi : PI X tg iter wi) (ok : BlkOk X.N X.env.scope scope own)
    (hg : ∀ (s : Shared) (H : Hp) (C : Addr) (cl : List (Str × Addr)) (fp : List Addr), PG (X.blk s H scope (compEnvC scope cl C X.env) fp) tg g) (ht : ∀ (s : Shared) (H : Hp) (C : Addr) (cl : List (Str × Addr)) (fp : List Addr), PTs (X.blk s H scope (compEnvC scope cl C X.env) fp) ifs tt)
    (he : ∀ (s : Shared) (H : Hp) (C : Addr) (cl : List (Str × Addr)) (fp : List Addr), PE (X.blk s H scope (compEnvC scope cl C X.env) fp) elt te) (hs : ∀ x, foldedSetIterable iter X.env x = pure x := by intro _; rfl) :
    PE X (.ListComp elt [⟨tg, iter, ifs, 0⟩] scope pos) (uLc wi g tt te (own.map (·.2))) := ⟨(pe_lc hc hN hi ok hg ht he hs).run⟩
theorem k_setLc {i : Nat} {y : Str} {py : Pos} {elt tg iter : Expr} {ifs : List Expr} {scope : Scope} {own : List (Str × Nat)} {pos spos : Pos} {wi : TI} {g : TG} {tt : TT} {te : TE} (hc : X.calm = true) (hN : X.N.Nodup) (hy : X.N[i]? = some y) (hyl : X.env.scope.names.lookup y = some .local)
    (hsw : swapsWith (.ListComp elt [⟨tg, iter, ifs, 0⟩] scope pos) (some (.Name y py)) spos.line X.env = pure true) (hi : PI X tg iter wi) (ok : BlkOk X.N X.env.scope scope own)
    (hg : ∀ (s : Shared) (H : Hp) (C : Addr) (cl : List (Str × Addr)) (fp : List Addr), PG (X.blk s H scope (compEnvC scope cl C X.env) fp) tg g) (ht : ∀ (s : Shared) (H : Hp) (C : Addr) (cl : List (Str × Addr)) (fp : List Addr), PTs (X.blk s H scope (compEnvC scope cl C X.env) fp) ifs tt)
    (he : ∀ (s : Shared) (H : Hp) (C : Addr) (cl : List (Str × Addr)) (fp : List Addr), PE (X.blk s H scope (compEnvC scope cl C X.env) fp) elt te) (hs : ∀ x, foldedSetIterable iter X.env x = pure x := by intro _; rfl) :
    PS X (.Assign [.Name y py] (.ListComp elt [⟨tg, iter, ifs, 0⟩] scope pos) spos) (tAsg (uLc wi g tt te (own.map (·.2))) (gName i)) := ⟨(ps_setLc hc hN hy hyl hsw hi ok hg ht he hs).run⟩
end
/-- over a list, where the items are made without a change of the heap: f tells what each gives -/
theorem lc_pl {K : Frag} {a : Addr} {xs : List V} {g : TG} {tt : TT} {te : TE} {vs : List Nat} {σ : L2.St} {H : Hp} {Q : VK} (f : V → Option V) (hS : SqL K H a xs) (hz : xs.length < sizeLine)
    (hs : ∀ (i : Nat) (x : V) (D : Addr) (acc : List V) (Cy : V → Hp → Prop) (Cn : Hp → Prop), xs[i]? = some x → H D = none → (∀ y, f x = some y → Cy y (upd H D (.lst acc))) → (f x = none → Cn (upd H D (.lst acc))) →
      g x (wipe σ vs) (upd H D (.lst acc)) fun σ2 H2 => wipe σ2 vs = wipe σ vs ∧ tt σ2 H2 fun b H3 => if b = true then te σ2 H3 fun y H4 => Cy y H4 else Cn H3)
    (hq : ∀ D, H D = none → Q (.ref D) (upd H D (.lst (xs.filterMap f)))) : lcK (Itl K a) g tt te vs σ H Q := by
  intro D hD
  refine ⟨fun i m H' => m = xs.length - i ∧ i ≤ xs.length ∧ H' = upd H D (.lst ((xs.take i).filterMap f)), ⟨xs.length, by simp⟩, ?_⟩
  rintro i m H' ⟨rfl, hi, rfl⟩
  have q := SqL.new (o := .lst ((xs.take i).filterMap f)) hD hS
  by_cases hlt : i < xs.length
  · refine .inr ⟨⟨xs, xs[i], q, by simp [hlt]⟩, fun H'' => H'' = upd H D (.lst ((xs.take (i + 1)).filterMap f)), fun H'' e => ⟨xs.length - (i + 1), by omega, rfl, hlt, e⟩, fun x H' y => ?_⟩
    obtain ⟨e, y⟩ := y
    subst e
    have hx := y xs q
    have et : xs.take (i + 1) = xs.take i ++ [x] := by
      rw [List.take_add_one, hx]; rfl
    refine hs i x D _ _ _ hx hD (fun y hy => ⟨_, upd_same, ?_, ?_⟩) fun hn => ?_
    · have h1 : ((xs.take i).filterMap f).length ≤ (xs.take i).length := List.length_filterMap_le _ _
      have h2 : (xs.take i).length ≤ xs.length := by rw [List.length_take]; omega
      omega
    · rw [upd_upd, et, List.filterMap_append]
      simp [hy]
    · rw [et, List.filterMap_append]
      simp [hn]
  · have e : i = xs.length := by omega
    subst e
    refine .inl ⟨⟨xs, q, Nat.le_refl _⟩, ?_⟩
    rw [List.take_length]
    exact hq D hD
theorem lc_pr {lo : Int} {n : Nat} {g : TG} {tt : TT} {te : TE} {vs : List Nat} {σ : L2.St} {H : Hp} {Q : VK} (f : Nat → Option V) (hz : n < sizeLine)
    (hs : ∀ (i : Nat) (D : Addr) (acc : List V) (Cy : V → Hp → Prop) (Cn : Hp → Prop), i < n → H D = none → (∀ y, f i = some y → Cy y (upd H D (.lst acc))) → (f i = none → Cn (upd H D (.lst acc))) →
      g (.int (lo + i)) (wipe σ vs) (upd H D (.lst acc)) fun σ2 H2 => wipe σ2 vs = wipe σ vs ∧ tt σ2 H2 fun b H3 => if b = true then te σ2 H3 fun y H4 => Cy y H4 else Cn H3)
    (hq : ∀ D, H D = none → Q (.ref D) (upd H D (.lst ((List.range n).filterMap f)))) : lcK (Itr lo n) g tt te vs σ H Q := by
  intro D hD
  refine ⟨fun i m H' => m = n - i ∧ i ≤ n ∧ H' = upd H D (.lst ((List.range i).filterMap f)), ⟨n, by simp⟩, ?_⟩
  rintro i m H' ⟨rfl, hi, rfl⟩
  by_cases hlt : i < n
  · refine .inr ⟨hlt, fun H'' => H'' = upd H D (.lst ((List.range (i + 1)).filterMap f)), fun H'' e => ⟨n - (i + 1), by omega, rfl, hlt, e⟩, fun x H' y => ?_⟩
    obtain ⟨e, rfl⟩ := y
    subst e
    refine hs i D _ _ _ hlt hD (fun y hy => ⟨_, upd_same, ?_, ?_⟩) fun hn => ?_
    · have h1 : ((List.range i).filterMap f).length ≤ (List.range i).length := List.length_filterMap_le _ _
      rw [List.length_range] at h1
      omega
    · rw [upd_upd, List.range_succ, List.filterMap_append]
      simp [hy]
    · rw [List.range_succ, List.filterMap_append]
      simp [hn]
  · have e : i = n := by omega
    subst e
    exact .inl ⟨Nat.le_refl _, hq D hD⟩
end KW

set_option Elab.async false
set_option linter.all false
set_option maxRecDepth 100000
set_option maxHeartbeats 4000000
/-! Kw2h: sorted, sum, walks over dicts -/
namespace KW
open PySem PySem.Spec PyProof.Rows L2
section
variable {X : Cx}
theorem pe_or {e : Expr} {t t' : TE} (h : PE X e t) (h' : PE X e t') : PE X e (fun σ H Q => t σ H Q ∨ t' σ H Q) := ⟨fun pins s σ H Q I q => q.elim (h.run pins s σ H Q I) (h'.run pins s σ H Q I)⟩
theorem ps_or {e : Stmt} {t t' : TS} (h : PS X e t) (h' : PS X e t') : PS X e (fun D σ H => t D σ H ∨ t' D σ H) := ⟨fun pins s σ H D I q => q.elim (h.run pins s σ H D I) (h'.run pins s σ H D I)⟩
/-- a dict's keys are gathered -/
def ColD (X : Cx) : Prop := ∀ (pins : List (Addr × Obj)) (σ : L2.St) (H : Hp) (s : Shared) (a : Addr) (vs : List (Key × Value)) (ep : Nat) (E : Value → Shared → Prop) (R : List Value → Shared → Prop), Inv X pins σ H s → (a == sysModules) = false → s.heap.DictAt (mixKind X.prog X.w) a vs ep → vs.length ≤ sizeLine →
  (∀ (h' : Heap) (tk : Nat) (acc : Array Value), (∀ b o, s.heap.get? b = some o → h'.get? b = some o) → ItemsOf (fun i v => ∃ k x, vs[i]? = some (k, x) ∧ (mixKind X.prog X.w).is k v = true) acc vs.length → R acc.toList { s with heap := h', toks := tk }) →
  wpAny (model X.prog X.w) X.A.in1 (collect (.ref a)) R E s
theorem colD_calm (hcalm : X.calm = true) : ColD X := fun pins σ H s a vs ep E R I lo hat h16 h => PySem.W.kdu_collect (A := X.A.in1) (PySem.W.kdl_dict (knd := mixKind X.prog X.w) (kvs := vs) (ep := ep) lo) (I.ok.hd hcalm) hat h16 h
/-- sorted(d) of a dict whose keys are ints -/
theorem call_sortedDN (hcol : ColD X) : CallR X (.builtin "sorted") (fun xs H Q => ∃ (a : Addr) (kvs : List (Key × V)) (ks : List Int), xs = [.ref a] ∧ Rd H a (.dK kvs) ∧ kvs.map (·.1) = ks.map Sum.inl ∧ ks.length ≤ sizeLine ∧
    ∀ (ys : List Int) (p : Addr), ys.Perm ks → ys.Pairwise (· ≤ ·) → H p = none → Q (.ref p) (upd H p (.lst (ys.map V.int)))) := by
  intro pins s σ H xs us Q I r q
  obtain ⟨a, kvs, ks, ex, hd, hks, h64, q⟩ := q
  subst ex
  obtain ⟨u, eu, rx⟩ := vals1 r
  subst eu
  cases rx
  obtain ⟨z, lo, vs, rel, dd⟩ := dk_rd I.hok hd
  obtain ⟨ep, hat⟩ := dd.dictAt
  have hkeys : vs.map (·.1) = ks.map Sum.inl := rel.keys.symm.trans hks
  have hl : vs.length = ks.length := by
    have e := congrArg List.length hkeys
    rw [List.length_map, List.length_map] at e
    exact e
  have h16 : vs.length ≤ sizeLine := by rw [hl]; exact h64
  refine Calls.call_function_entry PyProof.Rows.kind_sorted PyProof.Rows.plain_sorted PyProof.Rows.entry_sorted (PyProof.Rows.args_sorted1 _) ?_
  unfold Builtin.«sorted»
  refine wpAny_bind (m := checkCount "sorted" 1 1 _) (wpAny_pure ?_)
  refine wpAny_bind (hcol pins σ H s a vs ep _ _ I lo hat h16 fun h' tk acc hk hacc => ?_)
  have hal : acc.toList.length = ks.length := by rw [Array.length_toList, hacc.1, hl]
  have hS : IntsAre acc.toList ks := ints_each hal fun j v e => by
    obtain ⟨k, x, e1, e2⟩ := hacc.2 j v (by rw [← Array.getElem?_toList]; exact e)
    have e3 : (vs.map (·.1))[j]? = some k := by rw [List.getElem?_map, e1]; rfl
    rw [hkeys, List.getElem?_map] at e3
    cases e4 : ks[j]? with
    | none => rw [e4] at e3; cases e3
    | some y =>
      rw [e4] at e3
      have e5 : Sum.inl y = k := Option.some.inj e3
      subst e5
      rcases keyIs_shape (show keyIs (Sum.inl y) v = true from e2) with ⟨i, t, ek, ev⟩ | ⟨z, t, ek, ev⟩
      · cases ek
        exact ⟨y, t, rfl, ev⟩
      · cases ek
  have I1 : Inv X pins σ H { s with heap := h', toks := tk } := I.kept hk
  refine wpAny_bind (wpAny_newList ?_ (by rw [hal]; exact h64))
  have hoL : (h'.push (seqObj "list" acc.toList.toArray 0)).get? h'.objs.size = some (seqObj "list" acc.toList.toArray 0) := Heap.get?_push_size _ rfl
  show wpAny _ _ _ _ _ { s with heap := h'.push (seqObj "list" acc.toList.toArray 0), toks := tk }
  refine wpAny_bind (wpAny_holding (wpAny_call_entry PyProof.Rows.slot_list_sort ⟨_, hoL, rfl⟩ PyProof.Rows.entry_list_sort
    (SrtO.list_sort_ord (s := { s with heap := h'.push (seqObj "list" acc.toList.toArray 0), toks := tk }) SrtO.swo_int hoL (by rw [hal]; exact h64) (fun h2 => SrtO.ints_sortable hS h2) fun out hs hb => ⟨_, rfl, ?_⟩) (PyProof.Rows.args_list_sort _)))
  obtain ⟨g1, g2, g3⟩ := SrtO.ints_out hS hs hb
  obtain ⟨e', he'⟩ := PyProof.Rows.sortedHeap_at (vs := acc.toList) (out := out.toArray) hoL
  have hlen : ((out.map SrtO.iv).map V.int).length ≤ sizeLine := by
    rw [List.length_map, g2.length_eq]
    exact h64
  refine wpAny_pure ⟨_, rfl, .ref h'.objs.size, upd H h'.objs.size (.lst ((out.map SrtO.iv).map V.int)), I1.laid (t' := tk) (fun b u e => ?_) (Nat.le_refl _)
    (show ObjOk X.prog X.w _ _ _ (.lst ((out.map SrtO.iv).map V.int)) from ⟨hlen, out, e', vals_of_ints g1, he'⟩), rfl, q _ _ g2 g3 (I1.hok.fresh (Nat.le_refl _))⟩
  have hb : b < h'.objs.size := Heap.lt_size e
  rw [PyProof.Rows.sortedHeap_old (Nat.ne_of_lt hb) (by rw [size_push']; exact Nat.lt_succ_of_lt hb)]
  exact Heap.get?_push_of_some _ e
/-- sorted(x): a list of ints, a dict with ints as keys -/
def uSorted (K : Frag) : List V → Hp → VK → Prop := fun xs H Q => (∃ (a : Addr) (ns : List Int), xs = [V.ref a] ∧ SqL K H a (ns.map V.int) ∧ ∀ (ys : List Int) (p : Addr), ys.Perm ns → ys.Pairwise (· ≤ ·) → H p = none → Q (.ref p) (upd H p (.lst (ys.map V.int)))) ∨
  (∃ (a : Addr) (kvs : List (Key × V)) (ks : List Int), xs = [.ref a] ∧ Rd H a (.dK kvs) ∧ kvs.map (·.1) = ks.map Sum.inl ∧ ks.length ≤ sizeLine ∧ ∀ (ys : List Int) (p : Addr), ys.Perm ks → ys.Pairwise (· ≤ ·) → H p = none → Q (.ref p) (upd H p (.lst (ys.map V.int))))
theorem c_sortedG (hcol : ColD X) : CallR X (.builtin "sorted") (uSorted X.K) := fun pins s σ H xs us Q I r h => by
  rcases h with h | h
  · exact cr_sortedI pins s σ H xs us Q I r h
  · exact call_sortedDN hcol pins s σ H xs us Q I r h
theorem c_sorted (hcalm : X.calm = true) : CallR X (.builtin "sorted") (uSorted X.K) := c_sortedG (colD_calm hcalm)
theorem srt_l {K : Frag} {H : Hp} {a : Addr} {ns : List Int} {Q : VK} (h : H a = some (.lst (ns.map V.int))) (q : ∀ (ys : List Int) (p : Addr), ys.Perm ns → ys.Pairwise (· ≤ ·) → H p = none → Q (.ref p) (upd H p (.lst (ys.map V.int)))) : uSorted K [.ref a] H Q := .inl ⟨a, ns, rfl, .of h, q⟩
theorem srt_d {K : Frag} {H : Hp} {a : Addr} {kvs : List (Key × V)} {ks : List Int} {Q : VK} (h : H a = some (.dK kvs)) (e : kvs.map (·.1) = ks.map Sum.inl) (z : ks.length ≤ sizeLine) (q : ∀ (ys : List Int) (p : Addr), ys.Perm ks → ys.Pairwise (· ≤ ·) → H p = none → Q (.ref p) (upd H p (.lst (ys.map V.int)))) : uSorted K [.ref a] H Q := .inr ⟨a, kvs, ks, rfl, .inl h, e, z, q⟩
/-- sum(xs), ints -/
def uSum (K : Frag) : List V → Hp → VK → Prop := rSum K
theorem c_sum (hc : X.calm = true) : CallR X (.builtin "sum") (uSum X.K) := cr_sum hc
theorem sum_l {K : Frag} {H : Hp} {a : Addr} {ns : List Int} {Q : VK} (h : H a = some (.lst (ns.map V.int))) (q : Q (.int ns.sum) H) : uSum K [.ref a] H Q := ⟨a, ns, rfl, .of h, q⟩
end
/-- a comprehension over a locked dict's keys (ints), where the items are made without a change of the heap -/
theorem lc_pk {d : Addr} {o : Obj} {kvs : List (Key × V)} {ks : List Int} {g : TG} {tt : TT} {te : TE} {vs : List Nat} {σ : L2.St} {H : Hp} {Q : VK} (f : Int → Option V) (hS : H d = some (.frz o (.dK kvs))) (hk : kvs.map (·.1) = ks.map Sum.inl) (hz : ks.length < sizeLine)
    (hs : ∀ (i : Nat) (x : Int) (D : Addr) (acc : List V) (Cy : V → Hp → Prop) (Cn : Hp → Prop), ks[i]? = some x → H D = none → (∀ y, f x = some y → Cy y (upd H D (.lst acc))) → (f x = none → Cn (upd H D (.lst acc))) →
      g (.int x) (wipe σ vs) (upd H D (.lst acc)) fun σ2 H2 => wipe σ2 vs = wipe σ vs ∧ tt σ2 H2 fun b H3 => if b = true then te σ2 H3 fun y H4 => Cy y H4 else Cn H3)
    (hq : ∀ D, H D = none → Q (.ref D) (upd H D (.lst (ks.filterMap f)))) : lcK (Itk d o kvs) g tt te vs σ H Q := by
  intro D hD
  have hl : kvs.length = ks.length := by
    have := congrArg List.length hk
    rw [List.length_map, List.length_map] at this
    exact this
  refine ⟨fun i m H' => m = ks.length - i ∧ i ≤ ks.length ∧ H' = upd H D (.lst ((ks.take i).filterMap f)), ⟨ks.length, by simp⟩, ?_⟩
  rintro i m H' ⟨rfl, hi, rfl⟩
  have hne : d ≠ D := ne_of_none hS hD
  have q : upd H D (.lst ((ks.take i).filterMap f)) d = some (.frz o (.dK kvs)) := by rw [upd_ne hne]; exact hS
  by_cases hlt : i < ks.length
  · refine .inr ⟨⟨q, by omega⟩, fun H'' => H'' = upd H D (.lst ((ks.take (i + 1)).filterMap f)), fun H'' e => ⟨ks.length - (i + 1), by omega, rfl, hlt, e⟩, fun x H' y => ?_⟩
    obtain ⟨e, k, v, hkv, rfl⟩ := y
    subst e
    have e3 : (kvs.map (·.1))[i]? = some k := by rw [List.getElem?_map, hkv]; rfl
    rw [hk, List.getElem?_map] at e3
    obtain ⟨x, hx⟩ : ∃ x, ks[i]? = some x := ⟨_, List.getElem?_eq_getElem hlt⟩
    rw [hx] at e3
    have e5 : Sum.inl x = k := Option.some.inj e3
    subst e5
    have et : ks.take (i + 1) = ks.take i ++ [x] := by
      rw [List.take_add_one, hx]; rfl
    refine hs i x D _ _ _ hx hD (fun y hy => ⟨_, upd_same, ?_, ?_⟩) fun hn => ?_
    · have h1 : ((ks.take i).filterMap f).length ≤ (ks.take i).length := List.length_filterMap_le _ _
      have h2 : (ks.take i).length ≤ ks.length := by rw [List.length_take]; omega
      omega
    · rw [upd_upd, et, List.filterMap_append]
      simp [hy]
    · rw [et, List.filterMap_append]
      simp [hn]
  · have e : i = ks.length := by omega
    subst e
    refine .inl ⟨⟨q, by omega⟩, ?_⟩
    rw [List.take_length]
    exact hq D hD
end KW

set_option Elab.async false
set_option linter.all false
set_option maxRecDepth 100000
set_option maxHeartbeats 4000000
/-! Kw2i: the rules with the frag told (within comprehensions) -/
namespace KW
theorem isEmpty_app {α : Type} (xs ys : List α) : (xs ++ ys).isEmpty = (xs.isEmpty && ys.isEmpty) := by cases xs <;> simp
open PySem PySem.Spec PyProof.Rows L2
section
variable {X : Cx} (K : Frag)
theorem ktK {e : Expr} {t : TE} (h : PE X e t) (he : ∀ whole, isTrue e X.env whole = (do let v ← whole; standAt e.pos; holding [v] (truthy v)) := by intro _; rfl) (hK : X.K = K := by rfl) : PT X e (uTest K t) := hK ▸ kt h he
theorem o_addK (hK : X.K = K := by rfl) : OpR X (binaryOp .Add) (uAdd K) := hK ▸ o_add
theorem o_eqK (hu : X.A.units + 64 < cLine) (hK : X.K = K := by rfl) : OpR X (compareOp .Eq) (uEq K) := hK ▸ o_eq hu
theorem o_neK (hu : X.A.units + 64 < cLine) (hK : X.K = K := by rfl) : OpR X (compareOp .NotEq) (uNe K) := hK ▸ o_ne hu
theorem o_inK (hK : X.K = K := by rfl) : OpR X (compareOp .In) (uIn K) := hK ▸ o_in
theorem o_notinK (hK : X.K = K := by rfl) : OpR X (compareOp .NotIn) (uNotIn K) := hK ▸ o_notin
theorem o_ixK (hK : X.K = K := by rfl) : IxR X (uIx K) := hK ▸ o_ix
theorem o_slK (hK : X.K = K := by rfl) : SlR X (uSl K) := hK ▸ o_sl
theorem c_lenK (hK : X.K = K := by rfl) : CallR X (.builtin "len") (uLen K) := hK ▸ c_len
theorem c_isiK (hK : X.K = K := by rfl) : CallR X (.builtin "isinstance") (uIsi K) := hK ▸ c_isi
theorem c_listK (hK : X.K = K := by rfl) : CallR X (.type "list") (uList K) := hK ▸ c_list
theorem c_sortedK (hc : X.calm = true) (hK : X.K = K := by rfl) : CallR X (.builtin "sorted") (uSorted K) := hK ▸ c_sorted hc
theorem c_sumK (hc : X.calm = true) (hK : X.K = K := by rfl) : CallR X (.builtin "sum") (uSum K) := hK ▸ c_sum hc
theorem k_fldK {e : Expr} {t : TE} {f : Str} {pos : Pos} (he : PE X e t) (hb : attributeBase e f X.env (eval e X.env) = eval e X.env) (hK : X.K = K := by rfl) : PE X (.Attribute e f pos) (uFld K t f) := hK ▸ k_fld he hb
theorem mt_indexK (hK : X.K = K := by rfl) : MtR X "list.index" (rIndex K) := hK ▸ mt_index
theorem pi_listK {tg l : Expr} {tl : TE} (hl : PE X l tl) (hK : X.K = K := by rfl) : PI X tg l (iList K tl) := hK ▸ pi_list hl
end
/-- of a list of ints, ints again -/
theorem lc_ii {K : Frag} {a : Addr} {xs : List Int} {g : TG} {tt : TT} {te : TE} {vs : List Nat} {σ : L2.St} {H : Hp} {Q : VK} (f : Int → Option Int) (hS : SqL K H a (xs.map V.int)) (hz : xs.length < sizeLine)
    (hs : ∀ (i : Nat) (x : Int) (D : Addr) (acc : List V) (Cy : V → Hp → Prop) (Cn : Hp → Prop), xs[i]? = some x → H D = none → (∀ y, f x = some y → Cy (.int y) (upd H D (.lst acc))) → (f x = none → Cn (upd H D (.lst acc))) →
      g (.int x) (wipe σ vs) (upd H D (.lst acc)) fun σ2 H2 => wipe σ2 vs = wipe σ vs ∧ tt σ2 H2 fun b H3 => if b = true then te σ2 H3 fun y H4 => Cy y H4 else Cn H3)
    (hq : ∀ D, H D = none → Q (.ref D) (upd H D (.lst ((xs.filterMap f).map V.int)))) : lcK (Itl K a) g tt te vs σ H Q := by
  refine lc_pl (fun v => match v with | .int i => (f i).map V.int | _ => none) hS (by rw [List.length_map]; exact hz) (fun i x D acc Cy Cn hx hD h1 h2 => ?_) fun D hD => ?_
  · rw [List.getElem?_map] at hx
    cases e : xs[i]? with
    | none => rw [e] at hx; cases hx
    | some z =>
      rw [e] at hx
      cases hx
      exact hs i z D acc Cy Cn e hD (fun y hy => h1 _ (by simp [hy])) fun hn => h2 (by simp [hn])
  · have e : (xs.map V.int).filterMap (fun v => match v with | .int i => (f i).map V.int | _ => none) = (xs.filterMap f).map V.int := by
      rw [List.filterMap_map, List.map_filterMap]; rfl
    rw [e]
    exact hq D hD
/-- over a list of anything told by F -/
theorem lc_f {α : Type} {K : Frag} {a : Addr} {xs : List α} {F : α → V} {g : TG} {tt : TT} {te : TE} {vs : List Nat} {σ : L2.St} {H : Hp} {Q : VK} (f : α → Option V) (hS : SqL K H a (xs.map F)) (hz : xs.length < sizeLine)
    (hs : ∀ (i : Nat) (x : α) (D : Addr) (acc : List V) (Cy : V → Hp → Prop) (Cn : Hp → Prop), xs[i]? = some x → H D = none → (∀ y, f x = some y → Cy y (upd H D (.lst acc))) → (f x = none → Cn (upd H D (.lst acc))) →
      g (F x) (wipe σ vs) (upd H D (.lst acc)) fun σ2 H2 => wipe σ2 vs = wipe σ vs ∧ tt σ2 H2 fun b H3 => if b = true then te σ2 H3 fun y H4 => Cy y H4 else Cn H3)
    (hq : ∀ D, H D = none → Q (.ref D) (upd H D (.lst (xs.filterMap f)))) : lcK (Itl K a) g tt te vs σ H Q := by
  intro D hD
  refine ⟨fun i m H' => m = xs.length - i ∧ i ≤ xs.length ∧ H' = upd H D (.lst ((xs.take i).filterMap f)), ⟨xs.length, by simp⟩, ?_⟩
  rintro i m H' ⟨rfl, hi, rfl⟩
  have q := SqL.new (o := .lst ((xs.take i).filterMap f)) hD hS
  by_cases hlt : i < xs.length
  · refine .inr ⟨⟨_, F xs[i], q, by simp [hlt]⟩, fun H'' => H'' = upd H D (.lst ((xs.take (i + 1)).filterMap f)), fun H'' e => ⟨xs.length - (i + 1), by omega, rfl, hlt, e⟩, fun x H' y => ?_⟩
    obtain ⟨e, y⟩ := y
    subst e
    have hx := y _ q
    obtain ⟨z, hz1⟩ : ∃ z, xs[i]? = some z := ⟨_, List.getElem?_eq_getElem hlt⟩
    rw [List.getElem?_map, hz1] at hx
    cases hx
    have et : xs.take (i + 1) = xs.take i ++ [z] := by
      rw [List.take_add_one, hz1]; rfl
    refine hs i z D _ _ _ hz1 hD (fun y hy => ⟨_, upd_same, ?_, ?_⟩) fun hn => ?_
    · have h1 : ((xs.take i).filterMap f).length ≤ (xs.take i).length := List.length_filterMap_le _ _
      have h2 : (xs.take i).length ≤ xs.length := by rw [List.length_take]; omega
      omega
    · rw [upd_upd, et, List.filterMap_append]
      simp [hy]
    · rw [et, List.filterMap_append]
      simp [hn]
  · have e : i = xs.length := by omega
    subst e
    refine .inl ⟨⟨_, q, by simp⟩, ?_⟩
    rw [List.take_length]
    exact hq D hD
/-- over a range, any answers, the heap may change: Pv tells the list made so far (at D) and the heap -/
theorem lc_rG {lo : Int} {n : Nat} {g : TG} {tt : TT} {te : TE} {vs : List Nat} {σ : L2.St} {H : Hp} {Q : VK} (Pv : Nat → Addr → List V → Hp → Prop) (h0 : ∀ D, H D = none → Pv 0 D [] (upd H D (.lst [])))
    (hs : ∀ (i : Nat) (D : Addr) (acc : List V) (H' : Hp) (Nx : Hp → Prop), i < n → H D = none → Pv i D acc H' → (∀ acc H'', Pv (i + 1) D acc H'' → Nx H'') → g (.int (lo + i)) (wipe σ vs) H' fun σ2 H2 => wipe σ2 vs = wipe σ vs ∧ tt σ2 H2 fun b H3 => if b = true then te σ2 H3 fun y H4 => ∃ acc, H4 D = some (.lst acc) ∧ acc.length < sizeLine ∧ Nx (upd H4 D (.lst (acc ++ [y]))) else Nx H3)
    (hq : ∀ D acc H', H D = none → Pv n D acc H' → Q (.ref D) H') : lcK (Itr lo n) g tt te vs σ H Q := by
  intro D hD
  refine ⟨fun i m H' => m = n - i ∧ i ≤ n ∧ ∃ acc, Pv i D acc H', ⟨n, rfl, Nat.zero_le _, [], h0 D hD⟩, ?_⟩
  rintro i m H' ⟨rfl, hi, acc, hP⟩
  by_cases hlt : i < n
  · refine .inr ⟨hlt, fun H'' => ∃ acc, Pv (i + 1) D acc H'', fun H'' e => ⟨n - (i + 1), by omega, rfl, hlt, e⟩, fun x H2 y => ?_⟩
    obtain ⟨e, rfl⟩ := y
    subst e
    exact hs i D acc _ _ hlt hD hP fun acc H'' h => ⟨acc, h⟩
  · have e : i = n := by omega
    subst e
    exact .inl ⟨Nat.le_refl _, hq D acc H' hD hP⟩
/-- over a list -/
theorem lc_lG {α : Type} {K : Frag} {a : Addr} {xs : List α} {F : α → V} {g : TG} {tt : TT} {te : TE} {vs : List Nat} {σ : L2.St} {H : Hp} {Q : VK} (Pv : Nat → Addr → List V → Hp → Prop) (h0 : ∀ D, H D = none → Pv 0 D [] (upd H D (.lst [])))
    (hl : ∀ i D acc H', Pv i D acc H' → SqL K H' a (xs.map F))
    (hs : ∀ (i : Nat) (x : α) (D : Addr) (acc : List V) (H' : Hp) (Nx : Hp → Prop), xs[i]? = some x → H D = none → Pv i D acc H' → (∀ acc H'', Pv (i + 1) D acc H'' → Nx H'') → g (F x) (wipe σ vs) H' fun σ2 H2 => wipe σ2 vs = wipe σ vs ∧ tt σ2 H2 fun b H3 => if b = true then te σ2 H3 fun y H4 => ∃ acc, H4 D = some (.lst acc) ∧ acc.length < sizeLine ∧ Nx (upd H4 D (.lst (acc ++ [y]))) else Nx H3)
    (hq : ∀ D acc H', H D = none → Pv xs.length D acc H' → Q (.ref D) H') : lcK (Itl K a) g tt te vs σ H Q := by
  intro D hD
  refine ⟨fun i m H' => m = xs.length - i ∧ i ≤ xs.length ∧ ∃ acc, Pv i D acc H', ⟨xs.length, rfl, Nat.zero_le _, [], h0 D hD⟩, ?_⟩
  rintro i m H' ⟨rfl, hi, acc, hP⟩
  have q := hl i D acc H' hP
  by_cases hlt : i < xs.length
  · refine .inr ⟨⟨_, F xs[i], q, by simp [hlt]⟩, fun H'' => ∃ acc, Pv (i + 1) D acc H'', fun H'' e => ⟨xs.length - (i + 1), by omega, rfl, hlt, e⟩, fun x H2 y => ?_⟩
    obtain ⟨e, y⟩ := y
    subst e
    have hx := y _ q
    obtain ⟨z, hz1⟩ : ∃ z, xs[i]? = some z := ⟨_, List.getElem?_eq_getElem hlt⟩
    rw [List.getElem?_map, hz1] at hx
    cases hx
    exact hs i z D acc _ _ hz1 hD hP fun acc H'' h => ⟨acc, h⟩
  · have e : i = xs.length := by omega
    subst e
    exact .inl ⟨⟨_, q, by simp⟩, hq D acc H' hD hP⟩
/-- over reversed(xs) -/
theorem for_rev {K : Frag} {a : Addr} {xs : List V} {g : TG} {tb : TS} {D : Ends} {σ : L2.St} {H : Hp} (Pv : Nat → L2.St → Hp → Prop) (h0 : Pv 0 σ H) (hl : ∀ i σ H, i ≤ xs.length → Pv i σ H → SqL K H a xs)
    (hs : ∀ i x σ H, i < xs.length → xs[xs.length - 1 - i]? = some x → Pv i σ H → g x σ H fun σ2 H2 => tb { D with nx := Pv (i + 1), ct := Pv (i + 1), bk := D.nx } σ2 H2) (hd : ∀ σ H, Pv xs.length σ H → D.nx σ H) : forK (Itv K a xs.length) g tb D σ H := by
  refine ⟨fun i m σ H => m = xs.length - i ∧ i ≤ xs.length ∧ Pv i σ H, ⟨xs.length, rfl, Nat.zero_le _, h0⟩, ?_⟩
  rintro i m σ H ⟨rfl, hi, p⟩
  have q := hl i σ H hi p
  by_cases hlt : i < xs.length
  · refine .inr ⟨⟨hlt, xs, xs[xs.length - 1 - i], q, by rw [List.getElem?_eq_getElem]⟩, Pv (i + 1), fun σ' H' p' => ⟨xs.length - (i + 1), by omega, rfl, hlt, p'⟩, fun x H' y => ?_⟩
    obtain ⟨e, y⟩ := y
    subst e
    exact hs i x σ _ hlt (y xs q) p
  · have e : i = xs.length := by omega
    subst e
    exact .inl ⟨Nat.le_refl _, hd σ H p⟩
end KW
namespace KW
open PySem PySem.Spec PyProof.Rows L2
/-- dict(d): a copy -/
def uDict : List V → Hp → VK → Prop
  | [.ref a], H, Q => ∃ kvs, H a = some (.dK kvs) ∧ ∀ p, H p = none → Q (.ref p) (upd H p (.dK kvs))
  | _, _, _ => False
theorem c_dict {X : Cx} : CallR X (.type "dict") uDict := CallRw call_dictD fun xs H Q h => by
  unfold uDict at h
  split at h
  · obtain ⟨kvs, hs, q⟩ := h
    exact ⟨_, kvs, rfl, .of hs, q⟩
  · exact h.elim
theorem dict_d {H : Hp} {a : Addr} {kvs : List (Key × V)} {Q : VK} (h : H a = some (.dK kvs)) (q : ∀ p, H p = none → Q (.ref p) (upd H p (.dK kvs))) : uDict [.ref a] H Q := ⟨kvs, h, q⟩
end KW

set_option Elab.async false
set_option linter.all false
set_option maxRecDepth 100000
/-! StT: stores of blocks, in plain Lean -/
namespace ST
structure Blk where
  n : Int
  k : Int
  s : List Int
  al : Bool
def Blk.ws (e : Blk) : List Int := e.n :: (e.s.length : Int) :: e.k :: e.s
theorem Blk.ws_len (e : Blk) : e.ws.length = e.s.length + 3 := by simp [Blk.ws]
def flat (B : List Blk) : List Int := B.flatMap Blk.ws
theorem flat_nil : flat [] = [] := rfl
theorem flat_cons (e : Blk) (B : List Blk) : flat (e :: B) = e.ws ++ flat B := by simp [flat]
theorem flat_app (B C : List Blk) : flat (B ++ C) = flat B ++ flat C := by simp [flat]
def off (B : List Blk) (i : Nat) : Nat := (flat (B.take i)).length
def lv (B : List Blk) (n : Int) : Bool := B.any fun e => e.al && decide (e.n = n)
theorem lv_iff {B : List Blk} {n : Int} : lv B n = true ↔ ∃ (i : Nat) (e : Blk), B[i]? = some e ∧ e.al = true ∧ e.n = n := by
  simp only [lv, List.any_eq_true, Bool.and_eq_true, decide_eq_true_eq]
  constructor
  · rintro ⟨e, he, h1, h2⟩
    obtain ⟨i, hi⟩ := List.getElem?_of_mem he
    exact ⟨i, e, hi, h1, h2⟩
  · rintro ⟨i, e, hi, h1, h2⟩
    exact ⟨e, List.mem_of_getElem? hi, h1, h2⟩
/-- living blocks have different numbers -/
def Nd (B : List Blk) : Prop := ∀ (i j : Nat) (e f : Blk), B[i]? = some e → B[j]? = some f → e.al = true → f.al = true → e.n = f.n → i = j
theorem split_at {B : List Blk} {i : Nat} {e : Blk} (h : B[i]? = some e) : B = B.take i ++ e :: B.drop (i + 1) := by
  obtain ⟨h1, h2⟩ := List.getElem?_eq_some_iff.mp h
  conv => lhs; rw [← List.take_append_drop i B]
  rw [List.drop_eq_getElem_cons h1, h2]
theorem flat_at {B : List Blk} {i : Nat} {e : Blk} (h : B[i]? = some e) : flat B = flat (B.take i) ++ (e.ws ++ flat (B.drop (i + 1))) := by
  conv => lhs; rw [split_at h]
  rw [flat_app, flat_cons]
theorem set_at {B : List Blk} {i : Nat} {e f : Blk} (h : B[i]? = some e) : B.set i f = B.take i ++ f :: B.drop (i + 1) := by
  obtain ⟨h1, h2⟩ := List.getElem?_eq_some_iff.mp h
  rw [List.set_eq_take_append_cons_drop, if_pos h1]
theorem flat_set {B : List Blk} {i : Nat} {e f : Blk} (h : B[i]? = some e) : flat (B.set i f) = flat (B.take i) ++ (f.ws ++ flat (B.drop (i + 1))) := by
  rw [set_at h, flat_app, flat_cons]
theorem off_add {B : List Blk} {i : Nat} {e : Blk} (h : B[i]? = some e) : off B i + (e.s.length + 3) ≤ (flat B).length := by
  rw [flat_at h]
  simp only [List.length_append, Blk.ws_len, off]
  omega
theorem off_get {B : List Blk} {i j : Nat} {e : Blk} (h : B[i]? = some e) (hj : j < e.s.length + 3) : (flat B)[off B i + j]? = e.ws[j]? := by
  rw [flat_at h, List.getElem?_append_right (by simp only [off]; omega), List.getElem?_append_left (by rw [Blk.ws_len]; simp only [off]; omega)]
  simp [off]
theorem get_num {B : List Blk} {i : Nat} {e : Blk} (h : B[i]? = some e) : (flat B)[off B i]? = some e.n := by
  have := off_get (j := 0) h (by omega); simpa [Blk.ws] using this
theorem get_size {B : List Blk} {i : Nat} {e : Blk} (h : B[i]? = some e) : (flat B)[off B i + 1]? = some (e.s.length : Int) := by
  have := off_get (j := 1) h (by omega); simpa [Blk.ws] using this
theorem get_kind {B : List Blk} {i : Nat} {e : Blk} (h : B[i]? = some e) : (flat B)[off B i + 2]? = some e.k := by
  have := off_get (j := 2) h (by omega); simpa [Blk.ws] using this
theorem get_slot {B : List Blk} {i j : Nat} {e : Blk} (h : B[i]? = some e) (hj : j < e.s.length) : (flat B)[off B i + 3 + j]? = e.s[j]? := by
  have := off_get (j := 3 + j) h (by omega)
  rw [Nat.add_assoc, this, Nat.add_comm 3 j]
  simp [Blk.ws]
theorem get_slots {B : List Blk} {i : Nat} {e : Blk} (h : B[i]? = some e) : ((flat B).drop (off B i + 3)).take e.s.length = e.s := by
  rw [flat_at h, List.drop_append, List.drop_eq_nil_of_le (by simp only [off]; omega), List.nil_append]
  have : off B i + 3 - (flat (B.take i)).length = 3 := by simp only [off]; omega
  rw [this]
  simp [Blk.ws]
theorem set_ws {B : List Blk} {i j : Nat} {e f : Blk} {z : Int} (h : B[i]? = some e) (hj : j < e.s.length + 3) (hf : e.ws.set j z = f.ws) : (flat B).set (off B i + j) z = flat (B.set i f) := by
  rw [flat_set h, flat_at h, List.set_append_right _ _ (by simp only [off]; omega)]
  congr 1
  rw [List.set_append_left _ _ (by rw [Blk.ws_len]; simp only [off]; omega)]
  have : off B i + j - (flat (B.take i)).length = j := by simp only [off]; omega
  rw [this, hf]
theorem set_num {B : List Blk} {i : Nat} {e : Blk} {z : Int} (h : B[i]? = some e) : (flat B).set (off B i) z = flat (B.set i { e with n := z }) := set_ws (j := 0) h (by omega) (by simp [Blk.ws])
theorem set_kind {B : List Blk} {i : Nat} {e : Blk} {z : Int} (h : B[i]? = some e) : (flat B).set (off B i + 2) z = flat (B.set i { e with k := z }) := set_ws h (by omega) (by simp [Blk.ws])
theorem set_slot {B : List Blk} {i j : Nat} {e : Blk} {z : Int} (h : B[i]? = some e) (hj : j < e.s.length) : (flat B).set (off B i + 3 + j) z = flat (B.set i { e with s := e.s.set j z }) := by
  rw [Nat.add_assoc]
  exact set_ws h (by omega) (by rw [Nat.add_comm 3 j]; simp [Blk.ws])
theorem flat_al {B : List Blk} {i : Nat} {e : Blk} {b : Bool} (h : B[i]? = some e) : flat (B.set i { e with al := b }) = flat B := by
  rw [flat_set h, flat_at h]; rfl
/-! ### where blocks begin -/
theorem off_set {B : List Blk} {i j : Nat} {e f : Blk} (h : B[i]? = some e) (hl : f.s.length = e.s.length) : off (B.set i f) j = off B j := by
  unfold off
  rw [List.take_set]
  by_cases c : i < j
  · have ht : (B.take j)[i]? = some e := by rw [List.getElem?_take_of_lt c]; exact h
    rw [flat_set ht, flat_at ht]
    simp only [List.length_append, Blk.ws_len, hl]
  · rw [List.set_eq_of_length_le (by rw [List.length_take]; omega)]
theorem off_app {B C : List Blk} {j : Nat} (h : j ≤ B.length) : off (B ++ C) j = off B j := by
  unfold off
  rw [List.take_append_of_le_length h]
theorem off_len (B : List Blk) : off B B.length = (flat B).length := by unfold off; rw [List.take_length]
theorem off_lt {B : List Blk} {i j : Nat} {e : Blk} (h : B[i]? = some e) (hij : i < j) : off B i + 3 ≤ off B j := by
  have ht : (B.take j)[i]? = some e := by rw [List.getElem?_take_of_lt hij]; exact h
  have := off_add ht
  have e1 : off (B.take j) i = off B i := by unfold off; rw [List.take_take, Nat.min_eq_left (Nat.le_of_lt hij)]
  have e2 : (flat (B.take j)).length = off B j := rfl
  omega
theorem off_inj {B : List Blk} {i j : Nat} {e f : Blk} (h : B[i]? = some e) (h2 : B[j]? = some f) (ho : off B i = off B j) : i = j := by
  rcases Nat.lt_trichotomy i j with c | c | c
  · have := off_lt h c; omega
  · exact c
  · have := off_lt h2 c; omega
/-! ### living numbers -/
theorem lv_set {B : List Blk} {i : Nat} {e f : Blk} (h : B[i]? = some e) (h1 : f.al = e.al) (h2 : f.n = e.n) (n : Int) : lv (B.set i f) n = lv B n := by
  unfold lv
  rw [set_at h]
  conv => rhs; rw [split_at h]
  simp [h1, h2]
theorem lv_app (B C : List Blk) (n : Int) : lv (B ++ C) n = (lv B n || lv C n) := by simp [lv]
theorem lv_at {B : List Blk} {i : Nat} {e : Blk} (h : B[i]? = some e) (ha : e.al = true) : lv B e.n = true := lv_iff.mpr ⟨i, e, h, ha, rfl⟩
theorem get_set {B : List Blk} {i j : Nat} {e f : Blk} (h : B[i]? = some e) : (B.set i f)[j]? = if j = i then some f else B[j]? := by
  rw [List.getElem?_set]
  have := (List.getElem?_eq_some_iff.mp h).1
  by_cases c : i = j
  · subst c; simp [this]
  · rw [if_neg c, if_neg (fun z => c z.symm)]
theorem Nd.set {B : List Blk} {i : Nat} {e f : Blk} (nd : Nd B) (h : B[i]? = some e) (h1 : f.al = e.al) (h2 : f.n = e.n) : Nd (B.set i f) := by
  intro a b u v ha hb ua va uv
  rw [get_set h] at ha hb
  split at ha <;> split at hb
  · omega
  · rename_i c1 c2; cases ha; exact c1.trans (nd i b e v h hb (h1 ▸ ua) va (h2 ▸ uv))
  · rename_i c1 c2; cases hb; exact (nd a i u e ha h ua (h1 ▸ va) (h2 ▸ uv)).trans c2.symm
  · exact nd a b u v ha hb ua va uv
theorem Nd.drop {B : List Blk} {i : Nat} {e : Blk} (nd : Nd B) (h : B[i]? = some e) : Nd (B.set i { e with al := false }) := by
  intro a b u v ha hb ua va uv
  rw [get_set h] at ha hb
  split at ha
  · cases ha; cases ua
  · split at hb
    · cases hb; cases va
    · exact nd a b u v ha hb ua va uv
theorem lv_drop {B : List Blk} {i : Nat} {e : Blk} (nd : Nd B) (h : B[i]? = some e) (ha : e.al = true) (n : Int) : lv (B.set i { e with al := false }) n = (lv B n && !decide (n = e.n)) := by
  by_cases c : n = e.n
  · subst c
    rw [decide_eq_true rfl, Bool.not_true, Bool.and_false]
    apply Bool.eq_false_iff.mpr
    intro z
    obtain ⟨j, f, hj, fa, fn⟩ := lv_iff.mp z
    rw [get_set h] at hj
    split at hj
    · cases hj; cases fa
    · rename_i c; exact c (nd j i f e hj h fa ha fn)
  · rw [decide_eq_false c, Bool.not_false, Bool.and_true]
    apply Bool.eq_iff_iff.mpr
    rw [lv_iff, lv_iff]
    constructor
    · rintro ⟨j, f, hj, fa, fn⟩
      rw [get_set h] at hj
      split at hj
      · cases hj; cases fa
      · exact ⟨j, f, hj, fa, fn⟩
    · rintro ⟨j, f, hj, fa, fn⟩
      refine ⟨j, f, ?_, fa, fn⟩
      rw [get_set h, if_neg]
      · exact hj
      · rintro rfl; rw [h] at hj; cases hj; exact c fn.symm
theorem Nd.app {B : List Blk} {e : Blk} (nd : Nd B) (h : e.al = true → lv B e.n = false) : Nd (B ++ [e]) := by
  intro a b u v ha hb ua va uv
  have key : ∀ c w, (B ++ [e])[c]? = some w → (B[c]? = some w ∧ c < B.length) ∨ (c = B.length ∧ w = e) := fun c w hc => by
    rw [List.getElem?_append] at hc
    split at hc
    · rename_i z; exact .inl ⟨hc, z⟩
    · rename_i z
      have hx : c - B.length = 0 := by
        have := (List.getElem?_eq_some_iff.mp hc).1
        simpa using this
      rw [hx] at hc
      exact .inr ⟨by omega, by simpa using hc.symm⟩
  have no : ∀ (c : Nat) (w : Blk), B[c]? = some w → w.al = true → e.al = true → w.n ≠ e.n := fun c w hc wa ea z => by
    have := h ea
    rw [← z, lv_at hc wa] at this
    cases this
  rcases key a u ha with ⟨h1, _⟩ | ⟨h1, rfl⟩ <;> rcases key b v hb with ⟨h2, _⟩ | ⟨h2, rfl⟩
  · exact nd a b u v h1 h2 ua va uv
  · exact absurd uv (no a u h1 ua va)
  · exact absurd uv.symm (no b v h2 va ua)
  · omega
/-- two blocks exchange their numbers -/
def exch (B : List Blk) (i j : Nat) (e f : Blk) : List Blk := (B.set i { e with n := f.n }).set j { f with n := e.n }
theorem get_mid {B : List Blk} {i j : Nat} {e f : Blk} (h : B[i]? = some e) (h2 : B[j]? = some f) : ∃ g, (B.set i { e with n := f.n })[j]? = some g ∧ g.s.length = f.s.length ∧ (i = j → g = { f with n := f.n }) ∧ (i ≠ j → g = f) := by
  rw [get_set h]
  by_cases c : j = i
  · subst c; rw [h] at h2; cases h2
    exact ⟨_, if_pos rfl, rfl, fun _ => rfl, fun z => absurd rfl z⟩
  · rw [if_neg c, h2]
    exact ⟨_, rfl, rfl, fun z => absurd z.symm c, fun _ => rfl⟩
theorem get_exch {B : List Blk} {i j : Nat} {e f : Blk} (h : B[i]? = some e) (h2 : B[j]? = some f) (a : Nat) : (exch B i j e f)[a]? = if a = j then some { f with n := e.n } else if a = i then some { e with n := f.n } else B[a]? := by
  obtain ⟨g, hg, _⟩ := get_mid h h2
  unfold exch
  rw [get_set hg, get_set h]
theorem off_exch {B : List Blk} {i j a : Nat} {e f : Blk} (h : B[i]? = some e) (h2 : B[j]? = some f) : off (exch B i j e f) a = off B a := by
  obtain ⟨g, hg, hl, _⟩ := get_mid h h2
  unfold exch
  rw [off_set (f := { f with n := e.n }) hg hl.symm, off_set (f := { e with n := f.n }) h rfl]
theorem flat_exch {B : List Blk} {i j : Nat} {e f : Blk} (h : B[i]? = some e) (h2 : B[j]? = some f) : flat (exch B i j e f) = ((flat B).set (off B i) f.n).set (off B j) e.n := by
  obtain ⟨g, hg, hl, hg1, hg2⟩ := get_mid h h2
  unfold exch
  rw [set_num h]
  have := set_num (z := e.n) hg
  rw [off_set (f := { e with n := f.n }) h rfl] at this
  rw [this]
  by_cases c : i = j
  · rw [hg1 c]
  · rw [hg2 c]
theorem Nd.exch {B : List Blk} {i j : Nat} {e f : Blk} (nd : Nd B) (h : B[i]? = some e) (h2 : B[j]? = some f) (ea : e.al = true) (fa : f.al = true) : Nd (exch B i j e f) := by
  have key : ∀ a u, (ST.exch B i j e f)[a]? = some u → u.al = true → (a = j ∧ u.n = e.n) ∨ (a ≠ j ∧ a = i ∧ u.n = f.n) ∨ (a ≠ j ∧ a ≠ i ∧ B[a]? = some u) := fun a u ha ua => by
    rw [get_exch h h2] at ha
    split at ha
    · rename_i c; cases ha; exact .inl ⟨c, rfl⟩
    · split at ha
      · rename_i c d; cases ha; exact .inr (.inl ⟨c, d, rfl⟩)
      · rename_i c d; exact .inr (.inr ⟨c, d, ha⟩)
  intro a b u v ha hb ua va uv
  rcases key a u ha ua with ⟨h3, h4⟩ | ⟨h3, h4, h5⟩ | ⟨h3, h4, h5⟩ <;> rcases key b v hb va with ⟨k3, k4⟩ | ⟨k3, k4, k5⟩ | ⟨k3, k4, k5⟩
  · omega
  · have := nd i j e f h h2 ea fa (by omega); omega
  · have := nd i b e v h k5 ea va (by omega); omega
  · have := nd i j e f h h2 ea fa (by omega); omega
  · omega
  · have := nd j b f v h2 k5 fa va (by omega); omega
  · have := nd a i u e h5 h ua ea (by omega); omega
  · have := nd a j u f h5 h2 ua fa (by omega); omega
  · exact nd a b u v h5 k5 ua va uv
theorem lv_exch {B : List Blk} {i j : Nat} {e f : Blk} (h : B[i]? = some e) (h2 : B[j]? = some f) (ea : e.al = true) (fa : f.al = true) (n : Int) : lv (exch B i j e f) n = lv B n := by
  apply Bool.eq_iff_iff.mpr
  rw [lv_iff, lv_iff]
  constructor
  · rintro ⟨a, u, ha, ua, un⟩
    rw [get_exch h h2] at ha
    split at ha
    · cases ha; exact ⟨i, e, h, ea, un⟩
    · split at ha
      · cases ha; exact ⟨j, f, h2, fa, un⟩
      · exact ⟨a, u, ha, ua, un⟩
  · rintro ⟨a, u, ha, ua, un⟩
    by_cases c : a = i
    · subst c; rw [h] at ha; cases ha
      exact ⟨j, { f with n := e.n }, by rw [get_exch h h2, if_pos rfl], fa, un⟩
    · by_cases d : a = j
      · subst d; rw [h2] at ha; cases ha
        exact ⟨i, { e with n := f.n }, by rw [get_exch h h2, if_neg (fun z => c z.symm), if_pos rfl], ea, un⟩
      · exact ⟨a, u, by rw [get_exch h h2, if_neg d, if_neg c]; exact ha, ua, un⟩
theorem flat_len_app (B : List Blk) (e : Blk) : (flat (B ++ [e])).length = (flat B).length + (e.s.length + 3) := by
  rw [flat_app, List.length_append, flat_cons, List.length_append, Blk.ws_len]; rfl
/-! ### the least free number -/
structure Free (B : List Blk) (f : Int) : Prop where
  pos : 0 ≤ f
  no : lv B f = false
  all : ∀ i, 0 ≤ i → i < f → lv B i = true
theorem Free.uniq {B : List Blk} {f g : Int} (a : Free B f) (b : Free B g) : f = g := by
  rcases Int.lt_trichotomy f g with c | c | c
  · have := b.all f a.pos c; rw [a.no] at this; cases this
  · exact c
  · have := a.all g b.pos c; rw [b.no] at this; cases this
/-- the numbers of the living blocks, in the order in which they lie -/
def nums (B : List Blk) : List Int := (B.filter fun e => e.al).map fun e => e.n
theorem mem_nums {B : List Blk} {n : Int} : n ∈ nums B ↔ lv B n = true := by
  simp only [nums, List.mem_map, List.mem_filter, lv, List.any_eq_true, Bool.and_eq_true, decide_eq_true_eq]
  exact ⟨fun ⟨e, ⟨h1, h2⟩, h3⟩ => ⟨e, h1, h2, h3⟩, fun ⟨e, h1, h2, h3⟩ => ⟨e, ⟨h1, h2⟩, h3⟩⟩
theorem nums_len (B : List Blk) : (nums B).length ≤ B.length := by unfold nums; rw [List.length_map]; exact List.length_filter_le _ _
theorem full_len {B : List Blk} {m : Nat} (h : ∀ i : Int, 0 ≤ i → i < m → lv B i = true) : m ≤ (nums B).length := by
  have hn : ((List.range m).map fun i : Nat => (i : Int)).Nodup := by
    rw [List.Nodup, List.pairwise_map]
    exact List.nodup_range.imp fun {a b} h z => h (Int.ofNat.inj z)
  have := List.Nodup.length_le_of_subset hn (l₂ := nums B) fun x hx => by
    obtain ⟨i, hi, rfl⟩ := List.mem_map.mp hx
    exact mem_nums.mpr (h i (by omega) (by have := List.mem_range.mp hi; omega))
  simpa using this
theorem free_ex (B : List Blk) : ∃ f, Free B f ∧ f ≤ (nums B).length := by
  have key : ∀ k : Nat, (∀ i : Int, 0 ≤ i → i < k → lv B i = true) ∨ ∃ f : Int, Free B f ∧ f < k := by
    intro k
    induction k with
    | zero => exact .inl fun i h0 h1 => by omega
    | succ k ih =>
      rcases ih with h | ⟨f, h, l⟩
      · cases c : lv B (k : Int) with
        | false => exact .inr ⟨k, ⟨by omega, c, h⟩, by omega⟩
        | true =>
          refine .inl fun i h0 h1 => ?_
          by_cases d : i = k
          · rw [d]; exact c
          · exact h i h0 (by omega)
      · exact .inr ⟨f, h, by omega⟩
  rcases key ((nums B).length + 1) with h | ⟨f, h, l⟩
  · have := full_len h; omega
  · exact ⟨f, h, by omega⟩
theorem Free.le {B : List Blk} {f : Int} (h : Free B f) : f ≤ (nums B).length := by
  obtain ⟨g, hg, l⟩ := free_ex B
  rw [h.uniq hg]; exact l
theorem nums_nodup {B : List Blk} (nd : Nd B) : (nums B).Nodup := by
  unfold nums
  rw [List.Nodup, List.pairwise_map, List.pairwise_filter]
  rw [List.pairwise_iff_getElem]
  intro i j hi hj hij h1 h2 h3
  exact absurd (nd i j _ _ (List.getElem?_eq_getElem hi) (List.getElem?_eq_getElem hj) h1 h2 h3) (by omega)
end ST
namespace ST
/-! ### what roots reach -/
inductive Rch (B : List Blk) (R : List Int) : Int → Prop
  | root (w : Int) : w ∈ R → w % 2 = 0 → lv B (w / 2) = true → Rch B R (w / 2)
  | step (i : Nat) (e : Blk) (w : Int) : B[i]? = some e → e.al = true → Rch B R e.n → w ∈ e.k :: e.s → w % 2 = 0 → lv B (w / 2) = true → Rch B R (w / 2)
theorem Rch.lv {B : List Blk} {R : List Int} {n : Int} (h : Rch B R n) : ST.lv B n = true := by cases h <;> assumption
/-- the references among some words -/
def refs (l : List Int) : List Int := l.filterMap fun w => if w % 2 = 0 then some (w / 2) else none
theorem mem_refs {l : List Int} {n : Int} : n ∈ refs l ↔ ∃ w, w ∈ l ∧ w % 2 = 0 ∧ w / 2 = n := by
  simp only [refs, List.mem_filterMap]
  constructor
  · rintro ⟨w, h1, h2⟩
    split at h2
    · cases h2; exact ⟨w, h1, by assumption, rfl⟩
    · cases h2
  · rintro ⟨w, h1, h2, h3⟩
    exact ⟨w, h1, by rw [if_pos h2, h3]⟩
theorem refs_len (l : List Int) : (refs l).length ≤ l.length := List.length_filterMap_le _ _
structure DI (B : List Blk) (R F W : List Int) : Prop where
  sF : ∀ n ∈ F, Rch B R n
  sW : ∀ n ∈ W, lv B n = true → Rch B R n
  ro : ∀ w ∈ R, w % 2 = 0 → lv B (w / 2) = true → w / 2 ∈ F ∨ w / 2 ∈ W
  cl : ∀ (i : Nat) (e : Blk), B[i]? = some e → e.al = true → e.n ∈ F → ∀ w ∈ e.k :: e.s, w % 2 = 0 → lv B (w / 2) = true → w / 2 ∈ F ∨ w / 2 ∈ W
  nd : F.Nodup
theorem DI.init (B : List Blk) (R : List Int) : DI B R [] (refs R) where
  sF := fun n h => by cases h
  sW := fun n h l => by
    obtain ⟨w, h1, h2, rfl⟩ := mem_refs.mp h
    exact .root w h1 h2 l
  ro := fun w h1 h2 _ => .inr (mem_refs.mpr ⟨w, h1, h2, rfl⟩)
  cl := fun i e _ _ h => by cases h
  nd := List.nodup_nil
theorem DI.skip {B : List Blk} {R F W : List Int} {n : Int} (d : DI B R F (W ++ [n])) (h : n ∈ F ∨ lv B n = false) : DI B R F W where
  sF := d.sF
  sW := fun m hm l => d.sW m (by simp [hm]) l
  ro := fun w h1 h2 h3 => by
    rcases d.ro w h1 h2 h3 with q | q
    · exact .inl q
    · rcases List.mem_append.mp q with q | q
      · exact .inr q
      · have e : w / 2 = n := by simpa using q
        rcases h with h | h
        · exact .inl (e ▸ h)
        · rw [e, h] at h3; cases h3
  cl := fun i e h1 h2 h3 w h4 h5 h6 => by
    rcases d.cl i e h1 h2 h3 w h4 h5 h6 with q | q
    · exact .inl q
    · rcases List.mem_append.mp q with q | q
      · exact .inr q
      · have e : w / 2 = n := by simpa using q
        rcases h with h | h
        · exact .inl (e ▸ h)
        · rw [e, h] at h6; cases h6
  nd := d.nd
/-- taken: the block i is found; X are its references that are put on the waiting ones, at least all that are not found yet -/
theorem DI.take {B : List Blk} {R F W X : List Int} {i : Nat} {e : Blk} (d : DI B R F (W ++ [e.n])) (N : Nd B) (h : B[i]? = some e) (ha : e.al = true) (hn : e.n ∉ F) (x1 : ∀ m ∈ X, m ∈ refs (e.k :: e.s)) (x2 : ∀ m ∈ refs (e.k :: e.s), m ∈ F ++ [e.n] ∨ m ∈ X) : DI B R (F ++ [e.n]) (W ++ X) := by
  have re : Rch B R e.n := d.sW e.n (by simp) (lv_at h ha)
  refine ⟨fun n hm => ?_, fun n hm l => ?_, fun w h1 h2 h3 => ?_, fun j f h1 h2 h3 w h4 h5 h6 => ?_, ?_⟩
  · rcases List.mem_append.mp hm with q | q
    · exact d.sF n q
    · have : n = e.n := by simpa using q
      rw [this]; exact re
  · rcases List.mem_append.mp hm with q | q
    · exact d.sW n (by simp [q]) l
    · obtain ⟨w, h1, h2, rfl⟩ := mem_refs.mp (x1 n q)
      exact .step i e w h ha re h1 h2 l
  · rcases d.ro w h1 h2 h3 with q | q
    · exact .inl (by simp [q])
    · rcases List.mem_append.mp q with q | q
      · exact .inr (by simp [q])
      · exact .inl (by simp at q; simp [q])
  · by_cases c : f.n ∈ F
    · rcases d.cl j f h1 h2 c w h4 h5 h6 with q | q
      · exact .inl (by simp [q])
      · rcases List.mem_append.mp q with q | q
        · exact .inr (by simp [q])
        · exact .inl (by simp at q; simp [q])
    · have en : f.n = e.n := by
        rcases List.mem_append.mp h3 with q | q
        · exact absurd q c
        · simpa using q
      have := N j i f e h1 h h2 ha en
      subst this
      rw [h] at h1; cases h1
      rcases x2 (w / 2) (mem_refs.mpr ⟨w, h4, h5, rfl⟩) with q | q
      · exact .inl q
      · exact .inr (by simp [q])
  · exact List.nodup_append.mpr ⟨d.nd, by simp, fun a ha b hb => by simp at hb; subst hb; exact fun z => hn (z ▸ ha)⟩
theorem DI.done {B : List Blk} {R F : List Int} (d : DI B R F []) (N : Nd B) : ∀ n, n ∈ F ↔ Rch B R n := fun n => by
  refine ⟨d.sF n, fun h => ?_⟩
  induction h with
  | root w h1 h2 h3 => exact (d.ro w h1 h2 h3).elim id fun z => by cases z
  | step i e w h1 h2 h3 h4 h5 h6 ih => exact (d.cl i e h1 h2 ih w h4 h5 h6).elim id fun z => by cases z
/-- how much may still be found -/
def pot (F : List Int) : List Blk → Nat
  | [] => 0
  | e :: B => (if e.al = true ∧ e.n ∉ F then e.s.length + 2 else 0) + pot F B
theorem pot_le (F : List Int) (n : Int) : ∀ B, pot (F ++ [n]) B ≤ pot F B
  | [] => Nat.le_refl _
  | e :: B => by
    have := pot_le F n B
    unfold pot
    by_cases c : e.al = true ∧ e.n ∉ F ++ [n]
    · rw [if_pos c, if_pos ⟨c.1, fun z => c.2 (by simp [z])⟩]; omega
    · rw [if_neg c]; omega
theorem pot_lt {F : List Int} {e : Blk} : ∀ {B : List Blk} {i : Nat}, B[i]? = some e → e.al = true → e.n ∉ F → pot (F ++ [e.n]) B + (e.s.length + 2) ≤ pot F B
  | [], i, h, _, _ => by simp at h
  | f :: B, 0, h, ha, hn => by
    have := pot_le F e.n B
    have : f = e := by simpa using h
    subst this
    have e1 : pot F (f :: B) = (f.s.length + 2) + pot F B := by conv => lhs; unfold pot; rw [if_pos ⟨ha, hn⟩]
    have e2 : pot (F ++ [f.n]) (f :: B) = 0 + pot (F ++ [f.n]) B := by conv => lhs; unfold pot; rw [if_neg (fun z => z.2 (by simp))]
    omega
  | f :: B, i + 1, h, ha, hn => by
    have ih := pot_lt (F := F) (e := e) (B := B) (i := i) (by simpa using h) ha hn
    unfold pot
    by_cases c : f.al = true ∧ f.n ∉ F ++ [e.n]
    · rw [if_pos c, if_pos ⟨c.1, fun z => c.2 (by simp [z])⟩]; omega
    · rw [if_neg c]; omega
theorem pot_flat (F : List Int) : ∀ B, pot F B ≤ (flat B).length
  | [] => Nat.le_refl _
  | e :: B => by
    have := pot_flat F B
    rw [flat_cons, List.length_append, Blk.ws_len]
    unfold pot
    split <;> omega
/-! ### sorted lists -/
theorem srt_uniq {a b : List Int} (h : ∀ x, x ∈ a ↔ x ∈ b) (na : a.Nodup) (nb : b.Nodup) {a' b' : List Int} (pa : a'.Perm a) (pb : b'.Perm b) (sa : a'.Pairwise (· ≤ ·)) (sb : b'.Pairwise (· ≤ ·)) : a' = b' := by
  have p : a.Perm b := (List.perm_ext_iff_of_nodup na nb).mpr h
  exact List.Perm.eq_of_pairwise (le := (· ≤ ·)) (fun x y _ _ h1 h2 => Int.le_antisymm h1 h2) sa sb (pa.trans (p.trans pb.symm))
theorem perm_sum {a b : List Int} (p : a.Perm b) : a.sum = b.sum := by
  induction p with
  | nil => rfl
  | cons x _ ih => rw [List.sum_cons, List.sum_cons, ih]
  | swap x y l => rw [List.sum_cons, List.sum_cons, List.sum_cons, List.sum_cons]; omega
  | trans _ _ h1 h2 => exact h1.trans h2
theorem fm_if {α β : Type} (p : α → Bool) (f : α → β) : ∀ l : List α, l.filterMap (fun r => if p r = true then some (f r) else none) = (l.filter p).map f
  | [] => rfl
  | x :: l => by
    rw [List.filterMap_cons, List.filter_cons, fm_if p f l]
    cases p x <;> rfl
end ST

set_option Elab.async false
set_option linter.all false
set_option maxRecDepth 100000
set_option maxHeartbeats 4000000
/-! StH: a store in the heap; its promises -/
namespace KW
open PySem PySem.Spec PyProof.Rows L2
/-- from H to H' at most the things of f changed; the things of g are of f or new -/
def Stp (f g : List Addr) (H H' : Hp) : Prop := KW.Fr f H H' ∧ ∀ x ∈ g, x ∈ f ∨ H x = none
theorem Fr.none {l : List Addr} {H H' : Hp} (f : KW.Fr l H H') {b : Addr} (n : b ∉ l) (h : H' b = none) : H b = none := by
  cases e : H b with
  | none => rfl
  | some o => have := f b o n e; rw [h] at this; cases this
theorem Stp.refl {f : List Addr} (H : Hp) : Stp f f H H := ⟨Fr.refl H, fun _ h => .inl h⟩
theorem Stp.of {f : List Addr} {H H' : Hp} (h : KW.Fr f H H') : Stp f f H H' := ⟨h, fun _ h => .inl h⟩
theorem Stp.trans {f g k : List Addr} {H H1 H2 : Hp} (a : Stp f g H H1) (b : Stp g k H1 H2) : Stp f k H H2 := by
  refine ⟨fun x o n h => ?_, fun x hx => ?_⟩
  · have h1 := a.1 x o n h
    refine b.1 x o (fun z => ?_) h1
    rcases a.2 x z with q | q
    · exact n q
    · rw [h] at q; cases q
  · by_cases hf : x ∈ f
    · exact .inl hf
    · rcases b.2 x hx with q | q
      · exact a.2 x q
      · exact .inr (a.1.none hf q)
theorem Stp.out {f g : List Addr} {H H' : Hp} (a : Stp f g H H') {x : Addr} {o : HO} (n : x ∉ f) (h : H x = some o) : H' x = some o ∧ x ∉ g := by
  refine ⟨a.1 x o n h, fun z => ?_⟩
  rcases a.2 x z with q | q
  · exact n q
  · rw [h] at q; cases q
theorem Fr.stp {l f g : List Addr} {H H' H2 : Hp} (a : KW.Fr l H H') (n : ∀ x ∈ l, x ∈ f) (b : Stp f g H' H2) : Stp f g H H2 := (Stp.of (a.mono n)).trans b
/-- a tuple, a list of ints, a thing that stands -/
abbrev IL (H : Hp) (p : Addr) (xs : List Int) : Prop := H p = some (.lst (xs.map V.int))
theorem notin_of {l : List Addr} {H : Hp} {p : Addr} (h : H p = none) (k : ∀ x ∈ l, ∃ o, H x = some o) : p ∉ l := fun z => by
  obtain ⟨o, e⟩ := k p z
  rw [h] at e; cases e
end KW
namespace ST
open PySem PySem.Spec PyProof.Rows L2 KW
abbrev KVs := List (Key × V)
structure PlOk (kvs : KVs) (B : List Blk) : Prop where
  at_ : ∀ (i : Nat) (e : Blk), B[i]? = some e → e.al = true → valV kvs (.inl e.n) = some (.int (off B i : Nat))
  ks : ∃ ns : List Int, kvs.map (·.1) = ns.map Sum.inl ∧ ns.Nodup ∧ ∀ n, n ∈ ns ↔ lv B n = true
theorem valV_some {kvs : KVs} {k : Key} : (valV kvs k).isSome = true ↔ k ∈ kvs.map (·.1) := by
  rw [← valV_any, List.any_eq_true]
  constructor
  · rintro ⟨a, ha, h⟩
    have : a.1 = k := by simpa using h
    exact List.mem_map.mpr ⟨a, ha, this⟩
  · intro h
    obtain ⟨a, ha, rfl⟩ := List.mem_map.mp h
    exact ⟨a, ha, by simp⟩
theorem PlOk.isS {kvs : KVs} {B : List Blk} (h : PlOk kvs B) (n : Int) : (valV kvs (.inl n)).isSome = lv B n := by
  obtain ⟨ns, e, _, m⟩ := h.ks
  apply Bool.eq_iff_iff.mpr
  rw [valV_some, e, ← m n, List.mem_map]
  exact ⟨fun ⟨a, ha, z⟩ => by cases z; exact ha, fun ha => ⟨n, ha, rfl⟩⟩
theorem PlOk.isN {kvs : KVs} {B : List Blk} (h : PlOk kvs B) {n : Int} (l : lv B n = false) : valV kvs (.inl n) = none := by
  have := h.isS n
  rw [l] at this
  cases e : valV kvs (.inl n) with
  | none => rfl
  | some v => rw [e] at this; cases this
theorem PlOk.len {kvs : KVs} {B : List Blk} (h : PlOk kvs B) : kvs.length ≤ B.length := by
  obtain ⟨ns, e, nd, m⟩ := h.ks
  have e1 := congrArg List.length e
  rw [List.length_map, List.length_map] at e1
  have := nd.length_le_of_subset (l₂ := nums B) fun x hx => mem_nums.mpr ((m x).mp hx)
  have := nums_len B
  omega
theorem PlOk.nil : PlOk [] [] := ⟨fun i e h => by simp at h, [], rfl, List.nodup_nil, fun n => by simp [lv]⟩
theorem PlOk.congr {kvs : KVs} {B C : List Blk} (h : PlOk kvs B) (h1 : ∀ (i : Nat) (e : Blk), C[i]? = some e → e.al = true → ∃ (e' : Blk), B[i]? = some e' ∧ e'.al = true ∧ e'.n = e.n ∧ off B i = off C i) (h2 : ∀ n, lv C n = lv B n) : PlOk kvs C := by
  obtain ⟨ns, e, nd, m⟩ := h.ks
  refine ⟨fun i e hi ha => ?_, ns, e, nd, fun n => by rw [h2]; exact m n⟩
  obtain ⟨e', q1, q2, q3, q4⟩ := h1 i e hi ha
  rw [← q3, ← q4]; exact h.at_ i e' q1 q2
theorem PlOk.same {kvs : KVs} {B : List Blk} {i : Nat} {e f : Blk} (h : PlOk kvs B) (hi : B[i]? = some e) (h1 : f.al = e.al) (h2 : f.n = e.n) (h3 : f.s.length = e.s.length) : PlOk kvs (B.set i f) := by
  refine h.congr (fun j u hj ua => ?_) (lv_set hi h1 h2)
  rw [get_set hi] at hj
  rw [off_set hi h3]
  split at hj
  · rename_i c; subst c; cases hj; exact ⟨e, hi, h1 ▸ ua, h2.symm, rfl⟩
  · exact ⟨u, hj, ua, rfl, rfl⟩
theorem putK_new {kvs : KVs} {k : Key} {v : V} (h : valV kvs k = none) : (putK kvs k v).map (·.1) = kvs.map (·.1) ++ [k] := by
  unfold putK
  rw [if_neg (by rw [valV_any, h]; simp), List.map_append]; rfl
theorem putK_old {kvs : KVs} {k : Key} {v : V} (h : (valV kvs k).isSome = true) : (putK kvs k v).map (·.1) = kvs.map (·.1) := by
  unfold putK
  rw [if_pos (by rw [valV_any]; exact h), List.map_map]
  apply List.map_congr_left
  rintro ⟨a, b⟩ _
  simp only [Function.comp]
  split
  · rename_i c; simp_all
  · rfl
theorem valV_putI {kvs : KVs} {n m : Int} {v : V} : valV (putK kvs (.inl n) v) (.inl m) = if m = n then some v else valV kvs (.inl m) := by
  rw [valV_put]
  by_cases c : m = n
  · subst c; rw [if_pos rfl, if_pos rfl]
  · rw [if_neg (fun z => c (by cases z; rfl)), if_neg c]
theorem valV_dropI {kvs : KVs} {n m : Int} : valV (dropK kvs (.inl n)) (.inl m) = if m = n then none else valV kvs (.inl m) := by
  rw [valV_drop]
  by_cases c : m = n
  · subst c; rw [if_pos rfl, if_pos rfl]
  · rw [if_neg (fun z => c (by cases z; rfl)), if_neg c]
theorem inl_eq {u v : Int} : ((Sum.inl u : Key) = .inl v) = (u = v) := propext ⟨fun z => by cases z; rfl, fun z => by rw [z]⟩
theorem PlOk.app {kvs : KVs} {B : List Blk} {e : Blk} (h : PlOk kvs B) (ha : e.al = true) (hn : lv B e.n = false) : PlOk (putK kvs (.inl e.n) (.int ((flat B).length : Nat))) (B ++ [e]) := by
  have nn := h.isN hn
  obtain ⟨ns, ek, nd, m⟩ := h.ks
  refine ⟨fun i u hi ua => ?_, ns ++ [e.n], by rw [putK_new nn, ek]; simp, ?_, fun n => ?_⟩
  · rw [valV_putI]
    rw [List.getElem?_append] at hi
    split at hi
    · rename_i c
      rw [off_app (by omega), if_neg (fun z => ?_)]
      · exact h.at_ i u hi ua
      · rw [← z, lv_at hi ua] at hn; cases hn
    · rename_i c
      have hx : i - B.length = 0 := by
        have := (List.getElem?_eq_some_iff.mp hi).1
        simpa using this
      rw [hx] at hi
      have : u = e := by simpa using hi.symm
      subst this
      have hi2 : i = B.length := by omega
      subst hi2
      rw [if_pos rfl, off_app (Nat.le_refl _), off_len]
  · rw [List.nodup_append]
    refine ⟨nd, by simp, fun a ha b hb => ?_⟩
    simp at hb; subst hb
    intro z; subst z
    rw [(m _).mp ha] at hn; cases hn
  · rw [List.mem_append, m n, lv_app]
    have : lv [e] n = decide (e.n = n) := by simp [lv, ha]
    rw [this, Bool.or_eq_true, decide_eq_true_eq, List.mem_singleton]
    exact ⟨fun z => z.elim .inl fun q => .inr q.symm, fun z => z.elim .inl fun q => .inr q.symm⟩
theorem PlOk.drop {kvs : KVs} {B : List Blk} {i : Nat} {e : Blk} (h : PlOk kvs B) (N : Nd B) (hi : B[i]? = some e) (ha : e.al = true) : PlOk (dropK kvs (.inl e.n)) (B.set i { e with al := false }) := by
  obtain ⟨ns, ek, nd, m⟩ := h.ks
  refine ⟨fun j u hj ua => ?_, ns.filter (fun n => decide (n ≠ e.n)), ?_, nd.sublist List.filter_sublist, fun n => ?_⟩
  · rw [valV_dropI, off_set (f := { e with al := false }) hi rfl]
    rw [get_set hi] at hj
    split at hj
    · cases hj; cases ua
    · rename_i c
      rw [if_neg (fun z => c (N j i u e hj hi ua ha z))]
      exact h.at_ j u hj ua
  · unfold dropK
    have : ∀ (l : KVs) (ns : List Int), l.map (·.1) = ns.map Sum.inl → (l.filter fun a => decide (a.1 ≠ .inl e.n)).map (·.1) = (ns.filter fun n => decide (n ≠ e.n)).map Sum.inl := by
      intro l
      induction l with
      | nil => intro ns h; cases ns with | nil => rfl | cons _ _ => cases h
      | cons a l ih =>
        intro ns h
        cases ns with
        | nil => cases h
        | cons n ns =>
          simp only [List.map_cons, List.cons.injEq] at h
          have e1 := ih ns h.2
          rw [List.filter_cons, List.filter_cons]
          by_cases c : n = e.n
          · rw [if_neg (by simp [h.1, c]), if_neg (by simp [c])]; exact e1
          · rw [if_pos (by simp [h.1, c]), if_pos (by simp [c]), List.map_cons, List.map_cons, e1, h.1]
    exact this kvs ns ek
  · rw [List.mem_filter, m n, lv_drop N hi ha]
    simp
theorem PlOk.exch {kvs : KVs} {B : List Blk} {i j : Nat} {e f : Blk} (h : PlOk kvs B) (N : Nd B) (hi : B[i]? = some e) (hj : B[j]? = some f) (ea : e.al = true) (fa : f.al = true) :
    PlOk (putK (putK kvs (.inl e.n) (.int (off B j : Nat))) (.inl f.n) (.int (off B i : Nat))) (exch B i j e f) := by
  obtain ⟨ns, ek, nd, m⟩ := h.ks
  have l1 : (valV kvs (.inl e.n)).isSome = true := by rw [h.isS]; exact lv_at hi ea
  have l2 : (valV (putK kvs (.inl e.n) (.int (off B j : Nat))) (.inl f.n)).isSome = true := by
    rw [valV_putI]
    split
    · rfl
    · rw [h.isS]; exact lv_at hj fa
  refine ⟨fun a u ha ua => ?_, ns, by rw [putK_old l2, putK_old l1]; exact ek, nd, fun n => by rw [lv_exch hi hj ea fa]; exact m n⟩
  rw [off_exch hi hj, valV_putI, valV_putI]
  rw [get_exch hi hj] at ha
  split at ha
  · rename_i c; subst c; cases ha
    dsimp only
    by_cases d : e.n = f.n
    · have := N i a e f hi hj ea fa d
      subst this
      rw [if_pos d]
    · rw [if_neg d, if_pos rfl]
  · split at ha
    · rename_i c d; subst d; cases ha
      rw [if_pos rfl]
    · rename_i c d
      rw [if_neg (fun z => c (N a j u f ha hj ua fa z)), if_neg (fun z => d (N a i u e ha hi ua ea z))]
      exact h.at_ a u ha ua
/-- a store at st: its words at wd, its places at pl -/
structure Sto (C : Addr) (H : Hp) (st wd pl : Addr) (rm en : Int) (B : List Blk) : Prop where
  ob : ∃ dx lo, H st = some (.ins C dx [("room", .int rm), ("entries", .int en), ("words", .ref wd), ("_places", .ref pl), ("_least", .int lo)]) ∧ 0 ≤ lo ∧ ∀ i, 0 ≤ i → i < lo → lv B i = true
  wo : H wd = some (.lst ((flat B).map V.int))
  pa : ∃ kvs, H pl = some (.dK kvs) ∧ PlOk kvs B
  nd : Nd B
  nn : ∀ (i : Nat) (e : Blk), B[i]? = some e → e.al = true → 0 ≤ e.n
  wp : wd ≠ pl
  sw : st ≠ wd
  sp : st ≠ pl
abbrev fpS (st wd pl : Addr) : List Addr := [st, wd, pl]
theorem Sto.fr {C : Addr} {H H' : Hp} {st wd pl : Addr} {rm en : Int} {B : List Blk} {l : List Addr} (s : Sto C H st wd pl rm en B) (f : KW.Fr l H H') (h1 : st ∉ l) (h2 : wd ∉ l) (h3 : pl ∉ l) : Sto C H' st wd pl rm en B := by
  obtain ⟨⟨dx, lo, ob, l1⟩, wo, ⟨kvs, pa, ok⟩, nd, nn, wp, sw, sp⟩ := s
  exact ⟨⟨dx, lo, f _ _ h1 ob, l1⟩, f _ _ h2 wo, ⟨kvs, f _ _ h3 pa, ok⟩, nd, nn, wp, sw, sp⟩
theorem Sto.new {C : Addr} {H : Hp} {st wd pl t : Addr} {rm en : Int} {B : List Blk} {o : HO} (s : Sto C H st wd pl rm en B) (h : H t = none) : Sto C (upd H t o) st wd pl rm en B := s.fr (l := []) (Fr.new h) (by simp) (by simp) (by simp)
theorem Sto.fr0 {C : Addr} {H H' : Hp} {st wd pl : Addr} {rm en : Int} {B : List Blk} (s : Sto C H st wd pl rm en B) (f : KW.Fr [] H H') : Sto C H' st wd pl rm en B := s.fr f (by simp) (by simp) (by simp)
theorem Sto.there {C : Addr} {H : Hp} {st wd pl : Addr} {rm en : Int} {B : List Blk} (s : Sto C H st wd pl rm en B) : ∀ x ∈ fpS st wd pl, ∃ o, H x = some o := by
  obtain ⟨⟨dx, lo, ob, l1⟩, wo, ⟨kvs, pa, ok⟩, nd, nn, wp, sw, sp⟩ := s
  intro x hx
  simp only [List.mem_cons, List.not_mem_nil, or_false] at hx
  rcases hx with rfl | rfl | rfl
  · exact ⟨_, ob⟩
  · exact ⟨_, wo⟩
  · exact ⟨_, pa⟩
/-! ### promises of its methods -/
def spInit (C : Addr) : Sp := fun vs H Q _ => ∃ (st dx : Addr) (rm en : Int), vs = [.ref st, .int rm, .int en] ∧ H st = some (.ins C dx []) ∧ ∀ H' wd pl, Sto C H' st wd pl rm en [] → KW.Fr [st] H H' → H wd = none → H pl = none → Q .non H'
def spUsed (C : Addr) : Sp := fun vs H Q _ => ∃ (st wd pl : Addr) (rm en : Int) (B : List Blk), vs = [.ref st] ∧ Sto C H st wd pl rm en B ∧ Q (.int (flat B).length) H
def spExists (C : Addr) : Sp := fun vs H Q _ => ∃ (st wd pl : Addr) (rm en : Int) (B : List Blk) (n : Int), vs = [.ref st, .int n] ∧ Sto C H st wd pl rm en B ∧ Q (.bl (lv B n)) H
def spNumbers (C : Addr) : Sp := fun vs H Q _ => ∃ (st wd pl : Addr) (rm en : Int) (B : List Blk), vs = [.ref st] ∧ Sto C H st wd pl rm en B ∧ B.length ≤ 1000000 ∧ ∀ (ys : List Int) (l : Addr), ys.Perm (nums B) → ys.Pairwise (· ≤ ·) → H l = none → Q (.ref l) (upd H l (.lst (ys.map V.int)))
def spSize (C : Addr) : Sp := fun vs H Q _ => ∃ (st wd pl : Addr) (rm en : Int) (B : List Blk) (n : Int) (i : Nat) (e : Blk), vs = [.ref st, .int n] ∧ Sto C H st wd pl rm en B ∧ B[i]? = some e ∧ e.al = true ∧ e.n = n ∧ Q (.int e.s.length) H
def spKind (C : Addr) : Sp := fun vs H Q _ => ∃ (st wd pl : Addr) (rm en : Int) (B : List Blk) (n : Int) (i : Nat) (e : Blk), vs = [.ref st, .int n] ∧ Sto C H st wd pl rm en B ∧ B[i]? = some e ∧ e.al = true ∧ e.n = n ∧ Q (.int e.k) H
def spGet (C : Addr) : Sp := fun vs H Q _ => ∃ (st wd pl : Addr) (rm en : Int) (B : List Blk) (n : Int) (i j : Nat) (e : Blk) (z : Int), vs = [.ref st, .int n, .int j] ∧ Sto C H st wd pl rm en B ∧ B[i]? = some e ∧ e.al = true ∧ e.n = n ∧ e.s[j]? = some z ∧ Q (.int z) H
def spSlots (C : Addr) : Sp := fun vs H Q _ => ∃ (st wd pl : Addr) (rm en : Int) (B : List Blk) (n : Int) (i : Nat) (e : Blk), vs = [.ref st, .int n] ∧ Sto C H st wd pl rm en B ∧ B[i]? = some e ∧ e.al = true ∧ e.n = n ∧ ∀ l, H l = none → Q (.ref l) (upd H l (.lst (e.s.map V.int)))
def spSetKind (C : Addr) : Sp := fun vs H Q _ => ∃ (st wd pl : Addr) (rm en : Int) (B : List Blk) (n z : Int) (i : Nat) (e : Blk), vs = [.ref st, .int n, .int z] ∧ Sto C H st wd pl rm en B ∧ B[i]? = some e ∧ e.al = true ∧ e.n = n ∧ ∀ H', Sto C H' st wd pl rm en (B.set i { e with k := z }) → KW.Fr [wd] H H' → Q .non H'
def spPut (C : Addr) : Sp := fun vs H Q _ => ∃ (st wd pl : Addr) (rm en : Int) (B : List Blk) (n z : Int) (i j : Nat) (e : Blk), vs = [.ref st, .int n, .int j, .int z] ∧ Sto C H st wd pl rm en B ∧ B[i]? = some e ∧ e.al = true ∧ e.n = n ∧ j < e.s.length ∧ ∀ H', Sto C H' st wd pl rm en (B.set i { e with s := e.s.set j z }) → KW.Fr [wd] H H' → Q .non H'
def spDrop (C : Addr) : Sp := fun vs H Q _ => ∃ (st wd pl : Addr) (rm en : Int) (B : List Blk) (n : Int) (i : Nat) (e : Blk), vs = [.ref st, .int n] ∧ Sto C H st wd pl rm en B ∧ B[i]? = some e ∧ e.al = true ∧ e.n = n ∧ ∀ H', Sto C H' st wd pl rm en (B.set i { e with al := false }) → KW.Fr [st, pl] H H' → Q .non H'
def spExchange (C : Addr) : Sp := fun vs H Q _ => ∃ (st wd pl : Addr) (rm en : Int) (B : List Blk) (m n : Int) (i j : Nat) (e f : Blk), vs = [.ref st, .int m, .int n] ∧ Sto C H st wd pl rm en B ∧ B.length ≤ 1000000 ∧ B[i]? = some e ∧ e.al = true ∧ e.n = m ∧ B[j]? = some f ∧ f.al = true ∧ f.n = n ∧
  ∀ H', Sto C H' st wd pl rm en (exch B i j e f) → KW.Fr [wd, pl] H H' → Q .non H'
def spFree (C NN : Addr) : Sp := fun vs H Q E => ∃ (st wd pl : Addr) (rm en : Int) (B : List Blk), vs = [.ref st] ∧ Sto C H st wd pl rm en B ∧ 0 ≤ en ∧ en ≤ 1000000 ∧ ∀ f, Free B f →
  (f < en → ∀ H', Sto C H' st wd pl rm en B → KW.Fr [st] H H' → Q (.int f) H') ∧
  (en ≤ f → ∀ H', Sto C H' st wd pl rm en B → KW.Fr [st] H H' → ∀ d, H' d = none → E (.ref NN) (some d) (upd H' d (.xd [("limit", .int en)])))
def spAllocate (C NR NN : Addr) : Sp := fun vs H Q E => ∃ (st wd pl : Addr) (rm en : Int) (B : List Blk) (kd : Int) (n : Nat), vs = [.ref st, .int kd, .int n] ∧ Sto C H st wd pl rm en B ∧ 0 ≤ en ∧ en ≤ 1000000 ∧ rm ≤ 1000000 ∧ n ≤ 1000000 ∧
  (rm < ((flat B).length : Int) + 3 + n → ∀ d, H d = none → E (.ref NR) (some d) (upd H d (.xd [("need", .int (3 + n))]))) ∧
  (((flat B).length : Int) + 3 + n ≤ rm → ∀ f, Free B f →
    (f < en → ∀ H', Sto C H' st wd pl rm en (B ++ [⟨f, kd, List.replicate n 0, true⟩]) → KW.Fr [st, wd, pl] H H' → Q (.int f) H') ∧
    (en ≤ f → ∀ H', Sto C H' st wd pl rm en B → KW.Fr [st] H H' → ∀ d, H' d = none → E (.ref NN) (some d) (upd H' d (.xd [("limit", .int en)]))))
theorem len_flat (B : List Blk) : 3 * B.length ≤ (flat B).length := by
  induction B with
  | nil => simp
  | cons e B ih => rw [flat_cons, List.length_append, Blk.ws_len, List.length_cons]; omega
end ST
namespace ST
open PySem PySem.Spec PyProof.Rows L2 KW
/-- a dict of found numbers -/
structure Fnd (kvs : KVs) (F : List Int) : Prop where
  ks : kvs.map (·.1) = F.map Sum.inl
  tr : ∀ n ∈ F, valV kvs (.inl n) = some (.bl true)
theorem Fnd.nil : Fnd [] [] := ⟨rfl, fun n h => by cases h⟩
theorem Fnd.mem {kvs : KVs} {F : List Int} (h : Fnd kvs F) (n : Int) : (valV kvs (.inl n)).isSome = decide (n ∈ F) := by
  apply Bool.eq_iff_iff.mpr
  rw [valV_some, h.ks, List.mem_map, decide_eq_true_eq]
  exact ⟨fun ⟨a, ha, z⟩ => by cases z; exact ha, fun ha => ⟨n, ha, rfl⟩⟩
theorem Fnd.put {kvs : KVs} {F : List Int} {n : Int} (h : Fnd kvs F) (hn : n ∉ F) : Fnd (putK kvs (.inl n) (.bl true)) (F ++ [n]) := by
  have e : valV kvs (.inl n) = none := by
    have := h.mem n
    rw [decide_eq_false hn] at this
    cases q : valV kvs (.inl n) with
    | none => rfl
    | some v => rw [q] at this; cases this
  refine ⟨by rw [putK_new e, h.ks, List.map_append]; rfl, fun m hm => ?_⟩
  rw [valV_putI]
  split
  · rfl
  · rename_i c
    refine h.tr m ?_
    rcases List.mem_append.mp hm with q | q
    · exact q
    · exact absurd (by simpa using q) c
theorem Fnd.len {kvs : KVs} {F : List Int} (h : Fnd kvs F) : kvs.length = F.length := by
  have := congrArg List.length h.ks
  rwa [List.length_map, List.length_map] at this
theorem rch_len {B : List Blk} {R F : List Int} (nd : F.Nodup) (h : ∀ n ∈ F, Rch B R n) : F.length ≤ B.length :=
  Nat.le_trans (nd.length_le_of_subset (l₂ := nums B) fun x hx => mem_nums.mpr (h x hx).lv) (nums_len B)
/-- reached(store, roots) -/
def spReached (C : Addr) : Sp := fun vs H Q _ => ∃ (st wd pl rt : Addr) (rm en : Int) (B : List Blk) (R : List Int), vs = [.ref st, .ref rt] ∧ Sto C H st wd pl rm en B ∧ IL H rt R ∧ (flat B).length ≤ 2000000 ∧ R.length ≤ 1000000 ∧
  ∀ (p : Addr) (F : List Int) (kvs : KVs) (H' : Hp), H p = none → KW.Fr [] H H' → H' p = some (.dK kvs) → Fnd kvs F → F.Nodup → (∀ n, n ∈ F ↔ Rch B R n) → Q (.ref p) H'
/-- words_of(store, numbers): a list, or a dict of found ones -/
def blkAt (B : List Blk) (n : Int) : Option Blk := B.find? fun e => e.al && decide (e.n = n)
theorem blkAt_ex {B : List Blk} {n : Int} (h : lv B n = true) : ∃ (i : Nat) (e : Blk), blkAt B n = some e ∧ B[i]? = some e ∧ e.al = true ∧ e.n = n := by
  unfold blkAt
  cases q : B.find? fun e => e.al && decide (e.n = n) with
  | none =>
    rw [List.find?_eq_none] at q
    obtain ⟨i, e, h1, h2, h3⟩ := lv_iff.mp h
    exact absurd (by simp [h2, h3]) (q e (List.mem_of_getElem? h1))
  | some e =>
    have h1 := List.find?_some q
    obtain ⟨i, hi⟩ := List.getElem?_of_mem (List.mem_of_find?_eq_some q)
    simp at h1
    exact ⟨i, e, rfl, hi, h1.1, h1.2⟩
theorem blkAt_eq {B : List Blk} (N : Nd B) {i : Nat} {e : Blk} (h : B[i]? = some e) (ha : e.al = true) : blkAt B e.n = some e := by
  obtain ⟨j, f, h1, h2, h3, h4⟩ := blkAt_ex (lv_at h ha)
  have := N i j e f h h2 ha h3 h4.symm
  subst this
  rw [h] at h2; cases h2; exact h1
/-- the words that the block n takes -/
def wof (B : List Blk) (n : Int) : Int := 3 + ((blkAt B n).map fun e => (e.s.length : Int)).getD 0
theorem wof_eq {B : List Blk} (N : Nd B) {i : Nat} {e : Blk} (h : B[i]? = some e) (ha : e.al = true) : wof B e.n = 3 + (e.s.length : Int) := by unfold wof; rw [blkAt_eq N h ha]; rfl
def spWordsOf (C : Addr) : Sp := fun vs H Q _ => ∃ (st wd pl nu : Addr) (rm en : Int) (B : List Blk) (F : List Int), vs = [.ref st, .ref nu] ∧ Sto C H st wd pl rm en B ∧ (IL H nu F ∨ nu ≠ pl ∧ ∃ kvs, H nu = some (.dK kvs) ∧ Fnd kvs F) ∧ F.length ≤ 1000000 ∧ (∀ n ∈ F, lv B n = true) ∧
  ∀ H', KW.Fr [] H H' → Q (.int (F.map (wof B)).sum) H'
end ST
namespace ST
open PySem PySem.Spec PyProof.Rows L2 KW
section
variable {C : Addr} {H : Hp} {st wd pl : Addr} {rm en : Int} {B : List Blk} {Q : VK} {E : XK} {m : Str} {sp : Sp} {t : TA} {σ : L2.St}
theorem met_s (S : Sto C H st wd pl rm en B) (l : (["room", "entries", "words", "_places", "_least"] : List Str).contains m = false) (q : t σ H fun vs H2 => sp (.ref st :: vs) H2 Q E) : uMet.uMt C m sp E t σ (.ref st) H Q := by
  obtain ⟨dx, lo, ob, _⟩ := S.ob
  refine ⟨dx, _, ob, ?_, q⟩
  simp only [List.contains_cons, List.contains_nil, Bool.or_eq_false_iff, Bool.or_false] at l
  simp only [List.lookup, l]
theorem words_s {Q : VK} {K : Frag} {mg : Str → Option Value} {x : Str} {ns : List Str} (S : Sto C H st wd pl rm en B) (c : ClsA K mg x C ns) (h : (PySem.Str.ofString "words" : Str) ∈ ns) (q : Q (.ref wd) H) : uGet K "words" (.ref st) H Q := by
  obtain ⟨dx, lo, ob, _⟩ := S.ob
  exact get_l ob c h (by rfl) q
theorem exists_s {n : Int} (S : Sto C H st wd pl rm en B) (q : Q (.bl (lv B n)) H) : spExists C [.ref st, .int n] H Q E := ⟨st, wd, pl, rm, en, B, n, rfl, S, q⟩
theorem used_s (S : Sto C H st wd pl rm en B) (q : Q (.int (flat B).length) H) : spUsed C [.ref st] H Q E := ⟨st, wd, pl, rm, en, B, rfl, S, q⟩
theorem numbers_s (S : Sto C H st wd pl rm en B) (hB : B.length ≤ 1000000) (q : ∀ (ys : List Int) (l : Addr), ys.Perm (nums B) → ys.Pairwise (· ≤ ·) → H l = none → Q (.ref l) (upd H l (.lst (ys.map V.int)))) : spNumbers C [.ref st] H Q E := ⟨st, wd, pl, rm, en, B, rfl, S, hB, q⟩
variable {n z : Int} {i j : Nat} {e f : Blk}
theorem size_s (S : Sto C H st wd pl rm en B) (hi : B[i]? = some e) (ha : e.al = true) (hn : e.n = n) (q : Q (.int e.s.length) H) : spSize C [.ref st, .int n] H Q E := ⟨st, wd, pl, rm, en, B, n, i, e, rfl, S, hi, ha, hn, q⟩
theorem kind_s (S : Sto C H st wd pl rm en B) (hi : B[i]? = some e) (ha : e.al = true) (hn : e.n = n) (q : Q (.int e.k) H) : spKind C [.ref st, .int n] H Q E := ⟨st, wd, pl, rm, en, B, n, i, e, rfl, S, hi, ha, hn, q⟩
theorem get_s (S : Sto C H st wd pl rm en B) (hi : B[i]? = some e) (ha : e.al = true) (hn : e.n = n) (hz : e.s[j]? = some z) (q : Q (.int z) H) : spGet C [.ref st, .int n, .int j] H Q E := ⟨st, wd, pl, rm, en, B, n, i, j, e, z, rfl, S, hi, ha, hn, hz, q⟩
theorem slots_s (S : Sto C H st wd pl rm en B) (hi : B[i]? = some e) (ha : e.al = true) (hn : e.n = n) (q : ∀ l, H l = none → Q (.ref l) (upd H l (.lst (e.s.map V.int)))) : spSlots C [.ref st, .int n] H Q E := ⟨st, wd, pl, rm, en, B, n, i, e, rfl, S, hi, ha, hn, q⟩
theorem setKind_s (S : Sto C H st wd pl rm en B) (hi : B[i]? = some e) (ha : e.al = true) (hn : e.n = n) (q : ∀ H', Sto C H' st wd pl rm en (B.set i { e with k := z }) → KW.Fr [wd] H H' → Q .non H') : spSetKind C [.ref st, .int n, .int z] H Q E := ⟨st, wd, pl, rm, en, B, n, z, i, e, rfl, S, hi, ha, hn, q⟩
theorem put_s (S : Sto C H st wd pl rm en B) (hi : B[i]? = some e) (ha : e.al = true) (hn : e.n = n) (hj : j < e.s.length) (q : ∀ H', Sto C H' st wd pl rm en (B.set i { e with s := e.s.set j z }) → KW.Fr [wd] H H' → Q .non H') : spPut C [.ref st, .int n, .int j, .int z] H Q E := ⟨st, wd, pl, rm, en, B, n, z, i, j, e, rfl, S, hi, ha, hn, hj, q⟩
theorem drop_s (S : Sto C H st wd pl rm en B) (hi : B[i]? = some e) (ha : e.al = true) (hn : e.n = n) (q : ∀ H', Sto C H' st wd pl rm en (B.set i { e with al := false }) → KW.Fr [st, pl] H H' → Q .non H') : spDrop C [.ref st, .int n] H Q E := ⟨st, wd, pl, rm, en, B, n, i, e, rfl, S, hi, ha, hn, q⟩
theorem exchange_s {k : Int} (S : Sto C H st wd pl rm en B) (hB : B.length ≤ 1000000) (hi : B[i]? = some e) (ha : e.al = true) (hn : e.n = n) (hj : B[j]? = some f) (fa : f.al = true) (fn : f.n = k) (q : ∀ H', Sto C H' st wd pl rm en (exch B i j e f) → KW.Fr [wd, pl] H H' → Q .non H') : spExchange C [.ref st, .int n, .int k] H Q E := ⟨st, wd, pl, rm, en, B, n, k, i, j, e, f, rfl, S, hB, hi, ha, hn, hj, fa, fn, q⟩
theorem reached_s {rt : Addr} {R : List Int} (S : Sto C H st wd pl rm en B) (hR : IL H rt R) (hB : (flat B).length ≤ 2000000) (hl : R.length ≤ 1000000) (q : ∀ (p : Addr) (F : List Int) (kvs : KVs) (H' : Hp), H p = none → KW.Fr [] H H' → H' p = some (.dK kvs) → Fnd kvs F → F.Nodup → (∀ n, n ∈ F ↔ Rch B R n) → Q (.ref p) H') : spReached C [.ref st, .ref rt] H Q E := ⟨st, wd, pl, rt, rm, en, B, R, rfl, S, hR, hB, hl, q⟩
theorem wordsOf_s {nu : Addr} {F : List Int} (S : Sto C H st wd pl rm en B) (h : IL H nu F ∨ nu ≠ pl ∧ ∃ kvs, H nu = some (.dK kvs) ∧ Fnd kvs F) (hl : F.length ≤ 1000000) (hF : ∀ n ∈ F, lv B n = true) (q : ∀ H', KW.Fr [] H H' → Q (.int (F.map (wof B)).sum) H') : spWordsOf C [.ref st, .ref nu] H Q E := ⟨st, wd, pl, nu, rm, en, B, F, rfl, S, h, hl, hF, q⟩
end
end ST

set_option Elab.async false
set_option linter.all false
set_option maxRecDepth 100000
set_option maxHeartbeats 4000000
/-! Kw3: sorted(d, key=lambda x: d[x]), d a local dict that the lambda captures -/
namespace KW
open PySem PySem.Spec PyProof.Rows L2 LamX PySem.W
theorem ints_eachIs : ∀ {vs : List Value} {ks : List Int}, IntsAre vs ks → EachIs (fun v (n : Int) => ∃ t, v = Value.int n t) vs ks
  | _, _, .nil => .nil
  | _, _, .cons n t r => .cons ⟨t, rfl⟩ (ints_eachIs r)
theorem eachIs_ints : ∀ {vs : List Value} {ks : List Int}, EachIs (fun v (n : Int) => ∃ t, v = Value.int n t) vs ks → IntsAre vs ks
  | _, _, .nil => .nil
  | _, _, .cons ⟨t, e⟩ r => by subst e; exact .cons _ t (eachIs_ints r)
theorem alike_ints (pv : Int → Int) (ks : List Int) : AllAlike (ks.map fun n => PyData.int (pv n)) := by
  intro d hd d' hd'
  obtain ⟨n, _, rfl⟩ := List.mem_map.mp hd
  obtain ⟨m, _, rfl⟩ := List.mem_map.mp hd'
  rfl
theorem sortable_ints (pv : Int → Int) (ks : List Int) : Sortable (ks.map fun n => PyData.int (pv n)) := by
  refine .inr fun d hd => ?_
  obtain ⟨n, _, rfl⟩ := List.mem_map.mp hd
  exact ⟨fun z => (by cases z), fun xs z => (by cases z)⟩
/-- a lambda is made: at most the table at P changes -/
theorem lam_made {X : Cx} {pins : List (Addr × Obj)} {σ : L2.St} {H : Hp} {s : Shared} {c P : Addr} {params : Arguments} {body : Expr} {scope : Scope} {pos : Pos} {E : Value → Shared → Prop} {Q : Value → Shared → Prop} (I : L2.Inv X pins σ H s) (TB : TabB X.base X.mg c P) (hcode : X.env.code = .ref c)
    (hT : TabS H P (X.env.qual ++ "<lambda>")) (hdef : defaultsOf params X.env = ([], [])) (hfree : ∀ y ∈ scope.names, y.2 = .free → ∃ c, X.env.cells.lookup y.1 = some c)
    (h : ∀ (f c' : Addr) (pm ctv : Value) (H1 : Hp) (s' : Shared), L2.Inv X pins σ H1 s' → KW.Fr [P] H H1 → TabS H1 P (X.env.qual ++ "<lambda>") →
      s'.heap.get? f = some (PySem.W.kla_obj "<lambda>" (X.env.qual ++ "<lambda>") params body scope (cloFrom X.env.cells scope.names []) pm c' ctv) → H1 c' = some (CodeO c' (X.env.qual ++ "<lambda>")) → Q (.ref f) s') :
    wpAny (model X.prog X.w) X.A (eval (.Lambda params body scope pos) X.env) Q E s := by
  obtain ⟨ps, hP, ht, ha⟩ := hT
  have bP := TB.bm.keeps I.bk
  have hP' := I.hok P _ hP
  refine PySem.W.kla_eval hdef ?_
  cases hc : codeAmong pos ps.toList with
  | some cv =>
    obtain ⟨c', rfl, hco⟩ := ha pos cv hc
    exact PySem.W.kla_makeFunctionHit (mg := X.mg) (c := c) (P := P) (ps := ps) (closure_ok hfree) I.ok.glob (I.mod.glob.keeps I.bk) hcode (TB.code.keeps I.bk) hP' ht hc bP fun ctv h' tk hx hsz =>
      h h'.objs.size c' ((X.mg "__name__").getD .none) ctv H _ (I.kept fun b o e => Heap.get?_push_of_some _ (hx b o e)) (Fr.refl H) ⟨ps, hP, ht, ha⟩ (Heap.get?_push_size _ rfl) hco
  | none =>
    refine PySem.W.kla_makeFunction (mg := X.mg) (c := c) (P := P) (ps := ps) (closure_ok hfree) I.ok.glob (I.mod.glob.keeps I.bk) hcode (TB.code.keeps I.bk) hP' ht hc TB.gP bP fun c' ctv h' tk hx hge hlt hrec htb => ?_
    obtain ⟨_, oc, vs, t, e2, hoc, hd, hv⟩ := hrec
    cases e2
    have nC : H c' = none := I.hok.fresh hge
    have fr : KW.Fr [P] H (upd (upd H P (.tbl (ps ++ #[rawInt pos.line, rawInt pos.col, .ref c']))) c' (CodeO c' (X.env.qual ++ "<lambda>"))) := fun b o n e => by
      rw [upd_ne (ne_of_none e nC), upd_ne (by simpa using n)]; exact e
    refine h h'.objs.size c' ((X.mg "__name__").getD .none) ctv _ _ (inv_table (t' := tk) (more := #[rawInt pos.line, rawInt pos.col, .ref c']) I hP (fun b o hb e => Heap.get?_push_of_some _ (hx b o hb e)) (Heap.get?_push_of_some _ htb) hge ⟨oc, vs, t, Heap.get?_push_of_some _ hoc, hd, hv⟩) fr
      ⟨_, by rw [upd_ne (ne_of_none hP nC), upd_same], ?_, fun p' cv hcv => ?_⟩ (Heap.get?_push_size _ rfl) upd_same
    · simpa using PySem.TriplesOk_snoc _ _ _ _ ht
    · rcases among_app _ ht (by simpa using hcv) with z | z
      · obtain ⟨c0, e1, e2⟩ := ha p' cv z
        refine ⟨c0, e1, fr _ _ (fun m => ?_) e2⟩
        have : c0 = P := by simpa using m
        rw [this, hP] at e2
        exact absurd (Option.some.inj e2).symm (codeO_ne ps)
      · exact ⟨c', z, upd_same⟩
/-- the table at P, all of whose code objects bear the name q -/
def tSortLam (P : Addr) (q : Str) (i : Nat) (td : TE) : TE := fun σ H Q => td σ H fun x H1 => ∃ (a : Addr) (kvs : List (Key × V)) (ks : List Int) (pv : Int → Int), x = .ref a ∧ σ[i]? = some (some (.ref a)) ∧ H1 a = some (.dK kvs) ∧ kvs.map (·.1) = ks.map Sum.inl ∧ ks.length ≤ sizeLine ∧ (∀ n ∈ ks, valV kvs (.inl n) = some (.int (pv n))) ∧ TabS H1 P q ∧
  ∀ (H2 : Hp) (ys : List Int) (l : Addr), KW.Fr [P] H1 H2 → TabS H2 P q → H2 l = none → ys.Perm ks → ys.Pairwise (fun u v => pv u ≤ pv v) → Q (.ref l) (upd H2 l (.lst (ys.map V.int)))
theorem k_sortLamG {X : Cx} {c P : Addr} {e : Expr} {dn pn : Str} {i k : Nat} {params : Arguments} {scope : Scope} {td : TE} {p p1 p2 p3 lpos kpos pos : Pos}
    (TB : TabB X.base X.mg c P) (hcode : X.env.code = .ref c) (hr : L2H.RoomH (k + 1) X.A) (hcol : ColD X) (he : PE X e td) (hg : Gl X "sorted") (hm : X.mg "sorted" = none) (hN : X.N[i]? = some dn) (hvis : X.env.scope.names.lookup dn = some .cell)
    (hdef : defaultsOf params X.env = ([], [])) (hbind : ∀ (q : Str) (cl : List (Str × Addr)) (pm cv ctv v : Value), bindArgs (PySem.W.kla_fn "<lambda>" q params (.Subscript (.Name dn p1) (.Name pn p2) p3) scope cl pm cv ctv) ⟨[v], []⟩ = pure [(pn, v)])
    (hk : scope.kind = .function) (hco : scope.isCoroutine = false) (hgen : scope.isGenerator = false) (hnc : ∀ y ∈ scope.names, y.2 ≠ .cell) (hpn : scope.names.lookup pn = some .local) (hdn : scope.names.lookup dn = some .free) (hfree : ∀ y ∈ scope.names, y.2 = .free → y.1 = dn)
    (hd1 : (dn == ("__debug__" : Str)) = false := by decide) (hd2 : (dn == ("__classdict__" : Str)) = false := by decide) (hd3 : (pn == ("__debug__" : Str)) = false := by decide)
    (hst : backTo pos (starEach [e] X.env) = (false, eval e X.env) :: backTo pos (starEach [] X.env) := by rfl) (hpl : (backTo pos (starEach [e] X.env)).any (·.1) = false := by rfl) (hst2 : starEach [e] X.env = (false, eval e X.env) :: starEach [] X.env := by rfl) (ht : ∀ o r, letTemporaryGo (.Name dn p1) o r = pure () := by intro _ _; rfl) :
    PE X (.Call (.Name "sorted" p) [e] [⟨some "key", .Lambda params (.Subscript (.Name dn p1) (.Name pn p2) p3) scope lpos, kpos⟩] pos) (tSortLam P (X.env.qual ++ "<lambda>") i td) := by
  refine ⟨fun pins s σ H Q I h => ?_⟩
  refine wpAny_Call_Name_kw (ld_blt (u := .builtin "sorted") I hg hm (by decide +kernel) ?_ (by decide) (by decide))
  refine PyProof.Rows.callWith_kw (thn ((pa_cons he pa_nil hst2).run pos pins s σ H (fun vs H1 => ∃ (a : Addr) (kvs : List (Key × V)) (ks : List Int) (pv : Int → Int), vs = [.ref a] ∧ σ[i]? = some (some (.ref a)) ∧ H1 a = some (.dK kvs) ∧ kvs.map (·.1) = ks.map Sum.inl ∧ ks.length ≤ sizeLine ∧ (∀ n ∈ ks, valV kvs (.inl n) = some (.int (pv n))) ∧ TabS H1 P (X.env.qual ++ "<lambda>") ∧
      ∀ (H2 : Hp) (ys : List Int) (l : Addr), KW.Fr [P] H1 H2 → TabS H2 P (X.env.qual ++ "<lambda>") → H2 l = none → ys.Perm ks → ys.Pairwise (fun u v => pv u ≤ pv v) → Q (.ref l) (upd H2 l (.lst (ys.map V.int)))) I ?A) fun us s1 ⟨vs, H1, I1, r1, q1⟩ => ?_) hst hpl (by rfl) (by rfl)
  case A =>
    unfold tSortLam at h
    show td σ H _
    have : (fun (x : V) (H1 : Hp) => tNil σ H1 fun vs H2 => ∃ (a : Addr) (kvs : List (Key × V)) (ks : List Int) (pv : Int → Int), x :: vs = [.ref a] ∧ σ[i]? = some (some (.ref a)) ∧ H2 a = some (.dK kvs) ∧ kvs.map (·.1) = ks.map Sum.inl ∧ ks.length ≤ sizeLine ∧ (∀ n ∈ ks, valV kvs (.inl n) = some (.int (pv n))) ∧ TabS H2 P (X.env.qual ++ "<lambda>") ∧
      ∀ (H3 : Hp) (ys : List Int) (l : Addr), KW.Fr [P] H2 H3 → TabS H3 P (X.env.qual ++ "<lambda>") → H3 l = none → ys.Perm ks → ys.Pairwise (fun u v => pv u ≤ pv v) → Q (.ref l) (upd H3 l (.lst (ys.map V.int)))) = fun x H1 => ∃ (a : Addr) (kvs : List (Key × V)) (ks : List Int) (pv : Int → Int), x = .ref a ∧ σ[i]? = some (some (.ref a)) ∧ H1 a = some (.dK kvs) ∧ kvs.map (·.1) = ks.map Sum.inl ∧ ks.length ≤ sizeLine ∧ (∀ n ∈ ks, valV kvs (.inl n) = some (.int (pv n))) ∧ TabS H1 P (X.env.qual ++ "<lambda>") ∧
      ∀ (H2 : Hp) (ys : List Int) (l : Addr), KW.Fr [P] H1 H2 → TabS H2 P (X.env.qual ++ "<lambda>") → H2 l = none → ys.Perm ks → ys.Pairwise (fun u v => pv u ≤ pv v) → Q (.ref l) (upd H2 l (.lst (ys.map V.int))) := by
      funext x H1
      unfold tNil
      simp only [List.cons.injEq, and_true]
    first
      | exact this ▸ h
      | (rw [this]; exact h)
      | exact (congrArg (td σ H) this).symm ▸ h
  obtain ⟨a, kvs, ks, pv, rfl, hs, hd, hks, hz, hpv, hT, q⟩ := q1
  show wpAny _ _ (evalAll ((do let v ← eval (.Lambda params (.Subscript (.Name dn p1) (.Name pn p2) p3) scope lpos) X.env; standAt pos; pure v) :: [])) _ _ s1
  have hhas : ∀ y ∈ scope.names, y.2 = .free → ∃ c, X.env.cells.lookup y.1 = some c := fun y hy e => by
    rw [hfree y hy e]
    exact I.ok.has _ (.inl hvis)
  refine wpAny_evalAll_cons (wpAny_bind (lam_made I1 TB hcode hT hdef hhas fun f c' pm ctv H2 s2 I2 eN hT2 hf hco' => ?_))
  refine wpAny_bind (wpAny_standAt (wpAny_pure ?_))
  refine wpAny_evalAll_nil ?_
  show wpAny _ _ (call (.builtin "sorted") us [(Str.ofString "key", .ref f)]) _ _ s2
  obtain ⟨u, eu, rx⟩ := vals1 r1
  subst eu
  cases rx
  have aP : a ≠ P := fun z => by
    obtain ⟨ps, hP, _⟩ := hT
    rw [z, hP] at hd; cases hd
  have hd2' : H2 a = some (.dK kvs) := eN _ _ (by simpa using aP) hd
  obtain ⟨z0, lo, vs, rel, dd⟩ := dk_rd I2.hok (.inl hd2')
  obtain ⟨ep, hat⟩ := dd.dictAt
  have hkeys : vs.map (·.1) = ks.map Sum.inl := rel.keys.symm.trans hks
  have hl : vs.length = ks.length := by
    have e := congrArg List.length hkeys
    rw [List.length_map, List.length_map] at e
    exact e
  have h16 : vs.length ≤ sizeLine := by rw [hl]; exact hz
  refine PyProof.Rows.call_function_entry_kw PyProof.Rows.kind_sorted PyProof.Rows.plain_sorted PyProof.Rows.entry_sorted (ksk_s1 _ _) ?_
  unfold Builtin.«sorted»
  refine wpAny_bind (m := checkCount "sorted" 1 1 _) (wpAny_pure ?_)
  refine wpAny_bind (hcol pins σ H2 s2 a vs ep _ _ I2 lo hat h16 fun h' tk acc hkp hacc => ?_)
  have hal : acc.toList.length = ks.length := by rw [Array.length_toList, hacc.1, hl]
  have hS : IntsAre acc.toList ks := ints_each hal fun j v e => by
    obtain ⟨k, x, e1, e2⟩ := hacc.2 j v (by rw [← Array.getElem?_toList]; exact e)
    have e3 : (vs.map (·.1))[j]? = some k := by rw [List.getElem?_map, e1]; rfl
    rw [hkeys, List.getElem?_map] at e3
    cases e4 : ks[j]? with
    | none => rw [e4] at e3; cases e3
    | some y =>
      rw [e4] at e3
      have e5 : Sum.inl y = k := Option.some.inj e3
      subst e5
      rcases keyIs_shape (show keyIs (Sum.inl y) v = true from e2) with ⟨i, t, ek, ev⟩ | ⟨z, t, ek, ev⟩
      · cases ek
        exact ⟨y, t, rfl, ev⟩
      · cases ek
  have I3 : L2.Inv X pins σ H2 { s2 with heap := h', toks := tk } := I2.kept hkp
  refine wpAny_bind (wpAny_newList ?_ (by rw [hal]; exact hz))
  have hoL : (h'.push (seqObj "list" acc.toList.toArray 0)).get? h'.objs.size = some (seqObj "list" acc.toList.toArray 0) := Heap.get?_push_size _ rfl
  show wpAny _ _ _ _ _ { s2 with heap := h'.push (seqObj "list" acc.toList.toArray 0), toks := tk }
  have I4 : L2.Inv X pins σ H2 { s2 with heap := h'.push (seqObj "list" acc.toList.toArray 0), toks := tk } := I3.kept (t' := tk) fun b o e => Heap.get?_push_of_some _ e
  have of4 : (h'.push (seqObj "list" acc.toList.toArray 0)).get? f = some (PySem.W.kla_obj "<lambda>" (X.env.qual ++ "<lambda>") params (.Subscript (.Name dn p1) (.Name pn p2) p3) scope (cloFrom X.env.cells scope.names []) pm c' ctv) := Heap.get?_push_of_some _ (hkp _ _ hf)
  obtain ⟨m0, hn0, hl0⟩ := I.loc
  obtain ⟨cA, hcA⟩ : ∃ cA, X.env.cells.lookup dn = some cA := I.ok.has _ (.inl hvis)
  have hcl : (cloFrom X.env.cells scope.names []).lookup dn = some cA := by
    have hy : (dn, NameKind.free) ∈ scope.names := PySem.mem_of_lookup hdn
    obtain ⟨c2, h2⟩ := mem_lookup (cloFrom_has (cells := X.env.cells) (acc := []) hy)
    rcases cloFrom_mem (PySem.mem_of_lookup h2) with hm | ⟨h1, h3⟩
    · cases hm
    · obtain ⟨c1, hc⟩ := hhas _ h1 rfl
      have hc : X.env.cells.lookup dn = some c1 := hc
      rw [hcA] at hc; cases hc
      rw [h2, h3]
      have : X.env.cells.lookup dn = some cA := hcA
      simp [this]
  have fin : ∀ (out : List Value) (h3 : Heap) (tk3 : Nat), KeepsBut h'.objs.size (h'.push (seqObj "list" acc.toList.toArray 0)) h3 → (∃ c, h3.get? h'.objs.size = some (seqObj "list" out.toArray c)) → EachIs (fun v (n : Int) => ∃ t, v = Value.int n t) out (ks.mergeSort (dataLe false fun n => PyData.int (pv n))) →
      EP X pins σ Q (.ref h'.objs.size) { s2 with heap := h3, toks := tk3 } := by
    rintro out h3 tk3 kb ⟨cc, ho⟩ ei
    have g1 := eachIs_ints ei
    have hn4 : H2 h'.objs.size = none := I3.hok.fresh (Nat.le_refl _)
    have hpm : (ks.mergeSort (dataLe false fun n => PyData.int (pv n))).Perm ks := List.mergeSort_perm _ _
    have hlen : ((ks.mergeSort (dataLe false fun n => PyData.int (pv n))).map V.int).length ≤ sizeLine := by
      rw [List.length_map, hpm.length_eq]
      exact hz
    refine ⟨.ref h'.objs.size, upd H2 h'.objs.size (.lst ((ks.mergeSort (dataLe false fun n => PyData.int (pv n))).map V.int)), I3.laid (t' := tk3) (fun b u e => ?_) (Nat.le_refl _)
      (show ObjOk X.prog X.w _ _ _ (.lst _) from ⟨hlen, out, cc, vals_of_ints g1, ho⟩), rfl, q H2 _ _ eN hT2 hn4 hpm ?_⟩
    · exact kb b u (Nat.ne_of_lt (Heap.lt_size e)) (Heap.get?_push_of_some _ e)
    · rw [dataLe_int]
      have := List.pairwise_mergeSort (le := fun a b => decide (pv a ≤ pv b)) (fun a b c h1 h2 => by simp at h1 h2 ⊢; omega) (fun a b => by simp; omega) ks
      exact this.imp fun {u v} h => by simpa using h
  have turn : ∀ (v : Value) (x : Int), (∃ t, v = Value.int x t) → x ∈ ks → ∀ (g : Heap) (tkg : Nat), KeepsBut h'.objs.size (h'.push (seqObj "list" acc.toList.toArray 0)) g →
      wpAny (model X.prog X.w) X.A.in1.in1 (call (.ref f) [v]) (KeyPure (PyData.int (pv x)) { s2 with heap := g, toks := tkg }) (fun _ _ => False) { s2 with heap := g, toks := tkg } := by
    rintro v x ⟨t, rfl⟩ hx g tkg kb
    have keep : ∀ b o, h'.get? b = some o → g.get? b = some o := fun b o e => kb b o (Nat.ne_of_lt (Heap.lt_size e)) (Heap.get?_push_of_some _ e)
    have I5 : L2.Inv X pins σ H2 { s2 with heap := g, toks := tkg } := I3.kept (t' := tkg) keep
    obtain ⟨⟨oc, cvs, ct, hoc, hdc, hvc⟩, _, _⟩ := I5.hok c' _ hco'
    refine wpAny_call (kla_callFunE (A := X.A.in1.in1) hr.depth (keep _ _ (hkp _ _ hf)) rfl hco hgen rfl ⟨c', oc, cvs, ct, rfl, hoc, hdc, hvc⟩ ?_)
    rw [hbind]
    refine wpAny_pure (wpAny_newFunctionEnv hnc (fun y hy => by simp at hy; subst hy; exact hpn) (fun h₁ hns hsb => ⟨I5.nolimit.fresh _ hsb, ?_⟩) hk)
    show codeAny _ _ (.expr _ (PySem.W.envX (X.env.qual ++ "<lambda>") scope g.objs.size f (.ref c') (cloFrom X.env.cells scope.names []))) _ _
    have kp1 : ∀ b o, g.get? b = some o → h₁.get? b = some o := fun b o e => hsb.extBut b o (Nat.ne_of_lt (Heap.lt_size e)) (Heap.get?_push_of_some _ e)
    have I6 : L2.Inv X pins σ H2 { s2 with heap := h₁, toks := tkg + 1 } := I5.kept (t' := tkg + 1) kp1
    obtain ⟨m, hn, hlm⟩ := I6.loc
    obtain ⟨u, r, l⟩ := hlm i dn (.ref a) hN hs (Or.inr (Or.inl hvis))
    cases r
    rcases l with ⟨hk', _⟩ | ⟨_, c3, e', hcell⟩
    · have hk' : X.env.scope.names.lookup dn = some .local := hk'
      rw [hvis] at hk'; cases hk'
    have e' : X.env.cells.lookup dn = some c3 := e'
    rw [hcA] at e'; cases e'
    have hcell : Heap.IsCell h₁ cA (some (.ref a)) := hcell
    obtain ⟨z6, lo6, vs6, rel6, dd6⟩ := dk_rd I6.hok (.inl hd2')
    obtain ⟨w', hw', rw'⟩ := RelO.some_of (v := .int (pv x)) (o := valueAt vs6 (.inl x)) (by rw [← hpv x hx]; exact rel6.val (.inl x))
    obtain ⟨tw, rfl⟩ := rw'
    refine kla_codeExpr (subD_of PySem.F.slot_dict_getitem.lookup (fun _ _ => rfl) (wpAny_Name (wpAny_loadName_free hk hdn hcl hcell (wpAny_Name (wpAny_loadName_local hk hpn hns (v := .int x t) ?L ⟨?T, ?G⟩) hd3) hd2) hd1))
    case L => simp
    case T => exact dd6.mapOf.typeIs
    case G => exact wpAny_getItem_of (show (mixKind X.prog X.w).is (.inl x) (.int x t) = true from kV_is (k := .inl x) (show RelV (V.int x) (.int x t) from ⟨t, rfl⟩)) dd6.mapOf hw' ⟨h₁, _, rfl, kp1, .int _ _⟩
  refine wpAny_bind (wpAny_holding (wpAny_call_entry_kw PyProof.Rows.slot_list_sort ⟨_, hoL, rfl⟩ PyProof.Rows.entry_list_sort ?body (ksk_l1 _ _)))
  case body =>
    rw [ksk_t1]
    refine keyH_tree (kz := ks.map fun n => PyData.int (pv n)) (s := { s2 with heap := h'.push (seqObj "list" acc.toList.toArray 0), toks := tk }) hoL (by rw [List.length_map]; exact hal.symm) (by rw [hal]; exact hz) (alike_ints pv ks) (sortable_ints pv ks) ?_
      (keyH_turns (s := { s2 with heap := h'.push (seqObj "list" acc.toList.toArray 0), toks := tk }) (ints_eachIs hS) turn) fun h3 tk3 out cc kp hD ko => ⟨_, rfl, ?_⟩
    · intro d hd
      obtain ⟨n, _, rfl⟩ := List.mem_map.mp hd
      have := hr.un
      show X.A.units + 1 + 1 + _ < _
      simp only [PyData.depth]
      omega
    · exact wpAny_pure ⟨_, rfl, fin out h3 tk3 kp ⟨cc, hD⟩ (keyedOut_each _ ko (ints_eachIs hS))⟩
theorem k_sortLam {X : Cx} {c P : Addr} {e : Expr} {dn pn : Str} {i k : Nat} {params : Arguments} {scope : Scope} {td : TE} {p p1 p2 p3 lpos kpos pos : Pos}
    (TB : TabB X.base X.mg c P) (hcode : X.env.code = .ref c) (hr : Room (k + 1) X.A) (hcalm : X.calm = true) (he : PE X e td) (hg : Gl X "sorted") (hm : X.mg "sorted" = none) (hN : X.N[i]? = some dn) (hvis : X.env.scope.names.lookup dn = some .cell)
    (hdef : defaultsOf params X.env = ([], [])) (hbind : ∀ (q : Str) (cl : List (Str × Addr)) (pm cv ctv v : Value), bindArgs (PySem.W.kla_fn "<lambda>" q params (.Subscript (.Name dn p1) (.Name pn p2) p3) scope cl pm cv ctv) ⟨[v], []⟩ = pure [(pn, v)])
    (hk : scope.kind = .function) (hco : scope.isCoroutine = false) (hgen : scope.isGenerator = false) (hnc : ∀ y ∈ scope.names, y.2 ≠ .cell) (hpn : scope.names.lookup pn = some .local) (hdn : scope.names.lookup dn = some .free) (hfree : ∀ y ∈ scope.names, y.2 = .free → y.1 = dn)
    (hd1 : (dn == ("__debug__" : Str)) = false := by decide) (hd2 : (dn == ("__classdict__" : Str)) = false := by decide) (hd3 : (pn == ("__debug__" : Str)) = false := by decide)
    (hst : backTo pos (starEach [e] X.env) = (false, eval e X.env) :: backTo pos (starEach [] X.env) := by rfl) (hpl : (backTo pos (starEach [e] X.env)).any (·.1) = false := by rfl) (hst2 : starEach [e] X.env = (false, eval e X.env) :: starEach [] X.env := by rfl) (ht : ∀ o r, letTemporaryGo (.Name dn p1) o r = pure () := by intro _ _; rfl) :
    PE X (.Call (.Name "sorted" p) [e] [⟨some "key", .Lambda params (.Subscript (.Name dn p1) (.Name pn p2) p3) scope lpos, kpos⟩] pos) (tSortLam P (X.env.qual ++ "<lambda>") i td) :=
  k_sortLamG TB hcode (L2H.roomH_of hr) (colD_calm hcalm) he hg hm hN hvis hdef hbind hk hco hgen hnc hpn hdn hfree hd1 hd2 hd3 hst hpl hst2 ht
end KW

set_option Elab.async false
set_option linter.all false
set_option maxRecDepth 100000
set_option maxHeartbeats 4000000
/-! Kw3b: methods whose code object is told; the end with a table -/
namespace KW
open PySem PySem.Spec PyProof.Rows L2 LamX
structure MetAtC (K : Frag) (C : Addr) (m qual : Str) (st : Stmt) (ps : List Str) (c : Addr) : Prop where
  ex : ∃ f, Meth K C m f ∧ ∃ fd, FunD K m qual (defArgs st) (defBody st) (defScope st) [] [] f fd ∧ fd.code = .ref c ∧ Binds K fd ps []
structure DefAtC (K : Frag) (mg : Str → Option Value) (x qual : Str) (st : Stmt) (ps : List Str) (c : Addr) : Prop where
  ex : ∃ (f : Addr) (fd : FuncData), mg x = some (.ref f) ∧ Fun K x qual st f fd ∧ fd.code = .ref c ∧ Binds K fd ps []
section
variable {P : Program} {w : World} {K : Frag} {mg : Str → Option Value} {base : Heap}
theorem MetAtC.ok {C c : Addr} {m qual : Str} {st : Stmt} {N ps : List Str} {k : Nat} {sp : Sp} (D : MetAtC K C m qual st ps c) (cl : Cls K C) (S : FnScope N ps (defScope st)) (len : ∀ vs H Q E, sp vs H Q E → vs.length = ps.length)
    (hbody : ∀ (f : Addr) (A : Around) (outer : List Env) (s : Shared) (H : Hp) (vs : List V) (Q : VK) (E : XK), Room k (A.deeper (envOfC qual (defScope st) s.heap.objs.size f (.ref c))) → sp vs H Q E →
      ∃ t, PSs (cxOf (L2N.CX P w) P w K mg base N qual (defScope st) f (.ref c) A outer s H E) (defBody st) t ∧ t { nx := fun _ H' => Q .non H', rt := Q } (start N vs) H) : CalM P w K mg base (k + 1) C m sp := by
  obtain ⟨f, M, fd, F, hc, hb⟩ := D.ex
  obtain ⟨oc, od, dV, kV, doc, pm, an, cdv, ct, osl, rfl, lk, hcd, _, _⟩ := F.ex
  have hc : cdv = .ref c := hc
  subst hc
  exact ⟨cl, f, _, ps, M, hb, fn_of lk hcd S len fun A outer s H vs Q E hr hsp => hbody f A outer s H vs Q E hr hsp⟩
theorem metAtC_mk {C f c : Addr} {m qual : Str} {st : Stmt} {ps : List Str} {oc : Value} {od an : Option Addr} {osl : Array (Option Value)} {kV doc pm ct : Value} (a : PySem.W.findIn K (.ref C) m = some (some (.ref f))) (fn : PySem.W.isFn K (.ref f) = true) (kp : PySem.W.keepIn K (.ref f) = true)
    (l : K.lookup f = some ⟨oc, od, .func (PySem.W.fnOf m qual (defArgs st) (defBody st) (defScope st) .none kV doc pm an (.ref c) ct), osl⟩) (hc : PySem.W.codeIn K (.ref c) qual = true)
    (hb : ∀ (kV doc pm : Value) (an : Option Addr) (cdv ct : Value) (us : List Value), us.length = ps.length → bindArgs (PySem.W.fnOf m qual (defArgs st) (defBody st) (defScope st) .none kV doc pm an cdv ct) ⟨us, []⟩ = pure (ps.zip us)) : MetAtC K C m qual st ps c := by
  have F : FunD K m qual (defArgs st) (defBody st) (defScope st) [] [] f _ := ⟨⟨oc, od, .none, kV, doc, pm, an, .ref c, ct, osl, rfl, l, hc, .inl ⟨rfl, rfl⟩, .inl rfl⟩, kp⟩
  exact ⟨f, ⟨a, fn, kp⟩, _, F, rfl, F.bindsN hb⟩
/-- the law's promise, a table of code objects at p -/
def sp_law63T (K : Frag) (p : Addr) (q : Str) : Sp := fun vs H Q _ => ∃ (sc : Addr) (ns : List Int), vs = [.ref sc] ∧ SqL K H sc (ns.map .int) ∧ ns.length ≤ 63 ∧ TabS H p q ∧ ∀ H', Q (.bl true) H'
end
theorem walk63T {l : PySem.W.OpenLaw} {k : Nat} {st : Stmt} {q : Program} {loose : List Str} {XP : (Str → Option Value) → Heap → Prop} {YP : World → Heap → Prop} {d : DefRec} {K : Params → PySem.W.Frag} (hn : l.most = some 63) (hdf : d.params.defaults = []) (hd : d.name = "law") (hr : Room k callerA)
    (hY : ∀ (w : World) (h : Heap), YP w h → (K w.params).In h)
    (hb : ∀ (kV doc pm : Value) (an : Option Addr) (cdv ct : Value) (us : List Value), us.length = ["script"].length → bindArgs (PySem.W.fnOf "law" "law" (defArgs st) (defBody st) (defScope st) .none kV doc pm an cdv ct) ⟨us, []⟩ = pure ((["script"] : List Str).zip us))
    (F : ∀ (w : World) (mg : Str → Option Value) (h : Heap), YP w h → (K w.params).In h → h.Ns mainGlobals mg →
      DefAt (K w.params) mg "law" "law" st ["script"] ∧ ∃ (c p : Addr) (qn : Str), h.get? p = some { cls := .none, data := .fields #[] } ∧ (K w.params).lookup p = none ∧ PySem.W.codeHdIn (K w.params) c p = true ∧
        ∀ base f fd, TabB base mg c p → Fun (K w.params) "law" "law" st f fd → FnOk l.prog w (K w.params) mg base (L2N.CX l.prog w) k f fd ["script"] (sp_law63T (K w.params) p qn)) :
    PySem.W.WalkO q loose XP YP l.row.toRowW d [] (fun f vs => PySem.call f vs) := by
  refine walk_ofTs (n := 63) (k := k) (x := "script") (K := K) (CX := fun w => L2N.CX l.prog w) hn (by decide) hdf hr hY ?_ fun _ _ _ _ _ h => CX_none h
  intro w mg fa h Y KX G hmg
  obtain ⟨D, c, p, qn, hT, nT, hC, ok⟩ := F w mg h Y KX G
  obtain ⟨f, fd, hm, Fu, _⟩ := D.ex
  rw [hd, hm] at hmg
  cases hmg
  have Fu' := Fu
  obtain ⟨oc, od, kV, doc, pm, an, cdv, ct, osl, rfl, lk, hcd⟩ := Fu.ex
  refine ⟨_, [(c, p)], sp_law63T (K w.params) p qn, fun z hz => ?_, fun z hz => ?_, fun z hz => ?_, fun s u => .of_eq (hb kV doc pm an cdv ct [u] rfl), fun H a ns hl _ hH hS => ⟨a, ns, rfl, hS, hl, TabS.nil (hH (c, p) (by simp)), fun _ => rfl⟩, fun base _ _ hB => ok base _ _ (hB (c, p) (by simp)) Fu'⟩
  · simp at hz; subst hz; exact hT
  · simp at hz; subst hz; exact nT
  · simp at hz; subst hz; exact PySem.W.codeHd_of_K KX hC
end KW

set_option Elab.async false
set_option linter.all false
set_option maxRecDepth 100000
set_option maxHeartbeats 4000000
/-! StC: closing up -/
namespace ST
open PySem PySem.Spec PyProof.Rows L2 KW LamX
abbrev alv (B : List Blk) : List Blk := B.filter fun e => e.al
theorem nums_alv (B : List Blk) : nums B = (alv B).map fun e => e.n := rfl
theorem lv_alv (B : List Blk) (n : Int) : lv (alv B) n = lv B n := by
  unfold lv alv
  rw [List.any_filter]
  congr 1
  funext e
  cases e.al <;> rfl
theorem mem_alv {B : List Blk} {i : Nat} {e : Blk} (h : (alv B)[i]? = some e) : ∃ j : Nat, B[j]? = some e ∧ e.al = true := by
  have := List.mem_of_getElem? h
  rw [List.mem_filter] at this
  obtain ⟨j, hj⟩ := List.getElem?_of_mem this.1
  exact ⟨j, hj, this.2⟩
theorem Nd.alv {B : List Blk} (N : Nd B) : Nd (alv B) := by
  intro i j e f h1 h2 _ _ hn
  have nd := nums_nodup N
  rw [nums_alv] at nd
  have e1 : ((ST.alv B).map fun e => e.n)[i]? = some e.n := by rw [List.getElem?_map, h1]; rfl
  have e2 : ((ST.alv B).map fun e => e.n)[j]? = some e.n := by rw [List.getElem?_map, h2, hn]; rfl
  exact (List.getElem?_inj (List.getElem?_eq_some_iff.mp e1).1 nd).mp (e1.trans e2.symm)
theorem get_ws {B : List Blk} {i : Nat} {e : Blk} (h : B[i]? = some e) : ((flat B).drop (off B i)).take (e.s.length + 3) = e.ws := by
  rw [flat_at h, List.drop_append, List.drop_eq_nil_of_le (by simp only [off]; omega), List.nil_append]
  have : off B i - (flat (B.take i)).length = 0 := by simp only [off]; omega
  rw [this, List.drop_zero, List.take_append_of_le_length (by rw [Blk.ws_len]; omega), List.take_of_length_le (by rw [Blk.ws_len]; omega)]
/-- the numbers, by their places -/
theorem nums_by {B : List Blk} {pv : Int → Int} (h : ∀ (i : Nat) (e : Blk), B[i]? = some e → e.al = true → pv e.n = (off B i : Nat)) : (nums B).Pairwise fun u v => pv u ≤ pv v := by
  unfold nums
  rw [List.pairwise_map, List.pairwise_filter, List.pairwise_iff_getElem]
  intro i j hi hj hij h1 h2
  rw [h i _ (List.getElem?_eq_getElem hi) h1, h j _ (List.getElem?_eq_getElem hj) h2]
  have := off_lt (List.getElem?_eq_getElem hi) hij
  omega
theorem by_uniq {B : List Blk} {pv : Int → Int} {ys : List Int} (h : ∀ (i : Nat) (e : Blk), B[i]? = some e → e.al = true → pv e.n = (off B i : Nat)) (p : ys.Perm (nums B)) (s : ys.Pairwise fun u v => pv u ≤ pv v) : ys = nums B := by
  refine List.Perm.eq_of_pairwise (le := fun u v => pv u ≤ pv v) (fun x y hx hy h1 h2 => ?_) s (nums_by h) p
  obtain ⟨i, e, hi, ha, rfl⟩ := lv_iff.mp (mem_nums.mp (p.mem_iff.mp hx))
  obtain ⟨j, f, hj, fa, rfl⟩ := lv_iff.mp (mem_nums.mp hy)
  rw [h i e hi ha, h j f hj fa] at h1 h2
  have := off_inj hi hj (by omega)
  subst this
  rw [hi] at hj; cases hj; rfl
theorem lv_take {B : List Blk} (N : Nd B) {i : Nat} {e : Blk} (h : B[i]? = some e) (ha : e.al = true) : lv (B.take i) e.n = false := by
  apply Bool.eq_false_iff.mpr
  intro z
  obtain ⟨j, f, hj, fa, fn⟩ := lv_iff.mp z
  have hj2 : j < i := by
    have := (List.getElem?_eq_some_iff.mp hj).1
    rw [List.length_take] at this; omega
  rw [List.getElem?_take_of_lt hj2] at hj
  have := N j i f e hj h fa ha fn
  omega
theorem flat_le {B : List Blk} : (flat (alv B)).length ≤ (flat B).length := by
  induction B with
  | nil => exact Nat.le_refl _
  | cons e B ih =>
    unfold alv
    rw [List.filter_cons]
    split
    · rw [flat_cons, flat_cons, List.length_append, List.length_append]
      have : (flat (B.filter fun e => e.al)).length ≤ (flat B).length := ih
      omega
    · rw [flat_cons, List.length_append]
      have : (flat (B.filter fun e => e.al)).length ≤ (flat B).length := ih
      omega
theorem flat_take_le {B : List Blk} (i : Nat) : (flat (B.take i)).length ≤ (flat B).length := by
  conv => rhs; rw [← List.take_append_drop i B, flat_app, List.length_append]
  omega
def spCloseUp (C p : Addr) (q : Str) : Sp := fun vs H Q _ => ∃ (st wd pl : Addr) (rm en : Int) (B : List Blk), vs = [.ref st] ∧ Sto C H st wd pl rm en B ∧ TabS H p q ∧ (flat B).length ≤ 2000000 ∧
  ∀ H' wd' pl', Sto C H' st wd' pl' rm en (alv B) → H wd' = none → H pl' = none → KW.Fr [st, p] H H' → TabS H' p q → Q .non H'
theorem _root_.LamX.TabS.new' {H H' : Hp} {p : Addr} {q : Str} {l : List Addr} (t : TabS H p q) (f : KW.Fr l H H') (n : ∀ x ∈ l, (∃ o, H x = some o ∧ (∀ ps, o ≠ .tbl ps) ∧ o ≠ CodeO x q) ∨ H x = none) : TabS H' p q := by
  have key : ∀ b o, H b = some o → ((∃ ps, o = .tbl ps) ∨ o = CodeO b q) → H' b = some o := fun b o e z => by
    refine f b o (fun m => ?_) e
    rcases n b m with ⟨o', e', h1, h2⟩ | e'
    · rw [e] at e'; cases e'
      rcases z with ⟨ps, z⟩ | z
      · exact h1 ps z
      · exact h2 z
    · rw [e] at e'; cases e'
  obtain ⟨ps, h1, h2, h3⟩ := t
  refine ⟨ps, key _ _ h1 (.inl ⟨ps, rfl⟩), h2, fun pos cv hc => ?_⟩
  obtain ⟨c, e1, e2⟩ := h3 pos cv hc
  exact ⟨c, e1, key _ _ e2 (.inr rfl)⟩
/-- no thing of the store, nor a list, is of the table -/
theorem codeO_lst {c : Addr} {q : Str} {xs : List V} : (HO.lst xs) ≠ CodeO c q := fun z => by unfold CodeO at z; cases z
theorem codeO_dK {c : Addr} {q : Str} {kvs : List (Key × V)} : (HO.dK kvs) ≠ CodeO c q := fun z => by unfold CodeO at z; cases z
theorem codeO_ins {c C dx : Addr} {q : Str} {fs : List (Str × V)} : (HO.ins C dx fs) ≠ CodeO c q := fun z => by unfold CodeO at z; cases z
theorem codeO_tup {c : Addr} {q : Str} {xs : List V} : (HO.tup xs) ≠ CodeO c q := fun z => by unfold CodeO at z; cases z
theorem _root_.LamX.TabS.fr0 {H H' : Hp} {p : Addr} {q : Str} (t : TabS H p q) (f : KW.Fr [] H H') : TabS H' p q := LamX.TabS.new' t f (by simp)
theorem _root_.LamX.TabS.ne {H : Hp} {p b : Addr} {q : Str} {o : HO} (t : TabS H p q) (h : H b = some o) (n : ∀ ps, o ≠ .tbl ps) : b ≠ p := fun z => by
  obtain ⟨ps, e, _⟩ := t
  rw [z, e] at h; cases h
  exact n ps rfl
/-- a thing that is no table and no code object -/
def Pln (o : HO) : Prop := (∀ ps, o ≠ .tbl ps) ∧ ∀ c q, o ≠ CodeO c q
theorem pln_lst {xs : List V} : Pln (.lst xs) := ⟨fun ps z => (by cases z), fun c q => codeO_lst⟩
theorem pln_tup {xs : List V} : Pln (.tup xs) := ⟨fun ps z => (by cases z), fun c q => codeO_tup⟩
theorem pln_dK {kvs : List (Key × V)} : Pln (.dK kvs) := ⟨fun ps z => (by cases z), fun c q => codeO_dK⟩
theorem pln_ins {C dx : Addr} {fs : List (Str × V)} : Pln (.ins C dx fs) := ⟨fun ps z => (by cases z), fun c q => codeO_ins⟩
theorem _root_.LamX.TabS.upd {H : Hp} {p b : Addr} {q : Str} {o o' : HO} (t : TabS H p q) (h : H b = some o) (n : Pln o) : TabS (L2.upd H b o') p q :=
  LamX.TabS.new' (l := [b]) t (Fr.upd (by simp)) fun x hx => by
    have : x = b := by simpa using hx
    subst this
    exact .inl ⟨o, h, n.1, n.2 _ _⟩
theorem _root_.LamX.TabS.add {H : Hp} {p b : Addr} {q : Str} {o' : HO} (t : TabS H p q) (h : H b = none) : TabS (L2.upd H b o') p q := t.fr0 (Fr.new h)
theorem _root_.LamX.TabS.frl {H H' : Hp} {p : Addr} {q : Str} {l : List Addr} (t : TabS H p q) (f : KW.Fr l H H') (n : ∀ x ∈ l, ∃ o, H x = some o ∧ Pln o) : TabS H' p q := LamX.TabS.new' t f fun x hx => by
  obtain ⟨o, h, n1, n2⟩ := n x hx
  exact .inl ⟨o, h, n1, n2 _ _⟩
theorem Sto.pln {C : Addr} {H : Hp} {st wd pl : Addr} {rm en : Int} {B : List Blk} (s : Sto C H st wd pl rm en B) : ∀ x ∈ fpS st wd pl, ∃ o, H x = some o ∧ Pln o := by
  obtain ⟨⟨dx, lo, ob, l1⟩, wo, ⟨kvs, pa, ok⟩, nd, nn, wp, sw, sp⟩ := s
  intro x hx
  simp only [List.mem_cons, List.not_mem_nil, or_false] at hx
  rcases hx with rfl | rfl | rfl
  · exact ⟨_, ob, pln_ins⟩
  · exact ⟨_, wo, pln_lst⟩
  · exact ⟨_, pa, pln_dK⟩
end ST
namespace ST
open PySem PySem.Spec PyProof.Rows L2 KW LamX
/-- the blocks with these numbers are dropped -/
def kill (D : List Int) (B : List Blk) : List Blk := B.map fun e => if e.n ∈ D then { e with al := false } else e
theorem kill_nil (B : List Blk) : kill [] B = B := by
  unfold kill
  simp
theorem kill_get {D : List Int} {B : List Blk} {i : Nat} : (kill D B)[i]? = (B[i]?).map fun e => if e.n ∈ D then { e with al := false } else e := by unfold kill; rw [List.getElem?_map]
theorem kill_len (D : List Int) (B : List Blk) : (kill D B).length = B.length := by unfold kill; rw [List.length_map]
theorem flat_kill (D : List Int) (B : List Blk) : flat (kill D B) = flat B := by
  induction B with
  | nil => rfl
  | cons e B ih =>
    have : kill D (e :: B) = (if e.n ∈ D then { e with al := false } else e) :: kill D B := rfl
    rw [this, flat_cons, flat_cons, ih]
    split <;> rfl
theorem kill_set {D : List Int} {B : List Blk} {j : Nat} {e : Blk} (N : Nd B) (h : B[j]? = some e) (ha : e.al = true) (hn : e.n ∉ D) : (kill D B)[j]? = some e ∧ (kill D B).set j { e with al := false } = kill (D ++ [e.n]) B := by
  have h1 : (kill D B)[j]? = some e := by rw [kill_get, h]; simp [hn]
  refine ⟨h1, ?_⟩
  apply List.ext_getElem?
  intro i
  rw [get_set h1, kill_get, kill_get]
  by_cases c : i = j
  · subst c
    rw [if_pos rfl, h]
    simp
  · rw [if_neg c]
    cases hi : B[i]? with
    | none => rfl
    | some f =>
      simp only [Option.map_some]
      by_cases d : f.n = e.n
      · have : f.al = false := by
          cases q : f.al with
          | false => rfl
          | true => exact absurd (N i j f e hi h q ha d) c
        have ff : ({ f with al := false } : Blk) = f := by cases f; simp_all
        rw [ff]
        simp
      · have : (f.n ∈ D ++ [e.n]) ↔ f.n ∈ D := by simp [d]
        simp only [this]
theorem alv_kill {D F : List Int} {B : List Blk} (hD : ∀ n, lv B n = true → (n ∈ D ↔ n ∉ F)) : alv (kill D B) = B.filter fun e => e.al && decide (e.n ∈ F) := by
  have key : ∀ C : List Blk, (∀ e ∈ C, e.al = true → (e.n ∈ D ↔ e.n ∉ F)) → alv (kill D C) = C.filter fun e => e.al && decide (e.n ∈ F) := by
    intro C
    induction C with
    | nil => intro _; rfl
    | cons e C ih =>
      intro hC
      have i1 := ih fun f hf => hC f (List.mem_cons_of_mem _ hf)
      have : kill D (e :: C) = (if e.n ∈ D then { e with al := false } else e) :: kill D C := rfl
      unfold alv at i1 ⊢
      rw [this, List.filter_cons, List.filter_cons, i1]
      cases q : e.al with
      | false => by_cases c : e.n ∈ D <;> simp [c, q]
      | true =>
        have := hC e List.mem_cons_self q
        by_cases c : e.n ∈ D
        · have c2 := this.mp c
          simp [c, c2]
        · have c2 : e.n ∈ F := Decidable.byContradiction fun z => c (this.mpr z)
          simp [c, c2, q]
  exact key B fun e he ha => by
    obtain ⟨i, hi⟩ := List.getElem?_of_mem he
    exact hD e.n (lv_at hi ha)
/-- what is kept: the living ones among F -/
abbrev kept (B : List Blk) (F : List Int) : List Blk := B.filter fun e => e.al && decide (e.n ∈ F)
def spCollect (C p : Addr) (q : Str) : Sp := fun vs H Q _ => ∃ (st wd pl rt : Addr) (rm en : Int) (B : List Blk) (R : List Int), vs = [.ref st, .ref rt] ∧ Sto C H st wd pl rm en B ∧ IL H rt R ∧ TabS H p q ∧ (flat B).length ≤ 2000000 ∧ R.length ≤ 1000000 ∧
  ∀ (F : List Int) (H' : Hp) (wd' pl' : Addr), F.Nodup → (∀ n, n ∈ F ↔ Rch B R n) → Sto C H' st wd' pl' rm en (kept B F) → H wd' = none → H pl' = none → KW.Fr [st, pl, p] H H' → TabS H' p q → Q (.int (((nums B).length : Int) - F.length)) H'
theorem gone_iff {B : List Blk} {F ns : List Int} (hns : ns.Perm (nums B)) (n : Int) (h : lv B n = true) : n ∈ (ns.filter fun m => !decide (m ∈ F)) ↔ n ∉ F := by
  rw [List.mem_filter, hns.mem_iff, mem_nums, h]
  simp
theorem gone_len {B : List Blk} {F ns : List Int} (nF : F.Nodup) (hF : ∀ n ∈ F, lv B n = true) (N : Nd B) (hns : ns.Perm (nums B)) : ((ns.filter fun m => !decide (m ∈ F)).length : Int) = ((nums B).length : Int) - F.length := by
  have h1 : (ns.filter fun m => decide (m ∈ F)).Perm F := (List.perm_ext_iff_of_nodup ((hns.nodup_iff.mpr (nums_nodup N)).sublist List.filter_sublist) nF).mpr fun x => by
    rw [List.mem_filter, hns.mem_iff, mem_nums, decide_eq_true_eq]
    exact ⟨fun h => h.2, fun h => ⟨hF x h, h⟩⟩
  have h2 : ∀ l : List Int, l.length = (l.filter fun m => decide (m ∈ F)).length + (l.filter fun m => !decide (m ∈ F)).length := fun l => by
    induction l with
    | nil => rfl
    | cons x l ih =>
      rw [List.filter_cons, List.filter_cons]
      by_cases c : x ∈ F <;> simp [c] <;> omega
  have h2 := h2 ns
  have h3 := h1.length_eq
  have h4 := hns.length_eq
  omega
end ST
namespace ST
open PySem PySem.Spec PyProof.Rows L2 KW LamX
theorem lv_kept {B : List Blk} {F : List Int} (n : Int) : lv (kept B F) n = (lv B n && decide (n ∈ F)) := by
  apply Bool.eq_iff_iff.mpr
  rw [Bool.and_eq_true, decide_eq_true_eq]
  unfold lv kept
  simp only [List.any_eq_true, List.mem_filter, Bool.and_eq_true, decide_eq_true_eq]
  constructor
  · rintro ⟨e, ⟨h1, h2, h3⟩, h4, h5⟩
    exact ⟨⟨e, h1, h4, h5⟩, h5 ▸ h3⟩
  · rintro ⟨⟨e, h1, h4, h5⟩, h3⟩
    exact ⟨e, ⟨h1, h4, h5 ▸ h3⟩, h4, h5⟩
theorem mem_kept {B : List Blk} {F : List Int} {i : Nat} {e : Blk} (h : (kept B F)[i]? = some e) : ∃ j : Nat, B[j]? = some e ∧ e.al = true ∧ e.n ∈ F := by
  have := List.mem_of_getElem? h
  rw [List.mem_filter, Bool.and_eq_true, decide_eq_true_eq] at this
  obtain ⟨j, hj⟩ := List.getElem?_of_mem this.1
  exact ⟨j, hj, this.2⟩
theorem kept_mem {B : List Blk} {F : List Int} {i : Nat} {e : Blk} (h : B[i]? = some e) (ha : e.al = true) (hn : e.n ∈ F) : ∃ j : Nat, (kept B F)[j]? = some e := by
  have : e ∈ kept B F := by
    rw [List.mem_filter, Bool.and_eq_true, decide_eq_true_eq]
    exact ⟨List.mem_of_getElem? h, ha, hn⟩
  exact List.getElem?_of_mem this
theorem rch_kept {B : List Blk} {R F : List Int} (hF : ∀ n, n ∈ F ↔ Rch B R n) (n : Int) : Rch (kept B F) R n ↔ Rch B R n := by
  constructor
  · intro h
    induction h with
    | root w h1 h2 h3 => rw [lv_kept, Bool.and_eq_true] at h3; exact .root w h1 h2 h3.1
    | step i e w h1 h2 _ h4 h5 h6 ih =>
      rw [lv_kept, Bool.and_eq_true] at h6
      obtain ⟨j, hj, _, _⟩ := mem_kept h1
      exact .step j e w hj h2 ih h4 h5 h6.1
  · intro h
    induction h with
    | root w h1 h2 h3 =>
      refine .root w h1 h2 ?_
      rw [lv_kept, h3, Bool.true_and, decide_eq_true_eq]
      exact (hF _).mpr (.root w h1 h2 h3)
    | step i e w h1 h2 h3 h4 h5 h6 ih =>
      obtain ⟨j, hj⟩ := kept_mem h1 h2 ((hF _).mpr h3)
      refine .step j e w hj h2 ih h4 h5 ?_
      rw [lv_kept, h6, Bool.true_and, decide_eq_true_eq]
      exact (hF _).mpr (.step i e w h1 h2 h3 h4 h5 h6)
theorem kept_same {B : List Blk} {F D : List Int} (h : ∀ n, n ∈ F ↔ n ∈ D) : kept B F = kept B D := by
  unfold kept
  congr 1
  funext e
  simp [h]
theorem kept_kept {B : List Blk} {F D : List Int} (h : ∀ n, n ∈ D ↔ n ∈ F) : kept (kept B F) D = kept B F := by
  unfold kept
  rw [List.filter_filter]
  congr 1
  funext e
  simp [h]
theorem nums_kept {B : List Blk} {F : List Int} (N : Nd B) (nF : F.Nodup) (hF : ∀ n ∈ F, lv B n = true) : (nums (kept B F)).Perm F := by
  have N2 : Nd (kept B F) := by
    intro i j e f h1 h2 e1 f1 hn
    have nd : ((kept B F).map fun e => e.n).Nodup := by
      refine (nums_nodup N).sublist ?_
      unfold nums kept
      refine List.Sublist.map _ ?_
      have : B.filter (fun e => e.al && decide (e.n ∈ F)) = (B.filter fun e => e.al).filter fun e => decide (e.n ∈ F) := by
        rw [List.filter_filter]; congr 1; funext e; cases e.al <;> simp
      rw [this]; exact List.filter_sublist
    have a1 : ((kept B F).map fun e => e.n)[i]? = some e.n := by rw [List.getElem?_map, h1]; rfl
    have a2 : ((kept B F).map fun e => e.n)[j]? = some e.n := by rw [List.getElem?_map, h2, hn]; rfl
    exact (List.getElem?_inj (List.getElem?_eq_some_iff.mp a1).1 nd).mp (a1.trans a2.symm)
  refine (List.perm_ext_iff_of_nodup (nums_nodup N2) nF).mpr fun x => ?_
  rw [mem_nums, lv_kept, Bool.and_eq_true, decide_eq_true_eq]
  exact ⟨fun h => h.2, fun h => ⟨hF x h, h⟩⟩
theorem flat_kept {B : List Blk} {F : List Int} : (flat (kept B F)).length ≤ (flat B).length := by
  induction B with
  | nil => exact Nat.le_refl _
  | cons e B ih =>
    unfold kept at ih ⊢
    rw [List.filter_cons]
    split
    · rw [flat_cons, flat_cons, List.length_append, List.length_append]; omega
    · rw [flat_cons, List.length_append]; omega
theorem lst_out {C : Addr} {H : Hp} {st wd pl p b : Addr} {rm en : Int} {B : List Blk} {q : Str} {xs : List V} (S : Sto C H st wd pl rm en B) (t : TabS H p q) (h : H b = some (.lst xs)) : b ∉ [st, pl, p] := by
  have n3 := t.ne h fun ps z => by cases z
  obtain ⟨⟨dx, lo, ob, l1⟩, wo, ⟨kvs, pa, ok⟩, -, -, -, -, -⟩ := S
  intro z
  simp only [List.mem_cons, List.not_mem_nil, or_false] at z
  rcases z with z | z | z
  · rw [z, ob] at h; cases h
  · rw [z, pa] at h; cases h
  · exact n3 z
/-- the least number that is not in a list -/
structure FreeL (ys : List Int) (f : Int) : Prop where
  pos : 0 ≤ f
  no : f ∉ ys
  all : ∀ i, 0 ≤ i → i < f → i ∈ ys
theorem FreeL.free {B : List Blk} {ys : List Int} {f : Int} (h : FreeL ys f) (e : ∀ n, lv B n = true ↔ n ∈ ys) : Free B f :=
  ⟨h.pos, Bool.eq_false_iff.mpr fun z => h.no ((e f).mp z), fun i h0 h1 => (e i).mpr (h.all i h0 h1)⟩
theorem fullL {ys : List Int} {m : Nat} (h : ∀ i : Int, 0 ≤ i → i < m → i ∈ ys) : m ≤ ys.length := by
  have hn : ((List.range m).map fun i : Nat => (i : Int)).Nodup := by
    rw [List.Nodup, List.pairwise_map]
    exact List.nodup_range.imp fun {a b} h z => h (Int.ofNat.inj z)
  have := List.Nodup.length_le_of_subset hn (l₂ := ys) fun x hx => by
    obtain ⟨i, hi, rfl⟩ := List.mem_map.mp hx
    exact h i (by omega) (by have := List.mem_range.mp hi; omega)
  simpa using this
def spLawFree : Sp := fun vs H Q _ => ∃ (l : Addr) (ys : List Int), vs = [.ref l] ∧ IL H l ys ∧ ys.length ≤ 1000000 ∧ ∀ f, FreeL ys f → Q (.int f) H
theorem collect_s {C p : Addr} {q : Str} {H : Hp} {st wd pl rt : Addr} {rm en : Int} {B : List Blk} {R : List Int} {Q : VK} {E : XK} (S : Sto C H st wd pl rm en B) (hR : IL H rt R) (t : TabS H p q) (h1 : (flat B).length ≤ 2000000) (h2 : R.length ≤ 1000000)
    (k : ∀ (F : List Int) (H' : Hp) (wd' pl' : Addr), F.Nodup → (∀ n, n ∈ F ↔ Rch B R n) → Sto C H' st wd' pl' rm en (kept B F) → H wd' = none → H pl' = none → KW.Fr [st, pl, p] H H' → TabS H' p q → Q (.int (((nums B).length : Int) - F.length)) H') : spCollect C p q [.ref st, .ref rt] H Q E := ⟨st, wd, pl, rt, rm, en, B, R, rfl, S, hR, t, h1, h2, k⟩
end ST
namespace ST
open PySem PySem.Spec PyProof.Rows L2 KW LamX
/-- what Store.snapshot gives out -/
structure Snp (H : Hp) (tp sw sp : Addr) (B : List Blk) : Prop where
  hd : H tp = some (.tup [.ref sw, .ref sp])
  wo : IL H sw (flat B)
  pa : ∃ kvs, H sp = some (.dK kvs) ∧ PlOk kvs B
  nd : Nd B
  nn : ∀ (i : Nat) (e : Blk), B[i]? = some e → e.al = true → 0 ≤ e.n
theorem Snp.fr {H H' : Hp} {tp sw sp : Addr} {B : List Blk} {l : List Addr} (s : Snp H tp sw sp B) (f : KW.Fr l H H') (n : ∀ x ∈ [tp, sw, sp], x ∉ l) : Snp H' tp sw sp B := by
  obtain ⟨hd, wo, ⟨kvs, pa, ok⟩, nd, nn⟩ := s
  exact ⟨f _ _ (n _ (by simp)) hd, f _ _ (n _ (by simp)) wo, ⟨kvs, f _ _ (n _ (by simp)) pa, ok⟩, nd, nn⟩
theorem Snp.there {H : Hp} {tp sw sp : Addr} {B : List Blk} (s : Snp H tp sw sp B) : ∀ x ∈ [tp, sw, sp], ∃ o, H x = some o := by
  obtain ⟨hd, wo, ⟨kvs, pa, ok⟩, nd, nn⟩ := s
  intro x hx
  simp only [List.mem_cons, List.not_mem_nil, or_false] at hx
  rcases hx with rfl | rfl | rfl
  · exact ⟨_, hd⟩
  · exact ⟨_, wo⟩
  · exact ⟨_, pa⟩
def spSnapshot (C : Addr) : Sp := fun vs H Q _ => ∃ (st wd pl : Addr) (rm en : Int) (B : List Blk), vs = [.ref st] ∧ Sto C H st wd pl rm en B ∧
  ∀ tp sw sp H', H tp = none → H sw = none → H sp = none → Snp H' tp sw sp B → KW.Fr [] H H' → Q (.ref tp) H'
def spRestore (C : Addr) : Sp := fun vs H Q _ => ∃ (st wd pl tp sw sp : Addr) (rm en : Int) (B B' : List Blk), vs = [.ref st, .ref tp] ∧ Sto C H st wd pl rm en B ∧ Snp H tp sw sp B' ∧
  ∀ H' wd' pl', Sto C H' st wd' pl' rm en B' → H wd' = none → H pl' = none → KW.Fr [st] H H' → Q .non H'
end ST

set_option Elab.async false
set_option linter.all false
set_option maxRecDepth 100000
set_option maxHeartbeats 4000000
/-! Kw4: own defs called within an except suite -/
namespace KW
open PySem PySem.Spec PyProof.Rows L2
structure CalH (P : Program) (w : World) (K : Frag) (mg : Str → Option Value) (base : Heap) (k : Nat) (x : Str) (sp : Sp) : Prop where
  ex : ∃ (f : Addr) (fd : FuncData) (ps : List Str), mg x = some (.ref f) ∧ PySem.W.keepIn K (.ref f) = true ∧ Binds K fd ps [] ∧ L2H.FnH P w K mg base (L2N.CX P w) k f fd ps sp
section
variable {P : Program} {w : World} {K : Frag} {mg : Str → Option Value} {base : Heap}
theorem DefAt.okH {x qual : Str} {st : Stmt} {N ps : List Str} {k : Nat} {sp : Sp} (D : DefAt K mg x qual st ps) (S : FnScope N ps (defScope st)) (len : ∀ vs H Q E, sp vs H Q E → vs.length = ps.length)
    (hbody : ∀ (f : Addr) (cdv : Value) (A : Around) (outer : List Env) (s : Shared) (H : Hp) (vs : List V) (Q : VK) (E : XK) (pp : Addr × Obj), L2H.RoomH k (A.deeper (envOfC qual (defScope st) s.heap.objs.size f cdv)) → sp vs H Q E →
      ∃ t, PSs (L2H.cxH (L2N.CX P w) P w K mg base N qual (defScope st) f cdv A outer s H E pp) (defBody st) t ∧ t { nx := fun _ H' => Q .non H', rt := Q } (start N vs) H) : CalH P w K mg base (k + 1) x sp := by
  obtain ⟨f, fd, hm, F, hb⟩ := D.ex
  refine ⟨f, fd, ps, hm, F.kp, hb, ?_⟩
  obtain ⟨oc, od, kV, doc, pm, an, cdv, ct, osl, rfl, lk, hcd⟩ := F.ex
  exact L2H.fn_ofH lk hcd S len fun A outer s H vs Q E pp _ hr hsp => hbody f cdv A outer s H vs Q E pp hr hsp
end
section
variable {X : Cx} {k : Nat} {x : Str} {sp : Sp} {p pos : Pos} {e : Expr} {es : List Expr} {t : TA}
theorem kcH {a : Addr} {oe : Obj} {cls : Value} {d : Option Addr} {pn : List (Addr × Obj)} (hz : L2N.Zn cls d oe) (hf : ∃ vs, oe.data = .fields vs) (c : CalH X.prog X.w X.K X.mg X.base k x sp) (hr : Room k X.A) (ha : PA (X.suite a ((a, oe) :: pn)) (e :: es) t)
    (hg : Gl X x := by rfl) (hdb : (x == ("__debug__" : Str)) = false := by decide)
    (he : starEach (e :: es) X.env = (false, eval e X.env) :: starEach es X.env := by rfl) (hpl : (backTo pos (starEach es X.env)).any (·.1) = false := by rfl) : PE (X.suite a ((a, oe) :: pn)) (.Call (.Name x p) (e :: es) [] pos) (uCall sp t) := by
  obtain ⟨f, fd, ps, hm, hk, hb, F⟩ := c.ex
  obtain ⟨vs, hv⟩ := hf
  exact L2H.pe_callH (X := X.suite a ((a, oe) :: pn)) (E := fun _ => E0) F ⟨hr.dp, hr.un⟩ ⟨(a, oe), ⟨rfl, vs, hv, hz.2.2 vs hv⟩, List.mem_cons_self ..⟩ hg hm hk hb (fun _ => passAt0) ha hdb he hpl
end
end KW
namespace L2H
open PySem PySem.Spec PyProof.Rows L2
theorem RoomH.units {k : Nat} {A : Around} (r : RoomH k A) : A.units + 64 < cLine := by have := r.un; omega
end L2H

set_option Elab.async false
set_option linter.all false
set_option maxRecDepth 100000
set_option maxHeartbeats 4000000
/-! Kw7: a try with several clauses, each with a name or without -/
namespace KW
open PySem PySem.Spec PyProof.Rows L2
/-- a clause: the name's slot (if there is one), the class, the suite -/
structure Cl where
  i : Option Nat
  c : Value
  ts : Addr → Value → Option Addr → TS
def wCl (K : Frag) (Wout : WX) (D : Ends) : List Cl → WX
  | [] => Wout
  | k :: r => fun cls d σ H => ∃ b, PySem.W.exmOne K cls k.c = some b ∧
      (b = true → ∀ a, H a = none → match k.i with
        | none => k.ts a cls d D σ H
        | some i => k.ts a cls d { nx := fun σ' H' => D.nx (σ'.set i none) H', rt := D.rt, bk := fun σ' H' => D.bk (σ'.set i none) H', ct := fun σ' H' => D.ct (σ'.set i none) H' } (σ.set i (some (.ref a))) H) ∧
      (b = false → wCl K Wout D r cls d σ H)
def suBk (k : Nat) : Stmt → List Stmt | .Try _ hs _ _ _ => (match hs[k]? with | some (.ExceptHandler _ _ b _) => b | _ => []) | _ => []
def SuOk (X : Cx) (b : List Stmt) (ts : Addr → Value → Option Addr → TS) : Prop := ∀ (a : Addr) (oe : Obj) (cls : Value) (d : Option Addr) (pn : List (Addr × Obj)), L2N.Zn cls d oe → (∃ vs, oe.data = .fields vs) → PSs (X.suite a ((a, oe) :: pn)) b (ts a cls d)
inductive Cls7 (X : Cx) : List ExceptHandler → List Cl → Prop
  | nil : Cls7 X [] []
  | bare {x : Str} {c : Value} {ts : Addr → Value → Option Addr → TS} {b₀ : Stmt} {su : List Stmt} {np p : Pos} {hs : List ExceptHandler} {l : List Cl} (hc : Names X x c) (hsu : SuOk X (b₀ :: su) ts) (r : Cls7 X hs l) :
      Cls7 X (.ExceptHandler (some (.Name x np)) none (b₀ :: su) p :: hs) (⟨none, c, ts⟩ :: l)
  | named {x n : Str} {c : Value} {i : Nat} {ts : Addr → Value → Option Addr → TS} {b₀ : Stmt} {su : List Stmt} {np p : Pos} {hs : List ExceptHandler} {l : List Cl} (hN : X.N.Nodup) (hi : X.N[i]? = some n) (hn : X.env.kindOf n = some .local) (hc : Names X x c) (hsu : SuOk X (b₀ :: su) ts) (r : Cls7 X hs l) :
      Cls7 X (.ExceptHandler (some (.Name x np)) (some n) (b₀ :: su) p :: hs) (⟨some i, c, ts⟩ :: l)
section
variable {K : Frag} {W : WX} {D : Ends} {c : Value} {ts : Addr → Value → Option Addr → TS} {r : List Cl} {cls : Value} {d : Option Addr} {σ : L2.St} {H : Hp} {i : Nat}
theorem cl_no {k : Cl} (h : PySem.W.exmOne K cls k.c = some false) (q : wCl K W D r cls d σ H) : wCl K W D (k :: r) cls d σ H := ⟨false, h, fun z => absurd z Bool.false_ne_true, fun _ => q⟩
theorem cl_yes (h : PySem.W.exmOne K cls c = some true) (q : ∀ a, H a = none → ts a cls d D σ H) : wCl K W D (⟨none, c, ts⟩ :: r) cls d σ H := ⟨true, h, fun _ => q, fun z => absurd z.symm Bool.false_ne_true⟩
theorem cl_yesN (h : PySem.W.exmOne K cls c = some true) (q : ∀ a, H a = none → ts a cls d { nx := fun σ' H' => D.nx (σ'.set i none) H', rt := D.rt, bk := fun σ' H' => D.bk (σ'.set i none) H', ct := fun σ' H' => D.ct (σ'.set i none) H' } (σ.set i (some (.ref a))) H) : wCl K W D (⟨some i, c, ts⟩ :: r) cls d σ H := ⟨true, h, fun _ => q, fun z => absurd z.symm Bool.false_ne_true⟩
end
section
variable {X : Cx} {body : List Stmt} {h₀ : ExceptHandler} {hs : List ExceptHandler} {l : List Cl} {pos : Pos} {tb : WX → TS} {Wo : WX}
theorem ps_try7 (st : X.stack = X.env :: X.outer) (fr : X.env.frame = some X.env.locals) (tk : L2N.Takes X Wo)
    (hb : ∀ (W : WX) (pn : List (Addr × Obj)) (xe : Value → Shared → Prop), L2N.Takes (X.tr pn xe) W → PassesOwn (model X.prog X.w) X.A X.env xe → PSs (X.tr pn xe) body (tb W))
    (hh : Cls7 X (h₀ :: hs) l) : PS X (.Try body (h₀ :: hs) [] [] pos) (fun D σ H => tb (wCl X.K Wo D l) D σ H) := by
  refine ⟨fun pins s σ H D I q => ?_⟩
  have okX := I.ok
  have frs3 : X.A.frames = some (X.env :: X.outer) := by rw [okX.frames, st]
  refine wpAny_Try_except (wpAny_mono ((hb (wCl X.K Wo D l) (X.pn ++ pins) (fun e s₁ => wpAny (model X.prog X.w) X.A (noteFrame e X.env) (fun _ s₂ => wpAny (model X.prog X.w) X.A (setFlight e none)
    (fun _ s₃ => wpAny (model X.prog X.w) X.A (handleBy e X.env (h₀ :: hs)) (SP X pins D) X.xe s₃) X.xe s₂) X.xe s₁) (fun u t xx => ?_) PassesOwn.looking).run [] s σ H D (I.toTry _) q) (fun f t sp => ?_) (fun _ _ z => z))
  rotate_left
  · match f, sp with
    | .next, ⟨τ, G, J, z⟩ => exact wpAny_execs_nil ⟨τ, G, J.ofTry okX, z⟩
    | .brk, ⟨τ, G, J, z⟩ => exact ⟨τ, G, J.ofTry okX, z⟩
    | .cont, ⟨τ, G, J, z⟩ => exact ⟨τ, G, J.ofTry okX, z⟩
    | .ret u, ⟨v, τ, G, J, r, z⟩ => exact ⟨v, τ, G, J.ofTry okX, r, z⟩
  obtain ⟨a, B, sI, pn1, τ, G, cls, d, rfl, J0, nb, up, sky, na, os, ag, w⟩ := xx
  have J1 : Inv X pins τ G sI := J0.ofTry okX
  rw [st] at sky
  show wpAny (model X.prog X.w) X.A (noteFrame (.ref a) X.env) _ _ _
  refine L2N.Sky.land L2N.Zn.steady frs3 fr sky fun h3 fl up3 => ?_
  have J3 : Inv X pins τ G { t with heap := h3 } := J1.landed nb fl.1 (up.trans up3) os ag
  obtain ⟨oe, vs, he, hz, hd⟩ := fl.there
  have off : a ∉ frs (X.env :: X.outer) := fun m => by
    obtain ⟨_, o1, e1, nf⟩ := fl.2.2.1.mem m
    rw [he] at e1
    cases e1
    exact nf _ hd
  have offL : a ≠ X.env.locals := fun z => off (List.mem_filterMap.mpr ⟨X.env, List.mem_cons_self, by rw [fr, z]⟩)
  have offS : a ∉ X.fs := fun m => by
    obtain ⟨e, m1, m2⟩ := List.mem_filterMap.mp m
    exact off (List.mem_filterMap.mpr ⟨e, List.mem_cons_of_mem _ m1, m2⟩)
  have Su := J3.suite he hd na offL offS
  have all : ∀ {k : List ExceptHandler} {m : List Cl}, Cls7 X k m → wCl X.K Wo D m cls d τ G → wpAny (model X.prog X.w) X.A (handleBy (.ref a) X.env k) (SP X pins D) X.xe { t with heap := h3 } := by
    intro k m hk
    have tst : ∀ {x : Str} {np : Pos} {c : Value} {b : Bool} {P1 : Value → Shared → Prop} {E1 : Value → Shared → Prop}, Names X x c → P1 c { t with heap := h3 } → wpAny (model X.prog X.w) (X.A.mark (some (.ref a))) (eval (.Name x np) X.env) P1 E1 { t with heap := h3 } := fun {x np c b P1 E1} hc z => by
      obtain ⟨g1, g2, g3⟩ := hc
      rcases g3 with g3 | ⟨g3, g4, g5⟩
      · exact ld_glob (X := X.suite a ((a, oe) :: (X.pn ++ pins))) Su g1 g3 z g2
      · exact ld_blt (X := X.suite a ((a, oe) :: (X.pn ++ pins))) Su g1 g3 g4 z g5 g2
    have LT : PySem.W.Looks (model X.prog X.w) h3 (typeOf (.ref a)) cls := fun _ _ _ _ kk z => wpAny_typeOf_ref (kk _ _ he) (by rw [hz.1]; exact z)
    induction hk with
    | nil =>
      intro w
      refine wpAny_handleBy_nil ?_
      obtain ⟨_, _, _, o2, v2, T2, oT, t2, e2, z2, d2, g2, r2⟩ := id fl
      unfold PySem.passOn
      refine wpAny_bind (wpAny_field e2 d2 g2 ?_)
      rw [if_neg (by simp)]
      have out : wpAny (model X.prog X.w) X.A (setFlight (.ref a) X.env.frame) (fun _ s4 => wpAny (model X.prog X.w) X.A (throw (.ref a) : Sem Flow) (SP X pins D) X.xe s4) X.xe { t with heap := h3 } := by
        rw [fr]
        refine HandSPX.setFlight_upZ fl fun h4 hh4 up4 => wpAny_throw (tk _ _ ?_)
        exact ⟨a, B, sI, pins, τ, G, cls, d, rfl, J1, nb, (up.trans up3).trans up4, .inr (.inr (by rw [st]; exact hh4)), na, os, ag, w⟩
      first
        | exact wpAny_bind (wpAny_pure (wpAny_bind out))
        | exact wpAny_bind out
    | @bare x c ts b₀ su np p hs2 l2 hc hsu r ih =>
      intro w
      obtain ⟨b, hb1, yes, no⟩ := w
      refine wpAny_handleBy_cons (codeAny_handlers_test ?_) (by intro q; cases q)
      refine tst (b := b) hc ((PySem.W.exm_one (M := model X.prog X.w) J3.kIn LT hb1).here ?_)
      match b with
      | false => exact ih (no rfl)
      | true =>
        refine codeAny_handlers_suite (HandSPX.lands_againZ fl fun h4 fl4 up4 => ?_)
        have J4 : Inv X pins τ G { t with heap := h4 } := J1.landed nb fl4.1 ((up.trans up3).trans up4) os ag
        obtain ⟨o4, v4, e4, z4, d4⟩ := fl4.there
        refine wpAny_mono ((hsu a o4 cls d (X.pn ++ pins) z4 ⟨_, d4⟩).run [] _ _ G _ (J4.suite e4 d4 na offL offS) (yes rfl a na)) (fun f s6 z => ?_) (fun _ _ z => z.elim)
        match f, z with
        | .next, ⟨_, _, S6, z⟩ => exact ⟨_, _, S6.unsuite okX, z⟩
        | .brk, ⟨_, _, S6, z⟩ => exact ⟨_, _, S6.unsuite okX, z⟩
        | .cont, ⟨_, _, S6, z⟩ => exact ⟨_, _, S6.unsuite okX, z⟩
        | .ret u, ⟨_, _, _, S6, r6, z⟩ => exact ⟨_, _, _, S6.unsuite okX, r6, z⟩
    | @named x n c i ts b₀ su np p hs2 l2 hN hi hn hc hsu r ih =>
      intro w
      obtain ⟨b, hb1, yes, no⟩ := w
      refine wpAny_handleBy_cons (codeAny_handlers_test ?_) (by intro q; cases q)
      refine tst (b := b) hc ((PySem.W.exm_one (M := model X.prog X.w) J3.kIn LT hb1).here ?_)
      match b with
      | false => exact ih (no rfl)
      | true =>
        refine codeAny_handlers_suite_as (HandSPX.lands_againZ fl fun h4 fl4 up4 => ?_)
        have J4 : Inv X pins τ G { t with heap := h4 } := J1.landed nb fl4.1 ((up.trans up3).trans up4) os ag
        obtain ⟨o4, v4, e4, z4, d4⟩ := fl4.there
        refine store_ok (X := X.suite a ((a, o4) :: (X.pn ++ pins))) (v := .ref a) (J4.suite e4 d4 na offL offS) hN hi (.inl hn) rfl (fun s5 S5 => ?_) (.inr hn)
        refine wpAny_mono ((hsu a o4 cls d (X.pn ++ pins) z4 ⟨_, d4⟩).run [] s5 _ G _ S5 (yes rfl a na)) (fun f s6 z => ?_) (fun _ _ z => z.elim)
        have fin : ∀ {σ6 : L2.St} {H6 : Hp} {Q : Shared → Prop}, Inv (X.suite a ((a, o4) :: (X.pn ++ pins))) [] σ6 H6 s6 → (∀ s7, Inv X pins (σ6.set i none) H6 s7 → Q s7) → wpAny (model X.prog X.w) X.A (do bindName X.env n .none; unbindBehindTheSuite X.env n p) (fun _ s7 => Q s7) X.xe s6 := fun S6 z => gone_ok (S6.unsuite okX) hN hi hn z
        match f, z with
        | .next, ⟨_, _, S6, z⟩ => exact fin S6 fun _ J7 => ⟨_, _, J7, z⟩
        | .brk, ⟨_, _, S6, z⟩ => exact fin S6 fun _ J7 => ⟨_, _, J7, z⟩
        | .cont, ⟨_, _, S6, z⟩ => exact fin S6 fun _ J7 => ⟨_, _, J7, z⟩
        | .ret u, ⟨_, _, _, S6, r6, z⟩ => exact fin S6 fun _ J7 => ⟨_, _, _, J7, r6, z⟩
  exact all hh w
end
end KW

set_option Elab.async false
set_option linter.all false
set_option maxRecDepth 100000
set_option maxHeartbeats 4000000
/-! Kw8: for over a locked dict's keys, d[y] of a locked dict, a def under a second name, data compared -/
namespace KW
open PySem PySem.Spec PyProof.Rows L2
section
variable {X : Cx} {o i e value : Expr} {pos pos' tpos : Pos} {td ty tv : TE}
def uDGetF : V → V → Hp → VK → Prop
  | .ref a, .int i, H, Q => ∃ ob kvs v, H a = some (.frz ob (.dK kvs)) ∧ valV kvs (.inl i) = some v ∧ Q v H
  | _, _, _, _ => False
theorem uDGetF_of {x y : V} {H2 : Hp} {Q : VK} (q : uDGetF x y H2 Q) : ∃ a v, x = .ref a ∧ DGet H2 a y (some v) ∧ Q v H2 := by
  unfold uDGetF at q
  split at q
  · obtain ⟨ob, kvs, v, h1, h2, q⟩ := q
    exact ⟨_, v, rfl, .inl ⟨kvs, .inl _, .inr ⟨ob, h1⟩, rfl, h2.symm⟩, q⟩
  · exact q.elim
def tDGF (td ty : TE) : TE := fun σ H Q => td σ H fun x H1 => ty σ H1 fun y H2 => uDGetF x y H2 Q
theorem tDGF_eq {σ : L2.St} {H : Hp} {Q : VK} : tDGF td ty σ H Q = td σ H fun x H1 => ty σ H1 fun y H2 => uDGetF x y H2 Q := rfl
theorem k_dgetF (hu : X.A.units + 1 < cLine) (ho : PE X o td) (hi : PE X i ty) (hs : NoSl i := by intro _ _; rfl) : PE X (.Subscript o i pos) (tDGF td ty) := by
  refine ⟨fun pins s σ H Q I h => ?_⟩
  refine subD_of PySem.F.slot_dict_getitem.lookup hs (thn (ho.run pins s σ H _ I h) fun u s1 ⟨x, H1, I1, rx, q1⟩ => thn (hi.run pins s1 σ H1 _ I1 q1) fun iv s2 ⟨y, H2, I2, ry, q2⟩ => ?_)
  obtain ⟨a, v, ex, g, q5⟩ := uDGetF_of q2
  subst ex
  obtain rfl : u = Value.ref a := rx
  exact ⟨dict_typeIs I2 g, d_getItem hu I2 g ry fun w' s3 I3 rw' => ⟨v, H2, I3, rw', q5⟩⟩
end
theorem uDGetF_e1 {a : Addr} {i : Int} {H : Hp} {Q : VK} : uDGetF (.ref a) (.int i) H Q = (∃ ob kvs v, H a = some (.frz ob (.dK kvs)) ∧ valV kvs (.inl i) = some v ∧ Q v H) := rfl
theorem dgetF_i {a : Addr} {ob : Obj} {kvs : List (Key × V)} {v : V} {i : Int} {H : Hp} {Q : VK} (h : H a = some (.frz ob (.dK kvs))) (hv : valV kvs (.inl i) = some v) (q : Q v H) : uDGetF (.ref a) (.int i) H Q := ⟨ob, kvs, v, h, hv, q⟩
/-- for over the keys of a locked dict -/
theorem for_pk {d : Addr} {o : Obj} {kvs : List (Key × V)} {ks : List Int} {g : TG} {tb : TS} {D : Ends} {σ : L2.St} {H : Hp} (hk : kvs.map (·.1) = ks.map Sum.inl) (Pv : Nat → L2.St → Hp → Prop) (h0 : Pv 0 σ H)
    (hl : ∀ i σ H, i ≤ ks.length → Pv i σ H → H d = some (.frz o (.dK kvs)))
    (hs : ∀ i x σ H, ks[i]? = some x → Pv i σ H → g (.int x) σ H fun σ2 H2 => tb { D with nx := Pv (i + 1), ct := Pv (i + 1), bk := D.nx } σ2 H2) (hd : ∀ σ H, Pv ks.length σ H → D.nx σ H) : forK (Itk d o kvs) g tb D σ H := by
  have hle : kvs.length = ks.length := by
    have := congrArg List.length hk
    rwa [List.length_map, List.length_map] at this
  refine ⟨fun i m σ H => m = ks.length - i ∧ i ≤ ks.length ∧ Pv i σ H, ⟨ks.length, by simp, Nat.zero_le _, h0⟩, ?_⟩
  rintro i m σ H ⟨rfl, hi, p⟩
  have q := hl i σ H hi p
  by_cases hlt : i < ks.length
  · refine .inr ⟨⟨q, by omega⟩, Pv (i + 1), fun σ' H' p' => ⟨ks.length - (i + 1), by omega, rfl, hlt, p'⟩, fun x H' y => ?_⟩
    obtain ⟨e, k, v, hkv, rfl⟩ := y
    subst e
    have e3 : (kvs.map (·.1))[i]? = some k := by rw [List.getElem?_map, hkv]; rfl
    rw [hk, List.getElem?_map] at e3
    obtain ⟨x, hx⟩ : ∃ x, ks[i]? = some x := ⟨_, List.getElem?_eq_getElem hlt⟩
    rw [hx] at e3
    have e5 : Sum.inl x = k := Option.some.inj e3
    subst e5
    exact hs i x _ _ hx p
  · have e : i = ks.length := by omega
    subst e
    exact .inl ⟨⟨q, by omega⟩, hd σ H p⟩
theorem Fr.unl {l : List Addr} {H H' : Hp} {d : Addr} {u : HO} (h : H d = some u) (f : KW.Fr (d :: l) H H') : KW.Fr l H (L2.upd H' d u) := fun b o n e => by
  by_cases c : b = d
  · subst c; rw [upd_same, ← h]; exact e
  · rw [upd_ne c]
    exact f b o (by simp [c, n]) e
theorem Fr.lock {l : List Addr} {H H' : Hp} {d : Addr} {u v : HO} (h : H d = some u) (f : KW.Fr l (L2.upd H d v) H') : KW.Fr (d :: l) H H' := fun b o n e => by
  have c : b ≠ d := fun z => n (by simp [z])
  exact f b o (fun z => n (by simp [z])) (by rw [upd_ne c]; exact e)
theorem Fr.atN {H H' : Hp} {l : Addr} {o : HO} (f : KW.Fr [] H H') (h : H l = Option.none) : KW.Fr [] H (L2.upd H' l o) := fun b u n e => by
  rw [upd_ne (ne_of_none e h)]; exact f b u n e
theorem ixI {n j : Nat} {i : Int} (h : i = j) (hj : j < n) : ixN n i = some j := by
  subst h; unfold ixN; rw [if_pos (by omega), if_pos (by omega)]; rfl
theorem set_i {H : Hp} {p : Addr} {xs : List Int} {k z : Int} {j : Nat} {Q : Hp → Prop} (h : H p = some (.lst (xs.map V.int))) (e : k = j) (hj : j < xs.length) (q : Q (upd H p (.lst ((xs.set j z).map V.int)))) : uSet (.ref p) (.int k) (.int z) H Q :=
  set_l h (ixI e (by rw [List.length_map]; exact hj)) (by rw [← List.map_set]; exact q)
/-- a def under a second name -/
structure DefAtA (K : Frag) (mg : Str → Option Value) (al x qual : Str) (st : Stmt) (ps : List Str) : Prop where
  ex : ∃ (f : Addr) (fd : FuncData), mg al = some (.ref f) ∧ Fun K x qual st f fd ∧ Binds K fd ps []
section
variable {P : Program} {w : World} {K : Frag} {mg : Str → Option Value} {base : Heap}
theorem DefAtA.ok {al x qual : Str} {st : Stmt} {N ps : List Str} {k : Nat} {sp : Sp} (D : DefAtA K mg al x qual st ps) (S : FnScope N ps (defScope st)) (len : ∀ vs H Q E, sp vs H Q E → vs.length = ps.length)
    (hbody : ∀ (f : Addr) (cdv : Value) (A : Around) (outer : List Env) (s : Shared) (H : Hp) (vs : List V) (Q : VK) (E : XK), Room k (A.deeper (envOfC qual (defScope st) s.heap.objs.size f cdv)) → sp vs H Q E →
      ∃ t, PSs (cxOf (L2N.CX P w) P w K mg base N qual (defScope st) f cdv A outer s H E) (defBody st) t ∧ t { nx := fun _ H' => Q .non H', rt := Q } (start N vs) H) : Cal P w K mg base (k + 1) al sp := by
  obtain ⟨f, fd, hm, F, hb⟩ := D.ex
  refine ⟨f, fd, ps, hm, F.kp, hb, ?_⟩
  obtain ⟨oc, od, kV, doc, pm, an, cdv, ct, osl, rfl, lk, hcd⟩ := F.ex
  exact fn_of lk hcd S len fun A outer s H vs Q E hr hsp => hbody f cdv A outer s H vs Q E hr hsp
theorem defAtA_mk {al x qual : Str} {st : Stmt} {ps : List Str} {h : Heap} {f : Addr} {oc : Value} {od an : Option Addr} {osl : Array (Option Value)} {kV doc pm cdv ct : Value}
    (X : K.In h) (G : h.Ns mainGlobals mg) (a : PySem.W.nsIn K mainGlobals al = some (some (.ref f)))
    (l : K.lookup f = some ⟨oc, od, .func (PySem.W.fnOf x qual (defArgs st) (defBody st) (defScope st) .none kV doc pm an cdv ct), osl⟩) (c : PySem.W.codeIn K cdv qual = true) (k : PySem.W.keepIn K (.ref f) = true)
    (hb : ∀ (kV doc pm : Value) (an : Option Addr) (cdv ct : Value) (us : List Value), us.length = ps.length → bindArgs (PySem.W.fnOf x qual (defArgs st) (defBody st) (defScope st) .none kV doc pm an cdv ct) ⟨us, []⟩ = pure (ps.zip us)) : DefAtA K mg al x qual st ps := by
  have F := fun_mk (st := st) l c k
  exact ⟨f, _, PySem.W.mg_of X G a, F, F.binds hb⟩
end
/-! data compared -/
def vD : V → Option PyData
  | .int i => some (.int i)
  | .str x => some (.str x)
  | .bl b => some (.bool b)
  | .non => some .none
  | _ => none
theorem dp_flat {K : Frag} {H : Hp} {v : V} {d : PyData} (h : vD v = some d) : Dp K H v d := by
  cases v <;> simp only [vD, Option.some.injEq, reduceCtorEq] at h <;> subst h <;> constructor
theorem dpAll_flat {K : Frag} {H : Hp} : ∀ {vs : List V} {ds : List PyData}, vs.map vD = ds.map some → DpAll K H vs ds
  | [], [], _ => .nil
  | [], _ :: _, h => by cases h
  | _ :: _, [], h => by cases h
  | v :: vs, d :: ds, h => by
    simp only [List.map_cons, List.cons.injEq] at h
    exact .cons (dp_flat h.1) (dpAll_flat h.2)
theorem dpAll_ints {K : Frag} {H : Hp} (ns : List Int) : DpAll K H (ns.map V.int) (ns.map PyData.int) := dpAll_flat (by rw [List.map_map, List.map_map]; rfl)
theorem lay_ints (ns : List Int) : PyData.canLayAll0 (ns.map PyData.int) = true := by
  induction ns with
  | nil => rfl
  | cons n ns ih => rw [List.map_cons, PyData.canLayAll0, ih]; rfl
theorem dep_ints (ns : List Int) : PyData.depthAll (ns.map PyData.int) = 0 := by
  induction ns with
  | nil => rfl
  | cons n ns ih => rw [List.map_cons, PyData.depthAll, ih]; rfl
theorem eqv_sh {d : PyData} (h : SeqAt.shaped d = true) : PyData.eqv d d = true := SeqAt.eqv_refl_plain d (PyData.plain_of_canLay0 d (SeqAt.canLay_of_shaped h))
theorem neD_s {K : Frag} {x y : V} {H : Hp} {Q : VK} {d : PyData} (h1 : Dp K H x d) (h2 : Dp K H y d) (hs : SeqAt.shaped d = true) (q : Q (.bl false) H) : rNeD K x y H Q := ⟨d, d, h1, h2, hs, hs, by rw [eqv_sh hs]; exact q⟩
theorem eqD_s {K : Frag} {x y : V} {H : Hp} {Q : VK} {d : PyData} (h1 : Dp K H x d) (h2 : Dp K H y d) (hs : SeqAt.shaped d = true) (q : Q (.bl true) H) : rEqD K x y H Q := ⟨d, d, h1, h2, hs, hs, by rw [eqv_sh hs]; exact q⟩
theorem sh2 {x : Str} {n : Int} (h : PyData.canLay0 (.str x) = true) : SeqAt.shaped (.tuple [.str x, .int n]) = true := by
  have e : SeqAt.shaped (.tuple [.str x, .int n]) = ((PyData.canLay0 (.str x) && (true && true)) && decide (max 0 (max 0 0) + 1 ≤ 64)) := rfl
  rw [e, h]; decide
theorem sh3 {x : Str} {n m : Int} (h : PyData.canLay0 (.str x) = true) : SeqAt.shaped (.tuple [.str x, .int n, .int m]) = true := by
  have e : SeqAt.shaped (.tuple [.str x, .int n, .int m]) = ((PyData.canLay0 (.str x) && (true && (true && true))) && decide (max 0 (max 0 (max 0 0)) + 1 ≤ 64)) := rfl
  rw [e, h]; decide
theorem eqT_s {K : Frag} {p q : Addr} {xs ys : List V} {ds es : List PyData} {H : Hp} {Q : VK} (h1 : H p = some (.tup xs)) (h2 : H q = some (.tup ys)) (e1 : xs.map vD = ds.map some) (e2 : ys.map vD = es.map some) (h : Q (.bl (PyData.eqvAll ds es)) H) (s1 : SeqAt.shaped (.tuple ds) = true) (s2 : SeqAt.shaped (.tuple es) = true) : rEqD K (.ref p) (.ref q) H Q :=
  ⟨.tuple ds, .tuple es, .tup (.of h1) (dpAll_flat e1), .tup (.of h2) (dpAll_flat e2), s1, s2, by rw [PyData.eqv]; exact h⟩
end KW

set_option Elab.async false
set_option linter.all false
set_option maxRecDepth 100000
set_option maxHeartbeats 4000000
/-! Kw10: e.replace(..) of written texts, where a written text stands ahead -/
namespace KW
open PySem PySem.Spec PyProof.Rows L2 CwR
section
variable {X : Cx} {o e f a b : Expr} {te tf ta tb : TE} {t u : TS} {y z : Str} {j k : Nat} {c0 c1 apos pos p p' : Pos}
/-- "text" op e, where e wants a token -/
theorem k_opC {op : Operator} {r : R2} (ho : OpR X (binaryOp op) r) (hb : PET X f tf) : PE X (.BinOp (.Constant (.str y) j c0) op f pos) (tOp r (tC (.str y)) tf) := by
  refine ⟨fun pins s σ H Q I h => ?_⟩
  refine wpAny_BinOp (Calls.Constant_str ?_)
  refine thn (hb pins _ σ H _ (Nat.succ_le_succ (Nat.zero_le _)) (I.tok _) h) fun v s2 ⟨x, H2, I2, r2, q2⟩ => ?_
  exact ho pins s2 σ H2 (.str y) x _ v Q I2 ⟨_, rfl⟩ r2 q2
/-- if e op "text": its first suite has a token -/
theorem k_ifC {op : CmpOp} {r : R2} {A B : List Stmt} (ho : OpR X (compareOp op) r) (ha : PE X a ta) (hm : behindInMarks op (.Constant (.str y) j c0) = false) (hA : PSsT X A t) (hB : PSs X B u) :
    PS X (.If (.Compare a [op] [.Constant (.str y) j c0] p) A B pos) (tIfS (tTest (tOp r ta (tC (.str y)))) t u) := by
  refine ⟨fun pins s σ H D I h => ?_⟩
  refine wpAny_If ?_
  have hT : wpAny (model X.prog X.w) X.A (isTrue (.Compare a [op] [.Constant (.str y) j c0] p) X.env (eval (.Compare a [op] [.Constant (.str y) j c0] p) X.env)) (fun d s1 => 1 ≤ s1.toks ∧ TP X pins σ (fun b H1 => if b = true then t D σ H1 else u D σ H1) d s1) X.xe s := by
    refine wpAny_isTrue_Compare1 (thn (ha.run pins s σ H _ I h) fun v s1 ⟨x, H1, I1, r1, q1⟩ => Calls.Constant_str ?_) hm
    refine wpAny_mono (PySem.wpAny_toks_of (n := 1) (Nat.succ_le_succ (Nat.zero_le _)) (ho pins _ σ H1 x (.str y) v _ _ (I1.tok _) r1 ⟨_, rfl⟩ q1)) (fun c s3 ⟨n1, z, H3, I3, r3, k, e, q3⟩ => ?_) fun _ _ z => z.2
    subst e
    cases r3
    exact wpAny_truthy_bool ⟨n1, H3, I3, q3⟩
  refine thn hT fun d s1 ⟨n1, H1, I1, q1⟩ => ?_
  cases d with
  | true => exact hA pins s1 σ H1 D n1 I1 q1
  | false => exact hB.run pins s1 σ H1 D I1 q1
theorem k_setT {i : Nat} {x : Str} {pos' : Pos} (hN : X.N.Nodup) (hi : X.N[i]? = some x) (hx : Loc X.env.scope x) (he : PET X e te) (hs : swapsWith e (some (.Name x pos')) pos.line X.env = pure false := by rfl) (hf : X.fn x = true ∨ X.env.scope.names.lookup x = some .local := by first | exact .inl rfl | exact .inr rfl | assumption) :
    PST X (.Assign [.Name x pos'] e pos) (tAsg te (gName i)) := by
  intro pins s σ H D h0 I h
  refine wpAny_Assign_Name (thn (he pins s σ H _ h0 I h) fun v s1 ⟨y, H1, I1, r1, q1⟩ => ?_) hs
  exact store_ok I1 hN hi hx r1 (fun s2 I2 => ⟨_, H1, I2, q1⟩) hf
end
end KW

set_option Elab.async false
set_option linter.all false
set_option maxRecDepth 100000
set_option maxHeartbeats 4000000
/-! Kw11: iterators that end while an exception is handled -/
namespace KW
open PySem PySem.Spec PyProof.Rows HotX
theorem psh2 {g : Heap} {u v o : Obj} {b : Addr} (e : g.get? b = some o) : ((g.push u).push v).get? b = some o := Heap.get?_push_of_some _ (Heap.get?_push_of_some _ e)
section
variable {prog : Program} {w : World} {A : Around} {E : Value → Shared → Prop} {s : Shared}
/-- StopIteration is made and raised there -/
theorem stop_hot {α : Type} {x1 : Addr} {Q : α → Shared → Prop} {t : Sem α} (hot : HotAt A x1 s.heap) (ht : t = (newExc (.type "StopIteration") [] >>= fun e => raiseNew e))
    (q : ∀ (a : Addr) (g' : Heap), (∀ b o, s.heap.get? b = some o → g'.get? b = some o) → (∃ o, g'.get? a = some o ∧ o.cls = .type "StopIteration") → E (.ref a) { s with heap := g' }) : wpAny (model prog w) A t Q E s := by
  obtain ⟨hh, o1, vs1, h1, d1, c1⟩ := hot
  subst ht
  refine wpAny_bind ?_
  simp only [newExc, newTuple]
  refine wpAny_bind (wpAny_newObj_type ?_ (by size_fits))
  refine wpAny_bind (m := firstArgMember _ _) (wpAny_of_eq (a := Value.none) (by first | rfl | (simp only [firstArgMember]; rfl)) (wpAny_newObj_type ?_ (by size_fits)))
  refine raiseNew_hot ⟨hh, o1, vs1, psh2 h1, d1, c1⟩ (Nat.ne_of_lt (Heap.lt_size (Heap.get?_push_of_some _ h1))) (Heap.get?_push_size _ rfl) rfl (by first | decide | (simp; done) | (simp; omega)) ?_
  refine q _ _ (fun b o e => ?_) ⟨_, Heap.get?_update_self _ (Heap.get?_push_size _ rfl) rfl, rfl⟩
  rw [Heap.get?_update_other _ _ (Nat.ne_of_gt (Heap.lt_size (Heap.get?_push_of_some _ e)))]
  exact psh2 e
/-- what pyNext makes of it -/
theorem stop_none {a : Addr} {T : Bool → Sem (Option Value)} {Q : Option Value → Shared → Prop} (h : ∃ o, s.heap.get? a = some o ∧ o.cls = .type "StopIteration") (hT : T true = pure none) (q : Q none s) :
    wpAny (model prog w) A (isInstance (.ref a) (.type "StopIteration") >>= T) Q E s :=
  wpAny_bind (wpAny_isInstance (T := "StopIteration") (b := true) h isSubtype_stop (by rw [hT]; exact wpAny_pure q))
theorem HotAt.set {x1 it : Addr} {h : Heap} {f : Obj → Obj} (c : HotAt A x1 h) (n : it ≠ x1) : HotAt A x1 (h.update it f) := by
  obtain ⟨hh, o1, vs1, h1, d1, c1⟩ := c
  exact ⟨hh, o1, vs1, (Heap.get?_update_other _ _ n).trans h1, d1, c1⟩
theorem next_list_end_hot {it l x1 : Addr} {i : Nat} {items : Array Value} {Q : Option Value → Shared → Prop} (hot : HotAt A x1 s.heap) (hn : it ≠ x1) (hit : s.heap.IsListIter it l i) (hl : s.heap.IsList l items) (hx : items[i]? = none)
    (hQ : ∀ h', (∀ b o, b ≠ it → s.heap.get? b = some o → h'.get? b = some o) → Q none { s with heap := h' }) : wpAny (model prog w) A (pyNext (.ref it)) Q E s := by
  obtain ⟨o, ho, hc, hd⟩ := id hit
  obtain ⟨ol, hol, _, nl, hdl⟩ := hl
  unfold pyNext
  refine wpAny_bind (wpAny_attempt (wpAny_callSpecial?_slot (name := Str.ofString "__next__") hit.typeIs slot_listiter_next (wpAny_call_entry slot_listiter_next hit.typeIs entry_listiter_next ?_ (args_listiter_next _))))
  refine wpAny_bind (m := field (.ref it) 0) (wpAny_field ho hd (x := .ref l) rfl ?_)
  show wpAny _ _ (if (Value.ref l == Value.none) = true then _ else _) _ _ s
  rw [if_neg (show ¬ ((Value.ref l == Value.none) = true) from fun z => Bool.false_ne_true z)]
  refine wpAny_bind (m := field (.ref it) 1) (wpAny_field ho hd (x := .int i 0) rfl (wpAny_bind (m := seqItems? (.ref l)) (wpAny_seqItems hol hdl ?_)))
  simp only [Int.toNat_natCast, hx]
  refine wpAny_bind (wpAny_rule (wpAny_bind (wpAny_setField ho hd (by simp) ?_)))
  refine stop_hot (s := { s with heap := s.heap.update it _ }) (HotAt.set hot hn) rfl fun a g' k c => ?_
  refine stop_none c rfl (hQ g' fun b o hb e => k b o ((Heap.get?_update_other _ _ (Ne.symm hb)).trans e))
theorem next_tuple_end_hot {it l x1 : Addr} {i : Nat} {items : Array Value} {Q : Option Value → Shared → Prop} (hot : HotAt A x1 s.heap) (hn : it ≠ x1) (hit : s.heap.IsTupleIter it l i) (hl : s.heap.IsTuple l items) (hx : items[i]? = none)
    (hQ : ∀ h', (∀ b o, b ≠ it → s.heap.get? b = some o → h'.get? b = some o) → Q none { s with heap := h' }) : wpAny (model prog w) A (pyNext (.ref it)) Q E s := by
  obtain ⟨o, ho, hc, hd⟩ := id hit
  obtain ⟨ol, hol, _, nl, hdl⟩ := hl
  unfold pyNext
  refine wpAny_bind (wpAny_attempt (wpAny_callSpecial?_slot (name := Str.ofString "__next__") hit.typeIs F.slot_tuple_iterator_next (wpAny_call_entry F.slot_tuple_iterator_next hit.typeIs F.entry_tuple_iterator_next ?_ (F.args_tuple_iterator_next_1 _))))
  refine wpAny_bind (m := field (.ref it) 0) (wpAny_field ho hd (x := .ref l) rfl ?_)
  show wpAny _ _ (if (Value.ref l == Value.none) = true then _ else _) _ _ s
  rw [if_neg (show ¬ ((Value.ref l == Value.none) = true) from fun z => Bool.false_ne_true z)]
  refine wpAny_bind (m := field (.ref it) 1) (wpAny_field ho hd (x := .int i 0) rfl (wpAny_bind (m := seqItems? (.ref l)) (wpAny_seqItems hol hdl ?_)))
  simp only [Int.toNat_natCast, hx]
  refine wpAny_bind (wpAny_rule (wpAny_bind (wpAny_setField ho hd (by simp) ?_)))
  refine stop_hot (s := { s with heap := s.heap.update it _ }) (HotAt.set hot hn) rfl fun a g' k c => ?_
  refine stop_none c rfl (hQ g' fun b o hb e => k b o ((Heap.get?_update_other _ _ (Ne.symm hb)).trans e))
theorem next_key_end_hot {it d x1 : Addr} {i n ep : Nat} {od : Obj} {es : Array DictEntry} {Q : Option Value → Shared → Prop} (hot : HotAt A x1 s.heap) (hn : it ≠ x1) (hit : s.heap.IsKeyIter it d i n ep) (hod : s.heap.get? d = some od) (hdd : od.data = .dict es ep) (hsz : es.size = n) (hge : n ≤ i)
    (hQ : ∀ h', (∀ b o, b ≠ it → s.heap.get? b = some o → h'.get? b = some o) → Q none { s with heap := h' }) : wpAny (model prog w) A (pyNext (.ref it)) Q E s := by
  obtain ⟨o, ho, hc, hd⟩ := id hit
  unfold pyNext
  refine wpAny_bind (wpAny_attempt (wpAny_callSpecial?_slot (name := Str.ofString "__next__") hit.typeIs F.slot_dict_keyiterator_next (wpAny_call_entry F.slot_dict_keyiterator_next hit.typeIs F.entry_dict_keyiterator_next ?_ (F.args_dict_keyiterator_next_1 _))))
  refine wpAny_bind (wpAny_pure (wpAny_bind (wpAny_bind ?_)))
  first | refine wpAny_bind (wpAny_typeNameOfWhole_keyiter hit.typeIs (wpAny_pure (wpAny_bind (wpAny_fieldsOf ho hd ?_)))) | refine wpAny_bind (wpAny_typeNameOf_keyiter hit.typeIs (wpAny_pure (wpAny_bind (wpAny_fieldsOf ho hd ?_))))
  simp only [show Builtin.Dict_items.ownsTuple "dict_keyiterator" = false by decide, Bool.false_eq_true, if_false]
  show wpAny _ _ (if (Value.ref d == Value.none) = true then _ else _) _ _ s
  rw [if_neg (show ¬ ((Value.ref d == Value.none) = true) from fun z => Bool.false_ne_true z)]
  refine wpAny_bind (wpAny_pure (wpAny_bind (wpAny_dictEntries hod hdd ?_)))
  rw [if_neg (by rw [hsz]; simp)]
  refine wpAny_bind (wpAny_pure (wpAny_bind (wpAny_dictEpoch hod hdd ?_)))
  rw [if_neg (by simp)]
  refine wpAny_pure ?_
  simp only [show ¬ ((i : Int) < 0) by omega, if_false, Int.toNat_natCast, Array.getElem?_eq_none (show es.size ≤ i by rw [hsz]; exact hge)]
  refine wpAny_bind ?_
  first | refine wpAny_bind (wpAny_typeNameOfWhole_keyiter hit.typeIs (wpAny_pure ?_)) | refine wpAny_bind (wpAny_typeNameOf_keyiter hit.typeIs (wpAny_pure ?_))
  refine wpAny_bind (m := setField (.ref it) 0 .none) (wpAny_setField ho hd (by simp) ?_)
  refine stop_hot (s := { s with heap := s.heap.update it _ }) (HotAt.set hot hn) rfl fun a g' k c => ?_
  refine stop_none c rfl (hQ g' fun b o hb e => k b o ((Heap.get?_update_other _ _ (Ne.symm hb)).trans e))
/-- the handled exception stands -/
def HotS (x1 : Addr) (h : Heap) : Prop := ∃ (o : Obj) (vs : Array Value), h.get? x1 = some o ∧ o.data = .fields vs ∧ vs[2]? = some .none
theorem HotS.keep {x1 : Addr} {h h' : Heap} (c : HotS x1 h) (k : ∀ o, h.get? x1 = some o → h'.get? x1 = some o) : HotS x1 h' := let ⟨o, vs, a, b, c⟩ := c; ⟨o, vs, k o a, b, c⟩
theorem walks_tupleH {x1 : Addr} (hh : A.handled = some (.ref x1)) (I ax : Addr) (hne : ax ≠ I) (hx : x1 ≠ I) (items : Array Value) :
    Walks prog w A I [I, ax, x1] [I] items.size (fun i v => items[i]? = some v) (fun i h => (h.IsTupleIter I ax i ∧ h.IsTuple ax items) ∧ HotS x1 h) where
  sub := fun b hb => by simp at hb; simp [hb]
  frame := fun _ _ _ st hk => ⟨⟨st.1.1.at fun o e => hk I (by simp) o e, st.1.2.at fun o e => hk ax (by simp) o e⟩, st.2.keep fun o e => hk x1 (by simp) o e⟩
  item := fun i s Q E hi st hQ => wpAny_pyNext_tuple_item st.1.1 st.1.2 (x := items[i]) (by simp [hi]) fun h' hit' hs' =>
    hQ _ h' s.toks (by simp [hi]) ⟨⟨hit', st.1.2.extBut hs'.extBut hne⟩, st.2.keep fun o e => hs'.extBut x1 o hx e⟩ fun b o hb e => hs'.extBut b o (fun h => hb (by simp [h])) e
  done := fun s Q E st hQ => next_tuple_end_hot ⟨hh, st.2⟩ (Ne.symm hx) st.1.1 st.1.2 (by simp) fun h' k => hQ h' s.toks fun b o hb e => k b o (fun h => hb (by simp [h])) e
  self := fun _ _ _ _ st hQ => wpAny_pyIter_tupleiter st.1.1 hQ
end
end KW

set_option Elab.async false
set_option linter.all false
set_option maxRecDepth 100000
set_option maxHeartbeats 4000000
/-! Kw12: for, comprehensions, min, sorted while an exception is handled -/
namespace KW
open PySem PySem.Spec PyProof.Rows L2 L2H HotX
theorem HotC.ne {X : Cx} {pins : List (Addr × Obj)} {σ : L2.St} {H : Hp} {s : Shared} {x1 : Addr} (h : HotAt X.A x1 s.heap) : HotS x1 s.heap ∧ X.A.handled = some (.ref x1) ∧ x1 < s.heap.objs.size :=
  let ⟨hh, o, vs, a, b, c⟩ := h
  ⟨⟨o, vs, a, b, c⟩, hh, Heap.lt_size a⟩
theorem turn_listH {P : Program} {w : World} {K : PySem.W.Frag} {tg : Expr} (a it : Addr) : TurnH P w K tg (Itl K a) [it] it (fun i h => h.IsListIter it a i) where
  mem := (turn_list (P := P) (w := w) (K := K) (tg := tg) a it).mem
  obj := (turn_list (P := P) (w := w) (K := K) (tg := tg) a it).obj
  keep := (turn_list (P := P) (w := w) (K := K) (tg := tg) a it).keep
  self := (turn_list (P := P) (w := w) (K := K) (tg := tg) a it).self
  item := by
    intro X hP hw hK hc i pins s σ H E I hf st ⟨xs, x, hq, hx⟩
    subst hP hw hK
    obtain ⟨its, rv, p, hz⟩ := I.list hq
    obtain ⟨u, hu, ru⟩ := rv.get hx
    obtain ⟨f0, f1, f2, f3, f4, f5⟩ := hf it (by simp)
    refine wpAny_pyNext_list_item st p.isList (x := u) (by simpa using hu) fun h' st' sb => ⟨u, rfl, ?_⟩
    obtain ⟨o, e, c, d⟩ := id st'
    refine go_of (s := { s with heap := h' }) e c d (by decide) ⟨x, H, I.turned (t' := s.toks) (fun b o hb e => (sb.2 b hb).trans e) f0 f1 f3 f4 f5, ru, ⟨rfl, fun ys hy => ?_⟩, st', fun b hb => (hf b hb).1⟩
    rw [I.list_inj hy hq]; exact hx
  done := by
    intro X hP hw hK hc i pins s σ H E I hf st ⟨xs, hq, hx⟩
    subst hP hw hK
    obtain ⟨its, rv, p, hz⟩ := I.list hq
    obtain ⟨f0, f1, f2, f3, f4, f5⟩ := hf it (by simp)
    obtain ⟨pp, hot, hp⟩ := hc
    have hl := rv.length
    have P1 := I.pin pp (List.mem_append_left _ hp)
    have nx : it ≠ pp.1 := fun z => f5 pp (List.mem_append_left _ hp) z.symm
    obtain ⟨hh, vs, e1, c1⟩ := hot
    exact next_list_end_hot ⟨hh, pp.2, vs, P1.1, e1, c1⟩ nx st p.isList (by simp; omega) fun h' k => ⟨rfl, I.turned (t' := s.toks) k f0 f1 f3 f4 f5⟩
section
variable {X : Cx} {tg : Expr}
theorem pi_listH {l : Expr} {tl : TE} (hl : PE X l tl) : PIH X tg l (iList X.K tl) := by
  refine ⟨fun pins s σ H R I h => thn (hl.run pins s σ H _ I h) fun v s1 ⟨x, H1, I1, r1, a, e, ⟨xs, hq⟩, q⟩ => ?_⟩
  subst e
  cases r1
  obtain ⟨its, rv, p, hz⟩ := I1.list hq
  refine wpAny_pyIter_list p.isList ⟨s1.heap.objs.size, [s1.heap.objs.size], _, _, H1, rfl, I1.kept (t' := s1.toks) fun b o e => Heap.get?_push_of_some _ e, turn_listH a _, ⟨_, Heap.get?_push_size _ rfl, rfl, rfl⟩, fun b hb => ?_, q⟩
  rw [show b = s1.heap.objs.size by simpa using hb]
  exact I1.fpOk (Nat.le_refl _) (I1.hok.fresh (Nat.le_refl _))
theorem k_forH {iter : Expr} {body : List Stmt} {wi : TI} {g : TG} {tb : TS} {pos : Pos} (hp : PassesOwn (model X.prog X.w) X.A X.env X.xe) (hc : HotC X) (hi : PIH X tg iter wi) (hg : PG X tg g) (hb : PSs X body tb)
    (hs : ∀ x, foldedSetIterable iter X.env x = pure x := by intro _; rfl) : PS X (.For tg iter body [] pos) (uFor wi g tb) := ⟨(ps_forH hp hc hi hg hb hs).run⟩
/-- min(i, j) there -/
theorem c_min2H (hc : HotC X) : CallR X (.builtin "min") uMin2 := fun pins s σ H xs us Q I r q => by
  unfold uMin2 at q
  split at q
  · rename_i i j
    cases r with
    | cons r1 r2 =>
      cases r2 with
      | cons r2 r3 =>
        cases r3
        obtain ⟨t, rfl⟩ := r1
        obtain ⟨u, rfl⟩ := r2
        obtain ⟨pp, ⟨hh, vs, e1, c1⟩, hp⟩ := hc
        have P1 := (I.pin pp (List.mem_append_left _ hp)).1
        have lt := Heap.lt_size P1
        have hT : (s.heap.push { cls := .type "tuple", data := .seq #[.int i t, .int j u] }).IsTuple s.heap.objs.size (intItems #[(i, t), (j, u)]) := ⟨_, Heap.get?_push_size _ rfl, rfl, 0, by simp [intItems]⟩
        have hsz : (s.heap.push { cls := .type "tuple", data := .seq #[.int i t, .int j u] }).objs.size = s.heap.objs.size + 1 := Heap.size_push ..
        refine call_min_two (wpAny_pyIter_tuple hT ⟨_, _, _, _, _, _, _, rfl, walks_tupleH (A := X.A.in1) (x1 := pp.1) hh _ s.heap.objs.size (by rw [hsz]; exact Nat.ne_of_lt (Nat.lt_succ_self _)) (by rw [hsz]; exact Nat.ne_of_lt (Nat.lt_succ_of_lt lt)) (intItems #[(i, t), (j, u)]),
          ⟨⟨⟨_, Heap.get?_push_size _ rfl, rfl, rfl⟩, hT.push _⟩, ⟨pp.2, vs, Heap.get?_push_of_some _ (Heap.get?_push_of_some _ P1), e1, c1⟩⟩, fun c hc => ?_, by simp [intItems], CmpOf.ints_lt (numAt #[(i, t), (j, u)]) (fun _ _ => intItems_at), fun v h' tk hP hk => ?_⟩)
        · show c < ((s.heap.push _).push _).objs.size
          rw [Heap.size_push, hsz]
          rw [hsz] at hc
          simp only [List.mem_cons, List.not_mem_nil, or_false] at hc
          rcases hc with e | e | e
          · rw [e]; exact Nat.lt_succ_self _
          · rw [e]; exact Nat.lt_succ_of_lt (Nat.lt_succ_self _)
          · rw [e]; exact Nat.lt_succ_of_lt (Nat.lt_succ_of_lt lt)
        · have I1 : Inv X pins σ H { s with heap := h', toks := tk } := I.kept fun c o e => hk c o (fun m => by
            have := Heap.lt_size e
            rw [hsz, List.mem_singleton] at m
            rw [m] at this
            exact absurd this (Nat.not_lt.mpr (Nat.le_succ _))) (Heap.get?_push_of_some _ (Heap.get?_push_of_some _ e))
          have e2 : (intItems #[(i, t), (j, u)]).size - 1 = 1 := by simp [intItems]
          rw [e2] at hP
          by_cases c : j < i
          · have e : argBest (fun x y => decide (numAt #[(i, t), (j, u)] x < numAt #[(i, t), (j, u)] y)) 1 = 1 := by simp [argBest, numAt, c]
            rw [e] at hP
            have hv : v = .int j u := by simpa [intItems] using hP.symm
            subst hv
            rw [if_pos c] at q
            exact ⟨.int j, H, I1, ⟨u, rfl⟩, q⟩
          · have e : argBest (fun x y => decide (numAt #[(i, t), (j, u)] x < numAt #[(i, t), (j, u)] y)) 1 = 0 := by simp [argBest, numAt, c]
            rw [e] at hP
            have hv : v = .int i t := by simpa [intItems] using hP.symm
            subst hv
            rw [if_neg c] at q
            exact ⟨.int i, H, I1, ⟨t, rfl⟩, q⟩
  · exact q.elim
end
section
variable {prog : Program} {w : World} {A : Around} {K : Type} [DecidableEq K] {knd : KeyKind prog w K}
theorem walks_keysH {x1 : Addr} (hh : A.handled = some (.ref x1)) (I d : Addr) (hne : d ≠ I) (hx : x1 ≠ I) (kvs : List (K × Value)) (ep : Nat) :
    Walks prog w A I [I, d, x1] [I] kvs.length (fun i v => ∃ k x, kvs[i]? = some (k, x) ∧ knd.is k v = true) (fun i h => (h.IsKeyIter I d i kvs.length ep ∧ h.DictAt knd d kvs ep) ∧ HotS x1 h) where
  sub := fun b hb => by simp at hb; simp [hb]
  frame := fun _ _ _ st hk => ⟨⟨st.1.1.at fun o e => hk I (by simp) o e, st.1.2.at' fun o e => hk d (by simp) o e⟩, st.2.keep fun o e => hk x1 (by simp) o e⟩
  item := fun i s Q E hi st hQ => by
    obtain ⟨⟨k, x⟩, hx'⟩ : ∃ p, kvs[i]? = some p := ⟨kvs[i], by simp [hi]⟩
    exact wpAny_pyNext_dict_item st.1.1 st.1.2 hx' fun key h' hkey hit' hs' => hQ key h' s.toks ⟨k, x, hx', hkey⟩ ⟨⟨hit', st.1.2.extBut hs'.extBut hne⟩, st.2.keep fun o e => hs'.extBut x1 o hx e⟩ fun b o hb e => hs'.extBut b o (fun h => hb (by simp [h])) e
  done := fun s Q E st hQ => by
    obtain ⟨od, es, hod, hcd, hdd, hk, hp, hn⟩ := id st.1.2
    have hsz : es.size = kvs.length := by rw [← hp.length]; simp
    exact next_key_end_hot ⟨hh, st.2⟩ (Ne.symm hx) st.1.1 hod hdd hsz (Nat.le_refl _) fun h' k => hQ h' s.toks fun b o hb e => k b o (fun h => hb (by simp [h])) e
  self := fun _ _ _ _ st hQ => wpAny_pyIter_keyiter st.1.1 hQ
end
theorem colD_hot {X : Cx} (hc : HotC X) : ColD X := by
  intro pins σ H s d vs ep E R I lo hat hn h
  obtain ⟨pp, ⟨hh, es, e1, c1⟩, hp⟩ := hc
  have P1 := (I.pin pp (List.mem_append_left _ hp)).1
  have ltx := Heap.lt_size P1
  have ltd := hat.lt_size
  have hot : HotS pp.1 s.heap := ⟨pp.2, es, P1, e1, c1⟩
  have hS₁ : (s.heap.push { cls := .type "list", data := .seq ([] : List Value).toArray }).get? s.heap.objs.size = some { cls := .type "list", data := .seq #[] } := Heap.get?_push_size _ rfl
  generalize hL : s.heap.objs.size = L at hS₁ ltx ltd
  generalize hg : s.heap.push { cls := .type "list", data := .seq ([] : List Value).toArray } = g at hS₁
  have kg : ∀ b o, s.heap.get? b = some o → g.get? b = some o := fun b o e => by rw [← hg]; exact Heap.get?_push_of_some _ e
  have sz : g.objs.size = L + 1 := by rw [← hg, Heap.size_push, hL]
  have hatg : g.DictAt (mixKind X.prog X.w) d vs ep := hat.at' fun o e => kg d o e
  have W := walks_keysH (prog := X.prog) (w := X.w) (knd := mixKind X.prog X.w) (A := X.A.in1.in1) (x1 := pp.1) hh g.objs.size d (by rw [sz]; exact Nat.ne_of_lt (Nat.lt_succ_of_lt ltd)) (by rw [sz]; exact Nat.ne_of_lt (Nat.lt_succ_of_lt ltx)) vs ep
  have hSf : L ∉ [g.objs.size, d, pp.1] := by
    rw [sz]
    simp only [List.mem_cons, List.not_mem_nil, or_false, not_or]
    exact ⟨Nat.ne_of_lt (Nat.lt_succ_self _), Nat.ne_of_gt ltd, Nat.ne_of_gt ltx⟩
  -- the loop of the list's lengthening
  have key : ∀ (St : Nat → Heap → Prop) (oI : Obj) (h1 : Heap) (c1 tk : Nat), Walks X.prog X.w X.A.in1.in1 g.objs.size [g.objs.size, d, pp.1] [g.objs.size] vs.length (fun i v => ∃ k x, vs[i]? = some (k, x) ∧ (mixKind X.prog X.w).is k v = true) St → St 0 h1 → (∀ b o, b ≠ L → g.get? b = some o → h1.get? b = some o) → h1.get? L = some { cls := .type "list", data := .seq #[] c1 } →
      codeAny (model X.prog X.w) X.A.in1 (.builtin "list.extend.loop" ⟨[.ref L, .ref g.objs.size, .ref L], []⟩) (fun q s' => ∃ (h' : Heap) (tk : Nat) (acc : Array Value) (c' : Nat), q = .ok (.ret (.ref L)) ∧ s' = { s with heap := h', toks := tk } ∧ (∀ b o, s.heap.get? b = some o → h'.get? b = some o) ∧
        h'.get? L = some { cls := .type "list", dict := none, data := .seq acc c', slots := #[] } ∧ ItemsOf (fun i v => ∃ k x, vs[i]? = some (k, x) ∧ (mixKind X.prog X.w).is k v = true) acc vs.length) { s with heap := h1, toks := tk } := by
    intro St oI h1 c1 tk W1 st k1 hS
    refine codeAny_extend_loopS W1.toS hn L hSf (.ref L) vs.length 0 _ #[] c1 rfl (Nat.zero_le _) st hS (ItemsOf.nil _) fun s' acc' c' hm hS' hacc => ?_
    rw [Moved.eq_with hm]
    refine ⟨s'.heap, s'.toks, acc', c', rfl, rfl, fun b o e => ?_, hS', hacc⟩
    have lt := Heap.lt_size e
    rw [hL] at lt
    refine hm.heap b o (fun hmem => ?_) (k1 b o (Nat.ne_of_lt lt) (kg b o e))
    simp only [List.mem_cons, List.not_mem_nil, or_false] at hmem
    rcases hmem with e' | e'
    · rw [e'] at lt; exact Nat.lt_irrefl _ lt
    · rw [e', sz] at lt; exact Nat.lt_irrefl _ (Nat.lt_of_succ_lt lt)
  unfold collect
  refine wpAny_bind (wpAny_runValue (codeAny_builtin (entryFor_of_fast (by kernel_rfl) : entryFor table "proto.collect" = some Builtin.«proto.collect») ?_))
  rw [Around.under_plainId PySem.F.plain_proto_collect _]
  show wpAny _ X.A.in1.in1 (newList [] >>= fun l => again (.builtin "list.__iadd__" ⟨[l, .ref d], []⟩)) _ _ s
  refine wpAny_bind (wpAny_newObj_type (wpAny_pure ⟨plainId_quiet PySem.F.plain_list_iadd _, codeAny_builtin (entryFor_of_fast (by kernel_rfl) : entryFor table "list.__iadd__" = some Builtin.«list.__iadd__») ?_⟩))
  rw [Around.under_plainId PySem.F.plain_list_iadd _, hL, hg]
  show wpAny _ X.A.in1.in1 (Builtin.List.listExtendWith (.ref L) (.ref d) (.ref L)) _ _ _
  unfold Builtin.List.listExtendWith
  refine wpAny_bind (wpAny_typeOf (T := "dict") hatg.dictOf.typeIs ?_)
  have h1 : Builtin.List.listSameRef (.ref L) (.ref d) = false := by simp [Builtin.List.listSameRef, Nat.ne_of_gt ltd]
  have h2 : (Value.type "dict" == Value.type "list") = false := by decide
  have h3 : (Value.type "dict" == Value.type "tuple") = false := by decide
  simp only [h1, h2, h3, Bool.or_false, Bool.false_eq_true, if_false]
  refine wpAny_bind (wpAny_pyIter_dict lo hatg ?_)
  have hatI : Heap.DictAt (mixKind X.prog X.w) (g.push { cls := .type "dict_keyiterator", data := .fields #[.ref d, .int 0 0, .int vs.length 0, .int ep 0] }) d vs ep := hatg.push _
  have st0 : ((g.push { cls := .type "dict_keyiterator", data := .fields #[.ref d, .int 0 0, .int vs.length 0, .int ep 0] }).IsKeyIter g.objs.size d 0 vs.length ep ∧ Heap.DictAt (mixKind X.prog X.w) (g.push { cls := .type "dict_keyiterator", data := .fields #[.ref d, .int 0 0, .int vs.length 0, .int ep 0] }) d vs ep) ∧ HotS pp.1 (g.push { cls := .type "dict_keyiterator", data := .fields #[.ref d, .int 0 0, .int vs.length 0, .int ep 0] }) :=
    ⟨⟨⟨_, Heap.get?_push_size _ rfl, rfl, rfl⟩, hatI⟩, (hot.keep fun o e => Heap.get?_push_of_some _ (kg _ _ e))⟩
  generalize hoI : ({ cls := .type "dict_keyiterator", data := .fields #[.ref d, .int 0 0, .int vs.length 0, .int ep 0] } : Obj) = oI at hatI st0
  refine wpAny_bind (wpAny_holding (PySem.W.kdl_hint_dict hatI.dictOf.typeIs ?_))
  have hS₂ : (g.push oI).get? L = some { cls := .type "list", data := .seq #[] } := Heap.get?_push_of_some oI hS₁
  have fin : ∀ {h1 : Heap} {c1 tk : Nat}, ((h1.IsKeyIter g.objs.size d 0 vs.length ep ∧ Heap.DictAt (mixKind X.prog X.w) h1 d vs ep) ∧ HotS pp.1 h1) → (∀ b o, b ≠ L → g.get? b = some o → h1.get? b = some o) → h1.get? L = some { cls := .type "list", data := .seq #[] c1 } →
      codeAny (model X.prog X.w) X.A.in1 (.builtin "list.extend.loop" ⟨[.ref L, .ref g.objs.size, .ref L], []⟩) (fun r s' => match r with
        | .ok (.ret v) => wpAny (model X.prog X.w) X.A.in1 (match v with | .ref a => (do match (← load a).data with | .seq xs _ => pure xs.toList | _ => unsupported "internal:collect") | _ => unsupported "internal:collect") R E s'
        | .ok _ => False
        | .error e => E e s') { s with heap := h1, toks := tk } := fun {h1 c1 tk} st k1 hS => by
    refine codeAny_mono (key _ oI h1 c1 tk W st k1 hS) fun q s' y => ?_
    obtain ⟨h', tk', acc, c', rfl, rfl, kk, hl, it⟩ := y
    show wpAny _ _ (load L >>= _) _ _ _
    exact wpAny_bind (wpAny_load hl (wpAny_pure (h h' tk' acc kk it)))
  refine wpAny_ite_split (fun _ => ?_) (fun _ => wpAny_pure ⟨plainId_quiet PySem.F.plain_extend_loop _, fin (tk := s.toks) st0 (fun b o _ e => Heap.get?_push_of_some _ e) hS₂⟩)
  refine wpAny_bind (wpAny_rule (wpAny_bind ?_))
  show wpAny _ _ (updateSeq L (·.push .none) >>= fun _ => updateSeq L (·.pop)) _ _ _
  have hS₃ := Heap.get?_update_self (Obj.mapSeq (·.push Value.none)) hS₂ rfl
  have hS₄ := Heap.get?_update_self (Obj.mapSeq (·.pop)) hS₃ rfl
  have oth : ∀ b o, b ≠ L → (g.push oI).get? b = some o → (((g.push oI).update L (Obj.mapSeq (·.push Value.none))).update L (Obj.mapSeq (·.pop))).get? b = some o := fun b o hb e => (Heap.get?_update_other _ _ (Ne.symm hb)).trans ((Heap.get?_update_other _ _ (Ne.symm hb)).trans e)
  refine wpAny_bind (wpAny_updateSeq hS₂ rfl (wpAny_updateSeq (hz := by seq_fits) hS₃ rfl (wpAny_pure ⟨plainId_quiet PySem.F.plain_extend_loop _, fin (tk := s.toks) (W.frame 0 _ _ st0 fun b hb o e => oth b o (fun z => hSf (z ▸ hb)) e) (fun b o hb e => oth b o hb (Heap.get?_push_of_some _ e)) hS₄⟩)))
end KW

set_option Elab.async false
set_option linter.all false
set_option maxRecDepth 100000
set_option maxHeartbeats 4000000
/-! Kw5: int(text) of up to 4300 signs; a def that gets the exception of the suite -/
namespace KW
open PySem PySem.Spec PyProof.Rows L2 PySem.W PySem.NumText PySem.Calls
theorem wp_max {M : Model} {A : Around} {E : Value → Shared → Prop} {s : Shared} {Q : Nat → Shared → Prop} (hd : s.heap.NoDigits) (h : Q 4300 s) : wpAny M A Builtin.intMaxStrDigits Q E s := by
  obtain ⟨mc, hns, hnone⟩ := hd
  unfold Builtin.intMaxStrDigits
  refine wpAny_bind (wpAny_nsGet hns ?_)
  rw [hnone]
  exact wpAny_pure h
theorem wp_textL {M : Model} {A : Around} {E : Value → Shared → Prop} {s : Shared} {Q : Value → Shared → Prop} {v : Value} {text : List Nat} {n : Int} (hd : s.heap.NoDigits) (hs : ¬ (text.takeWhile (· != 0)).length ≤ 640)
    (hr : (int_private% "readNumeral") 4300 10 (text.takeWhile (· != 0)) = (int_private% "Numeral.value") n) (ha : ((text.takeWhile (· != 0)).length == text.length) = true) (h : Q (.int n s.toks) { s with toks := s.toks + 1 }) :
    wpAny M A ((int_private% "intFromText") v text 10) Q E s := by
  obtain ⟨hp, g, d, tk, os⟩ := s
  repeat (any_goals (first
    | assumption
    | (with_reducible refine wpAny_ite_false (decide_eq_false hs) ?_)
    | ((with_reducible show wpAny _ _ Builtin.intMaxStrDigits _ _ _); refine wp_max hd ?_)
    | (with_reducible refine wpAny_ite_true (decide_eq_true ha) ?_)
    | wp_step))
  all_goals (try rw [hr])
  all_goals (try dsimp only)
  repeat (any_goals (first
    | assumption
    | (with_reducible refine wpAny_ite_true (decide_eq_true ha) ?_)
    | wp_step))
structure HidL (p : Prop) : Prop where
  out : p
theorem meets_textL {x : PySem.Str} {u : Tok} {n : Int} (hl : x.length ≤ sizeLine) (hlong : ¬ (numSeenOf x).length ≤ 640) (hn : PySem.intText? x = some n) :
    Meets (Builtin.«int.__new__» ⟨[.type "int", .str x u], []⟩) (fun _ R s => s.heap.NoDigits ∧ R (.ok (.ret (.int n s.toks))) { s with toks := s.toks + 1 }) := by
  intro prog w A R s ⟨hd, h⟩
  refine wpAny_mono (Q := fun fin s' => ∃ v, fin = .done (.ret v) ∧ R (.ok (.ret v)) s') (E := fun e s' => R (.error e) s') ?_ (fun fin s' h' => by obtain ⟨v, rfl, hv⟩ := h'; exact hv) fun _ _ z => z
  obtain ⟨hp, g, d, tk, os⟩ := s
  have f1 := F.conv_sub_int
  have f2 := F.madeHere_int
  have f3 := KIN.str_int
  have f4 := KIN.str_idx
  have f5 := KIN.str_trunc
  have f6 : typeOf (.str x u) = pure (.type "str") := rfl
  have hr : (int_private% "readNumeral") 4300 10 (numSeenOf x) = (int_private% "Numeral.value") n ∧ ((numSeenOf x).length == (numTextOf x).length) = true := by
    rcases read4300 x hl with ⟨m, h1, h2, h3⟩ | ⟨h1, _⟩
    · rw [hn] at h1
      injection h1 with h1
      subst h1
      exact ⟨h3, h2⟩
    · rw [hn] at h1
      cases h1
  have hk := HidL.mk (And.intro hlong hr)
  clear hr hl hn hlong
  repeat (any_goals (first
    | assumption
    | ((with_reducible show wpAny _ _ ((int_private% "intFromText") _ _ _) _ _ _); refine wp_textL hd hk.out.1 hk.out.2.1 hk.out.2.2 ?_)
    | wp_step))
  all_goals first | exact ⟨_, rfl, h⟩ | skip
  all_goals trace_state
theorem tw_all : ∀ l : List Nat, (∀ c ∈ l, 48 ≤ c ∧ c ≤ 57) → l.takeWhile (· != 0) = l
  | [], _ => rfl
  | c :: l, h => by
    have h1 := h c List.mem_cons_self
    have e : (c != 0) = true := by simp only [bne_iff_ne, ne_eq]; omega
    rw [List.takeWhile_cons, if_pos e, tw_all l fun d hd => h d (List.mem_cons_of_mem _ hd)]
theorem seen_all {x : PySem.Str} (h : AllDigits x.cps.toList) : (numSeenOf x).length = x.length := by
  have e : x.cps.all (· < 128) = true := by
    rw [← Array.all_toList, List.all_eq_true]
    intro c hc
    have := h c hc
    simp only [decide_eq_true_eq]; omega
  have e2 : numTextOf x = x.cps.toList := by unfold numTextOf; rw [if_pos e]
  unfold numSeenOf
  rw [e2, tw_all _ h]
  exact Array.length_toList
/-- int(v) -/
def uIntL : List V → Hp → VK → Prop
  | [.int i], H, Q => Q (.int i) H
  | [.str x], H, Q => AllDigits x.cps.toList ∧ x.cps.toList ≠ [] ∧ x.length ≤ 4300 ∧ Q (.int (digitsVal x.cps.toList : Nat)) H
  | _, _, _ => False
theorem uIntL_e1 {i : Int} {H : Hp} {Q : VK} : uIntL [.int i] H Q = Q (.int i) H := rfl
theorem uIntL_e2 {x : Str} {H : Hp} {Q : VK} : uIntL [.str x] H Q = (AllDigits x.cps.toList ∧ x.cps.toList ≠ [] ∧ x.length ≤ 4300 ∧ Q (.int (digitsVal x.cps.toList : Nat)) H) := rfl
theorem c_intL {X : Cx} (hdg : nsIn X.K cStatics "sys.int_max_str_digits" = some none) : CallR X (.type "int") uIntL := by
  intro pins s σ H xs us Q I r h
  unfold uIntL at h
  split at h
  · exact c_int pins s σ H _ us Q I r h
  · rename_i x
    obtain ⟨h1, h2, h3, h⟩ := h
    cases r with
    | cons r1 rs =>
      cases rs
      obtain ⟨t, rfl⟩ := r1
      have hn := intText_digits h1 h2 h3
      have fin := (⟨.int (digitsVal x.cps.toList : Nat), H, I.tok _, ⟨_, rfl⟩, h⟩ : EP X pins σ Q (.int (digitsVal x.cps.toList : Nat) s.toks) { s with toks := s.toks + 1 })
      by_cases c : x.length ≤ 640
      · exact KIN.call_text hn c fin
      · have hd : s.heap.NoDigits := let ⟨mc, a, _⟩ := I.nolimit; ⟨mc, a, ns_none_of I.kIn a hdg⟩
        exact call_int_1 (meets_textL (by rw [sizeLine_eq]; omega) (by rw [seen_all h1]; exact c) hn) ⟨hd, rfl, fin⟩
  · exact h.elim

/-! ### a def that gets the exception of the suite as its first argument -/
structure CalE (P : Program) (w : World) (K : Frag) (mg : Str → Option Value) (base : Heap) (k : Nat) (x : Str) (sp : Addr → Value → Option Addr → Sp) : Prop where
  ex : ∃ (f : Addr) (fd : FuncData) (ps : List Str), mg x = some (.ref f) ∧ PySem.W.keepIn K (.ref f) = true ∧ Binds K fd ps [] ∧ (∀ a c d vs H Q E, sp a c d vs H Q E → vs.length = ps.length) ∧
    ∀ (A : Around) (outer : List Env) (s : Shared) (H : Hp) (args : Args) (us : List Value) (vs : List V) (Q : VK) (a : Addr) (oe : Obj) (c : Value) (d : Option Addr), L2H.RoomH k A → A.handled = some (.ref a) → L2N.Zn c d oe → (∃ fv, oe.data = .fields fv) → L2H.PinOk outer H s (a, oe) → Env0 P w K mg base A outer s H →
      BindsTo s fd args (ps.zip us) → Vals vs us → sp a c d vs H Q E0 → codeAny (model P w) A (.call (.ref f) args) (CR (L2N.CX P w) outer P w H s Q E0) s
theorem mark_self {A : Around} {env : Env} {v : Value} (h : A.handled = some v) : (A.deeper env).mark (some v) = A.deeper env := by
  obtain ⟨hd, dp, fr, gs, un⟩ := A
  simp only at h
  subst h
  rfl
section
variable {P : Program} {w : World} {K : Frag} {mg : Str → Option Value} {base : Heap}
theorem DefAt.okE {x qual : Str} {st : Stmt} {N ps : List Str} {k : Nat} {sp : Addr → Value → Option Addr → Sp} (D : DefAt K mg x qual st ps) (S : FnScope N ps (defScope st)) (len : ∀ a c d vs H Q E, sp a c d vs H Q E → vs.length = ps.length)
    (hbody : ∀ (f : Addr) (cdv : Value) (A : Around) (outer : List Env) (s : Shared) (H : Hp) (vs : List V) (Q : VK) (ea : Addr) (oe : Obj) (cls : Value) (d : Option Addr), L2H.RoomH k (A.deeper (envOfC qual (defScope st) s.heap.objs.size f cdv)) → L2N.Zn cls d oe → (∃ fv, oe.data = .fields fv) → sp ea cls d vs H Q E0 →
      ∃ t, PSs ((cxOf (L2N.CX P w) P w K mg base N qual (defScope st) f cdv A outer s H E0).suite ea ((ea, oe) :: [])) (defBody st) t ∧ t { nx := fun _ H' => Q .non H', rt := Q } (start N vs) H) : CalE P w K mg base (k + 1) x sp := by
  obtain ⟨f, fd, hm, F, hb⟩ := D.ex
  obtain ⟨oc, od, kV, doc, pm, an, cdv, ct, osl, rfl, lk, hcd⟩ := F.ex
  refine ⟨f, _, ps, hm, F.kp, hb, len, fun A outer s H args us vs Q a oe c d hr hh hz hf hpin e0 hbd hv hsp => ?_⟩
  have hlen := len _ _ _ _ _ _ _ hsp
  have up := e0.bs
  have kin : K.In s.heap := e0.mod.kin.keeps fun b o e => (up b o e).1
  have nolim : s.heap.NoLimit := e0.mod.nolimit.keeps fun b o e => (up b o e).1
  have kinds : ∀ y ∈ ps.zip us, (defScope st).names.lookup y.1 = some .local ∨ ((defScope st).names.lookup y.1 = some .cell ∧ ((cellsFrom (s.heap.objs.size + 1) (defScope st).names []).lookup y.1).isSome = true) := by
    rintro ⟨n, v⟩ hy
    cases S.par n (List.of_mem_zip hy).1 with
    | inl q => exact .inl q
    | inr q => exact .inr ⟨q, PySem.W.cellsFrom_some _ _ _ (.inl q)⟩
  refine codeAny_call_function hr.depth (kin _ _ lk) rfl S.co S.gen rfl (PySem.W.codeRec_of kin hcd) (hbd _ _ _ _ ?_)
  refine wpAny_newFunctionEnv_cells S.kind kinds fun env he s1 x => ?_
  subst he
  refine ⟨nolim.keeps x.toInCall.keep, codeAny_func ?_⟩
  obtain ⟨t, ht, hq⟩ := hbody f cdv A outer s H vs Q a oe c d (hr.deeper _) hz hf hsp
  have I0 := L2H.inv_startH (CX := L2N.CX P w) (P := P) (w := w) (K := K) (mg := mg) (base := base) (qual := qual) (f := f) (cd := cdv) (A := A) (outer := outer) (E := E0) S hpin e0 hlen hv x
  have eA := mark_self (A := A) (env := envOfC qual (defScope st) s.heap.objs.size f cdv) hh
  have eX : (cxOf (L2N.CX P w) P w K mg base N qual (defScope st) f cdv A outer s H E0).suite a ((a, oe) :: []) = (L2H.cxH (L2N.CX P w) P w K mg base N qual (defScope st) f cdv A outer s H E0 (a, oe)).wish fun _ _ => False := by
    unfold Cx.suite L2H.cxH Cx.wish cxOf
    simp only [eA]
  rw [eX] at ht
  have hrun := ht.run [] s1 (start N vs) H _ (I0.wish _) hq
  refine wpAny_mono hrun (fun fl s' hs => ?_) fun e s' hs => hs.elim
  have fin : ∀ {σ' : L2.St} {H' : Hp} {v : V} {u : Value}, Inv ((L2H.cxH (L2N.CX P w) P w K mg base N qual (defScope st) f cdv A outer s H E0 (a, oe)).wish fun _ _ => False) [] σ' H' s' → RelV v u → Q v H' → CE outer P w H s Q u s' :=
    fun {σ' H' v u} J rv q => ⟨v, H', J.os, J.bare, J.unwish.base, J.hok, rv, q⟩
  cases fl with
  | ret u => obtain ⟨v, σ', H', J, rv, q⟩ := hs; exact fin J rv q
  | next => obtain ⟨σ', H', J, q⟩ := hs; exact fin (v := V.non) (u := Value.none) J rfl q
  | brk => obtain ⟨_, _, _, q⟩ := hs; exact q.elim
  | cont => obtain ⟨_, _, _, q⟩ := hs; exact q.elim
end
section
variable {X : Cx} {k : Nat} {x : Str} {p pos : Pos} {e : Expr} {es : List Expr} {t : TA}
/-- f(e, ..) in the suite that holds e -/
theorem kcE {a : Addr} {oe : Obj} {cls : Value} {d : Option Addr} {pn : List (Addr × Obj)} {sp : Addr → Value → Option Addr → Sp} (hz : L2N.Zn cls d oe) (hf : ∃ vs, oe.data = .fields vs) (c : CalE X.prog X.w X.K X.mg X.base k x sp) (hr : Room k X.A) (ha : PA (X.suite a ((a, oe) :: pn)) (e :: es) t)
    (hg : Gl X x := by rfl) (hdb : (x == ("__debug__" : Str)) = false := by decide)
    (he : starEach (e :: es) X.env = (false, eval e X.env) :: starEach es X.env := by rfl) (hpl : (backTo pos (starEach es X.env)).any (·.1) = false := by rfl) : PE (X.suite a ((a, oe) :: pn)) (.Call (.Name x p) (e :: es) [] pos) (uCall (sp a cls d) t) := by
  obtain ⟨f, fd, ps, hm, hk, hb, hlen, run⟩ := c.ex
  refine ⟨fun pins s σ H Q I h => ?_⟩
  refine wpAny_Call_Name_kw (ld_glob (x := x) I hg hm ?_ hdb)
  refine PySem.W.callWith_K (h₀ := X.base) I.ok.mod.kin hk (thn (ha.run pos pins s σ H _ I h) fun us s1 ⟨vs, H1, I1, r, q⟩ => ⟨I1.kIn, ?_⟩) he hpl
  have hl : us.length = ps.length := by rw [← r.length]; exact hlen _ _ _ _ _ _ _ q
  have b := hb s1 us I1.kIn (by rw [List.append_nil]; exact hl)
  rw [List.append_nil] at b
  have P1 := I1.pin (a, oe) (List.mem_append_left _ List.mem_cons_self)
  have pk : L2H.PinOk (X.suite a ((a, oe) :: pn)).stack H1 s1 (a, oe) := ⟨P1.1, P1.2.1, fun z => (List.mem_cons.mp (I1.stkSub a z)).elim P1.2.2.1 P1.2.2.2.1, P1.2.2.2.2⟩
  refine wpAny_call (codeAny_mono (run (X.suite a ((a, oe) :: pn)).A (X.suite a ((a, oe) :: pn)).stack s1 H1 ⟨us, []⟩ us vs Q a oe cls d ⟨hr.dp, hr.un⟩ rfl hz hf pk I1.env0 b r q) fun r s' hq => ?_)
  cases r with
  | error e =>
    obtain ⟨_, _, _, _, _, _, _, _, _, _, _, _, z⟩ := hq
    exact z.elim
  | ok fl =>
    cases fl with
    | ret u => exact I1.after hq
    | next => exact hq.elim
    | brk => exact hq.elim
    | cont => exact hq.elim
theorem kcHh {a : Addr} {oe : Obj} {cls : Value} {d : Option Addr} {pn : List (Addr × Obj)} {sp : Sp} (hz : L2N.Zn cls d oe) (hf : ∃ vs, oe.data = .fields vs) (c : CalH X.prog X.w X.K X.mg X.base k x sp) (hr : L2H.RoomH k X.A) (ha : PA (X.suite a ((a, oe) :: pn)) (e :: es) t)
    (hg : Gl X x := by rfl) (hdb : (x == ("__debug__" : Str)) = false := by decide)
    (he : starEach (e :: es) X.env = (false, eval e X.env) :: starEach es X.env := by rfl) (hpl : (backTo pos (starEach es X.env)).any (·.1) = false := by rfl) : PE (X.suite a ((a, oe) :: pn)) (.Call (.Name x p) (e :: es) [] pos) (uCall sp t) := by
  obtain ⟨f, fd, ps, hm, hk, hb, F⟩ := c.ex
  obtain ⟨vs, hv⟩ := hf
  exact L2H.pe_callH (X := X.suite a ((a, oe) :: pn)) (E := fun _ => E0) F ⟨hr.dp, hr.un⟩ ⟨(a, oe), ⟨rfl, vs, hv, hz.2.2 vs hv⟩, List.mem_cons_self ..⟩ hg hm hk hb (fun _ => passAt0) ha hdb he hpl
end
end KW

set_option Elab.async false
set_option linter.all false
set_option maxRecDepth 100000
set_option maxHeartbeats 4000000
/-! Kw13: comprehensions and calls while an exception is handled -/
namespace KW
open PySem PySem.Spec PyProof.Rows L2 L2H HotX
abbrev blkH (X : Cx) (s : Shared) (H : Hp) (scope : Scope) (cenv : Env) (fp : List Addr) : Cx := { X.blk s H scope cenv fp with pn := X.pn }
theorem blk_pin {X : Cx} {pins : List (Addr × Obj)} {σ σ' : L2.St} {H : Hp} {s s' : Shared} {scope : Scope} {ce : Env} {fp : List Addr} (I : L2.Inv X pins σ H s) (J : L2.Inv (X.blk s H scope ce fp) [] σ' H s') (k : ∀ b o, s.heap.get? b = some o → s'.heap.get? b = some o) (hL : ce.locals = s.heap.objs.size) :
    L2.Inv (blkH X s H scope ce fp) [] σ' H s' := by
  have ok := J.ok
  refine ⟨⟨ok.mod, ok.kind, ok.glob, ok.blt, ok.above, ok.inj, ok.has, ok.cab, ok.hd, ok.frames, ok.stk, ok.exf, ok.bs, ok.bsz, ok.noex, ok.exfs, ok.funs, ok.frf⟩, J.os, J.bare, J.base, J.loc, J.cell, J.free, J.freeC, fun p hp => ?_, J.hok, J.len⟩
  rw [List.append_nil] at hp
  obtain ⟨p1, p2, p3, p4, p5⟩ := I.pin p (List.mem_append_left _ hp)
  refine ⟨k _ _ p1, p2, ?_, fun z => ?_, p5⟩
  · show p.1 ≠ ce.locals
    rw [hL]; exact Nat.ne_of_lt (Heap.lt_size p1)
  · rcases List.mem_cons.mp (I.stkSub p.1 z) with z | z
    · exact p3 z
    · exact p4 z
theorem fail_thn {α : Type} {t : Sem α} {Q Q' : α → Shared → Prop} {M : Model} {A : Around} {E : Value → Shared → Prop} {s : Shared} (h : wpAny M A t Q (fun _ _ => False) s) (hQ : ∀ a s, Q a s → Q' a s) : wpAny M A t Q' E s := wpAny_mono h hQ fun _ _ z => z.elim
section
variable {X : Cx}
theorem lc_hot {pins : List (Addr × Obj)} {s : Shared} {σ : L2.St} {H : Hp} {Q : VK} {elt tg iter : Expr} {ifs : List Expr} {scope : Scope} {own : List (Str × Nat)} {pos pos' : Pos} {wi : TI} {g : TG} {tt : TT} {te : TE} {use : Option (Value → Sem Unit)} {Qf : Value → Shared → Prop}
    (hc : HotC X) (hN : X.N.Nodup) (I : L2.Inv X pins σ H s) (hi : PIH X tg iter wi) (ok : BlkOk X.N X.env.scope scope own)
    (hg : ∀ (s : Shared) (H : Hp) (C : Addr) (cl : List (Str × Addr)) (fp : List Addr), PG (blkH X s H scope (compEnvC scope cl C X.env) fp) tg g) (ht : ∀ (s : Shared) (H : Hp) (C : Addr) (cl : List (Str × Addr)) (fp : List Addr), PTs (blkH X s H scope (compEnvC scope cl C X.env) fp) ifs tt)
    (he : ∀ (s : Shared) (H : Hp) (C : Addr) (cl : List (Str × Addr)) (fp : List Addr), PE (blkH X s H scope (compEnvC scope cl C X.env) fp) elt te) (hs : ∀ x, foldedSetIterable iter X.env x = pure x) (h : tLc wi g tt te (own.map (·.2)) σ H Q)
    (hRR : ∀ D C s' m H', L2.Inv X pins σ H' s' → Q (.ref D) H' → s'.heap.Ns C m → FpOk X pins H' C → compPost (model X.prog X.w) X.A X.xe use Qf (.ref D) C (.ok .next) s') :
    wpAny (model X.prog X.w) X.A (comprehension (.ListComp elt [⟨tg, iter, ifs, 0⟩] scope pos) scope X.env pos' (newList []) false (eval iter X.env) use) Qf X.xe s := by
  have hfree : ∀ y ∈ scope.names, y.2 = .free → ∃ c, X.env.cells.lookup y.1 = some c := fun y hy e => (ok.free y hy e).elim (fun k => I.ok.has _ (.inl k)) fun k => I.ok.has _ (.inr k)
  refine wpAny_comprehension_free (use := use) rfl hs (closure_ok hfree) ok.kind (fun y hy e => by rw [ok.uniq y hy, e]) (thn (hi.run pins s σ H _ I h) fun xv s1 hx => thn hx fun itv s2 ⟨it, fp, tn, J, H2, e, I2, T, st2, f2, q⟩ => ?_)
  subst e
  refine wpAny_newObj_type (newEnv_comp ?_) (by show 0 ≤ sizeLine; decide)
  generalize hD : s2.heap.objs.size = D
  have hDn : H2 D = none := I2.hok.fresh (Nat.le_of_eq hD)
  obtain ⟨W, ⟨m0, w0⟩, turn⟩ := q D hDn
  generalize hs3 : ({ s2 with heap := s2.heap.push { cls := .type "list", data := .seq ([] : List Value).toArray } } : Shared) = s3
  have h3 : s3.heap = s2.heap.push { cls := .type "list", data := .seq ([] : List Value).toArray } := by rw [← hs3]
  have I3 : L2.Inv X pins σ (upd H2 D (.lst [])) s3 := by
    rw [← hs3]
    exact I2.laid (t' := s2.toks) (fun b o e => Heap.get?_push_of_some _ e) (Nat.le_of_eq hD) ⟨Nat.zero_le _, [], 0, .nil, by rw [← hD]; exact Heap.get?_push_size _ rfl⟩
  have f3 : ∀ b ∈ fp, FpOk X pins (upd H2 D (.lst [])) b ∧ b < s3.heap.objs.size := fun b hb => by
    obtain ⟨o, e, _⟩ := T.obj _ _ st2 b hb
    have hlt := Heap.lt_size e
    refine ⟨⟨?_, (f2 b hb).2⟩, by rw [h3, Heap.size_push]; exact Nat.lt_succ_of_lt hlt⟩
    rw [upd_ne (by rw [← hD]; exact Nat.ne_of_lt hlt)]
    exact (f2 b hb).1
  have st3 : tn 0 s3.heap := T.keep _ _ _ st2 fun b _ o e => by rw [h3]; exact Heap.get?_push_of_some _ e
  have I4' := block_start I3 ok hN f3
  have pg := hg s3 (upd H2 D (.lst [])) s3.heap.objs.size (cellsFrom (s3.heap.objs.size + 1) scope.names (cloFrom X.env.cells scope.names [])) fp
  have pt := ht s3 (upd H2 D (.lst [])) s3.heap.objs.size (cellsFrom (s3.heap.objs.size + 1) scope.names (cloFrom X.env.cells scope.names [])) fp
  have pe := he s3 (upd H2 D (.lst [])) s3.heap.objs.size (cellsFrom (s3.heap.objs.size + 1) scope.names (cloFrom X.env.cells scope.names [])) fp
  show codeAny _ _ (.compStart (.ListComp elt [⟨tg, iter, ifs, 0⟩] scope pos) 0 (.ref it) (.ref D) (compEnvC scope (cellsFrom (s3.heap.objs.size + 1) scope.names (cloFrom X.env.cells scope.names [])) s3.heap.objs.size X.env)) (compPost (model X.prog X.w) X.A X.xe use Qf (.ref D) s3.heap.objs.size) { s3 with heap := pushCells (s3.heap.push { cls := .type "dict", data := .dict #[] }) scope.names }
  have nfp : ∀ b ∈ fp, (upd H2 D (.lst [])) b = none := fun b hb => (f3 b hb).1.1
  generalize hce : compEnvC scope (cellsFrom (s3.heap.objs.size + 1) scope.names (cloFrom X.env.cells scope.names [])) s3.heap.objs.size X.env = ce at I4' pg pt pe ⊢
  have cL : ce.locals = s3.heap.objs.size := by subst hce; rfl
  generalize hH3 : upd H2 D (.lst []) = H3 at I3 I4' pg pt pe w0 nfp f3
  generalize hs4 : ({ s3 with heap := pushCells (s3.heap.push { cls := .type "dict", data := .dict #[] }) scope.names } : Shared) = s4 at I4' ⊢
  have k4 : ∀ b o, s3.heap.get? b = some o → s4.heap.get? b = some o := fun b o e => by rw [← hs4]; exact pushCells_keeps _ _ _ _ (Heap.get?_push_of_some _ e)
  have st4 : tn 0 s4.heap := T.keep _ _ _ st3 fun b _ o e => k4 b o e
  have I4 := blk_pin I3 I4' k4 cL
  have hcB : HotC (blkH X s3 H3 scope ce fp) := hc
  have stat : ∀ {σ' : L2.St} {H' : Hp} {s' : Shared}, L2.Inv (blkH X s3 H3 scope ce fp) [] σ' H' s' → (∀ b ∈ fp, H' b = none) → ∀ b ∈ fp, FpOk (blkH X s3 H3 scope ce fp) [] H' b := fun {σ' H' s'} I' hn b hb =>
    ⟨hn b hb, (I'.ok.exf b hb).1, I'.ok.exfs b hb, .inl hb, fun x c e => (I'.ok.exf b hb).2 x c e, fun p hp => by
      rw [List.append_nil] at hp
      exact (f3 b hb).1.2.2.2.2.2 p (List.mem_append_left _ hp)⟩
  have loop : codeAny (model X.prog X.w) X.A (.compLoop (.ListComp elt [⟨tg, iter, ifs, 0⟩] scope pos) 0 (.ref it) (.ref D) ce) (compPost (model X.prog X.w) X.A X.xe use Qf (.ref D) s3.heap.objs.size) s4 := by
    refine compLoop_any (fun n s' => ∃ i H', L2.Inv (blkH X s3 H3 scope ce fp) [] (wipe σ (own.map (·.2))) H' s' ∧ tn i s'.heap ∧ (∀ b ∈ fp, H' b = none) ∧ W i n H') ?_ m0 ⟨0, H3, I4, st4, nfp, w0⟩
    rintro n s5 ⟨i, H5, I5, st5, n5, w5⟩
    rcases turn i n H5 w5 with ⟨stop, qq⟩ | ⟨go, Nx, hNx, step⟩
    · refine fail_thn (T.done (blkH X s3 H3 scope ce fp) rfl rfl rfl hcB i [] s5 _ H5 (fun _ _ => False) I5 (stat I5 n5) st5 stop) fun r s6 ⟨hr, I6⟩ => ?_
      subst hr
      have I7 : L2.Inv X pins σ H5 s6 := I3.call' (ch := fp) I6.os I6.base I6.hok I6.bare fun b hb => ⟨(f3 b hb).1.2.2.2.1, (f3 b hb).1.2.1, (f3 b hb).1.2.2.2.2.1, (f3 b hb).1.2.2.2.2.2⟩
      have nC : H5 s3.heap.objs.size = none := by
        have z : H5 ce.locals = none := I6.free
        rw [cL] at z; exact z
      obtain ⟨m, hn, _⟩ := I6.loc
      have hn : s6.heap.Ns ce.locals m := hn
      rw [cL] at hn
      exact hRR D s3.heap.objs.size s6 m H5 I7 qq hn (I3.fpOk (Nat.le_refl _) nC)
    · refine fail_thn (T.item (blkH X s3 H3 scope ce fp) rfl rfl rfl hcB i [] s5 _ H5 (fun _ _ => False) I5 (stat I5 n5) st5 go) fun r s6 ⟨u, hr, h6⟩ => ?_
      subst hr
      refine fail_thn h6 fun _ s7 ⟨x, H7, I7, r7, y7, st7, n7⟩ => ?_
      refine fail_thn (pg.run _ s7 _ H7 x u _ (I7.pinned (stat I7 n7) (T.obj _ _ st7)) r7 (step x H7 y7)) fun _ s8 ⟨σ8, H8, I8, hw8, q8⟩ => ?_
      refine fail_thn (pt.run _ s8 σ8 H8 _ I8 q8) fun b s9 ⟨H9, I9, q9⟩ => ?_
      have fin : ∀ {s' : Shared} {H' : Hp}, L2.Inv (blkH X s3 H3 scope ce fp) ([] ++ pinsAt fp s7.heap) σ8 H' s' → Nx H' → ∃ m, m < n ∧ ∃ i H', L2.Inv (blkH X s3 H3 scope ce fp) [] (wipe σ (own.map (·.2))) H' s' ∧ tn i s'.heap ∧ (∀ b ∈ fp, H' b = none) ∧ W i m H' := fun {s' H'} I' nx => by
        obtain ⟨m', hm, w'⟩ := hNx H' nx
        have pin' : ∀ b ∈ fp, ∀ o, s7.heap.get? b = some o → s'.heap.get? b = some o ∧ H' b = none := fun b hb o e =>
          let z := I'.pin (b, o) (List.mem_append_right _ (List.mem_append_right _ (mem_pinsAt hb e)))
          ⟨z.1, z.2.1⟩
        refine ⟨m', hm, i + 1, H', (I'.unpinned (pins := [])).weak (by rw [← hw8, wipe_length]) (fun j v e => ?_), T.keep _ _ _ st7 fun b hb o e => (pin' b hb o e).1, fun b hb => ?_, w'⟩
        · rw [← hw8] at e
          exact (wipe_some e).1
        · obtain ⟨o, e, _⟩ := T.obj _ _ st7 b hb
          exact (pin' b hb o e).2
      cases b with
      | false =>
        simp only [Bool.false_eq_true, if_false] at q9 ⊢
        exact fin I9 q9
      | true =>
        simp only [if_true] at q9 ⊢
        refine fail_thn (pe.run _ s9 σ8 H9 _ I9 q9) fun z s10 ⟨yv, H10, I10, r10, acc, hD10, hz10, nx⟩ => ?_
        exact app_ok (X := blkH X s3 H3 scope ce fp) I10 hD10 hz10 r10 fun s11 I11 => fin I11 nx
  exact codeAny_compStart_list loop (T.self X.A 0 _ _ _ st4 loop)
theorem k_lcH {elt tg iter : Expr} {ifs : List Expr} {scope : Scope} {own : List (Str × Nat)} {pos : Pos} {wi : TI} {g : TG} {tt : TT} {te : TE} (hc : HotC X) (hN : X.N.Nodup) (hi : PIH X tg iter wi) (ok : BlkOk X.N X.env.scope scope own)
    (hg : ∀ (s : Shared) (H : Hp) (C : Addr) (cl : List (Str × Addr)) (fp : List Addr), PG (blkH X s H scope (compEnvC scope cl C X.env) fp) tg g) (ht : ∀ (s : Shared) (H : Hp) (C : Addr) (cl : List (Str × Addr)) (fp : List Addr), PTs (blkH X s H scope (compEnvC scope cl C X.env) fp) ifs tt)
    (he : ∀ (s : Shared) (H : Hp) (C : Addr) (cl : List (Str × Addr)) (fp : List Addr), PE (blkH X s H scope (compEnvC scope cl C X.env) fp) elt te) (hs : ∀ x, foldedSetIterable iter X.env x = pure x := by intro _; rfl) :
    PE X (.ListComp elt [⟨tg, iter, ifs, 0⟩] scope pos) (uLc wi g tt te (own.map (·.2))) := by
  refine ⟨fun pins s σ H Q I h => ?_⟩
  rw [eval_ListComp]
  refine lc_hot hc hN I hi ok hg ht he hs h fun D C s' m H' I' q hn ⟨f0, f1, f2, f3, f4, f5⟩ => ⟨m, hn, fun h'' sb => ?_⟩
  exact ⟨.ref D, H', I'.turned (t' := s'.toks) (fun b o hb e => (sb.2 b hb).trans e) f0 f1 f3 f4 f5, rfl, q⟩
theorem k_setLcH {i : Nat} {y : Str} {py : Pos} {elt tg iter : Expr} {ifs : List Expr} {scope : Scope} {own : List (Str × Nat)} {pos spos : Pos} {wi : TI} {g : TG} {tt : TT} {te : TE} (hc : HotC X) (hN : X.N.Nodup) (hy : X.N[i]? = some y) (hyl : X.env.scope.names.lookup y = some .local)
    (hsw : swapsWith (.ListComp elt [⟨tg, iter, ifs, 0⟩] scope pos) (some (.Name y py)) spos.line X.env = pure true) (hi : PIH X tg iter wi) (ok : BlkOk X.N X.env.scope scope own)
    (hg : ∀ (s : Shared) (H : Hp) (C : Addr) (cl : List (Str × Addr)) (fp : List Addr), PG (blkH X s H scope (compEnvC scope cl C X.env) fp) tg g) (ht : ∀ (s : Shared) (H : Hp) (C : Addr) (cl : List (Str × Addr)) (fp : List Addr), PTs (blkH X s H scope (compEnvC scope cl C X.env) fp) ifs tt)
    (he : ∀ (s : Shared) (H : Hp) (C : Addr) (cl : List (Str × Addr)) (fp : List Addr), PE (blkH X s H scope (compEnvC scope cl C X.env) fp) elt te) (hs : ∀ x, foldedSetIterable iter X.env x = pure x := by intro _; rfl) :
    PS X (.Assign [.Name y py] (.ListComp elt [⟨tg, iter, ifs, 0⟩] scope pos) spos) (tAsg (uLc wi g tt te (own.map (·.2))) (gName i)) := by
  refine ⟨fun pins s σ H D I h => ?_⟩
  have h' : tLc wi g tt te (own.map (·.2)) σ H (fun x H1 => gName i x σ H1 D.nx) := h
  rw [exec_Assign_Name_used _ _ _ _ hsw]
  refine wpAny_bind (wpAny_standAt (wpAny_bind ?_))
  show wpAny _ X.A (comprehension (.ListComp elt [⟨tg, iter, ifs, 0⟩] scope pos) scope X.env (firstIterPos [⟨tg, iter, ifs, 0⟩] pos) (newList []) false (eval iter X.env) (some (assign (.Name y py) X.env)) >>= fun _ => pure ()) _ _ s
  refine wpAny_bind (thn (lc_hot (Qf := fun _ s' => SP X pins D .next s') hc hN I hi ok hg ht he hs h' fun L C s' m H' I' q hn ⟨f0, f1, f2, f3, f4, f5⟩ => ?_) fun _ s' hq => wpAny_pure (wpAny_pure hq))
  show wpAny _ _ (assign (.Name y py) X.env (.ref L)) _ _ _
  refine wpAny_assign_Name (store_ok2 (v := V.ref L) I' hN hy (.inl hyl) rfl (fun s2 I2 ⟨a, sb, ha⟩ => ?_) (.inr hyl))
  have haC : C ≠ a := ha.elim (fun z => by rw [z]; exact f1) fun z e => f4 y a z e.symm
  exact ⟨m, hn.sameBut sb haC, fun h3 sb3 => ⟨_, H', I2.turned (t' := s2.toks) (fun b o hb e => (sb3.2 b hb).trans e) f0 f1 f3 f4 f5, q⟩⟩
end
/-! ### calls -/
structure CalMH (P : Program) (w : World) (K : Frag) (mg : Str → Option Value) (base : Heap) (k : Nat) (C : Addr) (m : Str) (sp : Sp) : Prop where
  cls : Cls K C
  ex : ∃ (f : Addr) (fd : FuncData) (ps : List Str), Meth K C m f ∧ Binds K fd ps [] ∧ FnH P w K mg base (L2N.CX P w) k f fd ps sp
section
variable {P : Program} {w : World} {K : Frag} {mg : Str → Option Value} {base : Heap}
theorem hotC_of {A : Around} {p : Addr × Obj} {CX : CXT} {N : List Str} {qual : Str} {scope : Scope} {f : Addr} {cd : Value} {outer : List Env} {s : Shared} {H : Hp} {E : XK} (h : Hot1 A p) : HotC (cxH CX P w K mg base N qual scope f cd A outer s H E p) := ⟨p, h, List.mem_cons_self ..⟩
theorem DefAt.okHH {x qual : Str} {st : Stmt} {N ps : List Str} {k : Nat} {sp : Sp} (D : DefAt K mg x qual st ps) (S : FnScope N ps (defScope st)) (len : ∀ vs H Q E, sp vs H Q E → vs.length = ps.length)
    (hbody : ∀ (f : Addr) (cdv : Value) (A : Around) (outer : List Env) (s : Shared) (H : Hp) (vs : List V) (Q : VK) (E : XK) (pp : Addr × Obj), HotC (cxH (L2N.CX P w) P w K mg base N qual (defScope st) f cdv A outer s H E pp) → RoomH k (A.deeper (envOfC qual (defScope st) s.heap.objs.size f cdv)) → sp vs H Q E →
      ∃ t, PSs (cxH (L2N.CX P w) P w K mg base N qual (defScope st) f cdv A outer s H E pp) (defBody st) t ∧ t { nx := fun _ H' => Q .non H', rt := Q } (start N vs) H) : CalH P w K mg base (k + 1) x sp := by
  obtain ⟨f, fd, hm, F, hb⟩ := D.ex
  refine ⟨f, fd, ps, hm, F.kp, hb, ?_⟩
  obtain ⟨oc, od, kV, doc, pm, an, cdv, ct, osl, rfl, lk, hcd⟩ := F.ex
  exact fn_ofH lk hcd S len fun A outer s H vs Q E pp hot hr hsp => hbody f cdv A outer s H vs Q E pp (hotC_of hot) hr hsp
theorem MetAt.okH {C : Addr} {m qual : Str} {st : Stmt} {N ps : List Str} {k : Nat} {sp : Sp} (D : MetAt K C m qual st ps) (c : Cls K C) (S : FnScope N ps (defScope st)) (len : ∀ vs H Q E, sp vs H Q E → vs.length = ps.length)
    (hbody : ∀ (f : Addr) (cdv : Value) (A : Around) (outer : List Env) (s : Shared) (H : Hp) (vs : List V) (Q : VK) (E : XK) (pp : Addr × Obj), HotC (cxH (L2N.CX P w) P w K mg base N qual (defScope st) f cdv A outer s H E pp) → RoomH k (A.deeper (envOfC qual (defScope st) s.heap.objs.size f cdv)) → sp vs H Q E →
      ∃ t, PSs (cxH (L2N.CX P w) P w K mg base N qual (defScope st) f cdv A outer s H E pp) (defBody st) t ∧ t { nx := fun _ H' => Q .non H', rt := Q } (start N vs) H) : CalMH P w K mg base (k + 1) C m sp := by
  obtain ⟨f, M, D⟩ := D.ex
  obtain ⟨fd, F, hb⟩ := D.ex
  obtain ⟨ds, hd, b⟩ := hb 0 (Nat.le_refl _)
  cases hd
  refine ⟨c, f, fd, ps, M, b, ?_⟩
  obtain ⟨oc, od, dV, kV, doc, pm, an, cdv, ct, osl, rfl, lk, hcd, _, _⟩ := F.ex
  exact fn_ofH lk hcd S len fun A outer s H vs Q E pp hot hr hsp => hbody f cdv A outer s H vs Q E pp (hotC_of hot) hr hsp
end
theorem hotC_suite {X : Cx} {a : Addr} {oe : Obj} {cls : Value} {d : Option Addr} {pn : List (Addr × Obj)} (hz : L2N.Zn cls d oe) (hf : ∃ vs, oe.data = .fields vs) : HotC (X.suite a ((a, oe) :: pn)) :=
  let ⟨vs, hv⟩ := hf
  ⟨(a, oe), ⟨rfl, vs, hv, hz.2.2 vs hv⟩, List.mem_cons_self ..⟩
section
variable {X : Cx} {k : Nat} {C : Addr} {m x : Str} {sp : Sp} {o e : Expr} {es : List Expr} {ta : TE} {t : TA} {apos p pos : Pos} {pl : Sem Bool}
theorem kcG (hc : HotC X) (c : CalH X.prog X.w X.K X.mg X.base k x sp) (hr : RoomH k X.A) (ha : PA X (e :: es) t) (hg : Gl X x := by rfl) (hdb : (x == ("__debug__" : Str)) = false := by decide)
    (he : starEach (e :: es) X.env = (false, eval e X.env) :: starEach es X.env := by rfl) (hpl : (backTo pos (starEach es X.env)).any (·.1) = false := by rfl) : PE X (.Call (.Name x p) (e :: es) [] pos) (uCall sp t) := by
  obtain ⟨f, fd, ps, hm, hk, hb, F⟩ := c.ex
  exact L2H.pe_callH (E := fun _ => E0) F hr hc hg hm hk hb (fun _ => passAt0) ha hdb he hpl
theorem kmG (hc : HotC X) (c : CalMH X.prog X.w X.K X.mg X.base k C m sp) (hr : RoomH k X.A) (he : PE X o ta) (ha : PA X (e :: es) t)
    (hst : starEach (e :: es) X.env = (false, eval e X.env) :: starEach es X.env := by rfl) (hpl : (backTo pos (starEach es X.env)).any (·.1) = false := by rfl)
    (ht : eval (.Call (.Attribute o m apos) (e :: es) [] pos) X.env = (do
      let ov ← eval o X.env
      standAt apos.atName
      let (f, first) ← holding [ov] (getMethod ov m pl)
      callWith pos f first (backTo pos (starEach (e :: es) X.env)) (backToKw pos (keywordEach [] X.env))) := by rfl) :
    PE X (.Call (.Attribute o m apos) (e :: es) [] pos) (uMet C m sp (fun _ => E0) ta t) := by
  obtain ⟨cl, f, fd, ps, hm, hb, F⟩ := c
  refine ⟨fun pins s σ H Q I h => PySem.W.methodCall_KW (pl := pl) (thn (he.run pins s σ H _ I h) fun u s1 ⟨x, H1, I1, rx, hu⟩ => ?_) ht⟩
  obtain ⟨a, dx, fs, ex, ea, l, q⟩ := uMt_of hu
  subst ex
  obtain rfl : u = Value.ref a := rx
  refine getmeth_ok I1 ea cl hm l (PySem.W.callWith_K (h₀ := X.base) I.ok.mod.kin hm.kp (thn (ha.run pos pins s1 σ H1 _ I1 q) fun us s2 ⟨vs, H2, I2, r, q2⟩ => ⟨I2.kIn, ?_⟩) hst hpl)
  exact run_fnH (us := .ref a :: us) (vs := .ref a :: vs) (E := fun _ => E0) F hr hc hb passAt0 I2 (.cons rfl r) q2
theorem km0G (hc : HotC X) (c : CalMH X.prog X.w X.K X.mg X.base k C m sp) (hr : RoomH k X.A) (he : PE X o ta)
    (ht : eval (.Call (.Attribute o m apos) [] [] pos) X.env = (do
      let ov ← eval o X.env
      standAt apos.atName
      let (f, first) ← holding [ov] (getMethod ov m pl)
      callWith pos f first (backTo pos (starEach [] X.env)) (backToKw pos (keywordEach [] X.env))) := by rfl) :
    PE X (.Call (.Attribute o m apos) [] [] pos) (uMet C m sp (fun _ => E0) ta tNil) := by
  obtain ⟨cl, f, fd, ps, hm, hb, F⟩ := c
  refine ⟨fun pins s σ H Q I h => PySem.W.methodCall_KW (pl := pl) (thn (he.run pins s σ H _ I h) fun u s1 ⟨x, H1, I1, rx, hu⟩ => ?_) ht⟩
  obtain ⟨a, dx, fs, ex, ea, l, q⟩ := uMt_of hu
  subst ex
  obtain rfl : u = Value.ref a := rx
  exact getmeth_ok I1 ea cl hm l (PySem.W.callWith_K0 (first := [.ref a]) I1.kIn hm.kp (run_fnH (us := [.ref a]) (vs := [.ref a]) (E := fun _ => E0) F hr hc hb passAt0 I1 (.cons rfl .nil) q))
end
end KW

set_option Elab.async false
set_option linter.all false
set_option maxRecDepth 100000
set_option maxHeartbeats 4000000
/-! Kw6: methods with defaults, tuples among the constants, {k: v}, max of three, slices of tuples, tuple() -/
namespace KW
open PySem PySem.Spec PyProof.Rows L2
structure MetAtD (K : Frag) (C : Addr) (m qual : Str) (st : Stmt) (ps : List Str) (dvs : List V) : Prop where
  ex : ∃ f, Meth K C m f ∧ DfnAt K m qual st ps dvs f
structure CalMD (P : Program) (w : World) (K : Frag) (mg : Str → Option Value) (base : Heap) (k : Nat) (C : Addr) (m : Str) (dvs : List V) (sp : Sp) : Prop where
  cls : Cls K C
  ex : ∃ (f : Addr) (fd : FuncData) (ps : List Str), Meth K C m f ∧ FnOk P w K mg base (L2N.CX P w) k f fd ps sp ∧ ∀ j, j ≤ dvs.length → ∃ ds, Vals (dvs.drop j) ds ∧ Binds K fd ps ds
section
variable {P : Program} {w : World} {K : Frag} {mg : Str → Option Value} {base : Heap}
theorem MetAtD.ok {C : Addr} {m qual : Str} {st : Stmt} {N ps : List Str} {dvs : List V} {k : Nat} {sp : Sp} (D : MetAtD K C m qual st ps dvs) (c : Cls K C) (S : FnScope N ps (defScope st)) (len : ∀ vs H Q E, sp vs H Q E → vs.length = ps.length)
    (hbody : ∀ (f : Addr) (cdv : Value) (A : Around) (outer : List Env) (s : Shared) (H : Hp) (vs : List V) (Q : VK) (E : XK), Room k (A.deeper (envOfC qual (defScope st) s.heap.objs.size f cdv)) → sp vs H Q E →
      ∃ t, PSs (cxOf (L2N.CX P w) P w K mg base N qual (defScope st) f cdv A outer s H E) (defBody st) t ∧ t { nx := fun _ H' => Q .non H', rt := Q } (start N vs) H) : CalMD P w K mg base (k + 1) C m dvs sp := by
  obtain ⟨f, M, D⟩ := D.ex
  obtain ⟨fd, F, hb⟩ := D.fn S len hbody
  exact ⟨c, f, fd, ps, M, F, hb⟩
/-- a method that is never called here -/
theorem MetAt.dead {C : Addr} {m qual : Str} {st : Stmt} {ps : List Str} {k : Nat} (D : MetAt K C m qual st ps) (c : Cls K C) : CalM P w K mg base k C m (fun _ _ _ _ => False) := by
  obtain ⟨f, M, fd, F, hb⟩ := D.ex
  obtain ⟨ds, hd, b⟩ := hb 0 (Nat.le_refl _)
  cases hd
  exact ⟨c, f, fd, ps, M, b, fun _ _ _ _ h => h.elim, fun _ _ _ _ _ _ _ _ _ _ _ _ _ h => h.elim⟩
theorem metAt_mkD {C f T : Addr} {m qual : Str} {st : Stmt} {ps : List Str} {oc : Value} {od an : Option Addr} {osl : Array (Option Value)} {kV doc pm cdv ct : Value} {dvs : List V} {its : List Value} {o : Obj} {n : Nat} (a : PySem.W.findIn K (.ref C) m = some (some (.ref f))) (fn : PySem.W.isFn K (.ref f) = true) (kp : PySem.W.keepIn K (.ref f) = true)
    (l : K.lookup f = some ⟨oc, od, .func (PySem.W.fnOf m qual (defArgs st) (defBody st) (defScope st) (.ref T) kV doc pm an cdv ct), osl⟩) (c : PySem.W.codeIn K cdv qual = true)
    (lT : K.lookup T = some o) (oT : o.data = .seq its.toArray n) (r : Vals dvs its) (hd : dvs ≠ []) (hl : dvs.length ≤ ps.length)
    (hb : ∀ j, j ≤ dvs.length → ∀ (T : Addr) (kV doc pm : Value) (an : Option Addr) (cdv ct : Value) (us its : List Value), us.length = ps.length - (dvs.length - j) → its.length = dvs.length →
      ∃ k, bindArgs (PySem.W.fnOf m qual (defArgs st) (defBody st) (defScope st) (.ref T) kV doc pm an cdv ct) ⟨us, []⟩ = seqItems? (.ref T) >>= k ∧ k (some its.toArray) = pure (ps.zip (us ++ its.drop j))) : MetAtD K C m qual st ps dvs := by
  have F : FunD K m qual (defArgs st) (defBody st) (defScope st) dvs [] f _ := ⟨⟨oc, od, .ref T, kV, doc, pm, an, cdv, ct, osl, rfl, l, c, .inr ⟨hd, T, o, its, n, rfl, lT, oT, r⟩, .inl rfl⟩, kp⟩
  exact ⟨f, ⟨a, fn, kp⟩, _, F, fun j hj => F.binds1 (ps.length - (dvs.length - j)) j hd (by omega) (hb j hj)⟩
end
/-- o.m(args), where the last ones are taken from the defaults -/
def uMetD (C : Addr) (m : Str) (sp : Sp) (dv : List V) (ta : TE) (t : TA) : TE := fun σ H Q => ta σ H fun x H1 => uMtD C m sp dv t σ x H1 Q
where uMtD (C : Addr) (m : Str) (sp : Sp) (dv : List V) (t : TA) (σ : L2.St) : V → Hp → VK → Prop
  | .ref a, H1, Q => ∃ dx fs, H1 a = some (.ins C dx fs) ∧ fs.lookup m = none ∧ t σ H1 fun vs H2 => sp (.ref a :: (vs ++ dv)) H2 Q E0
  | _, _, _ => False
theorem uMtD_e {C : Addr} {m : Str} {sp : Sp} {dv : List V} {t : TA} {σ : L2.St} {a : Addr} {H : Hp} {Q : VK} : uMetD.uMtD C m sp dv t σ (.ref a) H Q = ∃ dx fs, H a = some (.ins C dx fs) ∧ fs.lookup m = none ∧ t σ H fun vs H2 => sp (.ref a :: (vs ++ dv)) H2 Q E0 := rfl
section
variable {X : Cx} {k : Nat} {C : Addr} {m : Str} {sp : Sp} {o e : Expr} {es : List Expr} {ta : TE} {t : TA} {apos pos : Pos} {pl : Sem Bool} {dvs : List V}
theorem kmD (j : Nat) (c : CalMD X.prog X.w X.K X.mg X.base k C m dvs sp) (hr : Room k X.A) (he : PE X o ta) (ha : PA X (e :: es) t) (hj : j ≤ dvs.length := by decide)
    (hst : starEach (e :: es) X.env = (false, eval e X.env) :: starEach es X.env := by rfl) (hpl : (backTo pos (starEach es X.env)).any (·.1) = false := by rfl)
    (ht : eval (.Call (.Attribute o m apos) (e :: es) [] pos) X.env = (do
      let ov ← eval o X.env
      standAt apos.atName
      let (f, first) ← holding [ov] (getMethod ov m pl)
      callWith pos f first (backTo pos (starEach (e :: es) X.env)) (backToKw pos (keywordEach [] X.env))) := by rfl) :
    PE X (.Call (.Attribute o m apos) (e :: es) [] pos) (uMetD C m sp (dvs.drop j) ta t) := by
  obtain ⟨cl, f, fd, ps, hm, F, hb⟩ := c
  obtain ⟨ds, hd, b⟩ := hb j hj
  refine ⟨fun pins s σ H Q I h => ?_⟩
  refine PySem.W.methodCall_KW (pl := pl) (thn (he.run pins s σ H _ I h) fun u s1 ⟨x, H1, I1, rx, hu⟩ => ?_) ht
  cases x with
  | ref a =>
    obtain ⟨dx, fs, ea, l, q⟩ := hu
    obtain rfl : u = Value.ref a := rx
    refine getmeth_ok I1 ea cl hm l ?_
    refine PySem.W.callWith_K (h₀ := X.base) I.ok.mod.kin hm.kp (thn (ha.run pos pins s1 σ H1 _ I1 q) fun us s2 ⟨vs, H2, I2, r, q2⟩ => ⟨I2.kIn, ?_⟩) hst hpl
    exact run_fn (us := .ref a :: us) (vs := .ref a :: vs) F hr b hd pass0 I2 (.cons rfl r) q2
  | _ => exact hu.elim
end
/-! ### tuples among the constants -/
structure GT (K : Frag) (mg : Str → Option Value) (x : Str) (a : Addr) (xs : List V) : Prop where
  g : mg x = some (.ref a)
  sq : ∀ H, SqT K H a xs
theorem gt_mk {K : Frag} {mg : Str → Option Value} {x : Str} {a : Addr} {xs : List V} {o : Obj} {its : List Value} {n : Nat} (g : mg x = some (.ref a)) (l : K.lookup a = some o) (c : o.cls = .type "tuple") (d : o.data = .seq its.toArray n) (z : its.length ≤ 1000) (r : Vals xs its) : GT K mg x a xs :=
  ⟨g, fun H => .inr ⟨o, its.toArray, n, l, c, d, by rw [sizeLine_eq]; simp; omega, by simpa using r⟩⟩
theorem in_gt {K : Frag} {H : Hp} {l : Addr} {x : Str} {xs : List Str} {Q : VK} (h : SqT K H l (xs.map V.str)) (q : Q (.bl (decide (x ∈ xs))) H) : rIn K false (.str x) (.ref l) H Q := ⟨l, _, rfl, .inr h, rfl, flat_strs xs, by rw [inV_strs]; exact q⟩
/-! ### {k: v} -/
def uD1 (p : Addr) : V → V → Hp → VK → Prop
  | .int i, v, H, Q => H p = some (.dK []) ∧ Q (.ref p) (upd H p (.dK [(.inl i, v)]))
  | .str i, v, H, Q => H p = some (.dK []) ∧ Q (.ref p) (upd H p (.dK [(.inr i, v)]))
  | _, _, _, _ => False
theorem uD1_e1 {p : Addr} {i : Int} {v : V} {H : Hp} {Q : VK} : uD1 p (.int i) v H Q = (H p = some (.dK []) ∧ Q (.ref p) (upd H p (.dK [(.inl i, v)]))) := rfl
theorem uD1_e2 {p : Addr} {i : Str} {v : V} {H : Hp} {Q : VK} : uD1 p (.str i) v H Q = (H p = some (.dK []) ∧ Q (.ref p) (upd H p (.dK [(.inr i, v)]))) := rfl
def uDict1 (tk tv : TE) : TE := fun σ H Q => ∀ p, H p = none → tk σ (upd H p (.dK [])) fun k H2 => tv σ H2 fun v H3 => uD1 p k v H3 Q
section
variable {X : Cx}
theorem k_dict1 {k v : Expr} {tk tv : TE} {pos : Pos} (hk : PE X k tk) (hv : PE X v tv) : PE X (.Dict [some k] [v] pos) (uDict1 tk tv) := by
  refine ⟨fun pins s σ H Q I h => ?_⟩
  refine (pe_disp (pps_cons (PEw hk (t' := tk) fun _ _ _ h => h) (PEw hv (t' := tv) fun _ _ _ h => h) pps_nil) rfl rfl (by simp) (by simp)).run pins s σ H Q I fun p hp => ?_
  have h := h p hp
  have e : (fun k H2 => tv σ H2 fun v H3 => uD1 p k v H3 Q) = fun k H2 => tv σ H2 fun v H3 => H3 p = some (.dK []) ∧ ∃ kvs : List (Key × V), [(k, v)] = kvs.map (fun kv => (kV kv.1, kv.2)) ∧ kvs.length ≤ 15 ∧ Q (.ref p) (upd H3 p (.dK (mergeK [] kvs))) := by
    funext k H2
    refine congrArg (tv σ H2) ?_
    funext v H3
    apply propext
    constructor
    · intro h
      unfold uD1 at h
      split at h
      · exact ⟨h.1, [(.inl _, v)], rfl, by simp, h.2⟩
      · exact ⟨h.1, [(.inr _, v)], rfl, by simp, h.2⟩
      · exact h.elim
    · rintro ⟨h1, kvs, e, -, q⟩
      match kvs, e with
      | [(.inl i, v')], e =>
        simp only [List.map_cons, List.map_nil, List.cons.injEq, Prod.mk.injEq, and_true] at e
        obtain ⟨rfl, rfl⟩ := e
        exact ⟨h1, q⟩
      | [(.inr i, v')], e =>
        simp only [List.map_cons, List.map_nil, List.cons.injEq, Prod.mk.injEq, and_true] at e
        obtain ⟨rfl, rfl⟩ := e
        exact ⟨h1, q⟩
  rw [e] at h
  exact h
/-! ### max(a, b, c), slices, tuple() -/
def m2 (i j : Int) : Int := if i < j then j else i
def uMax3 : List V → Hp → VK → Prop
  | [.int i, .int j, .int k], H, Q => Q (.int (m2 (m2 i j) k)) H
  | _, _, _ => False
theorem uMax3_e {i j k : Int} {H : Hp} {Q : VK} : uMax3 [.int i, .int j, .int k] H Q = Q (.int (m2 (m2 i j) k)) H := rfl
theorem c_max3 (hc : X.calm = true) : CallR X (.builtin "max") uMax3 := CallRw (call_max3Nu hc) fun xs H Q h => by
  unfold uMax3 at h
  split at h
  · rename_i i j k
    refine ⟨.int i, .int j, .int k, .int (m2 (m2 i j) k), rfl, ?_, h⟩
    have e : ∀ i j : Int, nuMax2 (.int i) (.int j) = some (.int (m2 i j)) := fun i j => by
      unfold nuMax2 m2
      show (some (decide (i < j))).map _ = _
      by_cases c : i < j
      · simp [c]
      · simp [c]
    unfold nuMax3
    rw [e]
    exact e _ _
  · exact h.elim
def uSlA (K : Frag) : V → Option Int → Option Int → Hp → VK → Prop
  | .ref a, lo, hi, H, Q => rSlL K (.ref a) lo hi H Q ∨ rSlA K (.ref a) lo hi H Q
  | .str z, lo, hi, H, Q => z.length ≤ sizeLine ∧ Q (.str (cutS z lo hi)) H
  | _, _, _, _, _ => False
theorem uSlA_e1 {K : Frag} {a : Addr} {lo : Option Int} {hi : Option Int} {H : Hp} {Q : VK} : uSlA K (.ref a) lo hi H Q = (rSlL K (.ref a) lo hi H Q ∨ rSlA K (.ref a) lo hi H Q) := rfl
theorem uSlA_e2 {K : Frag} {z : Str} {lo : Option Int} {hi : Option Int} {H : Hp} {Q : VK} : uSlA K (.str z) lo hi H Q = (z.length ≤ sizeLine ∧ Q (.str (cutS z lo hi)) H) := rfl
theorem o_slA : SlR X (uSlA X.K) := SlRw (sl_list.or (sl_tupA.or sl_str)) fun x lo hi H Q h => by
  unfold uSlA at h
  split at h
  · exact h.elim .inl fun z => .inr (.inl z)
  · exact .inr (.inr ⟨_, rfl, h.1, h.2⟩)
  · exact h.elim
def uTuple (K : Frag) : List V → Hp → VK → Prop
  | [.ref p], H, Q => ∃ ys, (SqL K H p ys ∧ ∀ l, H l = none → Q (.ref l) (upd H l (.tup ys))) ∨ (SqT K H p ys ∧ Q (.ref p) H)
  | _, _, _ => False
theorem uTuple_e {K : Frag} {p : Addr} {H : Hp} {Q : VK} : uTuple K [.ref p] H Q = ∃ ys, (SqL K H p ys ∧ ∀ l, H l = none → Q (.ref l) (upd H l (.tup ys))) ∨ (SqT K H p ys ∧ Q (.ref p) H) := rfl
theorem c_tuple : CallR X (.type "tuple") (uTuple X.K) := CallRw call_tuple_of fun xs H Q h => by
  unfold uTuple at h
  split at h
  · obtain ⟨ys, h⟩ := h
    exact ⟨_, ys, rfl, h⟩
  · exact h.elim
def uLenDk : List V → Hp → VK → Prop
  | [.ref p], H, Q => ∃ kvs, H p = some (.dK kvs) ∧ Q (.int kvs.length) H
  | _, _, _ => False
theorem uLenDk_e {p : Addr} {H : Hp} {Q : VK} : uLenDk [.ref p] H Q = ∃ kvs, H p = some (.dK kvs) ∧ Q (.int kvs.length) H := rfl
theorem c_lenDk : CallR X (.builtin "len") uLenDk := CallRw call_lenD fun xs H Q h => by
  unfold uLenDk at h
  split at h
  · obtain ⟨kvs, h1, h2⟩ := h
    exact ⟨_, kvs, rfl, h1, h2⟩
  · exact h.elim
end
end KW

set_option Elab.async false
set_option linter.all false
set_option maxRecDepth 100000
set_option maxHeartbeats 4000000
/-! Kw14: methods with one keyword-only parameter; methods with a known code object, in the heat -/
namespace KW
open PySem PySem.Spec PyProof.Rows L2 L2H HotX
structure MetAtK (K : Frag) (C : Addr) (m qual : Str) (st : Stmt) (ps : List Str) (kn : Str) (dv : V) : Prop where
  ex : ∃ f, Meth K C m f ∧ ∃ fd, FunD K m qual (defArgs st) (defBody st) (defScope st) [] [(kn, dv)] f fd ∧ (∃ ds, Vals [dv] ds ∧ Binds K fd ps ds) ∧ ∃ mv : List Value, KBn K fd ps (ps.length - 1) [kn] (fun us ws => us ++ ws) (fun vs zs => vs ++ zs)
structure CalMK (P : Program) (w : World) (K : Frag) (mg : Str → Option Value) (base : Heap) (k : Nat) (C : Addr) (m kn : Str) (dv : V) (n : Nat) (sp : Sp) : Prop where
  cls : Cls K C
  ex : ∃ (f : Addr) (fd : FuncData) (ps : List Str), Meth K C m f ∧ FnOk P w K mg base (L2N.CX P w) k f fd ps sp ∧ ps.length = n + 1 ∧ (∃ ds, Vals [dv] ds ∧ Binds K fd ps ds) ∧ KBn K fd ps n [kn] (fun us ws => us ++ ws) (fun vs zs => vs ++ zs)
section
variable {P : Program} {w : World} {K : Frag} {mg : Str → Option Value} {base : Heap}
theorem MetAtK.ok {C : Addr} {m qual kn : Str} {dv : V} {st : Stmt} {N ps : List Str} {k n : Nat} {sp : Sp} (D : MetAtK K C m qual st ps kn dv) (c : Cls K C) (hn : ps.length = n + 1) (S : FnScope N ps (defScope st)) (len : ∀ vs H Q E, sp vs H Q E → vs.length = ps.length)
    (hbody : ∀ (f : Addr) (cdv : Value) (A : Around) (outer : List Env) (s : Shared) (H : Hp) (vs : List V) (Q : VK) (E : XK), Room k (A.deeper (envOfC qual (defScope st) s.heap.objs.size f cdv)) → sp vs H Q E →
      ∃ t, PSs (cxOf (L2N.CX P w) P w K mg base N qual (defScope st) f cdv A outer s H E) (defBody st) t ∧ t { nx := fun _ H' => Q .non H', rt := Q } (start N vs) H) : CalMK P w K mg base (k + 1) C m kn dv n sp := by
  obtain ⟨f, M, fd, F, b1, _, b2⟩ := D.ex
  have e : ps.length - 1 = n := by omega
  rw [e] at b2
  exact ⟨c, f, fd, ps, M, F.ok S len fun cdv A outer s H vs Q E hr hsp => hbody f cdv A outer s H vs Q E hr hsp, hn, b1, b2⟩
theorem metAtK_mk {C f D : Addr} {m qual kn : Str} {st : Stmt} {ps : List Str} {oc : Value} {od an : Option Addr} {osl : Array (Option Value)} {doc pm cdv ct u : Value} {dv : V} (a : PySem.W.findIn K (.ref C) m = some (some (.ref f))) (fn : PySem.W.isFn K (.ref f) = true) (kp : PySem.W.keepIn K (.ref f) = true)
    (l : K.lookup f = some ⟨oc, od, .func (PySem.W.fnOf m qual (defArgs st) (defBody st) (defScope st) .none (.ref D) doc pm an cdv ct), osl⟩) (c : PySem.W.codeIn K cdv qual = true) (hD : PySem.W.nsIn K D kn = some (some u)) (hu : RelV dv u) (hp : 1 ≤ ps.length)
    (hb : ∀ (D : Addr) (doc pm : Value) (an : Option Addr) (cdv ct : Value) (us ks : List Value), us.length = ps.length - 1 → ks.length = 1 → KwChain D ([kn].zip ks) (bindArgs (PySem.W.fnOf m qual (defArgs st) (defBody st) (defScope st) .none (.ref D) doc pm an cdv ct) ⟨us, []⟩) (ps.zip (us ++ ks)))
    (hk : ∀ (D : Addr) (doc pm : Value) (an : Option Addr) (cdv ct : Value) (us ws : List Value), us.length = ps.length - 1 → ws.length = 1 → bindArgs (PySem.W.fnOf m qual (defArgs st) (defBody st) (defScope st) .none (.ref D) doc pm an cdv ct) ⟨us, [kn].zip ws⟩ = pure (ps.zip (us ++ ws))) : MetAtK K C m qual st ps kn dv := by
  have F : FunD K m qual (defArgs st) (defBody st) (defScope st) [] [(kn, dv)] f _ := ⟨⟨oc, od, .none, .ref D, doc, pm, an, cdv, ct, osl, rfl, l, c, .inl ⟨rfl, rfl⟩, .inr ⟨D, rfl, fun q hq => by rw [List.mem_singleton.mp hq]; exact ⟨u, hD, hu⟩⟩⟩, kp⟩
  refine ⟨f, ⟨a, fn, kp⟩, _, F, F.binds0 (ps.length - 1) (by simp) (by simp; omega) hb, ?_⟩
  obtain ⟨mv, h⟩ := F.kbinds0 (ps := ps) (ps.length - 1) [kn] [] (fun us _ ws => us ++ ws) (by simp) (by simp) (fun r1 _ r3 => r1.append r3) fun D doc pm an cdv ct us mv ws h1 h2 h3 => hk D doc pm an cdv ct us ws h1 h3
  exact ⟨mv, h⟩
end
def t11 : List V → List V → (List V → Prop) → Prop
  | [v], [z], k => k [v, z]
  | _, _, _ => False
theorem t11_e {v z : V} {k : List V → Prop} : t11 [v] [z] k = k [v, z] := rfl
theorem t11_of {vs zs : List V} {k : List V → Prop} (h : t11 vs zs k) : vs.length = 1 ∧ zs.length = 1 ∧ k (vs ++ zs) := by
  unfold t11 at h
  split at h
  · exact ⟨rfl, rfl, h⟩
  · exact h.elim
/-- one value and one keyword -/
def tKw (t tk : TA) : TA := fun σ H Q => t σ H fun vs H1 => tk σ H1 fun zs H2 => t11 vs zs fun l => Q l H2
section
variable {X : Cx} {k : Nat} {C : Addr} {m kn : Str} {dv : V} {sp : Sp} {o e : Expr} {es : List Expr} {kws : List Keyword} {ta : TE} {t tk : TA} {apos pos : Pos} {pl : Sem Bool}
theorem kmK (c : CalMK X.prog X.w X.K X.mg X.base k C m kn dv 2 sp) (hr : Room k X.A) (he : PE X o ta) (ha : PA X (e :: es) t) (hkw : PK X kws tk)
    (hall : (backToKw pos (keywordEach kws X.env)).all (·.1.isSome) = true := by rfl) (hks : (backToKw pos (keywordEach kws X.env)).filterMap (·.1) = [kn] := by rfl)
    (hst : starEach (e :: es) X.env = (false, eval e X.env) :: starEach es X.env := by rfl) (hpl : ((backTo pos (starEach (e :: es) X.env)).any (·.1) || (backToKw pos (keywordEach kws X.env)).any (·.1.isNone)) = false := by rfl)
    (ht : eval (.Call (.Attribute o m apos) (e :: es) kws pos) X.env = (do
      let ov ← eval o X.env
      standAt apos.atName
      let (f, first) ← holding [ov] (getMethod ov m pl)
      callWith pos f first (backTo pos (starEach (e :: es) X.env)) (backToKw pos (keywordEach kws X.env))) := by rfl) :
    PE X (.Call (.Attribute o m apos) (e :: es) kws pos) (uMet C m sp (fun _ => E0) ta (tKw t tk)) := by
  obtain ⟨cl, f, fd, ps, hm, F, hn, _, hb⟩ := c
  refine ⟨fun pins s σ H Q I h => PySem.W.methodCall_KW (pl := pl) (thn (he.run pins s σ H _ I h) fun u s1 ⟨x, H1, I1, rx, hu⟩ => ?_) ht⟩
  obtain ⟨a, dx, fs, ex, ea, l, q⟩ := uMt_of hu
  subst ex
  obtain rfl : u = Value.ref a := rx
  refine getmeth_ok I1 ea cl hm l ?_
  refine PySem.W.callWith_KW (h₀ := X.base) I.ok.mod.kin hm.kp hall (thn (ha.run pos pins s1 σ H1 _ I1 q) fun us s2 ⟨vs, H2, I2, r, q2⟩ => ?_) hpl hst
  refine thn (hkw.run pos pins s2 σ H2 _ I2 q2) fun ws s3 ⟨zs, H3, I3, rz, q3⟩ => ⟨I3.kIn, ?_⟩
  obtain ⟨l1, l2, q3⟩ := t11_of q3
  rw [hks]
  exact run_fnN (us := .ref a :: us) (vs := .ref a :: vs) F hr hb pass0 I3 (.cons rfl r) rz (by rw [List.length_cons, l1]) (by rw [l2]; rfl) q3
theorem kmKd (c : CalMK X.prog X.w X.K X.mg X.base k C m kn dv 2 sp) (hr : Room k X.A) (he : PE X o ta) (ha : PA X (e :: es) t)
    (hst : starEach (e :: es) X.env = (false, eval e X.env) :: starEach es X.env := by rfl) (hpl : (backTo pos (starEach es X.env)).any (·.1) = false := by rfl)
    (ht : eval (.Call (.Attribute o m apos) (e :: es) [] pos) X.env = (do
      let ov ← eval o X.env
      standAt apos.atName
      let (f, first) ← holding [ov] (getMethod ov m pl)
      callWith pos f first (backTo pos (starEach (e :: es) X.env)) (backToKw pos (keywordEach [] X.env))) := by rfl) :
    PE X (.Call (.Attribute o m apos) (e :: es) [] pos) (uMetD C m sp [dv] ta t) := by
  obtain ⟨cl, f, fd, ps, hm, F, hn, b1, _⟩ := c
  obtain ⟨ds, hd, b⟩ := b1
  refine ⟨fun pins s σ H Q I h => PySem.W.methodCall_KW (pl := pl) (thn (he.run pins s σ H _ I h) fun u s1 ⟨x, H1, I1, rx, hu⟩ => ?_) ht⟩
  cases x with
  | ref a =>
    obtain ⟨dx, fs, ea, l, q⟩ := hu
    obtain rfl : u = Value.ref a := rx
    refine getmeth_ok I1 ea cl hm l (PySem.W.callWith_K (h₀ := X.base) I.ok.mod.kin hm.kp (thn (ha.run pos pins s1 σ H1 _ I1 q) fun us s2 ⟨vs, H2, I2, r, q2⟩ => ⟨I2.kIn, ?_⟩) hst hpl)
    exact run_fn (us := .ref a :: us) (vs := .ref a :: vs) F hr b hd pass0 I2 (.cons rfl r) q2
  | _ => exact False.elim hu
end
section
variable {X : Cx} {k : Nat} {C : Addr} {m : Str} {sp : Sp} {o e : Expr} {es : List Expr} {ta : TE} {t : TA} {apos pos : Pos} {pl : Sem Bool} {a : Addr} {oe : Obj} {cls : Value} {d : Option Addr} {pn : List (Addr × Obj)}
/-- within an except suite -/
theorem kmS (hz : L2N.Zn cls d oe) (hf : ∃ vs, oe.data = .fields vs) (c : CalMH X.prog X.w X.K X.mg X.base k C m sp) (hr : Room k X.A) (he : PE (X.suite a ((a, oe) :: pn)) o ta) (ha : PA (X.suite a ((a, oe) :: pn)) (e :: es) t)
    (hst : starEach (e :: es) X.env = (false, eval e X.env) :: starEach es X.env := by rfl) (hpl : (backTo pos (starEach es X.env)).any (·.1) = false := by rfl)
    (ht : eval (.Call (.Attribute o m apos) (e :: es) [] pos) X.env = (do
      let ov ← eval o X.env
      standAt apos.atName
      let (f, first) ← holding [ov] (getMethod ov m pl)
      callWith pos f first (backTo pos (starEach (e :: es) X.env)) (backToKw pos (keywordEach [] X.env))) := by rfl) :
    PE (X.suite a ((a, oe) :: pn)) (.Call (.Attribute o m apos) (e :: es) [] pos) (uMet C m sp (fun _ => E0) ta t) := kmG (X := X.suite a ((a, oe) :: pn)) (hotC_suite hz hf) c ⟨hr.dp, hr.un⟩ he ha hst hpl ht
theorem km0S (hz : L2N.Zn cls d oe) (hf : ∃ vs, oe.data = .fields vs) (c : CalMH X.prog X.w X.K X.mg X.base k C m sp) (hr : Room k X.A) (he : PE (X.suite a ((a, oe) :: pn)) o ta)
    (ht : eval (.Call (.Attribute o m apos) [] [] pos) X.env = (do
      let ov ← eval o X.env
      standAt apos.atName
      let (f, first) ← holding [ov] (getMethod ov m pl)
      callWith pos f first (backTo pos (starEach [] X.env)) (backToKw pos (keywordEach [] X.env))) := by rfl) :
    PE (X.suite a ((a, oe) :: pn)) (.Call (.Attribute o m apos) [] [] pos) (uMet C m sp (fun _ => E0) ta tNil) := km0G (X := X.suite a ((a, oe) :: pn)) (hotC_suite hz hf) c ⟨hr.dp, hr.un⟩ he ht
end
theorem DefAtA.okHH {P : Program} {w : World} {K : Frag} {mg : Str → Option Value} {base : Heap} {x y qual : Str} {st : Stmt} {N ps : List Str} {k : Nat} {sp : Sp} (D : DefAtA K mg x y qual st ps) (S : FnScope N ps (defScope st)) (len : ∀ vs H Q E, sp vs H Q E → vs.length = ps.length)
    (hbody : ∀ (f : Addr) (cdv : Value) (A : Around) (outer : List Env) (s : Shared) (H : Hp) (vs : List V) (Q : VK) (E : XK) (pp : Addr × Obj), HotC (cxH (L2N.CX P w) P w K mg base N qual (defScope st) f cdv A outer s H E pp) → RoomH k (A.deeper (envOfC qual (defScope st) s.heap.objs.size f cdv)) → sp vs H Q E →
      ∃ t, PSs (cxH (L2N.CX P w) P w K mg base N qual (defScope st) f cdv A outer s H E pp) (defBody st) t ∧ t { nx := fun _ H' => Q .non H', rt := Q } (start N vs) H) : CalH P w K mg base (k + 1) x sp := by
  obtain ⟨f, fd, hm, F, hb⟩ := D.ex
  refine ⟨f, fd, ps, hm, F.kp, hb, ?_⟩
  obtain ⟨oc, od, kV, doc, pm, an, cdv, ct, osl, rfl, lk, hcd⟩ := F.ex
  exact fn_ofH lk hcd S len fun A outer s H vs Q E pp hot hr hsp => hbody f cdv A outer s H vs Q E pp (hotC_of hot) hr hsp
theorem hu_ofH {k : Nat} {A : Around} (r : RoomH k A) : A.units + 1 < cLine := by have := r.un; omega
theorem MetAtC.okH {P : Program} {w : World} {K : Frag} {mg : Str → Option Value} {base : Heap} {C c : Addr} {m qual : Str} {st : Stmt} {N ps : List Str} {k : Nat} {sp : Sp} (D : MetAtC K C m qual st ps c) (cl : Cls K C) (S : FnScope N ps (defScope st)) (len : ∀ vs H Q E, sp vs H Q E → vs.length = ps.length)
    (hbody : ∀ (f : Addr) (A : Around) (outer : List Env) (s : Shared) (H : Hp) (vs : List V) (Q : VK) (E : XK) (pp : Addr × Obj), HotC (cxH (L2N.CX P w) P w K mg base N qual (defScope st) f (.ref c) A outer s H E pp) → RoomH k (A.deeper (envOfC qual (defScope st) s.heap.objs.size f (.ref c))) → sp vs H Q E →
      ∃ t, PSs (cxH (L2N.CX P w) P w K mg base N qual (defScope st) f (.ref c) A outer s H E pp) (defBody st) t ∧ t { nx := fun _ H' => Q .non H', rt := Q } (start N vs) H) : CalMH P w K mg base (k + 1) C m sp := by
  obtain ⟨f, M, fd, F, hc, hb⟩ := D.ex
  obtain ⟨oc, od, dV, kV, doc, pm, an, cdv, ct, osl, rfl, lk, hcd, _, _⟩ := F.ex
  have hc : cdv = .ref c := hc
  subst hc
  exact ⟨cl, f, _, ps, M, hb, fn_ofH lk hcd S len fun A outer s H vs Q E pp hot hr hsp => hbody f A outer s H vs Q E pp (hotC_of hot) hr hsp⟩
end KW

set_option Elab.async false
set_option linter.all false
set_option maxRecDepth 100000
set_option maxHeartbeats 4000000
namespace PySem
namespace KErr_limit
open PySem.W PySem.Calls PyProof.Rows PySem.HandSPX PySem.KErr
def eA (p1 p2 : Pos) : Arguments := { posonlyargs := [], args := [{ arg := "self", annotation := none, pos := p1 }, { arg := "limit", annotation := none, pos := p2 }], vararg := none, kwonlyargs := [], kw_defaults := [], kwarg := none, defaults := [] }
def eB (q : Nat → Pos) : List Stmt := [
  .Expr (.Call (.Attribute (.Call (.Name "super" (q 0)) [] [] (q 1)) "__init__" (q 2)) [.Call (.Name "str" (q 3)) [.Name "limit" (q 4)] [] (q 5)] [] (q 6)) (q 7),
  .Assign [.Attribute (.Name "self" (q 8)) "limit" (q 9)] (.Name "limit" (q 10)) (q 11)]
def eS : Scope := { kind := .function, names := [(PySem.Str.ofString "self", .local), (PySem.Str.ofString "limit", .local), (PySem.Str.ofString "__class__", .free), (PySem.Str.ofString "super", .globalImplicit), (PySem.Str.ofString "str", .globalImplicit)], isGenerator := false, isCoroutine := false, more := [] }
def MC (q : Nat → Pos) : Prop := ∀ env : Env, ∃ pl : Sem Bool, eval (.Call (.Attribute (.Call (.Name "super" (q 0)) [] [] (q 1)) "__init__" (q 2)) [.Call (.Name "str" (q 3)) [.Name "limit" (q 4)] [] (q 5)] [] (q 6)) env = (do
      let ov ← attributeBase (.Call (.Name "super" (q 0)) [] [] (q 1)) "__init__" env (eval (.Call (.Name "super" (q 0)) [] [] (q 1)) env)
      standAt (q 2).atName
      let (f, first) ← holding [ov] (getMethod ov "__init__" pl)
      callWith (q 6) f first (backTo (q 6) (starEach [.Call (.Name "str" (q 3)) [.Name "limit" (q 4)] [] (q 5)] env)) [])
def AC (q : Nat → Pos) : Prop := ∀ env : Env, swapsWith (.Name "limit" (q 10)) (some (.Attribute (.Name "self" (q 8)) "limit" (q 9))) (q 11).line env = pure false
/-- what the top leaves of the class x with the one field -/
structure ErrTxt (prog : Program) (K : Frag) (mg : Str → Option Value) (x qual : Str) (C fI cc cda : Addr) : Prop where
  gC : mg x = some (.ref C)
  cls : ∃ nm q N bs bm sn sub ab col dd k0 k1 k2 k3 k5, K.lookup C = some (excClassObj nm q C N bs bm true sn sub ab col dd k0 k1 k2 k3 k5 "ValueError.__new__") ∧ refsVE bm = true
  sup : ks_superIn K C C "__init__" = some (some (.builtin "ValueError.__init__"))
  sa : findIn K (.ref C) "__setattr__" = some (some (.builtin "object.__setattr__"))
  noN : findIn K (.ref C) "limit" = some none
  iC : findIn K (.ref C) "__init__" = some (some (.ref fI))
  tC : typeIn K (.ref fI) = some (.type "function")
  kC : keepIn K (.ref C) = true
  exC : subIn K (.ref C) (.type "BaseException") = some true
  veC : subIn K (.ref C) (.type "ValueError") = some true
  tyC : typeIn K (.ref C) = some (.type "type")
  own : mroIn K C (.ref C) = some true
  tp : nsIn K cStatics "thirdparty.any" = some none
  dg : nsIn K cStatics "sys.int_max_str_digits" = some none
  nsup : mg "super" = none
  nstr : mg "str" = none
  fn : ∃ (oc : Value) (od : Option Addr) (doc pm : Value) (an : Option Addr) (ct : Value) (osl : Array (Option Value)) (p1 p2 : Pos) (q : Nat → Pos),
    K.lookup fI = some ⟨oc, od, .func (ksFn "__init__" qual (eA p1 p2) (eB q) eS .none .none doc pm an (.ref cda) ct cc), osl⟩ ∧ codeIn K (.ref cda) qual = true ∧ MC q ∧ AC q
  cell : ∃ cl cld csl, K.lookup cc = some ⟨cl, cld, .cell (some (.ref C)), csl⟩
  code : ∃ ccl cdd vs ccs file tf, K.lookup cda = some ⟨ccl, cdd, .fields vs, ccs⟩ ∧ vs[2]? = some (.str file tf) ∧ ((prog.main.file : Str) == file) = true
  top : (prog.main.scope.names.lookup ("super" : Str)).isSome = false
section
variable {prog : Program} {w : World} {A : Around} {E : Value → Shared → Prop} {R : Result → Shared → Prop} {s : Shared} {K : Frag} {mg : Str → Option Value} {x qual : Str} {C fI cc cda : Addr}
theorem err_init (T : ErrTxt prog K mg x qual C fI cc cda) {e t0 : Addr} {v : Value} (X : K.In s.heap) (hlim : s.heap.NoLimit) (G : s.heap.Ns mainGlobals mg) (B : ∃ mb, s.heap.Ns builtinsNs mb ∧ ∀ x : Str, x ≠ "__name__" → mb x = bootBuiltins x)
    (hx : s.heap.get? e = some (excO C t0)) (hnx : K.lookup e = none) (hh : A.handled = none) (hroom : A.depth < recursionLimit) (hv : StrOk prog w v)
    (hq : ∀ h' tk dx t1, InitEnd s.heap h' e C dx t1 "limit" v → R (.ok (.ret .none)) { s with heap := h', toks := tk }) :
    codeAny (model prog w) A (.call (.ref fI) ⟨[.ref e, v], []⟩) R s := by
  obtain ⟨oc, od, doc, pm, an, ct, osl, p1, p2, q, ho, hcd, hMC, hAC⟩ := T.fn
  obtain ⟨nm, qn, N, bs, bm, sn, sub, ab, col, dd, k0, k1, k2, k3, k5, hC, hbm⟩ := T.cls
  obtain ⟨cl, cld, csl, hcell⟩ := T.cell
  obtain ⟨ccl, cdd, vs, ccs, file, tf, hcode, hvs, hfile⟩ := T.code
  obtain ⟨mb, Bn, Bb⟩ := B
  have hcl : clsIn K C = some { name := nm, bases := bs, mro := .ref C :: bm, ns := N, qualname := qn, hasDict := true, slotNames := sn, subclasses := sub, abstract := ab, collection := col, hasDel := false } := by unfold clsIn; rw [hC] <;> rfl
  refine ks_codeAny_call_defAt (fd := ksFn "__init__" qual (eA p1 p2) (eB q) eS .none .none doc pm an (.ref cda) ct cc) (body := eB q) (binds := [("self", .ref e), ("limit", v)]) hroom (X _ _ ho) rfl hlim (codeRec_of X hcd) rfl ?b ?c ?l (fun h₁ hns k₁ => ?_)
  case b => exact BindsTo.of_eq (by first | rfl | with_unfolding_all rfl)
  case c => show ∀ x ∈ eS.names, x.2 ≠ .cell; decide
  case l => exact locs rfl
  obtain ⟨sh, sg, sd, st, sos⟩ := s
  have X₁ : K.In h₁ := X.keeps k₁
  have hx₁ := k₁ _ _ hx
  have hC₁ := X₁ _ _ hC
  show _root_.PySem.wpAt (model prog w) _ (.func (eB q) (ksEnv qual eS sh.objs.size fI (.ref cda) cc)) (execs (eB q) (ksEnv qual eS sh.objs.size fI (.ref cda) cc)) _ _ _
  obtain ⟨pl, hpl⟩ := hMC (ksEnv qual eS sh.objs.size fI (.ref cda) cc)
  refine ks_wpAt_execs_cons (ks_wpAt_Expr_any (ks_wpAt_MethodCall ?_ hpl))
  refine ks_wpAt_super_base (env := ksEnv qual eS sh.objs.size fI (.ref cda) cc) (ar := { arg := "self", annotation := none, pos := p1 }) rfl rfl (by decide) rfl (X₁ _ _ ho) rfl rfl rfl (X₁ _ _ hcode) rfl hvs hfile T.top ?_
  refine ks_loadName_global rfl rfl (loadGlobal_builtin (env := ksEnv qual eS sh.objs.size fI (.ref cda) cc) (G.keeps k₁) T.nsup (Bn.keeps k₁) ((Bb _ (by decide +kernel)).trans (by first | boot_by_name | rfl | kernel_rfl)) ⟨rfl, ?_⟩)
  refine wpAny_loadName_free rfl rfl rfl ⟨_, X₁ _ _ hcell, rfl⟩ ?_
  refine wpAny_loadName_local rfl rfl hns (by first | rfl | with_unfolding_all rfl | kernel_rfl) ?_
  refine ks_wpAny_isType_cls hC₁ rfl ⟨rfl, ?_⟩
  refine ks_wpAny_call_super hC₁ rfl hx₁ rfl (fun c z => by cases z) (looks_mroIn X₁ T.own) (fun h₂ e2 k2 => ?_)
  have X₂ : K.In h₂ := X₁.keeps k2
  have hC₂ := k2 _ _ hC₁
  have hx₂ := k2 _ _ hx₁
  have I₂ : InstAt h₂ e (excO C t0) C none := ⟨hx₂, rfl, rfl, trivial⟩
  have hxC : e ≠ C := ks_ne X₂ I₂ hcl
  have hsup := T.sup
  unfold ks_superIn at hsup
  rw [hcl] at hsup
  refine kxs_getMethod kxs_ValueError e2 (looks_opaque X₂ T.tp) (l₀ := .ref C :: bm) (fun A Q E s k q => wpAny_bind ((looks_clsIn X₂ hcl) A _ E s k (wpAny_pure q))) rfl X₂ hsup (I₂.type.andThen (looks_subIn X₂ T.veC)) hxC rfl ?_
  refine kxs_callWith (i := "ValueError.__init__") (x := e) rfl ?_
  refine Calls.evalArgs_plain (Calls.spliced_cons ?_)
  have k3 : ∀ b o, h₂.get? b = some o → (h₂.push (kxs_mw "ValueError.__init__" e)).get? b = some o := fun b o z => Heap.get?_push_of_some _ z
  have X₃ := X₂.keeps k3
  have G₃ := ((G.keeps k₁).keeps k2).keeps k3
  have B₃ := ((Bn.keeps k₁).keeps k2).keeps k3
  have hns₃ := (hns.keeps k2).keeps k3
  have hu : (h₂.push (kxs_mw "ValueError.__init__" e)).get? h₂.objs.size = some (kxs_mw "ValueError.__init__" e) := by heap_get
  have hdg : (h₂.push (kxs_mw "ValueError.__init__" e)).NoDigits := let ⟨mc, a, _⟩ := ((hlim.keeps k₁).keeps k2).keeps k3; ⟨mc, a, ns_none_of X₃ a T.dg⟩
  generalize h₂.push (kxs_mw "ValueError.__init__" e) = h₃ at *
  refine wpAny_Call_NameR (wpAny_Name (ks_loadName_global rfl rfl (loadGlobal_builtin (env := ksEnv qual eS sh.objs.size fI (.ref cda) cc) G₃ T.nstr B₃ ((Bb _ (by decide +kernel)).trans (by first | boot_by_name | rfl | kernel_rfl)) ?_)) rfl)
  refine callWith_type1 ?_
  show wpAny _ _ (eval (.Name "limit" (q 4)) _) _ _ _
  refine wpAny_Name (wpAny_loadName_local rfl rfl hns₃ (by first | rfl | with_unfolding_all rfl | kernel_rfl) ?_) (by decide)
  refine hv _ _ _ _ hh hdg (fun txt tk tk' => ?_)
  refine Calls.spliced_nil ⟨hu, ?_⟩
  refine init_call (hC := k3 _ _ hC₂) (he := k3 _ _ hx₂) (hu := hu) (one_size _) (fun h₄ t1 k4 hx₄ => ?_)
  have hLe : sh.objs.size ≠ e := Nat.ne_of_gt (Heap.lt_size hx)
  have hns₄ : h₄.Ns sh.objs.size (fun x => List.lookup x [((PySem.Str.ofString "self" : Str), Value.ref e), ((PySem.Str.ofString "limit" : Str), v)].reverse) := by
    obtain ⟨oL, es, ep, hL, r⟩ := hns₃
    exact ⟨oL, es, ep, k4 _ _ hLe hL, r⟩
  have X₄ : K.In h₄ := kept_but X₃ hnx k4
  show wpAt _ _ _ (execs _ _) _ _ _
  refine ks_wpAt_execs_cons (ks_wpAt_Assign_Attr (wpAt_of_wpAny (wpAny_Name (wpAny_loadName_local rfl rfl hns₄ (by first | rfl | with_unfolding_all rfl | kernel_rfl) ?_) (by decide))) (hAC _))
  refine wpAny_Name (wpAny_loadName_local rfl rfl hns₄ (by first | rfl | with_unfolding_all rfl | kernel_rfl) ?_) (by decide)
  refine set_plain X₄ (ox := excO C t1) (od := none) ⟨hx₄, rfl, rfl, trivial⟩ T.sa ?_
  refine exc_osa X₄ hx₄ hcl (show refsVE (.ref C :: bm) = true from hbm) rfl T.noN (fun h₅ tk₅ dx k₅ dn dne hx₅ hn₅ => ?_)
  show wpAt _ _ _ (execs _ _) _ _ _
  have z : sh.objs.size < h₄.objs.size := hns₄.lt
  refine wpAt_of_wpAny (wpAny_execs_nil (hq h₅ tk₅ dx t1 ⟨fun b o hb e => k₅ b o hb (k4 b o hb (k3 _ _ (k2 _ _ (k₁ b o e)))), hx₅, Nat.le_of_lt (Nat.lt_of_lt_of_le z dn), dne, hn₅⟩))
theorem err_made (T : ErrTxt prog K mg x qual C fI cc cda) : Mkd prog w K mg C ["limit"] (fun vs => ∃ v, vs = [v] ∧ okS v) := by
  intro A s R vs us rl hok X hlim G B hh hroom hq
  obtain ⟨v, rfl, ov⟩ := hok
  cases rl with
  | cons rv rn =>
  rename_i u us'
  cases rn
  obtain ⟨nm, q, N, bs, bm, sn, sub, ab, col, dd, k0, k1, k2, k3, k5, hC, hbm⟩ := T.cls
  obtain ⟨hp, g, dr, tk, os⟩ := s
  have k : ∀ b o, hp.get? b = some o → ((hp.push (kdv_tup [u])).push (excO C hp.objs.size)).get? b = some o := fun b o e => Heap.get?_push_of_some _ (Heap.get?_push_of_some _ e)
  have hget : ((hp.push (kdv_tup [u])).push (excO C hp.objs.size)).get? (hp.objs.size + 1) = some (excO C hp.objs.size) := by heap_get
  have hnx : K.lookup (hp.objs.size + 1) = none := by
    cases e : K.lookup (hp.objs.size + 1) with
    | none => rfl
    | some o =>
      have z : hp.get? (hp.objs.size + 1) = some o := X _ _ e
      exact absurd (Nat.lt_of_succ_lt (Heap.lt_size z)) (Nat.lt_irrefl _)
  refine call_own F.excBase_ValueError (fun X => refsVE_contains X bm hbm) (X _ _ hC) (looks_findIn X T.iC) (fun self => bind_fn X self T.tC) (one_size u) ?_
  obtain ⟨mb, B1, B2⟩ := B
  refine err_init (s := ⟨(hp.push (kdv_tup [u])).push (excO C hp.objs.size), g, dr, tk, os⟩) T (X.keeps k) (hlim.keeps k) (G.keeps k) ⟨mb, B1.keeps k, B2⟩ hget hnx ?_ ?_ (okS_ok rv ov) fun h' tk' dx t1 ⟨k', hx, dn, dne, hns⟩ => ?_
  · exact hh
  · show A.depth + 1 < recursionLimit
    exact hroom
  · have old : ∀ b o, hp.get? b = some o → h'.get? b = some o := fun b o e => k' b o (Nat.ne_of_lt (Nat.lt_succ_of_lt (Heap.lt_size e))) (k b o e)
    have z : hp.objs.size + 1 + 1 ≤ dx := by
      first
        | (simpa only [Heap.size_push] using dn)
        | exact dn
        | (have q := dn; rw [Heap.size_push, Heap.size_push] at q; exact q)
    refine ⟨rfl, hq h' tk' (hp.objs.size + 1) dx ⟨old, Nat.le_succ _, ⟨_, _, hx, rfl, rfl, rfl, rfl, rfl⟩, Nat.le_trans (Nat.le_trans (Nat.le_succ _) (Nat.le_succ _)) z, dne, ?_⟩⟩
    have ef : (fun y : Str => List.lookup y ([(PySem.Str.ofString "limit" : Str)].zip [u])) = fun y => if y = PySem.Str.ofString "limit" then some u else none := by
      funext y
      by_cases h : y = PySem.Str.ofString "limit"
      · simp [List.lookup, h]
      · have h2 : (y == PySem.Str.ofString "limit") = false := by simpa using h
        simp [List.lookup, h, h2]
    rw [ef]
    exact hns
def p1Of (st : Stmt) : Pos := match (L2.defArgs st).args with | [a, _] => a.pos | _ => ⟨0, 0, 0, 0⟩
def p2Of (st : Stmt) : Pos := match (L2.defArgs st).args with | [_, a] => a.pos | _ => ⟨0, 0, 0, 0⟩
def qOf (st : Stmt) : Nat → Pos := match L2.defBody st with
  | [.Expr (.Call (.Attribute (.Call (.Name _ q0) _ _ q1) _ q2) [.Call (.Name _ q3) [.Name _ q4] _ q5] _ q6) q7, .Assign [.Attribute (.Name _ q8) _ q9] (.Name _ q10) q11] =>
    fun n => [q0, q1, q2, q3, q4, q5, q6, q7, q8, q9, q10, q11].getD n ⟨0, 0, 0, 0⟩
  | _ => fun _ => ⟨0, 0, 0, 0⟩
theorem err_mk (st : Stmt) {h : Heap} {nm q : Str} {N : Addr} {bs bm : List Value} {sn : List Str} {sub : List Value} {ab : Bool} {col : Option Bool} {dd : Option Addr} {k0 k1 k2 k3 k5 : Option Value} {oc : Value} {od : Option Addr} {doc pm : Value} {an : Option Addr} {ct : Value} {osl : Array (Option Value)}
    {cl : Value} {cld : Option Addr} {csl : Array (Option Value)} {ccl : Value} {cdd : Option Addr} {vs : Array Value} {ccs : Array (Option Value)} {file : Str} {tf : Tok}
    (X : K.In h) (G : h.Ns mainGlobals mg) (aC : nsIn K mainGlobals x = some (some (.ref C))) (xL : K.lookup C = some (excClassObj nm q C N bs bm true sn sub ab col dd k0 k1 k2 k3 k5 "ValueError.__new__")) (bmv : refsVE bm = true)
    (sup : ks_superIn K C C "__init__" = some (some (.builtin "ValueError.__init__"))) (sa : findIn K (.ref C) "__setattr__" = some (some (.builtin "object.__setattr__"))) (no : findIn K (.ref C) "limit" = some none)
    (a1 : findIn K (.ref C) "__init__" = some (some (.ref fI))) (t1 : typeIn K (.ref fI) = some (.type "function")) (kC : keepIn K (.ref C) = true) (eC : subIn K (.ref C) (.type "BaseException") = some true) (vC : subIn K (.ref C) (.type "ValueError") = some true)
    (tC : typeIn K (.ref C) = some (.type "type")) (own : mroIn K C (.ref C) = some true) (tp : nsIn K cStatics "thirdparty.any" = some none) (dg : nsIn K cStatics "sys.int_max_str_digits" = some none) (nsup : nsIn K mainGlobals "super" = some none) (nstr : nsIn K mainGlobals "str" = some none)
    (hst : L2.defArgs st = eA (p1Of st) (p2Of st) ∧ L2.defBody st = eB (qOf st) ∧ L2.defScope st = eS)
    (l1 : K.lookup fI = some ⟨oc, od, .func (ksFn "__init__" qual (L2.defArgs st) (L2.defBody st) (L2.defScope st) .none .none doc pm an (.ref cda) ct cc), osl⟩) (c1 : codeIn K (.ref cda) qual = true) (mc : MC (qOf st)) (ac : AC (qOf st))
    (ce : K.lookup cc = some ⟨cl, cld, .cell (some (.ref C)), csl⟩) (co : K.lookup cda = some ⟨ccl, cdd, .fields vs, ccs⟩) (cf : vs[2]? = some (.str file tf)) (cg : ((prog.main.file : Str) == file) = true) (top : (prog.main.scope.names.lookup ("super" : Str)).isSome = false)
    (hg : findIn K (.ref C) "__getattribute__" = some (some (.builtin "BaseException.__getattribute__"))) (hk : findIn K (.ref C) "__getattr__" = some none) (hd : hasDictIn K C = true) (ha : findIn K (.ref C) "__class__" = some (some (.builtin "object.__class__")))
    (hn : specialIn K (.builtin "object.__class__") "__get__" = some (some (.builtin "getset_descriptor.__get__"))) (ht : takesIn K (.builtin "object.__class__") = some true) (hm : mroIn K C (.type "object") = some true) :
    KW.ErrC prog w K mg x C ["limit"] (fun vs => ∃ v, vs = [v] ∧ okS v) := by
  have T : ErrTxt prog K mg x qual C fI cc cda :=
    { gC := mg_of X G aC, cls := ⟨nm, q, N, bs, bm, sn, sub, ab, col, dd, k0, k1, k2, k3, k5, xL, bmv⟩, sup := sup, sa := sa, noN := no, iC := a1, tC := t1, kC := kC, exC := eC, veC := vC, tyC := tC, own := own, tp := tp, dg := dg,
      nsup := mg_none_of X G nsup, nstr := mg_none_of X G nstr,
      fn := ⟨oc, od, doc, pm, an, ct, osl, p1Of st, p2Of st, qOf st, by rw [← hst.1, ← hst.2.1, ← hst.2.2]; exact l1, c1, mc, ac⟩,
      cell := ⟨cl, cld, csl, ce⟩, code := ⟨ccl, cdd, vs, ccs, file, tf, co, cf, cg⟩, top := top }
  exact ⟨T.gC, err_made T, kC, eC, tC, ⟨hg, hk, eC, hd⟩, ⟨hg, hk, eC, hd, ha, hn, ht, hm⟩, fun f hf => by cases hf with | head => exact no | tail _ z => cases z⟩
end
end KErr_limit
end PySem

set_option Elab.async false
set_option linter.all false
set_option maxRecDepth 100000
set_option maxHeartbeats 4000000
namespace PySem
namespace KErr_need
open PySem.W PySem.Calls PyProof.Rows PySem.HandSPX PySem.KErr
def eA (p1 p2 : Pos) : Arguments := { posonlyargs := [], args := [{ arg := "self", annotation := none, pos := p1 }, { arg := "need", annotation := none, pos := p2 }], vararg := none, kwonlyargs := [], kw_defaults := [], kwarg := none, defaults := [] }
def eB (q : Nat → Pos) : List Stmt := [
  .Expr (.Call (.Attribute (.Call (.Name "super" (q 0)) [] [] (q 1)) "__init__" (q 2)) [.Call (.Name "str" (q 3)) [.Name "need" (q 4)] [] (q 5)] [] (q 6)) (q 7),
  .Assign [.Attribute (.Name "self" (q 8)) "need" (q 9)] (.Name "need" (q 10)) (q 11)]
def eS : Scope := { kind := .function, names := [(PySem.Str.ofString "self", .local), (PySem.Str.ofString "need", .local), (PySem.Str.ofString "__class__", .free), (PySem.Str.ofString "super", .globalImplicit), (PySem.Str.ofString "str", .globalImplicit)], isGenerator := false, isCoroutine := false, more := [] }
def MC (q : Nat → Pos) : Prop := ∀ env : Env, ∃ pl : Sem Bool, eval (.Call (.Attribute (.Call (.Name "super" (q 0)) [] [] (q 1)) "__init__" (q 2)) [.Call (.Name "str" (q 3)) [.Name "need" (q 4)] [] (q 5)] [] (q 6)) env = (do
      let ov ← attributeBase (.Call (.Name "super" (q 0)) [] [] (q 1)) "__init__" env (eval (.Call (.Name "super" (q 0)) [] [] (q 1)) env)
      standAt (q 2).atName
      let (f, first) ← holding [ov] (getMethod ov "__init__" pl)
      callWith (q 6) f first (backTo (q 6) (starEach [.Call (.Name "str" (q 3)) [.Name "need" (q 4)] [] (q 5)] env)) [])
def AC (q : Nat → Pos) : Prop := ∀ env : Env, swapsWith (.Name "need" (q 10)) (some (.Attribute (.Name "self" (q 8)) "need" (q 9))) (q 11).line env = pure false
/-- what the top leaves of the class x with the one field -/
structure ErrTxt (prog : Program) (K : Frag) (mg : Str → Option Value) (x qual : Str) (C fI cc cda : Addr) : Prop where
  gC : mg x = some (.ref C)
  cls : ∃ nm q N bs bm sn sub ab col dd k0 k1 k2 k3 k5, K.lookup C = some (excClassObj nm q C N bs bm true sn sub ab col dd k0 k1 k2 k3 k5 "ValueError.__new__") ∧ refsVE bm = true
  sup : ks_superIn K C C "__init__" = some (some (.builtin "ValueError.__init__"))
  sa : findIn K (.ref C) "__setattr__" = some (some (.builtin "object.__setattr__"))
  noN : findIn K (.ref C) "need" = some none
  iC : findIn K (.ref C) "__init__" = some (some (.ref fI))
  tC : typeIn K (.ref fI) = some (.type "function")
  kC : keepIn K (.ref C) = true
  exC : subIn K (.ref C) (.type "BaseException") = some true
  veC : subIn K (.ref C) (.type "ValueError") = some true
  tyC : typeIn K (.ref C) = some (.type "type")
  own : mroIn K C (.ref C) = some true
  tp : nsIn K cStatics "thirdparty.any" = some none
  dg : nsIn K cStatics "sys.int_max_str_digits" = some none
  nsup : mg "super" = none
  nstr : mg "str" = none
  fn : ∃ (oc : Value) (od : Option Addr) (doc pm : Value) (an : Option Addr) (ct : Value) (osl : Array (Option Value)) (p1 p2 : Pos) (q : Nat → Pos),
    K.lookup fI = some ⟨oc, od, .func (ksFn "__init__" qual (eA p1 p2) (eB q) eS .none .none doc pm an (.ref cda) ct cc), osl⟩ ∧ codeIn K (.ref cda) qual = true ∧ MC q ∧ AC q
  cell : ∃ cl cld csl, K.lookup cc = some ⟨cl, cld, .cell (some (.ref C)), csl⟩
  code : ∃ ccl cdd vs ccs file tf, K.lookup cda = some ⟨ccl, cdd, .fields vs, ccs⟩ ∧ vs[2]? = some (.str file tf) ∧ ((prog.main.file : Str) == file) = true
  top : (prog.main.scope.names.lookup ("super" : Str)).isSome = false
section
variable {prog : Program} {w : World} {A : Around} {E : Value → Shared → Prop} {R : Result → Shared → Prop} {s : Shared} {K : Frag} {mg : Str → Option Value} {x qual : Str} {C fI cc cda : Addr}
theorem err_init (T : ErrTxt prog K mg x qual C fI cc cda) {e t0 : Addr} {v : Value} (X : K.In s.heap) (hlim : s.heap.NoLimit) (G : s.heap.Ns mainGlobals mg) (B : ∃ mb, s.heap.Ns builtinsNs mb ∧ ∀ x : Str, x ≠ "__name__" → mb x = bootBuiltins x)
    (hx : s.heap.get? e = some (excO C t0)) (hnx : K.lookup e = none) (hh : A.handled = none) (hroom : A.depth < recursionLimit) (hv : StrOk prog w v)
    (hq : ∀ h' tk dx t1, InitEnd s.heap h' e C dx t1 "need" v → R (.ok (.ret .none)) { s with heap := h', toks := tk }) :
    codeAny (model prog w) A (.call (.ref fI) ⟨[.ref e, v], []⟩) R s := by
  obtain ⟨oc, od, doc, pm, an, ct, osl, p1, p2, q, ho, hcd, hMC, hAC⟩ := T.fn
  obtain ⟨nm, qn, N, bs, bm, sn, sub, ab, col, dd, k0, k1, k2, k3, k5, hC, hbm⟩ := T.cls
  obtain ⟨cl, cld, csl, hcell⟩ := T.cell
  obtain ⟨ccl, cdd, vs, ccs, file, tf, hcode, hvs, hfile⟩ := T.code
  obtain ⟨mb, Bn, Bb⟩ := B
  have hcl : clsIn K C = some { name := nm, bases := bs, mro := .ref C :: bm, ns := N, qualname := qn, hasDict := true, slotNames := sn, subclasses := sub, abstract := ab, collection := col, hasDel := false } := by unfold clsIn; rw [hC] <;> rfl
  refine ks_codeAny_call_defAt (fd := ksFn "__init__" qual (eA p1 p2) (eB q) eS .none .none doc pm an (.ref cda) ct cc) (body := eB q) (binds := [("self", .ref e), ("need", v)]) hroom (X _ _ ho) rfl hlim (codeRec_of X hcd) rfl ?b ?c ?l (fun h₁ hns k₁ => ?_)
  case b => exact BindsTo.of_eq (by first | rfl | with_unfolding_all rfl)
  case c => show ∀ x ∈ eS.names, x.2 ≠ .cell; decide
  case l => exact locs rfl
  obtain ⟨sh, sg, sd, st, sos⟩ := s
  have X₁ : K.In h₁ := X.keeps k₁
  have hx₁ := k₁ _ _ hx
  have hC₁ := X₁ _ _ hC
  show _root_.PySem.wpAt (model prog w) _ (.func (eB q) (ksEnv qual eS sh.objs.size fI (.ref cda) cc)) (execs (eB q) (ksEnv qual eS sh.objs.size fI (.ref cda) cc)) _ _ _
  obtain ⟨pl, hpl⟩ := hMC (ksEnv qual eS sh.objs.size fI (.ref cda) cc)
  refine ks_wpAt_execs_cons (ks_wpAt_Expr_any (ks_wpAt_MethodCall ?_ hpl))
  refine ks_wpAt_super_base (env := ksEnv qual eS sh.objs.size fI (.ref cda) cc) (ar := { arg := "self", annotation := none, pos := p1 }) rfl rfl (by decide) rfl (X₁ _ _ ho) rfl rfl rfl (X₁ _ _ hcode) rfl hvs hfile T.top ?_
  refine ks_loadName_global rfl rfl (loadGlobal_builtin (env := ksEnv qual eS sh.objs.size fI (.ref cda) cc) (G.keeps k₁) T.nsup (Bn.keeps k₁) ((Bb _ (by decide +kernel)).trans (by first | boot_by_name | rfl | kernel_rfl)) ⟨rfl, ?_⟩)
  refine wpAny_loadName_free rfl rfl rfl ⟨_, X₁ _ _ hcell, rfl⟩ ?_
  refine wpAny_loadName_local rfl rfl hns (by first | rfl | with_unfolding_all rfl | kernel_rfl) ?_
  refine ks_wpAny_isType_cls hC₁ rfl ⟨rfl, ?_⟩
  refine ks_wpAny_call_super hC₁ rfl hx₁ rfl (fun c z => by cases z) (looks_mroIn X₁ T.own) (fun h₂ e2 k2 => ?_)
  have X₂ : K.In h₂ := X₁.keeps k2
  have hC₂ := k2 _ _ hC₁
  have hx₂ := k2 _ _ hx₁
  have I₂ : InstAt h₂ e (excO C t0) C none := ⟨hx₂, rfl, rfl, trivial⟩
  have hxC : e ≠ C := ks_ne X₂ I₂ hcl
  have hsup := T.sup
  unfold ks_superIn at hsup
  rw [hcl] at hsup
  refine kxs_getMethod kxs_ValueError e2 (looks_opaque X₂ T.tp) (l₀ := .ref C :: bm) (fun A Q E s k q => wpAny_bind ((looks_clsIn X₂ hcl) A _ E s k (wpAny_pure q))) rfl X₂ hsup (I₂.type.andThen (looks_subIn X₂ T.veC)) hxC rfl ?_
  refine kxs_callWith (i := "ValueError.__init__") (x := e) rfl ?_
  refine Calls.evalArgs_plain (Calls.spliced_cons ?_)
  have k3 : ∀ b o, h₂.get? b = some o → (h₂.push (kxs_mw "ValueError.__init__" e)).get? b = some o := fun b o z => Heap.get?_push_of_some _ z
  have X₃ := X₂.keeps k3
  have G₃ := ((G.keeps k₁).keeps k2).keeps k3
  have B₃ := ((Bn.keeps k₁).keeps k2).keeps k3
  have hns₃ := (hns.keeps k2).keeps k3
  have hu : (h₂.push (kxs_mw "ValueError.__init__" e)).get? h₂.objs.size = some (kxs_mw "ValueError.__init__" e) := by heap_get
  have hdg : (h₂.push (kxs_mw "ValueError.__init__" e)).NoDigits := let ⟨mc, a, _⟩ := ((hlim.keeps k₁).keeps k2).keeps k3; ⟨mc, a, ns_none_of X₃ a T.dg⟩
  generalize h₂.push (kxs_mw "ValueError.__init__" e) = h₃ at *
  refine wpAny_Call_NameR (wpAny_Name (ks_loadName_global rfl rfl (loadGlobal_builtin (env := ksEnv qual eS sh.objs.size fI (.ref cda) cc) G₃ T.nstr B₃ ((Bb _ (by decide +kernel)).trans (by first | boot_by_name | rfl | kernel_rfl)) ?_)) rfl)
  refine callWith_type1 ?_
  show wpAny _ _ (eval (.Name "need" (q 4)) _) _ _ _
  refine wpAny_Name (wpAny_loadName_local rfl rfl hns₃ (by first | rfl | with_unfolding_all rfl | kernel_rfl) ?_) (by decide)
  refine hv _ _ _ _ hh hdg (fun txt tk tk' => ?_)
  refine Calls.spliced_nil ⟨hu, ?_⟩
  refine init_call (hC := k3 _ _ hC₂) (he := k3 _ _ hx₂) (hu := hu) (one_size _) (fun h₄ t1 k4 hx₄ => ?_)
  have hLe : sh.objs.size ≠ e := Nat.ne_of_gt (Heap.lt_size hx)
  have hns₄ : h₄.Ns sh.objs.size (fun x => List.lookup x [((PySem.Str.ofString "self" : Str), Value.ref e), ((PySem.Str.ofString "need" : Str), v)].reverse) := by
    obtain ⟨oL, es, ep, hL, r⟩ := hns₃
    exact ⟨oL, es, ep, k4 _ _ hLe hL, r⟩
  have X₄ : K.In h₄ := kept_but X₃ hnx k4
  show wpAt _ _ _ (execs _ _) _ _ _
  refine ks_wpAt_execs_cons (ks_wpAt_Assign_Attr (wpAt_of_wpAny (wpAny_Name (wpAny_loadName_local rfl rfl hns₄ (by first | rfl | with_unfolding_all rfl | kernel_rfl) ?_) (by decide))) (hAC _))
  refine wpAny_Name (wpAny_loadName_local rfl rfl hns₄ (by first | rfl | with_unfolding_all rfl | kernel_rfl) ?_) (by decide)
  refine set_plain X₄ (ox := excO C t1) (od := none) ⟨hx₄, rfl, rfl, trivial⟩ T.sa ?_
  refine exc_osa X₄ hx₄ hcl (show refsVE (.ref C :: bm) = true from hbm) rfl T.noN (fun h₅ tk₅ dx k₅ dn dne hx₅ hn₅ => ?_)
  show wpAt _ _ _ (execs _ _) _ _ _
  have z : sh.objs.size < h₄.objs.size := hns₄.lt
  refine wpAt_of_wpAny (wpAny_execs_nil (hq h₅ tk₅ dx t1 ⟨fun b o hb e => k₅ b o hb (k4 b o hb (k3 _ _ (k2 _ _ (k₁ b o e)))), hx₅, Nat.le_of_lt (Nat.lt_of_lt_of_le z dn), dne, hn₅⟩))
theorem err_made (T : ErrTxt prog K mg x qual C fI cc cda) : Mkd prog w K mg C ["need"] (fun vs => ∃ v, vs = [v] ∧ okS v) := by
  intro A s R vs us rl hok X hlim G B hh hroom hq
  obtain ⟨v, rfl, ov⟩ := hok
  cases rl with
  | cons rv rn =>
  rename_i u us'
  cases rn
  obtain ⟨nm, q, N, bs, bm, sn, sub, ab, col, dd, k0, k1, k2, k3, k5, hC, hbm⟩ := T.cls
  obtain ⟨hp, g, dr, tk, os⟩ := s
  have k : ∀ b o, hp.get? b = some o → ((hp.push (kdv_tup [u])).push (excO C hp.objs.size)).get? b = some o := fun b o e => Heap.get?_push_of_some _ (Heap.get?_push_of_some _ e)
  have hget : ((hp.push (kdv_tup [u])).push (excO C hp.objs.size)).get? (hp.objs.size + 1) = some (excO C hp.objs.size) := by heap_get
  have hnx : K.lookup (hp.objs.size + 1) = none := by
    cases e : K.lookup (hp.objs.size + 1) with
    | none => rfl
    | some o =>
      have z : hp.get? (hp.objs.size + 1) = some o := X _ _ e
      exact absurd (Nat.lt_of_succ_lt (Heap.lt_size z)) (Nat.lt_irrefl _)
  refine call_own F.excBase_ValueError (fun X => refsVE_contains X bm hbm) (X _ _ hC) (looks_findIn X T.iC) (fun self => bind_fn X self T.tC) (one_size u) ?_
  obtain ⟨mb, B1, B2⟩ := B
  refine err_init (s := ⟨(hp.push (kdv_tup [u])).push (excO C hp.objs.size), g, dr, tk, os⟩) T (X.keeps k) (hlim.keeps k) (G.keeps k) ⟨mb, B1.keeps k, B2⟩ hget hnx ?_ ?_ (okS_ok rv ov) fun h' tk' dx t1 ⟨k', hx, dn, dne, hns⟩ => ?_
  · exact hh
  · show A.depth + 1 < recursionLimit
    exact hroom
  · have old : ∀ b o, hp.get? b = some o → h'.get? b = some o := fun b o e => k' b o (Nat.ne_of_lt (Nat.lt_succ_of_lt (Heap.lt_size e))) (k b o e)
    have z : hp.objs.size + 1 + 1 ≤ dx := by
      first
        | (simpa only [Heap.size_push] using dn)
        | exact dn
        | (have q := dn; rw [Heap.size_push, Heap.size_push] at q; exact q)
    refine ⟨rfl, hq h' tk' (hp.objs.size + 1) dx ⟨old, Nat.le_succ _, ⟨_, _, hx, rfl, rfl, rfl, rfl, rfl⟩, Nat.le_trans (Nat.le_trans (Nat.le_succ _) (Nat.le_succ _)) z, dne, ?_⟩⟩
    have ef : (fun y : Str => List.lookup y ([(PySem.Str.ofString "need" : Str)].zip [u])) = fun y => if y = PySem.Str.ofString "need" then some u else none := by
      funext y
      by_cases h : y = PySem.Str.ofString "need"
      · simp [List.lookup, h]
      · have h2 : (y == PySem.Str.ofString "need") = false := by simpa using h
        simp [List.lookup, h, h2]
    rw [ef]
    exact hns
def p1Of (st : Stmt) : Pos := match (L2.defArgs st).args with | [a, _] => a.pos | _ => ⟨0, 0, 0, 0⟩
def p2Of (st : Stmt) : Pos := match (L2.defArgs st).args with | [_, a] => a.pos | _ => ⟨0, 0, 0, 0⟩
def qOf (st : Stmt) : Nat → Pos := match L2.defBody st with
  | [.Expr (.Call (.Attribute (.Call (.Name _ q0) _ _ q1) _ q2) [.Call (.Name _ q3) [.Name _ q4] _ q5] _ q6) q7, .Assign [.Attribute (.Name _ q8) _ q9] (.Name _ q10) q11] =>
    fun n => [q0, q1, q2, q3, q4, q5, q6, q7, q8, q9, q10, q11].getD n ⟨0, 0, 0, 0⟩
  | _ => fun _ => ⟨0, 0, 0, 0⟩
theorem err_mk (st : Stmt) {h : Heap} {nm q : Str} {N : Addr} {bs bm : List Value} {sn : List Str} {sub : List Value} {ab : Bool} {col : Option Bool} {dd : Option Addr} {k0 k1 k2 k3 k5 : Option Value} {oc : Value} {od : Option Addr} {doc pm : Value} {an : Option Addr} {ct : Value} {osl : Array (Option Value)}
    {cl : Value} {cld : Option Addr} {csl : Array (Option Value)} {ccl : Value} {cdd : Option Addr} {vs : Array Value} {ccs : Array (Option Value)} {file : Str} {tf : Tok}
    (X : K.In h) (G : h.Ns mainGlobals mg) (aC : nsIn K mainGlobals x = some (some (.ref C))) (xL : K.lookup C = some (excClassObj nm q C N bs bm true sn sub ab col dd k0 k1 k2 k3 k5 "ValueError.__new__")) (bmv : refsVE bm = true)
    (sup : ks_superIn K C C "__init__" = some (some (.builtin "ValueError.__init__"))) (sa : findIn K (.ref C) "__setattr__" = some (some (.builtin "object.__setattr__"))) (no : findIn K (.ref C) "need" = some none)
    (a1 : findIn K (.ref C) "__init__" = some (some (.ref fI))) (t1 : typeIn K (.ref fI) = some (.type "function")) (kC : keepIn K (.ref C) = true) (eC : subIn K (.ref C) (.type "BaseException") = some true) (vC : subIn K (.ref C) (.type "ValueError") = some true)
    (tC : typeIn K (.ref C) = some (.type "type")) (own : mroIn K C (.ref C) = some true) (tp : nsIn K cStatics "thirdparty.any" = some none) (dg : nsIn K cStatics "sys.int_max_str_digits" = some none) (nsup : nsIn K mainGlobals "super" = some none) (nstr : nsIn K mainGlobals "str" = some none)
    (hst : L2.defArgs st = eA (p1Of st) (p2Of st) ∧ L2.defBody st = eB (qOf st) ∧ L2.defScope st = eS)
    (l1 : K.lookup fI = some ⟨oc, od, .func (ksFn "__init__" qual (L2.defArgs st) (L2.defBody st) (L2.defScope st) .none .none doc pm an (.ref cda) ct cc), osl⟩) (c1 : codeIn K (.ref cda) qual = true) (mc : MC (qOf st)) (ac : AC (qOf st))
    (ce : K.lookup cc = some ⟨cl, cld, .cell (some (.ref C)), csl⟩) (co : K.lookup cda = some ⟨ccl, cdd, .fields vs, ccs⟩) (cf : vs[2]? = some (.str file tf)) (cg : ((prog.main.file : Str) == file) = true) (top : (prog.main.scope.names.lookup ("super" : Str)).isSome = false)
    (hg : findIn K (.ref C) "__getattribute__" = some (some (.builtin "BaseException.__getattribute__"))) (hk : findIn K (.ref C) "__getattr__" = some none) (hd : hasDictIn K C = true) (ha : findIn K (.ref C) "__class__" = some (some (.builtin "object.__class__")))
    (hn : specialIn K (.builtin "object.__class__") "__get__" = some (some (.builtin "getset_descriptor.__get__"))) (ht : takesIn K (.builtin "object.__class__") = some true) (hm : mroIn K C (.type "object") = some true) :
    KW.ErrC prog w K mg x C ["need"] (fun vs => ∃ v, vs = [v] ∧ okS v) := by
  have T : ErrTxt prog K mg x qual C fI cc cda :=
    { gC := mg_of X G aC, cls := ⟨nm, q, N, bs, bm, sn, sub, ab, col, dd, k0, k1, k2, k3, k5, xL, bmv⟩, sup := sup, sa := sa, noN := no, iC := a1, tC := t1, kC := kC, exC := eC, veC := vC, tyC := tC, own := own, tp := tp, dg := dg,
      nsup := mg_none_of X G nsup, nstr := mg_none_of X G nstr,
      fn := ⟨oc, od, doc, pm, an, ct, osl, p1Of st, p2Of st, qOf st, by rw [← hst.1, ← hst.2.1, ← hst.2.2]; exact l1, c1, mc, ac⟩,
      cell := ⟨cl, cld, csl, ce⟩, code := ⟨ccl, cdd, vs, ccs, file, tf, co, cf, cg⟩, top := top }
  exact ⟨T.gC, err_made T, kC, eC, tC, ⟨hg, hk, eC, hd⟩, ⟨hg, hk, eC, hd, ha, hn, ht, hm⟩, fun f hf => by cases hf with | head => exact no | tail _ z => cases z⟩
end
end KErr_need
end PySem

set_option Elab.async false
set_option linter.all false
set_option maxRecDepth 100000
set_option maxHeartbeats 4000000
namespace PySem
namespace KErr_why
open PySem.W PySem.Calls PyProof.Rows PySem.HandSPX PySem.KErr
def eA (p1 p2 : Pos) : Arguments := { posonlyargs := [], args := [{ arg := "self", annotation := none, pos := p1 }, { arg := "why", annotation := none, pos := p2 }], vararg := none, kwonlyargs := [], kw_defaults := [], kwarg := none, defaults := [] }
def eB (q : Nat → Pos) : List Stmt := [
  .Expr (.Call (.Attribute (.Call (.Name "super" (q 0)) [] [] (q 1)) "__init__" (q 2)) [.Call (.Name "str" (q 3)) [.Name "why" (q 4)] [] (q 5)] [] (q 6)) (q 7),
  .Assign [.Attribute (.Name "self" (q 8)) "why" (q 9)] (.Name "why" (q 10)) (q 11)]
def eS : Scope := { kind := .function, names := [(PySem.Str.ofString "self", .local), (PySem.Str.ofString "why", .local), (PySem.Str.ofString "__class__", .free), (PySem.Str.ofString "super", .globalImplicit), (PySem.Str.ofString "str", .globalImplicit)], isGenerator := false, isCoroutine := false, more := [] }
def MC (q : Nat → Pos) : Prop := ∀ env : Env, ∃ pl : Sem Bool, eval (.Call (.Attribute (.Call (.Name "super" (q 0)) [] [] (q 1)) "__init__" (q 2)) [.Call (.Name "str" (q 3)) [.Name "why" (q 4)] [] (q 5)] [] (q 6)) env = (do
      let ov ← attributeBase (.Call (.Name "super" (q 0)) [] [] (q 1)) "__init__" env (eval (.Call (.Name "super" (q 0)) [] [] (q 1)) env)
      standAt (q 2).atName
      let (f, first) ← holding [ov] (getMethod ov "__init__" pl)
      callWith (q 6) f first (backTo (q 6) (starEach [.Call (.Name "str" (q 3)) [.Name "why" (q 4)] [] (q 5)] env)) [])
def AC (q : Nat → Pos) : Prop := ∀ env : Env, swapsWith (.Name "why" (q 10)) (some (.Attribute (.Name "self" (q 8)) "why" (q 9))) (q 11).line env = pure false
/-- what the top leaves of the class x with the one field -/
structure ErrTxt (prog : Program) (K : Frag) (mg : Str → Option Value) (x qual : Str) (C fI cc cda : Addr) : Prop where
  gC : mg x = some (.ref C)
  cls : ∃ nm q N bs bm sn sub ab col dd k0 k1 k2 k3 k5, K.lookup C = some (excClassObj nm q C N bs bm true sn sub ab col dd k0 k1 k2 k3 k5 "ValueError.__new__") ∧ refsVE bm = true
  sup : ks_superIn K C C "__init__" = some (some (.builtin "ValueError.__init__"))
  sa : findIn K (.ref C) "__setattr__" = some (some (.builtin "object.__setattr__"))
  noN : findIn K (.ref C) "why" = some none
  iC : findIn K (.ref C) "__init__" = some (some (.ref fI))
  tC : typeIn K (.ref fI) = some (.type "function")
  kC : keepIn K (.ref C) = true
  exC : subIn K (.ref C) (.type "BaseException") = some true
  veC : subIn K (.ref C) (.type "ValueError") = some true
  tyC : typeIn K (.ref C) = some (.type "type")
  own : mroIn K C (.ref C) = some true
  tp : nsIn K cStatics "thirdparty.any" = some none
  dg : nsIn K cStatics "sys.int_max_str_digits" = some none
  nsup : mg "super" = none
  nstr : mg "str" = none
  fn : ∃ (oc : Value) (od : Option Addr) (doc pm : Value) (an : Option Addr) (ct : Value) (osl : Array (Option Value)) (p1 p2 : Pos) (q : Nat → Pos),
    K.lookup fI = some ⟨oc, od, .func (ksFn "__init__" qual (eA p1 p2) (eB q) eS .none .none doc pm an (.ref cda) ct cc), osl⟩ ∧ codeIn K (.ref cda) qual = true ∧ MC q ∧ AC q
  cell : ∃ cl cld csl, K.lookup cc = some ⟨cl, cld, .cell (some (.ref C)), csl⟩
  code : ∃ ccl cdd vs ccs file tf, K.lookup cda = some ⟨ccl, cdd, .fields vs, ccs⟩ ∧ vs[2]? = some (.str file tf) ∧ ((prog.main.file : Str) == file) = true
  top : (prog.main.scope.names.lookup ("super" : Str)).isSome = false
section
variable {prog : Program} {w : World} {A : Around} {E : Value → Shared → Prop} {R : Result → Shared → Prop} {s : Shared} {K : Frag} {mg : Str → Option Value} {x qual : Str} {C fI cc cda : Addr}
theorem err_init (T : ErrTxt prog K mg x qual C fI cc cda) {e t0 : Addr} {v : Value} (X : K.In s.heap) (hlim : s.heap.NoLimit) (G : s.heap.Ns mainGlobals mg) (B : ∃ mb, s.heap.Ns builtinsNs mb ∧ ∀ x : Str, x ≠ "__name__" → mb x = bootBuiltins x)
    (hx : s.heap.get? e = some (excO C t0)) (hnx : K.lookup e = none) (hh : A.handled = none) (hroom : A.depth < recursionLimit) (hv : StrOk prog w v)
    (hq : ∀ h' tk dx t1, InitEnd s.heap h' e C dx t1 "why" v → R (.ok (.ret .none)) { s with heap := h', toks := tk }) :
    codeAny (model prog w) A (.call (.ref fI) ⟨[.ref e, v], []⟩) R s := by
  obtain ⟨oc, od, doc, pm, an, ct, osl, p1, p2, q, ho, hcd, hMC, hAC⟩ := T.fn
  obtain ⟨nm, qn, N, bs, bm, sn, sub, ab, col, dd, k0, k1, k2, k3, k5, hC, hbm⟩ := T.cls
  obtain ⟨cl, cld, csl, hcell⟩ := T.cell
  obtain ⟨ccl, cdd, vs, ccs, file, tf, hcode, hvs, hfile⟩ := T.code
  obtain ⟨mb, Bn, Bb⟩ := B
  have hcl : clsIn K C = some { name := nm, bases := bs, mro := .ref C :: bm, ns := N, qualname := qn, hasDict := true, slotNames := sn, subclasses := sub, abstract := ab, collection := col, hasDel := false } := by unfold clsIn; rw [hC] <;> rfl
  refine ks_codeAny_call_defAt (fd := ksFn "__init__" qual (eA p1 p2) (eB q) eS .none .none doc pm an (.ref cda) ct cc) (body := eB q) (binds := [("self", .ref e), ("why", v)]) hroom (X _ _ ho) rfl hlim (codeRec_of X hcd) rfl ?b ?c ?l (fun h₁ hns k₁ => ?_)
  case b => exact BindsTo.of_eq (by first | rfl | with_unfolding_all rfl)
  case c => show ∀ x ∈ eS.names, x.2 ≠ .cell; decide
  case l => exact locs rfl
  obtain ⟨sh, sg, sd, st, sos⟩ := s
  have X₁ : K.In h₁ := X.keeps k₁
  have hx₁ := k₁ _ _ hx
  have hC₁ := X₁ _ _ hC
  show _root_.PySem.wpAt (model prog w) _ (.func (eB q) (ksEnv qual eS sh.objs.size fI (.ref cda) cc)) (execs (eB q) (ksEnv qual eS sh.objs.size fI (.ref cda) cc)) _ _ _
  obtain ⟨pl, hpl⟩ := hMC (ksEnv qual eS sh.objs.size fI (.ref cda) cc)
  refine ks_wpAt_execs_cons (ks_wpAt_Expr_any (ks_wpAt_MethodCall ?_ hpl))
  refine ks_wpAt_super_base (env := ksEnv qual eS sh.objs.size fI (.ref cda) cc) (ar := { arg := "self", annotation := none, pos := p1 }) rfl rfl (by decide) rfl (X₁ _ _ ho) rfl rfl rfl (X₁ _ _ hcode) rfl hvs hfile T.top ?_
  refine ks_loadName_global rfl rfl (loadGlobal_builtin (env := ksEnv qual eS sh.objs.size fI (.ref cda) cc) (G.keeps k₁) T.nsup (Bn.keeps k₁) ((Bb _ (by decide +kernel)).trans (by first | boot_by_name | rfl | kernel_rfl)) ⟨rfl, ?_⟩)
  refine wpAny_loadName_free rfl rfl rfl ⟨_, X₁ _ _ hcell, rfl⟩ ?_
  refine wpAny_loadName_local rfl rfl hns (by first | rfl | with_unfolding_all rfl | kernel_rfl) ?_
  refine ks_wpAny_isType_cls hC₁ rfl ⟨rfl, ?_⟩
  refine ks_wpAny_call_super hC₁ rfl hx₁ rfl (fun c z => by cases z) (looks_mroIn X₁ T.own) (fun h₂ e2 k2 => ?_)
  have X₂ : K.In h₂ := X₁.keeps k2
  have hC₂ := k2 _ _ hC₁
  have hx₂ := k2 _ _ hx₁
  have I₂ : InstAt h₂ e (excO C t0) C none := ⟨hx₂, rfl, rfl, trivial⟩
  have hxC : e ≠ C := ks_ne X₂ I₂ hcl
  have hsup := T.sup
  unfold ks_superIn at hsup
  rw [hcl] at hsup
  refine kxs_getMethod kxs_ValueError e2 (looks_opaque X₂ T.tp) (l₀ := .ref C :: bm) (fun A Q E s k q => wpAny_bind ((looks_clsIn X₂ hcl) A _ E s k (wpAny_pure q))) rfl X₂ hsup (I₂.type.andThen (looks_subIn X₂ T.veC)) hxC rfl ?_
  refine kxs_callWith (i := "ValueError.__init__") (x := e) rfl ?_
  refine Calls.evalArgs_plain (Calls.spliced_cons ?_)
  have k3 : ∀ b o, h₂.get? b = some o → (h₂.push (kxs_mw "ValueError.__init__" e)).get? b = some o := fun b o z => Heap.get?_push_of_some _ z
  have X₃ := X₂.keeps k3
  have G₃ := ((G.keeps k₁).keeps k2).keeps k3
  have B₃ := ((Bn.keeps k₁).keeps k2).keeps k3
  have hns₃ := (hns.keeps k2).keeps k3
  have hu : (h₂.push (kxs_mw "ValueError.__init__" e)).get? h₂.objs.size = some (kxs_mw "ValueError.__init__" e) := by heap_get
  have hdg : (h₂.push (kxs_mw "ValueError.__init__" e)).NoDigits := let ⟨mc, a, _⟩ := ((hlim.keeps k₁).keeps k2).keeps k3; ⟨mc, a, ns_none_of X₃ a T.dg⟩
  generalize h₂.push (kxs_mw "ValueError.__init__" e) = h₃ at *
  refine wpAny_Call_NameR (wpAny_Name (ks_loadName_global rfl rfl (loadGlobal_builtin (env := ksEnv qual eS sh.objs.size fI (.ref cda) cc) G₃ T.nstr B₃ ((Bb _ (by decide +kernel)).trans (by first | boot_by_name | rfl | kernel_rfl)) ?_)) rfl)
  refine callWith_type1 ?_
  show wpAny _ _ (eval (.Name "why" (q 4)) _) _ _ _
  refine wpAny_Name (wpAny_loadName_local rfl rfl hns₃ (by first | rfl | with_unfolding_all rfl | kernel_rfl) ?_) (by decide)
  refine hv _ _ _ _ hh hdg (fun txt tk tk' => ?_)
  refine Calls.spliced_nil ⟨hu, ?_⟩
  refine init_call (hC := k3 _ _ hC₂) (he := k3 _ _ hx₂) (hu := hu) (one_size _) (fun h₄ t1 k4 hx₄ => ?_)
  have hLe : sh.objs.size ≠ e := Nat.ne_of_gt (Heap.lt_size hx)
  have hns₄ : h₄.Ns sh.objs.size (fun x => List.lookup x [((PySem.Str.ofString "self" : Str), Value.ref e), ((PySem.Str.ofString "why" : Str), v)].reverse) := by
    obtain ⟨oL, es, ep, hL, r⟩ := hns₃
    exact ⟨oL, es, ep, k4 _ _ hLe hL, r⟩
  have X₄ : K.In h₄ := kept_but X₃ hnx k4
  show wpAt _ _ _ (execs _ _) _ _ _
  refine ks_wpAt_execs_cons (ks_wpAt_Assign_Attr (wpAt_of_wpAny (wpAny_Name (wpAny_loadName_local rfl rfl hns₄ (by first | rfl | with_unfolding_all rfl | kernel_rfl) ?_) (by decide))) (hAC _))
  refine wpAny_Name (wpAny_loadName_local rfl rfl hns₄ (by first | rfl | with_unfolding_all rfl | kernel_rfl) ?_) (by decide)
  refine set_plain X₄ (ox := excO C t1) (od := none) ⟨hx₄, rfl, rfl, trivial⟩ T.sa ?_
  refine exc_osa X₄ hx₄ hcl (show refsVE (.ref C :: bm) = true from hbm) rfl T.noN (fun h₅ tk₅ dx k₅ dn dne hx₅ hn₅ => ?_)
  show wpAt _ _ _ (execs _ _) _ _ _
  have z : sh.objs.size < h₄.objs.size := hns₄.lt
  refine wpAt_of_wpAny (wpAny_execs_nil (hq h₅ tk₅ dx t1 ⟨fun b o hb e => k₅ b o hb (k4 b o hb (k3 _ _ (k2 _ _ (k₁ b o e)))), hx₅, Nat.le_of_lt (Nat.lt_of_lt_of_le z dn), dne, hn₅⟩))
theorem err_made (T : ErrTxt prog K mg x qual C fI cc cda) : Mkd prog w K mg C ["why"] (fun vs => ∃ v, vs = [v] ∧ okS v) := by
  intro A s R vs us rl hok X hlim G B hh hroom hq
  obtain ⟨v, rfl, ov⟩ := hok
  cases rl with
  | cons rv rn =>
  rename_i u us'
  cases rn
  obtain ⟨nm, q, N, bs, bm, sn, sub, ab, col, dd, k0, k1, k2, k3, k5, hC, hbm⟩ := T.cls
  obtain ⟨hp, g, dr, tk, os⟩ := s
  have k : ∀ b o, hp.get? b = some o → ((hp.push (kdv_tup [u])).push (excO C hp.objs.size)).get? b = some o := fun b o e => Heap.get?_push_of_some _ (Heap.get?_push_of_some _ e)
  have hget : ((hp.push (kdv_tup [u])).push (excO C hp.objs.size)).get? (hp.objs.size + 1) = some (excO C hp.objs.size) := by heap_get
  have hnx : K.lookup (hp.objs.size + 1) = none := by
    cases e : K.lookup (hp.objs.size + 1) with
    | none => rfl
    | some o =>
      have z : hp.get? (hp.objs.size + 1) = some o := X _ _ e
      exact absurd (Nat.lt_of_succ_lt (Heap.lt_size z)) (Nat.lt_irrefl _)
  refine call_own F.excBase_ValueError (fun X => refsVE_contains X bm hbm) (X _ _ hC) (looks_findIn X T.iC) (fun self => bind_fn X self T.tC) (one_size u) ?_
  obtain ⟨mb, B1, B2⟩ := B
  refine err_init (s := ⟨(hp.push (kdv_tup [u])).push (excO C hp.objs.size), g, dr, tk, os⟩) T (X.keeps k) (hlim.keeps k) (G.keeps k) ⟨mb, B1.keeps k, B2⟩ hget hnx ?_ ?_ (okS_ok rv ov) fun h' tk' dx t1 ⟨k', hx, dn, dne, hns⟩ => ?_
  · exact hh
  · show A.depth + 1 < recursionLimit
    exact hroom
  · have old : ∀ b o, hp.get? b = some o → h'.get? b = some o := fun b o e => k' b o (Nat.ne_of_lt (Nat.lt_succ_of_lt (Heap.lt_size e))) (k b o e)
    have z : hp.objs.size + 1 + 1 ≤ dx := by
      first
        | (simpa only [Heap.size_push] using dn)
        | exact dn
        | (have q := dn; rw [Heap.size_push, Heap.size_push] at q; exact q)
    refine ⟨rfl, hq h' tk' (hp.objs.size + 1) dx ⟨old, Nat.le_succ _, ⟨_, _, hx, rfl, rfl, rfl, rfl, rfl⟩, Nat.le_trans (Nat.le_trans (Nat.le_succ _) (Nat.le_succ _)) z, dne, ?_⟩⟩
    have ef : (fun y : Str => List.lookup y ([(PySem.Str.ofString "why" : Str)].zip [u])) = fun y => if y = PySem.Str.ofString "why" then some u else none := by
      funext y
      by_cases h : y = PySem.Str.ofString "why"
      · simp [List.lookup, h]
      · have h2 : (y == PySem.Str.ofString "why") = false := by simpa using h
        simp [List.lookup, h, h2]
    rw [ef]
    exact hns
def p1Of (st : Stmt) : Pos := match (L2.defArgs st).args with | [a, _] => a.pos | _ => ⟨0, 0, 0, 0⟩
def p2Of (st : Stmt) : Pos := match (L2.defArgs st).args with | [_, a] => a.pos | _ => ⟨0, 0, 0, 0⟩
def qOf (st : Stmt) : Nat → Pos := match L2.defBody st with
  | [.Expr (.Call (.Attribute (.Call (.Name _ q0) _ _ q1) _ q2) [.Call (.Name _ q3) [.Name _ q4] _ q5] _ q6) q7, .Assign [.Attribute (.Name _ q8) _ q9] (.Name _ q10) q11] =>
    fun n => [q0, q1, q2, q3, q4, q5, q6, q7, q8, q9, q10, q11].getD n ⟨0, 0, 0, 0⟩
  | _ => fun _ => ⟨0, 0, 0, 0⟩
theorem err_mk (st : Stmt) {h : Heap} {nm q : Str} {N : Addr} {bs bm : List Value} {sn : List Str} {sub : List Value} {ab : Bool} {col : Option Bool} {dd : Option Addr} {k0 k1 k2 k3 k5 : Option Value} {oc : Value} {od : Option Addr} {doc pm : Value} {an : Option Addr} {ct : Value} {osl : Array (Option Value)}
    {cl : Value} {cld : Option Addr} {csl : Array (Option Value)} {ccl : Value} {cdd : Option Addr} {vs : Array Value} {ccs : Array (Option Value)} {file : Str} {tf : Tok}
    (X : K.In h) (G : h.Ns mainGlobals mg) (aC : nsIn K mainGlobals x = some (some (.ref C))) (xL : K.lookup C = some (excClassObj nm q C N bs bm true sn sub ab col dd k0 k1 k2 k3 k5 "ValueError.__new__")) (bmv : refsVE bm = true)
    (sup : ks_superIn K C C "__init__" = some (some (.builtin "ValueError.__init__"))) (sa : findIn K (.ref C) "__setattr__" = some (some (.builtin "object.__setattr__"))) (no : findIn K (.ref C) "why" = some none)
    (a1 : findIn K (.ref C) "__init__" = some (some (.ref fI))) (t1 : typeIn K (.ref fI) = some (.type "function")) (kC : keepIn K (.ref C) = true) (eC : subIn K (.ref C) (.type "BaseException") = some true) (vC : subIn K (.ref C) (.type "ValueError") = some true)
    (tC : typeIn K (.ref C) = some (.type "type")) (own : mroIn K C (.ref C) = some true) (tp : nsIn K cStatics "thirdparty.any" = some none) (dg : nsIn K cStatics "sys.int_max_str_digits" = some none) (nsup : nsIn K mainGlobals "super" = some none) (nstr : nsIn K mainGlobals "str" = some none)
    (hst : L2.defArgs st = eA (p1Of st) (p2Of st) ∧ L2.defBody st = eB (qOf st) ∧ L2.defScope st = eS)
    (l1 : K.lookup fI = some ⟨oc, od, .func (ksFn "__init__" qual (L2.defArgs st) (L2.defBody st) (L2.defScope st) .none .none doc pm an (.ref cda) ct cc), osl⟩) (c1 : codeIn K (.ref cda) qual = true) (mc : MC (qOf st)) (ac : AC (qOf st))
    (ce : K.lookup cc = some ⟨cl, cld, .cell (some (.ref C)), csl⟩) (co : K.lookup cda = some ⟨ccl, cdd, .fields vs, ccs⟩) (cf : vs[2]? = some (.str file tf)) (cg : ((prog.main.file : Str) == file) = true) (top : (prog.main.scope.names.lookup ("super" : Str)).isSome = false)
    (hg : findIn K (.ref C) "__getattribute__" = some (some (.builtin "BaseException.__getattribute__"))) (hk : findIn K (.ref C) "__getattr__" = some none) (hd : hasDictIn K C = true) (ha : findIn K (.ref C) "__class__" = some (some (.builtin "object.__class__")))
    (hn : specialIn K (.builtin "object.__class__") "__get__" = some (some (.builtin "getset_descriptor.__get__"))) (ht : takesIn K (.builtin "object.__class__") = some true) (hm : mroIn K C (.type "object") = some true) :
    KW.ErrC prog w K mg x C ["why"] (fun vs => ∃ v, vs = [v] ∧ okS v) := by
  have T : ErrTxt prog K mg x qual C fI cc cda :=
    { gC := mg_of X G aC, cls := ⟨nm, q, N, bs, bm, sn, sub, ab, col, dd, k0, k1, k2, k3, k5, xL, bmv⟩, sup := sup, sa := sa, noN := no, iC := a1, tC := t1, kC := kC, exC := eC, veC := vC, tyC := tC, own := own, tp := tp, dg := dg,
      nsup := mg_none_of X G nsup, nstr := mg_none_of X G nstr,
      fn := ⟨oc, od, doc, pm, an, ct, osl, p1Of st, p2Of st, qOf st, by rw [← hst.1, ← hst.2.1, ← hst.2.2]; exact l1, c1, mc, ac⟩,
      cell := ⟨cl, cld, csl, ce⟩, code := ⟨ccl, cdd, vs, ccs, file, tf, co, cf, cg⟩, top := top }
  exact ⟨T.gC, err_made T, kC, eC, tC, ⟨hg, hk, eC, hd⟩, ⟨hg, hk, eC, hd, ha, hn, ht, hm⟩, fun f hf => by cases hf with | head => exact no | tail _ z => cases z⟩
end
end KErr_why
end PySem

set_option Elab.async false
set_option linter.all false
set_option maxRecDepth 100000
set_option maxHeartbeats 4000000
namespace PySem
namespace KErr_word
open PySem.W PySem.Calls PyProof.Rows PySem.HandSPX PySem.KErr
def eA (p1 p2 : Pos) : Arguments := { posonlyargs := [], args := [{ arg := "self", annotation := none, pos := p1 }, { arg := "word", annotation := none, pos := p2 }], vararg := none, kwonlyargs := [], kw_defaults := [], kwarg := none, defaults := [] }
def eB (q : Nat → Pos) : List Stmt := [
  .Expr (.Call (.Attribute (.Call (.Name "super" (q 0)) [] [] (q 1)) "__init__" (q 2)) [.Call (.Name "str" (q 3)) [.Name "word" (q 4)] [] (q 5)] [] (q 6)) (q 7),
  .Assign [.Attribute (.Name "self" (q 8)) "word" (q 9)] (.Name "word" (q 10)) (q 11)]
def eS : Scope := { kind := .function, names := [(PySem.Str.ofString "self", .local), (PySem.Str.ofString "word", .local), (PySem.Str.ofString "__class__", .free), (PySem.Str.ofString "super", .globalImplicit), (PySem.Str.ofString "str", .globalImplicit)], isGenerator := false, isCoroutine := false, more := [] }
def MC (q : Nat → Pos) : Prop := ∀ env : Env, ∃ pl : Sem Bool, eval (.Call (.Attribute (.Call (.Name "super" (q 0)) [] [] (q 1)) "__init__" (q 2)) [.Call (.Name "str" (q 3)) [.Name "word" (q 4)] [] (q 5)] [] (q 6)) env = (do
      let ov ← attributeBase (.Call (.Name "super" (q 0)) [] [] (q 1)) "__init__" env (eval (.Call (.Name "super" (q 0)) [] [] (q 1)) env)
      standAt (q 2).atName
      let (f, first) ← holding [ov] (getMethod ov "__init__" pl)
      callWith (q 6) f first (backTo (q 6) (starEach [.Call (.Name "str" (q 3)) [.Name "word" (q 4)] [] (q 5)] env)) [])
def AC (q : Nat → Pos) : Prop := ∀ env : Env, swapsWith (.Name "word" (q 10)) (some (.Attribute (.Name "self" (q 8)) "word" (q 9))) (q 11).line env = pure false
/-- what the top leaves of the class x with the one field -/
structure ErrTxt (prog : Program) (K : Frag) (mg : Str → Option Value) (x qual : Str) (C fI cc cda : Addr) : Prop where
  gC : mg x = some (.ref C)
  cls : ∃ nm q N bs bm sn sub ab col dd k0 k1 k2 k3 k5, K.lookup C = some (excClassObj nm q C N bs bm true sn sub ab col dd k0 k1 k2 k3 k5 "ValueError.__new__") ∧ refsVE bm = true
  sup : ks_superIn K C C "__init__" = some (some (.builtin "ValueError.__init__"))
  sa : findIn K (.ref C) "__setattr__" = some (some (.builtin "object.__setattr__"))
  noN : findIn K (.ref C) "word" = some none
  iC : findIn K (.ref C) "__init__" = some (some (.ref fI))
  tC : typeIn K (.ref fI) = some (.type "function")
  kC : keepIn K (.ref C) = true
  exC : subIn K (.ref C) (.type "BaseException") = some true
  veC : subIn K (.ref C) (.type "ValueError") = some true
  tyC : typeIn K (.ref C) = some (.type "type")
  own : mroIn K C (.ref C) = some true
  tp : nsIn K cStatics "thirdparty.any" = some none
  dg : nsIn K cStatics "sys.int_max_str_digits" = some none
  nsup : mg "super" = none
  nstr : mg "str" = none
  fn : ∃ (oc : Value) (od : Option Addr) (doc pm : Value) (an : Option Addr) (ct : Value) (osl : Array (Option Value)) (p1 p2 : Pos) (q : Nat → Pos),
    K.lookup fI = some ⟨oc, od, .func (ksFn "__init__" qual (eA p1 p2) (eB q) eS .none .none doc pm an (.ref cda) ct cc), osl⟩ ∧ codeIn K (.ref cda) qual = true ∧ MC q ∧ AC q
  cell : ∃ cl cld csl, K.lookup cc = some ⟨cl, cld, .cell (some (.ref C)), csl⟩
  code : ∃ ccl cdd vs ccs file tf, K.lookup cda = some ⟨ccl, cdd, .fields vs, ccs⟩ ∧ vs[2]? = some (.str file tf) ∧ ((prog.main.file : Str) == file) = true
  top : (prog.main.scope.names.lookup ("super" : Str)).isSome = false
section
variable {prog : Program} {w : World} {A : Around} {E : Value → Shared → Prop} {R : Result → Shared → Prop} {s : Shared} {K : Frag} {mg : Str → Option Value} {x qual : Str} {C fI cc cda : Addr}
theorem err_init (T : ErrTxt prog K mg x qual C fI cc cda) {e t0 : Addr} {v : Value} (X : K.In s.heap) (hlim : s.heap.NoLimit) (G : s.heap.Ns mainGlobals mg) (B : ∃ mb, s.heap.Ns builtinsNs mb ∧ ∀ x : Str, x ≠ "__name__" → mb x = bootBuiltins x)
    (hx : s.heap.get? e = some (excO C t0)) (hnx : K.lookup e = none) (hh : A.handled = none) (hroom : A.depth < recursionLimit) (hv : StrOk prog w v)
    (hq : ∀ h' tk dx t1, InitEnd s.heap h' e C dx t1 "word" v → R (.ok (.ret .none)) { s with heap := h', toks := tk }) :
    codeAny (model prog w) A (.call (.ref fI) ⟨[.ref e, v], []⟩) R s := by
  obtain ⟨oc, od, doc, pm, an, ct, osl, p1, p2, q, ho, hcd, hMC, hAC⟩ := T.fn
  obtain ⟨nm, qn, N, bs, bm, sn, sub, ab, col, dd, k0, k1, k2, k3, k5, hC, hbm⟩ := T.cls
  obtain ⟨cl, cld, csl, hcell⟩ := T.cell
  obtain ⟨ccl, cdd, vs, ccs, file, tf, hcode, hvs, hfile⟩ := T.code
  obtain ⟨mb, Bn, Bb⟩ := B
  have hcl : clsIn K C = some { name := nm, bases := bs, mro := .ref C :: bm, ns := N, qualname := qn, hasDict := true, slotNames := sn, subclasses := sub, abstract := ab, collection := col, hasDel := false } := by unfold clsIn; rw [hC] <;> rfl
  refine ks_codeAny_call_defAt (fd := ksFn "__init__" qual (eA p1 p2) (eB q) eS .none .none doc pm an (.ref cda) ct cc) (body := eB q) (binds := [("self", .ref e), ("word", v)]) hroom (X _ _ ho) rfl hlim (codeRec_of X hcd) rfl ?b ?c ?l (fun h₁ hns k₁ => ?_)
  case b => exact BindsTo.of_eq (by first | rfl | with_unfolding_all rfl)
  case c => show ∀ x ∈ eS.names, x.2 ≠ .cell; decide
  case l => exact locs rfl
  obtain ⟨sh, sg, sd, st, sos⟩ := s
  have X₁ : K.In h₁ := X.keeps k₁
  have hx₁ := k₁ _ _ hx
  have hC₁ := X₁ _ _ hC
  show _root_.PySem.wpAt (model prog w) _ (.func (eB q) (ksEnv qual eS sh.objs.size fI (.ref cda) cc)) (execs (eB q) (ksEnv qual eS sh.objs.size fI (.ref cda) cc)) _ _ _
  obtain ⟨pl, hpl⟩ := hMC (ksEnv qual eS sh.objs.size fI (.ref cda) cc)
  refine ks_wpAt_execs_cons (ks_wpAt_Expr_any (ks_wpAt_MethodCall ?_ hpl))
  refine ks_wpAt_super_base (env := ksEnv qual eS sh.objs.size fI (.ref cda) cc) (ar := { arg := "self", annotation := none, pos := p1 }) rfl rfl (by decide) rfl (X₁ _ _ ho) rfl rfl rfl (X₁ _ _ hcode) rfl hvs hfile T.top ?_
  refine ks_loadName_global rfl rfl (loadGlobal_builtin (env := ksEnv qual eS sh.objs.size fI (.ref cda) cc) (G.keeps k₁) T.nsup (Bn.keeps k₁) ((Bb _ (by decide +kernel)).trans (by first | boot_by_name | rfl | kernel_rfl)) ⟨rfl, ?_⟩)
  refine wpAny_loadName_free rfl rfl rfl ⟨_, X₁ _ _ hcell, rfl⟩ ?_
  refine wpAny_loadName_local rfl rfl hns (by first | rfl | with_unfolding_all rfl | kernel_rfl) ?_
  refine ks_wpAny_isType_cls hC₁ rfl ⟨rfl, ?_⟩
  refine ks_wpAny_call_super hC₁ rfl hx₁ rfl (fun c z => by cases z) (looks_mroIn X₁ T.own) (fun h₂ e2 k2 => ?_)
  have X₂ : K.In h₂ := X₁.keeps k2
  have hC₂ := k2 _ _ hC₁
  have hx₂ := k2 _ _ hx₁
  have I₂ : InstAt h₂ e (excO C t0) C none := ⟨hx₂, rfl, rfl, trivial⟩
  have hxC : e ≠ C := ks_ne X₂ I₂ hcl
  have hsup := T.sup
  unfold ks_superIn at hsup
  rw [hcl] at hsup
  refine kxs_getMethod kxs_ValueError e2 (looks_opaque X₂ T.tp) (l₀ := .ref C :: bm) (fun A Q E s k q => wpAny_bind ((looks_clsIn X₂ hcl) A _ E s k (wpAny_pure q))) rfl X₂ hsup (I₂.type.andThen (looks_subIn X₂ T.veC)) hxC rfl ?_
  refine kxs_callWith (i := "ValueError.__init__") (x := e) rfl ?_
  refine Calls.evalArgs_plain (Calls.spliced_cons ?_)
  have k3 : ∀ b o, h₂.get? b = some o → (h₂.push (kxs_mw "ValueError.__init__" e)).get? b = some o := fun b o z => Heap.get?_push_of_some _ z
  have X₃ := X₂.keeps k3
  have G₃ := ((G.keeps k₁).keeps k2).keeps k3
  have B₃ := ((Bn.keeps k₁).keeps k2).keeps k3
  have hns₃ := (hns.keeps k2).keeps k3
  have hu : (h₂.push (kxs_mw "ValueError.__init__" e)).get? h₂.objs.size = some (kxs_mw "ValueError.__init__" e) := by heap_get
  have hdg : (h₂.push (kxs_mw "ValueError.__init__" e)).NoDigits := let ⟨mc, a, _⟩ := ((hlim.keeps k₁).keeps k2).keeps k3; ⟨mc, a, ns_none_of X₃ a T.dg⟩
  generalize h₂.push (kxs_mw "ValueError.__init__" e) = h₃ at *
  refine wpAny_Call_NameR (wpAny_Name (ks_loadName_global rfl rfl (loadGlobal_builtin (env := ksEnv qual eS sh.objs.size fI (.ref cda) cc) G₃ T.nstr B₃ ((Bb _ (by decide +kernel)).trans (by first | boot_by_name | rfl | kernel_rfl)) ?_)) rfl)
  refine callWith_type1 ?_
  show wpAny _ _ (eval (.Name "word" (q 4)) _) _ _ _
  refine wpAny_Name (wpAny_loadName_local rfl rfl hns₃ (by first | rfl | with_unfolding_all rfl | kernel_rfl) ?_) (by decide)
  refine hv _ _ _ _ hh hdg (fun txt tk tk' => ?_)
  refine Calls.spliced_nil ⟨hu, ?_⟩
  refine init_call (hC := k3 _ _ hC₂) (he := k3 _ _ hx₂) (hu := hu) (one_size _) (fun h₄ t1 k4 hx₄ => ?_)
  have hLe : sh.objs.size ≠ e := Nat.ne_of_gt (Heap.lt_size hx)
  have hns₄ : h₄.Ns sh.objs.size (fun x => List.lookup x [((PySem.Str.ofString "self" : Str), Value.ref e), ((PySem.Str.ofString "word" : Str), v)].reverse) := by
    obtain ⟨oL, es, ep, hL, r⟩ := hns₃
    exact ⟨oL, es, ep, k4 _ _ hLe hL, r⟩
  have X₄ : K.In h₄ := kept_but X₃ hnx k4
  show wpAt _ _ _ (execs _ _) _ _ _
  refine ks_wpAt_execs_cons (ks_wpAt_Assign_Attr (wpAt_of_wpAny (wpAny_Name (wpAny_loadName_local rfl rfl hns₄ (by first | rfl | with_unfolding_all rfl | kernel_rfl) ?_) (by decide))) (hAC _))
  refine wpAny_Name (wpAny_loadName_local rfl rfl hns₄ (by first | rfl | with_unfolding_all rfl | kernel_rfl) ?_) (by decide)
  refine set_plain X₄ (ox := excO C t1) (od := none) ⟨hx₄, rfl, rfl, trivial⟩ T.sa ?_
  refine exc_osa X₄ hx₄ hcl (show refsVE (.ref C :: bm) = true from hbm) rfl T.noN (fun h₅ tk₅ dx k₅ dn dne hx₅ hn₅ => ?_)
  show wpAt _ _ _ (execs _ _) _ _ _
  have z : sh.objs.size < h₄.objs.size := hns₄.lt
  refine wpAt_of_wpAny (wpAny_execs_nil (hq h₅ tk₅ dx t1 ⟨fun b o hb e => k₅ b o hb (k4 b o hb (k3 _ _ (k2 _ _ (k₁ b o e)))), hx₅, Nat.le_of_lt (Nat.lt_of_lt_of_le z dn), dne, hn₅⟩))
theorem err_made (T : ErrTxt prog K mg x qual C fI cc cda) : Mkd prog w K mg C ["word"] (fun vs => ∃ v, vs = [v] ∧ okS v) := by
  intro A s R vs us rl hok X hlim G B hh hroom hq
  obtain ⟨v, rfl, ov⟩ := hok
  cases rl with
  | cons rv rn =>
  rename_i u us'
  cases rn
  obtain ⟨nm, q, N, bs, bm, sn, sub, ab, col, dd, k0, k1, k2, k3, k5, hC, hbm⟩ := T.cls
  obtain ⟨hp, g, dr, tk, os⟩ := s
  have k : ∀ b o, hp.get? b = some o → ((hp.push (kdv_tup [u])).push (excO C hp.objs.size)).get? b = some o := fun b o e => Heap.get?_push_of_some _ (Heap.get?_push_of_some _ e)
  have hget : ((hp.push (kdv_tup [u])).push (excO C hp.objs.size)).get? (hp.objs.size + 1) = some (excO C hp.objs.size) := by heap_get
  have hnx : K.lookup (hp.objs.size + 1) = none := by
    cases e : K.lookup (hp.objs.size + 1) with
    | none => rfl
    | some o =>
      have z : hp.get? (hp.objs.size + 1) = some o := X _ _ e
      exact absurd (Nat.lt_of_succ_lt (Heap.lt_size z)) (Nat.lt_irrefl _)
  refine call_own F.excBase_ValueError (fun X => refsVE_contains X bm hbm) (X _ _ hC) (looks_findIn X T.iC) (fun self => bind_fn X self T.tC) (one_size u) ?_
  obtain ⟨mb, B1, B2⟩ := B
  refine err_init (s := ⟨(hp.push (kdv_tup [u])).push (excO C hp.objs.size), g, dr, tk, os⟩) T (X.keeps k) (hlim.keeps k) (G.keeps k) ⟨mb, B1.keeps k, B2⟩ hget hnx ?_ ?_ (okS_ok rv ov) fun h' tk' dx t1 ⟨k', hx, dn, dne, hns⟩ => ?_
  · exact hh
  · show A.depth + 1 < recursionLimit
    exact hroom
  · have old : ∀ b o, hp.get? b = some o → h'.get? b = some o := fun b o e => k' b o (Nat.ne_of_lt (Nat.lt_succ_of_lt (Heap.lt_size e))) (k b o e)
    have z : hp.objs.size + 1 + 1 ≤ dx := by
      first
        | (simpa only [Heap.size_push] using dn)
        | exact dn
        | (have q := dn; rw [Heap.size_push, Heap.size_push] at q; exact q)
    refine ⟨rfl, hq h' tk' (hp.objs.size + 1) dx ⟨old, Nat.le_succ _, ⟨_, _, hx, rfl, rfl, rfl, rfl, rfl⟩, Nat.le_trans (Nat.le_trans (Nat.le_succ _) (Nat.le_succ _)) z, dne, ?_⟩⟩
    have ef : (fun y : Str => List.lookup y ([(PySem.Str.ofString "word" : Str)].zip [u])) = fun y => if y = PySem.Str.ofString "word" then some u else none := by
      funext y
      by_cases h : y = PySem.Str.ofString "word"
      · simp [List.lookup, h]
      · have h2 : (y == PySem.Str.ofString "word") = false := by simpa using h
        simp [List.lookup, h, h2]
    rw [ef]
    exact hns
def p1Of (st : Stmt) : Pos := match (L2.defArgs st).args with | [a, _] => a.pos | _ => ⟨0, 0, 0, 0⟩
def p2Of (st : Stmt) : Pos := match (L2.defArgs st).args with | [_, a] => a.pos | _ => ⟨0, 0, 0, 0⟩
def qOf (st : Stmt) : Nat → Pos := match L2.defBody st with
  | [.Expr (.Call (.Attribute (.Call (.Name _ q0) _ _ q1) _ q2) [.Call (.Name _ q3) [.Name _ q4] _ q5] _ q6) q7, .Assign [.Attribute (.Name _ q8) _ q9] (.Name _ q10) q11] =>
    fun n => [q0, q1, q2, q3, q4, q5, q6, q7, q8, q9, q10, q11].getD n ⟨0, 0, 0, 0⟩
  | _ => fun _ => ⟨0, 0, 0, 0⟩
theorem err_mk (st : Stmt) {h : Heap} {nm q : Str} {N : Addr} {bs bm : List Value} {sn : List Str} {sub : List Value} {ab : Bool} {col : Option Bool} {dd : Option Addr} {k0 k1 k2 k3 k5 : Option Value} {oc : Value} {od : Option Addr} {doc pm : Value} {an : Option Addr} {ct : Value} {osl : Array (Option Value)}
    {cl : Value} {cld : Option Addr} {csl : Array (Option Value)} {ccl : Value} {cdd : Option Addr} {vs : Array Value} {ccs : Array (Option Value)} {file : Str} {tf : Tok}
    (X : K.In h) (G : h.Ns mainGlobals mg) (aC : nsIn K mainGlobals x = some (some (.ref C))) (xL : K.lookup C = some (excClassObj nm q C N bs bm true sn sub ab col dd k0 k1 k2 k3 k5 "ValueError.__new__")) (bmv : refsVE bm = true)
    (sup : ks_superIn K C C "__init__" = some (some (.builtin "ValueError.__init__"))) (sa : findIn K (.ref C) "__setattr__" = some (some (.builtin "object.__setattr__"))) (no : findIn K (.ref C) "word" = some none)
    (a1 : findIn K (.ref C) "__init__" = some (some (.ref fI))) (t1 : typeIn K (.ref fI) = some (.type "function")) (kC : keepIn K (.ref C) = true) (eC : subIn K (.ref C) (.type "BaseException") = some true) (vC : subIn K (.ref C) (.type "ValueError") = some true)
    (tC : typeIn K (.ref C) = some (.type "type")) (own : mroIn K C (.ref C) = some true) (tp : nsIn K cStatics "thirdparty.any" = some none) (dg : nsIn K cStatics "sys.int_max_str_digits" = some none) (nsup : nsIn K mainGlobals "super" = some none) (nstr : nsIn K mainGlobals "str" = some none)
    (hst : L2.defArgs st = eA (p1Of st) (p2Of st) ∧ L2.defBody st = eB (qOf st) ∧ L2.defScope st = eS)
    (l1 : K.lookup fI = some ⟨oc, od, .func (ksFn "__init__" qual (L2.defArgs st) (L2.defBody st) (L2.defScope st) .none .none doc pm an (.ref cda) ct cc), osl⟩) (c1 : codeIn K (.ref cda) qual = true) (mc : MC (qOf st)) (ac : AC (qOf st))
    (ce : K.lookup cc = some ⟨cl, cld, .cell (some (.ref C)), csl⟩) (co : K.lookup cda = some ⟨ccl, cdd, .fields vs, ccs⟩) (cf : vs[2]? = some (.str file tf)) (cg : ((prog.main.file : Str) == file) = true) (top : (prog.main.scope.names.lookup ("super" : Str)).isSome = false)
    (hg : findIn K (.ref C) "__getattribute__" = some (some (.builtin "BaseException.__getattribute__"))) (hk : findIn K (.ref C) "__getattr__" = some none) (hd : hasDictIn K C = true) (ha : findIn K (.ref C) "__class__" = some (some (.builtin "object.__class__")))
    (hn : specialIn K (.builtin "object.__class__") "__get__" = some (some (.builtin "getset_descriptor.__get__"))) (ht : takesIn K (.builtin "object.__class__") = some true) (hm : mroIn K C (.type "object") = some true) :
    KW.ErrC prog w K mg x C ["word"] (fun vs => ∃ v, vs = [v] ∧ okS v) := by
  have T : ErrTxt prog K mg x qual C fI cc cda :=
    { gC := mg_of X G aC, cls := ⟨nm, q, N, bs, bm, sn, sub, ab, col, dd, k0, k1, k2, k3, k5, xL, bmv⟩, sup := sup, sa := sa, noN := no, iC := a1, tC := t1, kC := kC, exC := eC, veC := vC, tyC := tC, own := own, tp := tp, dg := dg,
      nsup := mg_none_of X G nsup, nstr := mg_none_of X G nstr,
      fn := ⟨oc, od, doc, pm, an, ct, osl, p1Of st, p2Of st, qOf st, by rw [← hst.1, ← hst.2.1, ← hst.2.2]; exact l1, c1, mc, ac⟩,
      cell := ⟨cl, cld, csl, ce⟩, code := ⟨ccl, cdd, vs, ccs, file, tf, co, cf, cg⟩, top := top }
  exact ⟨T.gC, err_made T, kC, eC, tC, ⟨hg, hk, eC, hd⟩, ⟨hg, hk, eC, hd, ha, hn, ht, hm⟩, fun f hf => by cases hf with | head => exact no | tail _ z => cases z⟩
end
end KErr_word
end PySem

set_option Elab.async false
set_option linter.all false
set_option maxRecDepth 100000
set_option maxHeartbeats 4000000
namespace K06
open PySem PySem.Spec PyProof.Rows L2 KW
def topS (i : Nat) : Stmt := PySem.Challenge.pw_kilnwarden_k06_new_harms_nothing_reached.main.body.getD i (.Pass ⟨0, 0, 0, 0⟩)

theorem lit_0 : (PySem.Str.ofString "open") = S [111, 112, 101, 110] := by decide +kernel
theorem lit_1 : (PySem.Str.ofString "made") = S [109, 97, 100, 101] := by decide +kernel
theorem lit_2 : (PySem.Str.ofString "room") = S [114, 111, 111, 109] := by decide +kernel
theorem lit_3 : (PySem.Str.ofString "number") = S [110, 117, 109, 98, 101, 114] := by decide +kernel
theorem lit_4 : (PySem.Str.ofString "other") = S [111, 116, 104, 101, 114] := by decide +kernel
abbrev s_BadWord_init : Stmt := inClass (topS 3) 0
abbrev s_NoRoom_init : Stmt := inClass (topS 4) 0
abbrev s_NoNumber_init : Stmt := inClass (topS 5) 0
abbrev s_Wrong_init : Stmt := inClass (topS 6) 0
abbrev s_is_ref : Stmt := topS 9
abbrev N_is_ref : List Str := ["word"]
theorem sc_is_ref : FnScope N_is_ref ["word"] (defScope s_is_ref) := ⟨rfl, rfl, rfl, by decide +kernel, rfl, by decide +kernel, by decide +kernel⟩
abbrev s_ref_of : Stmt := topS 10
abbrev N_ref_of : List Str := ["word"]
theorem sc_ref_of : FnScope N_ref_of ["word"] (defScope s_ref_of) := ⟨rfl, rfl, rfl, by decide +kernel, rfl, by decide +kernel, by decide +kernel⟩
abbrev s_reached : Stmt := topS 12
abbrev N_reached : List Str := ["store", "roots", "found", "waiting", "word", "number"]
theorem sc_reached : FnScope N_reached ["store", "roots"] (defScope s_reached) := ⟨rfl, rfl, rfl, by decide +kernel, rfl, by decide +kernel, by decide +kernel⟩
abbrev s_words_of : Stmt := topS 13
abbrev N_words_of : List Str := ["store", "numbers", "number"]
theorem sc_words_of : FnScope N_words_of ["store", "numbers"] (defScope s_words_of) := ⟨rfl, rfl, rfl, by decide +kernel, rfl, by decide +kernel, by decide +kernel⟩
abbrev s_collect : Stmt := topS 14
abbrev N_collect : List Str := ["store", "roots", "found", "gone", "number"]
theorem sc_collect : FnScope N_collect ["store", "roots"] (defScope s_collect) := ⟨rfl, rfl, rfl, by decide +kernel, rfl, by decide +kernel, by decide +kernel⟩
abbrev s_Store_init : Stmt := inClass (topS 18) 0
abbrev N_Store_init : List Str := ["self", "room", "entries"]
theorem sc_Store_init : FnScope N_Store_init ["self", "room", "entries"] (defScope s_Store_init) := ⟨rfl, rfl, rfl, by decide +kernel, rfl, by decide +kernel, by decide +kernel⟩
abbrev s_Store_used : Stmt := inClass (topS 18) 1
abbrev N_Store_used : List Str := ["self"]
theorem sc_Store_used : FnScope N_Store_used ["self"] (defScope s_Store_used) := ⟨rfl, rfl, rfl, by decide +kernel, rfl, by decide +kernel, by decide +kernel⟩
abbrev s_Store_exists : Stmt := inClass (topS 18) 2
abbrev N_Store_exists : List Str := ["self", "number"]
theorem sc_Store_exists : FnScope N_Store_exists ["self", "number"] (defScope s_Store_exists) := ⟨rfl, rfl, rfl, by decide +kernel, rfl, by decide +kernel, by decide +kernel⟩
abbrev s_Store_numbers : Stmt := inClass (topS 18) 3
abbrev N_Store_numbers : List Str := ["self"]
theorem sc_Store_numbers : FnScope N_Store_numbers ["self"] (defScope s_Store_numbers) := ⟨rfl, rfl, rfl, by decide +kernel, rfl, by decide +kernel, by decide +kernel⟩
abbrev s_Store_free_number : Stmt := inClass (topS 18) 4
abbrev N_Store_free_number : List Str := ["self"]
theorem sc_Store_free_number : FnScope N_Store_free_number ["self"] (defScope s_Store_free_number) := ⟨rfl, rfl, rfl, by decide +kernel, rfl, by decide +kernel, by decide +kernel⟩
abbrev s_Store_allocate : Stmt := inClass (topS 18) 5
abbrev N_Store_allocate : List Str := ["self", "kind", "size", "number"]
theorem sc_Store_allocate : FnScope N_Store_allocate ["self", "kind", "size"] (defScope s_Store_allocate) := ⟨rfl, rfl, rfl, by decide +kernel, rfl, by decide +kernel, by decide +kernel⟩
abbrev s_Store_size : Stmt := inClass (topS 18) 6
abbrev N_Store_size : List Str := ["self", "number"]
theorem sc_Store_size : FnScope N_Store_size ["self", "number"] (defScope s_Store_size) := ⟨rfl, rfl, rfl, by decide +kernel, rfl, by decide +kernel, by decide +kernel⟩
abbrev s_Store_kind : Stmt := inClass (topS 18) 7
abbrev N_Store_kind : List Str := ["self", "number"]
theorem sc_Store_kind : FnScope N_Store_kind ["self", "number"] (defScope s_Store_kind) := ⟨rfl, rfl, rfl, by decide +kernel, rfl, by decide +kernel, by decide +kernel⟩
abbrev s_Store_get : Stmt := inClass (topS 18) 9
abbrev N_Store_get : List Str := ["self", "number", "at"]
theorem sc_Store_get : FnScope N_Store_get ["self", "number", "at"] (defScope s_Store_get) := ⟨rfl, rfl, rfl, by decide +kernel, rfl, by decide +kernel, by decide +kernel⟩
abbrev s_Store_put : Stmt := inClass (topS 18) 10
abbrev N_Store_put : List Str := ["self", "number", "at", "word"]
theorem sc_Store_put : FnScope N_Store_put ["self", "number", "at", "word"] (defScope s_Store_put) := ⟨rfl, rfl, rfl, by decide +kernel, rfl, by decide +kernel, by decide +kernel⟩
abbrev s_Store_slots : Stmt := inClass (topS 18) 11
abbrev N_Store_slots : List Str := ["self", "number", "place"]
theorem sc_Store_slots : FnScope N_Store_slots ["self", "number"] (defScope s_Store_slots) := ⟨rfl, rfl, rfl, by decide +kernel, rfl, by decide +kernel, by decide +kernel⟩
abbrev s_Store_drop : Stmt := inClass (topS 18) 12
abbrev N_Store_drop : List Str := ["self", "number"]
theorem sc_Store_drop : FnScope N_Store_drop ["self", "number"] (defScope s_Store_drop) := ⟨rfl, rfl, rfl, by decide +kernel, rfl, by decide +kernel, by decide +kernel⟩
abbrev s_Store_close_up : Stmt := inClass (topS 18) 13
abbrev N_Store_close_up : List Str := ["self", "words", "places", "old", "number", "place"]
theorem sc_Store_close_up : FnScope N_Store_close_up ["self"] (defScope s_Store_close_up) := ⟨rfl, rfl, rfl, by decide +kernel, rfl, by decide +kernel, by decide +kernel⟩
abbrev s_Space_init : Stmt := inClass (topS 21) 0
abbrev N_Space_init : List Str := ["self", "room", "entries"]
theorem sc_Space_init : FnScope N_Space_init ["self", "room", "entries"] (defScope s_Space_init) := ⟨rfl, rfl, rfl, by decide +kernel, rfl, by decide +kernel, by decide +kernel⟩
abbrev s_Space_press : Stmt := inClass (topS 21) 1
abbrev N_Space_press : List Str := ["self", "moments", "always"]
theorem sc_Space_press : FnScope N_Space_press ["self", "moments", "always"] (defScope s_Space_press) := ⟨rfl, rfl, rfl, by decide +kernel, rfl, by decide +kernel, by decide +kernel⟩
abbrev s_Space_root : Stmt := inClass (topS 21) 2
abbrev N_Space_root : List Str := ["self", "k"]
theorem sc_Space_root : FnScope N_Space_root ["self", "k"] (defScope s_Space_root) := ⟨rfl, rfl, rfl, by decide +kernel, rfl, by decide +kernel, by decide +kernel⟩
abbrev s_Space_set_root : Stmt := inClass (topS 21) 3
abbrev N_Space_set_root : List Str := ["self", "k", "word"]
theorem sc_Space_set_root : FnScope N_Space_set_root ["self", "k", "word"] (defScope s_Space_set_root) := ⟨rfl, rfl, rfl, by decide +kernel, rfl, by decide +kernel, by decide +kernel⟩
abbrev s_Space_hold : Stmt := inClass (topS 21) 4
abbrev N_Space_hold : List Str := ["self", "word"]
theorem sc_Space_hold : FnScope N_Space_hold ["self", "word"] (defScope s_Space_hold) := ⟨rfl, rfl, rfl, by decide +kernel, rfl, by decide +kernel, by decide +kernel⟩
abbrev s_Space_drop : Stmt := inClass (topS 21) 5
abbrev N_Space_drop : List Str := ["self", "count"]
theorem sc_Space_drop : FnScope N_Space_drop ["self", "count"] (defScope s_Space_drop) := ⟨rfl, rfl, rfl, by decide +kernel, rfl, by decide +kernel, by decide +kernel⟩
abbrev s_Space_held : Stmt := inClass (topS 21) 6
abbrev N_Space_held : List Str := ["self"]
theorem sc_Space_held : FnScope N_Space_held ["self"] (defScope s_Space_held) := ⟨rfl, rfl, rfl, by decide +kernel, rfl, by decide +kernel, by decide +kernel⟩
abbrev s_Space_all_roots : Stmt := inClass (topS 21) 7
abbrev N_Space_all_roots : List Str := ["self"]
theorem sc_Space_all_roots : FnScope N_Space_all_roots ["self"] (defScope s_Space_all_roots) := ⟨rfl, rfl, rfl, by decide +kernel, rfl, by decide +kernel, by decide +kernel⟩
abbrev s_Space_collect : Stmt := inClass (topS 21) 8
abbrev N_Space_collect : List Str := ["self"]
theorem sc_Space_collect : FnScope N_Space_collect ["self"] (defScope s_Space_collect) := ⟨rfl, rfl, rfl, by decide +kernel, rfl, by decide +kernel, by decide +kernel⟩
abbrev s_Space_collect_with : Stmt := inClass (topS 21) 9
abbrev N_Space_collect_with : List Str := ["self", "word"]
theorem sc_Space_collect_with : FnScope N_Space_collect_with ["self", "word"] (defScope s_Space_collect_with) := ⟨rfl, rfl, rfl, by decide +kernel, rfl, by decide +kernel, by decide +kernel⟩
abbrev s_Space_live_words : Stmt := inClass (topS 21) 10
abbrev N_Space_live_words : List Str := ["self"]
theorem sc_Space_live_words : FnScope N_Space_live_words ["self"] (defScope s_Space_live_words) := ⟨rfl, rfl, rfl, by decide +kernel, rfl, by decide +kernel, by decide +kernel⟩
abbrev s_Space_new : Stmt := inClass (topS 21) 11
abbrev N_Space_new : List Str := ["self", "kind", "size"]
theorem sc_Space_new : FnScope N_Space_new ["self", "kind", "size"] (defScope s_Space_new) := ⟨rfl, rfl, rfl, by decide +kernel, rfl, by decide +kernel, by decide +kernel⟩
abbrev s_Space_fitted : Stmt := inClass (topS 21) 12
abbrev N_Space_fitted : List Str := ["self", "kind", "size"]
theorem sc_Space_fitted : FnScope N_Space_fitted ["self", "kind", "size"] (defScope s_Space_fitted) := ⟨rfl, rfl, rfl, by decide +kernel, rfl, by decide +kernel, by decide +kernel⟩
abbrev s__law_number : Stmt := topS 23
abbrev N__law_number : List Str := ["cell", "k", "mixed"]
theorem sc__law_number : FnScope N__law_number ["cell", "k"] (defScope s__law_number) := ⟨rfl, rfl, rfl, by decide +kernel, rfl, by decide +kernel, by decide +kernel⟩
abbrev s__law_deeds : Stmt := topS 24
abbrev N__law_deeds : List Str := ["cell", "k"]
theorem sc__law_deeds : FnScope N__law_deeds ["cell", "k"] (defScope s__law_deeds) := ⟨rfl, rfl, rfl, by decide +kernel, rfl, by decide +kernel, by decide +kernel⟩
abbrev s__law_is : Stmt := topS 25
abbrev N__law_is : List Str := ["actual", "due"]
theorem sc__law_is : FnScope N__law_is ["actual", "due"] (defScope s__law_is) := ⟨rfl, rfl, rfl, by decide +kernel, rfl, by decide +kernel, by decide +kernel⟩
abbrev s__law_same : Stmt := topS 26
abbrev N__law_same : List Str := ["actual", "due", "k"]
theorem sc__law_same : FnScope N__law_same ["actual", "due"] (defScope s__law_same) := ⟨rfl, rfl, rfl, by decide +kernel, rfl, by decide +kernel, by decide +kernel⟩
abbrev s__law_place : Stmt := topS 27
abbrev N__law_place : List Str := ["x", "place"]
theorem sc__law_place : FnScope N__law_place ["x"] (defScope s__law_place) := ⟨rfl, rfl, rfl, by decide +kernel, rfl, by decide +kernel, by decide +kernel⟩
abbrev s__law_word : Stmt := topS 28
abbrev N__law_word : List Str := ["space", "x", "rest"]
theorem sc__law_word : FnScope N__law_word ["space", "x"] (defScope s__law_word) := ⟨rfl, rfl, rfl, by decide +kernel, rfl, by decide +kernel, by decide +kernel⟩
abbrev s__law_reached : Stmt := topS 29
abbrev N__law_reached : List Str := ["space", "words", "store", "found", "waiting", "word", "turn", "number", "row"]
theorem sc__law_reached : FnScope N__law_reached ["space", "words"] (defScope s__law_reached) := ⟨rfl, rfl, rfl, by decide +kernel, rfl, by decide +kernel, by decide +kernel⟩
abbrev s__law_total : Stmt := topS 30
abbrev N__law_total : List Str := ["found", "number"]
theorem sc__law_total : FnScope N__law_total ["found"] (defScope s__law_total) := ⟨rfl, rfl, rfl, by decide +kernel, rfl, by decide +kernel, by decide +kernel⟩
abbrev s__law_collections : Stmt := topS 31
abbrev N__law_collections : List Str := ["space", "found", "limits", "size", "count", "used", "forced"]
theorem sc__law_collections : FnScope N__law_collections ["space", "found", "limits", "size"] (defScope s__law_collections) := ⟨rfl, rfl, rfl, by decide +kernel, rfl, by decide +kernel, by decide +kernel⟩
abbrev s__law_called : Stmt := topS 32
abbrev N__law_called : List Str := ["space", "kind", "size", "e"]
theorem sc__law_called : FnScope N__law_called ["space", "kind", "size"] (defScope s__law_called) := ⟨rfl, rfl, rfl, by decide +kernel, rfl, by decide +kernel, by decide +kernel⟩
abbrev s__law_kept : Stmt := topS 33
abbrev N__law_kept : List Str := ["space", "found", "store", "number"]
theorem sc__law_kept : FnScope N__law_kept ["space", "found"] (defScope s__law_kept) := ⟨rfl, rfl, rfl, by decide +kernel, rfl, by decide +kernel, by decide +kernel⟩
abbrev s__law_held : Stmt := topS 34
abbrev N__law_held : List Str := ["space", "numbers", "used", "number", "size", "due"]
theorem sc__law_held : FnScope N__law_held ["space", "numbers", "used", "number", "size"] (defScope s__law_held) := ⟨rfl, rfl, rfl, by decide +kernel, rfl, by decide +kernel, by decide +kernel⟩
abbrev s__law_fresh : Stmt := topS 35
abbrev N__law_fresh : List Str := ["space", "found", "number", "kind", "size"]
theorem sc__law_fresh : FnScope N__law_fresh ["space", "found", "number", "kind", "size"] (defScope s__law_fresh) := ⟨rfl, rfl, rfl, by decide +kernel, rfl, by decide +kernel, by decide +kernel⟩
abbrev s__law_new : Stmt := topS 36
abbrev N__law_new : List Str := ["space", "limits", "kind", "size", "found", "roots", "counts", "collections", "numbers", "used", "number", "due", "told"]
theorem sc__law_new : FnScope N__law_new ["space", "limits", "kind", "size"] (defScope s__law_new) := ⟨rfl, rfl, rfl, by decide +kernel, rfl, by decide +kernel, by decide +kernel⟩
abbrev s__law_deed : Stmt := topS 37
abbrev N__law_deed : List Str := ["space", "limits", "x", "deed", "rest", "place", "size", "number", "word", "at"]
theorem sc__law_deed : FnScope N__law_deed ["space", "limits", "x"] (defScope s__law_deed) := ⟨rfl, rfl, rfl, by decide +kernel, rfl, by decide +kernel, by decide +kernel⟩
abbrev s__law_space : Stmt := topS 38
abbrev N__law_space : List Str := ["cells", "x", "room", "entries", "space", "y", "every", "moments", "k", "passed"]
theorem sc__law_space : FnScope N__law_space ["cells"] (defScope s__law_space) := ⟨rfl, rfl, rfl, by decide +kernel, rfl, by decide +kernel, by decide +kernel⟩
abbrev s_law : Stmt := topS 39
abbrev N_law : List Str := ["script", "cells", "cell", "made", "space", "fresh", "k", "x"]
theorem sc_law : FnScope N_law ["script"] (defScope s_law) := ⟨rfl, rfl, rfl, by decide +kernel, rfl, by decide +kernel, by decide +kernel⟩
structure Ads where
  KilnwardenError : Addr
  BadWord : Addr
  NoRoom : Addr
  NoNumber : Addr
  Wrong : Addr
  Store : Addr
  Space : Addr
  c_Store_close_up : Addr
  p_Store_close_up : Addr
structure Txt (P : Program) (w : World) (K : Frag) (mg : Str → Option Value) (a : Ads) : Prop where
  g_KilnwardenError : mg "KilnwardenError" = some (.ref a.KilnwardenError)
  g_BadWord : mg "BadWord" = some (.ref a.BadWord)
  g_NoRoom : mg "NoRoom" = some (.ref a.NoRoom)
  g_NoNumber : mg "NoNumber" = some (.ref a.NoNumber)
  g_Wrong : mg "Wrong" = some (.ref a.Wrong)
  g_Store : mg "Store" = some (.ref a.Store)
  g_Space : mg "Space" = some (.ref a.Space)
  e_BadWord : ErrC P w K mg "BadWord" a.BadWord ["word"] (fun vs => ∃ v, vs = [v] ∧ PySem.KErr.okS v)
  x_BadWord_KilnwardenError : PySem.W.exmOne K (.ref a.BadWord) (.ref a.KilnwardenError) = some true
  x_BadWord_NoNumber : PySem.W.exmOne K (.ref a.BadWord) (.ref a.NoNumber) = some false
  x_BadWord_NoRoom : PySem.W.exmOne K (.ref a.BadWord) (.ref a.NoRoom) = some false
  i_BadWord_NoNumber : PySem.W.kitOne K (.ref a.BadWord) (.ref a.NoNumber) = some false
  i_BadWord_NoRoom : PySem.W.kitOne K (.ref a.BadWord) (.ref a.NoRoom) = some false
  e_NoRoom : ErrC P w K mg "NoRoom" a.NoRoom ["need"] (fun vs => ∃ v, vs = [v] ∧ PySem.KErr.okS v)
  x_NoRoom_KilnwardenError : PySem.W.exmOne K (.ref a.NoRoom) (.ref a.KilnwardenError) = some true
  x_NoRoom_NoNumber : PySem.W.exmOne K (.ref a.NoRoom) (.ref a.NoNumber) = some false
  x_NoRoom_NoRoom : PySem.W.exmOne K (.ref a.NoRoom) (.ref a.NoRoom) = some true
  i_NoRoom_NoNumber : PySem.W.kitOne K (.ref a.NoRoom) (.ref a.NoNumber) = some false
  i_NoRoom_NoRoom : PySem.W.kitOne K (.ref a.NoRoom) (.ref a.NoRoom) = some true
  e_NoNumber : ErrC P w K mg "NoNumber" a.NoNumber ["limit"] (fun vs => ∃ v, vs = [v] ∧ PySem.KErr.okS v)
  x_NoNumber_KilnwardenError : PySem.W.exmOne K (.ref a.NoNumber) (.ref a.KilnwardenError) = some true
  x_NoNumber_NoNumber : PySem.W.exmOne K (.ref a.NoNumber) (.ref a.NoNumber) = some true
  x_NoNumber_NoRoom : PySem.W.exmOne K (.ref a.NoNumber) (.ref a.NoRoom) = some false
  i_NoNumber_NoNumber : PySem.W.kitOne K (.ref a.NoNumber) (.ref a.NoNumber) = some true
  i_NoNumber_NoRoom : PySem.W.kitOne K (.ref a.NoNumber) (.ref a.NoRoom) = some false
  e_Wrong : ErrC P w K mg "Wrong" a.Wrong ["why"] (fun vs => ∃ v, vs = [v] ∧ PySem.KErr.okS v)
  x_Wrong_KilnwardenError : PySem.W.exmOne K (.ref a.Wrong) (.ref a.KilnwardenError) = some true
  x_Wrong_NoNumber : PySem.W.exmOne K (.ref a.Wrong) (.ref a.NoNumber) = some false
  x_Wrong_NoRoom : PySem.W.exmOne K (.ref a.Wrong) (.ref a.NoRoom) = some false
  i_Wrong_NoNumber : PySem.W.kitOne K (.ref a.Wrong) (.ref a.NoNumber) = some false
  i_Wrong_NoRoom : PySem.W.kitOne K (.ref a.Wrong) (.ref a.NoRoom) = some false
  c_Store : ClsA K mg "Store" a.Store ["room", "entries", "words", "_places", "_least"]
  c_Space : ClsA K mg "Space" a.Space ["store", "pressure", "always", "allocations", "collections", "_roots", "_held", "_saved"]
  ini_Store : IniAt K a.Store "Store.__init__" s_Store_init ["self", "room", "entries"] []
  m_Store_used : MetAt K a.Store "used" "Store.used" s_Store_used ["self"]
  m_Store_exists : MetAt K a.Store "exists" "Store.exists" s_Store_exists ["self", "number"]
  m_Store_numbers : MetAt K a.Store "numbers" "Store.numbers" s_Store_numbers ["self"]
  m_Store_free_number : MetAt K a.Store "free_number" "Store.free_number" s_Store_free_number ["self"]
  m_Store_allocate : MetAt K a.Store "allocate" "Store.allocate" s_Store_allocate ["self", "kind", "size"]
  m_Store_size : MetAt K a.Store "size" "Store.size" s_Store_size ["self", "number"]
  m_Store_kind : MetAt K a.Store "kind" "Store.kind" s_Store_kind ["self", "number"]
  m_Store_get : MetAt K a.Store "get" "Store.get" s_Store_get ["self", "number", "at"]
  m_Store_put : MetAt K a.Store "put" "Store.put" s_Store_put ["self", "number", "at", "word"]
  m_Store_slots : MetAt K a.Store "slots" "Store.slots" s_Store_slots ["self", "number"]
  m_Store_drop : MetAt K a.Store "drop" "Store.drop" s_Store_drop ["self", "number"]
  m_Store_close_up : MetAtC K a.Store "close_up" "Store.close_up" s_Store_close_up ["self"] a.c_Store_close_up
  kd_Store_close_up : PySem.W.codeHdIn K a.c_Store_close_up a.p_Store_close_up = true
  kn_Store_close_up : K.lookup a.p_Store_close_up = none
  ini_Space : IniAt K a.Space "Space.__init__" s_Space_init ["self", "room", "entries"] []
  m_Space_press : MetAtK K a.Space "press" "Space.press" s_Space_press ["self", "moments", "always"] "always" (.bl false)
  m_Space_root : MetAt K a.Space "root" "Space.root" s_Space_root ["self", "k"]
  m_Space_set_root : MetAt K a.Space "set_root" "Space.set_root" s_Space_set_root ["self", "k", "word"]
  m_Space_hold : MetAt K a.Space "hold" "Space.hold" s_Space_hold ["self", "word"]
  m_Space_drop : MetAt K a.Space "drop" "Space.drop" s_Space_drop ["self", "count"]
  m_Space_held : MetAt K a.Space "held" "Space.held" s_Space_held ["self"]
  m_Space_all_roots : MetAt K a.Space "all_roots" "Space.all_roots" s_Space_all_roots ["self"]
  m_Space_collect : MetAt K a.Space "collect" "Space.collect" s_Space_collect ["self"]
  m_Space_collect_with : MetAt K a.Space "collect_with" "Space.collect_with" s_Space_collect_with ["self", "word"]
  m_Space_live_words : MetAt K a.Space "live_words" "Space.live_words" s_Space_live_words ["self"]
  m_Space_new : MetAt K a.Space "new" "Space.new" s_Space_new ["self", "kind", "size"]
  m_Space_fitted : MetAt K a.Space "fitted" "Space.fitted" s_Space_fitted ["self", "kind", "size"]
  n_bool : mg "bool" = none
  n_int : mg "int" = none
  n_isinstance : mg "isinstance" = none
  n_len : mg "len" = none
  n_list : mg "list" = none
  n_min : mg "min" = none
  n_range : mg "range" = none
  n_sorted : mg "sorted" = none
  n_sum : mg "sum" = none
  g_NIL : GV mg "NIL" (.int (0))
  -- constant collect_collecting
  g_HEADER : GV mg "HEADER" (.int (3))
  g_ROOTS : GV mg "ROOTS" (.int (16))
  d_is_ref : DefAt K mg "is_ref" "is_ref" s_is_ref ["word"]
  d_ref_of : DefAt K mg "ref_of" "ref_of" s_ref_of ["word"]
  d_reached : DefAt K mg "reached" "reached" s_reached ["store", "roots"]
  d_words_of : DefAt K mg "words_of" "words_of" s_words_of ["store", "numbers"]
  d_collect : DefAt K mg "collect" "collect" s_collect ["store", "roots"]
  d__law_number : DefAt K mg "_law_number" "_law_number" s__law_number ["cell", "k"]
  d__law_deeds : DefAt K mg "_law_deeds" "_law_deeds" s__law_deeds ["cell", "k"]
  d__law_is : DefAt K mg "_law_is" "_law_is" s__law_is ["actual", "due"]
  d__law_same : DefAt K mg "_law_same" "_law_same" s__law_same ["actual", "due"]
  d__law_place : DefAt K mg "_law_place" "_law_place" s__law_place ["x"]
  d__law_word : DefAt K mg "_law_word" "_law_word" s__law_word ["space", "x"]
  d__law_reached : DefAt K mg "_law_reached" "_law_reached" s__law_reached ["space", "words"]
  d__law_total : DefAt K mg "_law_total" "_law_total" s__law_total ["found"]
  d__law_collections : DefAt K mg "_law_collections" "_law_collections" s__law_collections ["space", "found", "limits", "size"]
  d__law_called : DefAt K mg "_law_called" "_law_called" s__law_called ["space", "kind", "size"]
  d__law_kept : DefAt K mg "_law_kept" "_law_kept" s__law_kept ["space", "found"]
  d__law_held : DefAt K mg "_law_held" "_law_held" s__law_held ["space", "numbers", "used", "number", "size"]
  d__law_fresh : DefAt K mg "_law_fresh" "_law_fresh" s__law_fresh ["space", "found", "number", "kind", "size"]
  d__law_new : DefAt K mg "_law_new" "_law_new" s__law_new ["space", "limits", "kind", "size"]
  d__law_deed : DefAt K mg "_law_deed" "_law_deed" s__law_deed ["space", "limits", "x"]
  d__law_space : DefAt K mg "_law_space" "_law_space" s__law_space ["cells"]
  d_law : DefAt K mg "law" "law" s_law ["script"]
  d_collect_collecting : DefAtA K mg "collect_collecting" "collect" "collect" s_collect ["store", "roots"]
theorem fe_room_entries : ((PySem.Str.ofString "room" : Str) = PySem.Str.ofString "entries") = False := eq_false (by decide)
theorem fe_room_words : ((PySem.Str.ofString "room" : Str) = PySem.Str.ofString "words") = False := eq_false (by decide)
theorem fe_room__places : ((PySem.Str.ofString "room" : Str) = PySem.Str.ofString "_places") = False := eq_false (by decide)
theorem fe_room__least : ((PySem.Str.ofString "room" : Str) = PySem.Str.ofString "_least") = False := eq_false (by decide)
theorem fe_entries_room : ((PySem.Str.ofString "entries" : Str) = PySem.Str.ofString "room") = False := eq_false (by decide)
theorem fe_entries_words : ((PySem.Str.ofString "entries" : Str) = PySem.Str.ofString "words") = False := eq_false (by decide)
theorem fe_entries__places : ((PySem.Str.ofString "entries" : Str) = PySem.Str.ofString "_places") = False := eq_false (by decide)
theorem fe_entries__least : ((PySem.Str.ofString "entries" : Str) = PySem.Str.ofString "_least") = False := eq_false (by decide)
theorem fe_words_room : ((PySem.Str.ofString "words" : Str) = PySem.Str.ofString "room") = False := eq_false (by decide)
theorem fe_words_entries : ((PySem.Str.ofString "words" : Str) = PySem.Str.ofString "entries") = False := eq_false (by decide)
theorem fe_words__places : ((PySem.Str.ofString "words" : Str) = PySem.Str.ofString "_places") = False := eq_false (by decide)
theorem fe_words__least : ((PySem.Str.ofString "words" : Str) = PySem.Str.ofString "_least") = False := eq_false (by decide)
theorem fe__places_room : ((PySem.Str.ofString "_places" : Str) = PySem.Str.ofString "room") = False := eq_false (by decide)
theorem fe__places_entries : ((PySem.Str.ofString "_places" : Str) = PySem.Str.ofString "entries") = False := eq_false (by decide)
theorem fe__places_words : ((PySem.Str.ofString "_places" : Str) = PySem.Str.ofString "words") = False := eq_false (by decide)
theorem fe__places__least : ((PySem.Str.ofString "_places" : Str) = PySem.Str.ofString "_least") = False := eq_false (by decide)
theorem fe__least_room : ((PySem.Str.ofString "_least" : Str) = PySem.Str.ofString "room") = False := eq_false (by decide)
theorem fe__least_entries : ((PySem.Str.ofString "_least" : Str) = PySem.Str.ofString "entries") = False := eq_false (by decide)
theorem fe__least_words : ((PySem.Str.ofString "_least" : Str) = PySem.Str.ofString "words") = False := eq_false (by decide)
theorem fe__least__places : ((PySem.Str.ofString "_least" : Str) = PySem.Str.ofString "_places") = False := eq_false (by decide)
theorem fe_store_pressure : ((PySem.Str.ofString "store" : Str) = PySem.Str.ofString "pressure") = False := eq_false (by decide)
theorem fe_store_always : ((PySem.Str.ofString "store" : Str) = PySem.Str.ofString "always") = False := eq_false (by decide)
theorem fe_store_allocations : ((PySem.Str.ofString "store" : Str) = PySem.Str.ofString "allocations") = False := eq_false (by decide)
theorem fe_store_collections : ((PySem.Str.ofString "store" : Str) = PySem.Str.ofString "collections") = False := eq_false (by decide)
theorem fe_store__roots : ((PySem.Str.ofString "store" : Str) = PySem.Str.ofString "_roots") = False := eq_false (by decide)
theorem fe_store__held : ((PySem.Str.ofString "store" : Str) = PySem.Str.ofString "_held") = False := eq_false (by decide)
theorem fe_store__saved : ((PySem.Str.ofString "store" : Str) = PySem.Str.ofString "_saved") = False := eq_false (by decide)
theorem fe_pressure_store : ((PySem.Str.ofString "pressure" : Str) = PySem.Str.ofString "store") = False := eq_false (by decide)
theorem fe_pressure_always : ((PySem.Str.ofString "pressure" : Str) = PySem.Str.ofString "always") = False := eq_false (by decide)
theorem fe_pressure_allocations : ((PySem.Str.ofString "pressure" : Str) = PySem.Str.ofString "allocations") = False := eq_false (by decide)
theorem fe_pressure_collections : ((PySem.Str.ofString "pressure" : Str) = PySem.Str.ofString "collections") = False := eq_false (by decide)
theorem fe_pressure__roots : ((PySem.Str.ofString "pressure" : Str) = PySem.Str.ofString "_roots") = False := eq_false (by decide)
theorem fe_pressure__held : ((PySem.Str.ofString "pressure" : Str) = PySem.Str.ofString "_held") = False := eq_false (by decide)
theorem fe_pressure__saved : ((PySem.Str.ofString "pressure" : Str) = PySem.Str.ofString "_saved") = False := eq_false (by decide)
theorem fe_always_store : ((PySem.Str.ofString "always" : Str) = PySem.Str.ofString "store") = False := eq_false (by decide)
theorem fe_always_pressure : ((PySem.Str.ofString "always" : Str) = PySem.Str.ofString "pressure") = False := eq_false (by decide)
theorem fe_always_allocations : ((PySem.Str.ofString "always" : Str) = PySem.Str.ofString "allocations") = False := eq_false (by decide)
theorem fe_always_collections : ((PySem.Str.ofString "always" : Str) = PySem.Str.ofString "collections") = False := eq_false (by decide)
theorem fe_always__roots : ((PySem.Str.ofString "always" : Str) = PySem.Str.ofString "_roots") = False := eq_false (by decide)
theorem fe_always__held : ((PySem.Str.ofString "always" : Str) = PySem.Str.ofString "_held") = False := eq_false (by decide)
theorem fe_always__saved : ((PySem.Str.ofString "always" : Str) = PySem.Str.ofString "_saved") = False := eq_false (by decide)
theorem fe_allocations_store : ((PySem.Str.ofString "allocations" : Str) = PySem.Str.ofString "store") = False := eq_false (by decide)
theorem fe_allocations_pressure : ((PySem.Str.ofString "allocations" : Str) = PySem.Str.ofString "pressure") = False := eq_false (by decide)
theorem fe_allocations_always : ((PySem.Str.ofString "allocations" : Str) = PySem.Str.ofString "always") = False := eq_false (by decide)
theorem fe_allocations_collections : ((PySem.Str.ofString "allocations" : Str) = PySem.Str.ofString "collections") = False := eq_false (by decide)
theorem fe_allocations__roots : ((PySem.Str.ofString "allocations" : Str) = PySem.Str.ofString "_roots") = False := eq_false (by decide)
theorem fe_allocations__held : ((PySem.Str.ofString "allocations" : Str) = PySem.Str.ofString "_held") = False := eq_false (by decide)
theorem fe_allocations__saved : ((PySem.Str.ofString "allocations" : Str) = PySem.Str.ofString "_saved") = False := eq_false (by decide)
theorem fe_collections_store : ((PySem.Str.ofString "collections" : Str) = PySem.Str.ofString "store") = False := eq_false (by decide)
theorem fe_collections_pressure : ((PySem.Str.ofString "collections" : Str) = PySem.Str.ofString "pressure") = False := eq_false (by decide)
theorem fe_collections_always : ((PySem.Str.ofString "collections" : Str) = PySem.Str.ofString "always") = False := eq_false (by decide)
theorem fe_collections_allocations : ((PySem.Str.ofString "collections" : Str) = PySem.Str.ofString "allocations") = False := eq_false (by decide)
theorem fe_collections__roots : ((PySem.Str.ofString "collections" : Str) = PySem.Str.ofString "_roots") = False := eq_false (by decide)
theorem fe_collections__held : ((PySem.Str.ofString "collections" : Str) = PySem.Str.ofString "_held") = False := eq_false (by decide)
theorem fe_collections__saved : ((PySem.Str.ofString "collections" : Str) = PySem.Str.ofString "_saved") = False := eq_false (by decide)
theorem fe__roots_store : ((PySem.Str.ofString "_roots" : Str) = PySem.Str.ofString "store") = False := eq_false (by decide)
theorem fe__roots_pressure : ((PySem.Str.ofString "_roots" : Str) = PySem.Str.ofString "pressure") = False := eq_false (by decide)
theorem fe__roots_always : ((PySem.Str.ofString "_roots" : Str) = PySem.Str.ofString "always") = False := eq_false (by decide)
theorem fe__roots_allocations : ((PySem.Str.ofString "_roots" : Str) = PySem.Str.ofString "allocations") = False := eq_false (by decide)
theorem fe__roots_collections : ((PySem.Str.ofString "_roots" : Str) = PySem.Str.ofString "collections") = False := eq_false (by decide)
theorem fe__roots__held : ((PySem.Str.ofString "_roots" : Str) = PySem.Str.ofString "_held") = False := eq_false (by decide)
theorem fe__roots__saved : ((PySem.Str.ofString "_roots" : Str) = PySem.Str.ofString "_saved") = False := eq_false (by decide)
theorem fe__held_store : ((PySem.Str.ofString "_held" : Str) = PySem.Str.ofString "store") = False := eq_false (by decide)
theorem fe__held_pressure : ((PySem.Str.ofString "_held" : Str) = PySem.Str.ofString "pressure") = False := eq_false (by decide)
theorem fe__held_always : ((PySem.Str.ofString "_held" : Str) = PySem.Str.ofString "always") = False := eq_false (by decide)
theorem fe__held_allocations : ((PySem.Str.ofString "_held" : Str) = PySem.Str.ofString "allocations") = False := eq_false (by decide)
theorem fe__held_collections : ((PySem.Str.ofString "_held" : Str) = PySem.Str.ofString "collections") = False := eq_false (by decide)
theorem fe__held__roots : ((PySem.Str.ofString "_held" : Str) = PySem.Str.ofString "_roots") = False := eq_false (by decide)
theorem fe__held__saved : ((PySem.Str.ofString "_held" : Str) = PySem.Str.ofString "_saved") = False := eq_false (by decide)
theorem fe__saved_store : ((PySem.Str.ofString "_saved" : Str) = PySem.Str.ofString "store") = False := eq_false (by decide)
theorem fe__saved_pressure : ((PySem.Str.ofString "_saved" : Str) = PySem.Str.ofString "pressure") = False := eq_false (by decide)
theorem fe__saved_always : ((PySem.Str.ofString "_saved" : Str) = PySem.Str.ofString "always") = False := eq_false (by decide)
theorem fe__saved_allocations : ((PySem.Str.ofString "_saved" : Str) = PySem.Str.ofString "allocations") = False := eq_false (by decide)
theorem fe__saved_collections : ((PySem.Str.ofString "_saved" : Str) = PySem.Str.ofString "collections") = False := eq_false (by decide)
theorem fe__saved__roots : ((PySem.Str.ofString "_saved" : Str) = PySem.Str.ofString "_roots") = False := eq_false (by decide)
theorem fe__saved__held : ((PySem.Str.ofString "_saved" : Str) = PySem.Str.ofString "_held") = False := eq_false (by decide)
theorem fl_room_0 : ((PySem.Str.ofString "room" : Str) = S [111, 112, 101, 110]) = False := eq_false (by decide)
theorem lf_room_0 : (S [111, 112, 101, 110] = (PySem.Str.ofString "room" : Str)) = False := eq_false (by decide)
theorem fl_room_1 : ((PySem.Str.ofString "room" : Str) = S [109, 97, 100, 101]) = False := eq_false (by decide)
theorem lf_room_1 : (S [109, 97, 100, 101] = (PySem.Str.ofString "room" : Str)) = False := eq_false (by decide)
theorem fl_room_3 : ((PySem.Str.ofString "room" : Str) = S [110, 117, 109, 98, 101, 114]) = False := eq_false (by decide)
theorem lf_room_3 : (S [110, 117, 109, 98, 101, 114] = (PySem.Str.ofString "room" : Str)) = False := eq_false (by decide)
theorem fl_room_4 : ((PySem.Str.ofString "room" : Str) = S [111, 116, 104, 101, 114]) = False := eq_false (by decide)
theorem lf_room_4 : (S [111, 116, 104, 101, 114] = (PySem.Str.ofString "room" : Str)) = False := eq_false (by decide)
theorem Txt.ex {P : Program} {w : World} {K : Frag} {mg : Str → Option Value} {A_KilnwardenError : Addr} {A_BadWord : Addr} {A_NoRoom : Addr} {A_NoNumber : Addr} {A_Wrong : Addr} {A_Store : Addr} {A_Space : Addr} {A_c_Store_close_up : Addr} {A_p_Store_close_up : Addr} (h : Txt P w K mg ⟨A_KilnwardenError, A_BadWord, A_NoRoom, A_NoNumber, A_Wrong, A_Store, A_Space, A_c_Store_close_up, A_p_Store_close_up⟩) : ∃ a, Txt P w K mg a := ⟨_, h⟩
theorem Txt.exT {P : Program} {w : World} {K : Frag} {mg : Str → Option Value} {A_KilnwardenError : Addr} {A_BadWord : Addr} {A_NoRoom : Addr} {A_NoNumber : Addr} {A_Wrong : Addr} {A_Store : Addr} {A_Space : Addr} {A_c_Store_close_up : Addr} {A_p_Store_close_up : Addr} {hh : Heap} (h : Txt P w K mg ⟨A_KilnwardenError, A_BadWord, A_NoRoom, A_NoNumber, A_Wrong, A_Store, A_Space, A_c_Store_close_up, A_p_Store_close_up⟩) (hp : hh.get? A_p_Store_close_up = some { cls := .none, data := .fields #[] }) : ∃ a, Txt P w K mg a ∧ hh.get? a.p_Store_close_up = some { cls := .none, data := .fields #[] } := ⟨_, h, hp⟩
end K06

set_option Elab.async false
set_option linter.all false
set_option maxRecDepth 100000
set_option maxHeartbeats 4000000
namespace K06
open PySem PySem.Spec PyProof.Rows L2 KW ST
local macro_rules | `(tactic| walk_at "kw") => `(tactic| simp only [tSeq, tNext, tIfS, tTest, tAnd, tOr, tNot, tAndV, tOrV, tNotV, tIf, tChain, tOp, tUn, tC, tAsg, gName, gSub, gCons, gNil, tRet, tRetN, tDrop, tCons, tNil, tCB, tAug, tSl, tPart, tNoPart, tLst, tTup, tBM, tBM0, uTest, uFor, iRng1, iRng2, iList, uCall, List.map_cons, List.map_nil, List.length_cons, List.length_nil, List.cons_append, List.nil_append, List.replicate, Nat.zero_add, Nat.reduceAdd, Nat.reduceSub, List.getElem?_cons_zero, List.getElem?_cons_succ, List.set_cons_zero, List.set_cons_succ, V.bl.injEq, V.int.injEq, V.str.injEq, V.ref.injEq, V.ty.injEq, List.cons.injEq, and_true, true_and, exists_eq_left', exists_eq_right, exists_eq_left, exists_and_left, exists_and_right, decide_eq_true_eq, Bool.not_eq_true', decide_eq_false_iff_not, Bool.false_eq_true, if_true, if_false, ite_true, ite_false, Bool.not_true, Bool.not_false, reduceCtorEq, decide_true, decide_false, Bool.not_not, isK_int_int, isK_int_bool, isK_int_str, isK_int_list, isK_int_tuple, isK_bool_int, isK_bool_bool, isK_bool_str, isK_str_str, isK_str_int, isK_str_bool, isK_str_tuple, isK_str_list, isK_list_list, isK_list_tuple, isK_tuple_tuple, isK_tuple_list, isOk_int_int, isOk_int_bool, isOk_int_str, isOk_int_list, isOk_int_tuple, isOk_bool_int, isOk_bool_bool, isOk_bool_str, isOk_str_str, isOk_str_int, isOk_str_bool, isOk_str_tuple, isOk_str_list, isOk_list_list, isOk_list_tuple, isOk_tuple_tuple, isOk_tuple_list, isK_dict_dict, isOk_dict_dict, isK_none_int, isK_none_bool, isOk_none_int, isOk_none_bool, tyV, S_inj, S_cat, L2.start, Nat.reduceSub, List.replicate_succ, List.replicate_zero, and_assoc, List.append_nil, Nat.reduceEqDiff, Option.some.injEq, Int.natCast_inj, upd_upd, Int.reducePow, Int.reduceToNat, Int.reduceMul, Int.reduceAdd, Int.reduceSub, Int.reduceLT, Int.reduceLE, Int.reduceNeg, Int.reduceDiv, Int.reduceMod, Nat.reducePow, Nat.reduceMul, S_len, List.length_append, List.length_map, List.length_range, not_true_eq_false, not_false_eq_true, ne_eq, uAdd_e1, uAdd_e2, uSub_e1, uMod_e1, uDiv_e1, uPow_e1, uShl_e1, uNeg_e1, uIAdd_e1, uIAdd_e2, uIAdd_e3, uISub_e1, uLt_e1, uLt_e2, uLe_e1, uGt_e1, uGe_e1, uEq_e1, uEq_e2, uEq_e3, uEq_e4, uEq_e5, uEq_e6, uEq_e7, uEq_e8, uEq_e9, uEq_e10, uEq_e11, uNe_e1, uNe_e2, uNe_e3, uNe_e4, uNe_e5, uNe_e6, uNe_e7, uNe_e8, uNe_e9, uNe_e10, uNe_e11, uIs_e1, uIs_e2, uIs_e3, uIs_e4, uIs_e5, uIs_e6, uIs_e7, uNotIs_e1, uNotIs_e2, uNotIs_e3, uNotIs_e4, uNotIs_e5, uNotIs_e6, uIn_e1, uIn_e2, uIn_e3, uIn_e4, uNotIn_e1, uNotIn_e2, uNotIn_e3, uNotIn_e4, uTru_e1, uTru_e2, uTru_e3, uTru_e4, uIx_e2, uSl_e2, uLen_e1, uAbs_e1, uInt_e1, uInt_e2, uMin2_e1, uIsi_e1, uIsi_e2, uIsi_e3, uIsi_e4, cx_K, uVar_0, uVar_n, uFld, uSFld, uMet, uMake, tDG, tDI, tDNI, tDP, tDD, uMk, uRaise, uDelSl, tCallS, L2.WE, uStr_e1, uStr_e2, uMul2_e1, uMul2_e2, okS_i, okS_s, List.zip_cons_cons, List.zip_nil_left, List.drop_zero, List.drop_succ_cons, List.drop_nil, putF_nil, putF_cons, eq_self, tDNewK, tB, Option.isSome_some, Option.isSome_none, false_and, false_or, or_false, exists_false, Int.zero_add, uLc, wipe, tYes, isEmpty_app, List.isEmpty_cons, List.isEmpty_nil, List.isEmpty_map, Bool.and_false, Bool.and_true, iRev, K06.lit_0, K06.lit_1, K06.lit_3, K06.lit_4, K06.fe_room_entries, K06.fe_room_words, K06.fe_room__places, K06.fe_room__least, K06.fe_entries_room, K06.fe_entries_words, K06.fe_entries__places, K06.fe_entries__least, K06.fe_words_room, K06.fe_words_entries, K06.fe_words__places, K06.fe_words__least, K06.fe__places_room, K06.fe__places_entries, K06.fe__places_words, K06.fe__places__least, K06.fe__least_room, K06.fe__least_entries, K06.fe__least_words, K06.fe__least__places, K06.fe_store_pressure, K06.fe_store_always, K06.fe_store_allocations, K06.fe_store_collections, K06.fe_store__roots, K06.fe_store__held, K06.fe_store__saved, K06.fe_pressure_store, K06.fe_pressure_always, K06.fe_pressure_allocations, K06.fe_pressure_collections, K06.fe_pressure__roots, K06.fe_pressure__held, K06.fe_pressure__saved, K06.fe_always_store, K06.fe_always_pressure, K06.fe_always_allocations, K06.fe_always_collections, K06.fe_always__roots, K06.fe_always__held, K06.fe_always__saved, K06.fe_allocations_store, K06.fe_allocations_pressure, K06.fe_allocations_always, K06.fe_allocations_collections, K06.fe_allocations__roots, K06.fe_allocations__held, K06.fe_allocations__saved, K06.fe_collections_store, K06.fe_collections_pressure, K06.fe_collections_always, K06.fe_collections_allocations, K06.fe_collections__roots, K06.fe_collections__held, K06.fe_collections__saved, K06.fe__roots_store, K06.fe__roots_pressure, K06.fe__roots_always, K06.fe__roots_allocations, K06.fe__roots_collections, K06.fe__roots__held, K06.fe__roots__saved, K06.fe__held_store, K06.fe__held_pressure, K06.fe__held_always, K06.fe__held_allocations, K06.fe__held_collections, K06.fe__held__roots, K06.fe__held__saved, K06.fe__saved_store, K06.fe__saved_pressure, K06.fe__saved_always, K06.fe__saved_allocations, K06.fe__saved_collections, K06.fe__saved__roots, K06.fe__saved__held, K06.fl_room_0, K06.lf_room_0, K06.fl_room_1, K06.lf_room_1, K06.fl_room_3, K06.lf_room_3, K06.fl_room_4, K06.lf_room_4, t11_e, uMetD.uMtD, tDGF_eq, uDGetF_e1, K06.N_is_ref, K06.N_ref_of, K06.N_reached, K06.N_words_of, K06.N_collect, K06.N_Store_init, K06.N_Store_used, K06.N_Store_exists, K06.N_Store_numbers, K06.N_Store_free_number, K06.N_Store_allocate, K06.N_Store_size, K06.N_Store_kind, K06.N_Store_get, K06.N_Store_put, K06.N_Store_slots, K06.N_Store_drop, K06.N_Store_close_up, K06.N_Space_init, K06.N_Space_press, K06.N_Space_root, K06.N_Space_set_root, K06.N_Space_hold, K06.N_Space_drop, K06.N_Space_held, K06.N_Space_all_roots, K06.N_Space_collect, K06.N_Space_collect_with, K06.N_Space_live_words, K06.N_Space_new, K06.N_Space_fitted, K06.N__law_number, K06.N__law_deeds, K06.N__law_is, K06.N__law_same, K06.N__law_place, K06.N__law_word, K06.N__law_reached, K06.N__law_total, K06.N__law_collections, K06.N__law_called, K06.N__law_kept, K06.N__law_held, K06.N__law_fresh, K06.N__law_new, K06.N__law_deed, K06.N__law_space, K06.N_law])
local macro_rules | `(tactic| walk_at "nn") => `(tactic| first | assumption | exact ne_un (by assumption) | exact ne_un (ne_un (by assumption)) | exact ne_un (ne_un (ne_un (by assumption))) | exact ne_un (ne_un (ne_un (ne_un (by assumption)))))
local macro_rules | `(tactic| walk_at "ne") => `(tactic| first | assumption | (apply Ne.symm; assumption) | exact ne_ud (by assumption) | exact Ne.symm (ne_ud (by assumption)) | exact ne_ud (ne_un (by assumption)) | exact Ne.symm (ne_ud (ne_un (by assumption))) | exact ne_ud (ne_un (ne_un (by assumption))) | exact Ne.symm (ne_ud (ne_un (ne_un (by assumption)))) | exact ne_m (by assumption) (by assumption) | exact Ne.symm (ne_m (by assumption) (by assumption)) | exact ne_n (by assumption) (by walk_at "nn") | exact Ne.symm (ne_n (by assumption) (by walk_at "nn")))
local macro_rules | `(tactic| walk_at "hp") => `(tactic| first | assumption | exact upd_same | (refine Eq.trans (upd_ne ?_) ?_; (focus walk_at "ne"); walk_at "hp"))
local macro_rules | `(tactic| walk_at "sc") => `(tactic| first | (with_reducible assumption) | omega | exact le_line (by (try simp only [List.length_map, List.length_append, List.length_cons, List.length_nil, S_len]); omega) | exact div_s (by omega) | exact mul_r (by omega) | exact mul_l (by omega) | exact pow_s (by omega) | exact mul2_r (by omega) | exact mul2_l (by omega) | exact small4300 (by omega) | exact lt_line (by (try simp only [List.length_map, List.length_append, List.length_cons, List.length_nil, S_len]); omega) | exact ⟨_, by assumption⟩ | (guard_target =~ Exists _; exact ⟨_, .of (by walk_at "hp")⟩) | (guard_target =~ _ ∨ _; exact .inl ⟨_, by assumption⟩) | (guard_target =~ _ ∨ _; exact .inl ⟨_, .of (by walk_at "hp")⟩) | (guard_target =~ _ ∨ _; exact .inr (.inr (.inl ⟨rfl, .inl ⟨_, by walk_at "hp"⟩⟩))) | decide)
local macro_rules | `(tactic| walk_at "kr") => `(tactic| first | (guard_target =~ _ ∧ _; first | refine And.intro (by walk_at "sc") ?_) | (guard_target =~ KW.uIx _ _ _ _ _; first | refine ix_l (by walk_at "hp") (by first | walk_at "hv" | rfl) ?_ | refine ix_t (by walk_at "hp") (by first | walk_at "hv" | rfl) ?_ | refine ix_sl (by assumption) (by walk_at "hv") ?_) | (guard_target =~ KW.uLen _ _ _ _; first | refine len_l (by walk_at "hp") ?_ | refine len_t (by walk_at "hp") ?_ | refine len_sl (by assumption) ?_) | (guard_target =~ KW.uSet _ _ _ _ _; first | refine set_l (by walk_at "hp") (by first | walk_at "hv" | rfl) ?_) | (guard_target =~ L2.gTup _ _ _ _ _ _ _; first | refine tup_l (by walk_at "hp") (by rfl) ?_) | (guard_target =~ KW.uGet _ _ _ _ _; first | refine get_l (by walk_at "hp") (by walk_at "hc") (by decide) (by rfl) ?_) | (guard_target =~ KW.uPut _ _ _ _ _ _; first | refine put_l (by walk_at "hp") (by walk_at "hc") (by decide) (by simp) ?_) | (guard_target =~ KW.uMet.uMt _ _ _ _ _ _ _ _ _; first | refine met_l (by walk_at "hp") (by rfl) ?_) | (guard_target =~ KW.uMet.uMt _ _ _ _ _ _ _ _ _; first | refine ST.met_s (by assumption) (by decide) ?_) | (guard_target =~ ST.spExists _ _ _ _ _; first | refine ST.exists_s (by assumption) ?_) | (guard_target =~ ST.spUsed _ _ _ _ _; first | refine ST.used_s (by assumption) ?_) | (guard_target =~ KW.uGet _ _ _ _ _; first | refine ST.words_s (by assumption) (by walk_at "hc") (by decide) ?_) | (guard_target =~ KW.uDIn _ _ _ _; first | refine din_i (by walk_at "hp") ?_ | refine din_s (by walk_at "hp") ?_) | (guard_target =~ KW.uDGet _ _ _ _; first | refine dget_i (by walk_at "hp") (by walk_at "hv") ?_ | refine dget_s (by walk_at "hp") (by walk_at "hv") ?_) | (guard_target =~ KW.uDPut _ _ _ _ _; first | refine dput_i (by walk_at "hp") (by walk_at "sc") ?_ | refine dput_s (by walk_at "hp") (by walk_at "sc") ?_) | (guard_target =~ KW.uDDel _ _ _ _; first | refine ddel_i (by walk_at "hp") (by walk_at "hv") ?_ | refine ddel_s (by walk_at "hp") (by walk_at "hv") ?_) | (guard_target =~ KW.uMul2 _ _ _ _; first | refine rep_l (by walk_at "hp") (by walk_at "sc") (by walk_at "sc") (by walk_at "sc") ?_) | (guard_target =~ L2.rAppend _ _ _ _; first | refine app_l (by walk_at "hp") (by walk_at "sc") ?_) | (guard_target =~ L2.rPop _ _ _ _; first | refine pop_l (by walk_at "hp") (by walk_at "hv") ?_ | refine pops_l (by walk_at "hp") ?_) | (guard_target =~ L2.rClear _ _ _ _; first | refine clr_l (by walk_at "hp") ?_) | (guard_target =~ L2.rReverse _ _ _ _; first | refine rev_l (by walk_at "hp") ?_) | (guard_target =~ L2.rExtend _ _ _ _; first | refine ext_l (by walk_at "hp") (by walk_at "hp") (by walk_at "sc") ?_) | (guard_target =~ KW.uAdd _ _ _ _ _; first | refine ucat_l (by walk_at "hp") (by walk_at "hp") (by walk_at "sc") ?_) | (guard_target =~ KW.uSl _ _ _ _ _ _; first | refine usl_l (by walk_at "hp") ?_) | (guard_target =~ KW.uTru _ _ _ _; first | refine tru_l (by walk_at "hp") ?_ | refine tru_t (by walk_at "hp") ?_ | refine tru_d (by walk_at "hp") ?_ | refine tru_sl (by assumption) ?_) | (guard_target =~ L2.rIndex _ _ _ _ _; first | refine idx_s (by walk_at "hp") (by assumption) ?_ | refine idx_i (by walk_at "hp") (by assumption) ?_) | (guard_target =~ L2.rIn _ _ _ _ _ _; first | refine in_s (by walk_at "hp") ?_ | refine nin_s (by walk_at "hp") ?_ | refine in_i (by walk_at "hp") ?_ | refine nin_i (by walk_at "hp") ?_) | (guard_target =~ KW.uIsi _ _ _ _; first | refine isi_l (by walk_at "hp") (by decide +kernel) ?_ | refine isi_t (by walk_at "hp") (by decide +kernel) ?_ | refine isi_d (by walk_at "hp") (by decide +kernel) ?_) | (guard_target =~ KW.uList _ _ _ _; first | refine list_l (by walk_at "hp") ?_ | refine list_t (by walk_at "hp") ?_ | refine list_sl (by assumption) ?_) | (guard_target =~ KW.uDict _ _ _; first | refine dict_d (by walk_at "hp") ?_) | (guard_target =~ KW.uSorted _ _ _ _; first | refine srt_l (by walk_at "hp") ?_) | (guard_target =~ KW.uSum _ _ _ _; first | refine sum_l (by walk_at "hp") ?_) | (guard_target =~ KW.uDelC _ _ _ _; first | refine dels_l (by walk_at "hp") (by walk_at "sc") ?_) | (guard_target =~ L2.wAs _ _ _ _ _ _ _ _ _ _; first | refine as_yes (by walk_at "hx") ?_ | refine as_no (by walk_at "hx") ?_) | (guard_target =~ KW.uEf _ _ _ _ _ _ _ _ _; first | refine ef_l (by walk_at "he") (by decide) (by rfl) (by walk_at "hp") (by rfl) ?_) | (guard_target =~ KW.uIsE _ _ _ _ _ _ _; first | refine isE_r (by walk_at "he") (by walk_at "hp") (by walk_at "hk") ?_ | refine isE_t (by walk_at "he") (by walk_at "hp") (by walk_at "hk") ?_))
local macro_rules | `(tactic| walk_at "hv") => `(tactic| first | assumption)
local macro_rules | `(tactic| walk_at "kk") => `(tactic| repeat (first | walk_at "kw" | walk_at "kr"))
local macro_rules | `(tactic| walk_at "hc") => `(tactic| first | exact K06.Txt.c_Store (by assumption) | exact K06.Txt.c_Space (by assumption))
local macro_rules | `(tactic| walk_at "he") => `(tactic| first | exact K06.Txt.e_BadWord (by assumption) | exact K06.Txt.e_NoRoom (by assumption) | exact K06.Txt.e_NoNumber (by assumption) | exact K06.Txt.e_Wrong (by assumption))
local macro_rules | `(tactic| walk_at "hx") => `(tactic| first | exact K06.Txt.x_BadWord_KilnwardenError (by assumption) | exact K06.Txt.x_BadWord_NoNumber (by assumption) | exact K06.Txt.x_BadWord_NoRoom (by assumption) | exact K06.Txt.x_NoRoom_KilnwardenError (by assumption) | exact K06.Txt.x_NoRoom_NoNumber (by assumption) | exact K06.Txt.x_NoRoom_NoRoom (by assumption) | exact K06.Txt.x_NoNumber_KilnwardenError (by assumption) | exact K06.Txt.x_NoNumber_NoNumber (by assumption) | exact K06.Txt.x_NoNumber_NoRoom (by assumption) | exact K06.Txt.x_Wrong_KilnwardenError (by assumption) | exact K06.Txt.x_Wrong_NoNumber (by assumption) | exact K06.Txt.x_Wrong_NoRoom (by assumption))
local macro_rules | `(tactic| walk_at "hk") => `(tactic| first | exact K06.Txt.i_BadWord_NoNumber (by assumption) | exact K06.Txt.i_BadWord_NoRoom (by assumption) | exact K06.Txt.i_NoRoom_NoNumber (by assumption) | exact K06.Txt.i_NoRoom_NoRoom (by assumption) | exact K06.Txt.i_NoNumber_NoNumber (by assumption) | exact K06.Txt.i_NoNumber_NoRoom (by assumption) | exact K06.Txt.i_Wrong_NoNumber (by assumption) | exact K06.Txt.i_Wrong_NoRoom (by assumption))

section
variable {P : Program} {w : World} {K : Frag} {mg : Str → Option Value} {base : Heap} {a : Ads}
def sp_is_ref : Sp := fun vs H Q _ => ∃ (x : Int), vs = [.int x] ∧ Q (.bl (decide (x % 2 = 0))) H
theorem ok_is_ref (T : Txt P w K mg a) : Cal P w K mg base 1 "is_ref" sp_is_ref := by
  refine T.d_is_ref.ok sc_is_ref (fun vs H Q E h => ?_) (fun f cdv A outer s H vs Q E hr h => ⟨_, (pss_one (ps_ret (pe_cmpR (o_eq hr.units) (pe_op o_mod (kv 0) pe_int) pe_int (nomark _)))), ?_⟩)
  · obtain ⟨_, rfl, _⟩ := h; rfl
  · obtain ⟨x, rfl, h⟩ := h
    walk_at "kk"
    exact h
def sp_ref_of : Sp := fun vs H Q _ => ∃ (x : Int), vs = [.int x] ∧ x % 2 = 0 ∧ Q (.int (x / 2)) H
theorem ok_ref_of (T : Txt P w K mg a) : Cal P w K mg base 2 "ref_of" sp_ref_of := by
  have C_is_ref := ok_is_ref (P := P) (w := w) (base := base) T
  refine T.d_ref_of.ok sc_ref_of (fun vs H Q E h => ?_) (fun f cdv A outer s H vs Q E hr h => ⟨_, (pss_cons (ps_if (pt_not (kt (kc C_is_ref (hr.mono (by decide)) (pa_cons (kv 0) pa_nil))))
      (pss_one k_deadS)
      pss_nil)
      (pss_one (ps_ret (pe_op o_fdiv (kv 0) pe_int)))), ?_⟩)
  · obtain ⟨_, rfl, _⟩ := h; rfl
  · obtain ⟨x, rfl, hx, h⟩ := h
    walk_at "kk"
    unfold sp_is_ref
    walk_at "kk"
    rw [if_neg (fun z => z hx)]
    walk_at "kk"
    exact h
theorem ok_Store_init (T : Txt P w K mg a) : CalI P w K mg base 1 "Store" a.Store [] (spInit a.Store) := by
  refine T.ini_Store.ok T.g_Store sc_Store_init (fun vs H Q E h => ?_) (fun f cdv A outer s H vs Q E hr h => ⟨_, (pss_cons (k_sfld (kv 0) (kv 1) rfl)
      (pss_cons (k_sfld (kv 0) (kv 2) rfl)
      (pss_cons (k_sfld (kv 0) (pe_lst pa_nil) rfl)
      (pss_cons (k_sfld (kv 0) pe_dnewK rfl)
      (pss_one (k_sfld (kv 0) pe_int rfl)))))), ?_⟩)
  · obtain ⟨_, _, _, _, rfl, _⟩ := h; rfl
  · obtain ⟨st, dx, rm, en, rfl, hs, q⟩ := h
    walk_at "kk"
    intro p hp
    walk_at "kk"
    intro r hr2
    walk_at "kk"
    have e1 : p ≠ st := by walk_at "ne"
    have e2 : r ≠ p := by walk_at "ne"
    have e3 : r ≠ st := by walk_at "ne"
    refine q _ p r ?S ?F (by walk_at "nn") (by walk_at "nn")
    case S => exact ⟨⟨dx, 0, upd_same, Int.le_refl _, fun i h0 h1 => by omega⟩, by walk_at "hp", ⟨[], by walk_at "hp", .nil⟩, fun i j e f h => by simp at h, fun i e h => by simp at h, e2.symm, e1.symm, e3.symm⟩
    intro b o hb hH
    have b1 : b ≠ st := fun z => hb (by simp [z])
    have b2 : b ≠ p := by walk_at "ne"
    have b3 : b ≠ r := by walk_at "ne"
    walk_at "hp"
theorem ok_Store_used (T : Txt P w K mg a) : CalM P w K mg base 1 a.Store "used" (spUsed a.Store) := by
  refine T.m_Store_used.ok T.c_Store.cls sc_Store_used (fun vs H Q E h => ?_) (fun f cdv A outer s H vs Q E hr h => ⟨_, (pss_one (ps_ret (pe_callB c_len (by rfl) T.n_len (by decide +kernel) (pa_cons (k_fld (kv 0) rfl) pa_nil)))), ?_⟩)
  · obtain ⟨_, _, _, _, _, _, rfl, _⟩ := h; rfl
  · obtain ⟨st, wd, pl, rm, en, B, rfl, ⟨⟨dx, lo, ob, l1, l2⟩, wo, ⟨kvs, pa, ok⟩, nd, nn, wp, sw, sp⟩, h⟩ := h
    walk_at "kk"
    exact h
theorem ok_Store_exists (T : Txt P w K mg a) : CalM P w K mg base 1 a.Store "exists" (spExists a.Store) := by
  refine T.m_Store_exists.ok T.c_Store.cls sc_Store_exists (fun vs H Q E h => ?_) (fun f cdv A outer s H vs Q E hr h => ⟨_, (pss_one (ps_ret (pe_cmp (k_din (hu_of hr) (kv 1) (k_fld (kv 0) rfl))))), ?_⟩)
  · obtain ⟨_, _, _, _, _, _, _, rfl, _⟩ := h; rfl
  · obtain ⟨st, wd, pl, rm, en, B, n, rfl, ⟨⟨dx, lo, ob, l1, l2⟩, wo, ⟨kvs, pa, ok⟩, nd, nn, wp, sw, sp⟩, h⟩ := h
    walk_at "kk"
    rw [ok.isS n]
    exact h
theorem ok_Store_numbers (T : Txt P w K mg a) : CalM P w K mg base 1 a.Store "numbers" (spNumbers a.Store) := by
  refine T.m_Store_numbers.ok T.c_Store.cls sc_Store_numbers (fun vs H Q E h => ?_) (fun f cdv A outer s H vs Q E hr h => ⟨_, (pss_one (ps_ret (pe_callB (c_sorted rfl) (by rfl) T.n_sorted (by decide +kernel) (pa_cons (k_fld (kv 0) rfl) pa_nil)))), ?_⟩)
  · obtain ⟨_, _, _, _, _, _, rfl, _⟩ := h; rfl
  · obtain ⟨st, wd, pl, rm, en, B, rfl, ⟨⟨dx, lo, ob, l1, l2⟩, wo, ⟨kvs, pa, ok⟩, nd, nn, wp, sw, sp⟩, hB, h⟩ := h
    obtain ⟨ns, ek, nnd, m⟩ := id ok.ks
    have hl := ok.len
    have e1 := congrArg List.length ek
    rw [List.length_map, List.length_map] at e1
    walk_at "kk"
    refine srt_d pa ek (le_line (by omega)) fun ys p h1 h2 h3 => ?_
    exact h ys p (h1.trans ((List.perm_ext_iff_of_nodup nnd (nums_nodup nd)).mpr fun x => (m x).trans mem_nums.symm)) h2 h3
theorem ok_Store_size (T : Txt P w K mg a) : CalM P w K mg base 1 a.Store "size" (spSize a.Store) := by
  refine T.m_Store_size.ok T.c_Store.cls sc_Store_size (fun vs H Q E h => ?_) (fun f cdv A outer s H vs Q E hr h => ⟨_, (pss_one (ps_ret (pe_ix o_ix (k_fld (kv 0) rfl) (pe_op o_add (k_dget (hu_of hr) (k_fld (kv 0) rfl) (kv 1)) pe_int) (fun _ _ => rfl)))), ?_⟩)
  · obtain ⟨_, _, _, _, _, _, _, _, _, rfl, _⟩ := h; rfl
  · obtain ⟨st, wd, pl, rm, en, B, _, i, e, rfl, ⟨⟨dx, lo, ob, l1, l2⟩, wo, ⟨kvs, pa, ok⟩, nd, nn, wp, sw, sp⟩, hi, ha, rfl, h⟩ := h
    have hd := ok.at_ i e hi ha
    have hv : atI ((flat B).map V.int) ((off B i : Int) + 1) = some (.int (e.s.length : Nat)) := atI_map (i := off B i + 1) (get_size hi)
    walk_at "kk"
    exact h
theorem ok_Store_kind (T : Txt P w K mg a) : CalM P w K mg base 1 a.Store "kind" (spKind a.Store) := by
  refine T.m_Store_kind.ok T.c_Store.cls sc_Store_kind (fun vs H Q E h => ?_) (fun f cdv A outer s H vs Q E hr h => ⟨_, (pss_one (ps_ret (pe_ix o_ix (k_fld (kv 0) rfl) (pe_op o_add (k_dget (hu_of hr) (k_fld (kv 0) rfl) (kv 1)) pe_int) (fun _ _ => rfl)))), ?_⟩)
  · obtain ⟨_, _, _, _, _, _, _, _, _, rfl, _⟩ := h; rfl
  · obtain ⟨st, wd, pl, rm, en, B, _, i, e, rfl, ⟨⟨dx, lo, ob, l1, l2⟩, wo, ⟨kvs, pa, ok⟩, nd, nn, wp, sw, sp⟩, hi, ha, rfl, h⟩ := h
    have hd := ok.at_ i e hi ha
    have hv : atI ((flat B).map V.int) ((off B i : Int) + 2) = some (.int e.k) := atI_map (i := off B i + 2) (get_kind hi)
    walk_at "kk"
    exact h
theorem ok_Store_get (T : Txt P w K mg a) : CalM P w K mg base 1 a.Store "get" (spGet a.Store) := by
  refine T.m_Store_get.ok T.c_Store.cls sc_Store_get (fun vs H Q E h => ?_) (fun f cdv A outer s H vs Q E hr h => ⟨_, (pss_one (ps_ret (pe_ix o_ix (k_fld (kv 0) rfl) (pe_op o_add (pe_op o_add (k_dget (hu_of hr) (k_fld (kv 0) rfl) (kv 1)) (k_g T.g_HEADER)) (kv 2)) (fun _ _ => rfl)))), ?_⟩)
  · obtain ⟨_, _, _, _, _, _, _, _, _, _, _, rfl, _⟩ := h; rfl
  · obtain ⟨st, wd, pl, rm, en, B, _, i, j, e, z, rfl, ⟨⟨dx, lo, ob, l1, l2⟩, wo, ⟨kvs, pa, ok⟩, nd, nn, wp, sw, sp⟩, hi, ha, rfl, hz, h⟩ := h
    have hd := ok.at_ i e hi ha
    have hj := (List.getElem?_eq_some_iff.mp hz).1
    have hv : atI ((flat B).map V.int) ((off B i : Int) + 3 + j) = some (.int z) := atI_map (i := off B i + 3 + j) ((get_slot hi hj).trans hz)
    walk_at "kk"
    exact h
theorem ok_Store_put (T : Txt P w K mg a) : CalM P w K mg base 1 a.Store "put" (spPut a.Store) := by
  refine T.m_Store_put.ok T.c_Store.cls sc_Store_put (fun vs H Q E h => ?_) (fun f cdv A outer s H vs Q E hr h => ⟨_, (pss_one (ps_asg (kv 3) (pg_sub (k_fld (kv 0) rfl) (pe_op o_add (pe_op o_add (k_dget (hu_of hr) (k_fld (kv 0) rfl) (kv 1)) (k_g T.g_HEADER)) (kv 2)) s_set))), ?_⟩)
  · obtain ⟨_, _, _, _, _, _, _, _, _, _, _, rfl, _⟩ := h; rfl
  · obtain ⟨st, wd, pl, rm, en, B, _, z, i, j, e, rfl, ⟨⟨dx, lo, ob, l1, l2⟩, wo, ⟨kvs, pa, ok⟩, nd, nn, wp, sw, sp⟩, hi, ha, rfl, hj, h⟩ := h
    have hd := ok.at_ i e hi ha
    have hl := off_add hi
    have hv : ixN ((flat B).map V.int).length ((off B i : Int) + 3 + j) = some (off B i + 3 + j) := by
      rw [List.length_map]; unfold ixN; rw [if_pos (by omega), if_pos (by omega)]; congr 1
    walk_at "kk"
    refine h _ ⟨⟨dx, lo, by walk_at "hp", l1, fun i h0 h1 => ?_⟩, ?_, ⟨kvs, by walk_at "hp", ok.same hi rfl rfl (by simp)⟩, nd.set hi rfl rfl, fun j u hj ua => ?_, wp, sw, sp⟩ (Fr.upd (by simp))
    · rw [lv_set (f := { e with s := e.s.set j z }) hi rfl rfl]; exact l2 i h0 h1
    · rw [upd_same, ← set_slot hi hj, List.map_set]
    · rw [get_set hi] at hj
      split at hj
      · cases hj; exact nn i e hi ha
      · exact nn j u hj ua
theorem ok_Store_slots (T : Txt P w K mg a) : CalM P w K mg base 2 a.Store "slots" (spSlots a.Store) := by
  have M_Store_size := ok_Store_size (P := P) (w := w) (base := base) T
  refine T.m_Store_slots.ok T.c_Store.cls sc_Store_slots (fun vs H Q E h => ?_) (fun f cdv A outer s H vs Q E hr h => ⟨_, (pss_cons (ps_set (i := 2) sc_Store_slots.nd rfl (Or.inl rfl) (pe_op o_add (k_dget (hu_of hr) (k_fld (kv 0) rfl) (kv 1)) (k_g T.g_HEADER)))
      (pss_one (ps_ret (pe_slice o_sl (k_fld (kv 0) rfl) (po_some (kv 2)) (po_some (pe_op o_add (kv 2) (km M_Store_size (hr.mono (by decide)) (kv 0) (pa_cons (kv 1) pa_nil)))))))), ?_⟩)
  · obtain ⟨_, _, _, _, _, _, _, _, _, rfl, _⟩ := h; rfl
  · obtain ⟨st, wd, pl, rm, en, B, _, i, e, rfl, S, hi, ha, rfl, h⟩ := h
    obtain ⟨⟨dx, lo, ob, l1, l2⟩, wo, ⟨kvs, pa, ok⟩, nd, nn, wp, sw, sp⟩ := id S
    have hd := ok.at_ i e hi ha
    walk_at "kk"
    refine ⟨st, wd, pl, rm, en, B, _, i, e, rfl, S, hi, ha, rfl, ?_⟩
    walk_at "kk"
    intro l hl
    have ee : cutV ((flat B).map V.int) (some ((off B i : Int) + 3)) (some ((off B i : Int) + 3 + e.s.length)) = e.s.map V.int := by
      rw [show ((off B i : Int) + 3) = ((off B i + 3 : Nat) : Int) by omega, show (((off B i + 3 : Nat) : Int) + e.s.length) = ((off B i + 3 + e.s.length : Nat) : Int) by omega, cutV_nat, ← List.map_drop, ← List.map_take, show off B i + 3 + e.s.length - (off B i + 3) = e.s.length by omega, get_slots hi]
    rw [ee]
    exact h l hl
theorem ok_Store_drop (T : Txt P w K mg a) : CalM P w K mg base 1 a.Store "drop" (spDrop a.Store) := by
  refine T.m_Store_drop.ok T.c_Store.cls sc_Store_drop (fun vs H Q E h => ?_) (fun f cdv A outer s H vs Q E hr h => ⟨_, (pss_cons (k_ddel (k_fld (kv 0) rfl) (kv 1))
      (pss_one (k_sfld (kv 0) (pe_callB (c_min2 rfl) (by rfl) T.n_min (by decide +kernel) (pa_cons (k_fld (kv 0) rfl) (pa_cons (kv 1) pa_nil))) rfl))), ?_⟩)
  · obtain ⟨_, _, _, _, _, _, _, _, _, rfl, _⟩ := h; rfl
  · obtain ⟨st, wd, pl, rm, en, B, _, i, e, rfl, ⟨⟨dx, lo, ob, l1, l2⟩, wo, ⟨kvs, pa, ok⟩, nd, nn, wp, sw, sp⟩, hi, ha, rfl, h⟩ := h
    have hd : (valV kvs (.inl e.n)).isSome = true := by rw [ok.at_ i e hi ha]; rfl
    have h0 := nn i e hi ha
    walk_at "kk"
    refine h _ ⟨⟨dx, min lo e.n, ?_, by omega, fun i h0 h1 => ?_⟩, ?_, ⟨_, by walk_at "hp", ok.drop nd hi ha⟩, nd.drop hi, fun j u hj ua => ?_, wp, sw, sp⟩ ((Fr.upd (by simp)).trans (Fr.upd (by simp)))
    · rw [upd_same, show min lo e.n = if e.n < lo then e.n else lo by omega]
    · rw [lv_drop nd hi ha, l2 i h0 (by omega)]
      have : ¬ i = e.n := by omega
      simp [this]
    · rw [flat_al hi]; walk_at "hp"
    · rw [get_set hi] at hj
      split at hj
      · cases hj; cases ua
      · exact nn j u hj ua
theorem ok_Store_free_number (T : Txt P w K mg a) : CalM P w K mg base 1 a.Store "free_number" (spFree a.Store a.NoNumber) := by
  refine T.m_Store_free_number.ok T.c_Store.cls sc_Store_free_number (fun vs H Q E h => ?_) (fun f cdv A outer s H vs Q E hr h => ⟨_, (pss_cons (k_while (passes_of rfl) (pt_cmp (k_din (hu_of hr) (k_fld (kv 0) rfl) (k_fld (kv 0) rfl)))
      (pss_one (k_sfld (kv 0) (pe_op o_add (k_fld (kv 0) rfl) pe_int) rfl)))
      (pss_cons (ps_if (pt_cmpR o_ge (k_fld (kv 0) rfl) (k_fld (kv 0) rfl) (nomark _))
      (pss_one (k_raise (L2N.takes_of rfl rfl rfl rfl) (k_mk T.e_NoNumber hr (pa_cons (k_fld (kv 0) rfl) pa_nil))))
      pss_nil)
      (pss_one (ps_ret (k_fld (kv 0) rfl))))), ?_⟩)
  · obtain ⟨_, _, _, _, _, _, rfl, _⟩ := h; rfl
  · obtain ⟨st, wd, pl, rm, en, B, rfl, ⟨⟨dx, lo, ob, l1, l2⟩, wo, ⟨kvs, pa, ok⟩, nd, nn, wp, sw, sp⟩, en0, en1, h⟩ := h
    obtain ⟨f, hF, fl⟩ := free_ex B
    obtain ⟨h1, h2⟩ := h f hF
    walk_at "kk"
    refine ⟨fun m σ H' => ∃ l : Int, σ = [some (.ref st)] ∧ m = (f - l).toNat ∧ lo ≤ l ∧ l ≤ f ∧ (∀ i, 0 ≤ i → i < l → lv B i = true) ∧ H' st = some (.ins a.Store dx [("room", .int rm), ("entries", .int en), ("words", .ref wd), ("_places", .ref pl), ("_least", .int l)]) ∧ H' wd = some (.lst ((flat B).map V.int)) ∧ H' pl = some (.dK kvs) ∧ KW.Fr [st] H H', ⟨_, lo, rfl, rfl, Int.le_refl _, ?_, l2, ob, wo, pa, Fr.refl _⟩, ?_⟩
    · by_cases c : lo ≤ f
      · exact c
      · have := l2 f hF.pos (by omega); rw [hF.no] at this; cases this
    rintro m σ H' ⟨l, rfl, rfl, c1, c2, c3, ob', wo', pa', fr⟩
    walk_at "kk"
    rw [ok.isS l]
    split
    · rename_i c
      walk_at "kk"
      have hl : l ≠ f := fun z => by rw [z, hF.no] at c; cases c
      refine ⟨_, ?_, l + 1, rfl, by omega, by omega, fun i h0 h1 => ?_, upd_same, by walk_at "hp", by walk_at "hp", fr.trans (Fr.upd (by simp))⟩
      · omega
      · by_cases d : i = l
        · rw [d]; exact c
        · exact c3 i h0 (by omega)
    · rename_i c
      have c' : lv B l = false := by cases e : lv B l with | true => exact absurd e c | false => rfl
      have hl : f = l := hF.uniq ⟨by omega, c', c3⟩
      subst hl
      have S' : Sto a.Store H' st wd pl rm en B := ⟨⟨dx, f, ob', by omega, c3⟩, wo', ⟨kvs, pa', ok⟩, nd, nn, wp, sw, sp⟩
      walk_at "kk"
      split
      · walk_at "kk"
        exact h2 (by omega) H' S' fr
      · walk_at "kk"
        exact h1 (by omega) H' S' fr
theorem ok_Store_allocate (T : Txt P w K mg a) : CalM P w K mg base 2 a.Store "allocate" (spAllocate a.Store a.NoRoom a.NoNumber) := by
  have M_Store_free_number := ok_Store_free_number (P := P) (w := w) (base := base) T
  refine T.m_Store_allocate.ok T.c_Store.cls sc_Store_allocate (fun vs H Q E h => ?_) (fun f cdv A outer s H vs Q E hr h => ⟨_, (pss_cons (ps_if (pt_cmpR o_gt (pe_op o_add (pe_op o_add (pe_callB c_len (by rfl) T.n_len (by decide +kernel) (pa_cons (k_fld (kv 0) rfl) pa_nil)) (k_g T.g_HEADER)) (kv 2)) (k_fld (kv 0) rfl) (nomark _))
      (pss_one (k_raise (L2N.takes_of rfl rfl rfl rfl) (k_mk T.e_NoRoom hr (pa_cons (pe_op o_add (k_g T.g_HEADER) (kv 2)) pa_nil))))
      pss_nil)
      (pss_cons (ps_set (i := 3) sc_Store_allocate.nd rfl (Or.inl rfl) (kmX0 (L2N.takes_of rfl rfl rfl rfl) M_Store_free_number (hr.mono (by decide)) (kv 0)))
      (pss_cons (k_dput (hu_of hr) (k_fld (kv 0) rfl) (kv 3) (pe_callB c_len (by rfl) T.n_len (by decide +kernel) (pa_cons (k_fld (kv 0) rfl) pa_nil)))
      (pss_cons (ps_expr (pe_bm PySem.F.plainAttrs_list PySem.F.slot_list_extend PySem.F.type_list_extend mt_extend (k_fld (kv 0) rfl) (pa_cons (pe_lst (pa_cons (kv 3) (pa_cons (kv 2) (pa_cons (kv 1) pa_nil)))) pa_nil)))
      (pss_cons (ps_expr (pe_bm PySem.F.plainAttrs_list PySem.F.slot_list_extend PySem.F.type_list_extend mt_extend (k_fld (kv 0) rfl) (pa_cons (pe_op o_mul2 (pe_lst (pa_cons (k_g T.g_NIL) pa_nil)) (kv 2)) pa_nil)))
      (pss_one (ps_ret (kv 3)))))))), ?_⟩)
  · obtain ⟨_, _, _, _, _, _, _, _, rfl, _⟩ := h; rfl
  · obtain ⟨st, wd, pl, rm, en, B, kd, n, rfl, S, en0, en1, rm1, n1, q1, q2⟩ := h
    obtain ⟨⟨dx, lo, ob, l1, l2⟩, wo, ⟨kvs, pa, ok⟩, nd, nn, wp, sw, sp⟩ := id S
    walk_at "kk"
    split
    · walk_at "kk"
      exact q1 (by omega)
    · rename_i c
      have q2 := q2 (by omega)
      walk_at "kk"
      refine ⟨st, wd, pl, rm, en, B, rfl, S, en0, en1, fun f hF => ⟨fun hf H1 S1 f1 => ?_, fun hf H1 S1 f1 d hd => (q2 f hF).2 hf H1 S1 f1 d hd⟩⟩
      obtain ⟨⟨dx1, lo1, ob1, l11, l21⟩, wo1, ⟨kvs1, pa1, ok1⟩, -, -, -, -, -⟩ := id S1
      have lf := len_flat B
      have kl := ok1.len
      walk_at "kk"
      intro p hp
      walk_at "kk"
      have z1 : p ≠ pl := by walk_at "ne"
      have z2 : p ≠ wd := by walk_at "ne"
      have z3 : p ≠ st := by walk_at "ne"
      intro r hr0
      walk_at "kk"
      intro r2 hr2
      walk_at "kk"
      have u1 : r ≠ pl := by walk_at "ne"
      have u2 : r ≠ wd := by walk_at "ne"
      have u3 : r ≠ st := by walk_at "ne"
      have v1 : r2 ≠ pl := by walk_at "ne"
      have v2 : r2 ≠ wd := by walk_at "ne"
      have v3 : r2 ≠ st := by walk_at "ne"
      have er : (List.replicate (n : Int).toNat [V.int 0]).flatten = (List.replicate n (0 : Int)).map V.int := by
        rw [Int.toNat_natCast]; simp
      rw [er]
      refine ext_l (by walk_at "hp") (by walk_at "hp") (le_line (by simp only [List.length_append, List.length_map, List.length_replicate, List.length_cons, List.length_nil]; omega)) ?_
      have nf : lv B f = false := hF.no
      refine (q2 f hF).1 hf _ ⟨⟨dx1, lo1, ?_, l11, fun i h0 h1 => ?_⟩, ?_, ⟨_, ?_, ok1.app (e := ⟨f, kd, List.replicate n 0, true⟩) rfl nf⟩, nd.app fun _ => nf, fun j u hj ua => ?_, wp, sw, sp⟩ ?_
      · walk_at "hp"
      · rw [lv_app, l21 i h0 h1]; rfl
      · rw [upd_same, flat_app]
        simp [flat, Blk.ws]
      · walk_at "hp"
      · rw [List.getElem?_append] at hj
        split at hj
        · exact nn j u hj ua
        · have : u = ⟨f, kd, List.replicate n 0, true⟩ := by
            have hx : j - B.length = 0 := by
              have := (List.getElem?_eq_some_iff.mp hj).1
              simpa using this
            rw [hx] at hj
            simpa using hj.symm
          subst this
          exact hF.pos
      · intro b o hb hH
        simp only [List.mem_cons, List.not_mem_nil, or_false, not_or] at hb
        obtain ⟨b1, b2, b3⟩ := hb
        have hb1 := f1 b o (by simp [b1]) hH
        have w1 : p ≠ b := by walk_at "ne"
        have w2 : r ≠ b := by walk_at "ne"
        have w3 : r2 ≠ b := by walk_at "ne"
        walk_at "hp"
theorem ok_Store_close_up (T : Txt P w K mg a) (TB : LamX.TabB base mg a.c_Store_close_up a.p_Store_close_up) : CalM P w K mg base 2 a.Store "close_up" (spCloseUp a.Store a.p_Store_close_up ("Store.close_up" ++ ".<locals>." ++ "<lambda>")) := by
  refine T.m_Store_close_up.ok T.c_Store.cls sc_Store_close_up (fun vs H Q E h => ?_) (fun f A outer s H vs Q E hr h => ⟨_, (pss_cons (ps_set (i := 1) sc_Store_close_up.nd rfl (Or.inl rfl) (pe_lst pa_nil))
      (pss_cons (ps_set (i := 2) sc_Store_close_up.nd rfl (Or.inl rfl) pe_dnewK)
      (pss_cons (ps_set (i := 3) sc_Store_close_up.nd rfl (Or.inr rfl) (k_fld (kv 0) rfl))
      (pss_cons (k_for (passes_of rfl) rfl (pi_list (k_sortLam (i := 3) (k := 0) TB rfl (hr.mono (by decide)) rfl (kv 3) (by rfl) T.n_sorted rfl rfl rfl (fun _ _ _ _ _ _ => rfl) rfl rfl rfl (by decide +kernel) rfl rfl (by decide +kernel))) (pg_name (i := 4) sc_Store_close_up.nd rfl (Or.inl rfl))
      (pss_cons (ps_set (i := 5) sc_Store_close_up.nd rfl (Or.inl rfl) (k_dget (hu_of hr) (kv 3) (kv 4)))
      (pss_cons (k_dput (hu_of hr) (kv 2) (kv 4) (pe_callB c_len (by rfl) T.n_len (by decide +kernel) (pa_cons (kv 1) pa_nil)))
      (pss_one (ps_expr (pe_bm PySem.F.plainAttrs_list PySem.F.slot_list_extend PySem.F.type_list_extend mt_extend (kv 1) (pa_cons (pe_slice o_sl (k_fld (kv 0) rfl) (po_some (kv 5)) (po_some (pe_op o_add (pe_op o_add (kv 5) (k_g T.g_HEADER)) (pe_ix o_ix (k_fld (kv 0) rfl) (pe_op o_add (kv 5) pe_int) (fun _ _ => rfl))))) pa_nil)))))))
      (pss_cons (k_sfld (kv 0) (kv 1) rfl)
      (pss_one (k_sfld (kv 0) (kv 2) rfl))))))), ?_⟩)
  · obtain ⟨_, _, _, _, _, _, rfl, _⟩ := h; rfl
  · obtain ⟨st, wd, pl, rm, en, B, rfl, ⟨⟨dx, lo, ob, l1, l2⟩, wo, ⟨kvs, pa, ok⟩, nd, nn, wp, sw, sp⟩, hT, hB, h⟩ := h
    generalize hP : a.p_Store_close_up = P0 at hT h
    have nst : st ≠ P0 := hT.ne ob fun ps z => by cases z
    have nwd : wd ≠ P0 := hT.ne wo fun ps z => by cases z
    have npl : pl ≠ P0 := hT.ne pa fun ps z => by cases z
    have lB := len_flat B
    walk_at "kk"
    intro p hp r hr0
    have rp : r ≠ p := by walk_at "ne"
    have pst : p ≠ st := by walk_at "ne"
    have ppl : p ≠ pl := by walk_at "ne"
    have pwd : p ≠ wd := by walk_at "ne"
    have rst : r ≠ st := by walk_at "ne"
    have rpl : r ≠ pl := by walk_at "ne"
    have rwd : r ≠ wd := by walk_at "ne"
    have hr1 : H r = none := by walk_at "nn"
    have pP : p ≠ P0 := fun z => by obtain ⟨ps, e, _⟩ := hT; rw [z, e] at hp; cases hp
    have rP : r ≠ P0 := fun z => by obtain ⟨ps, e, _⟩ := hT; rw [z, e] at hr1; cases hr1
    walk_at "kk"
    obtain ⟨ns, ek, nnd, mem⟩ := id ok.ks
    have e1 := congrArg List.length ek
    rw [List.length_map, List.length_map] at e1
    have kl := ok.len
    obtain ⟨pv, hpv⟩ : ∃ pv : Int → Int, pv = fun n => match valV kvs (.inl n) with | some (.int p) => p | _ => 0 := ⟨_, rfl⟩
    have pvo : ∀ (i : Nat) (e : Blk), B[i]? = some e → e.al = true → pv e.n = (off B i : Nat) := fun i e hi ha => by rw [hpv]; dsimp only; rw [ok.at_ i e hi ha]
    refine ⟨pl, kvs, ns, pv, rfl, rfl, by walk_at "hp", ek, le_line (by omega), fun n hn => ?_, (hT.add hp).add hr0, fun H2 ys l f2 hT2 hl h1 h2 => ?_⟩
    · obtain ⟨i, e, hi, ha, rfl⟩ := lv_iff.mp ((mem n).mp hn)
      rw [ok.at_ i e hi ha, pvo i e hi ha]
    have hy : ys = nums B := by_uniq pvo (h1.trans ((List.perm_ext_iff_of_nodup nnd (nums_nodup nd)).mpr fun x => (mem x).trans mem_nums.symm)) h2
    subst hy
    have a1 := f2 st _ (by simpa using nst) (show upd (upd H p (.lst [])) r (.dK []) st = _ by walk_at "hp")
    have a2 := f2 wd _ (by simpa using nwd) (show upd (upd H p (.lst [])) r (.dK []) wd = _ by walk_at "hp")
    have a3 := f2 pl _ (by simpa using npl) (show upd (upd H p (.lst [])) r (.dK []) pl = _ by walk_at "hp")
    have a4 := f2 p _ (by simpa using pP) (show upd (upd H p (.lst [])) r (.dK []) p = some (.lst []) by walk_at "hp")
    have a5 := f2 r _ (by simpa using rP) (show upd (upd H p (.lst [])) r (.dK []) r = some (.dK []) by walk_at "hp")
    have fr0 : KW.Fr [P0] H H2 := ((Fr.new hp).trans (Fr.new hr0)).trans f2
    have n1 : st ≠ l := ne_of_none a1 hl
    have n2 : wd ≠ l := ne_of_none a2 hl
    have n3 : pl ≠ l := ne_of_none a3 hl
    have n4 : p ≠ l := ne_of_none a4 hl
    have n5 : r ≠ l := ne_of_none a5 hl
    have lP : l ≠ P0 := fun z => by obtain ⟨ps, e, _⟩ := hT2; rw [z, e] at hl; cases hl
    have hT3 := hT2.add (o' := .lst ((nums B).map V.int)) hl
    have b1 : upd H2 l (.lst ((nums B).map V.int)) st = some (.ins a.Store dx [("room", .int rm), ("entries", .int en), ("words", .ref wd), ("_places", .ref pl), ("_least", .int lo)]) := by walk_at "hp"
    have b2 : upd H2 l (.lst ((nums B).map V.int)) wd = some (.lst ((flat B).map V.int)) := by walk_at "hp"
    have b3 : upd H2 l (.lst ((nums B).map V.int)) pl = some (.dK kvs) := by walk_at "hp"
    have b4 : upd H2 l (.lst ((nums B).map V.int)) p = some (.lst []) := by walk_at "hp"
    have b5 : upd H2 l (.lst ((nums B).map V.int)) r = some (.dK []) := by walk_at "hp"
    have b6 : upd H2 l (.lst ((nums B).map V.int)) l = some (.lst ((nums B).map V.int)) := upd_same
    have fr1 : KW.Fr [P0] H (upd H2 l (.lst ((nums B).map V.int))) := fr0.trans (Fr.new hl)
    revert hT3 b1 b2 b3 b4 b5 b6 fr1
    generalize upd H2 l (.lst ((nums B).map V.int)) = H3
    intro hT3 b1 b2 b3 b4 b5 b6 fr1
    obtain ⟨G, hG⟩ : ∃ G, G = alv B := ⟨_, rfl⟩
    have nG : nums B = G.map fun e => e.n := by rw [hG]; exact nums_alv B
    have NG : Nd G := by rw [hG]; exact nd.alv
    have mG : ∀ (i : Nat) (e : Blk), G[i]? = some e → ∃ j : Nat, B[j]? = some e ∧ e.al = true := fun i e h => by rw [hG] at h; exact mem_alv h
    have lG : G.length ≤ B.length := by rw [hG]; exact List.length_filter_le _ _
    have fG : (flat G).length ≤ (flat B).length := by rw [hG]; exact flat_le
    rw [nG, List.map_map] at b6
    walk_at "kk"
    generalize hD : ({ nx := _, rt := Q } : Ends) = D
    obtain ⟨Pv, hPv⟩ : ∃ Pv : Nat → L2.St → Hp → Prop, Pv = fun i σ H' => ∃ kv2 v4 v5, σ = [some (.ref st), some (.ref p), some (.ref r), some (.ref pl), v4, v5] ∧ H' st = some (.ins a.Store dx [("room", .int rm), ("entries", .int en), ("words", .ref wd), ("_places", .ref pl), ("_least", .int lo)]) ∧ H' wd = some (.lst ((flat B).map V.int)) ∧ H' pl = some (.dK kvs) ∧ H' p = some (.lst ((flat (G.take i)).map V.int)) ∧ H' r = some (.dK kv2) ∧ PlOk kv2 (G.take i) ∧ H' l = some (.lst (G.map (V.int ∘ fun e => e.n))) ∧ KW.Fr [P0] H H' ∧ LamX.TabS H' P0 ("Store.close_up" ++ ".<locals>." ++ "<lambda>") := ⟨_, rfl⟩
    refine for_lst (xs := G.map (V.int ∘ fun e => e.n)) Pv (by rw [hPv]; exact ⟨[], _, _, rfl, b1, b2, b3, b4, b5, .nil, b6, fr1, hT3⟩) ?_ ?_ ?_
    · intro i σ H' _ hp
      rw [hPv] at hp
      obtain ⟨kv2, v4, v5, -, -, -, -, -, -, -, h8, -⟩ := hp
      exact .of h8
    · intro i x σ H' hx hp
      rw [hPv] at hp
      obtain ⟨kv2, v4, v5, rfl, h1, h2, h3, h4, h5, h6, h8, h9, h10⟩ := hp
      rw [List.getElem?_map] at hx
      obtain ⟨e, hy, rfl⟩ := Option.map_eq_some_iff.mp hx
      obtain ⟨j, hj, ha⟩ := mG i e hy
      have et : G.take (i + 1) = G.take i ++ [e] := by rw [List.take_add_one, hy]; rfl
      have lt := lv_take NG hy ha
      have hd := ok.at_ j e hj ha
      have oj := off_add hj
      have ki := h6.len
      have hfl := flat_take_le (B := G) i
      have hfl2 := flat_take_le (B := G) (i + 1)
      rw [et, flat_app, List.length_append, flat_cons, List.length_append, Blk.ws_len] at hfl2
      rw [List.length_take] at ki
      have hv : atI ((flat B).map V.int) ((off B j : Int) + 1) = some (.int (e.s.length : Nat)) := atI_map (i := off B j + 1) (get_size hj)
      simp only [Function.comp]
      walk_at "kk"
      intro t1 ht1
      have ec : cutV ((flat B).map V.int) (some ((off B j : Nat) : Int)) (some ((off B j : Int) + 3 + e.s.length)) = e.ws.map V.int := by
        rw [show ((off B j : Int) + 3 + e.s.length) = ((off B j + (e.s.length + 3) : Nat) : Int) by omega, cutV_nat, ← List.map_drop, ← List.map_take, show off B j + (e.s.length + 3) - off B j = e.s.length + 3 by omega, get_ws hj]
      rw [ec]
      have ht1' : H' t1 = none := by walk_at "nn"
      have u1 : t1 ≠ st := ne_n h1 ht1'
      have u2 : t1 ≠ wd := ne_n h2 ht1'
      have u3 : t1 ≠ pl := ne_n h3 ht1'
      have u4 : t1 ≠ p := ne_n h4 ht1'
      have u5 : t1 ≠ r := ne_n h5 ht1'
      have u6 : t1 ≠ l := ne_n h8 ht1'
      refine ext_l (xs := (flat (G.take i)).map V.int) (zs := e.ws.map V.int) (by walk_at "hp") (by walk_at "hp") (le_line (by simp only [List.length_map, Blk.ws_len]; omega)) ?_
      rw [hPv]
      refine ⟨_, _, _, rfl, by walk_at "hp", by walk_at "hp", by walk_at "hp", ?_, by walk_at "hp", ?_, by walk_at "hp", fun b o hb hH => ?_, ?_⟩
      · rw [upd_same, et, flat_app, flat_cons, ← List.map_append]; simp [flat_nil]
      · rw [et]; exact h6.app ha lt
      · have b1 : b ≠ p := ne_of_none hH hp
        have b2 : b ≠ r := ne_of_none hH hr1
        have hb2 := h9 b o hb hH
        have b3 : b ≠ t1 := ne_of_none hb2 ht1'
        walk_at "hp"
      · refine LamX.TabS.upd (LamX.TabS.add (LamX.TabS.upd h10 h5 pln_dK) ht1) (o := .lst ((flat (G.take i)).map V.int)) (by walk_at "hp") pln_lst
    · intro σ H' hpp
      rw [hPv] at hpp
      obtain ⟨kv2, v4, v5, rfl, h1, h2, h3, h4, h5, h6, h8, h9, h10⟩ := hpp
      rw [List.length_map, List.take_length] at h4 h6
      subst hD
      walk_at "kk"
      refine h _ p r ⟨⟨dx, lo, upd_same, l1, fun i h0 h1 => ?_⟩, ?_, ⟨kv2, by walk_at "hp", ?_⟩, nd.alv, fun i e hi ha => ?_, rp.symm, pst.symm, rst.symm⟩ hp hr1 (fun b o hb hH => ?_) (LamX.TabS.upd h10 h1 pln_ins)
      · rw [lv_alv]; exact l2 i h0 h1
      · rw [hG] at h4; walk_at "hp"
      · rw [← hG]; exact h6
      · obtain ⟨j, hj, _⟩ := mem_alv hi
        exact nn j e hj ha
      · simp only [List.mem_cons, List.not_mem_nil, or_false, not_or] at hb
        rw [upd_ne hb.1]
        exact h9 b o (by simp [hb.2]) hH
end
end K06

set_option Elab.async false
set_option linter.all false
set_option maxRecDepth 100000
set_option maxHeartbeats 4000000
namespace K06
open PySem PySem.Spec PyProof.Rows L2 KW ST
local macro_rules | `(tactic| walk_at "kw") => `(tactic| simp only [tSeq, tNext, tIfS, tTest, tAnd, tOr, tNot, tAndV, tOrV, tNotV, tIf, tChain, tOp, tUn, tC, tAsg, gName, gSub, gCons, gNil, tRet, tRetN, tDrop, tCons, tNil, tCB, tAug, tSl, tPart, tNoPart, tLst, tTup, tBM, tBM0, uTest, uFor, iRng1, iRng2, iList, uCall, List.map_cons, List.map_nil, List.length_cons, List.length_nil, List.cons_append, List.nil_append, List.replicate, Nat.zero_add, Nat.reduceAdd, Nat.reduceSub, List.getElem?_cons_zero, List.getElem?_cons_succ, List.set_cons_zero, List.set_cons_succ, V.bl.injEq, V.int.injEq, V.str.injEq, V.ref.injEq, V.ty.injEq, List.cons.injEq, and_true, true_and, exists_eq_left', exists_eq_right, exists_eq_left, exists_and_left, exists_and_right, decide_eq_true_eq, Bool.not_eq_true', decide_eq_false_iff_not, Bool.false_eq_true, if_true, if_false, ite_true, ite_false, Bool.not_true, Bool.not_false, reduceCtorEq, decide_true, decide_false, Bool.not_not, isK_int_int, isK_int_bool, isK_int_str, isK_int_list, isK_int_tuple, isK_bool_int, isK_bool_bool, isK_bool_str, isK_str_str, isK_str_int, isK_str_bool, isK_str_tuple, isK_str_list, isK_list_list, isK_list_tuple, isK_tuple_tuple, isK_tuple_list, isOk_int_int, isOk_int_bool, isOk_int_str, isOk_int_list, isOk_int_tuple, isOk_bool_int, isOk_bool_bool, isOk_bool_str, isOk_str_str, isOk_str_int, isOk_str_bool, isOk_str_tuple, isOk_str_list, isOk_list_list, isOk_list_tuple, isOk_tuple_tuple, isOk_tuple_list, isK_dict_dict, isOk_dict_dict, isK_none_int, isK_none_bool, isOk_none_int, isOk_none_bool, tyV, S_inj, S_cat, L2.start, Nat.reduceSub, List.replicate_succ, List.replicate_zero, and_assoc, List.append_nil, Nat.reduceEqDiff, Option.some.injEq, Int.natCast_inj, upd_upd, Int.reducePow, Int.reduceToNat, Int.reduceMul, Int.reduceAdd, Int.reduceSub, Int.reduceLT, Int.reduceLE, Int.reduceNeg, Int.reduceDiv, Int.reduceMod, Nat.reducePow, Nat.reduceMul, S_len, List.length_append, List.length_map, List.length_range, not_true_eq_false, not_false_eq_true, ne_eq, uAdd_e1, uAdd_e2, uSub_e1, uMod_e1, uDiv_e1, uPow_e1, uShl_e1, uNeg_e1, uIAdd_e1, uIAdd_e2, uIAdd_e3, uISub_e1, uLt_e1, uLt_e2, uLe_e1, uGt_e1, uGe_e1, uEq_e1, uEq_e2, uEq_e3, uEq_e4, uEq_e5, uEq_e6, uEq_e7, uEq_e8, uEq_e9, uEq_e10, uEq_e11, uNe_e1, uNe_e2, uNe_e3, uNe_e4, uNe_e5, uNe_e6, uNe_e7, uNe_e8, uNe_e9, uNe_e10, uNe_e11, uIs_e1, uIs_e2, uIs_e3, uIs_e4, uIs_e5, uIs_e6, uIs_e7, uNotIs_e1, uNotIs_e2, uNotIs_e3, uNotIs_e4, uNotIs_e5, uNotIs_e6, uIn_e1, uIn_e2, uIn_e3, uIn_e4, uNotIn_e1, uNotIn_e2, uNotIn_e3, uNotIn_e4, uTru_e1, uTru_e2, uTru_e3, uTru_e4, uIx_e2, uSl_e2, uLen_e1, uAbs_e1, uInt_e1, uInt_e2, uMin2_e1, uIsi_e1, uIsi_e2, uIsi_e3, uIsi_e4, cx_K, uVar_0, uVar_n, uFld, uSFld, uMet, uMake, tDG, tDI, tDNI, tDP, tDD, uMk, uRaise, uDelSl, tCallS, L2.WE, uStr_e1, uStr_e2, uMul2_e1, uMul2_e2, okS_i, okS_s, List.zip_cons_cons, List.zip_nil_left, List.drop_zero, List.drop_succ_cons, List.drop_nil, putF_nil, putF_cons, eq_self, tDNewK, tB, Option.isSome_some, Option.isSome_none, false_and, false_or, or_false, exists_false, Int.zero_add, uLc, wipe, tYes, isEmpty_app, List.isEmpty_cons, List.isEmpty_nil, List.isEmpty_map, Bool.and_false, Bool.and_true, iRev, K06.lit_0, K06.lit_1, K06.lit_3, K06.lit_4, K06.fe_room_entries, K06.fe_room_words, K06.fe_room__places, K06.fe_room__least, K06.fe_entries_room, K06.fe_entries_words, K06.fe_entries__places, K06.fe_entries__least, K06.fe_words_room, K06.fe_words_entries, K06.fe_words__places, K06.fe_words__least, K06.fe__places_room, K06.fe__places_entries, K06.fe__places_words, K06.fe__places__least, K06.fe__least_room, K06.fe__least_entries, K06.fe__least_words, K06.fe__least__places, K06.fe_store_pressure, K06.fe_store_always, K06.fe_store_allocations, K06.fe_store_collections, K06.fe_store__roots, K06.fe_store__held, K06.fe_store__saved, K06.fe_pressure_store, K06.fe_pressure_always, K06.fe_pressure_allocations, K06.fe_pressure_collections, K06.fe_pressure__roots, K06.fe_pressure__held, K06.fe_pressure__saved, K06.fe_always_store, K06.fe_always_pressure, K06.fe_always_allocations, K06.fe_always_collections, K06.fe_always__roots, K06.fe_always__held, K06.fe_always__saved, K06.fe_allocations_store, K06.fe_allocations_pressure, K06.fe_allocations_always, K06.fe_allocations_collections, K06.fe_allocations__roots, K06.fe_allocations__held, K06.fe_allocations__saved, K06.fe_collections_store, K06.fe_collections_pressure, K06.fe_collections_always, K06.fe_collections_allocations, K06.fe_collections__roots, K06.fe_collections__held, K06.fe_collections__saved, K06.fe__roots_store, K06.fe__roots_pressure, K06.fe__roots_always, K06.fe__roots_allocations, K06.fe__roots_collections, K06.fe__roots__held, K06.fe__roots__saved, K06.fe__held_store, K06.fe__held_pressure, K06.fe__held_always, K06.fe__held_allocations, K06.fe__held_collections, K06.fe__held__roots, K06.fe__held__saved, K06.fe__saved_store, K06.fe__saved_pressure, K06.fe__saved_always, K06.fe__saved_allocations, K06.fe__saved_collections, K06.fe__saved__roots, K06.fe__saved__held, K06.fl_room_0, K06.lf_room_0, K06.fl_room_1, K06.lf_room_1, K06.fl_room_3, K06.lf_room_3, K06.fl_room_4, K06.lf_room_4, t11_e, uMetD.uMtD, tDGF_eq, uDGetF_e1, K06.N_is_ref, K06.N_ref_of, K06.N_reached, K06.N_words_of, K06.N_collect, K06.N_Store_init, K06.N_Store_used, K06.N_Store_exists, K06.N_Store_numbers, K06.N_Store_free_number, K06.N_Store_allocate, K06.N_Store_size, K06.N_Store_kind, K06.N_Store_get, K06.N_Store_put, K06.N_Store_slots, K06.N_Store_drop, K06.N_Store_close_up, K06.N_Space_init, K06.N_Space_press, K06.N_Space_root, K06.N_Space_set_root, K06.N_Space_hold, K06.N_Space_drop, K06.N_Space_held, K06.N_Space_all_roots, K06.N_Space_collect, K06.N_Space_collect_with, K06.N_Space_live_words, K06.N_Space_new, K06.N_Space_fitted, K06.N__law_number, K06.N__law_deeds, K06.N__law_is, K06.N__law_same, K06.N__law_place, K06.N__law_word, K06.N__law_reached, K06.N__law_total, K06.N__law_collections, K06.N__law_called, K06.N__law_kept, K06.N__law_held, K06.N__law_fresh, K06.N__law_new, K06.N__law_deed, K06.N__law_space, K06.N_law, sp_is_ref, sp_ref_of])
local macro_rules | `(tactic| walk_at "nn") => `(tactic| first | assumption | exact ne_un (by assumption) | exact ne_un (ne_un (by assumption)) | exact ne_un (ne_un (ne_un (by assumption))) | exact ne_un (ne_un (ne_un (ne_un (by assumption)))))
local macro_rules | `(tactic| walk_at "ne") => `(tactic| first | assumption | (apply Ne.symm; assumption) | exact ne_ud (by assumption) | exact Ne.symm (ne_ud (by assumption)) | exact ne_ud (ne_un (by assumption)) | exact Ne.symm (ne_ud (ne_un (by assumption))) | exact ne_ud (ne_un (ne_un (by assumption))) | exact Ne.symm (ne_ud (ne_un (ne_un (by assumption)))) | exact ne_m (by assumption) (by assumption) | exact Ne.symm (ne_m (by assumption) (by assumption)) | exact ne_n (by assumption) (by walk_at "nn") | exact Ne.symm (ne_n (by assumption) (by walk_at "nn")))
local macro_rules | `(tactic| walk_at "hp") => `(tactic| first | assumption | exact upd_same | (refine Eq.trans (upd_ne ?_) ?_; (focus walk_at "ne"); walk_at "hp"))
local macro_rules | `(tactic| walk_at "sc") => `(tactic| first | (with_reducible assumption) | omega | exact le_line (by (try simp only [List.length_map, List.length_append, List.length_cons, List.length_nil, S_len]); omega) | exact div_s (by omega) | exact mul_r (by omega) | exact mul_l (by omega) | exact pow_s (by omega) | exact mul2_r (by omega) | exact mul2_l (by omega) | exact small4300 (by omega) | exact lt_line (by (try simp only [List.length_map, List.length_append, List.length_cons, List.length_nil, S_len]); omega) | exact ⟨_, by assumption⟩ | (guard_target =~ Exists _; exact ⟨_, .of (by walk_at "hp")⟩) | (guard_target =~ _ ∨ _; exact .inl ⟨_, by assumption⟩) | (guard_target =~ _ ∨ _; exact .inl ⟨_, .of (by walk_at "hp")⟩) | (guard_target =~ _ ∨ _; exact .inr (.inr (.inl ⟨rfl, .inl ⟨_, by walk_at "hp"⟩⟩))) | decide)
local macro_rules | `(tactic| walk_at "kr") => `(tactic| first | (guard_target =~ _ ∧ _; first | refine And.intro (by walk_at "sc") ?_) | (guard_target =~ KW.uIx _ _ _ _ _; first | refine ix_l (by walk_at "hp") (by first | walk_at "hv" | rfl) ?_ | refine ix_t (by walk_at "hp") (by first | walk_at "hv" | rfl) ?_ | refine ix_sl (by assumption) (by walk_at "hv") ?_) | (guard_target =~ KW.uLen _ _ _ _; first | refine len_l (by walk_at "hp") ?_ | refine len_t (by walk_at "hp") ?_ | refine len_sl (by assumption) ?_) | (guard_target =~ KW.uSet _ _ _ _ _; first | refine set_l (by walk_at "hp") (by first | walk_at "hv" | rfl) ?_) | (guard_target =~ L2.gTup _ _ _ _ _ _ _; first | refine tup_l (by walk_at "hp") (by rfl) ?_) | (guard_target =~ KW.uGet _ _ _ _ _; first | refine get_l (by walk_at "hp") (by walk_at "hc") (by decide) (by rfl) ?_) | (guard_target =~ KW.uPut _ _ _ _ _ _; first | refine put_l (by walk_at "hp") (by walk_at "hc") (by decide) (by simp) ?_) | (guard_target =~ KW.uMet.uMt _ _ _ _ _ _ _ _ _; first | refine met_l (by walk_at "hp") (by rfl) ?_) | (guard_target =~ KW.uMet.uMt _ _ _ _ _ _ _ _ _; first | refine ST.met_s (by assumption) (by decide) ?_) | (guard_target =~ ST.spExists _ _ _ _ _; first | refine ST.exists_s (by assumption) ?_) | (guard_target =~ ST.spUsed _ _ _ _ _; first | refine ST.used_s (by assumption) ?_) | (guard_target =~ KW.uGet _ _ _ _ _; first | refine ST.words_s (by assumption) (by walk_at "hc") (by decide) ?_) | (guard_target =~ KW.uDIn _ _ _ _; first | refine din_i (by walk_at "hp") ?_ | refine din_s (by walk_at "hp") ?_) | (guard_target =~ KW.uDGet _ _ _ _; first | refine dget_i (by walk_at "hp") (by walk_at "hv") ?_ | refine dget_s (by walk_at "hp") (by walk_at "hv") ?_) | (guard_target =~ KW.uDPut _ _ _ _ _; first | refine dput_i (by walk_at "hp") (by walk_at "sc") ?_ | refine dput_s (by walk_at "hp") (by walk_at "sc") ?_) | (guard_target =~ KW.uDDel _ _ _ _; first | refine ddel_i (by walk_at "hp") (by walk_at "hv") ?_ | refine ddel_s (by walk_at "hp") (by walk_at "hv") ?_) | (guard_target =~ KW.uMul2 _ _ _ _; first | refine rep_l (by walk_at "hp") (by walk_at "sc") (by walk_at "sc") (by walk_at "sc") ?_) | (guard_target =~ L2.rAppend _ _ _ _; first | refine app_l (by walk_at "hp") (by walk_at "sc") ?_) | (guard_target =~ L2.rPop _ _ _ _; first | refine pop_l (by walk_at "hp") (by walk_at "hv") ?_ | refine pops_l (by walk_at "hp") ?_) | (guard_target =~ L2.rClear _ _ _ _; first | refine clr_l (by walk_at "hp") ?_) | (guard_target =~ L2.rReverse _ _ _ _; first | refine rev_l (by walk_at "hp") ?_) | (guard_target =~ L2.rExtend _ _ _ _; first | refine ext_l (by walk_at "hp") (by walk_at "hp") (by walk_at "sc") ?_) | (guard_target =~ KW.uAdd _ _ _ _ _; first | refine ucat_l (by walk_at "hp") (by walk_at "hp") (by walk_at "sc") ?_) | (guard_target =~ KW.uSl _ _ _ _ _ _; first | refine usl_l (by walk_at "hp") ?_) | (guard_target =~ KW.uTru _ _ _ _; first | refine tru_l (by walk_at "hp") ?_ | refine tru_t (by walk_at "hp") ?_ | refine tru_d (by walk_at "hp") ?_ | refine tru_sl (by assumption) ?_) | (guard_target =~ L2.rIndex _ _ _ _ _; first | refine idx_s (by walk_at "hp") (by assumption) ?_ | refine idx_i (by walk_at "hp") (by assumption) ?_) | (guard_target =~ L2.rIn _ _ _ _ _ _; first | refine in_s (by walk_at "hp") ?_ | refine nin_s (by walk_at "hp") ?_ | refine in_i (by walk_at "hp") ?_ | refine nin_i (by walk_at "hp") ?_) | (guard_target =~ KW.uIsi _ _ _ _; first | refine isi_l (by walk_at "hp") (by decide +kernel) ?_ | refine isi_t (by walk_at "hp") (by decide +kernel) ?_ | refine isi_d (by walk_at "hp") (by decide +kernel) ?_) | (guard_target =~ KW.uList _ _ _ _; first | refine list_l (by walk_at "hp") ?_ | refine list_t (by walk_at "hp") ?_ | refine list_sl (by assumption) ?_) | (guard_target =~ KW.uDict _ _ _; first | refine dict_d (by walk_at "hp") ?_) | (guard_target =~ KW.uSorted _ _ _ _; first | refine srt_l (by walk_at "hp") ?_) | (guard_target =~ KW.uSum _ _ _ _; first | refine sum_l (by walk_at "hp") ?_) | (guard_target =~ KW.uDelC _ _ _ _; first | refine dels_l (by walk_at "hp") (by walk_at "sc") ?_) | (guard_target =~ L2.wAs _ _ _ _ _ _ _ _ _ _; first | refine as_yes (by walk_at "hx") ?_ | refine as_no (by walk_at "hx") ?_) | (guard_target =~ KW.uEf _ _ _ _ _ _ _ _ _; first | refine ef_l (by walk_at "he") (by decide) (by rfl) (by walk_at "hp") (by rfl) ?_) | (guard_target =~ KW.uIsE _ _ _ _ _ _ _; first | refine isE_r (by walk_at "he") (by walk_at "hp") (by walk_at "hk") ?_ | refine isE_t (by walk_at "he") (by walk_at "hp") (by walk_at "hk") ?_))
local macro_rules | `(tactic| walk_at "hv") => `(tactic| first | assumption)
local macro_rules | `(tactic| walk_at "kk") => `(tactic| repeat (first | walk_at "kw" | walk_at "kr"))
local macro_rules | `(tactic| walk_at "hc") => `(tactic| first | exact K06.Txt.c_Store (by assumption) | exact K06.Txt.c_Space (by assumption))
local macro_rules | `(tactic| walk_at "he") => `(tactic| first | exact K06.Txt.e_BadWord (by assumption) | exact K06.Txt.e_NoRoom (by assumption) | exact K06.Txt.e_NoNumber (by assumption) | exact K06.Txt.e_Wrong (by assumption))
local macro_rules | `(tactic| walk_at "hx") => `(tactic| first | exact K06.Txt.x_BadWord_KilnwardenError (by assumption) | exact K06.Txt.x_BadWord_NoNumber (by assumption) | exact K06.Txt.x_BadWord_NoRoom (by assumption) | exact K06.Txt.x_NoRoom_KilnwardenError (by assumption) | exact K06.Txt.x_NoRoom_NoNumber (by assumption) | exact K06.Txt.x_NoRoom_NoRoom (by assumption) | exact K06.Txt.x_NoNumber_KilnwardenError (by assumption) | exact K06.Txt.x_NoNumber_NoNumber (by assumption) | exact K06.Txt.x_NoNumber_NoRoom (by assumption) | exact K06.Txt.x_Wrong_KilnwardenError (by assumption) | exact K06.Txt.x_Wrong_NoNumber (by assumption) | exact K06.Txt.x_Wrong_NoRoom (by assumption))
local macro_rules | `(tactic| walk_at "hk") => `(tactic| first | exact K06.Txt.i_BadWord_NoNumber (by assumption) | exact K06.Txt.i_BadWord_NoRoom (by assumption) | exact K06.Txt.i_NoRoom_NoNumber (by assumption) | exact K06.Txt.i_NoRoom_NoRoom (by assumption) | exact K06.Txt.i_NoNumber_NoNumber (by assumption) | exact K06.Txt.i_NoNumber_NoRoom (by assumption) | exact K06.Txt.i_Wrong_NoNumber (by assumption) | exact K06.Txt.i_Wrong_NoRoom (by assumption))

section
variable {P : Program} {w : World} {K : Frag} {mg : Str → Option Value} {base : Heap} {a : Ads}
theorem ok_reached (T : Txt P w K mg a) : Cal P w K mg base 3 "reached" (spReached a.Store) := by
  have C_is_ref := ok_is_ref (P := P) (w := w) (base := base) T
  have C_ref_of := ok_ref_of (P := P) (w := w) (base := base) T
  have M_Store_exists := ok_Store_exists (P := P) (w := w) (base := base) T
  have M_Store_kind := ok_Store_kind (P := P) (w := w) (base := base) T
  have M_Store_slots := ok_Store_slots (P := P) (w := w) (base := base) T
  refine T.d_reached.ok sc_reached (fun vs H Q E h => ?_) (fun f cdv A outer s H vs Q E hr h => ⟨_, (pss_cons (ps_set (i := 2) sc_reached.nd rfl (Or.inl rfl) pe_dnewK)
      (pss_cons (k_setLc (i := 3) (own := [("word", 4)]) (g := gName 4) (by rfl) sc_reached.nd rfl rfl (sw_true rfl rfl rfl (by decide +kernel)) (pi_list (kv 1)) (blkOk_by (own := [("word", 4)]) (N := ["store", "roots", "found", "waiting", "word", "number"]) (sc := defScope s_reached) (by decide +kernel)) (fun _ _ _ _ _ => pg_name (i := 4) sc_reached.nd rfl (Or.inl rfl)) (fun _ _ _ _ _ => by exact pts_one (ktK K (kc C_is_ref (hr.mono (by decide)) (pa_cons (kv 4) pa_nil)))) (fun _ _ _ _ _ => by exact (kc C_ref_of (hr.mono (by decide)) (pa_cons (kv 4) pa_nil))))
      (pss_cons (k_while (passes_of rfl) (kt (kv 3))
      (pss_cons (ps_set (i := 5) sc_reached.nd rfl (Or.inl rfl) (pe_bm0 PySem.F.plainAttrs_list PySem.F.slot_list_pop PySem.F.type_list_pop mt_pop (kv 3)))
      (pss_one (ps_if (PW.pt (pw_and (pt_cmp (k_dnotin (hu_of hr) (kv 5) (kv 2))) (pw_and1 (kt (km M_Store_exists (hr.mono (by decide)) (kv 0) (pa_cons (kv 5) pa_nil))))))
      (pss_cons (k_dput (hu_of hr) (kv 2) (kv 5) pe_bl)
      (pss_one (k_for (passes_of rfl) rfl (pi_list (pe_op o_add (pe_lst (pa_cons (km M_Store_kind (hr.mono (by decide)) (kv 0) (pa_cons (kv 5) pa_nil)) pa_nil)) (km M_Store_slots (hr.mono (by decide)) (kv 0) (pa_cons (kv 5) pa_nil)))) (pg_name (i := 4) sc_reached.nd rfl (Or.inl rfl))
      (pss_one (ps_if (PW.pt (pw_and (kt (kc C_is_ref (hr.mono (by decide)) (pa_cons (kv 4) pa_nil))) (pw_and1 (pt_cmp (k_dnotin (hu_of hr) (kc C_ref_of (hr.mono (by decide)) (pa_cons (kv 4) pa_nil)) (kv 2))))))
      (pss_one (ps_expr (pe_bm PySem.F.plainAttrs_list PySem.F.slot_list_append PySem.F.type_list_append mt_append (kv 3) (pa_cons (kc C_ref_of (hr.mono (by decide)) (pa_cons (kv 4) pa_nil)) pa_nil))))
      pss_nil)))))
      pss_nil))))
      (pss_one (ps_ret (kv 2)))))), ?_⟩)
  · obtain ⟨_, _, _, _, _, _, _, _, rfl, _⟩ := h; rfl
  · obtain ⟨st, wd, pl, rt, rm, en, B, R, rfl, S, hR, hB, hRl, h⟩ := h
    walk_at "kk"
    intro p hp
    walk_at "kk"
    refine lc_ii (fun w => if w % 2 = 0 then some (w / 2) else none) (.of (by walk_at "hp")) (lt_line (by omega)) ?_ ?_
    · intro i x D acc Cy Cn hx hD h1 h2
      walk_at "kw"
      by_cases c : x % 2 = 0
      · have h1 := h1 (x / 2) (if_pos c)
        simp only [c, decide_true]
        exact ⟨trivial, h1⟩
      · have h2 := h2 (if_neg c)
        simp only [c, decide_false]
        exact h2
    intro q hq
    have q0 : H q = none := by walk_at "nn"
    have qp : q ≠ p := by walk_at "ne"
    have nq : q ∉ fpS st wd pl := notin_of q0 S.there
    have np : p ∉ fpS st wd pl := notin_of hp S.there
    simp only [List.mem_cons, List.not_mem_nil, or_false, not_or] at nq np
    obtain ⟨nq1, nq2, nq3⟩ := nq
    obtain ⟨np1, np2, np3⟩ := np
    obtain ⟨W, hW⟩ : ∃ W : Nat → L2.St → Hp → Prop, W = fun m σ H' => ∃ F Wt kvs v1 v2, σ = [some (.ref st), some (.ref rt), some (.ref p), some (.ref q), v1, v2] ∧ m = Wt.length + pot F B ∧ m ≤ 3000001 ∧ DI B R F Wt ∧ Fnd kvs F ∧ H' p = some (.dK kvs) ∧ H' q = some (.lst (Wt.map .int)) ∧ KW.Fr [] H H' := ⟨_, rfl⟩
    refine ⟨W, ⟨_, by rw [hW]; exact ⟨[], refs R, [], none, none, rfl, rfl, (by have := pot_flat [] B; have := refs_len R; omega), .init B R, .nil, by walk_at "hp", upd_same, (Fr.new hp).trans (Fr.new hq)⟩⟩, ?_⟩
    intro m σ H' hw
    rw [hW] at hw
    obtain ⟨F, Wt, kvs, v1, v2, rfl, rfl, hm, D, hF, hp', hq', fr⟩ := hw
    have S1 := S.fr0 fr
    rcases List.eq_nil_or_concat Wt with rfl | ⟨W', n, rfl⟩
    · walk_at "kk"
      exact h p F kvs H' hp fr hp' hF D.nd (D.done S.nd)
    · rw [List.concat_eq_append] at hm D hq' ⊢
      rw [List.map_append] at hq'
      have S2 : Sto a.Store (upd H' q (.lst (W'.map V.int))) st wd pl rm en B := S1.fr (l := [q]) (Fr.upd (by simp)) (by simp [Ne.symm nq1]) (by simp [Ne.symm nq2]) (by simp [Ne.symm nq3])
      have fr2 : KW.Fr [] H (upd H' q (.lst (W'.map V.int))) := fun b o hb hH => by
        have : b ≠ q := by walk_at "ne"
        rw [upd_ne this]; exact fr b o hb hH
      walk_at "kk"
      rw [hF.mem n]
      by_cases c : n ∈ F
      · rw [decide_eq_true c]
        walk_at "kk"
        rw [hW]
        refine ⟨_, ?_, F, W', kvs, _, _, rfl, rfl, ?_, D.skip (.inl c), hF, by walk_at "hp", upd_same, fr2⟩
        · simp
        · simp at hm; omega
      rw [decide_eq_false c]
      walk_at "kk"
      cases el : lv B n with
      | false =>
        walk_at "kk"
        rw [hW]
        refine ⟨_, ?_, F, W', kvs, _, _, rfl, rfl, ?_, D.skip (.inr el), hF, by walk_at "hp", upd_same, fr2⟩
        · simp
        · simp at hm; omega
      | true =>
        obtain ⟨i, e, hi, ha, rfl⟩ := lv_iff.mp el
        have kl := hF.len
        have fl := rch_len D.nd D.sF
        have lf := len_flat B
        walk_at "kk"
        have S3 : Sto a.Store (upd (upd H' q (.lst (W'.map V.int))) p (.dK (putK kvs (.inl e.n) (.bl true)))) st wd pl rm en B := S2.fr (l := [p]) (Fr.upd (by simp)) (by simp [Ne.symm np1]) (by simp [Ne.symm np2]) (by simp [Ne.symm np3])
        have hF3 := hF.put c
        have fr3 : KW.Fr [] H (upd (upd H' q (.lst (W'.map V.int))) p (.dK (putK kvs (.inl e.n) (.bl true)))) := fun b o hb hH => by
          have : b ≠ p := by walk_at "ne"
          rw [upd_ne this]; exact fr2 b o hb hH
        have p3 : upd (upd H' q (.lst (W'.map V.int))) p (.dK (putK kvs (.inl e.n) (.bl true))) p = some (.dK (putK kvs (.inl e.n) (.bl true))) := by walk_at "hp"
        have q3 : upd (upd H' q (.lst (W'.map V.int))) p (.dK (putK kvs (.inl e.n) (.bl true))) q = some (.lst (W'.map V.int)) := by walk_at "hp"
        revert S3 hF3 fr3 p3 q3
        generalize upd (upd H' q (.lst (W'.map V.int))) p (.dK (putK kvs (.inl e.n) (.bl true))) = H3
        generalize putK kvs (.inl e.n) (.bl true) = kvs3
        intro S3 hF3 fr3 p3 q3
        walk_at "kk"
        refine kind_s S3 hi ha rfl ?_
        walk_at "kk"
        intro t1 ht1
        have S4 := S3.new (o := .lst [.int e.k]) ht1
        walk_at "kk"
        refine slots_s S4 hi ha rfl fun t2 ht2 => ?_
        have o3 := off_add hi
        refine ucat_l (xs := [.int e.k]) (zs := e.s.map V.int) (by walk_at "hp") (by walk_at "hp") (le_line (by simp only [List.length_map, List.length_cons, List.length_nil]; omega)) fun t3 ht3 => ?_
        walk_at "kk"
        generalize hU : (fun σ' H' => ∃ m', m' < W'.length + 1 + pot F B ∧ W m' σ' H' : L2.St → Hp → Prop) = U
        have x1 : t1 ≠ p := by walk_at "ne"
        have x2 : t1 ≠ q := by walk_at "ne"
        have x3 : t2 ≠ p := by walk_at "ne"
        have x4 : t2 ≠ q := by walk_at "ne"
        have x5 : t3 ≠ p := by walk_at "ne"
        have x6 : t3 ≠ q := by walk_at "ne"
        have fr5 : KW.Fr [] H (upd (upd (upd H3 t1 (.lst [.int e.k])) t2 (.lst (e.s.map .int))) t3 (.lst (.int e.k :: e.s.map .int))) := fr3.trans ((Fr.new ht1).trans ((Fr.new ht2).trans (Fr.new ht3)))
        have p5 : upd (upd (upd H3 t1 (.lst [.int e.k])) t2 (.lst (e.s.map .int))) t3 (.lst (.int e.k :: e.s.map .int)) p = some (.dK kvs3) := by walk_at "hp"
        have q5 : upd (upd (upd H3 t1 (.lst [.int e.k])) t2 (.lst (e.s.map .int))) t3 (.lst (.int e.k :: e.s.map .int)) q = some (.lst (W'.map V.int)) := by walk_at "hp"
        have t5 : upd (upd (upd H3 t1 (.lst [.int e.k])) t2 (.lst (e.s.map .int))) t3 (.lst (.int e.k :: e.s.map .int)) t3 = some (.lst ((e.k :: e.s).map V.int)) := upd_same
        revert fr5 p5 q5 t5
        generalize upd (upd (upd H3 t1 (.lst [.int e.k])) t2 (.lst (e.s.map .int))) t3 (.lst (.int e.k :: e.s.map .int)) = H5
        intro fr5 p5 q5 t5
        have ee : V.int e.k :: e.s.map V.int = (e.k :: e.s).map V.int := rfl
        generalize hwl : e.k :: e.s = wl at t5
        have wll : wl.length = e.s.length + 1 := by rw [← hwl]; rfl
        obtain ⟨fx, hfx⟩ : ∃ fx : Int → Option Int, fx = fun w => if w % 2 = 0 ∧ w / 2 ∉ F ++ [e.n] then some (w / 2) else none := ⟨_, rfl⟩
        refine for_lst (xs := wl.map V.int) (fun i σ H' => ∃ v1, σ = [some (.ref st), some (.ref rt), some (.ref p), some (.ref q), v1, some (.int e.n)] ∧ H' p = some (.dK kvs3) ∧ H' q = some (.lst ((W' ++ (wl.take i).filterMap fx).map V.int)) ∧ H' t3 = some (.lst (wl.map V.int)) ∧ KW.Fr [] H H') ⟨_, rfl, p5, by simpa using q5, t5, fr5⟩ ?_ ?_ ?_
        · rintro i σ H' - ⟨v1, -, -, -, h, -⟩
          exact .of h
        · rintro i x σ H' hx ⟨v1, rfl, p6, q6, t6, fr6⟩
          rw [List.getElem?_map] at hx
          obtain ⟨y, hy, rfl⟩ := Option.map_eq_some_iff.mp hx
          have et : wl.take (i + 1) = wl.take i ++ [y] := by rw [List.take_add_one, hy]; rfl
          have hl : ((wl.take i).filterMap fx).length ≤ wl.length := Nat.le_trans (List.length_filterMap_le _ _) (by rw [List.length_take]; omega)
          simp at hm
          have hfy : fx y = if y % 2 = 0 ∧ y / 2 ∉ F ++ [e.n] then some (y / 2) else none := by rw [hfx]
          walk_at "kk"
          by_cases c2 : y % 2 = 0
          · rw [if_pos c2]
            refine ⟨c2, din_i p6 ?_⟩
            rw [hF3.mem]
            by_cases c3 : y / 2 ∈ F ++ [e.n]
            · rw [decide_eq_true c3]
              walk_at "kk"
              rw [if_neg (fun z => z.2 c3)] at hfy
              exact ⟨by rw [et, List.filterMap_append]; simpa [hfy] using q6, t6, fr6⟩
            · rw [decide_eq_false c3]
              walk_at "kk"
              rw [if_pos ⟨c2, c3⟩] at hfy
              refine ⟨by walk_at "hp", ?_, by walk_at "hp", fun b o hb hH => ?_⟩
              · rw [upd_same, et, List.filterMap_append]
                simp [hfy]
              · have : b ≠ q := by walk_at "ne"
                rw [upd_ne this]; exact fr6 b o hb hH
          · rw [if_neg c2]
            rw [if_neg (fun z => c2 z.1)] at hfy
            exact ⟨p6, by rw [et, List.filterMap_append]; simpa [hfy] using q6, t6, fr6⟩
        · rintro σ H' ⟨v1, rfl, p6, q6, t6, fr6⟩
          subst hU
          rw [List.length_map, List.take_length] at q6
          rw [hW]
          have x1 : ∀ m ∈ wl.filterMap fx, m ∈ refs wl := fun m hm => by
            obtain ⟨w, h1, h2⟩ := List.mem_filterMap.mp hm
            rw [hfx] at h2
            dsimp only at h2
            split at h2
            · rename_i c2; cases h2; exact mem_refs.mpr ⟨w, h1, c2.1, rfl⟩
            · cases h2
          have x2 : ∀ m ∈ refs wl, m ∈ F ++ [e.n] ∨ m ∈ wl.filterMap fx := fun m hm => by
            obtain ⟨w, h1, h2, rfl⟩ := mem_refs.mp hm
            by_cases c2 : w / 2 ∈ F ++ [e.n]
            · exact .inl c2
            · exact .inr (List.mem_filterMap.mpr ⟨w, h1, by rw [hfx]; exact if_pos ⟨h2, c2⟩⟩)
          have x3 := pot_lt hi ha c
          have x4 : (wl.filterMap fx).length ≤ wl.length := List.length_filterMap_le _ _
          simp at hm
          subst hwl
          exact ⟨_, by simp; omega, F ++ [e.n], _, kvs3, v1, _, rfl, rfl, by simp; omega, D.take S.nd hi ha c x1 x2, hF3, p6, q6, fr6⟩
theorem ok_words_of (T : Txt P w K mg a) : Cal P w K mg base 2 "words_of" (spWordsOf a.Store) := by
  have M_Store_size := ok_Store_size (P := P) (w := w) (base := base) T
  refine T.d_words_of.ok sc_words_of (fun vs H Q E h => ?_) (fun f cdv A outer s H vs Q E hr h => ⟨_, (pss_one (ps_ret (pe_callB (c_sum rfl) (by rfl) T.n_sum (by decide +kernel) (pa_cons (pe_or (k_lc (own := [("number", 2)]) (g := gName 2) (by rfl) sc_words_of.nd (pi_list (kv 1)) (blkOk_by (own := [("number", 2)]) (N := ["store", "numbers", "number"]) (sc := defScope s_words_of) (by decide +kernel)) (fun _ _ _ _ _ => pg_name (i := 2) sc_words_of.nd rfl (Or.inl rfl)) (fun _ _ _ _ _ => pts_nil) (fun _ _ _ _ _ => by exact (pe_op (o_addK K) pe_int (km M_Store_size (hr.mono (by decide)) (kv 0) (pa_cons (kv 2) pa_nil)))))
        (pe_lock (k_lc (own := [("number", 2)]) (g := gName 2) (by rfl) sc_words_of.nd (pi_keys (kv 1)) (blkOk_by (own := [("number", 2)]) (N := ["store", "numbers", "number"]) (sc := defScope s_words_of) (by decide +kernel)) (fun _ _ _ _ _ => pg_name (i := 2) sc_words_of.nd rfl (Or.inl rfl)) (fun _ _ _ _ _ => pts_nil) (fun _ _ _ _ _ => by exact (pe_op (o_addK K) pe_int (km M_Store_size (hr.mono (by decide)) (kv 0) (pa_cons (kv 2) pa_nil))))))) pa_nil)))), ?_⟩)
  · obtain ⟨_, _, _, _, _, _, _, _, rfl, _⟩ := h; rfl
  · obtain ⟨st, wd, pl, nu, rm, en, B, F, rfl, S, hF, hl, hlv, h⟩ := h
    walk_at "kk"
    have fm : ∀ l : List Int, l.filterMap (fun n => some (wof B n)) = l.map (wof B) := fun l => by induction l <;> simp_all
    rcases hF with hF | ⟨np, kvs, hk, hF⟩
    · refine .inl ⟨⟨_, .of hF⟩, lc_ii (fun n => some (wof B n)) (.of hF) (lt_line (by omega)) ?_ ?_⟩
      · intro i x D acc Cy Cn hx hD h1 h2
        have S1 := S.new (o := .lst acc) hD
        obtain ⟨j, e, hj, ha, rfl⟩ := lv_iff.mp (hlv x (List.mem_of_getElem? hx))
        walk_at "kk"
        refine size_s S1 hj ha rfl ?_
        walk_at "kk"
        exact h1 _ (congrArg some (wof_eq S.nd hj ha))
      · intro D hD
        walk_at "kk"
        rw [fm]
        exact h _ (Fr.new hD)
    · have n1 : nu ≠ st := fun z => by obtain ⟨dx, lo, ob, _⟩ := S.ob; rw [← z, hk] at ob; cases ob
      have n2 : nu ≠ wd := fun z => by have := S.wo; rw [← z, hk] at this; cases this
      refine .inr ⟨nu, .dK kvs, hk, trivial, fun od => ?_⟩
      walk_at "kk"
      refine ⟨nu, od, rfl, .inl ⟨kvs, upd_same, ?_⟩⟩
      refine lc_pk (fun n => some (.int (wof B n))) upd_same hF.ks (lt_line (by omega)) ?_ ?_
      · intro i x D acc Cy Cn hx hD h1 h2
        have S1 := (S.fr (H' := upd H nu (.frz od (.dK kvs))) (l := [nu]) (Fr.upd (by simp)) (by simp [Ne.symm n1]) (by simp [Ne.symm n2]) (by simp [Ne.symm np])).new (o := .lst acc) hD
        obtain ⟨j, e, hj, ha, rfl⟩ := lv_iff.mp (hlv x (List.mem_of_getElem? hx))
        walk_at "kk"
        refine size_s S1 hj ha rfl ?_
        walk_at "kk"
        exact h1 _ (congrArg (fun z => some (V.int z)) (wof_eq S.nd hj ha))
      · intro D hD
        have nd : nu ≠ D := Ne.symm (by walk_at "ne")
        have e2 : F.filterMap (fun n => some (V.int (wof B n))) = (F.map (wof B)).map V.int := by
          have : ∀ l : List Int, l.filterMap (fun n => some (V.int (wof B n))) = (l.map (wof B)).map V.int := fun l => by induction l <;> simp_all
          exact this F
        rw [e2]
        walk_at "kk"
        refine ⟨by walk_at "hp", sum_l (by walk_at "hp") (h _ fun b o hb hH => ?_)⟩
        by_cases c : b = nu
        · subst c; rw [upd_same]; exact hk.symm.trans hH
        · have hD0 : H D = none := by walk_at "nn"
          rw [upd_ne c, upd_ne (ne_of_none hH hD0), upd_ne c]; exact hH
theorem ok_collect_collecting (T : Txt P w K mg a) (TB : LamX.TabB base mg a.c_Store_close_up a.p_Store_close_up) : Cal P w K mg base 4 "collect_collecting" (spCollect a.Store a.p_Store_close_up ("Store.close_up" ++ ".<locals>." ++ "<lambda>")) := by
  have C_reached := ok_reached (P := P) (w := w) (base := base) T
  have M_Store_numbers := ok_Store_numbers (P := P) (w := w) (base := base) T
  have M_Store_drop := ok_Store_drop (P := P) (w := w) (base := base) T
  have M_Store_close_up := ok_Store_close_up (P := P) (w := w) (base := base) T TB
  refine T.d_collect_collecting.ok sc_collect (fun vs H Q E h => ?_) (fun f cdv A outer s H vs Q E hr h => ⟨_, (pss_cons (ps_set (i := 2) sc_collect.nd rfl (Or.inr rfl) (kc C_reached (hr.mono (by decide)) (pa_cons (kv 0) (pa_cons (kv 1) pa_nil))))
      (pss_cons (k_setLc (i := 3) (own := [("number", 4)]) (g := gName 4) (by rfl) sc_collect.nd rfl rfl (sw_true rfl rfl rfl (by decide +kernel)) (pi_list (km0 M_Store_numbers (hr.mono (by decide)) (kv 0))) (blkOk_by (own := [("number", 4)]) (N := ["store", "roots", "found", "gone", "number"]) (sc := defScope s_collect) (by decide +kernel)) (fun _ _ _ _ _ => pg_name (i := 4) sc_collect.nd rfl (Or.inl rfl)) (fun _ _ _ _ _ => by exact pts_one (pt_cmp (k_dnotin (hu_of hr) (kv 4) (kv 2)))) (fun _ _ _ _ _ => by exact (kv 4)))
      (pss_cons (k_for (passes_of rfl) rfl (pi_list (kv 3)) (pg_name (i := 4) sc_collect.nd rfl (Or.inl rfl))
      (pss_one (ps_expr (km M_Store_drop (hr.mono (by decide)) (kv 0) (pa_cons (kv 4) pa_nil)))))
      (pss_cons (ps_expr (km0 M_Store_close_up (hr.mono (by decide)) (kv 0)))
      (pss_one (ps_ret (pe_callB c_len (by rfl) T.n_len (by decide +kernel) (pa_cons (kv 3) pa_nil)))))))), ?_⟩)
  · obtain ⟨_, _, _, _, _, _, _, _, rfl, _⟩ := h; rfl
  · obtain ⟨st, wd, pl, rt, rm, en, B, R, rfl, S, hR, hT, hB, hRl, h⟩ := h
    generalize a.p_Store_close_up = P0 at *
    have lB := len_flat B
    walk_at "kk"
    refine reached_s S hR hB hRl fun p F kvs H1 hp f1 hk fnd ndF hF => ?_
    have S1 := S.fr0 f1
    have T1 := hT.fr0 f1
    walk_at "kk"
    refine numbers_s S1 (by omega) fun ns l q1 q2 q3 => ?_
    have f2 : KW.Fr [] H1 (upd H1 l (.lst (ns.map V.int))) := Fr.new q3
    have S2 := S1.fr0 f2
    have T2 := T1.fr0 f2
    have hk2 := f2 _ _ (by simp) hk
    have hl2 : IL (upd H1 l (.lst (ns.map V.int))) l ns := upd_same
    revert f2 S2 T2 hk2 hl2
    generalize upd H1 l (.lst (ns.map V.int)) = H2
    intro f2 S2 T2 hk2 hl2
    have nl := q1.length_eq
    have nl2 := nums_len B
    walk_at "kk"
    refine lc_ii (fun n => if (!decide (n ∈ F)) = true then some n else none) (.of hl2) (lt_line (by omega)) ?_ ?_
    · intro i x D acc Cy Cn hx hD h1 h2
      have pD : p ≠ D := ne_of_none hk2 hD
      walk_at "kk"
      rw [fnd.mem]
      by_cases c : x ∈ F
      · rw [if_neg (by simp [c])]
        exact h2 (if_neg (by simp [c]))
      · rw [if_pos (by simp [c])]
        exact h1 x (if_pos (by simp [c]))
    intro go q4
    have ef : ns.filterMap (fun n => if (!decide (n ∈ F)) = true then some n else none) = ns.filter fun n => !decide (n ∈ F) := by
      rw [fm_if (fun n => !decide (n ∈ F)) (fun n => n) ns]; simp
    rw [ef]
    have gl := gone_len ndF (fun n hn => ((hF n).mp hn).lv) S.nd q1
    have gm := fun n h => gone_iff (F := F) q1 (n := n) h
    have gnd : (ns.filter fun n => !decide (n ∈ F)).Nodup := (q1.nodup_iff.mpr (nums_nodup S.nd)).sublist List.filter_sublist
    have gle : (ns.filter fun n => !decide (n ∈ F)).length ≤ ns.length := List.length_filter_le _ _
    have gm2 : ∀ n ∈ (ns.filter fun n => !decide (n ∈ F)), lv B n = true := fun n hn => mem_nums.mp (q1.mem_iff.mp (List.mem_filter.mp hn).1)
    revert gl gm gnd gle gm2 q4
    generalize (ns.filter fun n => !decide (n ∈ F)) = D
    intro q4 gl gm gnd gle gm2
    have f3 : KW.Fr [] H2 (upd H2 go (.lst (D.map V.int))) := Fr.new q4
    have S3 := S2.fr0 f3
    have T3 := T2.fr0 f3
    have hg3 : IL (upd H2 go (.lst (D.map V.int))) go D := upd_same
    have ngo : go ∉ fpS st wd pl := notin_of q4 S2.there
    simp only [List.mem_cons, List.not_mem_nil, or_false, not_or] at ngo
    revert f3 S3 T3 hg3
    generalize upd H2 go (.lst (D.map V.int)) = H3
    intro f3 S3 T3 hg3
    have F3 : KW.Fr [] H H3 := f1.trans (f2.trans f3)
    walk_at "kk"
    generalize hD : ({ nx := _, rt := Q } : Ends) = DD
    obtain ⟨Pv, hPv⟩ : ∃ Pv : Nat → L2.St → Hp → Prop, Pv = fun i σ H' => ∃ v4, σ = [some (.ref st), some (.ref rt), some (.ref p), some (.ref go), v4] ∧ Sto a.Store H' st wd pl rm en (kill (D.take i) B) ∧ KW.Fr [st, pl] H3 H' ∧ LamX.TabS H' P0 ("Store.close_up" ++ ".<locals>." ++ "<lambda>") := ⟨_, rfl⟩
    refine for_lst (xs := D.map V.int) Pv (by rw [hPv]; exact ⟨_, rfl, by rw [List.take_zero, kill_nil]; exact S3, Fr.refl _, T3⟩) ?_ ?_ ?_
    · intro i σ H' _ hp
      rw [hPv] at hp
      obtain ⟨v4, -, -, fr, -⟩ := hp
      exact .of (fr go _ (by simp [ngo.1, ngo.2.2]) hg3)
    · intro i x σ H' hx hp
      rw [hPv] at hp
      obtain ⟨v4, rfl, S4, fr, T4⟩ := hp
      rw [List.getElem?_map] at hx
      obtain ⟨n, hy, rfl⟩ := Option.map_eq_some_iff.mp hx
      obtain ⟨j, e, hj, ha, rfl⟩ := lv_iff.mp (gm2 n (List.mem_of_getElem? hy))
      have et : D.take (i + 1) = D.take i ++ [e.n] := by rw [List.take_add_one, hy]; rfl
      have nin : e.n ∉ D.take i := fun z => by
        obtain ⟨k, hk⟩ := List.getElem?_of_mem z
        have hk2 : k < i := by
          have := (List.getElem?_eq_some_iff.mp hk).1
          rw [List.length_take] at this; omega
        rw [List.getElem?_take_of_lt hk2] at hk
        have := (List.getElem?_inj (List.getElem?_eq_some_iff.mp hk).1 gnd).mp (hk.trans hy.symm)
        omega
      obtain ⟨k1, k2⟩ := kill_set S.nd hj ha nin
      walk_at "kk"
      refine drop_s S4 k1 ha rfl fun H5 S5 f5 => ?_
      walk_at "kk"
      rw [hPv]
      rw [k2, ← et] at S5
      exact ⟨_, rfl, S5, fr.trans f5, T4.frl f5 fun y hy => S4.pln y (by simp at hy; rcases hy with rfl | rfl <;> simp)⟩
    · intro σ H' hp
      rw [hPv] at hp
      obtain ⟨v4, rfl, S4, fr, T4⟩ := hp
      subst hD
      rw [List.length_map, List.take_length] at S4
      have lk := flat_kill D B
      have hg4 := fr go _ (by simp [ngo.1, ngo.2.2]) hg3
      walk_at "kk"
      refine ⟨st, wd, pl, rm, en, kill D B, rfl, S4, T4, by rw [lk]; exact hB, fun H5 wd' pl' S5 z1 z2 f5 T5 => ?_⟩
      rw [alv_kill (F := F) (fun n hn => gm n hn)] at S5
      have F4 : KW.Fr [st, pl] H H' := (F3.mono (by simp)).trans fr
      have nP : go ≠ P0 := T4.ne hg4 fun ps z => by cases z
      have hg5 := f5 go _ (by simp [ngo.1, nP]) hg4
      have ex : ∀ y ∈ [st, pl], H' y ≠ none := fun y hy => by
        obtain ⟨o, ho⟩ := S4.there y (by simp at hy; rcases hy with rfl | rfl <;> simp)
        rw [ho]; simp
      walk_at "kk"
      rw [gl]
      exact h F H5 wd' pl' ndF hF S5 (F4.none (fun m => ex _ m z1) z1) (F4.none (fun m => ex _ m z2) z2) ((F4.mono (by simp)).trans (f5.mono fun y hy => by simp at hy ⊢; rcases hy with rfl | rfl <;> simp)) T5
end
end K06

set_option Elab.async false
set_option linter.all false
set_option maxRecDepth 100000
set_option maxHeartbeats 4000000
namespace K06
open PySem PySem.Spec PyProof.Rows L2 KW ST
local macro_rules | `(tactic| walk_at "kw") => `(tactic| simp only [tSeq, tNext, tIfS, tTest, tAnd, tOr, tNot, tAndV, tOrV, tNotV, tIf, tChain, tOp, tUn, tC, tAsg, gName, gSub, gCons, gNil, tRet, tRetN, tDrop, tCons, tNil, tCB, tAug, tSl, tPart, tNoPart, tLst, tTup, tBM, tBM0, uTest, uFor, iRng1, iRng2, iList, uCall, List.map_cons, List.map_nil, List.length_cons, List.length_nil, List.cons_append, List.nil_append, List.replicate, Nat.zero_add, Nat.reduceAdd, Nat.reduceSub, List.getElem?_cons_zero, List.getElem?_cons_succ, List.set_cons_zero, List.set_cons_succ, V.bl.injEq, V.int.injEq, V.str.injEq, V.ref.injEq, V.ty.injEq, List.cons.injEq, and_true, true_and, exists_eq_left', exists_eq_right, exists_eq_left, exists_and_left, exists_and_right, decide_eq_true_eq, Bool.not_eq_true', decide_eq_false_iff_not, Bool.false_eq_true, if_true, if_false, ite_true, ite_false, Bool.not_true, Bool.not_false, reduceCtorEq, decide_true, decide_false, Bool.not_not, isK_int_int, isK_int_bool, isK_int_str, isK_int_list, isK_int_tuple, isK_bool_int, isK_bool_bool, isK_bool_str, isK_str_str, isK_str_int, isK_str_bool, isK_str_tuple, isK_str_list, isK_list_list, isK_list_tuple, isK_tuple_tuple, isK_tuple_list, isOk_int_int, isOk_int_bool, isOk_int_str, isOk_int_list, isOk_int_tuple, isOk_bool_int, isOk_bool_bool, isOk_bool_str, isOk_str_str, isOk_str_int, isOk_str_bool, isOk_str_tuple, isOk_str_list, isOk_list_list, isOk_list_tuple, isOk_tuple_tuple, isOk_tuple_list, isK_dict_dict, isOk_dict_dict, isK_none_int, isK_none_bool, isOk_none_int, isOk_none_bool, tyV, S_inj, S_cat, L2.start, Nat.reduceSub, List.replicate_succ, List.replicate_zero, and_assoc, List.append_nil, Nat.reduceEqDiff, Option.some.injEq, Int.natCast_inj, upd_upd, Int.reducePow, Int.reduceToNat, Int.reduceMul, Int.reduceAdd, Int.reduceSub, Int.reduceLT, Int.reduceLE, Int.reduceNeg, Int.reduceDiv, Int.reduceMod, Nat.reducePow, Nat.reduceMul, S_len, List.length_append, List.length_map, List.length_range, not_true_eq_false, not_false_eq_true, ne_eq, uAdd_e1, uAdd_e2, uSub_e1, uMod_e1, uDiv_e1, uPow_e1, uShl_e1, uNeg_e1, uIAdd_e1, uIAdd_e2, uIAdd_e3, uISub_e1, uLt_e1, uLt_e2, uLe_e1, uGt_e1, uGe_e1, uEq_e1, uEq_e2, uEq_e3, uEq_e4, uEq_e5, uEq_e6, uEq_e7, uEq_e8, uEq_e9, uEq_e10, uEq_e11, uNe_e1, uNe_e2, uNe_e3, uNe_e4, uNe_e5, uNe_e6, uNe_e7, uNe_e8, uNe_e9, uNe_e10, uNe_e11, uIs_e1, uIs_e2, uIs_e3, uIs_e4, uIs_e5, uIs_e6, uIs_e7, uNotIs_e1, uNotIs_e2, uNotIs_e3, uNotIs_e4, uNotIs_e5, uNotIs_e6, uIn_e1, uIn_e2, uIn_e3, uIn_e4, uNotIn_e1, uNotIn_e2, uNotIn_e3, uNotIn_e4, uTru_e1, uTru_e2, uTru_e3, uTru_e4, uIx_e2, uSl_e2, uLen_e1, uAbs_e1, uInt_e1, uInt_e2, uMin2_e1, uIsi_e1, uIsi_e2, uIsi_e3, uIsi_e4, cx_K, uVar_0, uVar_n, uFld, uSFld, uMet, uMake, tDG, tDI, tDNI, tDP, tDD, uMk, uRaise, uDelSl, tCallS, L2.WE, uStr_e1, uStr_e2, uMul2_e1, uMul2_e2, okS_i, okS_s, List.zip_cons_cons, List.zip_nil_left, List.drop_zero, List.drop_succ_cons, List.drop_nil, putF_nil, putF_cons, eq_self, tDNewK, tB, Option.isSome_some, Option.isSome_none, false_and, false_or, or_false, exists_false, Int.zero_add, uLc, wipe, tYes, isEmpty_app, List.isEmpty_cons, List.isEmpty_nil, List.isEmpty_map, Bool.and_false, Bool.and_true, iRev, K06.lit_0, K06.lit_1, K06.lit_3, K06.lit_4, K06.fe_room_entries, K06.fe_room_words, K06.fe_room__places, K06.fe_room__least, K06.fe_entries_room, K06.fe_entries_words, K06.fe_entries__places, K06.fe_entries__least, K06.fe_words_room, K06.fe_words_entries, K06.fe_words__places, K06.fe_words__least, K06.fe__places_room, K06.fe__places_entries, K06.fe__places_words, K06.fe__places__least, K06.fe__least_room, K06.fe__least_entries, K06.fe__least_words, K06.fe__least__places, K06.fe_store_pressure, K06.fe_store_always, K06.fe_store_allocations, K06.fe_store_collections, K06.fe_store__roots, K06.fe_store__held, K06.fe_store__saved, K06.fe_pressure_store, K06.fe_pressure_always, K06.fe_pressure_allocations, K06.fe_pressure_collections, K06.fe_pressure__roots, K06.fe_pressure__held, K06.fe_pressure__saved, K06.fe_always_store, K06.fe_always_pressure, K06.fe_always_allocations, K06.fe_always_collections, K06.fe_always__roots, K06.fe_always__held, K06.fe_always__saved, K06.fe_allocations_store, K06.fe_allocations_pressure, K06.fe_allocations_always, K06.fe_allocations_collections, K06.fe_allocations__roots, K06.fe_allocations__held, K06.fe_allocations__saved, K06.fe_collections_store, K06.fe_collections_pressure, K06.fe_collections_always, K06.fe_collections_allocations, K06.fe_collections__roots, K06.fe_collections__held, K06.fe_collections__saved, K06.fe__roots_store, K06.fe__roots_pressure, K06.fe__roots_always, K06.fe__roots_allocations, K06.fe__roots_collections, K06.fe__roots__held, K06.fe__roots__saved, K06.fe__held_store, K06.fe__held_pressure, K06.fe__held_always, K06.fe__held_allocations, K06.fe__held_collections, K06.fe__held__roots, K06.fe__held__saved, K06.fe__saved_store, K06.fe__saved_pressure, K06.fe__saved_always, K06.fe__saved_allocations, K06.fe__saved_collections, K06.fe__saved__roots, K06.fe__saved__held, K06.fl_room_0, K06.lf_room_0, K06.fl_room_1, K06.lf_room_1, K06.fl_room_3, K06.lf_room_3, K06.fl_room_4, K06.lf_room_4, t11_e, uMetD.uMtD, tDGF_eq, uDGetF_e1, K06.N_is_ref, K06.N_ref_of, K06.N_reached, K06.N_words_of, K06.N_collect, K06.N_Store_init, K06.N_Store_used, K06.N_Store_exists, K06.N_Store_numbers, K06.N_Store_free_number, K06.N_Store_allocate, K06.N_Store_size, K06.N_Store_kind, K06.N_Store_get, K06.N_Store_put, K06.N_Store_slots, K06.N_Store_drop, K06.N_Store_close_up, K06.N_Space_init, K06.N_Space_press, K06.N_Space_root, K06.N_Space_set_root, K06.N_Space_hold, K06.N_Space_drop, K06.N_Space_held, K06.N_Space_all_roots, K06.N_Space_collect, K06.N_Space_collect_with, K06.N_Space_live_words, K06.N_Space_new, K06.N_Space_fitted, K06.N__law_number, K06.N__law_deeds, K06.N__law_is, K06.N__law_same, K06.N__law_place, K06.N__law_word, K06.N__law_reached, K06.N__law_total, K06.N__law_collections, K06.N__law_called, K06.N__law_kept, K06.N__law_held, K06.N__law_fresh, K06.N__law_new, K06.N__law_deed, K06.N__law_space, K06.N_law, sp_is_ref, sp_ref_of])
local macro_rules | `(tactic| walk_at "nn") => `(tactic| first | assumption | exact ne_un (by assumption) | exact ne_un (ne_un (by assumption)) | exact ne_un (ne_un (ne_un (by assumption))) | exact ne_un (ne_un (ne_un (ne_un (by assumption)))))
local macro_rules | `(tactic| walk_at "ne") => `(tactic| first | assumption | (apply Ne.symm; assumption) | exact ne_ud (by assumption) | exact Ne.symm (ne_ud (by assumption)) | exact ne_ud (ne_un (by assumption)) | exact Ne.symm (ne_ud (ne_un (by assumption))) | exact ne_ud (ne_un (ne_un (by assumption))) | exact Ne.symm (ne_ud (ne_un (ne_un (by assumption)))) | exact ne_m (by assumption) (by assumption) | exact Ne.symm (ne_m (by assumption) (by assumption)) | exact ne_n (by assumption) (by walk_at "nn") | exact Ne.symm (ne_n (by assumption) (by walk_at "nn")))
local macro_rules | `(tactic| walk_at "hp") => `(tactic| first | assumption | exact upd_same | (refine Eq.trans (upd_ne ?_) ?_; (focus walk_at "ne"); walk_at "hp"))
local macro_rules | `(tactic| walk_at "sc") => `(tactic| first | (with_reducible assumption) | omega | exact le_line (by (try simp only [List.length_map, List.length_append, List.length_cons, List.length_nil, S_len]); omega) | exact div_s (by omega) | exact mul_r (by omega) | exact mul_l (by omega) | exact pow_s (by omega) | exact mul2_r (by omega) | exact mul2_l (by omega) | exact small4300 (by omega) | exact lt_line (by (try simp only [List.length_map, List.length_append, List.length_cons, List.length_nil, S_len]); omega) | exact ⟨_, by assumption⟩ | (guard_target =~ Exists _; exact ⟨_, .of (by walk_at "hp")⟩) | (guard_target =~ _ ∨ _; exact .inl ⟨_, by assumption⟩) | (guard_target =~ _ ∨ _; exact .inl ⟨_, .of (by walk_at "hp")⟩) | (guard_target =~ _ ∨ _; exact .inr (.inr (.inl ⟨rfl, .inl ⟨_, by walk_at "hp"⟩⟩))) | decide)
local macro_rules | `(tactic| walk_at "kr") => `(tactic| first | (guard_target =~ _ ∧ _; first | refine And.intro (by walk_at "sc") ?_) | (guard_target =~ KW.uIx _ _ _ _ _; first | refine ix_l (by walk_at "hp") (by first | walk_at "hv" | rfl) ?_ | refine ix_t (by walk_at "hp") (by first | walk_at "hv" | rfl) ?_ | refine ix_sl (by assumption) (by walk_at "hv") ?_) | (guard_target =~ KW.uLen _ _ _ _; first | refine len_l (by walk_at "hp") ?_ | refine len_t (by walk_at "hp") ?_ | refine len_sl (by assumption) ?_) | (guard_target =~ KW.uSet _ _ _ _ _; first | refine set_l (by walk_at "hp") (by first | walk_at "hv" | rfl) ?_) | (guard_target =~ L2.gTup _ _ _ _ _ _ _; first | refine tup_l (by walk_at "hp") (by rfl) ?_) | (guard_target =~ KW.uGet _ _ _ _ _; first | refine get_l (by walk_at "hp") (by walk_at "hc") (by decide) (by rfl) ?_) | (guard_target =~ KW.uPut _ _ _ _ _ _; first | refine put_l (by walk_at "hp") (by walk_at "hc") (by decide) (by simp) ?_) | (guard_target =~ KW.uMet.uMt _ _ _ _ _ _ _ _ _; first | refine met_l (by walk_at "hp") (by rfl) ?_) | (guard_target =~ KW.uMet.uMt _ _ _ _ _ _ _ _ _; first | refine ST.met_s (by assumption) (by decide) ?_) | (guard_target =~ ST.spExists _ _ _ _ _; first | refine ST.exists_s (by assumption) ?_) | (guard_target =~ ST.spUsed _ _ _ _ _; first | refine ST.used_s (by assumption) ?_) | (guard_target =~ KW.uGet _ _ _ _ _; first | refine ST.words_s (by assumption) (by walk_at "hc") (by decide) ?_) | (guard_target =~ KW.uDIn _ _ _ _; first | refine din_i (by walk_at "hp") ?_ | refine din_s (by walk_at "hp") ?_) | (guard_target =~ KW.uDGet _ _ _ _; first | refine dget_i (by walk_at "hp") (by walk_at "hv") ?_ | refine dget_s (by walk_at "hp") (by walk_at "hv") ?_) | (guard_target =~ KW.uDPut _ _ _ _ _; first | refine dput_i (by walk_at "hp") (by walk_at "sc") ?_ | refine dput_s (by walk_at "hp") (by walk_at "sc") ?_) | (guard_target =~ KW.uDDel _ _ _ _; first | refine ddel_i (by walk_at "hp") (by walk_at "hv") ?_ | refine ddel_s (by walk_at "hp") (by walk_at "hv") ?_) | (guard_target =~ KW.uMul2 _ _ _ _; first | refine rep_l (by walk_at "hp") (by walk_at "sc") (by walk_at "sc") (by walk_at "sc") ?_) | (guard_target =~ L2.rAppend _ _ _ _; first | refine app_l (by walk_at "hp") (by walk_at "sc") ?_) | (guard_target =~ L2.rPop _ _ _ _; first | refine pop_l (by walk_at "hp") (by walk_at "hv") ?_ | refine pops_l (by walk_at "hp") ?_) | (guard_target =~ L2.rClear _ _ _ _; first | refine clr_l (by walk_at "hp") ?_) | (guard_target =~ L2.rReverse _ _ _ _; first | refine rev_l (by walk_at "hp") ?_) | (guard_target =~ L2.rExtend _ _ _ _; first | refine ext_l (by walk_at "hp") (by walk_at "hp") (by walk_at "sc") ?_) | (guard_target =~ KW.uAdd _ _ _ _ _; first | refine ucat_l (by walk_at "hp") (by walk_at "hp") (by walk_at "sc") ?_) | (guard_target =~ KW.uSl _ _ _ _ _ _; first | refine usl_l (by walk_at "hp") ?_) | (guard_target =~ KW.uTru _ _ _ _; first | refine tru_l (by walk_at "hp") ?_ | refine tru_t (by walk_at "hp") ?_ | refine tru_d (by walk_at "hp") ?_ | refine tru_sl (by assumption) ?_) | (guard_target =~ L2.rIndex _ _ _ _ _; first | refine idx_s (by walk_at "hp") (by assumption) ?_ | refine idx_i (by walk_at "hp") (by assumption) ?_) | (guard_target =~ L2.rIn _ _ _ _ _ _; first | refine in_s (by walk_at "hp") ?_ | refine nin_s (by walk_at "hp") ?_ | refine in_i (by walk_at "hp") ?_ | refine nin_i (by walk_at "hp") ?_) | (guard_target =~ KW.uIsi _ _ _ _; first | refine isi_l (by walk_at "hp") (by decide +kernel) ?_ | refine isi_t (by walk_at "hp") (by decide +kernel) ?_ | refine isi_d (by walk_at "hp") (by decide +kernel) ?_) | (guard_target =~ KW.uList _ _ _ _; first | refine list_l (by walk_at "hp") ?_ | refine list_t (by walk_at "hp") ?_ | refine list_sl (by assumption) ?_) | (guard_target =~ KW.uDict _ _ _; first | refine dict_d (by walk_at "hp") ?_) | (guard_target =~ KW.uSorted _ _ _ _; first | refine srt_l (by walk_at "hp") ?_) | (guard_target =~ KW.uSum _ _ _ _; first | refine sum_l (by walk_at "hp") ?_) | (guard_target =~ KW.uDelC _ _ _ _; first | refine dels_l (by walk_at "hp") (by walk_at "sc") ?_) | (guard_target =~ L2.wAs _ _ _ _ _ _ _ _ _ _; first | refine as_yes (by walk_at "hx") ?_ | refine as_no (by walk_at "hx") ?_) | (guard_target =~ KW.uEf _ _ _ _ _ _ _ _ _; first | refine ef_l (by walk_at "he") (by decide) (by rfl) (by walk_at "hp") (by rfl) ?_) | (guard_target =~ KW.uIsE _ _ _ _ _ _ _; first | refine isE_r (by walk_at "he") (by walk_at "hp") (by walk_at "hk") ?_ | refine isE_t (by walk_at "he") (by walk_at "hp") (by walk_at "hk") ?_))
local macro_rules | `(tactic| walk_at "hv") => `(tactic| first | assumption)
local macro_rules | `(tactic| walk_at "kk") => `(tactic| repeat (first | walk_at "kw" | walk_at "kr"))
local macro_rules | `(tactic| walk_at "hc") => `(tactic| first | exact K06.Txt.c_Store (by assumption) | exact K06.Txt.c_Space (by assumption))
local macro_rules | `(tactic| walk_at "he") => `(tactic| first | exact K06.Txt.e_BadWord (by assumption) | exact K06.Txt.e_NoRoom (by assumption) | exact K06.Txt.e_NoNumber (by assumption) | exact K06.Txt.e_Wrong (by assumption))
local macro_rules | `(tactic| walk_at "hx") => `(tactic| first | exact K06.Txt.x_BadWord_KilnwardenError (by assumption) | exact K06.Txt.x_BadWord_NoNumber (by assumption) | exact K06.Txt.x_BadWord_NoRoom (by assumption) | exact K06.Txt.x_NoRoom_KilnwardenError (by assumption) | exact K06.Txt.x_NoRoom_NoNumber (by assumption) | exact K06.Txt.x_NoRoom_NoRoom (by assumption) | exact K06.Txt.x_NoNumber_KilnwardenError (by assumption) | exact K06.Txt.x_NoNumber_NoNumber (by assumption) | exact K06.Txt.x_NoNumber_NoRoom (by assumption) | exact K06.Txt.x_Wrong_KilnwardenError (by assumption) | exact K06.Txt.x_Wrong_NoNumber (by assumption) | exact K06.Txt.x_Wrong_NoRoom (by assumption))
local macro_rules | `(tactic| walk_at "hk") => `(tactic| first | exact K06.Txt.i_BadWord_NoNumber (by assumption) | exact K06.Txt.i_BadWord_NoRoom (by assumption) | exact K06.Txt.i_NoRoom_NoNumber (by assumption) | exact K06.Txt.i_NoRoom_NoRoom (by assumption) | exact K06.Txt.i_NoNumber_NoNumber (by assumption) | exact K06.Txt.i_NoNumber_NoRoom (by assumption) | exact K06.Txt.i_Wrong_NoNumber (by assumption) | exact K06.Txt.i_Wrong_NoRoom (by assumption))

section
variable {P : Program} {w : World} {K : Frag} {mg : Str → Option Value} {base : Heap} {a : Ads}
theorem okH_is_ref (T : Txt P w K mg a) : CalH P w K mg base 1 "is_ref" sp_is_ref := by
  refine T.d_is_ref.okHH sc_is_ref (fun vs H Q E h => ?_) (fun f cdv A outer s H vs Q E pp hc hr h => ⟨_, (pss_one (ps_ret (pe_cmpR (o_eq hr.units) (pe_op o_mod (kv 0) pe_int) pe_int (nomark _)))), ?_⟩)
  · obtain ⟨_, rfl, _⟩ := h; rfl
  · obtain ⟨x, rfl, h⟩ := h
    walk_at "kk"
    exact h
theorem okH_ref_of (T : Txt P w K mg a) : CalH P w K mg base 2 "ref_of" sp_ref_of := by
  have CH_is_ref := okH_is_ref (P := P) (w := w) (base := base) T
  refine T.d_ref_of.okHH sc_ref_of (fun vs H Q E h => ?_) (fun f cdv A outer s H vs Q E pp hc hr h => ⟨_, (pss_cons (ps_if (pt_not (kt (kcG hc CH_is_ref (hr.mono (by decide)) (pa_cons (kv 0) pa_nil))))
      (pss_one k_deadS)
      pss_nil)
      (pss_one (ps_ret (pe_op o_fdiv (kv 0) pe_int)))), ?_⟩)
  · obtain ⟨_, rfl, _⟩ := h; rfl
  · obtain ⟨x, rfl, hx, h⟩ := h
    walk_at "kk"
    try unfold sp_is_ref
    walk_at "kk"
    rw [if_neg (fun z => z hx)]
    walk_at "kk"
    exact h
theorem okH_Store_exists (T : Txt P w K mg a) : CalMH P w K mg base 1 a.Store "exists" (spExists a.Store) := by
  refine T.m_Store_exists.okH T.c_Store.cls sc_Store_exists (fun vs H Q E h => ?_) (fun f cdv A outer s H vs Q E pp hc hr h => ⟨_, (pss_one (ps_ret (pe_cmp (k_din (hu_ofH hr) (kv 1) (k_fld (kv 0) rfl))))), ?_⟩)
  · obtain ⟨_, _, _, _, _, _, _, rfl, _⟩ := h; rfl
  · obtain ⟨st, wd, pl, rm, en, B, n, rfl, ⟨⟨dx, lo, ob, l1, l2⟩, wo, ⟨kvs, pa, ok⟩, nd, nn, wp, sw, sp⟩, h⟩ := h
    walk_at "kk"
    rw [ok.isS n]
    exact h
theorem okH_Store_kind (T : Txt P w K mg a) : CalMH P w K mg base 1 a.Store "kind" (spKind a.Store) := by
  refine T.m_Store_kind.okH T.c_Store.cls sc_Store_kind (fun vs H Q E h => ?_) (fun f cdv A outer s H vs Q E pp hc hr h => ⟨_, (pss_one (ps_ret (pe_ix o_ix (k_fld (kv 0) rfl) (pe_op o_add (k_dget (hu_ofH hr) (k_fld (kv 0) rfl) (kv 1)) pe_int) (fun _ _ => rfl)))), ?_⟩)
  · obtain ⟨_, _, _, _, _, _, _, _, _, rfl, _⟩ := h; rfl
  · obtain ⟨st, wd, pl, rm, en, B, _, i, e, rfl, ⟨⟨dx, lo, ob, l1, l2⟩, wo, ⟨kvs, pa, ok⟩, nd, nn, wp, sw, sp⟩, hi, ha, rfl, h⟩ := h
    have hd := ok.at_ i e hi ha
    have hv : atI ((flat B).map V.int) ((off B i : Int) + 2) = some (.int e.k) := atI_map (i := off B i + 2) (get_kind hi)
    walk_at "kk"
    exact h
theorem okH_Store_size (T : Txt P w K mg a) : CalMH P w K mg base 1 a.Store "size" (spSize a.Store) := by
  refine T.m_Store_size.okH T.c_Store.cls sc_Store_size (fun vs H Q E h => ?_) (fun f cdv A outer s H vs Q E pp hc hr h => ⟨_, (pss_one (ps_ret (pe_ix o_ix (k_fld (kv 0) rfl) (pe_op o_add (k_dget (hu_ofH hr) (k_fld (kv 0) rfl) (kv 1)) pe_int) (fun _ _ => rfl)))), ?_⟩)
  · obtain ⟨_, _, _, _, _, _, _, _, _, rfl, _⟩ := h; rfl
  · obtain ⟨st, wd, pl, rm, en, B, _, i, e, rfl, ⟨⟨dx, lo, ob, l1, l2⟩, wo, ⟨kvs, pa, ok⟩, nd, nn, wp, sw, sp⟩, hi, ha, rfl, h⟩ := h
    have hd := ok.at_ i e hi ha
    have hv : atI ((flat B).map V.int) ((off B i : Int) + 1) = some (.int (e.s.length : Nat)) := atI_map (i := off B i + 1) (get_size hi)
    walk_at "kk"
    exact h
theorem okH_Store_slots (T : Txt P w K mg a) : CalMH P w K mg base 2 a.Store "slots" (spSlots a.Store) := by
  have MH_Store_size := okH_Store_size (P := P) (w := w) (base := base) T
  refine T.m_Store_slots.okH T.c_Store.cls sc_Store_slots (fun vs H Q E h => ?_) (fun f cdv A outer s H vs Q E pp hc hr h => ⟨_, (pss_cons (ps_set (i := 2) sc_Store_slots.nd rfl (Or.inl rfl) (pe_op o_add (k_dget (hu_ofH hr) (k_fld (kv 0) rfl) (kv 1)) (k_g T.g_HEADER)))
      (pss_one (ps_ret (pe_slice o_sl (k_fld (kv 0) rfl) (po_some (kv 2)) (po_some (pe_op o_add (kv 2) (kmG hc MH_Store_size (hr.mono (by decide)) (kv 0) (pa_cons (kv 1) pa_nil)))))))), ?_⟩)
  · obtain ⟨_, _, _, _, _, _, _, _, _, rfl, _⟩ := h; rfl
  · obtain ⟨st, wd, pl, rm, en, B, _, i, e, rfl, S, hi, ha, rfl, h⟩ := h
    obtain ⟨⟨dx, lo, ob, l1, l2⟩, wo, ⟨kvs, pa, ok⟩, nd, nn, wp, sw, sp⟩ := id S
    have hd := ok.at_ i e hi ha
    walk_at "kk"
    refine ⟨st, wd, pl, rm, en, B, _, i, e, rfl, S, hi, ha, rfl, ?_⟩
    walk_at "kk"
    intro l hl
    have ee : cutV ((flat B).map V.int) (some ((off B i : Int) + 3)) (some ((off B i : Int) + 3 + e.s.length)) = e.s.map V.int := by
      rw [show ((off B i : Int) + 3) = ((off B i + 3 : Nat) : Int) by omega, show (((off B i + 3 : Nat) : Int) + e.s.length) = ((off B i + 3 + e.s.length : Nat) : Int) by omega, cutV_nat, ← List.map_drop, ← List.map_take, show off B i + 3 + e.s.length - (off B i + 3) = e.s.length by omega, get_slots hi]
    rw [ee]
    exact h l hl
theorem okH_Store_numbers (T : Txt P w K mg a) : CalMH P w K mg base 1 a.Store "numbers" (spNumbers a.Store) := by
  refine T.m_Store_numbers.okH T.c_Store.cls sc_Store_numbers (fun vs H Q E h => ?_) (fun f cdv A outer s H vs Q E pp hc hr h => ⟨_, (pss_one (ps_ret (pe_callB (c_sortedG (colD_hot hc)) (by rfl) T.n_sorted (by decide +kernel) (pa_cons (k_fld (kv 0) rfl) pa_nil)))), ?_⟩)
  · obtain ⟨_, _, _, _, _, _, rfl, _⟩ := h; rfl
  · obtain ⟨st, wd, pl, rm, en, B, rfl, ⟨⟨dx, lo, ob, l1, l2⟩, wo, ⟨kvs, pa, ok⟩, nd, nn, wp, sw, sp⟩, hB, h⟩ := h
    obtain ⟨ns, ek, nnd, m⟩ := id ok.ks
    have hl := ok.len
    have e1 := congrArg List.length ek
    rw [List.length_map, List.length_map] at e1
    walk_at "kk"
    refine srt_d pa ek (le_line (by omega)) fun ys p h1 h2 h3 => ?_
    exact h ys p (h1.trans ((List.perm_ext_iff_of_nodup nnd (nums_nodup nd)).mpr fun x => (m x).trans mem_nums.symm)) h2 h3
theorem okH_Store_drop (T : Txt P w K mg a) : CalMH P w K mg base 1 a.Store "drop" (spDrop a.Store) := by
  refine T.m_Store_drop.okH T.c_Store.cls sc_Store_drop (fun vs H Q E h => ?_) (fun f cdv A outer s H vs Q E pp hc hr h => ⟨_, (pss_cons (k_ddel (k_fld (kv 0) rfl) (kv 1))
      (pss_one (k_sfld (kv 0) (pe_callB (c_min2H hc) (by rfl) T.n_min (by decide +kernel) (pa_cons (k_fld (kv 0) rfl) (pa_cons (kv 1) pa_nil))) rfl))), ?_⟩)
  · obtain ⟨_, _, _, _, _, _, _, _, _, rfl, _⟩ := h; rfl
  · obtain ⟨st, wd, pl, rm, en, B, _, i, e, rfl, ⟨⟨dx, lo, ob, l1, l2⟩, wo, ⟨kvs, pa, ok⟩, nd, nn, wp, sw, sp⟩, hi, ha, rfl, h⟩ := h
    have hd : (valV kvs (.inl e.n)).isSome = true := by rw [ok.at_ i e hi ha]; rfl
    have h0 := nn i e hi ha
    walk_at "kk"
    refine h _ ⟨⟨dx, min lo e.n, ?_, by omega, fun i h0 h1 => ?_⟩, ?_, ⟨_, by walk_at "hp", ok.drop nd hi ha⟩, nd.drop hi, fun j u hj ua => ?_, wp, sw, sp⟩ ((Fr.upd (by simp)).trans (Fr.upd (by simp)))
    · rw [upd_same, show min lo e.n = if e.n < lo then e.n else lo by omega]
    · rw [lv_drop nd hi ha, l2 i h0 (by omega)]
      have : ¬ i = e.n := by omega
      simp [this]
    · rw [flat_al hi]; walk_at "hp"
    · rw [get_set hi] at hj
      split at hj
      · cases hj; cases ua
      · exact nn j u hj ua
theorem okH_Store_close_up (T : Txt P w K mg a) (TB : LamX.TabB base mg a.c_Store_close_up a.p_Store_close_up) : CalMH P w K mg base 2 a.Store "close_up" (spCloseUp a.Store a.p_Store_close_up ("Store.close_up" ++ ".<locals>." ++ "<lambda>")) := by
  refine T.m_Store_close_up.okH T.c_Store.cls sc_Store_close_up (fun vs H Q E h => ?_) (fun f A outer s H vs Q E pp hc hr h => ⟨_, (pss_cons (ps_set (i := 1) sc_Store_close_up.nd rfl (Or.inl rfl) (pe_lst pa_nil))
      (pss_cons (ps_set (i := 2) sc_Store_close_up.nd rfl (Or.inl rfl) pe_dnewK)
      (pss_cons (ps_set (i := 3) sc_Store_close_up.nd rfl (Or.inr rfl) (k_fld (kv 0) rfl))
      (pss_cons (k_forH (passes_of rfl) hc (pi_listH (k_sortLamG (i := 3) (k := 0) TB rfl (hr.mono (by decide)) (colD_hot hc) (kv 3) (by rfl) T.n_sorted rfl rfl rfl (fun _ _ _ _ _ _ => rfl) rfl rfl rfl (by decide +kernel) rfl rfl (by decide +kernel))) (pg_name (i := 4) sc_Store_close_up.nd rfl (Or.inl rfl))
      (pss_cons (ps_set (i := 5) sc_Store_close_up.nd rfl (Or.inl rfl) (k_dget (hu_ofH hr) (kv 3) (kv 4)))
      (pss_cons (k_dput (hu_ofH hr) (kv 2) (kv 4) (pe_callB c_len (by rfl) T.n_len (by decide +kernel) (pa_cons (kv 1) pa_nil)))
      (pss_one (ps_expr (pe_bm PySem.F.plainAttrs_list PySem.F.slot_list_extend PySem.F.type_list_extend mt_extend (kv 1) (pa_cons (pe_slice o_sl (k_fld (kv 0) rfl) (po_some (kv 5)) (po_some (pe_op o_add (pe_op o_add (kv 5) (k_g T.g_HEADER)) (pe_ix o_ix (k_fld (kv 0) rfl) (pe_op o_add (kv 5) pe_int) (fun _ _ => rfl))))) pa_nil)))))))
      (pss_cons (k_sfld (kv 0) (kv 1) rfl)
      (pss_one (k_sfld (kv 0) (kv 2) rfl))))))), ?_⟩)
  · obtain ⟨_, _, _, _, _, _, rfl, _⟩ := h; rfl
  · obtain ⟨st, wd, pl, rm, en, B, rfl, ⟨⟨dx, lo, ob, l1, l2⟩, wo, ⟨kvs, pa, ok⟩, nd, nn, wp, sw, sp⟩, hT, hB, h⟩ := h
    generalize hP : a.p_Store_close_up = P0 at hT h
    have nst : st ≠ P0 := hT.ne ob fun ps z => by cases z
    have nwd : wd ≠ P0 := hT.ne wo fun ps z => by cases z
    have npl : pl ≠ P0 := hT.ne pa fun ps z => by cases z
    have lB := len_flat B
    walk_at "kk"
    intro p hp r hr0
    have rp : r ≠ p := by walk_at "ne"
    have pst : p ≠ st := by walk_at "ne"
    have ppl : p ≠ pl := by walk_at "ne"
    have pwd : p ≠ wd := by walk_at "ne"
    have rst : r ≠ st := by walk_at "ne"
    have rpl : r ≠ pl := by walk_at "ne"
    have rwd : r ≠ wd := by walk_at "ne"
    have hr1 : H r = none := by walk_at "nn"
    have pP : p ≠ P0 := fun z => by obtain ⟨ps, e, _⟩ := hT; rw [z, e] at hp; cases hp
    have rP : r ≠ P0 := fun z => by obtain ⟨ps, e, _⟩ := hT; rw [z, e] at hr1; cases hr1
    walk_at "kk"
    obtain ⟨ns, ek, nnd, mem⟩ := id ok.ks
    have e1 := congrArg List.length ek
    rw [List.length_map, List.length_map] at e1
    have kl := ok.len
    obtain ⟨pv, hpv⟩ : ∃ pv : Int → Int, pv = fun n => match valV kvs (.inl n) with | some (.int p) => p | _ => 0 := ⟨_, rfl⟩
    have pvo : ∀ (i : Nat) (e : Blk), B[i]? = some e → e.al = true → pv e.n = (off B i : Nat) := fun i e hi ha => by rw [hpv]; dsimp only; rw [ok.at_ i e hi ha]
    refine ⟨pl, kvs, ns, pv, rfl, rfl, by walk_at "hp", ek, le_line (by omega), fun n hn => ?_, (hT.add hp).add hr0, fun H2 ys l f2 hT2 hl h1 h2 => ?_⟩
    · obtain ⟨i, e, hi, ha, rfl⟩ := lv_iff.mp ((mem n).mp hn)
      rw [ok.at_ i e hi ha, pvo i e hi ha]
    have hy : ys = nums B := by_uniq pvo (h1.trans ((List.perm_ext_iff_of_nodup nnd (nums_nodup nd)).mpr fun x => (mem x).trans mem_nums.symm)) h2
    subst hy
    have a1 := f2 st _ (by simpa using nst) (show upd (upd H p (.lst [])) r (.dK []) st = _ by walk_at "hp")
    have a2 := f2 wd _ (by simpa using nwd) (show upd (upd H p (.lst [])) r (.dK []) wd = _ by walk_at "hp")
    have a3 := f2 pl _ (by simpa using npl) (show upd (upd H p (.lst [])) r (.dK []) pl = _ by walk_at "hp")
    have a4 := f2 p _ (by simpa using pP) (show upd (upd H p (.lst [])) r (.dK []) p = some (.lst []) by walk_at "hp")
    have a5 := f2 r _ (by simpa using rP) (show upd (upd H p (.lst [])) r (.dK []) r = some (.dK []) by walk_at "hp")
    have fr0 : KW.Fr [P0] H H2 := ((Fr.new hp).trans (Fr.new hr0)).trans f2
    have n1 : st ≠ l := ne_of_none a1 hl
    have n2 : wd ≠ l := ne_of_none a2 hl
    have n3 : pl ≠ l := ne_of_none a3 hl
    have n4 : p ≠ l := ne_of_none a4 hl
    have n5 : r ≠ l := ne_of_none a5 hl
    have lP : l ≠ P0 := fun z => by obtain ⟨ps, e, _⟩ := hT2; rw [z, e] at hl; cases hl
    have hT3 := hT2.add (o' := .lst ((nums B).map V.int)) hl
    have b1 : upd H2 l (.lst ((nums B).map V.int)) st = some (.ins a.Store dx [("room", .int rm), ("entries", .int en), ("words", .ref wd), ("_places", .ref pl), ("_least", .int lo)]) := by walk_at "hp"
    have b2 : upd H2 l (.lst ((nums B).map V.int)) wd = some (.lst ((flat B).map V.int)) := by walk_at "hp"
    have b3 : upd H2 l (.lst ((nums B).map V.int)) pl = some (.dK kvs) := by walk_at "hp"
    have b4 : upd H2 l (.lst ((nums B).map V.int)) p = some (.lst []) := by walk_at "hp"
    have b5 : upd H2 l (.lst ((nums B).map V.int)) r = some (.dK []) := by walk_at "hp"
    have b6 : upd H2 l (.lst ((nums B).map V.int)) l = some (.lst ((nums B).map V.int)) := upd_same
    have fr1 : KW.Fr [P0] H (upd H2 l (.lst ((nums B).map V.int))) := fr0.trans (Fr.new hl)
    revert hT3 b1 b2 b3 b4 b5 b6 fr1
    generalize upd H2 l (.lst ((nums B).map V.int)) = H3
    intro hT3 b1 b2 b3 b4 b5 b6 fr1
    obtain ⟨G, hG⟩ : ∃ G, G = alv B := ⟨_, rfl⟩
    have nG : nums B = G.map fun e => e.n := by rw [hG]; exact nums_alv B
    have NG : Nd G := by rw [hG]; exact nd.alv
    have mG : ∀ (i : Nat) (e : Blk), G[i]? = some e → ∃ j : Nat, B[j]? = some e ∧ e.al = true := fun i e h => by rw [hG] at h; exact mem_alv h
    have lG : G.length ≤ B.length := by rw [hG]; exact List.length_filter_le _ _
    have fG : (flat G).length ≤ (flat B).length := by rw [hG]; exact flat_le
    rw [nG, List.map_map] at b6
    walk_at "kk"
    generalize hD : ({ nx := _, rt := Q } : Ends) = D
    obtain ⟨Pv, hPv⟩ : ∃ Pv : Nat → L2.St → Hp → Prop, Pv = fun i σ H' => ∃ kv2 v4 v5, σ = [some (.ref st), some (.ref p), some (.ref r), some (.ref pl), v4, v5] ∧ H' st = some (.ins a.Store dx [("room", .int rm), ("entries", .int en), ("words", .ref wd), ("_places", .ref pl), ("_least", .int lo)]) ∧ H' wd = some (.lst ((flat B).map V.int)) ∧ H' pl = some (.dK kvs) ∧ H' p = some (.lst ((flat (G.take i)).map V.int)) ∧ H' r = some (.dK kv2) ∧ PlOk kv2 (G.take i) ∧ H' l = some (.lst (G.map (V.int ∘ fun e => e.n))) ∧ KW.Fr [P0] H H' ∧ LamX.TabS H' P0 ("Store.close_up" ++ ".<locals>." ++ "<lambda>") := ⟨_, rfl⟩
    refine for_lst (xs := G.map (V.int ∘ fun e => e.n)) Pv (by rw [hPv]; exact ⟨[], _, _, rfl, b1, b2, b3, b4, b5, .nil, b6, fr1, hT3⟩) ?_ ?_ ?_
    · intro i σ H' _ hp
      rw [hPv] at hp
      obtain ⟨kv2, v4, v5, -, -, -, -, -, -, -, h8, -⟩ := hp
      exact .of h8
    · intro i x σ H' hx hp
      rw [hPv] at hp
      obtain ⟨kv2, v4, v5, rfl, h1, h2, h3, h4, h5, h6, h8, h9, h10⟩ := hp
      rw [List.getElem?_map] at hx
      obtain ⟨e, hy, rfl⟩ := Option.map_eq_some_iff.mp hx
      obtain ⟨j, hj, ha⟩ := mG i e hy
      have et : G.take (i + 1) = G.take i ++ [e] := by rw [List.take_add_one, hy]; rfl
      have lt := lv_take NG hy ha
      have hd := ok.at_ j e hj ha
      have oj := off_add hj
      have ki := h6.len
      have hfl := flat_take_le (B := G) i
      have hfl2 := flat_take_le (B := G) (i + 1)
      rw [et, flat_app, List.length_append, flat_cons, List.length_append, Blk.ws_len] at hfl2
      rw [List.length_take] at ki
      have hv : atI ((flat B).map V.int) ((off B j : Int) + 1) = some (.int (e.s.length : Nat)) := atI_map (i := off B j + 1) (get_size hj)
      simp only [Function.comp]
      walk_at "kk"
      intro t1 ht1
      have ec : cutV ((flat B).map V.int) (some ((off B j : Nat) : Int)) (some ((off B j : Int) + 3 + e.s.length)) = e.ws.map V.int := by
        rw [show ((off B j : Int) + 3 + e.s.length) = ((off B j + (e.s.length + 3) : Nat) : Int) by omega, cutV_nat, ← List.map_drop, ← List.map_take, show off B j + (e.s.length + 3) - off B j = e.s.length + 3 by omega, get_ws hj]
      rw [ec]
      have ht1' : H' t1 = none := by walk_at "nn"
      have u1 : t1 ≠ st := ne_n h1 ht1'
      have u2 : t1 ≠ wd := ne_n h2 ht1'
      have u3 : t1 ≠ pl := ne_n h3 ht1'
      have u4 : t1 ≠ p := ne_n h4 ht1'
      have u5 : t1 ≠ r := ne_n h5 ht1'
      have u6 : t1 ≠ l := ne_n h8 ht1'
      refine ext_l (xs := (flat (G.take i)).map V.int) (zs := e.ws.map V.int) (by walk_at "hp") (by walk_at "hp") (le_line (by simp only [List.length_map, Blk.ws_len]; omega)) ?_
      rw [hPv]
      refine ⟨_, _, _, rfl, by walk_at "hp", by walk_at "hp", by walk_at "hp", ?_, by walk_at "hp", ?_, by walk_at "hp", fun b o hb hH => ?_, ?_⟩
      · rw [upd_same, et, flat_app, flat_cons, ← List.map_append]; simp [flat_nil]
      · rw [et]; exact h6.app ha lt
      · have b1 : b ≠ p := ne_of_none hH hp
        have b2 : b ≠ r := ne_of_none hH hr1
        have hb2 := h9 b o hb hH
        have b3 : b ≠ t1 := ne_of_none hb2 ht1'
        walk_at "hp"
      · refine LamX.TabS.upd (LamX.TabS.add (LamX.TabS.upd h10 h5 pln_dK) ht1) (o := .lst ((flat (G.take i)).map V.int)) (by walk_at "hp") pln_lst
    · intro σ H' hpp
      rw [hPv] at hpp
      obtain ⟨kv2, v4, v5, rfl, h1, h2, h3, h4, h5, h6, h8, h9, h10⟩ := hpp
      rw [List.length_map, List.take_length] at h4 h6
      subst hD
      walk_at "kk"
      refine h _ p r ⟨⟨dx, lo, upd_same, l1, fun i h0 h1 => ?_⟩, ?_, ⟨kv2, by walk_at "hp", ?_⟩, nd.alv, fun i e hi ha => ?_, rp.symm, pst.symm, rst.symm⟩ hp hr1 (fun b o hb hH => ?_) (LamX.TabS.upd h10 h1 pln_ins)
      · rw [lv_alv]; exact l2 i h0 h1
      · rw [hG] at h4; walk_at "hp"
      · rw [← hG]; exact h6
      · obtain ⟨j, hj, _⟩ := mem_alv hi
        exact nn j e hj ha
      · simp only [List.mem_cons, List.not_mem_nil, or_false, not_or] at hb
        rw [upd_ne hb.1]
        exact h9 b o (by simp [hb.2]) hH
theorem okH_reached (T : Txt P w K mg a) : CalH P w K mg base 3 "reached" (spReached a.Store) := by
  have CH_is_ref := okH_is_ref (P := P) (w := w) (base := base) T
  have CH_ref_of := okH_ref_of (P := P) (w := w) (base := base) T
  have MH_Store_exists := okH_Store_exists (P := P) (w := w) (base := base) T
  have MH_Store_kind := okH_Store_kind (P := P) (w := w) (base := base) T
  have MH_Store_slots := okH_Store_slots (P := P) (w := w) (base := base) T
  refine T.d_reached.okHH sc_reached (fun vs H Q E h => ?_) (fun f cdv A outer s H vs Q E pp hc hr h => ⟨_, (pss_cons (ps_set (i := 2) sc_reached.nd rfl (Or.inl rfl) pe_dnewK)
      (pss_cons (k_setLcH (i := 3) (own := [("word", 4)]) (g := gName 4) hc sc_reached.nd rfl rfl (sw_true rfl rfl rfl (by decide +kernel)) (pi_listH (kv 1)) (blkOk_by (own := [("word", 4)]) (N := ["store", "roots", "found", "waiting", "word", "number"]) (sc := defScope s_reached) (by decide +kernel)) (fun _ _ _ _ _ => pg_name (i := 4) sc_reached.nd rfl (Or.inl rfl)) (fun _ _ _ _ _ => by exact pts_one (ktK K (kcG hc CH_is_ref (hr.mono (by decide)) (pa_cons (kv 4) pa_nil)))) (fun _ _ _ _ _ => by exact (kcG hc CH_ref_of (hr.mono (by decide)) (pa_cons (kv 4) pa_nil))))
      (pss_cons (k_while (passes_of rfl) (kt (kv 3))
      (pss_cons (ps_set (i := 5) sc_reached.nd rfl (Or.inl rfl) (pe_bm0 PySem.F.plainAttrs_list PySem.F.slot_list_pop PySem.F.type_list_pop mt_pop (kv 3)))
      (pss_one (ps_if (PW.pt (pw_and (pt_cmp (k_dnotin (hu_ofH hr) (kv 5) (kv 2))) (pw_and1 (kt (kmG hc MH_Store_exists (hr.mono (by decide)) (kv 0) (pa_cons (kv 5) pa_nil))))))
      (pss_cons (k_dput (hu_ofH hr) (kv 2) (kv 5) pe_bl)
      (pss_one (k_forH (passes_of rfl) hc (pi_listH (pe_op o_add (pe_lst (pa_cons (kmG hc MH_Store_kind (hr.mono (by decide)) (kv 0) (pa_cons (kv 5) pa_nil)) pa_nil)) (kmG hc MH_Store_slots (hr.mono (by decide)) (kv 0) (pa_cons (kv 5) pa_nil)))) (pg_name (i := 4) sc_reached.nd rfl (Or.inl rfl))
      (pss_one (ps_if (PW.pt (pw_and (kt (kcG hc CH_is_ref (hr.mono (by decide)) (pa_cons (kv 4) pa_nil))) (pw_and1 (pt_cmp (k_dnotin (hu_ofH hr) (kcG hc CH_ref_of (hr.mono (by decide)) (pa_cons (kv 4) pa_nil)) (kv 2))))))
      (pss_one (ps_expr (pe_bm PySem.F.plainAttrs_list PySem.F.slot_list_append PySem.F.type_list_append mt_append (kv 3) (pa_cons (kcG hc CH_ref_of (hr.mono (by decide)) (pa_cons (kv 4) pa_nil)) pa_nil))))
      pss_nil)))))
      pss_nil))))
      (pss_one (ps_ret (kv 2)))))), ?_⟩)
  · obtain ⟨_, _, _, _, _, _, _, _, rfl, _⟩ := h; rfl
  · obtain ⟨st, wd, pl, rt, rm, en, B, R, rfl, S, hR, hB, hRl, h⟩ := h
    walk_at "kk"
    intro p hp
    walk_at "kk"
    refine lc_ii (fun w => if w % 2 = 0 then some (w / 2) else none) (.of (by walk_at "hp")) (lt_line (by omega)) ?_ ?_
    · intro i x D acc Cy Cn hx hD h1 h2
      walk_at "kw"
      by_cases c : x % 2 = 0
      · have h1 := h1 (x / 2) (if_pos c)
        simp only [c, decide_true]
        exact ⟨trivial, h1⟩
      · have h2 := h2 (if_neg c)
        simp only [c, decide_false]
        exact h2
    intro q hq
    have q0 : H q = none := by walk_at "nn"
    have qp : q ≠ p := by walk_at "ne"
    have nq : q ∉ fpS st wd pl := notin_of q0 S.there
    have np : p ∉ fpS st wd pl := notin_of hp S.there
    simp only [List.mem_cons, List.not_mem_nil, or_false, not_or] at nq np
    obtain ⟨nq1, nq2, nq3⟩ := nq
    obtain ⟨np1, np2, np3⟩ := np
    obtain ⟨W, hW⟩ : ∃ W : Nat → L2.St → Hp → Prop, W = fun m σ H' => ∃ F Wt kvs v1 v2, σ = [some (.ref st), some (.ref rt), some (.ref p), some (.ref q), v1, v2] ∧ m = Wt.length + pot F B ∧ m ≤ 3000001 ∧ DI B R F Wt ∧ Fnd kvs F ∧ H' p = some (.dK kvs) ∧ H' q = some (.lst (Wt.map .int)) ∧ KW.Fr [] H H' := ⟨_, rfl⟩
    refine ⟨W, ⟨_, by rw [hW]; exact ⟨[], refs R, [], none, none, rfl, rfl, (by have := pot_flat [] B; have := refs_len R; omega), .init B R, .nil, by walk_at "hp", upd_same, (Fr.new hp).trans (Fr.new hq)⟩⟩, ?_⟩
    intro m σ H' hw
    rw [hW] at hw
    obtain ⟨F, Wt, kvs, v1, v2, rfl, rfl, hm, D, hF, hp', hq', fr⟩ := hw
    have S1 := S.fr0 fr
    rcases List.eq_nil_or_concat Wt with rfl | ⟨W', n, rfl⟩
    · walk_at "kk"
      exact h p F kvs H' hp fr hp' hF D.nd (D.done S.nd)
    · rw [List.concat_eq_append] at hm D hq' ⊢
      rw [List.map_append] at hq'
      have S2 : Sto a.Store (upd H' q (.lst (W'.map V.int))) st wd pl rm en B := S1.fr (l := [q]) (Fr.upd (by simp)) (by simp [Ne.symm nq1]) (by simp [Ne.symm nq2]) (by simp [Ne.symm nq3])
      have fr2 : KW.Fr [] H (upd H' q (.lst (W'.map V.int))) := fun b o hb hH => by
        have : b ≠ q := by walk_at "ne"
        rw [upd_ne this]; exact fr b o hb hH
      walk_at "kk"
      rw [hF.mem n]
      by_cases c : n ∈ F
      · rw [decide_eq_true c]
        walk_at "kk"
        rw [hW]
        refine ⟨_, ?_, F, W', kvs, _, _, rfl, rfl, ?_, D.skip (.inl c), hF, by walk_at "hp", upd_same, fr2⟩
        · simp
        · simp at hm; omega
      rw [decide_eq_false c]
      walk_at "kk"
      cases el : lv B n with
      | false =>
        walk_at "kk"
        rw [hW]
        refine ⟨_, ?_, F, W', kvs, _, _, rfl, rfl, ?_, D.skip (.inr el), hF, by walk_at "hp", upd_same, fr2⟩
        · simp
        · simp at hm; omega
      | true =>
        obtain ⟨i, e, hi, ha, rfl⟩ := lv_iff.mp el
        have kl := hF.len
        have fl := rch_len D.nd D.sF
        have lf := len_flat B
        walk_at "kk"
        have S3 : Sto a.Store (upd (upd H' q (.lst (W'.map V.int))) p (.dK (putK kvs (.inl e.n) (.bl true)))) st wd pl rm en B := S2.fr (l := [p]) (Fr.upd (by simp)) (by simp [Ne.symm np1]) (by simp [Ne.symm np2]) (by simp [Ne.symm np3])
        have hF3 := hF.put c
        have fr3 : KW.Fr [] H (upd (upd H' q (.lst (W'.map V.int))) p (.dK (putK kvs (.inl e.n) (.bl true)))) := fun b o hb hH => by
          have : b ≠ p := by walk_at "ne"
          rw [upd_ne this]; exact fr2 b o hb hH
        have p3 : upd (upd H' q (.lst (W'.map V.int))) p (.dK (putK kvs (.inl e.n) (.bl true))) p = some (.dK (putK kvs (.inl e.n) (.bl true))) := by walk_at "hp"
        have q3 : upd (upd H' q (.lst (W'.map V.int))) p (.dK (putK kvs (.inl e.n) (.bl true))) q = some (.lst (W'.map V.int)) := by walk_at "hp"
        revert S3 hF3 fr3 p3 q3
        generalize upd (upd H' q (.lst (W'.map V.int))) p (.dK (putK kvs (.inl e.n) (.bl true))) = H3
        generalize putK kvs (.inl e.n) (.bl true) = kvs3
        intro S3 hF3 fr3 p3 q3
        walk_at "kk"
        refine kind_s S3 hi ha rfl ?_
        walk_at "kk"
        intro t1 ht1
        have S4 := S3.new (o := .lst [.int e.k]) ht1
        walk_at "kk"
        refine slots_s S4 hi ha rfl fun t2 ht2 => ?_
        have o3 := off_add hi
        refine ucat_l (xs := [.int e.k]) (zs := e.s.map V.int) (by walk_at "hp") (by walk_at "hp") (le_line (by simp only [List.length_map, List.length_cons, List.length_nil]; omega)) fun t3 ht3 => ?_
        walk_at "kk"
        generalize hU : (fun σ' H' => ∃ m', m' < W'.length + 1 + pot F B ∧ W m' σ' H' : L2.St → Hp → Prop) = U
        have x1 : t1 ≠ p := by walk_at "ne"
        have x2 : t1 ≠ q := by walk_at "ne"
        have x3 : t2 ≠ p := by walk_at "ne"
        have x4 : t2 ≠ q := by walk_at "ne"
        have x5 : t3 ≠ p := by walk_at "ne"
        have x6 : t3 ≠ q := by walk_at "ne"
        have fr5 : KW.Fr [] H (upd (upd (upd H3 t1 (.lst [.int e.k])) t2 (.lst (e.s.map .int))) t3 (.lst (.int e.k :: e.s.map .int))) := fr3.trans ((Fr.new ht1).trans ((Fr.new ht2).trans (Fr.new ht3)))
        have p5 : upd (upd (upd H3 t1 (.lst [.int e.k])) t2 (.lst (e.s.map .int))) t3 (.lst (.int e.k :: e.s.map .int)) p = some (.dK kvs3) := by walk_at "hp"
        have q5 : upd (upd (upd H3 t1 (.lst [.int e.k])) t2 (.lst (e.s.map .int))) t3 (.lst (.int e.k :: e.s.map .int)) q = some (.lst (W'.map V.int)) := by walk_at "hp"
        have t5 : upd (upd (upd H3 t1 (.lst [.int e.k])) t2 (.lst (e.s.map .int))) t3 (.lst (.int e.k :: e.s.map .int)) t3 = some (.lst ((e.k :: e.s).map V.int)) := upd_same
        revert fr5 p5 q5 t5
        generalize upd (upd (upd H3 t1 (.lst [.int e.k])) t2 (.lst (e.s.map .int))) t3 (.lst (.int e.k :: e.s.map .int)) = H5
        intro fr5 p5 q5 t5
        have ee : V.int e.k :: e.s.map V.int = (e.k :: e.s).map V.int := rfl
        generalize hwl : e.k :: e.s = wl at t5
        have wll : wl.length = e.s.length + 1 := by rw [← hwl]; rfl
        obtain ⟨fx, hfx⟩ : ∃ fx : Int → Option Int, fx = fun w => if w % 2 = 0 ∧ w / 2 ∉ F ++ [e.n] then some (w / 2) else none := ⟨_, rfl⟩
        refine for_lst (xs := wl.map V.int) (fun i σ H' => ∃ v1, σ = [some (.ref st), some (.ref rt), some (.ref p), some (.ref q), v1, some (.int e.n)] ∧ H' p = some (.dK kvs3) ∧ H' q = some (.lst ((W' ++ (wl.take i).filterMap fx).map V.int)) ∧ H' t3 = some (.lst (wl.map V.int)) ∧ KW.Fr [] H H') ⟨_, rfl, p5, by simpa using q5, t5, fr5⟩ ?_ ?_ ?_
        · rintro i σ H' - ⟨v1, -, -, -, h, -⟩
          exact .of h
        · rintro i x σ H' hx ⟨v1, rfl, p6, q6, t6, fr6⟩
          rw [List.getElem?_map] at hx
          obtain ⟨y, hy, rfl⟩ := Option.map_eq_some_iff.mp hx
          have et : wl.take (i + 1) = wl.take i ++ [y] := by rw [List.take_add_one, hy]; rfl
          have hl : ((wl.take i).filterMap fx).length ≤ wl.length := Nat.le_trans (List.length_filterMap_le _ _) (by rw [List.length_take]; omega)
          simp at hm
          have hfy : fx y = if y % 2 = 0 ∧ y / 2 ∉ F ++ [e.n] then some (y / 2) else none := by rw [hfx]
          walk_at "kk"
          by_cases c2 : y % 2 = 0
          · rw [if_pos c2]
            refine ⟨c2, din_i p6 ?_⟩
            rw [hF3.mem]
            by_cases c3 : y / 2 ∈ F ++ [e.n]
            · rw [decide_eq_true c3]
              walk_at "kk"
              rw [if_neg (fun z => z.2 c3)] at hfy
              exact ⟨by rw [et, List.filterMap_append]; simpa [hfy] using q6, t6, fr6⟩
            · rw [decide_eq_false c3]
              walk_at "kk"
              rw [if_pos ⟨c2, c3⟩] at hfy
              refine ⟨by walk_at "hp", ?_, by walk_at "hp", fun b o hb hH => ?_⟩
              · rw [upd_same, et, List.filterMap_append]
                simp [hfy]
              · have : b ≠ q := by walk_at "ne"
                rw [upd_ne this]; exact fr6 b o hb hH
          · rw [if_neg c2]
            rw [if_neg (fun z => c2 z.1)] at hfy
            exact ⟨p6, by rw [et, List.filterMap_append]; simpa [hfy] using q6, t6, fr6⟩
        · rintro σ H' ⟨v1, rfl, p6, q6, t6, fr6⟩
          subst hU
          rw [List.length_map, List.take_length] at q6
          rw [hW]
          have x1 : ∀ m ∈ wl.filterMap fx, m ∈ refs wl := fun m hm => by
            obtain ⟨w, h1, h2⟩ := List.mem_filterMap.mp hm
            rw [hfx] at h2
            dsimp only at h2
            split at h2
            · rename_i c2; cases h2; exact mem_refs.mpr ⟨w, h1, c2.1, rfl⟩
            · cases h2
          have x2 : ∀ m ∈ refs wl, m ∈ F ++ [e.n] ∨ m ∈ wl.filterMap fx := fun m hm => by
            obtain ⟨w, h1, h2, rfl⟩ := mem_refs.mp hm
            by_cases c2 : w / 2 ∈ F ++ [e.n]
            · exact .inl c2
            · exact .inr (List.mem_filterMap.mpr ⟨w, h1, by rw [hfx]; exact if_pos ⟨h2, c2⟩⟩)
          have x3 := pot_lt hi ha c
          have x4 : (wl.filterMap fx).length ≤ wl.length := List.length_filterMap_le _ _
          simp at hm
          subst hwl
          exact ⟨_, by simp; omega, F ++ [e.n], _, kvs3, v1, _, rfl, rfl, by simp; omega, D.take S.nd hi ha c x1 x2, hF3, p6, q6, fr6⟩
theorem okH_collect_collecting (T : Txt P w K mg a) (TB : LamX.TabB base mg a.c_Store_close_up a.p_Store_close_up) : CalH P w K mg base 4 "collect_collecting" (spCollect a.Store a.p_Store_close_up ("Store.close_up" ++ ".<locals>." ++ "<lambda>")) := by
  have CH_reached := okH_reached (P := P) (w := w) (base := base) T
  have MH_Store_numbers := okH_Store_numbers (P := P) (w := w) (base := base) T
  have MH_Store_drop := okH_Store_drop (P := P) (w := w) (base := base) T
  have MH_Store_close_up := okH_Store_close_up (P := P) (w := w) (base := base) T TB
  refine T.d_collect_collecting.okHH sc_collect (fun vs H Q E h => ?_) (fun f cdv A outer s H vs Q E pp hc hr h => ⟨_, (pss_cons (ps_set (i := 2) sc_collect.nd rfl (Or.inr rfl) (kcG hc CH_reached (hr.mono (by decide)) (pa_cons (kv 0) (pa_cons (kv 1) pa_nil))))
      (pss_cons (k_setLcH (i := 3) (own := [("number", 4)]) (g := gName 4) hc sc_collect.nd rfl rfl (sw_true rfl rfl rfl (by decide +kernel)) (pi_listH (km0G hc MH_Store_numbers (hr.mono (by decide)) (kv 0))) (blkOk_by (own := [("number", 4)]) (N := ["store", "roots", "found", "gone", "number"]) (sc := defScope s_collect) (by decide +kernel)) (fun _ _ _ _ _ => pg_name (i := 4) sc_collect.nd rfl (Or.inl rfl)) (fun _ _ _ _ _ => by exact pts_one (pt_cmp (k_dnotin (hu_ofH hr) (kv 4) (kv 2)))) (fun _ _ _ _ _ => by exact (kv 4)))
      (pss_cons (k_forH (passes_of rfl) hc (pi_listH (kv 3)) (pg_name (i := 4) sc_collect.nd rfl (Or.inl rfl))
      (pss_one (ps_expr (kmG hc MH_Store_drop (hr.mono (by decide)) (kv 0) (pa_cons (kv 4) pa_nil)))))
      (pss_cons (ps_expr (km0G hc MH_Store_close_up (hr.mono (by decide)) (kv 0)))
      (pss_one (ps_ret (pe_callB c_len (by rfl) T.n_len (by decide +kernel) (pa_cons (kv 3) pa_nil)))))))), ?_⟩)
  · obtain ⟨_, _, _, _, _, _, _, _, rfl, _⟩ := h; rfl
  · obtain ⟨st, wd, pl, rt, rm, en, B, R, rfl, S, hR, hT, hB, hRl, h⟩ := h
    generalize a.p_Store_close_up = P0 at *
    have lB := len_flat B
    walk_at "kk"
    refine reached_s S hR hB hRl fun p F kvs H1 hp f1 hk fnd ndF hF => ?_
    have S1 := S.fr0 f1
    have T1 := hT.fr0 f1
    walk_at "kk"
    refine numbers_s S1 (by omega) fun ns l q1 q2 q3 => ?_
    have f2 : KW.Fr [] H1 (upd H1 l (.lst (ns.map V.int))) := Fr.new q3
    have S2 := S1.fr0 f2
    have T2 := T1.fr0 f2
    have hk2 := f2 _ _ (by simp) hk
    have hl2 : IL (upd H1 l (.lst (ns.map V.int))) l ns := upd_same
    revert f2 S2 T2 hk2 hl2
    generalize upd H1 l (.lst (ns.map V.int)) = H2
    intro f2 S2 T2 hk2 hl2
    have nl := q1.length_eq
    have nl2 := nums_len B
    walk_at "kk"
    refine lc_ii (fun n => if (!decide (n ∈ F)) = true then some n else none) (.of hl2) (lt_line (by omega)) ?_ ?_
    · intro i x D acc Cy Cn hx hD h1 h2
      have pD : p ≠ D := ne_of_none hk2 hD
      walk_at "kk"
      rw [fnd.mem]
      by_cases c : x ∈ F
      · rw [if_neg (by simp [c])]
        exact h2 (if_neg (by simp [c]))
      · rw [if_pos (by simp [c])]
        exact h1 x (if_pos (by simp [c]))
    intro go q4
    have ef : ns.filterMap (fun n => if (!decide (n ∈ F)) = true then some n else none) = ns.filter fun n => !decide (n ∈ F) := by
      rw [fm_if (fun n => !decide (n ∈ F)) (fun n => n) ns]; simp
    rw [ef]
    have gl := gone_len ndF (fun n hn => ((hF n).mp hn).lv) S.nd q1
    have gm := fun n h => gone_iff (F := F) q1 (n := n) h
    have gnd : (ns.filter fun n => !decide (n ∈ F)).Nodup := (q1.nodup_iff.mpr (nums_nodup S.nd)).sublist List.filter_sublist
    have gle : (ns.filter fun n => !decide (n ∈ F)).length ≤ ns.length := List.length_filter_le _ _
    have gm2 : ∀ n ∈ (ns.filter fun n => !decide (n ∈ F)), lv B n = true := fun n hn => mem_nums.mp (q1.mem_iff.mp (List.mem_filter.mp hn).1)
    revert gl gm gnd gle gm2 q4
    generalize (ns.filter fun n => !decide (n ∈ F)) = D
    intro q4 gl gm gnd gle gm2
    have f3 : KW.Fr [] H2 (upd H2 go (.lst (D.map V.int))) := Fr.new q4
    have S3 := S2.fr0 f3
    have T3 := T2.fr0 f3
    have hg3 : IL (upd H2 go (.lst (D.map V.int))) go D := upd_same
    have ngo : go ∉ fpS st wd pl := notin_of q4 S2.there
    simp only [List.mem_cons, List.not_mem_nil, or_false, not_or] at ngo
    revert f3 S3 T3 hg3
    generalize upd H2 go (.lst (D.map V.int)) = H3
    intro f3 S3 T3 hg3
    have F3 : KW.Fr [] H H3 := f1.trans (f2.trans f3)
    walk_at "kk"
    generalize hD : ({ nx := _, rt := Q } : Ends) = DD
    obtain ⟨Pv, hPv⟩ : ∃ Pv : Nat → L2.St → Hp → Prop, Pv = fun i σ H' => ∃ v4, σ = [some (.ref st), some (.ref rt), some (.ref p), some (.ref go), v4] ∧ Sto a.Store H' st wd pl rm en (kill (D.take i) B) ∧ KW.Fr [st, pl] H3 H' ∧ LamX.TabS H' P0 ("Store.close_up" ++ ".<locals>." ++ "<lambda>") := ⟨_, rfl⟩
    refine for_lst (xs := D.map V.int) Pv (by rw [hPv]; exact ⟨_, rfl, by rw [List.take_zero, kill_nil]; exact S3, Fr.refl _, T3⟩) ?_ ?_ ?_
    · intro i σ H' _ hp
      rw [hPv] at hp
      obtain ⟨v4, -, -, fr, -⟩ := hp
      exact .of (fr go _ (by simp [ngo.1, ngo.2.2]) hg3)
    · intro i x σ H' hx hp
      rw [hPv] at hp
      obtain ⟨v4, rfl, S4, fr, T4⟩ := hp
      rw [List.getElem?_map] at hx
      obtain ⟨n, hy, rfl⟩ := Option.map_eq_some_iff.mp hx
      obtain ⟨j, e, hj, ha, rfl⟩ := lv_iff.mp (gm2 n (List.mem_of_getElem? hy))
      have et : D.take (i + 1) = D.take i ++ [e.n] := by rw [List.take_add_one, hy]; rfl
      have nin : e.n ∉ D.take i := fun z => by
        obtain ⟨k, hk⟩ := List.getElem?_of_mem z
        have hk2 : k < i := by
          have := (List.getElem?_eq_some_iff.mp hk).1
          rw [List.length_take] at this; omega
        rw [List.getElem?_take_of_lt hk2] at hk
        have := (List.getElem?_inj (List.getElem?_eq_some_iff.mp hk).1 gnd).mp (hk.trans hy.symm)
        omega
      obtain ⟨k1, k2⟩ := kill_set S.nd hj ha nin
      walk_at "kk"
      refine drop_s S4 k1 ha rfl fun H5 S5 f5 => ?_
      walk_at "kk"
      rw [hPv]
      rw [k2, ← et] at S5
      exact ⟨_, rfl, S5, fr.trans f5, T4.frl f5 fun y hy => S4.pln y (by simp at hy; rcases hy with rfl | rfl <;> simp)⟩
    · intro σ H' hp
      rw [hPv] at hp
      obtain ⟨v4, rfl, S4, fr, T4⟩ := hp
      subst hD
      rw [List.length_map, List.take_length] at S4
      have lk := flat_kill D B
      have hg4 := fr go _ (by simp [ngo.1, ngo.2.2]) hg3
      walk_at "kk"
      refine ⟨st, wd, pl, rm, en, kill D B, rfl, S4, T4, by rw [lk]; exact hB, fun H5 wd' pl' S5 z1 z2 f5 T5 => ?_⟩
      rw [alv_kill (F := F) (fun n hn => gm n hn)] at S5
      have F4 : KW.Fr [st, pl] H H' := (F3.mono (by simp)).trans fr
      have nP : go ≠ P0 := T4.ne hg4 fun ps z => by cases z
      have hg5 := f5 go _ (by simp [ngo.1, nP]) hg4
      have ex : ∀ y ∈ [st, pl], H' y ≠ none := fun y hy => by
        obtain ⟨o, ho⟩ := S4.there y (by simp at hy; rcases hy with rfl | rfl <;> simp)
        rw [ho]; simp
      walk_at "kk"
      rw [gl]
      exact h F H5 wd' pl' ndF hF S5 (F4.none (fun m => ex _ m z1) z1) (F4.none (fun m => ex _ m z2) z2) ((F4.mono (by simp)).trans (f5.mono fun y hy => by simp at hy ⊢; rcases hy with rfl | rfl <;> simp)) T5

end
end K06

set_option Elab.async false
set_option linter.all false
set_option maxRecDepth 100000
set_option maxHeartbeats 4000000
/-! SpT: graphs of numbers and rows; what is reached -/
namespace ST
open PySem PySem.Spec PyProof.Rows L2 KW
abbrev Gr := Int → Option (List Int)
inductive Rg (g : Gr) (R : List Int) : Int → Prop
  | root {w : Int} {r : List Int} : w ∈ R → w % 2 = 0 → g (w / 2) = some r → Rg g R (w / 2)
  | step {n w : Int} {r r' : List Int} : Rg g R n → g n = some r → w ∈ r → w % 2 = 0 → g (w / 2) = some r' → Rg g R (w / 2)
theorem Rg.some {g : Gr} {R : List Int} {n : Int} (h : Rg g R n) : ∃ r, g n = some r := by cases h <;> exact ⟨_, by assumption⟩
theorem Rg_ext {g : Gr} {R R' : List Int} (h : ∀ w, w ∈ R ↔ w ∈ R') (n : Int) : Rg g R n ↔ Rg g R' n := by
  constructor
  · intro q
    induction q with
    | root hw e hr => exact .root ((h _).mp hw) e hr
    | step h1 hr hw e hr' ih => exact .step ih hr hw e hr'
  · intro q
    induction q with
    | root hw e hr => exact .root ((h _).mpr hw) e hr
    | step h1 hr hw e hr' ih => exact .step ih hr hw e hr'
/-- a walk with a row of waiting words -/
structure DW (g : Gr) (R F W : List Int) : Prop where
  sF : ∀ n ∈ F, Rg g R n
  sW : ∀ w ∈ W, w % 2 = 0 → ∀ r, g (w / 2) = some r → Rg g R (w / 2)
  ro : ∀ w ∈ R, w % 2 = 0 → ∀ r, g (w / 2) = some r → w / 2 ∈ F ∨ w ∈ W
  cl : ∀ n ∈ F, ∀ r, g n = some r → ∀ w ∈ r, w % 2 = 0 → ∀ r', g (w / 2) = some r' → w / 2 ∈ F ∨ w ∈ W
  nd : F.Nodup
theorem DW.init (g : Gr) (R : List Int) : DW g R [] R where
  sF := fun n h => by cases h
  sW := fun w h e r hr => .root h e hr
  ro := fun w h e r hr => .inr h
  cl := fun n h => by cases h
  nd := List.nodup_nil
theorem DW.skip {g : Gr} {R F W : List Int} {w : Int} (d : DW g R F (W ++ [w])) (h : w % 2 = 0 → ∀ r, g (w / 2) = some r → w / 2 ∈ F) : DW g R F W where
  sF := d.sF
  sW := fun v hv => d.sW v (by simp [hv])
  ro := fun v hv e r hr => by
    rcases d.ro v hv e r hr with q | q
    · exact .inl q
    · rcases List.mem_append.mp q with q | q
      · exact .inr q
      · have : v = w := by simpa using q
        subst this
        exact .inl (h e r hr)
  cl := fun n hn r hr v hv e r' hr' => by
    rcases d.cl n hn r hr v hv e r' hr' with q | q
    · exact .inl q
    · rcases List.mem_append.mp q with q | q
      · exact .inr q
      · have : v = w := by simpa using q
        subst this
        exact .inl (h e r' hr')
  nd := d.nd
theorem DW.take {g : Gr} {R F W : List Int} {w : Int} {r : List Int} (d : DW g R F (W ++ [w])) (e : w % 2 = 0) (hr : g (w / 2) = some r) (hn : w / 2 ∉ F) : DW g R (F ++ [w / 2]) (W ++ r) := by
  have rw2 : Rg g R (w / 2) := d.sW w (by simp) e r hr
  refine ⟨fun n hn => ?_, fun v hv ev r' hr' => ?_, fun v hv ev r' hr' => ?_, fun n hn r1 h1 v hv ev r' hr' => ?_, ?_⟩
  · rcases List.mem_append.mp hn with q | q
    · exact d.sF n q
    · have : n = w / 2 := by simpa using q
      rw [this]; exact rw2
  · rcases List.mem_append.mp hv with q | q
    · exact d.sW v (by simp [q]) ev r' hr'
    · exact .step rw2 hr q ev hr'
  · rcases d.ro v hv ev r' hr' with q | q
    · exact .inl (by simp [q])
    · rcases List.mem_append.mp q with q | q
      · exact .inr (by simp [q])
      · have : v = w := by simpa using q
        subst this
        exact .inl (by simp)
  · rcases List.mem_append.mp hn with q | q
    · rcases d.cl n q r1 h1 v hv ev r' hr' with q | q
      · exact .inl (by simp [q])
      · rcases List.mem_append.mp q with q | q
        · exact .inr (by simp [q])
        · have : v = w := by simpa using q
          subst this
          exact .inl (by simp)
    · have : n = w / 2 := by simpa using q
      subst this
      rw [hr] at h1; cases h1
      exact .inr (by simp [hv])
  · rw [List.nodup_append]
    refine ⟨d.nd, by simp, fun a ha b hb => ?_⟩
    simp at hb; subst hb
    intro z; subst z; exact hn ha
theorem DW.done {g : Gr} {R F : List Int} (d : DW g R F []) (n : Int) : n ∈ F ↔ Rg g R n := by
  refine ⟨d.sF n, fun h => ?_⟩
  induction h with
  | root hw e hr => rcases d.ro _ hw e _ hr with q | q; exact q; cases q
  | step h1 hr hw e hr' ih => rcases d.cl _ ih _ hr _ hw e _ hr' with q | q; exact q; cases q
/-- how much may still be walked -/
def potG (g : Gr) (F : List Int) : List Int → Nat
  | [] => 0
  | n :: ks => (if n ∈ F then 0 else ((g n).getD []).length + 1) + potG g F ks
theorem potG_le (g : Gr) (F : List Int) (n : Int) : ∀ ks, potG g (F ++ [n]) ks ≤ potG g F ks
  | [] => Nat.le_refl _
  | m :: ks => by
    have := potG_le g F n ks
    unfold potG
    by_cases c : m ∈ F
    · rw [if_pos c, if_pos (by simp [c])]; omega
    · rw [if_neg c]; split <;> omega
theorem potG_lt {g : Gr} {F : List Int} {n : Int} {r : List Int} (hr : g n = some r) (hn : n ∉ F) : ∀ {ks : List Int}, n ∈ ks → potG g (F ++ [n]) ks + (r.length + 1) ≤ potG g F ks
  | [], h => by cases h
  | m :: ks, h => by
    unfold potG
    by_cases c : m = n
    · subst c
      have := potG_le g F m ks
      rw [if_pos (by simp), if_neg hn, hr]
      simp only [Option.getD_some]; omega
    · have := potG_lt hr hn (ks := ks) (by rcases List.mem_cons.mp h with q | q; exact absurd q.symm c; exact q)
      by_cases d : m ∈ F
      · rw [if_pos d, if_pos (by simp [d])]; omega
      · rw [if_neg d, if_neg (by simp [d, c])]; omega
theorem pot_bound {g : Gr} : ∀ {A : List Blk}, (∀ e ∈ A, ((g e.n).getD []).length ≤ e.s.length + 1) → potG g [] (A.map fun e => e.n) ≤ (flat A).length
  | [], _ => Nat.le_refl _
  | e :: A, h => by
    have ih := pot_bound (g := g) (A := A) fun x hx => h x (by simp [hx])
    have h1 := h e (by simp)
    rw [List.map_cons, flat_cons, List.length_append, Blk.ws_len]
    unfold potG
    rw [if_neg (by simp)]
    omega
/-! places -/
inductive Plc
  | root (k : Nat)
  | kind (n : Int)
  | slot (n : Int) (j : Nat)
def Plc.row : Plc → Int → List Int → List Int
  | .root _, _, r => r
  | .kind n, m, r => if m = n then r.set 0 0 else r
  | .slot n j, m, r => if m = n then r.set (1 + j) 0 else r
def Plc.roots : Plc → List Int → List Int
  | .root k, ws => ws.set k 0
  | _, ws => ws
def Plc.g (p : Plc) (g : Gr) : Gr := fun n => (g n).map (p.row n)
theorem Plc.row_len (p : Plc) (n : Int) (r : List Int) : (p.row n r).length = r.length := by
  cases p <;> simp only [Plc.row] <;> (try split) <;> simp
theorem Plc.roots_len (p : Plc) (r : List Int) : (p.roots r).length = r.length := by
  cases p <;> simp [Plc.roots]
theorem Plc.kind_eq (n : Int) (r : List Int) : (Plc.kind n).row n r = r.set 0 0 := if_pos rfl
theorem Plc.kind_ne {n m : Int} (r : List Int) (h : m ≠ n) : (Plc.kind m).row n r = r := if_neg (fun z => h z.symm)
theorem Plc.slot_eq (n : Int) (j : Nat) (r : List Int) : (Plc.slot n j).row n r = r.set (1 + j) 0 := if_pos rfl
theorem Plc.slot_ne {n m : Int} (j : Nat) (r : List Int) (h : m ≠ n) : (Plc.slot m j).row n r = r := if_neg (fun z => h z.symm)
theorem Plc.row_mem {p : Plc} {n w : Int} {r : List Int} (h : w ∈ p.row n r) : w ∈ r ∨ w = 0 := by
  cases p with
  | root k => exact .inl h
  | kind m =>
    simp only [Plc.row] at h
    split at h
    · exact List.mem_or_eq_of_mem_set h
    · exact .inl h
  | slot m j =>
    simp only [Plc.row] at h
    split at h
    · exact List.mem_or_eq_of_mem_set h
    · exact .inl h
theorem Plc.roots_mem {p : Plc} {w : Int} {r : List Int} (h : w ∈ p.roots r) : w ∈ r ∨ w = 0 := by
  cases p with
  | root k => exact List.mem_or_eq_of_mem_set h
  | kind m => exact .inl h
  | slot m j => exact .inl h
theorem Rg_mono {p : Plc} {g : Gr} {ws : List Int} {n : Int} (h : Rg (p.g g) (0 :: p.roots ws) n) : Rg g (0 :: ws) n := by
  have key : ∀ {w : Int} {r' : List Int}, p.g g (w / 2) = some r' → ∃ r, g (w / 2) = some r := fun h => by
    unfold Plc.g at h
    obtain ⟨r, hr, _⟩ := Option.map_eq_some_iff.mp h
    exact ⟨r, hr⟩
  induction h with
  | root hw e hr =>
    obtain ⟨r, hr⟩ := key hr
    refine .root (r := r) ?_ e hr
    rcases List.mem_cons.mp hw with q | q
    · simp [q]
    · rcases p.roots_mem q with q | q
      · simp [q]
      · simp [q]
  | @step n w r r' h1 hr hw e hr' ih =>
    obtain ⟨r2, hr2⟩ := key hr'
    unfold Plc.g at hr
    obtain ⟨r3, hr3, hr4⟩ := Option.map_eq_some_iff.mp hr
    rw [← hr4] at hw
    rcases p.row_mem hw with q | q
    · exact .step ih hr3 q e hr2
    · exact .root (r := r2) (by simp [q]) e hr2
/-! the graph of a store -/
def gB (B : List Blk) : Gr := fun n => (blkAt B n).map fun e => e.k :: e.s
theorem gB_some {B : List Blk} {n : Int} {r : List Int} (N : Nd B) : gB B n = some r ↔ ∃ (i : Nat) (e : Blk), B[i]? = some e ∧ e.al = true ∧ e.n = n ∧ e.k :: e.s = r := by
  unfold gB
  constructor
  · intro h
    obtain ⟨e, h1, h2⟩ := Option.map_eq_some_iff.mp h
    unfold blkAt at h1
    have h3 := List.find?_some h1
    obtain ⟨i, hi⟩ := List.getElem?_of_mem (List.mem_of_find?_eq_some h1)
    simp at h3
    exact ⟨i, e, hi, h3.1, h3.2, h2⟩
  · rintro ⟨i, e, hi, ha, rfl, rfl⟩
    rw [blkAt_eq N hi ha]; rfl
theorem gB_lv {B : List Blk} {n : Int} : (gB B n).isSome = lv B n := by
  apply Bool.eq_iff_iff.mpr
  unfold gB
  rw [Option.isSome_map]
  constructor
  · intro h
    obtain ⟨e, h1⟩ := Option.isSome_iff_exists.mp h
    unfold blkAt at h1
    have h3 := List.find?_some h1
    obtain ⟨i, hi⟩ := List.getElem?_of_mem (List.mem_of_find?_eq_some h1)
    simp at h3
    rw [← h3.2]; exact lv_at hi h3.1
  · intro h
    obtain ⟨i, e, h1, _⟩ := blkAt_ex h
    rw [h1]; rfl
theorem gB_at {B : List Blk} {i : Nat} {e : Blk} (N : Nd B) (h : B[i]? = some e) (ha : e.al = true) : gB B e.n = some (e.k :: e.s) := (gB_some N).mpr ⟨i, e, h, ha, rfl, rfl⟩
theorem rch_rg {B : List Blk} (N : Nd B) {R : List Int} (n : Int) : Rch B R n ↔ Rg (gB B) R n := by
  have ex : ∀ {m : Int}, lv B m = true → ∃ r, gB B m = some r := fun h => Option.isSome_iff_exists.mp (by rw [gB_lv]; exact h)
  constructor
  · intro h
    induction h with
    | root w hw e l => obtain ⟨r, hr⟩ := ex l; exact .root hw e hr
    | step i b w hi ha h1 hw e l ih => obtain ⟨r, hr⟩ := ex l; exact .step ih (gB_at N hi ha) hw e hr
  · intro h
    induction h with
    | root hw e hr => exact .root _ hw e (by rw [← gB_lv, hr]; rfl)
    | step h1 hr hw e hr' ih =>
      obtain ⟨i, b, hi, ha, rfl, rfl⟩ := (gB_some N).mp hr
      exact .step i b _ hi ha ih hw e (by rw [← gB_lv, hr']; rfl)
theorem pot_store {B : List Blk} (N : Nd B) (c : Plc) : potG (c.g (gB B)) [] (nums B) ≤ (flat B).length := by
  rw [nums_alv]
  refine Nat.le_trans (pot_bound fun e he => ?_) flat_le
  obtain ⟨i, hi⟩ := List.getElem?_of_mem he
  obtain ⟨j, hj, ha⟩ := mem_alv hi
  unfold Plc.g
  rw [gB_at N hj ha]
  simp [Plc.row_len]
theorem opt_ext {α : Type} {a b : Option α} (h : ∀ r, a = some r ↔ b = some r) : a = b := by
  cases a with
  | none => cases b with
    | none => rfl
    | some y => exact absurd ((h y).mpr rfl) (by simp)
  | some x => exact ((h x).mp rfl).symm
theorem gB_set {B : List Blk} {i : Nat} {e f : Blk} (N : Nd B) (h : B[i]? = some e) (ha : e.al = true) (h1 : f.al = e.al) (h2 : f.n = e.n) (n : Int) : gB (B.set i f) n = if n = e.n then some (f.k :: f.s) else gB B n := by
  refine opt_ext fun r => ?_
  rw [gB_some (N.set h h1 h2)]
  constructor
  · rintro ⟨j, u, hj, ua, rfl, rfl⟩
    rw [get_set h] at hj
    split at hj
    · cases hj; rw [if_pos h2]
    · rename_i c
      rw [if_neg (fun z => c (N j i u e hj h ua ha z))]
      exact gB_at N hj ua
  · intro q
    split at q
    · rename_i c; cases q
      exact ⟨i, f, by rw [get_set h, if_pos rfl], h1 ▸ ha, by rw [h2, c], rfl⟩
    · rename_i c
      obtain ⟨j, u, hj, ua, rfl, rfl⟩ := (gB_some N).mp q
      refine ⟨j, u, ?_, ua, rfl, rfl⟩
      rw [get_set h, if_neg]; exact hj
      intro z; subst z; rw [h] at hj; cases hj; exact c rfl
theorem gB_app {B : List Blk} {e : Blk} (N : Nd B) (ha : e.al = true) (hn : lv B e.n = false) (n : Int) : gB (B ++ [e]) n = if n = e.n then some (e.k :: e.s) else gB B n := by
  refine opt_ext fun r => ?_
  rw [gB_some (N.app fun _ => hn)]
  constructor
  · rintro ⟨j, u, hj, ua, rfl, rfl⟩
    rw [List.getElem?_append] at hj
    split at hj
    · rw [if_neg, gB_at N hj ua]
      intro z; rw [← z, lv_at hj ua] at hn; cases hn
    · have : u = e := by
        have := List.mem_of_getElem? hj
        simpa using this
      subst this; rw [if_pos rfl]
  · intro q
    split at q
    · rename_i c; cases q
      exact ⟨B.length, e, by simp, ha, c.symm, rfl⟩
    · obtain ⟨j, u, hj, ua, rfl, rfl⟩ := (gB_some N).mp q
      refine ⟨j, u, ?_, ua, rfl, rfl⟩
      rw [List.getElem?_append_left (List.getElem?_eq_some_iff.mp hj).1]; exact hj
theorem gB_exch {B : List Blk} {i j : Nat} {e f : Blk} (N : Nd B) (h : B[i]? = some e) (h2 : B[j]? = some f) (ea : e.al = true) (fa : f.al = true) (n : Int) : gB (exch B i j e f) n = if n = f.n then some (e.k :: e.s) else if n = e.n then some (f.k :: f.s) else gB B n := by
  refine opt_ext fun r => ?_
  rw [gB_some (N.exch h h2 ea fa)]
  have ij : e.n = f.n → i = j := fun z => N i j e f h h2 ea fa z
  constructor
  · rintro ⟨a, u, hj, ua, rfl, rfl⟩
    rw [get_exch h h2] at hj
    split at hj
    · rename_i c; subst c; cases hj
      dsimp only
      by_cases d : e.n = f.n
      · have := ij d; subst this
        rw [h] at h2; cases h2
        rw [if_pos rfl]
      · rw [if_neg d, if_pos rfl]
    · split at hj
      · rename_i c d; subst d; cases hj; rw [if_pos rfl]
      · rename_i c d
        rw [if_neg (fun z => c (N a j u f hj h2 ua fa z)), if_neg (fun z => d (N a i u e hj h ua ea z))]
        exact gB_at N hj ua
  · intro q
    split at q
    · rename_i c; subst c; cases q
      by_cases d : i = j
      · subst d; rw [h] at h2; cases h2
        exact ⟨i, { e with n := e.n }, by rw [get_exch h h, if_pos rfl], ea, rfl, rfl⟩
      · exact ⟨i, { e with n := f.n }, by rw [get_exch h h2, if_neg d, if_pos rfl], ea, rfl, rfl⟩
    · split at q
      · rename_i c d; subst d; cases q
        exact ⟨j, { f with n := e.n }, by rw [get_exch h h2, if_pos rfl], fa, rfl, rfl⟩
      · rename_i c d
        obtain ⟨a, u, hj, ua, rfl, rfl⟩ := (gB_some N).mp q
        refine ⟨a, u, ?_, ua, rfl, rfl⟩
        rw [get_exch h h2, if_neg, if_neg]; exact hj
        · intro z; subst z; rw [h] at hj; cases hj; exact d rfl
        · intro z; subst z; rw [h2] at hj; cases hj; exact c rfl
theorem Nd.kept {B : List Blk} (N : Nd B) (F : List Int) : Nd (kept B F) := by
  intro i j e f h1 h2 e1 f1 hn
  obtain ⟨a, ha, _, _⟩ := mem_kept h1
  obtain ⟨b, hb, _, _⟩ := mem_kept h2
  have ab := N a b e f ha hb e1 f1 hn
  subst ab
  rw [ha] at hb; cases hb
  have nd : (nums (ST.kept B F)).Nodup := by
    have : (nums (ST.kept B F)).Sublist (nums B) := by
      unfold nums
      refine List.Sublist.map _ ?_
      exact (List.Sublist.filter _ List.filter_sublist)
    exact this.nodup (nums_nodup N)
  have hal : (ST.kept B F).filter (fun e => e.al) = ST.kept B F := by
    rw [List.filter_eq_self]
    intro x hx
    obtain ⟨k, hk⟩ := List.getElem?_of_mem hx
    obtain ⟨_, _, h, _⟩ := mem_kept hk
    exact h
  have hm : ∀ k : Nat, (nums (ST.kept B F))[k]? = ((ST.kept B F)[k]?).map fun e => e.n := fun k => by unfold nums; rw [hal, List.getElem?_map]
  have q1 := hm i
  have q2 := hm j
  rw [h1] at q1
  rw [h2] at q2
  exact (List.getElem?_inj (List.getElem?_eq_some_iff.mp q1).1 nd).mp (q1.trans q2.symm)
theorem gB_kept {B : List Blk} (N : Nd B) (F : List Int) (n : Int) : gB (kept B F) n = if n ∈ F then gB B n else none := by
  refine opt_ext fun r => ?_
  rw [gB_some (N.kept F)]
  constructor
  · rintro ⟨j, u, hj, ua, rfl, rfl⟩
    obtain ⟨a, ha, _, hm⟩ := mem_kept hj
    rw [if_pos hm]; exact gB_at N ha ua
  · intro q
    split at q
    · rename_i c
      obtain ⟨j, u, hj, ua, rfl, rfl⟩ := (gB_some N).mp q
      obtain ⟨k, hk⟩ := kept_mem hj ua c
      exact ⟨k, u, hk, ua, rfl, rfl⟩
    · cases q
end ST

set_option Elab.async false
set_option linter.all false
set_option maxRecDepth 100000
set_option maxHeartbeats 4000000
/-! RowH: the law's row beside the store -/
namespace ST
open PySem PySem.Spec PyProof.Rows L2 KW
structure RE where
  el : Addr
  sl : Addr
  b : Blk
def reV (r : RE) : HO := .lst [.int r.b.n, .int r.b.k, .ref r.sl, .bl r.b.al]
structure Row (H : Hp) (rw : Addr) (L : List RE) : Prop where
  hd : H rw = some (.lst (L.map fun r => .ref r.el))
  it : ∀ (i : Nat) (r : RE), L[i]? = some r → H r.el = some (reV r) ∧ H r.sl = some (.lst (r.b.s.map V.int))
  d1 : ∀ (i j : Nat) (r s : RE), L[i]? = some r → L[j]? = some s → i ≠ j → r.el ≠ s.el ∧ r.sl ≠ s.sl
  d2 : ∀ (i j : Nat) (r s : RE), L[i]? = some r → L[j]? = some s → r.el ≠ s.sl
  d3 : ∀ (i : Nat) (r : RE), L[i]? = some r → r.el ≠ rw ∧ r.sl ≠ rw
def fpR (rw : Addr) (L : List RE) : List Addr := rw :: L.flatMap fun r => [r.el, r.sl]
theorem mem_fpR {rw x : Addr} {L : List RE} : x ∈ fpR rw L ↔ x = rw ∨ ∃ (i : Nat) (r : RE), L[i]? = some r ∧ (x = r.el ∨ x = r.sl) := by
  unfold fpR
  rw [List.mem_cons, List.mem_flatMap]
  constructor
  · rintro (h | ⟨r, hr, h⟩)
    · exact .inl h
    · obtain ⟨i, hi⟩ := List.getElem?_of_mem hr
      exact .inr ⟨i, r, hi, by simpa using h⟩
  · rintro (h | ⟨i, r, hi, h⟩)
    · exact .inl h
    · exact .inr ⟨r, List.mem_of_getElem? hi, by simpa using h⟩
theorem rw_fpR {rw : Addr} {L : List RE} : rw ∈ fpR rw L := mem_fpR.mpr (.inl rfl)
theorem el_fpR {rw : Addr} {L : List RE} {i : Nat} {r : RE} (h : L[i]? = some r) : r.el ∈ fpR rw L := mem_fpR.mpr (.inr ⟨i, r, h, .inl rfl⟩)
theorem sl_fpR {rw : Addr} {L : List RE} {i : Nat} {r : RE} (h : L[i]? = some r) : r.sl ∈ fpR rw L := mem_fpR.mpr (.inr ⟨i, r, h, .inr rfl⟩)
theorem Row.fr {H H' : Hp} {rw : Addr} {L : List RE} {l : List Addr} (R : Row H rw L) (f : KW.Fr l H H') (n : ∀ x ∈ fpR rw L, x ∉ l) : Row H' rw L :=
  ⟨f _ _ (n _ rw_fpR) R.hd, fun i r h => ⟨f _ _ (n _ (el_fpR h)) (R.it i r h).1, f _ _ (n _ (sl_fpR h)) (R.it i r h).2⟩, R.d1, R.d2, R.d3⟩
theorem Row.fr0 {H H' : Hp} {rw : Addr} {L : List RE} (R : Row H rw L) (f : KW.Fr [] H H') : Row H' rw L := R.fr f (by simp)
theorem Row.there {H : Hp} {rw : Addr} {L : List RE} (R : Row H rw L) : ∀ x ∈ fpR rw L, ∃ o, H x = some o := fun x hx => by
  rcases mem_fpR.mp hx with rfl | ⟨i, r, h, rfl | rfl⟩
  · exact ⟨_, R.hd⟩
  · exact ⟨_, (R.it i r h).1⟩
  · exact ⟨_, (R.it i r h).2⟩
theorem getR {L : List RE} {i j : Nat} {e f : RE} (h : L[i]? = some e) : (L.set i f)[j]? = if j = i then some f else L[j]? := by
  rw [List.getElem?_set]
  have := (List.getElem?_eq_some_iff.mp h).1
  by_cases c : i = j
  · subst c; simp [this]
  · rw [if_neg c, if_neg (fun z => c z.symm)]
theorem map_elems {L : List RE} {i : Nat} {r r' : RE} (h : L[i]? = some r) (e : r'.el = r.el) : (L.set i r').map (fun r => V.ref r.el) = L.map fun r => V.ref r.el := by
  apply List.ext_getElem?
  intro j
  rw [List.getElem?_map, List.getElem?_map, getR h]
  split
  · rename_i c; subst c; rw [h]; simp [e]
  · rfl
theorem mem_set {rw x : Addr} {L : List RE} {i : Nat} {r r' : RE} (h : L[i]? = some r) (e1 : r'.el = r.el) (e2 : r'.sl = r.sl) : x ∈ fpR rw (L.set i r') ↔ x ∈ fpR rw L := by
  rw [mem_fpR, mem_fpR]
  constructor
  · rintro (q | ⟨j, s, hs, q⟩)
    · exact .inl q
    · rw [getR h] at hs
      split at hs
      · cases hs; exact .inr ⟨i, r, h, by rw [← e1, ← e2]; exact q⟩
      · exact .inr ⟨j, s, hs, q⟩
  · rintro (q | ⟨j, s, hs, q⟩)
    · exact .inl q
    · by_cases c : j = i
      · subst c; rw [h] at hs; cases hs
        exact .inr ⟨j, r', by rw [getR h, if_pos rfl], by rw [e1, e2]; exact q⟩
      · exact .inr ⟨j, s, by rw [getR h, if_neg c]; exact hs, q⟩
/-- the element i is written anew -/
theorem Row.setE {H : Hp} {rw : Addr} {L : List RE} {i : Nat} {r r' : RE} (R : Row H rw L) (h : L[i]? = some r) (e1 : r'.el = r.el) (e2 : r'.sl = r.sl) (e3 : r'.b.s = r.b.s) : Row (upd H r.el (reV r')) rw (L.set i r') := by
  have key : ∀ (j : Nat) (s : RE), (L.set i r')[j]? = some s → ∃ s', L[j]? = some s' ∧ s.el = s'.el ∧ s.sl = s'.sl := fun j s hs => by
    rw [getR h] at hs
    split at hs
    · rename_i c; subst c; cases hs; exact ⟨r, h, e1, e2⟩
    · exact ⟨s, hs, rfl, rfl⟩
  refine ⟨?_, fun j s hs => ?_, fun j k s t hs ht n => ?_, fun j k s t hs ht => ?_, fun j s hs => ?_⟩
  · rw [map_elems h e1, upd_ne (R.d3 i r h).1.symm]; exact R.hd
  · rw [getR h] at hs
    split at hs
    · cases hs
      exact ⟨by rw [e1, upd_same], by rw [e2, e3, upd_ne (R.d2 i i r r h h).symm]; exact (R.it i r h).2⟩
    · rename_i c
      exact ⟨by rw [upd_ne (R.d1 j i s r hs h c).1]; exact (R.it j s hs).1, by rw [upd_ne (R.d2 i j r s h hs).symm]; exact (R.it j s hs).2⟩
  · obtain ⟨s', h1, h2, h3⟩ := key j s hs
    obtain ⟨t', k1, k2, k3⟩ := key k t ht
    rw [h2, h3, k2, k3]; exact R.d1 j k s' t' h1 k1 n
  · obtain ⟨s', h1, h2, h3⟩ := key j s hs
    obtain ⟨t', k1, k2, k3⟩ := key k t ht
    rw [h2, k3]; exact R.d2 j k s' t' h1 k1
  · obtain ⟨s', h1, h2, h3⟩ := key j s hs
    rw [h2, h3]; exact R.d3 j s' h1
/-- its slots are written anew -/
theorem Row.setS {H : Hp} {rw : Addr} {L : List RE} {i : Nat} {r r' : RE} (R : Row H rw L) (h : L[i]? = some r) (e1 : r'.el = r.el) (e2 : r'.sl = r.sl) (e3 : r'.b.n = r.b.n) (e4 : r'.b.k = r.b.k) (e5 : r'.b.al = r.b.al) : Row (upd H r.sl (.lst (r'.b.s.map V.int))) rw (L.set i r') := by
  have key : ∀ (j : Nat) (s : RE), (L.set i r')[j]? = some s → ∃ s', L[j]? = some s' ∧ s.el = s'.el ∧ s.sl = s'.sl := fun j s hs => by
    rw [getR h] at hs
    split at hs
    · rename_i c; subst c; cases hs; exact ⟨r, h, e1, e2⟩
    · exact ⟨s, hs, rfl, rfl⟩
  refine ⟨?_, fun j s hs => ?_, fun j k s t hs ht n => ?_, fun j k s t hs ht => ?_, fun j s hs => ?_⟩
  · rw [map_elems h e1, upd_ne (R.d3 i r h).2.symm]; exact R.hd
  · rw [getR h] at hs
    split at hs
    · cases hs
      refine ⟨?_, by rw [e2, upd_same]⟩
      rw [e1, upd_ne (R.d2 i i r r h h)]
      have := (R.it i r h).1
      unfold reV at this ⊢
      rw [e2, e3, e4, e5]; exact this
    · rename_i c
      exact ⟨by rw [upd_ne (R.d2 j i s r hs h)]; exact (R.it j s hs).1, by rw [upd_ne (R.d1 j i s r hs h c).2]; exact (R.it j s hs).2⟩
  · obtain ⟨s', h1, h2, h3⟩ := key j s hs
    obtain ⟨t', k1, k2, k3⟩ := key k t ht
    rw [h2, h3, k2, k3]; exact R.d1 j k s' t' h1 k1 n
  · obtain ⟨s', h1, h2, h3⟩ := key j s hs
    obtain ⟨t', k1, k2, k3⟩ := key k t ht
    rw [h2, k3]; exact R.d2 j k s' t' h1 k1
  · obtain ⟨s', h1, h2, h3⟩ := key j s hs
    rw [h2, h3]; exact R.d3 j s' h1
theorem getA {α : Type} {L : List α} {x y : α} {j : Nat} (h : (L ++ [x])[j]? = some y) : (L[j]? = some y ∧ j < L.length) ∨ (j = L.length ∧ y = x) := by
  rw [List.getElem?_append] at h
  split at h
  · rename_i z; exact .inl ⟨h, z⟩
  · rename_i z
    have hx : j - L.length = 0 := by
      have := (List.getElem?_eq_some_iff.mp h).1
      simpa using this
    rw [hx] at h
    exact .inr ⟨by omega, by simpa using h.symm⟩
/-- an element more -/
theorem Row.app {H : Hp} {rw : Addr} {L : List RE} {r : RE} (R : Row H rw L) (h1 : H r.el = some (reV r)) (h2 : H r.sl = some (.lst (r.b.s.map V.int))) (n1 : r.el ∉ fpR rw L) (n2 : r.sl ∉ fpR rw L) (n3 : r.el ≠ r.sl) : Row (upd H rw (.lst ((L ++ [r]).map fun r => .ref r.el))) rw (L ++ [r]) := by
  have m1 : r.el ≠ rw := fun z => n1 (z ▸ rw_fpR)
  have m2 : r.sl ≠ rw := fun z => n2 (z ▸ rw_fpR)
  refine ⟨upd_same, fun j s hs => ?_, fun j k s t hs ht n => ?_, fun j k s t hs ht => ?_, fun j s hs => ?_⟩
  · rcases getA hs with ⟨q, _⟩ | ⟨_, rfl⟩
    · rw [upd_ne (R.d3 j s q).1, upd_ne (R.d3 j s q).2]; exact R.it j s q
    · rw [upd_ne m1, upd_ne m2]; exact ⟨h1, h2⟩
  · rcases getA hs with ⟨q, l⟩ | ⟨q, rfl⟩ <;> rcases getA ht with ⟨p, l'⟩ | ⟨p, rfl⟩
    · exact R.d1 j k s t q p n
    · exact ⟨fun z => n1 (z ▸ el_fpR q), fun z => n2 (z ▸ sl_fpR q)⟩
    · exact ⟨fun z => n1 (z ▸ el_fpR p), fun z => n2 (z ▸ sl_fpR p)⟩
    · omega
  · rcases getA hs with ⟨q, l⟩ | ⟨q, rfl⟩ <;> rcases getA ht with ⟨p, l'⟩ | ⟨p, rfl⟩
    · exact R.d2 j k s t q p
    · exact fun z => n2 (z ▸ el_fpR q)
    · exact fun z => n1 (z ▸ sl_fpR p)
    · exact n3
  · rcases getA hs with ⟨q, l⟩ | ⟨q, rfl⟩
    · exact R.d3 j s q
    · exact ⟨m1, m2⟩
theorem Row.nil {H : Hp} {rw : Addr} (h : H rw = some (.lst [])) : Row H rw [] := ⟨h, fun i r h => by simp at h, fun i j r s h => by simp at h, fun i j r s h => by simp at h, fun i r h => by simp at h⟩
abbrev blks (L : List RE) : List Blk := L.map fun r => r.b
theorem blks_at {L : List RE} {i : Nat} {r : RE} (h : L[i]? = some r) : (blks L)[i]? = some r.b := by rw [List.getElem?_map, h]; rfl
theorem blks_set (L : List RE) (i : Nat) (r : RE) : blks (L.set i r) = (blks L).set i r.b := by rw [blks, List.map_set]
theorem flat_len_set {B : List Blk} {i : Nat} {e f : Blk} (h : B[i]? = some e) (l : f.s.length = e.s.length) : (flat (B.set i f)).length = (flat B).length := by
  rw [flat_set h, flat_at h]; simp only [List.length_append, Blk.ws_len, l]
theorem flatlen_set {L : List RE} {i : Nat} {r r' : RE} (h : L[i]? = some r) (l : r'.b.s.length = r.b.s.length) : (flat (blks (L.set i r'))).length = (flat (blks L)).length := by
  rw [blks_set]; exact flat_len_set (blks_at h) l
/-- store and row -/
structure SR (C : Addr) (H : Hp) (st wd pl rw : Addr) (rm en : Int) (L : List RE) : Prop where
  S : Sto C H st wd pl rm en (blks L)
  R : Row H rw L
  sep : ∀ x ∈ fpS st wd pl, x ∉ fpR rw L
def fpSR (st wd pl rw : Addr) (L : List RE) : List Addr := fpS st wd pl ++ fpR rw L
section
variable {C : Addr} {H H' : Hp} {st wd pl rw : Addr} {rm en : Int} {L L' : List RE} {l : List Addr}
theorem inS {x : Addr} (h : x ∈ fpS st wd pl) : x ∈ fpSR st wd pl rw L := List.mem_append.mpr (.inl h)
theorem inR {x : Addr} (h : x ∈ fpR rw L) : x ∈ fpSR st wd pl rw L := List.mem_append.mpr (.inr h)
theorem SR.fr (Z : SR C H st wd pl rw rm en L) (f : KW.Fr l H H') (n : ∀ x ∈ fpSR st wd pl rw L, x ∉ l) : SR C H' st wd pl rw rm en L :=
  ⟨Z.S.fr f (n _ (inS (by simp))) (n _ (inS (by simp))) (n _ (inS (by simp))), Z.R.fr f fun x hx => n x (inR hx), Z.sep⟩
theorem SR.fr0 (Z : SR C H st wd pl rw rm en L) (f : KW.Fr [] H H') : SR C H' st wd pl rw rm en L := Z.fr f (by simp)
theorem SR.there (Z : SR C H st wd pl rw rm en L) : ∀ x ∈ fpSR st wd pl rw L, ∃ o, H x = some o := fun x hx => by
  rcases List.mem_append.mp hx with h | h
  · exact Z.S.there x h
  · exact Z.R.there x h
theorem sep_set {i : Nat} {r r' : RE} (sep : ∀ x ∈ fpS st wd pl, x ∉ fpR rw L) (h : L[i]? = some r) (e1 : r'.el = r.el) (e2 : r'.sl = r.sl) : ∀ x ∈ fpS st wd pl, x ∉ fpR rw (L.set i r') := fun x hx z => sep x hx ((mem_set h e1 e2).mp z)
theorem fpSR_set {i : Nat} {r r' : RE} {x : Addr} (h : L[i]? = some r) (e1 : r'.el = r.el) (e2 : r'.sl = r.sl) : x ∈ fpSR st wd pl rw (L.set i r') ↔ x ∈ fpSR st wd pl rw L := by
  unfold fpSR
  rw [List.mem_append, List.mem_append, mem_set h e1 e2]
theorem stp_set {i : Nat} {r r' : RE} (h : L[i]? = some r) (e1 : r'.el = r.el) (e2 : r'.sl = r.sl) (f : KW.Fr (fpSR st wd pl rw L) H H') : Stp (fpSR st wd pl rw L) (fpSR st wd pl rw (L.set i r')) H H' := ⟨f, fun x hx => .inl ((fpSR_set h e1 e2).mp hx)⟩
end
section
variable {C : Addr} {H H1 H2 : Hp} {st wd pl rw : Addr} {rm en : Int} {L : List RE} {l : List Addr} {i : Nat} {r r' : RE} {o : HO}
theorem SR.stE (Z : SR C H st wd pl rw rm en L) (h : L[i]? = some r) : Sto C (upd H r.el o) st wd pl rm en (blks L) := by
  have n : r.el ∉ fpS st wd pl := fun z => Z.sep _ z (el_fpR h)
  simp only [List.mem_cons, List.not_mem_nil, or_false, not_or] at n
  exact Z.S.fr (l := [r.el]) (Fr.upd (by simp)) (by simp [Ne.symm n.1]) (by simp [Ne.symm n.2.1]) (by simp [Ne.symm n.2.2])
theorem SR.stS (Z : SR C H st wd pl rw rm en L) (h : L[i]? = some r) : Sto C (upd H r.sl o) st wd pl rm en (blks L) := by
  have n : r.sl ∉ fpS st wd pl := fun z => Z.sep _ z (sl_fpR h)
  simp only [List.mem_cons, List.not_mem_nil, or_false, not_or] at n
  exact Z.S.fr (l := [r.sl]) (Fr.upd (by simp)) (by simp [Ne.symm n.1]) (by simp [Ne.symm n.2.1]) (by simp [Ne.symm n.2.2])
theorem SR.upE (Z : SR C H st wd pl rw rm en L) (h : L[i]? = some r) (e1 : r'.el = r.el) (e2 : r'.sl = r.sl) (e3 : r'.b.s = r.b.s) (S2 : Sto C H2 st wd pl rm en ((blks L).set i r'.b)) (f2 : KW.Fr l (upd H r.el (reV r')) H2) (hl : ∀ x ∈ l, x ∈ fpS st wd pl) :
    SR C H2 st wd pl rw rm en (L.set i r') ∧ Stp (fpSR st wd pl rw L) (fpSR st wd pl rw (L.set i r')) H H2 := by
  have sp1 := sep_set (r' := r') Z.sep h e1 e2
  exact ⟨⟨by rw [blks_set]; exact S2, (Z.R.setE h e1 e2 e3).fr f2 fun y hy z => sp1 y (hl y z) hy, sp1⟩, stp_set h e1 e2 ((Fr.upd (inR (el_fpR h))).trans (f2.mono fun y hy => inS (hl y hy)))⟩
theorem SR.upS (Z : SR C H st wd pl rw rm en L) (h : L[i]? = some r) (e1 : r'.el = r.el) (e2 : r'.sl = r.sl) (e3 : r'.b.n = r.b.n) (e4 : r'.b.k = r.b.k) (e5 : r'.b.al = r.b.al) (S2 : Sto C H2 st wd pl rm en ((blks L).set i r'.b)) (f2 : KW.Fr l (upd H r.sl (.lst (r'.b.s.map V.int))) H2) (hl : ∀ x ∈ l, x ∈ fpS st wd pl) :
    SR C H2 st wd pl rw rm en (L.set i r') ∧ Stp (fpSR st wd pl rw L) (fpSR st wd pl rw (L.set i r')) H H2 := by
  have sp1 := sep_set (r' := r') Z.sep h e1 e2
  exact ⟨⟨by rw [blks_set]; exact S2, (Z.R.setS h e1 e2 e3 e4 e5).fr f2 fun y hy z => sp1 y (hl y z) hy, sp1⟩, stp_set h e1 e2 ((Fr.upd (inR (sl_fpR h))).trans (f2.mono fun y hy => inS (hl y hy)))⟩
end
/-- among the living ones -/
theorem mem_living {L : List RE} {j : Nat} {r : RE} (h : (L.filter fun r => r.b.al)[j]? = some r) : ∃ i : Nat, L[i]? = some r ∧ r.b.al = true := by
  have := List.mem_of_getElem? h
  rw [List.mem_filter] at this
  obtain ⟨i, hi⟩ := List.getElem?_of_mem this.1
  exact ⟨i, hi, this.2⟩
/-! ### promises of the law's own defs -/
def spNumber : Sp := fun vs H Q _ => ∃ (c k : Int), vs = [.int c, .int k] ∧ 0 ≤ k ∧ k ≤ 100000 ∧ ∀ v, 0 ≤ v → Q (.int v) H
def spIs : Sp := fun vs H Q _ => ∃ (b c : V), vs = [b, c] ∧ ((∃ x y, b = .int x ∧ c = .int y ∧ Q (.bl (decide (x = y))) H))
def spSame : Sp := fun vs H Q _ => ∃ (p q : Addr) (xs : List Int), vs = [.ref p, .ref q] ∧ IL H p xs ∧ IL H q xs ∧ xs.length ≤ 16000000 ∧ Q (.bl true) H
def spLiving : Sp := fun vs H Q _ => ∃ (rw : Addr) (L : List RE), vs = [.ref rw] ∧ Row H rw L ∧ L.length ≤ 1000000 ∧ ∀ l, H l = none → Q (.ref l) (upd H l (.lst ((L.filter fun r => r.b.al).map fun r => .ref r.el)))
def spFlat : Sp := fun vs H Q _ => ∃ (rw : Addr) (L : List RE), vs = [.ref rw] ∧ Row H rw L ∧ (flat (blks L)).length ≤ 2000000 ∧ ∀ l H', H l = none → KW.Fr [] H H' → IL H' l (flat (blks L)) → Q (.ref l) H'
end ST

set_option Elab.async false
set_option linter.all false
set_option maxRecDepth 100000
set_option maxHeartbeats 4000000
/-! RowP: promises of k04, k05 -/
namespace ST
open PySem PySem.Spec PyProof.Rows L2 KW
def spGrown (C : Addr) : Sp := fun vs H Q _ => ∃ (st wd pl rw : Addr) (L : List RE) (x : Int), vs = [.ref st, .ref rw, .int x] ∧ SR C H st wd pl rw 100000 100000 L ∧ L.length ≤ 200 ∧ (flat (blks L)).length ≤ 20000 ∧
  ∀ L' H', SR C H' st wd pl rw 100000 100000 L' → L'.length = L.length + 1 → (flat (blks L')).length ≤ (flat (blks L)).length + 50 → Stp (fpSR st wd pl rw L) (fpSR st wd pl rw L') H H' → Q .non H'
def spLinked (C : Addr) : Sp := fun vs H Q _ => ∃ (st wd pl rw : Addr) (L : List RE) (x : Int), vs = [.ref st, .ref rw, .int x] ∧ SR C H st wd pl rw 100000 100000 L ∧ L.length ≤ 200 ∧ (flat (blks L)).length ≤ 20000 ∧
  ∀ L' H', SR C H' st wd pl rw 100000 100000 L' → L'.length = L.length → (flat (blks L')).length = (flat (blks L)).length → Stp (fpSR st wd pl rw L) (fpSR st wd pl rw L') H H' → Q .non H'
def spChained (C : Addr) : Sp := fun vs H Q _ => ∃ (st wd pl rw : Addr) (L : List RE), vs = [.ref st, .ref rw] ∧ SR C H st wd pl rw 100000 100000 L ∧ L.length ≤ 200 ∧ (flat (blks L)).length ≤ 20000 ∧
  ∀ L' H', SR C H' st wd pl rw 100000 100000 L' → L'.length = L.length → (flat (blks L')).length = (flat (blks L)).length → Stp (fpSR st wd pl rw L) (fpSR st wd pl rw L') H H' → Q .non H'
def spBuilt (C : Addr) : Sp := fun vs H Q _ => ∃ (st wd pl ce : Addr) (cs : List Int), vs = [.ref st, .ref ce] ∧ Sto C H st wd pl 100000 100000 [] ∧ IL H ce cs ∧ ce ∉ fpS st wd pl ∧ 2 ≤ cs.length ∧
  ∀ L' rw H', SR C H' st wd pl rw 100000 100000 L' → L'.length ≤ 100 → (flat (blks L')).length ≤ 10000 → Stp (fpS st wd pl) (fpSR st wd pl rw L') H H' → Q (.ref rw) H'
def spDue : Sp := fun vs H Q _ => ∃ (rw rt : Addr) (L : List RE) (R : List Int), vs = [.ref rw, .ref rt] ∧ Row H rw L ∧ IL H rt R ∧ Nd (blks L) ∧ L.length ≤ 200 ∧ R.length ≤ 1000 ∧ (flat (blks L)).length ≤ 20000 ∧
  ∀ (l : Addr) (F ys : List Int) (H' : Hp), H l = none → KW.Fr [] H H' → IL H' l ys → F.Nodup → (∀ n, n ∈ F ↔ Rch (blks L) R n) → ys.Perm F → ys.Pairwise (· ≤ ·) → Q (.ref l) H'
def spRoots : Sp := fun vs H Q _ => ∃ (rw ce : Addr) (L : List RE) (cs : List Int), vs = [.ref rw, .ref ce] ∧ Row H rw L ∧ IL H ce cs ∧ L.length ≤ 200 ∧ cs.length ≤ 1000 ∧ ∀ (l : Addr) (R : List Int) (H' : Hp), H l = none → KW.Fr [] H H' → IL H' l R → R.length ≤ 1000 → Q (.ref l) H'
def spWord2 : Sp := fun vs H Q _ => ∃ (x m : Int), vs = [.int x, .int m] ∧ 0 ≤ m ∧ m ≤ 100000 ∧ ∀ v, Q (.int v) H
section
variable {C : Addr} {H H' H2 : Hp} {st wd pl rw : Addr} {rm en : Int} {L : List RE} {Q : VK} {E : XK}
theorem living_s (R : Row H rw L) (hl : L.length ≤ 1000000) (q : ∀ l, H l = none → Q (.ref l) (upd H l (.lst ((L.filter fun r => r.b.al).map fun r => .ref r.el)))) : spLiving [.ref rw] H Q E := ⟨rw, L, rfl, R, hl, q⟩
theorem flat_s (R : Row H rw L) (hl : (flat (blks L)).length ≤ 2000000) (q : ∀ l H', H l = none → KW.Fr [] H H' → IL H' l (flat (blks L)) → Q (.ref l) H') : spFlat [.ref rw] H Q E := ⟨rw, L, rfl, R, hl, q⟩
theorem num_s {c k : Int} (h0 : 0 ≤ k) (h1 : k ≤ 100000) (q : ∀ v, 0 ≤ v → Q (.int v) H) : spNumber [.int c, .int k] H Q E := ⟨c, k, rfl, h0, h1, q⟩
theorem word2_s {x m : Int} (h0 : 0 ≤ m) (h1 : m ≤ 100000) (q : ∀ v, Q (.int v) H) : spWord2 [.int x, .int m] H Q E := ⟨x, m, rfl, h0, h1, q⟩
theorem is_s {x y : Int} (q : Q (.bl (decide (x = y))) H) : spIs [.int x, .int y] H Q E := ⟨_, _, rfl, x, y, rfl, rfl, q⟩
theorem same_s {p q : Addr} {xs : List Int} (h1 : IL H p xs) (h2 : IL H q xs) (hl : xs.length ≤ 16000000) (k : Q (.bl true) H) : spSame [.ref p, .ref q] H Q E := ⟨p, q, xs, rfl, h1, h2, hl, k⟩
/-- an element of the living ones, by its place in their list -/
theorem pick {L : List RE} {r : Int} (h0 : 0 ≤ r) (h1 : r < ((L.filter fun r => r.b.al).length : Int)) : ∃ (i : Nat) (e : RE), atI ((L.filter fun r => r.b.al).map fun r => V.ref r.el) r = some (.ref e.el) ∧ (L.filter fun r => r.b.al)[r.toNat]? = some e ∧ L[i]? = some e ∧ e.b.al = true := by
  obtain ⟨j, rfl⟩ := Int.eq_ofNat_of_zero_le h0
  have hj : j < (L.filter fun r => r.b.al).length := by omega
  obtain ⟨e, he⟩ : ∃ e, (L.filter fun r => r.b.al)[j]? = some e := ⟨_, List.getElem?_eq_getElem hj⟩
  obtain ⟨i, h1, h2⟩ := mem_living he
  exact ⟨i, e, atI_map he, by simpa using he, h1, h2⟩
theorem sepE (Z : SR C H st wd pl rw rm en L) {i : Nat} {e : RE} (h : L[i]? = some e) : e.el ∉ fpS st wd pl := fun z => Z.sep _ z (el_fpR h)
theorem sepL (Z : SR C H st wd pl rw rm en L) {i : Nat} {e : RE} (h : L[i]? = some e) : e.sl ∉ fpS st wd pl := fun z => Z.sep _ z (sl_fpR h)
theorem fr_sub {l m : List Addr} {H H' : Hp} (f : KW.Fr l H H') (h : ∀ x ∈ l, x ∈ m) : KW.Fr m H H' := f.mono h
theorem Stp.new {f g : List Addr} {H H' : Hp} {p : Addr} {o : HO} (a : Stp f g H H') (h : H' p = none) : Stp f g H (upd H' p o) := a.trans (Stp.of (Fr.new h))
theorem Stp.fr0 {f g : List Addr} {H H' H2 : Hp} (a : Stp f g H H') (h : KW.Fr [] H' H2) : Stp f g H H2 := a.trans (Stp.of (h.mono (by simp)))
end
/-- some of the elements, in another list -/
theorem Row.sub {H : Hp} {rw rw' : Addr} {L L' : List RE} (R : Row H rw L) (s : L'.Sublist L) (h : H rw' = some (.lst (L'.map fun r => .ref r.el))) (n : rw' ∉ fpR rw L) : Row H rw' L' := by
  have mem : ∀ (i : Nat) (r : RE), L'[i]? = some r → ∃ j : Nat, L[j]? = some r := fun i r hi => List.getElem?_of_mem (s.mem (List.mem_of_getElem? hi))
  have pw : L.Pairwise fun r s => r.el ≠ s.el ∧ r.sl ≠ s.sl := by
    rw [List.pairwise_iff_getElem]
    intro i j hi hj hij
    exact R.d1 i j _ _ (List.getElem?_eq_getElem hi) (List.getElem?_eq_getElem hj) (by omega)
  have pw' := pw.sublist s
  rw [List.pairwise_iff_getElem] at pw'
  refine ⟨h, fun i r hi => ?_, fun i j r t hi hj hij => ?_, fun i j r t hi hj => ?_, fun i r hi => ?_⟩
  · obtain ⟨k, hk⟩ := mem i r hi; exact R.it k r hk
  · obtain ⟨i1, i2⟩ := List.getElem?_eq_some_iff.mp hi
    obtain ⟨j1, j2⟩ := List.getElem?_eq_some_iff.mp hj
    rcases Nat.lt_or_gt_of_ne hij with c | c
    · have := pw' i j i1 j1 c; rw [i2, j2] at this; exact this
    · have := pw' j i j1 i1 c; rw [i2, j2] at this; exact ⟨this.1.symm, this.2.symm⟩
  · obtain ⟨k, hk⟩ := mem i r hi
    obtain ⟨m, hm⟩ := mem j t hj
    exact R.d2 k m r t hk hm
  · obtain ⟨k, hk⟩ := mem i r hi
    exact ⟨fun z => n (z ▸ el_fpR hk), fun z => n (z ▸ sl_fpR hk)⟩
theorem Row.lst {H : Hp} {rw : Addr} {L : List RE} (R : Row H rw L) : ∀ x ∈ fpR rw L, ∃ xs, H x = some (.lst xs) := fun x hx => by
  rcases mem_fpR.mp hx with rfl | ⟨i, r, h, rfl | rfl⟩
  · exact ⟨_, R.hd⟩
  · exact ⟨_, (R.it i r h).1⟩
  · exact ⟨_, (R.it i r h).2⟩
end ST

set_option Elab.async false
set_option linter.all false
set_option maxRecDepth 100000
set_option maxHeartbeats 4000000
/-! SpH: a space in the heap, a dict of rows; promises -/
namespace ST
open PySem PySem.Spec PyProof.Rows L2 KW LamX
/-- a row of a dict: its number, its words, its list -/
structure RW where
  n : Int
  r : List Int
  a : Addr
def kvR (D : List RW) : KVs := D.map fun d => (.inl d.n, .ref d.a)
def gR (D : List RW) : Gr := fun n => (D.find? fun d => decide (d.n = n)).map fun d => d.r
abbrev nsR (D : List RW) : List Int := D.map fun d => d.n
structure Rws (H : Hp) (rw : Addr) (D : List RW) : Prop where
  dc : H rw = some (.dK (kvR D))
  rs : ∀ d ∈ D, IL H d.a d.r
  nd : (nsR D).Nodup
theorem kvR_keys (D : List RW) : (kvR D).map (·.1) = (nsR D).map Sum.inl := by unfold kvR nsR; rw [List.map_map, List.map_map]; rfl
theorem kvR_len (D : List RW) : (kvR D).length = D.length := by unfold kvR; rw [List.length_map]
theorem valV_kvR (D : List RW) (n : Int) : valV (kvR D) (.inl n) = (D.find? fun d => decide (d.n = n)).map fun d => .ref d.a := by
  induction D with
  | nil => rfl
  | cons d D ih =>
    by_cases c : d.n = n
    · rw [List.find?_cons_of_pos (by simp [c])]
      exact valV_pos (p := (Sum.inl d.n, V.ref d.a)) (r := kvR D) (by rw [c])
    · rw [List.find?_cons_of_neg (by simp [c]), ← ih]
      exact valV_neg (p := (Sum.inl d.n, V.ref d.a)) (r := kvR D) (fun z => c (by cases z; rfl))
theorem find_rw {D : List RW} (nd : (nsR D).Nodup) {d : RW} (h : d ∈ D) : (D.find? fun x => decide (x.n = d.n)) = some d := by
  induction D with
  | nil => cases h
  | cons e D ih =>
    simp only [nsR, List.map_cons, List.nodup_cons] at nd
    by_cases c : e.n = d.n
    · rw [List.find?_cons_of_pos (by simp [c])]
      rcases List.mem_cons.mp h with q | q
      · rw [q]
      · exact absurd (List.mem_map.mpr ⟨d, q, c.symm⟩) nd.1
    · rw [List.find?_cons_of_neg (by simp [c])]
      refine ih nd.2 ?_
      rcases List.mem_cons.mp h with q | q
      · exact absurd (by rw [q]) c
      · exact q
theorem find_ex {D : List RW} {n : Int} {d : RW} (h : (D.find? fun x => decide (x.n = n)) = some d) : d ∈ D ∧ d.n = n := ⟨List.mem_of_find?_eq_some h, by simpa using List.find?_some h⟩
theorem gR_at {D : List RW} (nd : (nsR D).Nodup) {d : RW} (h : d ∈ D) : gR D d.n = some d.r := by unfold gR; rw [find_rw nd h]; rfl
theorem gR_ex {D : List RW} {n : Int} {r : List Int} (h : gR D n = some r) : ∃ d ∈ D, d.n = n ∧ d.r = r := by
  unfold gR at h
  obtain ⟨d, h1, h2⟩ := Option.map_eq_some_iff.mp h
  obtain ⟨h3, h4⟩ := find_ex h1
  exact ⟨d, h3, h4, h2⟩
theorem gR_isS {D : List RW} {n : Int} : (gR D n).isSome = decide (n ∈ nsR D) := by
  apply Bool.eq_iff_iff.mpr
  rw [decide_eq_true_eq]
  constructor
  · intro h
    obtain ⟨r, hr⟩ := Option.isSome_iff_exists.mp h
    obtain ⟨d, h1, h2, _⟩ := gR_ex hr
    exact List.mem_map.mpr ⟨d, h1, h2⟩
  · intro h
    obtain ⟨d, h1, h2⟩ := List.mem_map.mp h
    unfold gR
    rw [Option.isSome_map, List.find?_isSome]
    exact ⟨d, h1, by simpa using h2⟩
theorem pot_rows {D : List RW} (nd : (nsR D).Nodup) (h : ∀ d ∈ D, d.r.length ≤ 30) : potG (gR D) [] (nsR D) ≤ 31 * D.length := by
  have key : ∀ D' : List RW, (∀ d ∈ D', d ∈ D) → potG (gR D) [] (nsR D') ≤ 31 * D'.length := by
    intro D'
    induction D' with
    | nil => intro _; exact Nat.le_refl _
    | cons e D' ih =>
      intro hs
      have he := hs e (by simp)
      have i := ih fun d hd => hs d (by simp [hd])
      have b := h e he
      show (if e.n ∈ [] then 0 else ((gR D e.n).getD []).length + 1) + potG (gR D) [] (nsR D') ≤ _
      rw [if_neg (by simp), gR_at nd he, List.length_cons]
      simp only [Option.getD_some]; omega
  exact key D fun d hd => hd
theorem val_at {D : List RW} (nd : (nsR D).Nodup) {d : RW} (h : d ∈ D) : valV (kvR D) (.inl d.n) = some (.ref d.a) := by rw [valV_kvR, find_rw nd h]; rfl
theorem val_is (D : List RW) (n : Int) : (valV (kvR D) (.inl n)).isSome = decide (n ∈ nsR D) := by rw [← gR_isS, valV_kvR]; unfold gR; rw [Option.isSome_map, Option.isSome_map]
abbrev fpW (rw : Addr) (D : List RW) : List Addr := rw :: D.map fun d => d.a
theorem Rws.fr {H H' : Hp} {rw : Addr} {D : List RW} {l : List Addr} (s : Rws H rw D) (f : KW.Fr l H H') (n : ∀ x ∈ fpW rw D, x ∉ l) : Rws H' rw D :=
  ⟨f _ _ (n _ (by simp)) s.dc, fun d hd => f _ _ (n _ (by simp; exact .inr ⟨d, hd, rfl⟩)) (s.rs d hd), s.nd⟩
theorem Rws.fr0 {H H' : Hp} {rw : Addr} {D : List RW} (s : Rws H rw D) (f : KW.Fr [] H H') : Rws H' rw D := s.fr f fun _ _ => by simp
theorem Rws.there {H : Hp} {rw : Addr} {D : List RW} (s : Rws H rw D) : ∀ x ∈ fpW rw D, ∃ o, H x = some o := fun x hx => by
  rcases List.mem_cons.mp hx with q | q
  · rw [q]; exact ⟨_, s.dc⟩
  · obtain ⟨d, hd, rfl⟩ := List.mem_map.mp q
    exact ⟨_, s.rs d hd⟩
/-- a space -/
structure Spd where
  (sp st wd pl pr ro he : Addr)
  (al co : Int)
  B : List Blk
  R : List Int
  L : List Int
abbrev fpP (d : Spd) : List Addr := [d.sp, d.st, d.wd, d.pl, d.pr, d.ro, d.he]
abbrev Spd.ws (d : Spd) : List Int := 0 :: (d.R ++ d.L)
structure Spc (CS C : Addr) (H : Hp) (d : Spd) : Prop where
  ob : ∃ dx, H d.sp = some (.ins CS dx [("store", .ref d.st), ("pressure", .ref d.pr), ("always", .bl false), ("allocations", .int d.al), ("collections", .int d.co), ("_roots", .ref d.ro), ("_held", .ref d.he), ("_saved", .non)])
  S : Sto C H d.st d.wd d.pl 100000 100000 d.B
  pe : H d.pr = some (.lst [])
  rt : IL H d.ro d.R
  hl : IL H d.he d.L
  r16 : d.R.length = 16
  l9 : d.L.length ≤ 1000
  bd : (flat d.B).length ≤ 100000
  nn : (fpP d).Nodup
section
variable {CS C : Addr} {H H' : Hp} {d : Spd}
theorem Spc.fr {l : List Addr} (s : Spc CS C H d) (f : KW.Fr l H H') (n : ∀ x ∈ fpP d, x ∉ l) : Spc CS C H' d := by
  obtain ⟨⟨dx, ob⟩, S, pe, rt, hl, r16, l9, bd, nn⟩ := s
  exact ⟨⟨dx, f _ _ (n _ (by simp)) ob⟩, S.fr f (n _ (by simp)) (n _ (by simp)) (n _ (by simp)), f _ _ (n _ (by simp)) pe, f _ _ (n _ (by simp)) rt, f _ _ (n _ (by simp)) hl, r16, l9, bd, nn⟩
theorem Spc.fr0 (s : Spc CS C H d) (f : KW.Fr [] H H') : Spc CS C H' d := s.fr f fun _ _ => by simp
theorem Spc.there (s : Spc CS C H d) : ∀ x ∈ fpP d, ∃ o, H x = some o := by
  obtain ⟨⟨dx, ob⟩, S, pe, rt, hl, r16, l9, bd, nn⟩ := s
  intro x hx
  simp only [List.mem_cons, List.not_mem_nil, or_false] at hx
  rcases hx with rfl | rfl | rfl | rfl | rfl | rfl | rfl
  · exact ⟨_, ob⟩
  · exact S.there _ (by simp)
  · exact S.there _ (by simp)
  · exact S.there _ (by simp)
  · exact ⟨_, pe⟩
  · exact ⟨_, rt⟩
  · exact ⟨_, hl⟩
theorem Spc.pln (s : Spc CS C H d) : ∀ x ∈ fpP d, ∃ o, H x = some o ∧ Pln o := by
  obtain ⟨⟨dx, ob⟩, S, pe, rt, hl, r16, l9, bd, nn⟩ := s
  intro x hx
  simp only [List.mem_cons, List.not_mem_nil, or_false] at hx
  rcases hx with rfl | rfl | rfl | rfl | rfl | rfl | rfl
  · exact ⟨_, ob, pln_ins⟩
  · exact S.pln _ (by simp)
  · exact S.pln _ (by simp)
  · exact S.pln _ (by simp)
  · exact ⟨_, pe, pln_lst⟩
  · exact ⟨_, rt, pln_lst⟩
  · exact ⟨_, hl, pln_lst⟩
theorem Spc.nes (s : Spc CS C H d) : (d.sp ≠ d.st ∧ d.sp ≠ d.wd ∧ d.sp ≠ d.pl ∧ d.sp ≠ d.pr ∧ d.sp ≠ d.ro ∧ d.sp ≠ d.he) ∧ (d.st ≠ d.wd ∧ d.st ≠ d.pl ∧ d.st ≠ d.pr ∧ d.st ≠ d.ro ∧ d.st ≠ d.he) ∧ (d.wd ≠ d.pl ∧ d.wd ≠ d.pr ∧ d.wd ≠ d.ro ∧ d.wd ≠ d.he) ∧ (d.pl ≠ d.pr ∧ d.pl ≠ d.ro ∧ d.pl ≠ d.he) ∧ (d.pr ≠ d.ro ∧ d.pr ≠ d.he) ∧ d.ro ≠ d.he := by
  have := s.nn
  simp only [fpP, List.nodup_cons, List.mem_cons, List.not_mem_nil, or_false, not_or, not_false_eq_true, List.nodup_nil, and_true] at this
  exact this
/-- the store changed in its words -/
theorem Spc.word {B : List Blk} (s : Spc CS C H d) (S : Sto C H' d.st d.wd d.pl 100000 100000 B) (f : KW.Fr [d.wd] H H') (hb : (flat B).length ≤ 100000) : Spc CS C H' { d with B := B } := by
  obtain ⟨⟨q1, q2, q3, q4, q5, q6⟩, ⟨q7, q8, q9, q10, q11⟩, ⟨q12, q13, q14, q15⟩, ⟨q16, q17, q18⟩, ⟨q19, q20⟩, q21⟩ := s.nes
  obtain ⟨⟨dx, ob⟩, S0, pe, rt, hl, r16, l9, bd, nn⟩ := s
  exact ⟨⟨dx, f _ _ (by simp [q2]) ob⟩, S, f _ _ (by simp [Ne.symm q13]) pe, f _ _ (by simp [Ne.symm q14]) rt, f _ _ (by simp [Ne.symm q15]) hl, r16, l9, hb, nn⟩
theorem Spc.xch {B : List Blk} (s : Spc CS C H d) (S : Sto C H' d.st d.wd d.pl 100000 100000 B) (f : KW.Fr [d.wd, d.pl] H H') (hb : (flat B).length ≤ 100000) : Spc CS C H' { d with B := B } := by
  obtain ⟨⟨q1, q2, q3, q4, q5, q6⟩, ⟨q7, q8, q9, q10, q11⟩, ⟨q12, q13, q14, q15⟩, ⟨q16, q17, q18⟩, ⟨q19, q20⟩, q21⟩ := s.nes
  obtain ⟨⟨dx, ob⟩, S0, pe, rt, hl, r16, l9, bd, nn⟩ := s
  exact ⟨⟨dx, f _ _ (by simp [q2, q3]) ob⟩, S, f _ _ (by simp [Ne.symm q13, Ne.symm q16]) pe, f _ _ (by simp [Ne.symm q14, Ne.symm q17]) rt, f _ _ (by simp [Ne.symm q15, Ne.symm q18]) hl, r16, l9, hb, nn⟩
theorem Spc.app {B : List Blk} (s : Spc CS C H d) (S : Sto C H' d.st d.wd d.pl 100000 100000 B) (f : KW.Fr [d.st, d.wd, d.pl] H H') (hb : (flat B).length ≤ 100000) : Spc CS C H' { d with B := B } := by
  obtain ⟨⟨q1, q2, q3, q4, q5, q6⟩, ⟨q7, q8, q9, q10, q11⟩, ⟨q12, q13, q14, q15⟩, ⟨q16, q17, q18⟩, ⟨q19, q20⟩, q21⟩ := s.nes
  obtain ⟨⟨dx, ob⟩, S0, pe, rt, hl, r16, l9, bd, nn⟩ := s
  exact ⟨⟨dx, f _ _ (by simp [q1, q2, q3]) ob⟩, S, f _ _ (by simp [Ne.symm q9, Ne.symm q13, Ne.symm q16]) pe, f _ _ (by simp [Ne.symm q10, Ne.symm q14, Ne.symm q17]) rt, f _ _ (by simp [Ne.symm q11, Ne.symm q15, Ne.symm q18]) hl, r16, l9, hb, nn⟩
theorem Spc.cnt {al co : Int} {dx : Addr} (s : Spc CS C H d) (hH : H' = upd H d.sp (.ins CS dx [("store", .ref d.st), ("pressure", .ref d.pr), ("always", .bl false), ("allocations", .int al), ("collections", .int co), ("_roots", .ref d.ro), ("_held", .ref d.he), ("_saved", .non)])) : Spc CS C H' { d with al := al, co := co } := by
  obtain ⟨⟨q1, q2, q3, q4, q5, q6⟩, ⟨q7, q8, q9, q10, q11⟩, ⟨q12, q13, q14, q15⟩, ⟨q16, q17, q18⟩, ⟨q19, q20⟩, q21⟩ := s.nes
  have f : KW.Fr [d.sp] H H' := by rw [hH]; exact Fr.upd (by simp)
  obtain ⟨⟨dx, ob⟩, S0, pe, rt, hl, r16, l9, bd, nn⟩ := s
  exact ⟨⟨_, by rw [hH]; exact upd_same⟩, S0.fr f (by simp [Ne.symm q1]) (by simp [Ne.symm q2]) (by simp [Ne.symm q3]), f _ _ (by simp [Ne.symm q4]) pe, f _ _ (by simp [Ne.symm q5]) rt, f _ _ (by simp [Ne.symm q6]) hl, r16, l9, bd, nn⟩
theorem Spc.col {B : List Blk} {wd' pl' p : Addr} (s : Spc CS C H d) (S : Sto C H' d.st wd' pl' 100000 100000 B) (f : KW.Fr [d.st, d.pl, p] H H') (hp : p ∉ fpP d) (n1 : H wd' = none) (n2 : H pl' = none) (hb : (flat B).length ≤ 100000) : Spc CS C H' { d with wd := wd', pl := pl', B := B } := by
  obtain ⟨⟨q1, q2, q3, q4, q5, q6⟩, ⟨q7, q8, q9, q10, q11⟩, ⟨q12, q13, q14, q15⟩, ⟨q16, q17, q18⟩, ⟨q19, q20⟩, q21⟩ := s.nes
  have w1 := notin_of n1 s.there
  have w2 := notin_of n2 s.there
  obtain ⟨⟨dx, ob⟩, S0, pe, rt, hl, r16, l9, bd, nn⟩ := s
  simp only [fpP, List.mem_cons, List.not_mem_nil, or_false, not_or] at hp w1 w2
  obtain ⟨p1, p2, p3, p4, p5, p6, p7⟩ := hp
  obtain ⟨x1, x2, x3, x4, x5, x6, x7⟩ := w1
  obtain ⟨y1, y2, y3, y4, y5, y6, y7⟩ := w2
  refine ⟨⟨dx, f _ _ (by simp [q1, q3, Ne.symm p1]) ob⟩, S, f _ _ (by simp [Ne.symm q9, Ne.symm q16, Ne.symm p5]) pe, f _ _ (by simp [Ne.symm q10, Ne.symm q17, Ne.symm p6]) rt, f _ _ (by simp [Ne.symm q11, Ne.symm q18, Ne.symm p7]) hl, r16, l9, hb, ?_⟩
  simp only [fpP, List.nodup_cons, List.mem_cons, List.not_mem_nil, or_false, not_or, not_false_eq_true, List.nodup_nil, and_true]
  exact ⟨⟨q1, Ne.symm x1, Ne.symm y1, q4, q5, q6⟩, ⟨Ne.symm x2, Ne.symm y2, q9, q10, q11⟩, ⟨S.wp, x5, x6, x7⟩, ⟨y5, y6, y7⟩, ⟨q19, q20⟩, q21⟩
theorem Spc.np {p : Addr} {q : Str} (s : Spc CS C H d) (t : TabS H p q) : p ∉ fpP d := fun z => by
  obtain ⟨o, h1, h2⟩ := s.pln p z
  exact t.ne h1 h2.1 rfl
theorem Spc.root {k : Nat} {z : Int} (s : Spc CS C H d) (hH : H' = upd H d.ro (.lst ((d.R.set k z).map V.int))) : Spc CS C H' { d with R := d.R.set k z } := by
  obtain ⟨⟨q1, q2, q3, q4, q5, q6⟩, ⟨q7, q8, q9, q10, q11⟩, ⟨q12, q13, q14, q15⟩, ⟨q16, q17, q18⟩, ⟨q19, q20⟩, q21⟩ := s.nes
  have f : KW.Fr [d.ro] H H' := by rw [hH]; exact Fr.upd (by simp)
  obtain ⟨⟨dx, ob⟩, S0, pe, rt, hl, r16, l9, bd, nn⟩ := s
  exact ⟨⟨dx, f _ _ (by simp [q5]) ob⟩, S0.fr f (by simp [q10]) (by simp [q14]) (by simp [q17]), f _ _ (by simp [q19]) pe, by rw [hH]; exact upd_same, f _ _ (by simp [Ne.symm q21]) hl, by simp [r16], l9, bd, nn⟩
theorem Spc.held {z : Int} (s : Spc CS C H d) (h9 : d.L.length < 1000) (hH : H' = upd H d.he (.lst ((d.L ++ [z]).map V.int))) : Spc CS C H' { d with L := d.L ++ [z] } := by
  obtain ⟨⟨q1, q2, q3, q4, q5, q6⟩, ⟨q7, q8, q9, q10, q11⟩, ⟨q12, q13, q14, q15⟩, ⟨q16, q17, q18⟩, ⟨q19, q20⟩, q21⟩ := s.nes
  have f : KW.Fr [d.he] H H' := by rw [hH]; exact Fr.upd (by simp)
  obtain ⟨⟨dx, ob⟩, S0, pe, rt, hl, r16, l9, bd, nn⟩ := s
  exact ⟨⟨dx, f _ _ (by simp [q6]) ob⟩, S0.fr f (by simp [q11]) (by simp [q15]) (by simp [q18]), f _ _ (by simp [q20]) pe, f _ _ (by simp [q21]) rt, by rw [hH]; exact upd_same, r16, by simp; omega, bd, nn⟩
end
/-! promises -/
def spSpInit (CS C : Addr) : Sp := fun vs H Q _ => ∃ (sp dx : Addr), vs = [.ref sp, .int 100000, .int 100000] ∧ H sp = some (.ins CS dx []) ∧ ∀ (d : Spd) H', d.sp = sp → d.al = 0 → d.co = 0 → d.B = [] → d.R = List.replicate 16 0 → d.L = [] → Spc CS C H' d → KW.Fr [sp] H H' → (∀ x ∈ fpP d, x ≠ sp → H x = none) → Q .non H'
def spAllRoots (CS C : Addr) : Sp := fun vs H Q _ => ∃ (d : Spd), vs = [.ref d.sp] ∧ Spc CS C H d ∧ ∀ l H', H l = none → KW.Fr [] H H' → IL H' l d.ws → Q (.ref l) H'
def spSetRoot (CS C : Addr) : Sp := fun vs H Q _ => ∃ (d : Spd) (k : Nat) (z : Int), vs = [.ref d.sp, .int k, .int z] ∧ Spc CS C H d ∧ k < 16 ∧ ∀ H', Spc CS C H' { d with R := d.R.set k z } → KW.Fr [d.ro] H H' → Q .non H'
def spHold (CS C : Addr) : Sp := fun vs H Q _ => ∃ (d : Spd) (z : Int), vs = [.ref d.sp, .int z] ∧ Spc CS C H d ∧ d.L.length < 1000 ∧ ∀ H', Spc CS C H' { d with L := d.L ++ [z] } → KW.Fr [d.he] H H' → Q (.int z) H'
def spCollS (CS C p : Addr) (q : Str) (xs : List V) : Sp := fun vs H Q _ => ∃ (d : Spd), vs = .ref d.sp :: xs ∧ Spc CS C H d ∧ TabS H p q ∧
  ∀ (F : List Int) (H' : Hp) (wd' pl' : Addr), F.Nodup → (∀ n, n ∈ F ↔ Rg (gB d.B) d.ws n) → Spc CS C H' { d with wd := wd', pl := pl', B := kept d.B F, co := d.co + 1 } → H wd' = none → H pl' = none → KW.Fr [d.sp, d.st, d.pl, p] H H' → TabS H' p q → Q (.int (((nums d.B).length : Int) - F.length)) H'
def spNew (CS C : Addr) : Sp := fun vs H Q _ => ∃ (d : Spd) (kd : Int) (n : Nat), vs = [.ref d.sp, .int kd, .int n] ∧ Spc CS C H d ∧ (flat d.B).length + 3 + n ≤ 100000 ∧
  ∀ f H', Free d.B f → Spc CS C H' { d with al := d.al + 1, B := d.B ++ [⟨f, kd, List.replicate n 0, true⟩] } → KW.Fr [d.sp, d.st, d.wd, d.pl] H H' → Q (.int f) H'
def spFitted (CS C : Addr) : Sp := fun vs H Q _ => ∃ (d : Spd) (kd : Int) (n : Nat), vs = [.ref d.sp, .int kd, .int n] ∧ Spc CS C H d ∧ (flat d.B).length + 3 + n ≤ 100000 ∧
  ∀ f H', Free d.B f → Spc CS C H' { d with B := d.B ++ [⟨f, kd, List.replicate n 0, true⟩] } → KW.Fr [d.sp, d.st, d.wd, d.pl] H H' → Q (.int f) H'
def spObjOf (CS C : Addr) : Sp := fun vs H Q _ => ∃ (d : Spd) (z : Int), vs = [.ref d.sp, .int z] ∧ Spc CS C H d ∧ Q (if z % 2 = 0 ∧ lv d.B (z / 2) = true then .int (z / 2) else .non) H
def spRowOf (CS C : Addr) : Sp := fun vs H Q _ => ∃ (d : Spd) (n : Int) (r : List Int), vs = [.ref d.sp, .int n] ∧ Spc CS C H d ∧ gB d.B n = some r ∧ ∀ l H', H l = none → KW.Fr [] H H' → IL H' l r → Q (.ref l) H'
def spGarbage (CS C : Addr) : Sp := fun vs H Q _ => ∃ (d : Spd), vs = [.ref d.sp] ∧ Spc CS C H d ∧
  ∀ l H' (ys : List Int), H l = none → KW.Fr [] H H' → IL H' l ys → ys.Pairwise (· ≤ ·) → ys.Nodup → (∀ n, n ∈ ys ↔ lv d.B n = true ∧ ¬ Rg (gB d.B) d.ws n) → Q (.ref l) H'
/-- a place, as a tuple -/
def Plc.at (H : Hp) (p : Addr) : Plc → Prop
  | .root k => H p = some (.tup [.str (S [114, 111, 111, 116]), .int (k : Int)])
  | .kind n => H p = some (.tup [.str (S [107, 105, 110, 100]), .int n])
  | .slot n j => H p = some (.tup [.str (S [115, 108, 111, 116]), .int n, .int (j : Int)])
theorem Plc.at.fr {H H' : Hp} {p : Addr} {l : List Addr} {c : Plc} (h : c.at H p) (f : KW.Fr l H H') (n : p ∉ l) : c.at H' p := by cases c <;> exact f _ _ n h
theorem Plc.at.fr0 {H H' : Hp} {p : Addr} {c : Plc} (h : c.at H p) (f : KW.Fr [] H H') : c.at H' p := h.fr f (by simp)
theorem Plc.at.ex {H : Hp} {p : Addr} {c : Plc} (h : c.at H p) : ∃ xs, H p = some (.tup xs) := by cases c <;> exact ⟨_, h⟩
/-- the place is there -/
def Plc.ok (g : Gr) : Plc → Prop
  | .root k => k < 16
  | .kind n => ∃ r, g n = some r ∧ 0 < r.length
  | .slot n j => ∃ r, g n = some r ∧ 1 + j < r.length
def spRowW (CS C : Addr) : Sp := fun vs H Q _ => ∃ (d : Spd) (n : Int) (r : List Int) (p : Addr) (c : Plc), vs = [.ref d.sp, .int n, .ref p] ∧ Spc CS C H d ∧ c.at H p ∧ c.ok (gB d.B) ∧ gB d.B n = some r ∧ ∀ l H', H l = none → KW.Fr [] H H' → IL H' l (c.row n r) → Q (.ref l) H'
def spReachW (CS C : Addr) : Sp := fun vs H Q _ => ∃ (d : Spd) (p : Addr) (c : Plc), vs = [.ref d.sp, .ref p] ∧ Spc CS C H d ∧ c.at H p ∧ c.ok (gB d.B) ∧
  ∀ l (F : List Int) (kvs : KVs) (H' : Hp), H l = none → KW.Fr [] H H' → H' l = some (.dK kvs) → Fnd kvs F → F.Nodup → (∀ n, n ∈ F ↔ Rg (c.g (gB d.B)) (0 :: c.roots (d.R ++ d.L)) n) → Q (.ref l) H'
def spRetained (CS C : Addr) : Sp := fun vs H Q _ => ∃ (d : Spd) (p : Addr) (c : Plc), vs = [.ref d.sp, .ref p] ∧ Spc CS C H d ∧ c.at H p ∧ c.ok (gB d.B) ∧
  ∀ l H' (ys : List Int), H l = none → KW.Fr [] H H' → IL H' l ys → ys.Pairwise (· ≤ ·) → ys.Nodup → (∀ n, n ∈ ys ↔ Rg (gB d.B) d.ws n ∧ ¬ Rg (c.g (gB d.B)) (0 :: c.roots (d.R ++ d.L)) n) → Q (.ref l) H'
section
variable {CS C : Addr} {H : Hp} {d : Spd} {Q : VK} {E : XK} {K : Frag} {mg : Str → Option Value}
theorem allRoots_s {x : Addr} (Z : Spc CS C H d) (q : ∀ l H', H l = none → KW.Fr [] H H' → IL H' l d.ws → Q (.ref l) H') (ex : x = d.sp := by rfl) : spAllRoots CS C [.ref x] H Q E := by subst ex; exact ⟨d, rfl, Z, q⟩
theorem setRoot_s {x : Addr} {k : Nat} {z : Int} (Z : Spc CS C H d) (hk : k < 16) (q : ∀ H', Spc CS C H' { d with R := d.R.set k z } → KW.Fr [d.ro] H H' → Q .non H') (ex : x = d.sp := by rfl) : spSetRoot CS C [.ref x, .int k, .int z] H Q E := by subst ex; exact ⟨d, k, z, rfl, Z, hk, q⟩
theorem hold_s {x : Addr} {z : Int} (Z : Spc CS C H d) (h : d.L.length < 1000) (q : ∀ H', Spc CS C H' { d with L := d.L ++ [z] } → KW.Fr [d.he] H H' → Q (.int z) H') (ex : x = d.sp := by rfl) : spHold CS C [.ref x, .int z] H Q E := by subst ex; exact ⟨d, z, rfl, Z, h, q⟩
theorem new_s {x : Addr} {kd : Int} {n : Nat} (Z : Spc CS C H d) (h : (flat d.B).length + 3 + n ≤ 100000) (q : ∀ f H', Free d.B f → Spc CS C H' { d with al := d.al + 1, B := d.B ++ [⟨f, kd, List.replicate n 0, true⟩] } → KW.Fr [d.sp, d.st, d.wd, d.pl] H H' → Q (.int f) H') (ex : x = d.sp := by rfl) : spNew CS C [.ref x, .int kd, .int n] H Q E := by subst ex; exact ⟨d, kd, n, rfl, Z, h, q⟩
theorem objOf_s {x : Addr} {z : Int} (Z : Spc CS C H d) (q : Q (if z % 2 = 0 ∧ lv d.B (z / 2) = true then .int (z / 2) else .non) H) (ex : x = d.sp := by rfl) : spObjOf CS C [.ref x, .int z] H Q E := by subst ex; exact ⟨d, z, rfl, Z, q⟩
theorem rowOf_s {x : Addr} {n : Int} {r : List Int} (Z : Spc CS C H d) (h : gB d.B n = some r) (q : ∀ l H', H l = none → KW.Fr [] H H' → IL H' l r → Q (.ref l) H') (ex : x = d.sp := by rfl) : spRowOf CS C [.ref x, .int n] H Q E := by subst ex; exact ⟨d, n, r, rfl, Z, h, q⟩
theorem garbage_s {x : Addr} (Z : Spc CS C H d) (q : ∀ l H' (ys : List Int), H l = none → KW.Fr [] H H' → IL H' l ys → ys.Pairwise (· ≤ ·) → ys.Nodup → (∀ n, n ∈ ys ↔ lv d.B n = true ∧ ¬ Rg (gB d.B) d.ws n) → Q (.ref l) H') (ex : x = d.sp := by rfl) : spGarbage CS C [.ref x] H Q E := by subst ex; exact ⟨d, rfl, Z, q⟩
theorem rowW_s {x : Addr} {n : Int} {r : List Int} {p : Addr} {c : Plc} (Z : Spc CS C H d) (hc : c.at H p) (ho : c.ok (gB d.B)) (h : gB d.B n = some r) (q : ∀ l H', H l = none → KW.Fr [] H H' → IL H' l (c.row n r) → Q (.ref l) H') (ex : x = d.sp := by rfl) : spRowW CS C [.ref x, .int n, .ref p] H Q E := by subst ex; exact ⟨d, n, r, p, c, rfl, Z, hc, ho, h, q⟩
theorem reachW_s {x : Addr} {p : Addr} {c : Plc} (Z : Spc CS C H d) (hc : c.at H p) (ho : c.ok (gB d.B)) (q : ∀ l (F : List Int) (kvs : KVs) (H' : Hp), H l = none → KW.Fr [] H H' → H' l = some (.dK kvs) → Fnd kvs F → F.Nodup → (∀ n, n ∈ F ↔ Rg (c.g (gB d.B)) (0 :: c.roots (d.R ++ d.L)) n) → Q (.ref l) H') (ex : x = d.sp := by rfl) : spReachW CS C [.ref x, .ref p] H Q E := by subst ex; exact ⟨d, p, c, rfl, Z, hc, ho, q⟩
theorem retained_s {x : Addr} {p : Addr} {c : Plc} (Z : Spc CS C H d) (hc : c.at H p) (ho : c.ok (gB d.B)) (q : ∀ l H' (ys : List Int), H l = none → KW.Fr [] H H' → IL H' l ys → ys.Pairwise (· ≤ ·) → ys.Nodup → (∀ n, n ∈ ys ↔ Rg (gB d.B) d.ws n ∧ ¬ Rg (c.g (gB d.B)) (0 :: c.roots (d.R ++ d.L)) n) → Q (.ref l) H') (ex : x = d.sp := by rfl) : spRetained CS C [.ref x, .ref p] H Q E := by subst ex; exact ⟨d, p, c, rfl, Z, hc, ho, q⟩
theorem met_p {m : Str} {x : Addr} {sp : Sp} {t : TA} {σ : L2.St} (Z : Spc CS C H d) (ex : x = d.sp) (l : (["store", "pressure", "always", "allocations", "collections", "_roots", "_held", "_saved"] : List Str).contains m = false) (q : t σ H fun vs H2 => sp (.ref x :: vs) H2 Q E) : uMet.uMt CS m sp E t σ (.ref x) H Q := by
  subst ex
  obtain ⟨dx, ob⟩ := Z.ob
  refine ⟨dx, _, ob, ?_, q⟩
  simp only [List.contains_cons, List.contains_nil, Bool.or_eq_false_iff, Bool.or_false] at l
  simp only [List.lookup, l]
theorem get_p {Q : VK} {x f : Str} {y : Addr} {v : V} {ns : List Str} (Z : Spc CS C H d) (ex : y = d.sp) (c : ClsA K mg x CS ns) (h : f ∈ ns) (e : List.lookup f ([("store", .ref d.st), ("pressure", .ref d.pr), ("always", .bl false), ("allocations", .int d.al), ("collections", .int d.co), ("_roots", .ref d.ro), ("_held", .ref d.he), ("_saved", .non)] : List (Str × V)) = some v) (q : Q v H) : uGet K f (.ref y) H Q := by
  subst ex
  obtain ⟨dx, ob⟩ := Z.ob
  exact get_l ob c h e q
end
end ST

set_option Elab.async false
set_option linter.all false
set_option maxRecDepth 100000
set_option maxHeartbeats 4000000
/-! SpL: what the laws over a space keep beside it; promises -/
namespace ST
open PySem PySem.Spec PyProof.Rows L2 KW LamX
/-- a list of rows, each with its list -/
structure Rls (H : Hp) (l : Addr) (Ls : List (Addr × List Int)) : Prop where
  li : H l = some (.lst (Ls.map fun x => .ref x.1))
  rs : ∀ x ∈ Ls, IL H x.1 x.2
theorem Rls.fr0 {H H' : Hp} {l : Addr} {Ls : List (Addr × List Int)} (s : Rls H l Ls) (f : KW.Fr [] H H') : Rls H' l Ls := ⟨f _ _ (by simp) s.li, fun x hx => f _ _ (by simp) (s.rs x hx)⟩
def gL (Ls : List (Addr × List Int)) : Gr := fun n => if 0 ≤ n then (Ls[n.toNat]?).map fun x => x.2 else none
/-- the law's own rows and words -/
structure LW (H : Hp) (rw wo : Addr) (D : List RW) (ws : List Int) : Prop where
  R : Rws H rw D
  W : IL H wo ws
  l1 : D.length ≤ 60
  l2 : ∀ d ∈ D, 1 ≤ d.r.length ∧ d.r.length ≤ 30
  l3 : 16 ≤ ws.length
  l4 : ws.length ≤ 100
theorem LW.fr {H H' : Hp} {rw wo : Addr} {D : List RW} {ws : List Int} {l : List Addr} (s : LW H rw wo D ws) (f : KW.Fr l H H') (n : ∀ x ∈ wo :: fpW rw D, x ∉ l) : LW H' rw wo D ws :=
  ⟨s.R.fr f fun x hx => n x (List.mem_cons_of_mem _ hx), f _ _ (n _ (by simp)) s.W, s.l1, s.l2, s.l3, s.l4⟩
theorem LW.fr0 {H H' : Hp} {rw wo : Addr} {D : List RW} {ws : List Int} (s : LW H rw wo D ws) (f : KW.Fr [] H H') : LW H' rw wo D ws := s.fr f fun _ _ => by simp
theorem LW.there {H : Hp} {rw wo : Addr} {D : List RW} {ws : List Int} (s : LW H rw wo D ws) : ∀ x ∈ wo :: fpW rw D, ∃ o, H x = some o := fun x hx => by
  rcases List.mem_cons.mp hx with rfl | q
  · exact ⟨_, s.W⟩
  · exact s.R.there x q
/-- a space and the law's own picture of it -/
structure LS (CS C : Addr) (H : Hp) (d : Spd) (rw wo : Addr) (D : List RW) (ws : List Int) : Prop where
  Z : Spc CS C H d
  Y : LW H rw wo D ws
  e1 : gB d.B = gR D
  e2 : d.R ++ d.L = ws
  bd : (flat d.B).length ≤ 4000
  sep : ∀ x ∈ wo :: fpW rw D, x ∉ fpP d
theorem LS.fr0 {CS C : Addr} {H H' : Hp} {d : Spd} {rw wo : Addr} {D : List RW} {ws : List Int} (s : LS CS C H d rw wo D ws) (f : KW.Fr [] H H') : LS CS C H' d rw wo D ws := ⟨s.Z.fr0 f, s.Y.fr0 f, s.e1, s.e2, s.bd, s.sep⟩
def spSizes : Sp := fun vs H Q _ => ∃ (x : Int), vs = [.int x] ∧ ∀ l H' (zs : List Int), H l = none → KW.Fr [] H H' → IL H' l zs → zs.length ≤ 59 → (∀ z ∈ zs, 0 ≤ z ∧ z ≤ 20) → Q (.ref l) H'
def spRows : Sp := fun vs H Q _ => ∃ (sz : Addr) (x : Int) (zs : List Int), vs = [.ref sz, .int x] ∧ IL H sz zs ∧ zs.length ≤ 59 ∧ (∀ z ∈ zs, 0 ≤ z ∧ z ≤ 20) ∧
  ∀ l H' (Ls : List (Addr × List Int)), H l = none → KW.Fr [] H H' → Rls H' l Ls → Ls.length = zs.length → (∀ x ∈ Ls, H x.1 = none ∧ 1 ≤ x.2.length ∧ x.2.length ≤ 21) → Q (.ref l) H'
def spRootsL : Sp := fun vs H Q _ => ∃ (m x : Int), vs = [.int m, .int x] ∧ 0 ≤ m ∧ m ≤ 1000 ∧ ∀ l H' (ws : List Int), H l = none → KW.Fr [] H H' → IL H' l ws → 16 ≤ ws.length → ws.length ≤ 20 → Q (.ref l) H'
def spSpaceL (CS C : Addr) : Sp := fun vs H Q _ => ∃ (l wo : Addr) (Ls : List (Addr × List Int)) (ws : List Int), vs = [.ref l, .ref wo] ∧ Rls H l Ls ∧ Ls.length ≤ 59 ∧ (∀ x ∈ Ls, 1 ≤ x.2.length ∧ x.2.length ≤ 21) ∧ IL H wo ws ∧ 16 ≤ ws.length ∧ ws.length ≤ 20 ∧
  ∀ (d : Spd) H', Spc CS C H' d → gB d.B = gL Ls → d.R ++ d.L = ws → (flat d.B).length ≤ 4000 → KW.Fr [] H H' → (∀ x ∈ fpP d, H x = none) → Q (.ref d.sp) H'
def spLReached : Sp := fun vs H Q _ => ∃ (rw wo : Addr) (D : List RW) (ws : List Int), vs = [.ref rw, .ref wo] ∧ LW H rw wo D ws ∧
  ∀ l (F : List Int) (kvs : KVs) H', H l = none → KW.Fr [] H H' → H' l = some (.dK kvs) → Fnd kvs F → F.Nodup → (∀ n, n ∈ F ↔ Rg (gR D) (0 :: ws) n) → Q (.ref l) H'
def spEmptied : Sp := fun vs H Q _ => ∃ (rw wo p : Addr) (D : List RW) (ws : List Int) (c : Plc), vs = [.ref rw, .ref wo, .ref p] ∧ LW H rw wo D ws ∧ c.at H p ∧ c.ok (gR D) ∧
  ∀ t cw cl (D' : List RW) H', KW.Fr [] H H' → H t = none → H' t = some (.tup [.ref cw, .ref cl]) → LW H' cw cl D' (c.roots ws) → nsR D' = nsR D → gR D' = c.g (gR D) → (∀ x ∈ cl :: fpW cw D', H x = none) → Q (.ref t) H'
def spPlaceL : Sp := fun vs H Q _ => ∃ (rw : Addr) (x : Int) (D : List RW), vs = [.ref rw, .int x] ∧ Rws H rw D ∧ D.length ≤ 60 ∧ (∀ d ∈ D, 1 ≤ d.r.length ∧ d.r.length ≤ 30) ∧ ∀ p (c : Plc) H', H p = none → KW.Fr [] H H' → c.at H' p → c.ok (gR D) → Q (.ref p) H'
def spDueL : Sp := fun vs H Q _ => ∃ (rw wo p : Addr) (D : List RW) (ws : List Int) (c : Plc), vs = [.ref rw, .ref wo, .ref p] ∧ LW H rw wo D ws ∧ c.at H p ∧ c.ok (gR D) ∧
  ∀ l H' (ys : List Int), H l = none → KW.Fr [] H H' → IL H' l ys → ys.Pairwise (· ≤ ·) → ys.Nodup → (∀ n, n ∈ ys ↔ Rg (gR D) (0 :: ws) n ∧ ¬ Rg (c.g (gR D)) (0 :: c.roots ws) n) → Q (.ref l) H'
def spAgreesL (CS C : Addr) : Sp := fun vs H Q _ => ∃ (d : Spd) (rw wo : Addr) (D : List RW) (ws : List Int), vs = [.ref d.sp, .ref rw, .ref wo] ∧ LS CS C H d rw wo D ws ∧ ∀ H', KW.Fr [] H H' → Q (.bl true) H'
/-- what _law_still notes -/
def Stl (H : Hp) (l : Addr) (d : Spd) : Prop := ∃ x y, H l = some (.lst [.ref x, .int d.al, .int d.co, .ref y, .bl false]) ∧ IL H x (flat d.B) ∧ H y = some (.lst [])
theorem Stl.fr0 {H H' : Hp} {l : Addr} {d : Spd} (s : Stl H l d) (f : KW.Fr [] H H') : Stl H' l d := by
  obtain ⟨x, y, h1, h2, h3⟩ := s
  exact ⟨x, y, f _ _ (by simp) h1, f _ _ (by simp) h2, f _ _ (by simp) h3⟩
def stD (d : Spd) : PyData := .list [.list ((flat d.B).map PyData.int), .int d.al, .int d.co, .list [], .bool false]
theorem Stl.dp {K : Frag} {H : Hp} {l : Addr} {d : Spd} (s : Stl H l d) : Dp K H (.ref l) (stD d) := by
  obtain ⟨x, y, h1, h2, h3⟩ := s
  exact .lst (.of h1) (.cons (.lst (.of h2) (dpAll_ints _)) (.cons (.int _) (.cons (.int _) (.cons (.lst (.of h3) .nil) (.cons (.bl _) .nil)))))
theorem stD_sh (d : Spd) : SeqAt.shaped (stD d) = true := by
  have h1 := lay_ints (flat d.B)
  have h2 := dep_ints (flat d.B)
  have e : SeqAt.shaped (stD d) = ((PyData.canLayAll0 ((flat d.B).map PyData.int) && (true && (true && (true && (true && true))))) && decide (max (PyData.depthAll ((flat d.B).map PyData.int) + 1) (max 0 (max 0 (max (0 + 1) (max 0 0)))) + 1 ≤ 64)) := rfl
  rw [e, h1, h2]; decide
theorem still_ne {K : Frag} {H : Hp} {l m : Addr} {d : Spd} {Q : VK} (s : Stl H l d) (t : Stl H m d) (q : Q (.bl false) H) : rNeD K (.ref l) (.ref m) H Q := neD_s s.dp t.dp (stD_sh d) q
def spStill (CS C : Addr) : Sp := fun vs H Q _ => ∃ (d : Spd), vs = [.ref d.sp] ∧ Spc CS C H d ∧ ∀ l H', H l = none → KW.Fr [] H H' → Stl H' l d → Q (.ref l) H'
def spChainedL : Sp := fun vs H Q _ => ∃ (n : Int), vs = [.int n] ∧ 2 ≤ n ∧ n ≤ 2000 ∧ ∀ H', KW.Fr [] H H' → Q (.bl true) H'
def spFreed (CS C p0 : Addr) (q : Str) : Sp := fun vs H Q _ => ∃ (d : Spd) (rw wo p : Addr) (D : List RW) (ws : List Int) (c : Plc), vs = [.ref d.sp, .ref rw, .ref wo, .ref p] ∧ LS CS C H d rw wo D ws ∧ c.at H p ∧ c.ok (gR D) ∧ TabS H p0 q ∧
  ∀ (d' : Spd) t lw lo (D' : List RW) (ws' : List Int) H', d'.sp = d.sp → LS CS C H' d' lw lo D' ws' → H' t = some (.tup [.ref lw, .ref lo]) → (∀ x ∈ fpP d', x ∈ fpP d ∨ H x = none) → KW.Fr (p0 :: fpP d) H H' → TabS H' p0 q → Q (.ref t) H'
section
variable {CS C : Addr} {H : Hp} {d : Spd} {Q : VK} {E : XK} {rw wo p : Addr} {D : List RW} {ws : List Int} {c : Plc}
theorem lreached_s (Y : LW H rw wo D ws) (q : ∀ l (F : List Int) (kvs : KVs) H', H l = none → KW.Fr [] H H' → H' l = some (.dK kvs) → Fnd kvs F → F.Nodup → (∀ n, n ∈ F ↔ Rg (gR D) (0 :: ws) n) → Q (.ref l) H') : spLReached [.ref rw, .ref wo] H Q E := ⟨rw, wo, D, ws, rfl, Y, q⟩
theorem emptied_s (Y : LW H rw wo D ws) (hc : c.at H p) (ho : c.ok (gR D)) (q : ∀ t cw cl (D' : List RW) H', KW.Fr [] H H' → H t = none → H' t = some (.tup [.ref cw, .ref cl]) → LW H' cw cl D' (c.roots ws) → nsR D' = nsR D → gR D' = c.g (gR D) → (∀ x ∈ cl :: fpW cw D', H x = none) → Q (.ref t) H') : spEmptied [.ref rw, .ref wo, .ref p] H Q E := ⟨rw, wo, p, D, ws, c, rfl, Y, hc, ho, q⟩
theorem place_s {x : Int} (R : Rws H rw D) (l1 : D.length ≤ 60) (l2 : ∀ d ∈ D, 1 ≤ d.r.length ∧ d.r.length ≤ 30) (q : ∀ p (c : Plc) H', H p = none → KW.Fr [] H H' → c.at H' p → c.ok (gR D) → Q (.ref p) H') : spPlaceL [.ref rw, .int x] H Q E := ⟨rw, x, D, rfl, R, l1, l2, q⟩
theorem due_s (Y : LW H rw wo D ws) (hc : c.at H p) (ho : c.ok (gR D)) (q : ∀ l H' (ys : List Int), H l = none → KW.Fr [] H H' → IL H' l ys → ys.Pairwise (· ≤ ·) → ys.Nodup → (∀ n, n ∈ ys ↔ Rg (gR D) (0 :: ws) n ∧ ¬ Rg (c.g (gR D)) (0 :: c.roots ws) n) → Q (.ref l) H') : spDueL [.ref rw, .ref wo, .ref p] H Q E := ⟨rw, wo, p, D, ws, c, rfl, Y, hc, ho, q⟩
theorem agreesL_s {x : Addr} (Z : LS CS C H d rw wo D ws) (q : ∀ H', KW.Fr [] H H' → Q (.bl true) H') (ex : x = d.sp := by rfl) : spAgreesL CS C [.ref x, .ref rw, .ref wo] H Q E := by subst ex; exact ⟨d, rw, wo, D, ws, rfl, Z, q⟩
theorem still_s {x : Addr} (Z : Spc CS C H d) (q : ∀ l H', H l = none → KW.Fr [] H H' → Stl H' l d → Q (.ref l) H') (ex : x = d.sp := by rfl) : spStill CS C [.ref x] H Q E := by subst ex; exact ⟨d, rfl, Z, q⟩
end
end ST

set_option Elab.async false
set_option linter.all false
set_option maxRecDepth 100000
set_option maxHeartbeats 4000000
/-! SpR: rows dicts that change -/
namespace ST
open PySem PySem.Spec PyProof.Rows L2 KW LamX
theorem tYes_if {σ : L2.St} {H : Hp} {A B : Hp → Prop} (q : A H) : tYes σ H fun b H3 => if b = true then A H3 else B H3 := by show (if true = true then A H else B H); rw [if_pos rfl]; exact q
def putR (D : List RW) (e : RW) : List RW := if e.n ∈ nsR D then D.map (fun d => if d.n = e.n then e else d) else D ++ [e]
abbrev nrR (D : List RW) : List (Int × List Int) := D.map fun d => (d.n, d.r)
def mapR (f : Int → List Int → List Int) (D : List RW) : List RW := D.map fun d => { d with r := f d.n d.r }
theorem kvR_app (D E : List RW) : kvR (D ++ E) = kvR D ++ kvR E := by unfold kvR; rw [List.map_append]
theorem kvR_put (D : List RW) (n : Int) (t : Addr) (r : List Int) : putK (kvR D) (.inl n) (.ref t) = kvR (putR D ⟨n, r, t⟩) := by
  unfold putR
  by_cases c : n ∈ nsR D
  · rw [if_pos c]
    unfold putK
    rw [if_pos (by rw [valV_any, val_is]; exact decide_eq_true c)]
    unfold kvR
    rw [List.map_map, List.map_map]
    apply List.map_congr_left
    intro d _
    by_cases e : d.n = n
    · subst e; simp
    · simp [Function.comp, inl_eq, e]
  · rw [if_neg c, kvR_app]
    unfold putK
    rw [if_neg (by rw [valV_any, val_is]; simpa using c)]
    rfl
theorem nsR_put (D : List RW) (e : RW) : nsR (putR D e) = if e.n ∈ nsR D then nsR D else nsR D ++ [e.n] := by
  unfold putR
  split
  · unfold nsR
    rw [List.map_map]
    apply List.map_congr_left
    intro d _
    simp only [Function.comp]
    split
    · rename_i c; exact c.symm
    · rfl
  · simp [nsR]
theorem putR_nd {D : List RW} {e : RW} (h : (nsR D).Nodup) : (nsR (putR D e)).Nodup := by
  rw [nsR_put]
  split
  · exact h
  · rename_i c
    rw [List.nodup_append]
    exact ⟨h, by simp, fun a ha b hb z => by simp at hb; subst hb; subst z; exact c ha⟩
theorem mem_putR {D : List RW} {e d : RW} (h : d ∈ putR D e) : d = e ∨ d ∈ D := by
  unfold putR at h
  split at h
  · obtain ⟨d', hd', rfl⟩ := List.mem_map.mp h
    split
    · exact .inl rfl
    · exact .inr hd'
  · rcases List.mem_append.mp h with q | q
    · exact .inr q
    · simp at q; exact .inl q
theorem putR_new {D : List RW} {e : RW} (h : e.n ∉ nsR D) : putR D e = D ++ [e] := by unfold putR; rw [if_neg h]
theorem putR_len (D : List RW) (e : RW) : (putR D e).length ≤ D.length + 1 := by unfold putR; split <;> simp
theorem gR_iff {D : List RW} (nd : (nsR D).Nodup) {n : Int} {r : List Int} : gR D n = some r ↔ ∃ d ∈ D, d.n = n ∧ d.r = r :=
  ⟨gR_ex, fun ⟨d, h1, h2, h3⟩ => by rw [← h2, ← h3]; exact gR_at nd h1⟩
theorem putR_e (D : List RW) (e : RW) : e ∈ putR D e := by
  unfold putR
  split
  · rename_i h
    obtain ⟨d, h1, h2⟩ := List.mem_map.mp h
    exact List.mem_map.mpr ⟨d, h1, by rw [if_pos h2]⟩
  · simp
theorem putR_o {D : List RW} {e d : RW} (h : d ∈ D) (c : d.n ≠ e.n) : d ∈ putR D e := by
  unfold putR
  split
  · exact List.mem_map.mpr ⟨d, h, by rw [if_neg c]⟩
  · simp [h]
theorem gR_put {D : List RW} {e : RW} (nd : (nsR D).Nodup) (n : Int) : gR (putR D e) n = if n = e.n then some e.r else gR D n := by
  by_cases c : n = e.n
  · rw [if_pos c, c]; exact gR_at (putR_nd nd) (putR_e D e)
  · rw [if_neg c]
    refine opt_ext fun r => ?_
    rw [gR_iff (putR_nd nd), gR_iff nd]
    constructor
    · rintro ⟨d, h1, h2, h3⟩
      rcases mem_putR h1 with q | q
      · subst q; exact absurd h2.symm c
      · exact ⟨d, q, h2, h3⟩
    · rintro ⟨d, h1, h2, h3⟩
      exact ⟨d, putR_o h1 (by rw [h2]; exact c), h2, h3⟩
theorem gR_eq {D E : List RW} (h : nrR D = nrR E) : gR D = gR E := by
  have key : ∀ (A : List RW) n, gR A n = ((nrR A).find? fun p => decide (p.1 = n)).map fun p => p.2 := fun A n => by
    unfold gR nrR
    rw [List.find?_map, Option.map_map]; rfl
  funext n
  rw [key, key, h]
theorem nsR_eq {D E : List RW} (h : nrR D = nrR E) : nsR D = nsR E := by
  have key : ∀ A : List RW, nsR A = (nrR A).map fun p => p.1 := fun A => by unfold nsR nrR; rw [List.map_map]; rfl
  rw [key, key, h]
theorem kvR_map (f : Int → List Int → List Int) (D : List RW) : kvR (mapR f D) = kvR D := by unfold kvR mapR; rw [List.map_map]; rfl
theorem nsR_map (f : Int → List Int → List Int) (D : List RW) : nsR (mapR f D) = nsR D := by unfold nsR mapR; rw [List.map_map]; rfl
theorem gR_map (f : Int → List Int → List Int) (D : List RW) (n : Int) : gR (mapR f D) n = (gR D n).map (f n) := by
  unfold gR mapR
  rw [List.find?_map, Option.map_map, Option.map_map]
  have : ((fun d : RW => decide (d.n = n)) ∘ fun d : RW => ({ d with r := f d.n d.r } : RW)) = fun d => decide (d.n = n) := rfl
  rw [this]
  cases e : D.find? fun d => decide (d.n = n) with
  | none => rfl
  | some d => obtain ⟨_, h⟩ := find_ex e; subst h; rfl
theorem fpW_map (f : Int → List Int → List Int) (rw : Addr) (D : List RW) : fpW rw (mapR f D) = fpW rw D := by unfold fpW mapR; rw [List.map_map]; rfl
/-- copies of rows -/
structure Cps (H : Hp) (q : Addr) (D D' : List RW) (H' : Hp) : Prop where
  dc : H' q = some (.dK (kvR D'))
  e : nrR D' = nrR D
  rs : ∀ d ∈ D', IL H' d.a d.r
  fr : ∀ d ∈ D', H d.a = none ∧ d.a ≠ q
  na : (D'.map fun d => d.a).Nodup
theorem Cps.fr0 {H H' H'' : Hp} {q : Addr} {D D' : List RW} (s : Cps H q D D' H') (f : KW.Fr [] H' H'') : Cps H q D D' H'' :=
  ⟨f _ _ (by simp) s.dc, s.e, fun d hd => f _ _ (by simp) (s.rs d hd), s.fr, s.na⟩
theorem Cps.nil {H H' : Hp} {q : Addr} (h : H' q = some (.dK [])) : Cps H q [] [] H' := ⟨h, rfl, (fun d h => by cases h), (fun d h => by cases h), by simp⟩
theorem a_inj {D : List RW} (h : (D.map fun d => d.a).Nodup) {d e : RW} (h1 : d ∈ D) (h2 : e ∈ D) (c : d.a = e.a) : d = e := by
  obtain ⟨i, hi⟩ := List.getElem?_of_mem h1
  obtain ⟨j, hj⟩ := List.getElem?_of_mem h2
  have q1 : (D.map fun d => d.a)[i]? = some d.a := by rw [List.getElem?_map, hi]; rfl
  have q2 : (D.map fun d => d.a)[j]? = some e.a := by rw [List.getElem?_map, hj]; rfl
  rw [← c, ← q1] at q2
  have : i = j := (List.getElem?_inj (List.getElem?_eq_some_iff.mp q1).1 h).mp q2.symm
  subst this
  rw [hi] at hj; exact Option.some.inj hj
/-- one more copy -/
theorem Cps.add {H H' : Hp} {q t : Addr} {D D' : List RW} {d : RW} (s : Cps H q D D' H') (n1 : H t = none) (ht : H' t = none) (hn : d.n ∉ nsR D) : Cps H q (D ++ [d]) (D' ++ [⟨d.n, d.r, t⟩]) (upd (upd H' t (.lst (d.r.map V.int))) q (.dK (putK (kvR D') (.inl d.n) (.ref t)))) := by
  have tq : t ≠ q := fun z => by rw [z, s.dc] at ht; cases ht
  have hn2 : d.n ∉ nsR D' := by rw [nsR_eq s.e]; exact hn
  refine ⟨?_, ?_, fun x hx => ?_, fun x hx => ?_, ?_⟩
  · rw [upd_same, kvR_put D' d.n t d.r, putR_new (e := ⟨d.n, d.r, t⟩) hn2]
  · have := s.e
    unfold nrR at this ⊢
    rw [List.map_append, List.map_append, this]; rfl
  · rcases List.mem_append.mp hx with m | m
    · show upd _ _ _ _ = _
      rw [upd_ne (s.fr x m).2, upd_ne (fun z => by have := s.rs x m; rw [z] at this; rw [this] at ht; cases ht)]; exact s.rs x m
    · simp at m; subst m
      show upd _ _ _ _ = _
      rw [upd_ne tq, upd_same]
  · rcases List.mem_append.mp hx with m | m
    · exact s.fr x m
    · simp at m; subst m; exact ⟨n1, tq⟩
  · rw [List.map_append, List.nodup_append]
    refine ⟨s.na, by simp, fun a ha b hb z => ?_⟩
    simp at hb; subst hb; subst z
    obtain ⟨x, hx, e⟩ := List.mem_map.mp ha
    have := s.rs x hx
    rw [e] at this; rw [this] at ht; cases ht
theorem Cps.frl {H H' H'' : Hp} {q z : Addr} {o : HO} {D D' : List RW} (s : Cps H q D D' H') (f : KW.Fr [z] H' H'') (hz : H z = some o) (hq : q ≠ z) : Cps H q D D' H'' :=
  ⟨f _ _ (by simpa using hq) s.dc, s.e, fun d hd => f _ _ (by simp; intro e; have := (s.fr d hd).1; rw [e, hz] at this; cases this) (s.rs d hd), s.fr, s.na⟩
theorem take_s {α : Type} {l : List α} {i : Nat} {x : α} (h : l[i]? = some x) : l.take (i + 1) = l.take i ++ [x] := by rw [List.take_add_one, h]; rfl
theorem nsR_i {D : List RW} {i : Nat} {x : Int} (h : (nsR D)[i]? = some x) : ∃ d, D[i]? = some d ∧ d.n = x := by
  unfold nsR at h
  rw [List.getElem?_map] at h
  obtain ⟨d, h1, h2⟩ := Option.map_eq_some_iff.mp h
  exact ⟨d, h1, h2⟩
theorem nsR_take {D : List RW} (nd : (nsR D).Nodup) {i : Nat} {d : RW} (h : D[i]? = some d) : d.n ∉ nsR (D.take i) := fun m => by
  unfold nsR at m
  rw [List.map_take] at m
  have e : (nsR D)[i]? = some d.n := by unfold nsR; rw [List.getElem?_map, h]; rfl
  obtain ⟨j, hj⟩ := List.getElem?_of_mem m
  have lt := (List.getElem?_eq_some_iff.mp hj).1
  rw [List.length_take] at lt
  have hj2 : (nsR D)[j]? = some d.n := by
    rw [← hj, List.getElem?_take]; rw [if_pos (by omega)]
  rw [← e] at hj2
  have := (List.getElem?_inj (by unfold nsR; omega) nd).mp hj2
  omega
theorem Fr.atL {l : List Addr} {H H' : Hp} {q : Addr} {o : HO} (f : KW.Fr l H H') (h : H q = none) : KW.Fr l H (L2.upd H' q o) := fun b u n e => by
  rw [upd_ne (ne_of_none e h)]; exact f b u n e
theorem Cps.lens {H H' : Hp} {q : Addr} {D D' : List RW} {m M : Nat} (s : Cps H q D D' H') (h : ∀ d ∈ D, m ≤ d.r.length ∧ d.r.length ≤ M) : D'.length = D.length ∧ ∀ d ∈ D', m ≤ d.r.length ∧ d.r.length ≤ M := by
  refine ⟨?_, fun d hd => ?_⟩
  · have h1 := congrArg List.length s.e
    rwa [List.length_map, List.length_map] at h1
  · have : (d.n, d.r) ∈ nrR D := by rw [← s.e]; exact List.mem_map.mpr ⟨d, hd, rfl⟩
    obtain ⟨x, hx, e⟩ := List.mem_map.mp this
    have e2 : x.r = d.r := congrArg Prod.snd e
    rw [← e2]; exact h x hx
/-- one copy is changed -/
theorem Cps.rws {H H' : Hp} {q : Addr} {D D' : List RW} {f : Int → List Int → List Int} {d : RW} (s : Cps H q D D' H') (nd : (nsR D).Nodup) (hd : d ∈ D') (h : ∀ n r, n ≠ d.n → f n r = r) : Rws (upd H' d.a (.lst ((f d.n d.r).map V.int))) q (mapR f D') := by
  refine ⟨?_, fun x hx => ?_, ?_⟩
  · rw [upd_ne (Ne.symm (s.fr d hd).2), kvR_map]; exact s.dc
  · unfold mapR at hx
    obtain ⟨e, he, rfl⟩ := List.mem_map.mp hx
    show upd _ _ _ _ = _
    by_cases c : e.a = d.a
    · have := a_inj s.na he hd c
      subst this; exact upd_same
    · rw [upd_ne c]
      dsimp only
      rw [h e.n e.r (fun z => c (by
        have h1 : (nsR D').Nodup := by rw [nsR_eq s.e]; exact nd
        have h2 := find_rw h1 he
        rw [z, find_rw h1 hd] at h2
        rw [Option.some.inj h2]))]
      exact s.rs e he
  · rw [nsR_map, nsR_eq s.e]; exact nd
theorem Cps.rws0 {H H' : Hp} {q : Addr} {D D' : List RW} (s : Cps H q D D' H') (nd : (nsR D).Nodup) : Rws H' q D' := ⟨s.dc, s.rs, by rw [nsR_eq s.e]; exact nd⟩
end ST

set_option Elab.async false
set_option linter.all false
set_option maxRecDepth 100000
set_option maxHeartbeats 4000000
/-! SpG: a space in the heap, of any room, with moments; promises -/
namespace ST
open PySem PySem.Spec PyProof.Rows L2 KW LamX
structure Gd where
  (sp st wd pl pr ro he : Addr)
  (rm en al co : Int)
  aw : Bool
  sv : V
  P : List Int
  B : List Blk
  R : List Int
  L : List Int
abbrev fpG (d : Gd) : List Addr := [d.sp, d.st, d.wd, d.pl, d.pr, d.ro, d.he]
abbrev Gd.ws (d : Gd) : List Int := 0 :: (d.R ++ d.L)
abbrev Gd.flds (d : Gd) : List (Str × V) := [("store", .ref d.st), ("pressure", .ref d.pr), ("always", .bl d.aw), ("allocations", .int d.al), ("collections", .int d.co), ("_roots", .ref d.ro), ("_held", .ref d.he), ("_saved", d.sv)]
structure Gpc (CS C : Addr) (H : Hp) (d : Gd) : Prop where
  ob : ∃ dx, H d.sp = some (.ins CS dx d.flds)
  S : Sto C H d.st d.wd d.pl d.rm d.en d.B
  pe : IL H d.pr d.P
  rt : IL H d.ro d.R
  hl : IL H d.he d.L
  r16 : d.R.length = 16
  l9 : d.L.length ≤ 1000
  p9 : d.P.length ≤ 1000
  rb : d.rm ≤ 100000
  eb : 0 ≤ d.en ∧ d.en ≤ 100000
  bd : (flat d.B).length ≤ 100000
  nn : (fpG d).Nodup
section
variable {CS C : Addr} {H H' : Hp} {d : Gd}
theorem Gpc.fr {l : List Addr} (s : Gpc CS C H d) (f : KW.Fr l H H') (n : ∀ x ∈ fpG d, x ∉ l) : Gpc CS C H' d := by
  obtain ⟨⟨dx, ob⟩, S, pe, rt, hl, r16, l9, p9, rb, eb, bd, nn⟩ := s
  exact ⟨⟨dx, f _ _ (n _ (by simp)) ob⟩, S.fr f (n _ (by simp)) (n _ (by simp)) (n _ (by simp)), f _ _ (n _ (by simp)) pe, f _ _ (n _ (by simp)) rt, f _ _ (n _ (by simp)) hl, r16, l9, p9, rb, eb, bd, nn⟩
theorem Gpc.fr0 (s : Gpc CS C H d) (f : KW.Fr [] H H') : Gpc CS C H' d := s.fr f fun _ _ => by simp
theorem Gpc.pln (s : Gpc CS C H d) : ∀ x ∈ fpG d, ∃ o, H x = some o ∧ Pln o := by
  obtain ⟨⟨dx, ob⟩, S, pe, rt, hl, r16, l9, p9, rb, eb, bd, nn⟩ := s
  intro x hx
  simp only [List.mem_cons, List.not_mem_nil, or_false] at hx
  rcases hx with rfl | rfl | rfl | rfl | rfl | rfl | rfl
  · exact ⟨_, ob, pln_ins⟩
  · exact S.pln _ (by simp)
  · exact S.pln _ (by simp)
  · exact S.pln _ (by simp)
  · exact ⟨_, pe, pln_lst⟩
  · exact ⟨_, rt, pln_lst⟩
  · exact ⟨_, hl, pln_lst⟩
theorem Gpc.there (s : Gpc CS C H d) : ∀ x ∈ fpG d, ∃ o, H x = some o := fun x hx => let ⟨o, h, _⟩ := s.pln x hx; ⟨o, h⟩
theorem Gpc.nes (s : Gpc CS C H d) : (d.sp ≠ d.st ∧ d.sp ≠ d.wd ∧ d.sp ≠ d.pl ∧ d.sp ≠ d.pr ∧ d.sp ≠ d.ro ∧ d.sp ≠ d.he) ∧ (d.st ≠ d.wd ∧ d.st ≠ d.pl ∧ d.st ≠ d.pr ∧ d.st ≠ d.ro ∧ d.st ≠ d.he) ∧ (d.wd ≠ d.pl ∧ d.wd ≠ d.pr ∧ d.wd ≠ d.ro ∧ d.wd ≠ d.he) ∧ (d.pl ≠ d.pr ∧ d.pl ≠ d.ro ∧ d.pl ≠ d.he) ∧ (d.pr ≠ d.ro ∧ d.pr ≠ d.he) ∧ d.ro ≠ d.he := by
  have := s.nn
  simp only [fpG, List.nodup_cons, List.mem_cons, List.not_mem_nil, or_false, not_or, not_false_eq_true, List.nodup_nil, and_true] at this
  exact this
theorem Gpc.np {p : Addr} {q : Str} (s : Gpc CS C H d) (t : TabS H p q) : p ∉ fpG d := fun z => by
  obtain ⟨o, h1, h2⟩ := s.pln p z
  exact t.ne h1 h2.1 rfl
/-- the store changed in its words -/
theorem Gpc.word {B : List Blk} (s : Gpc CS C H d) (S : Sto C H' d.st d.wd d.pl d.rm d.en B) (f : KW.Fr [d.wd] H H') (hb : (flat B).length ≤ 100000) : Gpc CS C H' { d with B := B } := by
  obtain ⟨⟨q1, q2, q3, q4, q5, q6⟩, ⟨q7, q8, q9, q10, q11⟩, ⟨q12, q13, q14, q15⟩, ⟨q16, q17, q18⟩, ⟨q19, q20⟩, q21⟩ := s.nes
  obtain ⟨⟨dx, ob⟩, S0, pe, rt, hl, r16, l9, p9, rb, eb, bd, nn⟩ := s
  exact ⟨⟨dx, f _ _ (by simp [q2]) ob⟩, S, f _ _ (by simp [Ne.symm q13]) pe, f _ _ (by simp [Ne.symm q14]) rt, f _ _ (by simp [Ne.symm q15]) hl, r16, l9, p9, rb, eb, hb, nn⟩
theorem Gpc.app {B : List Blk} (s : Gpc CS C H d) (S : Sto C H' d.st d.wd d.pl d.rm d.en B) (f : KW.Fr [d.st, d.wd, d.pl] H H') (hb : (flat B).length ≤ 100000) : Gpc CS C H' { d with B := B } := by
  obtain ⟨⟨q1, q2, q3, q4, q5, q6⟩, ⟨q7, q8, q9, q10, q11⟩, ⟨q12, q13, q14, q15⟩, ⟨q16, q17, q18⟩, ⟨q19, q20⟩, q21⟩ := s.nes
  obtain ⟨⟨dx, ob⟩, S0, pe, rt, hl, r16, l9, p9, rb, eb, bd, nn⟩ := s
  exact ⟨⟨dx, f _ _ (by simp [q1, q2, q3]) ob⟩, S, f _ _ (by simp [Ne.symm q9, Ne.symm q13, Ne.symm q16]) pe, f _ _ (by simp [Ne.symm q10, Ne.symm q14, Ne.symm q17]) rt, f _ _ (by simp [Ne.symm q11, Ne.symm q15, Ne.symm q18]) hl, r16, l9, p9, rb, eb, hb, nn⟩
/-- the space's own fields changed, all lists stand -/
theorem Gpc.own {al co : Int} {aw : Bool} {sv : V} {dx : Addr} (s : Gpc CS C H d) (hH : H' = upd H d.sp (.ins CS dx { d with al := al, co := co, aw := aw, sv := sv }.flds)) : Gpc CS C H' { d with al := al, co := co, aw := aw, sv := sv } := by
  obtain ⟨⟨q1, q2, q3, q4, q5, q6⟩, ⟨q7, q8, q9, q10, q11⟩, ⟨q12, q13, q14, q15⟩, ⟨q16, q17, q18⟩, ⟨q19, q20⟩, q21⟩ := s.nes
  have f : KW.Fr [d.sp] H H' := by rw [hH]; exact Fr.upd (by simp)
  obtain ⟨⟨dx', ob⟩, S0, pe, rt, hl, r16, l9, p9, rb, eb, bd, nn⟩ := s
  exact ⟨⟨dx, by rw [hH]; exact upd_same⟩, S0.fr f (by simp [Ne.symm q1]) (by simp [Ne.symm q2]) (by simp [Ne.symm q3]), f _ _ (by simp [Ne.symm q4]) pe, f _ _ (by simp [Ne.symm q5]) rt, f _ _ (by simp [Ne.symm q6]) hl, r16, l9, p9, rb, eb, bd, nn⟩
theorem Gpc.press {pr' dx : Addr} {P : List Int} {aw : Bool} (s : Gpc CS C H d) (n : pr' ∉ fpG d) (hp : IL H' pr' P) (hP : P.length ≤ 1000) (f : KW.Fr [d.sp] H H') (hs : H' d.sp = some (.ins CS dx { d with pr := pr', aw := aw }.flds)) : Gpc CS C H' { d with pr := pr', aw := aw, P := P } := by
  obtain ⟨⟨q1, q2, q3, q4, q5, q6⟩, ⟨q7, q8, q9, q10, q11⟩, ⟨q12, q13, q14, q15⟩, ⟨q16, q17, q18⟩, ⟨q19, q20⟩, q21⟩ := s.nes
  obtain ⟨⟨dx', ob⟩, S0, pe, rt, hl, r16, l9, p9, rb, eb, bd, nn⟩ := s
  simp only [fpG, List.mem_cons, List.not_mem_nil, or_false, not_or] at n
  obtain ⟨n1, n2, n3, n4, n5, n6, n7⟩ := n
  refine ⟨⟨dx, hs⟩, S0.fr f (by simp [Ne.symm q1]) (by simp [Ne.symm q2]) (by simp [Ne.symm q3]), hp, f _ _ (by simp [Ne.symm q5]) rt, f _ _ (by simp [Ne.symm q6]) hl, r16, l9, hP, rb, eb, bd, ?_⟩
  simp only [fpG, List.nodup_cons, List.mem_cons, List.not_mem_nil, or_false, not_or, not_false_eq_true, List.nodup_nil, and_true]
  exact ⟨⟨q1, q2, q3, Ne.symm n1, q5, q6⟩, ⟨q7, q8, Ne.symm n2, q10, q11⟩, ⟨q12, Ne.symm n3, q14, q15⟩, ⟨Ne.symm n4, q17, q18⟩, ⟨n6, n7⟩, q21⟩
theorem Gpc.col {B : List Blk} {wd' pl' p : Addr} (s : Gpc CS C H d) (S : Sto C H' d.st wd' pl' d.rm d.en B) (f : KW.Fr [d.st, d.pl, p] H H') (hp : p ∉ fpG d) (n1 : H wd' = none) (n2 : H pl' = none) (hb : (flat B).length ≤ 100000) : Gpc CS C H' { d with wd := wd', pl := pl', B := B } := by
  obtain ⟨⟨q1, q2, q3, q4, q5, q6⟩, ⟨q7, q8, q9, q10, q11⟩, ⟨q12, q13, q14, q15⟩, ⟨q16, q17, q18⟩, ⟨q19, q20⟩, q21⟩ := s.nes
  have w1 := notin_of n1 s.there
  have w2 := notin_of n2 s.there
  obtain ⟨⟨dx, ob⟩, S0, pe, rt, hl, r16, l9, p9, rb, eb, bd, nn⟩ := s
  simp only [fpG, List.mem_cons, List.not_mem_nil, or_false, not_or] at hp w1 w2
  obtain ⟨p1, p2, p3, p4, p5, p6, p7⟩ := hp
  obtain ⟨x1, x2, x3, x4, x5, x6, x7⟩ := w1
  obtain ⟨y1, y2, y3, y4, y5, y6, y7⟩ := w2
  refine ⟨⟨dx, f _ _ (by simp [q1, q3, Ne.symm p1]) ob⟩, S, f _ _ (by simp [Ne.symm q9, Ne.symm q16, Ne.symm p5]) pe, f _ _ (by simp [Ne.symm q10, Ne.symm q17, Ne.symm p6]) rt, f _ _ (by simp [Ne.symm q11, Ne.symm q18, Ne.symm p7]) hl, r16, l9, p9, rb, eb, hb, ?_⟩
  simp only [fpG, List.nodup_cons, List.mem_cons, List.not_mem_nil, or_false, not_or, not_false_eq_true, List.nodup_nil, and_true]
  exact ⟨⟨q1, Ne.symm x1, Ne.symm y1, q4, q5, q6⟩, ⟨Ne.symm x2, Ne.symm y2, q9, q10, q11⟩, ⟨S.wp, x5, x6, x7⟩, ⟨y5, y6, y7⟩, ⟨q19, q20⟩, q21⟩
theorem Gpc.root {k : Nat} {z : Int} (s : Gpc CS C H d) (hH : H' = upd H d.ro (.lst ((d.R.set k z).map V.int))) : Gpc CS C H' { d with R := d.R.set k z } := by
  obtain ⟨⟨q1, q2, q3, q4, q5, q6⟩, ⟨q7, q8, q9, q10, q11⟩, ⟨q12, q13, q14, q15⟩, ⟨q16, q17, q18⟩, ⟨q19, q20⟩, q21⟩ := s.nes
  have f : KW.Fr [d.ro] H H' := by rw [hH]; exact Fr.upd (by simp)
  obtain ⟨⟨dx, ob⟩, S0, pe, rt, hl, r16, l9, p9, rb, eb, bd, nn⟩ := s
  exact ⟨⟨dx, f _ _ (by simp [q5]) ob⟩, S0.fr f (by simp [q10]) (by simp [q14]) (by simp [q17]), f _ _ (by simp [q19]) pe, by rw [hH]; exact upd_same, f _ _ (by simp [Ne.symm q21]) hl, by simp [r16], l9, p9, rb, eb, bd, nn⟩
theorem Gpc.held {L : List Int} (s : Gpc CS C H d) (h9 : L.length ≤ 1000) (hH : H' = upd H d.he (.lst (L.map V.int))) : Gpc CS C H' { d with L := L } := by
  obtain ⟨⟨q1, q2, q3, q4, q5, q6⟩, ⟨q7, q8, q9, q10, q11⟩, ⟨q12, q13, q14, q15⟩, ⟨q16, q17, q18⟩, ⟨q19, q20⟩, q21⟩ := s.nes
  have f : KW.Fr [d.he] H H' := by rw [hH]; exact Fr.upd (by simp)
  obtain ⟨⟨dx, ob⟩, S0, pe, rt, hl, r16, l9, p9, rb, eb, bd, nn⟩ := s
  exact ⟨⟨dx, f _ _ (by simp [q6]) ob⟩, S0.fr f (by simp [q11]) (by simp [q15]) (by simp [q18]), f _ _ (by simp [q20]) pe, f _ _ (by simp [q21]) rt, by rw [hH]; exact upd_same, r16, h9, p9, rb, eb, bd, nn⟩
end
/-! promises -/
def spGInit (CS C : Addr) : Sp := fun vs H Q _ => ∃ (sp dx : Addr) (rm en : Int), vs = [.ref sp, .int rm, .int en] ∧ H sp = some (.ins CS dx []) ∧ rm ≤ 100000 ∧ 0 ≤ en ∧ en ≤ 100000 ∧
  ∀ (d : Gd) H', d.sp = sp → d.rm = rm → d.en = en → d.al = 0 → d.co = 0 → d.aw = false → d.sv = .non → d.P = [] → d.B = [] → d.R = List.replicate 16 0 → d.L = [] → Gpc CS C H' d → KW.Fr [sp] H H' → (∀ x ∈ fpG d, x ≠ sp → H x = none) → Q .non H'
def spGPress (CS C : Addr) (K : Frag) : Sp := fun vs H Q _ => ∃ (d : Gd) (l : Addr) (P : List Int) (aw : Bool), vs = [.ref d.sp, .ref l, .bl aw] ∧ Gpc CS C H d ∧ SqL K H l (P.map V.int) ∧ P.length ≤ 1000 ∧ ∀ pr' H', H pr' = none → Gpc CS C H' { d with pr := pr', aw := aw, P := P } → KW.Fr [d.sp] H H' → Q .non H'
def spGRoot (CS C : Addr) : Sp := fun vs H Q _ => ∃ (d : Gd) (k : Nat) (z : Int), vs = [.ref d.sp, .int k] ∧ Gpc CS C H d ∧ d.R[k]? = some z ∧ Q (.int z) H
def spGSetRoot (CS C : Addr) : Sp := fun vs H Q _ => ∃ (d : Gd) (k : Nat) (z : Int), vs = [.ref d.sp, .int k, .int z] ∧ Gpc CS C H d ∧ k < 16 ∧ ∀ H', Gpc CS C H' { d with R := d.R.set k z } → KW.Fr [d.ro] H H' → Q .non H'
def spGHold (CS C : Addr) : Sp := fun vs H Q _ => ∃ (d : Gd) (z : Int), vs = [.ref d.sp, .int z] ∧ Gpc CS C H d ∧ d.L.length < 1000 ∧ ∀ H', Gpc CS C H' { d with L := d.L ++ [z] } → KW.Fr [d.he] H H' → Q (.int z) H'
def spGDrop (CS C : Addr) : Sp := fun vs H Q _ => ∃ (d : Gd) (n : Nat), vs = [.ref d.sp, .int n] ∧ Gpc CS C H d ∧ n ≤ d.L.length ∧ ∀ H', Gpc CS C H' { d with L := d.L.take (d.L.length - n) } → KW.Fr [d.he] H H' → Q .non H'
def spGHeld (CS C : Addr) : Sp := fun vs H Q _ => ∃ (d : Gd), vs = [.ref d.sp] ∧ Gpc CS C H d ∧ Q (.int d.L.length) H
def spGAllRoots (CS C : Addr) : Sp := fun vs H Q _ => ∃ (d : Gd), vs = [.ref d.sp] ∧ Gpc CS C H d ∧ ∀ l H', H l = none → KW.Fr [] H H' → IL H' l d.ws → Q (.ref l) H'
def spGCollW (CS C p : Addr) (q : Str) : Sp := fun vs H Q _ => ∃ (d : Gd) (z : Int), vs = [.ref d.sp, .int z] ∧ Gpc CS C H d ∧ TabS H p q ∧
  ∀ (F : List Int) (H' : Hp) (wd' pl' : Addr), F.Nodup → (∀ n, n ∈ F ↔ Rg (gB d.B) (d.ws ++ [z]) n) → Gpc CS C H' { d with wd := wd', pl := pl', B := kept d.B F, co := d.co + 1 } → H wd' = none → H pl' = none → KW.Fr [d.sp, d.st, d.pl, p] H H' → TabS H' p q → Q (.int (((nums d.B).length : Int) - F.length)) H'
def spGLive (CS C : Addr) : Sp := fun vs H Q _ => ∃ (d : Gd), vs = [.ref d.sp] ∧ Gpc CS C H d ∧ ∀ (F : List Int) H', F.Nodup → (∀ n, n ∈ F ↔ Rg (gB d.B) d.ws n) → KW.Fr [] H H' → Q (.int (F.map (wof d.B)).sum) H'
/-- a new block fits -/
def FitsG (d : Gd) (B : List Blk) (n : Nat) (f : Int) : Prop := ((flat B).length : Int) + 3 + n ≤ d.rm ∧ Free B f ∧ f < d.en
/-- how fitted ends, F being what is reached -/
def FitE (CS C NR NN p : Addr) (q : Str) (d : Gd) (F : List Int) (kd : Int) (n : Nat) (H : Hp) (Q : VK) (E : XK) : Prop :=
  (∀ f H', FitsG d d.B n f → Gpc CS C H' { d with B := d.B ++ [⟨f, kd, List.replicate n 0, true⟩] } → KW.Fr [d.sp, d.st, d.wd, d.pl, p] H H' → TabS H' p q → Q (.int f) H') ∧
  ((∀ f, ¬ FitsG d d.B n f) →
    (∀ f H' wd' pl', FitsG d (kept d.B F) n f → Gpc CS C H' { d with wd := wd', pl := pl', B := kept d.B F ++ [⟨f, kd, List.replicate n 0, true⟩], co := d.co + 1 } → H wd' = none → H pl' = none → KW.Fr [d.sp, d.st, d.wd, d.pl, p] H H' → TabS H' p q → Q (.int f) H') ∧
    (∀ H' wd' pl', Gpc CS C H' { d with wd := wd', pl := pl', B := kept d.B F, co := d.co + 1 } → H wd' = none → H pl' = none → KW.Fr [d.sp, d.st, d.wd, d.pl, p] H H' → TabS H' p q → ∀ x, H' x = none →
      (d.rm < ((flat (kept d.B F)).length : Int) + 3 + n → E (.ref NR) (some x) (upd H' x (.xd [("need", .int (3 + n))]))) ∧
      (((flat (kept d.B F)).length : Int) + 3 + n ≤ d.rm → (∀ f, ¬ FitsG d (kept d.B F) n f) → E (.ref NN) (some x) (upd H' x (.xd [("limit", .int d.en)])))))
theorem FitE.same {CS C NR NN p : Addr} {q : Str} {d : Gd} {F F' : List Int} {kd : Int} {n : Nat} {H : Hp} {Q : VK} {E : XK} (h : FitE CS C NR NN p q d F kd n H Q E) (e : kept d.B F = kept d.B F') : FitE CS C NR NN p q d F' kd n H Q E := by
  unfold FitE at h ⊢
  rw [← e]; exact h
def spGFitted (CS C NR NN p : Addr) (q : Str) : Sp := fun vs H Q E => ∃ (d : Gd) (kd : Int) (n : Nat), vs = [.ref d.sp, .int kd, .int n] ∧ Gpc CS C H d ∧ TabS H p q ∧ n ≤ 1000 ∧
  ∀ F : List Int, F.Nodup → (∀ m, m ∈ F ↔ Rg (gB d.B) (d.ws ++ [kd]) m) → FitE CS C NR NN p q d F kd n H Q E
open Classical in
theorem rg_ex {B : List Blk} (N : Nd B) (R : List Int) : ∃ F : List Int, F.Nodup ∧ ∀ m, m ∈ F ↔ Rg (gB B) R m := by
  refine ⟨(nums B).filter fun m => decide (Rg (gB B) R m), (nums_nodup N).sublist List.filter_sublist, fun m => ?_⟩
  rw [List.mem_filter, decide_eq_true_eq, mem_nums]
  refine ⟨fun h => h.2, fun h => ⟨?_, h⟩⟩
  obtain ⟨r, hr⟩ := h.some
  rw [← gB_lv, hr]; rfl
/-- collects at once -/
def Gd.force (d : Gd) : Bool := d.aw || decide (d.al + 1 ∈ d.P)
def spGNew (CS C NR NN p : Addr) (q : Str) : Sp := fun vs H Q E => ∃ (d : Gd) (kd : Int) (n : Nat), vs = [.ref d.sp, .int kd, .int n] ∧ Gpc CS C H d ∧ TabS H p q ∧ d.sv = .non ∧ n ≤ 1000 ∧
  ∀ F : List Int, F.Nodup → (∀ m, m ∈ F ↔ Rg (gB d.B) (d.ws ++ [kd]) m) →
    (d.force = false → ∀ H1, Gpc CS C H1 { d with al := d.al + 1 } → KW.Fr [d.sp] H H1 → FitE CS C NR NN p q { d with al := d.al + 1 } F kd n H1 Q E) ∧
    (d.force = true → ∀ H1 wd' pl', Gpc CS C H1 { d with al := d.al + 1, wd := wd', pl := pl', B := kept d.B F, co := d.co + 1 } → H wd' = none → H pl' = none → KW.Fr [d.sp, d.st, d.pl, p] H H1 → TabS H1 p q → FitE CS C NR NN p q { d with al := d.al + 1, wd := wd', pl := pl', B := kept d.B F, co := d.co + 1 } F kd n H1 Q E)
section
variable {CS C : Addr} {H : Hp} {d : Gd} {Q : VK} {E : XK} {K : Frag} {mg : Str → Option Value}
theorem met_g {m : Str} {x : Addr} {sp : Sp} {t : TA} {σ : L2.St} (Z : Gpc CS C H d) (ex : x = d.sp) (l : (["store", "pressure", "always", "allocations", "collections", "_roots", "_held", "_saved"] : List Str).contains m = false) (q : t σ H fun vs H2 => sp (.ref x :: vs) H2 Q E) : uMet.uMt CS m sp E t σ (.ref x) H Q := by
  subst ex
  obtain ⟨dx, ob⟩ := Z.ob
  refine ⟨dx, _, ob, ?_, q⟩
  simp only [List.contains_cons, List.contains_nil, Bool.or_eq_false_iff, Bool.or_false] at l
  simp only [List.lookup, l]
theorem get_g {Q : VK} {x f : Str} {y : Addr} {v : V} {ns : List Str} (Z : Gpc CS C H d) (ex : y = d.sp) (c : ClsA K mg x CS ns) (h : f ∈ ns) (e : List.lookup f d.flds = some v) (q : Q v H) : uGet K f (.ref y) H Q := by
  subst ex
  obtain ⟨dx, ob⟩ := Z.ob
  exact get_l ob c h e q
end
end ST

set_option Elab.async false
set_option linter.all false
set_option maxRecDepth 100000
set_option maxHeartbeats 4000000
namespace K06
open PySem PySem.Spec PyProof.Rows L2 KW ST LamX
local macro_rules | `(tactic| walk_at "kw") => `(tactic| simp only [tSeq, tNext, tIfS, tTest, tAnd, tOr, tNot, tAndV, tOrV, tNotV, tIf, tChain, tOp, tUn, tC, tAsg, gName, gSub, gCons, gNil, tRet, tRetN, tDrop, tCons, tNil, tCB, tAug, tSl, tPart, tNoPart, tLst, tTup, tBM, tBM0, uTest, uFor, iRng1, iRng2, iList, uCall, List.map_cons, List.map_nil, List.length_cons, List.length_nil, List.cons_append, List.nil_append, List.replicate, Nat.zero_add, Nat.reduceAdd, Nat.reduceSub, List.getElem?_cons_zero, List.getElem?_cons_succ, List.set_cons_zero, List.set_cons_succ, V.bl.injEq, V.int.injEq, V.str.injEq, V.ref.injEq, V.ty.injEq, List.cons.injEq, and_true, true_and, exists_eq_left', exists_eq_right, exists_eq_left, exists_and_left, exists_and_right, decide_eq_true_eq, Bool.not_eq_true', decide_eq_false_iff_not, Bool.false_eq_true, if_true, if_false, ite_true, ite_false, Bool.not_true, Bool.not_false, reduceCtorEq, decide_true, decide_false, Bool.not_not, isK_int_int, isK_int_bool, isK_int_str, isK_int_list, isK_int_tuple, isK_bool_int, isK_bool_bool, isK_bool_str, isK_str_str, isK_str_int, isK_str_bool, isK_str_tuple, isK_str_list, isK_list_list, isK_list_tuple, isK_tuple_tuple, isK_tuple_list, isOk_int_int, isOk_int_bool, isOk_int_str, isOk_int_list, isOk_int_tuple, isOk_bool_int, isOk_bool_bool, isOk_bool_str, isOk_str_str, isOk_str_int, isOk_str_bool, isOk_str_tuple, isOk_str_list, isOk_list_list, isOk_list_tuple, isOk_tuple_tuple, isOk_tuple_list, isK_dict_dict, isOk_dict_dict, isK_none_int, isK_none_bool, isOk_none_int, isOk_none_bool, tyV, S_inj, S_cat, L2.start, Nat.reduceSub, List.replicate_succ, List.replicate_zero, and_assoc, List.append_nil, Nat.reduceEqDiff, Option.some.injEq, Int.natCast_inj, upd_upd, Int.reducePow, Int.reduceToNat, Int.reduceMul, Int.reduceAdd, Int.reduceSub, Int.reduceLT, Int.reduceLE, Int.reduceNeg, Int.reduceDiv, Int.reduceMod, Nat.reducePow, Nat.reduceMul, S_len, List.length_append, List.length_map, List.length_range, not_true_eq_false, not_false_eq_true, ne_eq, uAdd_e1, uAdd_e2, uSub_e1, uMod_e1, uDiv_e1, uPow_e1, uShl_e1, uNeg_e1, uIAdd_e1, uIAdd_e2, uIAdd_e3, uISub_e1, uLt_e1, uLt_e2, uLe_e1, uGt_e1, uGe_e1, uEq_e1, uEq_e2, uEq_e3, uEq_e4, uEq_e5, uEq_e6, uEq_e7, uEq_e8, uEq_e9, uEq_e10, uEq_e11, uNe_e1, uNe_e2, uNe_e3, uNe_e4, uNe_e5, uNe_e6, uNe_e7, uNe_e8, uNe_e9, uNe_e10, uNe_e11, uIs_e1, uIs_e2, uIs_e3, uIs_e4, uIs_e5, uIs_e6, uIs_e7, uNotIs_e1, uNotIs_e2, uNotIs_e3, uNotIs_e4, uNotIs_e5, uNotIs_e6, uIn_e1, uIn_e2, uIn_e3, uIn_e4, uNotIn_e1, uNotIn_e2, uNotIn_e3, uNotIn_e4, uTru_e1, uTru_e2, uTru_e3, uTru_e4, uIx_e2, uSl_e2, uLen_e1, uAbs_e1, uInt_e1, uInt_e2, uMin2_e1, uIsi_e1, uIsi_e2, uIsi_e3, uIsi_e4, cx_K, uVar_0, uVar_n, uFld, uSFld, uMet, uMake, tDG, tDI, tDNI, tDP, tDD, uMk, uRaise, uDelSl, tCallS, L2.WE, uStr_e1, uStr_e2, uMul2_e1, uMul2_e2, okS_i, okS_s, List.zip_cons_cons, List.zip_nil_left, List.drop_zero, List.drop_succ_cons, List.drop_nil, putF_nil, putF_cons, eq_self, tDNewK, tB, Option.isSome_some, Option.isSome_none, false_and, false_or, or_false, exists_false, Int.zero_add, uLc, wipe, tYes, isEmpty_app, List.isEmpty_cons, List.isEmpty_nil, List.isEmpty_map, Bool.and_false, Bool.and_true, iRev, K06.lit_0, K06.lit_1, K06.lit_3, K06.lit_4, K06.fe_room_entries, K06.fe_room_words, K06.fe_room__places, K06.fe_room__least, K06.fe_entries_room, K06.fe_entries_words, K06.fe_entries__places, K06.fe_entries__least, K06.fe_words_room, K06.fe_words_entries, K06.fe_words__places, K06.fe_words__least, K06.fe__places_room, K06.fe__places_entries, K06.fe__places_words, K06.fe__places__least, K06.fe__least_room, K06.fe__least_entries, K06.fe__least_words, K06.fe__least__places, K06.fe_store_pressure, K06.fe_store_always, K06.fe_store_allocations, K06.fe_store_collections, K06.fe_store__roots, K06.fe_store__held, K06.fe_store__saved, K06.fe_pressure_store, K06.fe_pressure_always, K06.fe_pressure_allocations, K06.fe_pressure_collections, K06.fe_pressure__roots, K06.fe_pressure__held, K06.fe_pressure__saved, K06.fe_always_store, K06.fe_always_pressure, K06.fe_always_allocations, K06.fe_always_collections, K06.fe_always__roots, K06.fe_always__held, K06.fe_always__saved, K06.fe_allocations_store, K06.fe_allocations_pressure, K06.fe_allocations_always, K06.fe_allocations_collections, K06.fe_allocations__roots, K06.fe_allocations__held, K06.fe_allocations__saved, K06.fe_collections_store, K06.fe_collections_pressure, K06.fe_collections_always, K06.fe_collections_allocations, K06.fe_collections__roots, K06.fe_collections__held, K06.fe_collections__saved, K06.fe__roots_store, K06.fe__roots_pressure, K06.fe__roots_always, K06.fe__roots_allocations, K06.fe__roots_collections, K06.fe__roots__held, K06.fe__roots__saved, K06.fe__held_store, K06.fe__held_pressure, K06.fe__held_always, K06.fe__held_allocations, K06.fe__held_collections, K06.fe__held__roots, K06.fe__held__saved, K06.fe__saved_store, K06.fe__saved_pressure, K06.fe__saved_always, K06.fe__saved_allocations, K06.fe__saved_collections, K06.fe__saved__roots, K06.fe__saved__held, K06.fl_room_0, K06.lf_room_0, K06.fl_room_1, K06.lf_room_1, K06.fl_room_3, K06.lf_room_3, K06.fl_room_4, K06.lf_room_4, t11_e, uMetD.uMtD, tDGF_eq, uDGetF_e1, K06.N_is_ref, K06.N_ref_of, K06.N_reached, K06.N_words_of, K06.N_collect, K06.N_Store_init, K06.N_Store_used, K06.N_Store_exists, K06.N_Store_numbers, K06.N_Store_free_number, K06.N_Store_allocate, K06.N_Store_size, K06.N_Store_kind, K06.N_Store_get, K06.N_Store_put, K06.N_Store_slots, K06.N_Store_drop, K06.N_Store_close_up, K06.N_Space_init, K06.N_Space_press, K06.N_Space_root, K06.N_Space_set_root, K06.N_Space_hold, K06.N_Space_drop, K06.N_Space_held, K06.N_Space_all_roots, K06.N_Space_collect, K06.N_Space_collect_with, K06.N_Space_live_words, K06.N_Space_new, K06.N_Space_fitted, K06.N__law_number, K06.N__law_deeds, K06.N__law_is, K06.N__law_same, K06.N__law_place, K06.N__law_word, K06.N__law_reached, K06.N__law_total, K06.N__law_collections, K06.N__law_called, K06.N__law_kept, K06.N__law_held, K06.N__law_fresh, K06.N__law_new, K06.N__law_deed, K06.N__law_space, K06.N_law, sp_is_ref, sp_ref_of])
local macro_rules | `(tactic| walk_at "nn") => `(tactic| first | assumption | exact ne_un (by assumption) | exact ne_un (ne_un (by assumption)) | exact ne_un (ne_un (ne_un (by assumption))) | exact ne_un (ne_un (ne_un (ne_un (by assumption)))))
local macro_rules | `(tactic| walk_at "ne") => `(tactic| first | assumption | (apply Ne.symm; assumption) | exact ne_ud (by assumption) | exact Ne.symm (ne_ud (by assumption)) | exact ne_ud (ne_un (by assumption)) | exact Ne.symm (ne_ud (ne_un (by assumption))) | exact ne_ud (ne_un (ne_un (by assumption))) | exact Ne.symm (ne_ud (ne_un (ne_un (by assumption)))) | exact ne_m (by assumption) (by assumption) | exact Ne.symm (ne_m (by assumption) (by assumption)) | exact ne_n (by assumption) (by walk_at "nn") | exact Ne.symm (ne_n (by assumption) (by walk_at "nn")))
local macro_rules | `(tactic| walk_at "hp") => `(tactic| first | assumption | exact upd_same | (refine Eq.trans (upd_ne ?_) ?_; (focus walk_at "ne"); walk_at "hp"))
local macro_rules | `(tactic| walk_at "sc") => `(tactic| first | (with_reducible assumption) | omega | exact le_line (by (try simp only [List.length_map, List.length_append, List.length_cons, List.length_nil, S_len]); omega) | exact div_s (by omega) | exact mul_r (by omega) | exact mul_l (by omega) | exact pow_s (by omega) | exact mul2_r (by omega) | exact mul2_l (by omega) | exact small4300 (by omega) | exact lt_line (by (try simp only [List.length_map, List.length_append, List.length_cons, List.length_nil, S_len]); omega) | exact ⟨_, by assumption⟩ | (guard_target =~ Exists _; exact ⟨_, .of (by walk_at "hp")⟩) | (guard_target =~ _ ∨ _; exact .inl ⟨_, by assumption⟩) | (guard_target =~ _ ∨ _; exact .inl ⟨_, .of (by walk_at "hp")⟩) | (guard_target =~ _ ∨ _; exact .inr (.inr (.inl ⟨rfl, .inl ⟨_, by walk_at "hp"⟩⟩))) | decide)
local macro_rules | `(tactic| walk_at "kr") => `(tactic| first | (guard_target =~ _ ∧ _; first | refine And.intro (by walk_at "sc") ?_) | (guard_target =~ KW.uIx _ _ _ _ _; first | refine ix_l (by walk_at "hp") (by first | walk_at "hv" | rfl) ?_ | refine ix_t (by walk_at "hp") (by first | walk_at "hv" | rfl) ?_ | refine ix_sl (by assumption) (by walk_at "hv") ?_) | (guard_target =~ KW.uLen _ _ _ _; first | refine len_l (by walk_at "hp") ?_ | refine len_t (by walk_at "hp") ?_ | refine len_sl (by assumption) ?_) | (guard_target =~ KW.uSet _ _ _ _ _; first | refine set_l (by walk_at "hp") (by first | walk_at "hv" | rfl) ?_) | (guard_target =~ L2.gTup _ _ _ _ _ _ _; first | refine tup_l (by walk_at "hp") (by rfl) ?_) | (guard_target =~ KW.uGet _ _ _ _ _; first | refine get_l (by walk_at "hp") (by walk_at "hc") (by decide) (by rfl) ?_) | (guard_target =~ KW.uPut _ _ _ _ _ _; first | refine put_l (by walk_at "hp") (by walk_at "hc") (by decide) (by simp) ?_) | (guard_target =~ KW.uMet.uMt _ _ _ _ _ _ _ _ _; first | refine met_l (by walk_at "hp") (by rfl) ?_) | (guard_target =~ KW.uMet.uMt _ _ _ _ _ _ _ _ _; first | refine ST.met_s (by assumption) (by decide) ?_) | (guard_target =~ ST.spExists _ _ _ _ _; first | refine ST.exists_s (by assumption) ?_) | (guard_target =~ ST.spUsed _ _ _ _ _; first | refine ST.used_s (by assumption) ?_) | (guard_target =~ KW.uGet _ _ _ _ _; first | refine ST.words_s (by assumption) (by walk_at "hc") (by decide) ?_) | (guard_target =~ KW.uDIn _ _ _ _; first | refine din_i (by walk_at "hp") ?_ | refine din_s (by walk_at "hp") ?_) | (guard_target =~ KW.uDGet _ _ _ _; first | refine dget_i (by walk_at "hp") (by walk_at "hv") ?_ | refine dget_s (by walk_at "hp") (by walk_at "hv") ?_) | (guard_target =~ KW.uDPut _ _ _ _ _; first | refine dput_i (by walk_at "hp") (by walk_at "sc") ?_ | refine dput_s (by walk_at "hp") (by walk_at "sc") ?_) | (guard_target =~ KW.uDDel _ _ _ _; first | refine ddel_i (by walk_at "hp") (by walk_at "hv") ?_ | refine ddel_s (by walk_at "hp") (by walk_at "hv") ?_) | (guard_target =~ KW.uMul2 _ _ _ _; first | refine rep_l (by walk_at "hp") (by walk_at "sc") (by walk_at "sc") (by walk_at "sc") ?_) | (guard_target =~ L2.rAppend _ _ _ _; first | refine app_l (by walk_at "hp") (by walk_at "sc") ?_) | (guard_target =~ L2.rPop _ _ _ _; first | refine pop_l (by walk_at "hp") (by walk_at "hv") ?_ | refine pops_l (by walk_at "hp") ?_) | (guard_target =~ L2.rClear _ _ _ _; first | refine clr_l (by walk_at "hp") ?_) | (guard_target =~ L2.rReverse _ _ _ _; first | refine rev_l (by walk_at "hp") ?_) | (guard_target =~ L2.rExtend _ _ _ _; first | refine ext_l (by walk_at "hp") (by walk_at "hp") (by walk_at "sc") ?_) | (guard_target =~ KW.uAdd _ _ _ _ _; first | refine ucat_l (by walk_at "hp") (by walk_at "hp") (by walk_at "sc") ?_) | (guard_target =~ KW.uSl _ _ _ _ _ _; first | refine usl_l (by walk_at "hp") ?_) | (guard_target =~ KW.uTru _ _ _ _; first | refine tru_l (by walk_at "hp") ?_ | refine tru_t (by walk_at "hp") ?_ | refine tru_d (by walk_at "hp") ?_ | refine tru_sl (by assumption) ?_) | (guard_target =~ L2.rIndex _ _ _ _ _; first | refine idx_s (by walk_at "hp") (by assumption) ?_ | refine idx_i (by walk_at "hp") (by assumption) ?_) | (guard_target =~ L2.rIn _ _ _ _ _ _; first | refine in_s (by walk_at "hp") ?_ | refine nin_s (by walk_at "hp") ?_ | refine in_i (by walk_at "hp") ?_ | refine nin_i (by walk_at "hp") ?_) | (guard_target =~ KW.uIsi _ _ _ _; first | refine isi_l (by walk_at "hp") (by decide +kernel) ?_ | refine isi_t (by walk_at "hp") (by decide +kernel) ?_ | refine isi_d (by walk_at "hp") (by decide +kernel) ?_) | (guard_target =~ KW.uList _ _ _ _; first | refine list_l (by walk_at "hp") ?_ | refine list_t (by walk_at "hp") ?_ | refine list_sl (by assumption) ?_) | (guard_target =~ KW.uDict _ _ _; first | refine dict_d (by walk_at "hp") ?_) | (guard_target =~ KW.uSorted _ _ _ _; first | refine srt_l (by walk_at "hp") ?_) | (guard_target =~ KW.uSum _ _ _ _; first | refine sum_l (by walk_at "hp") ?_) | (guard_target =~ KW.uDelC _ _ _ _; first | refine dels_l (by walk_at "hp") (by walk_at "sc") ?_) | (guard_target =~ L2.wAs _ _ _ _ _ _ _ _ _ _; first | refine as_yes (by walk_at "hx") ?_ | refine as_no (by walk_at "hx") ?_) | (guard_target =~ KW.uEf _ _ _ _ _ _ _ _ _; first | refine ef_l (by walk_at "he") (by decide) (by rfl) (by walk_at "hp") (by rfl) ?_) | (guard_target =~ KW.uIsE _ _ _ _ _ _ _; first | refine isE_r (by walk_at "he") (by walk_at "hp") (by walk_at "hk") ?_ | refine isE_t (by walk_at "he") (by walk_at "hp") (by walk_at "hk") ?_))
local macro_rules | `(tactic| walk_at "hv") => `(tactic| first | assumption)
local macro_rules | `(tactic| walk_at "kk") => `(tactic| repeat (first | walk_at "kw" | walk_at "kr"))
local macro_rules | `(tactic| walk_at "hc") => `(tactic| first | exact K06.Txt.c_Store (by assumption) | exact K06.Txt.c_Space (by assumption))
local macro_rules | `(tactic| walk_at "he") => `(tactic| first | exact K06.Txt.e_BadWord (by assumption) | exact K06.Txt.e_NoRoom (by assumption) | exact K06.Txt.e_NoNumber (by assumption) | exact K06.Txt.e_Wrong (by assumption))
local macro_rules | `(tactic| walk_at "hx") => `(tactic| first | exact K06.Txt.x_BadWord_KilnwardenError (by assumption) | exact K06.Txt.x_BadWord_NoNumber (by assumption) | exact K06.Txt.x_BadWord_NoRoom (by assumption) | exact K06.Txt.x_NoRoom_KilnwardenError (by assumption) | exact K06.Txt.x_NoRoom_NoNumber (by assumption) | exact K06.Txt.x_NoRoom_NoRoom (by assumption) | exact K06.Txt.x_NoNumber_KilnwardenError (by assumption) | exact K06.Txt.x_NoNumber_NoNumber (by assumption) | exact K06.Txt.x_NoNumber_NoRoom (by assumption) | exact K06.Txt.x_Wrong_KilnwardenError (by assumption) | exact K06.Txt.x_Wrong_NoNumber (by assumption) | exact K06.Txt.x_Wrong_NoRoom (by assumption))
local macro_rules | `(tactic| walk_at "hk") => `(tactic| first | exact K06.Txt.i_BadWord_NoNumber (by assumption) | exact K06.Txt.i_BadWord_NoRoom (by assumption) | exact K06.Txt.i_NoRoom_NoNumber (by assumption) | exact K06.Txt.i_NoRoom_NoRoom (by assumption) | exact K06.Txt.i_NoNumber_NoNumber (by assumption) | exact K06.Txt.i_NoNumber_NoRoom (by assumption) | exact K06.Txt.i_Wrong_NoNumber (by assumption) | exact K06.Txt.i_Wrong_NoRoom (by assumption))

local macro_rules | `(tactic| walk_at "kr") => `(tactic| first | (guard_target =~ KW.uGet _ _ _ _ _; refine ST.get_g (by assumption) (by rfl) (by walk_at "hc") (by decide) (by rfl) ?_) | (guard_target =~ KW.uMet.uMt _ _ _ _ _ _ _ _ _; refine ST.met_g (by assumption) (by rfl) (by decide) ?_))
section
variable {P : Program} {w : World} {K : Frag} {mg : Str → Option Value} {base : Heap} {a : Ads}
theorem ok_Space_init (T : Txt P w K mg a) : CalI P w K mg base 3 "Space" a.Space [] (spGInit a.Space a.Store) := by
  have I_Store := ok_Store_init (P := P) (w := w) (base := base) T
  refine T.ini_Space.ok T.g_Space sc_Space_init (fun vs H Q E h => ?_) (fun f cdv A outer s H vs Q E hr h => ⟨_, (pss_cons (k_sfld (kv 0) (kmk 0 I_Store (hr.mono (by decide)) (pa_cons (kv 1) (pa_cons (kv 2) pa_nil))) rfl)
      (pss_cons (k_sfld (kv 0) (pe_lst pa_nil) rfl)
      (pss_cons (k_sfld (kv 0) pe_bl rfl)
      (pss_cons (k_sfld (kv 0) pe_int rfl)
      (pss_cons (k_sfld (kv 0) pe_int rfl)
      (pss_cons (k_sfld (kv 0) (pe_op o_mul2 (pe_lst (pa_cons (k_g T.g_NIL) pa_nil)) (k_g T.g_ROOTS)) rfl)
      (pss_cons (k_sfld (kv 0) (pe_lst pa_nil) rfl)
      (pss_one (k_sfld (kv 0) pe_non rfl))))))))), ?_⟩)
  · obtain ⟨_, _, _, _, rfl, _⟩ := h; rfl
  · obtain ⟨sp, dx, rm, en, rfl, hs, rb, e0, eb, q⟩ := h
    walk_at "kk"
    intro st dx2 h1 h2 h3
    have e1 : sp ≠ st := ne_of_none hs h1
    have e2 : sp ≠ dx2 := ne_of_none hs h2
    refine ⟨st, dx2, rm, en, rfl, upd_same, fun H2 wd pl S2 f2 n1 n2 => ?_⟩
    have f0 : KW.Fr [sp] H (upd (upd H dx2 (HO.own st)) st (HO.ins a.Store dx2 [])) := (Fr.new h2).trans (Fr.new (by rw [upd_ne (Ne.symm h3)]; exact h1))
    have nw : H wd = none := ne_un (ne_un n1)
    have nl : H pl = none := ne_un (ne_un n2)
    have hs2 : H2 sp = some (.ins a.Space dx []) := f2 _ _ (by simp [e1]) (by rw [upd_ne e1, upd_ne e2]; exact hs)
    have f1 : KW.Fr [sp] H H2 := fun b o hb hH => f2 b o (fun z => by simp at z; subst z; rw [h1] at hH; cases hH) (f0 b o hb hH)
    have e3 : sp ≠ wd := ne_of_none hs nw
    have e4 : sp ≠ pl := ne_of_none hs nl
    revert S2 f1
    clear f0 f2 n1 n2
    intro S2 f1
    have w2 : ∀ b, H2 b = none → b ≠ st ∧ b ≠ wd ∧ b ≠ pl := fun b hb => by
      have := notin_of hb S2.there
      simp only [List.mem_cons, List.not_mem_nil, or_false, not_or] at this
      exact this
    walk_at "kk"
    intro pr hpr
    have g1 := w2 pr (ne_un hpr)
    have g2 : sp ≠ pr := Ne.symm (ne_ud hpr)
    walk_at "kk"
    intro ro1 hr1
    have g3 : sp ≠ ro1 := Ne.symm (ne_ud hr1)
    have g4 : pr ≠ ro1 := Ne.symm (ne_ud (ne_un hr1))
    walk_at "kk"
    intro ro hro
    have n1 : H2 pr = none := ne_un hpr
    have n2 : H2 ro1 = none := ne_un (ne_un (ne_un hr1))
    have n3 : H2 ro = none := ne_un (ne_un (ne_un (ne_un hro)))
    have g5 : sp ≠ ro := Ne.symm (ne_ud (ne_un hro))
    have g6 : pr ≠ ro := Ne.symm (ne_ud (ne_un (ne_un hro)))
    have g7 : ro1 ≠ ro := Ne.symm (ne_ud hro)
    walk_at "kk"
    intro he hhe
    have n4 : H2 he = none := ne_un (ne_un (ne_un (ne_un (ne_un (ne_un hhe)))))
    have g8 : sp ≠ he := Ne.symm (ne_ud hhe)
    have g9 : ro ≠ he := Ne.symm (ne_ud (ne_un hhe))
    have g10 : pr ≠ he := Ne.symm (ne_ud (ne_un (ne_un (ne_un (ne_un hhe)))))
    have u1 := w2 _ n1
    have u2 := w2 _ n2
    have u3 := w2 _ n3
    have u4 := w2 _ n4
    walk_at "kk"
    generalize hHF : upd _ sp _ = HF
    have fF : KW.Fr [sp] H2 HF := fun b o hb hH => by
      have b1 : b ≠ sp := fun z => hb (by simp [z])
      have b2 : b ≠ pr := ne_of_none hH n1
      have b3 : b ≠ ro1 := ne_of_none hH n2
      have b4 : b ≠ ro := ne_of_none hH n3
      have b5 : b ≠ he := ne_of_none hH n4
      rw [← hHF]
      walk_at "hp"
    have v1 : HF pr = some (.lst []) := by rw [← hHF]; walk_at "hp"
    have v2 : HF ro = some (.lst (([[V.int 0], [V.int 0], [V.int 0], [V.int 0], [V.int 0], [V.int 0], [V.int 0], [V.int 0], [V.int 0], [V.int 0], [V.int 0], [V.int 0], [V.int 0], [V.int 0], [V.int 0], [V.int 0]] : List (List V)).flatten)) := by rw [← hHF]; walk_at "hp"
    have v3 : HF he = some (.lst []) := by rw [← hHF]; walk_at "hp"
    have v4 : ∃ dx, HF sp = some (.ins a.Space dx [("store", .ref st), ("pressure", .ref pr), ("always", .bl false), ("allocations", .int 0), ("collections", .int 0), ("_roots", .ref ro), ("_held", .ref he), ("_saved", .non)]) := ⟨dx, by rw [← hHF]; exact upd_same⟩
    have new : ∀ b, H2 b = none → b ≠ sp → H b = none := fun b hb hs => f1.none (by simp [hs]) hb
    refine q ⟨sp, st, wd, pl, pr, ro, he, rm, en, 0, 0, false, .non, [], [], List.replicate 16 0, []⟩ HF rfl rfl rfl rfl rfl rfl rfl rfl rfl rfl rfl ⟨v4, S2.fr fF (by simp [Ne.symm e1]) (by simp [Ne.symm e3]) (by simp [Ne.symm e4]), v1, v2, v3, rfl, by simp, by simp, rb, ⟨e0, eb⟩, by show (flat []).length ≤ 100000; decide, ?_⟩ (f1.trans fF) fun x hx hxs => ?_
    · have s1 := S2.wp
      have s2 := S2.sw
      have s3 := S2.sp
      simp only [fpG, List.nodup_cons, List.mem_cons, List.not_mem_nil, or_false, not_or, not_false_eq_true, List.nodup_nil, and_true]
      exact ⟨⟨e1, e3, e4, g2, g5, g8⟩, ⟨s2, s3, Ne.symm u1.1, Ne.symm u3.1, Ne.symm u4.1⟩, ⟨s1, Ne.symm u1.2.1, Ne.symm u3.2.1, Ne.symm u4.2.1⟩, ⟨Ne.symm u1.2.2, Ne.symm u3.2.2, Ne.symm u4.2.2⟩, ⟨g6, g10⟩, g9⟩
    · simp only [fpG, List.mem_cons, List.not_mem_nil, or_false] at hx
      rcases hx with rfl | rfl | rfl | rfl | rfl | rfl | rfl
      · exact absurd rfl hxs
      · exact h1
      · exact nw
      · exact nl
      · exact new _ n1 hxs
      · exact new _ n3 hxs
      · exact new _ n4 hxs
theorem ok_Space_press (T : Txt P w K mg a) : CalMK P w K mg base 1 a.Space "press" "always" (.bl false) 2 (spGPress a.Space a.Store K) := by
  refine T.m_Space_press.ok T.c_Space.cls rfl sc_Space_press (fun vs H Q E h => ?_) (fun f cdv A outer s H vs Q E hr h => ⟨_, (pss_cons (k_sfld (kv 0) (pe_callTy c_list (by rfl) T.n_list (by decide +kernel) (pa_cons (kv 1) pa_nil)) rfl)
      (pss_one (k_sfld (kv 0) (kv 2) rfl))), ?_⟩)
  · obtain ⟨_, _, _, _, rfl, _⟩ := h; rfl
  · obtain ⟨d, l, P, aw, rfl, Z, hl, hP, h⟩ := h
    obtain ⟨dx, ob⟩ := Z.ob
    walk_at "kk"
    intro p hp
    have Z1 := Z.fr0 (Fr.new (l := []) (o := .lst (P.map V.int)) hp)
    have n1 := notin_of hp Z.there
    have e1 : d.sp ≠ p := fun z => n1 (by simp [z])
    obtain ⟨dx1, ob1⟩ := Z1.ob
    have f1 : KW.Fr [] H (upd H p (.lst (P.map V.int))) := Fr.new hp
    have p1 : upd H p (.lst (P.map V.int)) p = some (.lst (P.map V.int)) := upd_same
    revert Z1 ob1 f1 p1
    generalize upd H p (.lst (P.map V.int)) = H1
    intro Z1 ob1 f1 p1
    walk_at "kk"
    generalize hHF : upd _ d.sp _ = HF
    have fF : KW.Fr [d.sp] H1 HF := fun b o hb hH => by
      have b1 : b ≠ d.sp := fun z => hb (by simp [z])
      rw [← hHF]
      walk_at "hp"
    exact h p HF hp (Z1.press n1 (fF _ _ (by simp [Ne.symm e1]) p1) hP fF (dx := dx1) (by rw [← hHF]; exact upd_same)) ((f1.mono (by simp)).trans fF)
theorem ok_Space_root (T : Txt P w K mg a) : CalM P w K mg base 1 a.Space "root" (spGRoot a.Space a.Store) := by
  refine T.m_Space_root.ok T.c_Space.cls sc_Space_root (fun vs H Q E h => ?_) (fun f cdv A outer s H vs Q E hr h => ⟨_, (pss_one (ps_ret (pe_ix o_ix (k_fld (kv 0) rfl) (kv 1) (fun _ _ => rfl)))), ?_⟩)
  · obtain ⟨_, _, _, rfl, _⟩ := h; rfl
  · obtain ⟨d, k, z, rfl, Z, hk, h⟩ := h
    have rt := Z.rt
    have hv : atI (d.R.map V.int) (k : Int) = some (.int z) := atI_map hk
    walk_at "kk"
    exact h
theorem ok_Space_set_root (T : Txt P w K mg a) : CalM P w K mg base 1 a.Space "set_root" (spGSetRoot a.Space a.Store) := by
  refine T.m_Space_set_root.ok T.c_Space.cls sc_Space_set_root (fun vs H Q E h => ?_) (fun f cdv A outer s H vs Q E hr h => ⟨_, (pss_one (ps_asg (kv 2) (pg_sub (k_fld (kv 0) rfl) (kv 1) s_set))), ?_⟩)
  · obtain ⟨_, _, _, rfl, _⟩ := h; rfl
  · obtain ⟨d, k, z, rfl, Z, hk, h⟩ := h
    have rt := Z.rt
    walk_at "kk"
    have r16 := Z.r16
    refine set_l rt (j := k) (by rw [List.length_map]; unfold ixN; rw [if_pos (by omega), if_pos (by omega)]; rfl) ?_
    exact h _ (Z.root (by rw [List.map_set])) (Fr.upd (by simp))
theorem ok_Space_hold (T : Txt P w K mg a) : CalM P w K mg base 1 a.Space "hold" (spGHold a.Space a.Store) := by
  refine T.m_Space_hold.ok T.c_Space.cls sc_Space_hold (fun vs H Q E h => ?_) (fun f cdv A outer s H vs Q E hr h => ⟨_, (pss_cons (ps_expr (pe_bm PySem.F.plainAttrs_list PySem.F.slot_list_append PySem.F.type_list_append mt_append (k_fld (kv 0) rfl) (pa_cons (kv 1) pa_nil)))
      (pss_one (ps_ret (kv 1)))), ?_⟩)
  · obtain ⟨_, _, rfl, _⟩ := h; rfl
  · obtain ⟨d, z, rfl, Z, hk, h⟩ := h
    have hl := Z.hl
    walk_at "kk"
    exact h _ (Z.held (by simp; omega) (by simp)) (Fr.upd (by simp))
theorem ok_Space_drop (T : Txt P w K mg a) : CalM P w K mg base 1 a.Space "drop" (spGDrop a.Space a.Store) := by
  refine T.m_Space_drop.ok T.c_Space.cls sc_Space_drop (fun vs H Q E h => ?_) (fun f cdv A outer s H vs Q E hr h => ⟨_, (pss_one (k_delsl (k_fld (kv 0) rfl) (pe_op o_sub (pe_callB c_len (by rfl) T.n_len (by decide +kernel) (pa_cons (k_fld (kv 0) rfl) pa_nil)) (kv 1)))), ?_⟩)
  · obtain ⟨_, _, rfl, _⟩ := h; rfl
  · obtain ⟨d, n, rfl, Z, hn, h⟩ := h
    have hl := Z.hl
    have l9 := Z.l9
    walk_at "kk"
    have e : ((d.L.length : Int) - (n : Int)).toNat = d.L.length - n := by omega
    rw [e]
    exact h _ (Z.held (by rw [List.length_take]; omega) (by rw [List.map_take])) (Fr.upd (by simp))
theorem ok_Space_held (T : Txt P w K mg a) : CalM P w K mg base 1 a.Space "held" (spGHeld a.Space a.Store) := by
  refine T.m_Space_held.ok T.c_Space.cls sc_Space_held (fun vs H Q E h => ?_) (fun f cdv A outer s H vs Q E hr h => ⟨_, (pss_one (ps_ret (pe_callB c_len (by rfl) T.n_len (by decide +kernel) (pa_cons (k_fld (kv 0) rfl) pa_nil)))), ?_⟩)
  · obtain ⟨_, rfl, _⟩ := h; rfl
  · obtain ⟨d, rfl, Z, h⟩ := h
    have hl := Z.hl
    walk_at "kk"
    exact h
theorem ok_Space_all_roots (T : Txt P w K mg a) : CalM P w K mg base 1 a.Space "all_roots" (spGAllRoots a.Space a.Store) := by
  refine T.m_Space_all_roots.ok T.c_Space.cls sc_Space_all_roots (fun vs H Q E h => ?_) (fun f cdv A outer s H vs Q E hr h => ⟨_, (pss_one (ps_ret (pe_op o_add (pe_op o_add (pe_lst (pa_cons (k_g T.g_NIL) pa_nil)) (k_fld (kv 0) rfl)) (k_fld (kv 0) rfl)))), ?_⟩)
  · obtain ⟨_, rfl, _⟩ := h; rfl
  · obtain ⟨d, rfl, Z, h⟩ := h
    have rt := Z.rt
    have hl := Z.hl
    walk_at "kk"
    intro p hp
    have Z1 : Gpc a.Space a.Store (upd H p (.lst [.int 0])) d := Z.fr0 (Fr.new hp)
    have p1 : upd H p (.lst [.int 0]) p = some (.lst [.int 0]) := upd_same
    have f1 : KW.Fr [] H (upd H p (.lst [.int 0])) := Fr.new hp
    revert Z1 p1 f1
    generalize upd H p (.lst [.int 0]) = H1
    intro Z1 p1 f1
    have r16 := Z.r16
    have l9 := Z.l9
    have rt1 := Z1.rt
    walk_at "kk"
    intro t3 ht3
    have Z2 : Gpc a.Space a.Store (upd H1 t3 (.lst (.int 0 :: d.R.map V.int))) d := Z1.fr0 (Fr.new ht3)
    have p2 : upd H1 t3 (.lst (.int 0 :: d.R.map V.int)) t3 = some (.lst (.int 0 :: d.R.map V.int)) := upd_same
    have f2 : KW.Fr [] H (upd H1 t3 (.lst (.int 0 :: d.R.map V.int))) := f1.trans (Fr.new ht3)
    revert Z2 p2 f2
    generalize upd H1 t3 (.lst (.int 0 :: d.R.map V.int)) = H2
    intro Z2 p2 f2
    have hl2 := Z2.hl
    walk_at "kk"
    intro t4 ht4
    exact h t4 _ (Fr.none f2 (by simp) ht4) (f2.trans (Fr.new ht4)) (by show upd _ _ _ _ = _; rw [upd_same]; simp)
theorem ok_Space_collect_with (T : Txt P w K mg a) (TB : LamX.TabB base mg a.c_Store_close_up a.p_Store_close_up) : CalM P w K mg base 5 a.Space "collect_with" (spGCollW a.Space a.Store a.p_Store_close_up ("Store.close_up" ++ ".<locals>.<lambda>")) := by
  have M_Space_all_roots := ok_Space_all_roots (P := P) (w := w) (base := base) T
  have C_collect_collecting := ok_collect_collecting (P := P) (w := w) (base := base) T TB
  refine T.m_Space_collect_with.ok T.c_Space.cls sc_Space_collect_with (fun vs H Q E h => ?_) (fun f cdv A outer s H vs Q E hr h => ⟨_, (pss_cons (k_sfld (kv 0) (pe_op o_add (k_fld (kv 0) rfl) pe_int) rfl)
      (pss_one (ps_ret (kc C_collect_collecting (hr.mono (by decide)) (pa_cons (k_fld (kv 0) rfl) (pa_cons (pe_op o_add (km0 M_Space_all_roots (hr.mono (by decide)) (kv 0)) (pe_lst (pa_cons (kv 1) pa_nil))) pa_nil)))))), ?_⟩)
  · obtain ⟨_, _, rfl, _⟩ := h; rfl
  · obtain ⟨d, z, rfl, Z, TS, h⟩ := h
    generalize a.p_Store_close_up = P0 at *
    obtain ⟨dx, ob⟩ := Z.ob
    walk_at "kk"
    generalize hH1 : upd H d.sp _ = H1
    have Z1 := Z.own (al := d.al) (co := d.co + 1) (aw := d.aw) (sv := d.sv) hH1.symm
    have f1 : KW.Fr [d.sp] H H1 := by rw [← hH1]; exact Fr.upd (by simp)
    have T1 := TS.frl f1 fun y hy => Z.pln y (by simp at hy; simp [hy])
    have e0 : H d.st ≠ none := by obtain ⟨o, ho⟩ := Z.there d.st (by simp); rw [ho]; simp
    have ex : ∀ x ∈ fpG d, H x ≠ none := fun x hx => by obtain ⟨o, ho⟩ := Z.there x hx; rw [ho]; simp
    clear hH1 ob
    refine ⟨{ d with co := d.co + 1 }, rfl, Z1, fun l H2 n2 f2 i2 => ?_⟩
    have Z2 := Z1.fr0 f2
    have T2 := T1.fr0 f2
    refine ⟨by decide, fun p hp => ?_⟩
    have lr : (d.R ++ d.L).length ≤ 1100 := by have := Z.r16; have := Z.l9; rw [List.length_append]; omega
    have i3 := (Fr.new (l := []) (o := .lst [.int z]) hp) _ _ (by simp) i2
    have f3 : KW.Fr [] H1 (upd H2 p (.lst [.int z])) := f2.trans (Fr.new hp)
    have p3 : upd H2 p (.lst [.int z]) p = some (.lst [.int z]) := upd_same
    have f4 : KW.Fr [] H2 (upd H2 p (.lst [.int z])) := Fr.new hp
    revert i3 f3 p3 f4
    generalize upd H2 p (.lst [.int z]) = H3
    intro i3 f3 p3 f4
    refine ucat_l (xs := (0 :: (d.R ++ d.L)).map V.int) (zs := [.int z]) i3 p3 (le_line (by simp only [List.length_map, List.length_cons, List.length_nil]; omega)) fun t3 ht3 => ?_
    have f5 : KW.Fr [] H1 (upd H3 t3 (.lst ((0 :: (d.R ++ d.L)).map V.int ++ [.int z]))) := f3.trans (Fr.new ht3)
    have i5 : IL (upd H3 t3 (.lst ((0 :: (d.R ++ d.L)).map V.int ++ [.int z]))) t3 (d.ws ++ [z]) := by show upd _ _ _ _ = _; rw [upd_same]; simp
    revert f5 i5
    generalize upd H3 t3 (.lst ((0 :: (d.R ++ d.L)).map V.int ++ [.int z])) = H5
    intro f5 i5
    have Z5 := Z1.fr0 f5
    have T5 := T1.fr0 f5
    have bd := Z.bd
    refine collect_s Z5.S i5 T5 (by dsimp only; omega) (by simp; simp at lr; omega) fun F H' wd' pl' nF hF S' n1 n2 f' TS' => ?_
    dsimp only at hF S' f'
    have F5 : KW.Fr [d.sp] H H5 := f1.trans (f5.mono (by simp))
    have g1 : H wd' = none := F5.none (fun m => by simp at m; rw [m] at n1; obtain ⟨o, ho⟩ := Z5.there d.sp (by simp); rw [n1] at ho; cases ho) n1
    have g2 : H pl' = none := F5.none (fun m => by simp at m; rw [m] at n2; obtain ⟨o, ho⟩ := Z5.there d.sp (by simp); rw [n2] at ho; cases ho) n2
    refine h F H' wd' pl' nF (fun n => (hF n).trans (rch_rg Z.S.nd n)) (Z5.col S' f' (Z5.np T5) n1 n2 (Nat.le_trans flat_kept bd)) g1 g2 ?_ TS'
    exact (F5.mono (by simp)).trans (f'.mono fun y hy => by simp at hy ⊢; rcases hy with rfl | rfl | rfl <;> simp)
theorem ok_Space_live_words (T : Txt P w K mg a) : CalM P w K mg base 4 a.Space "live_words" (spGLive a.Space a.Store) := by
  have M_Space_all_roots := ok_Space_all_roots (P := P) (w := w) (base := base) T
  have C_reached := ok_reached (P := P) (w := w) (base := base) T
  have C_words_of := ok_words_of (P := P) (w := w) (base := base) T
  refine T.m_Space_live_words.ok T.c_Space.cls sc_Space_live_words (fun vs H Q E h => ?_) (fun f cdv A outer s H vs Q E hr h => ⟨_, (pss_one (ps_ret (kc C_words_of (hr.mono (by decide)) (pa_cons (k_fld (kv 0) rfl) (pa_cons (kc C_reached (hr.mono (by decide)) (pa_cons (k_fld (kv 0) rfl) (pa_cons (km0 M_Space_all_roots (hr.mono (by decide)) (kv 0)) pa_nil))) pa_nil))))), ?_⟩)
  · obtain ⟨_, rfl, _⟩ := h; rfl
  · obtain ⟨d, rfl, Z, h⟩ := h
    walk_at "kk"
    refine ⟨d, rfl, Z, fun l H1 n1 f1 i1 => ?_⟩
    have Z1 := Z.fr0 f1
    have bd := Z.bd
    have lr : (d.R ++ d.L).length ≤ 1100 := by have := Z.r16; have := Z.l9; rw [List.length_append]; omega
    refine reached_s Z1.S i1 (by omega) (by simp at lr ⊢; omega) fun p F kvs H2 n2 f2 hk fnd ndF hF => ?_
    have Z2 := Z1.fr0 f2
    have lB := len_flat d.B
    have fl := rch_len ndF fun n hn => (hF n).mp hn
    have np : p ≠ d.pl := fun z => by
      obtain ⟨o, ho⟩ := Z1.there d.pl (by simp)
      rw [← z, n2] at ho; cases ho
    refine wordsOf_s Z2.S (.inr ⟨np, kvs, hk, fnd⟩) (by omega) (fun n hn => ((hF n).mp hn).lv) fun H3 f3 => ?_
    exact h F H3 ndF (fun n => (hF n).trans (rch_rg Z.S.nd n)) (f1.trans (f2.trans f3))
end
end K06

set_option Elab.async false
set_option linter.all false
set_option maxRecDepth 100000
set_option maxHeartbeats 4000000
namespace K06
open PySem PySem.Spec PyProof.Rows L2 KW ST LamX
local macro_rules | `(tactic| walk_at "kw") => `(tactic| simp only [tSeq, tNext, tIfS, tTest, tAnd, tOr, tNot, tAndV, tOrV, tNotV, tIf, tChain, tOp, tUn, tC, tAsg, gName, gSub, gCons, gNil, tRet, tRetN, tDrop, tCons, tNil, tCB, tAug, tSl, tPart, tNoPart, tLst, tTup, tBM, tBM0, uTest, uFor, iRng1, iRng2, iList, uCall, List.map_cons, List.map_nil, List.length_cons, List.length_nil, List.cons_append, List.nil_append, List.replicate, Nat.zero_add, Nat.reduceAdd, Nat.reduceSub, List.getElem?_cons_zero, List.getElem?_cons_succ, List.set_cons_zero, List.set_cons_succ, V.bl.injEq, V.int.injEq, V.str.injEq, V.ref.injEq, V.ty.injEq, List.cons.injEq, and_true, true_and, exists_eq_left', exists_eq_right, exists_eq_left, exists_and_left, exists_and_right, decide_eq_true_eq, Bool.not_eq_true', decide_eq_false_iff_not, Bool.false_eq_true, if_true, if_false, ite_true, ite_false, Bool.not_true, Bool.not_false, reduceCtorEq, decide_true, decide_false, Bool.not_not, isK_int_int, isK_int_bool, isK_int_str, isK_int_list, isK_int_tuple, isK_bool_int, isK_bool_bool, isK_bool_str, isK_str_str, isK_str_int, isK_str_bool, isK_str_tuple, isK_str_list, isK_list_list, isK_list_tuple, isK_tuple_tuple, isK_tuple_list, isOk_int_int, isOk_int_bool, isOk_int_str, isOk_int_list, isOk_int_tuple, isOk_bool_int, isOk_bool_bool, isOk_bool_str, isOk_str_str, isOk_str_int, isOk_str_bool, isOk_str_tuple, isOk_str_list, isOk_list_list, isOk_list_tuple, isOk_tuple_tuple, isOk_tuple_list, isK_dict_dict, isOk_dict_dict, isK_none_int, isK_none_bool, isOk_none_int, isOk_none_bool, tyV, S_inj, S_cat, L2.start, Nat.reduceSub, List.replicate_succ, List.replicate_zero, and_assoc, List.append_nil, Nat.reduceEqDiff, Option.some.injEq, Int.natCast_inj, upd_upd, Int.reducePow, Int.reduceToNat, Int.reduceMul, Int.reduceAdd, Int.reduceSub, Int.reduceLT, Int.reduceLE, Int.reduceNeg, Int.reduceDiv, Int.reduceMod, Nat.reducePow, Nat.reduceMul, S_len, List.length_append, List.length_map, List.length_range, not_true_eq_false, not_false_eq_true, ne_eq, uAdd_e1, uAdd_e2, uSub_e1, uMod_e1, uDiv_e1, uPow_e1, uShl_e1, uNeg_e1, uIAdd_e1, uIAdd_e2, uIAdd_e3, uISub_e1, uLt_e1, uLt_e2, uLe_e1, uGt_e1, uGe_e1, uEq_e1, uEq_e2, uEq_e3, uEq_e4, uEq_e5, uEq_e6, uEq_e7, uEq_e8, uEq_e9, uEq_e10, uEq_e11, uNe_e1, uNe_e2, uNe_e3, uNe_e4, uNe_e5, uNe_e6, uNe_e7, uNe_e8, uNe_e9, uNe_e10, uNe_e11, uIs_e1, uIs_e2, uIs_e3, uIs_e4, uIs_e5, uIs_e6, uIs_e7, uNotIs_e1, uNotIs_e2, uNotIs_e3, uNotIs_e4, uNotIs_e5, uNotIs_e6, uIn_e1, uIn_e2, uIn_e3, uIn_e4, uNotIn_e1, uNotIn_e2, uNotIn_e3, uNotIn_e4, uTru_e1, uTru_e2, uTru_e3, uTru_e4, uIx_e2, uSl_e2, uLen_e1, uAbs_e1, uInt_e1, uInt_e2, uMin2_e1, uIsi_e1, uIsi_e2, uIsi_e3, uIsi_e4, cx_K, uVar_0, uVar_n, uFld, uSFld, uMet, uMake, tDG, tDI, tDNI, tDP, tDD, uMk, uRaise, uDelSl, tCallS, L2.WE, uStr_e1, uStr_e2, uMul2_e1, uMul2_e2, okS_i, okS_s, List.zip_cons_cons, List.zip_nil_left, List.drop_zero, List.drop_succ_cons, List.drop_nil, putF_nil, putF_cons, eq_self, tDNewK, tB, Option.isSome_some, Option.isSome_none, false_and, false_or, or_false, exists_false, Int.zero_add, uLc, wipe, tYes, isEmpty_app, List.isEmpty_cons, List.isEmpty_nil, List.isEmpty_map, Bool.and_false, Bool.and_true, iRev, K06.lit_0, K06.lit_1, K06.lit_3, K06.lit_4, K06.fe_room_entries, K06.fe_room_words, K06.fe_room__places, K06.fe_room__least, K06.fe_entries_room, K06.fe_entries_words, K06.fe_entries__places, K06.fe_entries__least, K06.fe_words_room, K06.fe_words_entries, K06.fe_words__places, K06.fe_words__least, K06.fe__places_room, K06.fe__places_entries, K06.fe__places_words, K06.fe__places__least, K06.fe__least_room, K06.fe__least_entries, K06.fe__least_words, K06.fe__least__places, K06.fe_store_pressure, K06.fe_store_always, K06.fe_store_allocations, K06.fe_store_collections, K06.fe_store__roots, K06.fe_store__held, K06.fe_store__saved, K06.fe_pressure_store, K06.fe_pressure_always, K06.fe_pressure_allocations, K06.fe_pressure_collections, K06.fe_pressure__roots, K06.fe_pressure__held, K06.fe_pressure__saved, K06.fe_always_store, K06.fe_always_pressure, K06.fe_always_allocations, K06.fe_always_collections, K06.fe_always__roots, K06.fe_always__held, K06.fe_always__saved, K06.fe_allocations_store, K06.fe_allocations_pressure, K06.fe_allocations_always, K06.fe_allocations_collections, K06.fe_allocations__roots, K06.fe_allocations__held, K06.fe_allocations__saved, K06.fe_collections_store, K06.fe_collections_pressure, K06.fe_collections_always, K06.fe_collections_allocations, K06.fe_collections__roots, K06.fe_collections__held, K06.fe_collections__saved, K06.fe__roots_store, K06.fe__roots_pressure, K06.fe__roots_always, K06.fe__roots_allocations, K06.fe__roots_collections, K06.fe__roots__held, K06.fe__roots__saved, K06.fe__held_store, K06.fe__held_pressure, K06.fe__held_always, K06.fe__held_allocations, K06.fe__held_collections, K06.fe__held__roots, K06.fe__held__saved, K06.fe__saved_store, K06.fe__saved_pressure, K06.fe__saved_always, K06.fe__saved_allocations, K06.fe__saved_collections, K06.fe__saved__roots, K06.fe__saved__held, K06.fl_room_0, K06.lf_room_0, K06.fl_room_1, K06.lf_room_1, K06.fl_room_3, K06.lf_room_3, K06.fl_room_4, K06.lf_room_4, t11_e, uMetD.uMtD, tDGF_eq, uDGetF_e1, K06.N_is_ref, K06.N_ref_of, K06.N_reached, K06.N_words_of, K06.N_collect, K06.N_Store_init, K06.N_Store_used, K06.N_Store_exists, K06.N_Store_numbers, K06.N_Store_free_number, K06.N_Store_allocate, K06.N_Store_size, K06.N_Store_kind, K06.N_Store_get, K06.N_Store_put, K06.N_Store_slots, K06.N_Store_drop, K06.N_Store_close_up, K06.N_Space_init, K06.N_Space_press, K06.N_Space_root, K06.N_Space_set_root, K06.N_Space_hold, K06.N_Space_drop, K06.N_Space_held, K06.N_Space_all_roots, K06.N_Space_collect, K06.N_Space_collect_with, K06.N_Space_live_words, K06.N_Space_new, K06.N_Space_fitted, K06.N__law_number, K06.N__law_deeds, K06.N__law_is, K06.N__law_same, K06.N__law_place, K06.N__law_word, K06.N__law_reached, K06.N__law_total, K06.N__law_collections, K06.N__law_called, K06.N__law_kept, K06.N__law_held, K06.N__law_fresh, K06.N__law_new, K06.N__law_deed, K06.N__law_space, K06.N_law, sp_is_ref, sp_ref_of])
local macro_rules | `(tactic| walk_at "nn") => `(tactic| first | assumption | exact ne_un (by assumption) | exact ne_un (ne_un (by assumption)) | exact ne_un (ne_un (ne_un (by assumption))) | exact ne_un (ne_un (ne_un (ne_un (by assumption)))))
local macro_rules | `(tactic| walk_at "ne") => `(tactic| first | assumption | (apply Ne.symm; assumption) | exact ne_ud (by assumption) | exact Ne.symm (ne_ud (by assumption)) | exact ne_ud (ne_un (by assumption)) | exact Ne.symm (ne_ud (ne_un (by assumption))) | exact ne_ud (ne_un (ne_un (by assumption))) | exact Ne.symm (ne_ud (ne_un (ne_un (by assumption)))) | exact ne_m (by assumption) (by assumption) | exact Ne.symm (ne_m (by assumption) (by assumption)) | exact ne_n (by assumption) (by walk_at "nn") | exact Ne.symm (ne_n (by assumption) (by walk_at "nn")))
local macro_rules | `(tactic| walk_at "hp") => `(tactic| first | assumption | exact upd_same | (refine Eq.trans (upd_ne ?_) ?_; (focus walk_at "ne"); walk_at "hp"))
local macro_rules | `(tactic| walk_at "sc") => `(tactic| first | (with_reducible assumption) | omega | exact le_line (by (try simp only [List.length_map, List.length_append, List.length_cons, List.length_nil, S_len]); omega) | exact div_s (by omega) | exact mul_r (by omega) | exact mul_l (by omega) | exact pow_s (by omega) | exact mul2_r (by omega) | exact mul2_l (by omega) | exact small4300 (by omega) | exact lt_line (by (try simp only [List.length_map, List.length_append, List.length_cons, List.length_nil, S_len]); omega) | exact ⟨_, by assumption⟩ | (guard_target =~ Exists _; exact ⟨_, .of (by walk_at "hp")⟩) | (guard_target =~ _ ∨ _; exact .inl ⟨_, by assumption⟩) | (guard_target =~ _ ∨ _; exact .inl ⟨_, .of (by walk_at "hp")⟩) | (guard_target =~ _ ∨ _; exact .inr (.inr (.inl ⟨rfl, .inl ⟨_, by walk_at "hp"⟩⟩))) | decide)
local macro_rules | `(tactic| walk_at "kr") => `(tactic| first | (guard_target =~ _ ∧ _; first | refine And.intro (by walk_at "sc") ?_) | (guard_target =~ KW.uIx _ _ _ _ _; first | refine ix_l (by walk_at "hp") (by first | walk_at "hv" | rfl) ?_ | refine ix_t (by walk_at "hp") (by first | walk_at "hv" | rfl) ?_ | refine ix_sl (by assumption) (by walk_at "hv") ?_) | (guard_target =~ KW.uLen _ _ _ _; first | refine len_l (by walk_at "hp") ?_ | refine len_t (by walk_at "hp") ?_ | refine len_sl (by assumption) ?_) | (guard_target =~ KW.uSet _ _ _ _ _; first | refine set_l (by walk_at "hp") (by first | walk_at "hv" | rfl) ?_) | (guard_target =~ L2.gTup _ _ _ _ _ _ _; first | refine tup_l (by walk_at "hp") (by rfl) ?_) | (guard_target =~ KW.uGet _ _ _ _ _; first | refine get_l (by walk_at "hp") (by walk_at "hc") (by decide) (by rfl) ?_) | (guard_target =~ KW.uPut _ _ _ _ _ _; first | refine put_l (by walk_at "hp") (by walk_at "hc") (by decide) (by simp) ?_) | (guard_target =~ KW.uMet.uMt _ _ _ _ _ _ _ _ _; first | refine met_l (by walk_at "hp") (by rfl) ?_) | (guard_target =~ KW.uMet.uMt _ _ _ _ _ _ _ _ _; first | refine ST.met_s (by assumption) (by decide) ?_) | (guard_target =~ ST.spExists _ _ _ _ _; first | refine ST.exists_s (by assumption) ?_) | (guard_target =~ ST.spUsed _ _ _ _ _; first | refine ST.used_s (by assumption) ?_) | (guard_target =~ KW.uGet _ _ _ _ _; first | refine ST.words_s (by assumption) (by walk_at "hc") (by decide) ?_) | (guard_target =~ KW.uDIn _ _ _ _; first | refine din_i (by walk_at "hp") ?_ | refine din_s (by walk_at "hp") ?_) | (guard_target =~ KW.uDGet _ _ _ _; first | refine dget_i (by walk_at "hp") (by walk_at "hv") ?_ | refine dget_s (by walk_at "hp") (by walk_at "hv") ?_) | (guard_target =~ KW.uDPut _ _ _ _ _; first | refine dput_i (by walk_at "hp") (by walk_at "sc") ?_ | refine dput_s (by walk_at "hp") (by walk_at "sc") ?_) | (guard_target =~ KW.uDDel _ _ _ _; first | refine ddel_i (by walk_at "hp") (by walk_at "hv") ?_ | refine ddel_s (by walk_at "hp") (by walk_at "hv") ?_) | (guard_target =~ KW.uMul2 _ _ _ _; first | refine rep_l (by walk_at "hp") (by walk_at "sc") (by walk_at "sc") (by walk_at "sc") ?_) | (guard_target =~ L2.rAppend _ _ _ _; first | refine app_l (by walk_at "hp") (by walk_at "sc") ?_) | (guard_target =~ L2.rPop _ _ _ _; first | refine pop_l (by walk_at "hp") (by walk_at "hv") ?_ | refine pops_l (by walk_at "hp") ?_) | (guard_target =~ L2.rClear _ _ _ _; first | refine clr_l (by walk_at "hp") ?_) | (guard_target =~ L2.rReverse _ _ _ _; first | refine rev_l (by walk_at "hp") ?_) | (guard_target =~ L2.rExtend _ _ _ _; first | refine ext_l (by walk_at "hp") (by walk_at "hp") (by walk_at "sc") ?_) | (guard_target =~ KW.uAdd _ _ _ _ _; first | refine ucat_l (by walk_at "hp") (by walk_at "hp") (by walk_at "sc") ?_) | (guard_target =~ KW.uSl _ _ _ _ _ _; first | refine usl_l (by walk_at "hp") ?_) | (guard_target =~ KW.uTru _ _ _ _; first | refine tru_l (by walk_at "hp") ?_ | refine tru_t (by walk_at "hp") ?_ | refine tru_d (by walk_at "hp") ?_ | refine tru_sl (by assumption) ?_) | (guard_target =~ L2.rIndex _ _ _ _ _; first | refine idx_s (by walk_at "hp") (by assumption) ?_ | refine idx_i (by walk_at "hp") (by assumption) ?_) | (guard_target =~ L2.rIn _ _ _ _ _ _; first | refine in_s (by walk_at "hp") ?_ | refine nin_s (by walk_at "hp") ?_ | refine in_i (by walk_at "hp") ?_ | refine nin_i (by walk_at "hp") ?_) | (guard_target =~ KW.uIsi _ _ _ _; first | refine isi_l (by walk_at "hp") (by decide +kernel) ?_ | refine isi_t (by walk_at "hp") (by decide +kernel) ?_ | refine isi_d (by walk_at "hp") (by decide +kernel) ?_) | (guard_target =~ KW.uList _ _ _ _; first | refine list_l (by walk_at "hp") ?_ | refine list_t (by walk_at "hp") ?_ | refine list_sl (by assumption) ?_) | (guard_target =~ KW.uDict _ _ _; first | refine dict_d (by walk_at "hp") ?_) | (guard_target =~ KW.uSorted _ _ _ _; first | refine srt_l (by walk_at "hp") ?_) | (guard_target =~ KW.uSum _ _ _ _; first | refine sum_l (by walk_at "hp") ?_) | (guard_target =~ KW.uDelC _ _ _ _; first | refine dels_l (by walk_at "hp") (by walk_at "sc") ?_) | (guard_target =~ L2.wAs _ _ _ _ _ _ _ _ _ _; first | refine as_yes (by walk_at "hx") ?_ | refine as_no (by walk_at "hx") ?_) | (guard_target =~ KW.uEf _ _ _ _ _ _ _ _ _; first | refine ef_l (by walk_at "he") (by decide) (by rfl) (by walk_at "hp") (by rfl) ?_) | (guard_target =~ KW.uIsE _ _ _ _ _ _ _; first | refine isE_r (by walk_at "he") (by walk_at "hp") (by walk_at "hk") ?_ | refine isE_t (by walk_at "he") (by walk_at "hp") (by walk_at "hk") ?_))
local macro_rules | `(tactic| walk_at "hv") => `(tactic| first | assumption)
local macro_rules | `(tactic| walk_at "kk") => `(tactic| repeat (first | walk_at "kw" | walk_at "kr"))
local macro_rules | `(tactic| walk_at "hc") => `(tactic| first | exact K06.Txt.c_Store (by assumption) | exact K06.Txt.c_Space (by assumption))
local macro_rules | `(tactic| walk_at "he") => `(tactic| first | exact K06.Txt.e_BadWord (by assumption) | exact K06.Txt.e_NoRoom (by assumption) | exact K06.Txt.e_NoNumber (by assumption) | exact K06.Txt.e_Wrong (by assumption))
local macro_rules | `(tactic| walk_at "hx") => `(tactic| first | exact K06.Txt.x_BadWord_KilnwardenError (by assumption) | exact K06.Txt.x_BadWord_NoNumber (by assumption) | exact K06.Txt.x_BadWord_NoRoom (by assumption) | exact K06.Txt.x_NoRoom_KilnwardenError (by assumption) | exact K06.Txt.x_NoRoom_NoNumber (by assumption) | exact K06.Txt.x_NoRoom_NoRoom (by assumption) | exact K06.Txt.x_NoNumber_KilnwardenError (by assumption) | exact K06.Txt.x_NoNumber_NoNumber (by assumption) | exact K06.Txt.x_NoNumber_NoRoom (by assumption) | exact K06.Txt.x_Wrong_KilnwardenError (by assumption) | exact K06.Txt.x_Wrong_NoNumber (by assumption) | exact K06.Txt.x_Wrong_NoRoom (by assumption))
local macro_rules | `(tactic| walk_at "hk") => `(tactic| first | exact K06.Txt.i_BadWord_NoNumber (by assumption) | exact K06.Txt.i_BadWord_NoRoom (by assumption) | exact K06.Txt.i_NoRoom_NoNumber (by assumption) | exact K06.Txt.i_NoRoom_NoRoom (by assumption) | exact K06.Txt.i_NoNumber_NoNumber (by assumption) | exact K06.Txt.i_NoNumber_NoRoom (by assumption) | exact K06.Txt.i_Wrong_NoNumber (by assumption) | exact K06.Txt.i_Wrong_NoRoom (by assumption))

local macro_rules | `(tactic| walk_at "kr") => `(tactic| first | (guard_target =~ KW.uGet _ _ _ _ _; refine ST.get_g (by assumption) (by rfl) (by walk_at "hc") (by decide) (by rfl) ?_) | (guard_target =~ KW.uMet.uMt _ _ _ _ _ _ _ _ _; refine ST.met_g (by assumption) (by rfl) (by decide) ?_))
section
variable {P : Program} {w : World} {K : Frag} {mg : Str → Option Value} {base : Heap} {a : Ads}
theorem okH_Space_all_roots (T : Txt P w K mg a) : CalMH P w K mg base 1 a.Space "all_roots" (spGAllRoots a.Space a.Store) := by
  refine T.m_Space_all_roots.okH T.c_Space.cls sc_Space_all_roots (fun vs H Q E h => ?_) (fun f cdv A outer s H vs Q E pp hc hr h => ⟨_, (pss_one (ps_ret (pe_op o_add (pe_op o_add (pe_lst (pa_cons (k_g T.g_NIL) pa_nil)) (k_fld (kv 0) rfl)) (k_fld (kv 0) rfl)))), ?_⟩)
  · obtain ⟨_, rfl, _⟩ := h; rfl
  · obtain ⟨d, rfl, Z, h⟩ := h
    have rt := Z.rt
    have hl := Z.hl
    walk_at "kk"
    intro p hp
    have Z1 : Gpc a.Space a.Store (upd H p (.lst [.int 0])) d := Z.fr0 (Fr.new hp)
    have p1 : upd H p (.lst [.int 0]) p = some (.lst [.int 0]) := upd_same
    have f1 : KW.Fr [] H (upd H p (.lst [.int 0])) := Fr.new hp
    revert Z1 p1 f1
    generalize upd H p (.lst [.int 0]) = H1
    intro Z1 p1 f1
    have r16 := Z.r16
    have l9 := Z.l9
    have rt1 := Z1.rt
    walk_at "kk"
    intro t3 ht3
    have Z2 : Gpc a.Space a.Store (upd H1 t3 (.lst (.int 0 :: d.R.map V.int))) d := Z1.fr0 (Fr.new ht3)
    have p2 : upd H1 t3 (.lst (.int 0 :: d.R.map V.int)) t3 = some (.lst (.int 0 :: d.R.map V.int)) := upd_same
    have f2 : KW.Fr [] H (upd H1 t3 (.lst (.int 0 :: d.R.map V.int))) := f1.trans (Fr.new ht3)
    revert Z2 p2 f2
    generalize upd H1 t3 (.lst (.int 0 :: d.R.map V.int)) = H2
    intro Z2 p2 f2
    have hl2 := Z2.hl
    walk_at "kk"
    intro t4 ht4
    exact h t4 _ (Fr.none f2 (by simp) ht4) (f2.trans (Fr.new ht4)) (by show upd _ _ _ _ = _; rw [upd_same]; simp)
theorem okH_Space_collect_with (T : Txt P w K mg a) (TB : LamX.TabB base mg a.c_Store_close_up a.p_Store_close_up) : CalMH P w K mg base 5 a.Space "collect_with" (spGCollW a.Space a.Store a.p_Store_close_up ("Store.close_up" ++ ".<locals>.<lambda>")) := by
  have MH_Space_all_roots := okH_Space_all_roots (P := P) (w := w) (base := base) T
  have CH_collect_collecting := okH_collect_collecting (P := P) (w := w) (base := base) T TB
  refine T.m_Space_collect_with.okH T.c_Space.cls sc_Space_collect_with (fun vs H Q E h => ?_) (fun f cdv A outer s H vs Q E pp hc hr h => ⟨_, (pss_cons (k_sfld (kv 0) (pe_op o_add (k_fld (kv 0) rfl) pe_int) rfl)
      (pss_one (ps_ret (kcG hc CH_collect_collecting (hr.mono (by decide)) (pa_cons (k_fld (kv 0) rfl) (pa_cons (pe_op o_add (km0G hc MH_Space_all_roots (hr.mono (by decide)) (kv 0)) (pe_lst (pa_cons (kv 1) pa_nil))) pa_nil)))))), ?_⟩)
  · obtain ⟨_, _, rfl, _⟩ := h; rfl
  · obtain ⟨d, z, rfl, Z, TS, h⟩ := h
    generalize a.p_Store_close_up = P0 at *
    obtain ⟨dx, ob⟩ := Z.ob
    walk_at "kk"
    generalize hH1 : upd H d.sp _ = H1
    have Z1 := Z.own (al := d.al) (co := d.co + 1) (aw := d.aw) (sv := d.sv) hH1.symm
    have f1 : KW.Fr [d.sp] H H1 := by rw [← hH1]; exact Fr.upd (by simp)
    have T1 := TS.frl f1 fun y hy => Z.pln y (by simp at hy; simp [hy])
    have e0 : H d.st ≠ none := by obtain ⟨o, ho⟩ := Z.there d.st (by simp); rw [ho]; simp
    have ex : ∀ x ∈ fpG d, H x ≠ none := fun x hx => by obtain ⟨o, ho⟩ := Z.there x hx; rw [ho]; simp
    clear hH1 ob
    refine ⟨{ d with co := d.co + 1 }, rfl, Z1, fun l H2 n2 f2 i2 => ?_⟩
    have Z2 := Z1.fr0 f2
    have T2 := T1.fr0 f2
    refine ⟨by decide, fun p hp => ?_⟩
    have lr : (d.R ++ d.L).length ≤ 1100 := by have := Z.r16; have := Z.l9; rw [List.length_append]; omega
    have i3 := (Fr.new (l := []) (o := .lst [.int z]) hp) _ _ (by simp) i2
    have f3 : KW.Fr [] H1 (upd H2 p (.lst [.int z])) := f2.trans (Fr.new hp)
    have p3 : upd H2 p (.lst [.int z]) p = some (.lst [.int z]) := upd_same
    have f4 : KW.Fr [] H2 (upd H2 p (.lst [.int z])) := Fr.new hp
    revert i3 f3 p3 f4
    generalize upd H2 p (.lst [.int z]) = H3
    intro i3 f3 p3 f4
    refine ucat_l (xs := (0 :: (d.R ++ d.L)).map V.int) (zs := [.int z]) i3 p3 (le_line (by simp only [List.length_map, List.length_cons, List.length_nil]; omega)) fun t3 ht3 => ?_
    have f5 : KW.Fr [] H1 (upd H3 t3 (.lst ((0 :: (d.R ++ d.L)).map V.int ++ [.int z]))) := f3.trans (Fr.new ht3)
    have i5 : IL (upd H3 t3 (.lst ((0 :: (d.R ++ d.L)).map V.int ++ [.int z]))) t3 (d.ws ++ [z]) := by show upd _ _ _ _ = _; rw [upd_same]; simp
    revert f5 i5
    generalize upd H3 t3 (.lst ((0 :: (d.R ++ d.L)).map V.int ++ [.int z])) = H5
    intro f5 i5
    have Z5 := Z1.fr0 f5
    have T5 := T1.fr0 f5
    have bd := Z.bd
    refine collect_s Z5.S i5 T5 (by dsimp only; omega) (by simp; simp at lr; omega) fun F H' wd' pl' nF hF S' n1 n2 f' TS' => ?_
    dsimp only at hF S' f'
    have F5 : KW.Fr [d.sp] H H5 := f1.trans (f5.mono (by simp))
    have g1 : H wd' = none := F5.none (fun m => by simp at m; rw [m] at n1; obtain ⟨o, ho⟩ := Z5.there d.sp (by simp); rw [n1] at ho; cases ho) n1
    have g2 : H pl' = none := F5.none (fun m => by simp at m; rw [m] at n2; obtain ⟨o, ho⟩ := Z5.there d.sp (by simp); rw [n2] at ho; cases ho) n2
    refine h F H' wd' pl' nF (fun n => (hF n).trans (rch_rg Z.S.nd n)) (Z5.col S' f' (Z5.np T5) n1 n2 (Nat.le_trans flat_kept bd)) g1 g2 ?_ TS'
    exact (F5.mono (by simp)).trans (f'.mono fun y hy => by simp at hy ⊢; rcases hy with rfl | rfl | rfl <;> simp)

theorem ok_Space_fitted (T : Txt P w K mg a) (TB : LamX.TabB base mg a.c_Store_close_up a.p_Store_close_up) : CalM P w K mg base 6 a.Space "fitted" (spGFitted a.Space a.Store a.NoRoom a.NoNumber a.p_Store_close_up ("Store.close_up" ++ ".<locals>.<lambda>")) := by
  have M_Store_allocate := ok_Store_allocate (P := P) (w := w) (base := base) T
  have MH_Space_collect_with := okH_Space_collect_with (P := P) (w := w) (base := base) T TB
  refine T.m_Space_fitted.ok T.c_Space.cls sc_Space_fitted (fun vs H Q E h => ?_) (fun f cdv A outer s H vs Q E hr h => ⟨_, (pss_cons (ps_try7 (X := (cxOf (L2N.CX P w) P w K mg base N_Space_fitted "Space.fitted" (defScope s_Space_fitted) f cdv A outer s H E)) rfl rfl (L2N.takes_of rfl rfl rfl rfl) (fun W pn xe tk po => by
        have hbd : PSs (Cx.tr (cxOf (L2N.CX P w) P w K mg base N_Space_fitted "Space.fitted" (defScope s_Space_fitted) f cdv A outer s H E) pn xe) (tryB (nthS (defBody s_Space_fitted) 0)) _ := (pss_one (ps_ret (kmX tk M_Store_allocate (hr.mono (by decide)) (k_fld (kv 0) rfl) (pa_cons (kv 1) (pa_cons (kv 2) pa_nil)))))
        dsimp only [Cx.tr] at hbd
        exact hbd)
      (Cls7.bare (X := (cxOf (L2N.CX P w) P w K mg base N_Space_fitted "Space.fitted" (defScope s_Space_fitted) f cdv A outer s H E)) ⟨by rfl, by decide, .inl T.g_NoRoom⟩ (fun ea oe cls d pn hzn hf => by
        have hz := hzn.zc
        have hsu : PSs (Cx.suite (cxOf (L2N.CX P w) P w K mg base N_Space_fitted "Space.fitted" (defScope s_Space_fitted) f cdv A outer s H E) ea ((ea, oe) :: pn)) (suBk 0 (nthS (defBody s_Space_fitted) 0)) _ := (pss_one (ps_expr (kmS (X := (cxOf (L2N.CX P w) P w K mg base N_Space_fitted "Space.fitted" (defScope s_Space_fitted) f cdv A outer s H E)) hzn hf MH_Space_collect_with (hr.mono (by decide)) (kv 0) (pa_cons (kv 1) pa_nil))))
        dsimp only [Cx.suite] at hsu
        exact hsu)
      (Cls7.bare (X := (cxOf (L2N.CX P w) P w K mg base N_Space_fitted "Space.fitted" (defScope s_Space_fitted) f cdv A outer s H E)) ⟨by rfl, by decide, .inl T.g_NoNumber⟩ (fun ea oe cls d pn hzn hf => by
        have hz := hzn.zc
        have hsu : PSs (Cx.suite (cxOf (L2N.CX P w) P w K mg base N_Space_fitted "Space.fitted" (defScope s_Space_fitted) f cdv A outer s H E) ea ((ea, oe) :: pn)) (suBk 1 (nthS (defBody s_Space_fitted) 0)) _ := (pss_one (ps_expr (kmS (X := (cxOf (L2N.CX P w) P w K mg base N_Space_fitted "Space.fitted" (defScope s_Space_fitted) f cdv A outer s H E)) hzn hf MH_Space_collect_with (hr.mono (by decide)) (kv 0) (pa_cons (kv 1) pa_nil))))
        dsimp only [Cx.suite] at hsu
        exact hsu)
      Cls7.nil)))
      (pss_one (ps_ret (kmX (L2N.takes_of rfl rfl rfl rfl) M_Store_allocate (hr.mono (by decide)) (k_fld (kv 0) rfl) (pa_cons (kv 1) (pa_cons (kv 2) pa_nil)))))), ?_⟩)
  · obtain ⟨_, _, _, rfl, _⟩ := h; rfl
  · obtain ⟨d, kd, n, rfl, Z, TS, hn, h⟩ := h
    generalize a.p_Store_close_up = P0 at *
    walk_at "kk"
    have S := Z.S
    have rb := Z.rb
    have eb := Z.eb
    have bd := Z.bd
    obtain ⟨F, nF, hF⟩ := rg_ex S.nd (d.ws ++ [kd])
    obtain ⟨hA, hB⟩ := h F nF hF
    have tail : ∀ HX : Hp, Gpc a.Space a.Store HX d → TabS HX P0 ("Store.close_up" ++ ".<locals>.<lambda>") → KW.Fr [d.sp, d.st, d.wd, d.pl, P0] H HX → (∀ f, ¬ FitsG d d.B n f) → spGCollW a.Space a.Store P0 ("Store.close_up" ++ ".<locals>.<lambda>") [V.ref d.sp, V.int kd] HX (fun x H1 => uGet K "store" (V.ref d.sp) H1 fun x H1 =>
        uMet.uMt a.Store "allocate" (spAllocate a.Store a.NoRoom a.NoNumber) (WE (fun cls d x H => E cls d H) [some (V.ref d.sp), some (V.int kd), some (V.int n)]) (tCons (uVar 1) (tCons (uVar 2) tNil)) [some (V.ref d.sp), some (V.int kd), some (V.int n)] x H1 Q) E0 := by
      intro HX ZX TX fX nofit
      obtain ⟨hB1, hB2⟩ := hB nofit
      have nPX := ZX.np TX
      refine ⟨d, kd, rfl, ZX, TX, fun F' H2 wd' pl' nF' hF' Z2 n1 n2 f2 T2 => ?_⟩
      have ek := kept_same (B := d.B) (fun m => (hF' m).trans (hF m).symm)
      rw [ek] at Z2
      have m1 : H wd' = none := by
        cases e : H wd' with
        | none => rfl
        | some o =>
          by_cases c : wd' ∈ [d.sp, d.st, d.wd, d.pl, P0]
          · exfalso
            have : ∃ o, HX wd' = some o := by
              simp only [List.mem_cons, List.not_mem_nil, or_false] at c
              rcases c with c | c | c | c | c
              · rw [c]; exact ZX.there _ (by simp)
              · rw [c]; exact ZX.there _ (by simp)
              · rw [c]; exact ZX.there _ (by simp)
              · rw [c]; exact ZX.there _ (by simp)
              · rw [c]; obtain ⟨ps, h1, _⟩ := TX; exact ⟨_, h1⟩
            obtain ⟨o, ho⟩ := this
            rw [ho] at n1; cases n1
          · rw [fX _ _ c e] at n1; cases n1
      have m2 : H pl' = none := by
        cases e : H pl' with
        | none => rfl
        | some o =>
          by_cases c : pl' ∈ [d.sp, d.st, d.wd, d.pl, P0]
          · exfalso
            have : ∃ o, HX pl' = some o := by
              simp only [List.mem_cons, List.not_mem_nil, or_false] at c
              rcases c with c | c | c | c | c
              · rw [c]; exact ZX.there _ (by simp)
              · rw [c]; exact ZX.there _ (by simp)
              · rw [c]; exact ZX.there _ (by simp)
              · rw [c]; exact ZX.there _ (by simp)
              · rw [c]; obtain ⟨ps, h1, _⟩ := TX; exact ⟨_, h1⟩
            obtain ⟨o, ho⟩ := this
            rw [ho] at n2; cases n2
          · rw [fX _ _ c e] at n2; cases n2
      have F2 : KW.Fr [d.sp, d.st, d.wd, d.pl, P0] H H2 := fX.trans (f2.mono fun y hy => by simp at hy ⊢; rcases hy with rfl | rfl | rfl | rfl <;> simp)
      have kl : (flat (kept d.B F)).length ≤ 100000 := Nat.le_trans flat_kept bd
      have S2 := Z2.S
      walk_at "kk"
      refine ⟨d.st, wd', pl', d.rm, d.en, kept d.B F, kd, n, rfl, Z2.S, eb.1, by omega, by omega, by omega, fun hr x hx => ?_, fun hr f hf => ⟨fun hfe H' S' f' => ?_, fun hfe H' S' f' x hx => ?_⟩⟩
      · exact (hB2 H2 wd' pl' Z2 m1 m2 F2 T2 x hx).1 hr
      · have Z3 := Z2.app S' f' (by rw [flat_len_app]; simp; omega)
        have T3 := T2.frl f' fun y hy => Z2.pln y (by simp at hy ⊢; rcases hy with rfl | rfl | rfl <;> simp)
        refine hB1 f H' wd' pl' ⟨hr, hf, hfe⟩ Z3 m1 m2 (fun b o hb hH => ?_) T3
        have b1 : b ≠ wd' := ne_of_none hH m1
        have b2 : b ≠ pl' := ne_of_none hH m2
        refine f' b o ?_ (F2 b o hb hH)
        simp only [List.mem_cons, List.not_mem_nil, or_false, not_or] at hb ⊢
        exact ⟨hb.2.1, b1, b2⟩
      · have Z3 := Z2.app S' (f'.mono (by simp)) kl
        have T3 := T2.frl f' fun y hy => Z2.pln y (by simp at hy ⊢; rcases hy with rfl; simp)
        refine (hB2 H' wd' pl' Z3 m1 m2 (F2.trans (f'.mono (by simp))) T3 x hx).2 hr fun g hg => ?_
        have := hf.uniq hg.2.1
        have := hg.2.2
        omega
    walk_at "kk"
    refine ⟨d.st, d.wd, d.pl, d.rm, d.en, d.B, kd, n, rfl, S, eb.1, by omega, by omega, by omega, fun hr x hx => ?_, fun hr f hf => ⟨fun hfe H' S' f' => ?_, fun hfe H' S' f' x hx => ?_⟩⟩
    · refine cl_yes T.x_NoRoom_NoRoom fun ea hea => ?_
      have fx : KW.Fr [] H (upd H x (.xd [("need", .int (3 + n))])) := Fr.new hx
      have Z1 := Z.fr0 fx
      have T1 := TS.fr0 fx
      walk_at "kk"
      exact tail _ Z1 T1 (fx.mono (by simp)) fun f hf => by have := hf.1; omega
    · exact hA f H' ⟨hr, hf, hfe⟩ (Z.app S' f' (by rw [flat_len_app]; simp; omega)) (f'.mono (by simp)) (TS.frl f' fun y hy => Z.pln y (by simp at hy ⊢; rcases hy with rfl | rfl | rfl <;> simp))
    · refine cl_no T.x_NoNumber_NoRoom ?_
      refine cl_yes T.x_NoNumber_NoNumber fun ea hea => ?_
      have Z0 := Z.app S' (f'.mono (by simp)) bd
      have T0 := TS.frl f' fun y hy => Z.pln y (by simp at hy ⊢; rcases hy with rfl; simp)
      have fx : KW.Fr [] H' (upd H' x (.xd [("limit", .int d.en)])) := Fr.new hx
      have Z1 := Z0.fr0 fx
      have T1 := T0.fr0 fx
      walk_at "kk"
      exact tail _ Z1 T1 ((f'.mono (by simp)).trans (fx.mono (by simp))) fun g hg => by
        have := hf.uniq hg.2.1
        have := hg.2.2
        omega
theorem ok_Space_new (T : Txt P w K mg a) (TB : LamX.TabB base mg a.c_Store_close_up a.p_Store_close_up) : CalM P w K mg base 7 a.Space "new" (spGNew a.Space a.Store a.NoRoom a.NoNumber a.p_Store_close_up ("Store.close_up" ++ ".<locals>.<lambda>")) := by
  have M_Store_allocate := ok_Store_allocate (P := P) (w := w) (base := base) T
  have M_Space_fitted := ok_Space_fitted (P := P) (w := w) (base := base) T TB
  have M_Space_collect_with := ok_Space_collect_with (P := P) (w := w) (base := base) T TB
  refine T.m_Space_new.ok T.c_Space.cls sc_Space_new (fun vs H Q E h => ?_) (fun f cdv A outer s H vs Q E hr h => ⟨_, (pss_cons (k_sfld (kv 0) (pe_op o_add (k_fld (kv 0) rfl) pe_int) rfl)
      (pss_cons (ps_if (pt_cmpR o_isnot (k_fld (kv 0) rfl) pe_non (nomark _))
      (pss_one (ps_ret (kmX (L2N.takes_of rfl rfl rfl rfl) M_Store_allocate (hr.mono (by decide)) (k_fld (kv 0) rfl) (pa_cons (kv 1) (pa_cons (kv 2) pa_nil)))))
      pss_nil)
      (pss_cons (ps_if (PW.pt (pw_or (kt (k_fld (kv 0) rfl)) (pw_or1 (pt_cmpR o_in (k_fld (kv 0) rfl) (k_fld (kv 0) rfl) (by rfl)))))
      (pss_one (ps_expr (km M_Space_collect_with (hr.mono (by decide)) (kv 0) (pa_cons (kv 1) pa_nil))))
      pss_nil)
      (pss_one (ps_ret (kmX (L2N.takes_of rfl rfl rfl rfl) M_Space_fitted (hr.mono (by decide)) (kv 0) (pa_cons (kv 1) (pa_cons (kv 2) pa_nil)))))))), ?_⟩)
  · obtain ⟨_, _, _, rfl, _⟩ := h; rfl
  · obtain ⟨d, kd, n, rfl, Z, TS, sv, hn, h⟩ := h
    generalize a.p_Store_close_up = P0 at *
    obtain ⟨F, nF, hF⟩ := rg_ex Z.S.nd (d.ws ++ [kd])
    obtain ⟨hA, hB⟩ := h F nF hF
    obtain ⟨dx, ob⟩ := Z.ob
    unfold Gd.force at hA hB
    walk_at "kk"
    generalize hH1 : upd H d.sp _ = H1
    have Z1 := Z.own (al := d.al + 1) (co := d.co) (aw := d.aw) (sv := d.sv) hH1.symm
    have f1 : KW.Fr [d.sp] H H1 := by rw [← hH1]; exact Fr.upd (by simp)
    have T1 := TS.frl f1 fun y hy => Z.pln y (by simp at hy; simp [hy])
    have pe := Z1.pe
    clear hH1 ob
    rw [sv]
    walk_at "kk"
    have no : d.aw = false → d.al + 1 ∉ d.P → spGFitted a.Space a.Store a.NoRoom a.NoNumber P0 ("Store.close_up" ++ ".<locals>.<lambda>") [V.ref d.sp, V.int kd, V.int n] H1 Q (WE (fun cls d x H => E cls d H) [some (V.ref d.sp), some (V.int kd), some (V.int n)]) := fun h1 h2 =>
      ⟨{ d with al := d.al + 1 }, kd, n, rfl, Z1, T1, hn, fun F2 nF2 hF2 => by
        have e : FitE a.Space a.Store a.NoRoom a.NoNumber P0 ("Store.close_up" ++ ".<locals>.<lambda>") { d with al := d.al + 1 } F kd n H1 Q E := hA (by rw [h1, decide_eq_false h2]; rfl) H1 Z1 f1
        have ek := kept_same (B := d.B) (fun m => (hF2 m).trans (hF m).symm)
        exact e.same ek.symm⟩
    have yes : d.aw = true ∨ d.al + 1 ∈ d.P → spGCollW a.Space a.Store P0 ("Store.close_up" ++ ".<locals>.<lambda>") [V.ref d.sp, V.int kd] H1 (fun x H1 => uMet.uMt a.Space "fitted" (spGFitted a.Space a.Store a.NoRoom a.NoNumber P0 ("Store.close_up" ++ ".<locals>.<lambda>")) (WE (fun cls d x H => E cls d H) [some (V.ref d.sp), some (V.int kd), some (V.int n)])
        (tCons (uVar 1) (tCons (uVar 2) tNil)) [some (V.ref d.sp), some (V.int kd), some (V.int n)] (V.ref d.sp) H1 Q) E0 := fun h1 => by
      refine ⟨{ d with al := d.al + 1 }, kd, rfl, Z1, T1, fun F' H2 wd' pl' nF' hF' Z2 n1 n2 f2 T2 => ?_⟩
      have ek := kept_same (B := d.B) (fun m => (hF' m).trans (hF m).symm)
      dsimp only at Z2
      rw [ek] at Z2
      have m1 : H wd' = none := f1.none (fun m => by simp at m; rw [m] at n1; obtain ⟨o, ho⟩ := Z1.there d.sp (by simp); rw [n1] at ho; cases ho) n1
      have m2 : H pl' = none := f1.none (fun m => by simp at m; rw [m] at n2; obtain ⟨o, ho⟩ := Z1.there d.sp (by simp); rw [n2] at ho; cases ho) n2
      have F2 : KW.Fr [d.sp, d.st, d.pl, P0] H H2 := (f1.mono (by simp)).trans f2
      walk_at "kk"
      refine ⟨{ d with al := d.al + 1, wd := wd', pl := pl', B := kept d.B F, co := d.co + 1 }, kd, n, rfl, Z2, T2, hn, fun F3 nF3 hF3 => ?_⟩
      have e : FitE a.Space a.Store a.NoRoom a.NoNumber P0 ("Store.close_up" ++ ".<locals>.<lambda>") { d with al := d.al + 1, wd := wd', pl := pl', B := kept d.B F, co := d.co + 1 } F kd n H2 Q E := hB (by rcases h1 with h1 | h1 <;> simp [h1]) H2 wd' pl' Z2 m1 m2 F2 T2
      refine e.same ?_
      have e3 : ∀ m, m ∈ F3 ↔ m ∈ F := fun m => by
        refine (hF3 m).trans (Iff.trans ?_ (hF m).symm)
        have := rch_kept (B := d.B) (R := d.ws ++ [kd]) (F := F) (fun m => (hF m).trans (rch_rg Z.S.nd m).symm) m
        exact (rch_rg (Z.S.nd.kept F) m).symm.trans (this.trans (rch_rg Z.S.nd m))
      exact kept_same fun m => (e3 m).symm
    cases haw : d.aw with
    | true =>
      walk_at "kk"
      exact yes (.inl haw)
    | false =>
      walk_at "kk"
      by_cases c : d.al + 1 ∈ d.P
      · rw [if_pos c]
        walk_at "kk"
        exact yes (.inr c)
      · rw [if_neg c]
        walk_at "kk"
        exact no haw c
end
end K06

set_option Elab.async false
set_option linter.all false
set_option maxRecDepth 100000
set_option maxHeartbeats 4000000
namespace K06
open PySem PySem.Spec PyProof.Rows L2 KW ST
local macro_rules | `(tactic| walk_at "kw") => `(tactic| simp only [tSeq, tNext, tIfS, tTest, tAnd, tOr, tNot, tAndV, tOrV, tNotV, tIf, tChain, tOp, tUn, tC, tAsg, gName, gSub, gCons, gNil, tRet, tRetN, tDrop, tCons, tNil, tCB, tAug, tSl, tPart, tNoPart, tLst, tTup, tBM, tBM0, uTest, uFor, iRng1, iRng2, iList, uCall, List.map_cons, List.map_nil, List.length_cons, List.length_nil, List.cons_append, List.nil_append, List.replicate, Nat.zero_add, Nat.reduceAdd, Nat.reduceSub, List.getElem?_cons_zero, List.getElem?_cons_succ, List.set_cons_zero, List.set_cons_succ, V.bl.injEq, V.int.injEq, V.str.injEq, V.ref.injEq, V.ty.injEq, List.cons.injEq, and_true, true_and, exists_eq_left', exists_eq_right, exists_eq_left, exists_and_left, exists_and_right, decide_eq_true_eq, Bool.not_eq_true', decide_eq_false_iff_not, Bool.false_eq_true, if_true, if_false, ite_true, ite_false, Bool.not_true, Bool.not_false, reduceCtorEq, decide_true, decide_false, Bool.not_not, isK_int_int, isK_int_bool, isK_int_str, isK_int_list, isK_int_tuple, isK_bool_int, isK_bool_bool, isK_bool_str, isK_str_str, isK_str_int, isK_str_bool, isK_str_tuple, isK_str_list, isK_list_list, isK_list_tuple, isK_tuple_tuple, isK_tuple_list, isOk_int_int, isOk_int_bool, isOk_int_str, isOk_int_list, isOk_int_tuple, isOk_bool_int, isOk_bool_bool, isOk_bool_str, isOk_str_str, isOk_str_int, isOk_str_bool, isOk_str_tuple, isOk_str_list, isOk_list_list, isOk_list_tuple, isOk_tuple_tuple, isOk_tuple_list, isK_dict_dict, isOk_dict_dict, isK_none_int, isK_none_bool, isOk_none_int, isOk_none_bool, tyV, S_inj, S_cat, L2.start, Nat.reduceSub, List.replicate_succ, List.replicate_zero, and_assoc, List.append_nil, Nat.reduceEqDiff, Option.some.injEq, Int.natCast_inj, upd_upd, Int.reducePow, Int.reduceToNat, Int.reduceMul, Int.reduceAdd, Int.reduceSub, Int.reduceLT, Int.reduceLE, Int.reduceNeg, Int.reduceDiv, Int.reduceMod, Nat.reducePow, Nat.reduceMul, S_len, List.length_append, List.length_map, List.length_range, not_true_eq_false, not_false_eq_true, ne_eq, uAdd_e1, uAdd_e2, uSub_e1, uMod_e1, uDiv_e1, uPow_e1, uShl_e1, uNeg_e1, uIAdd_e1, uIAdd_e2, uIAdd_e3, uISub_e1, uLt_e1, uLt_e2, uLe_e1, uGt_e1, uGe_e1, uEq_e1, uEq_e2, uEq_e3, uEq_e4, uEq_e5, uEq_e6, uEq_e7, uEq_e8, uEq_e9, uEq_e10, uEq_e11, uNe_e1, uNe_e2, uNe_e3, uNe_e4, uNe_e5, uNe_e6, uNe_e7, uNe_e8, uNe_e9, uNe_e10, uNe_e11, uIs_e1, uIs_e2, uIs_e3, uIs_e4, uIs_e5, uIs_e6, uIs_e7, uNotIs_e1, uNotIs_e2, uNotIs_e3, uNotIs_e4, uNotIs_e5, uNotIs_e6, uIn_e1, uIn_e2, uIn_e3, uIn_e4, uNotIn_e1, uNotIn_e2, uNotIn_e3, uNotIn_e4, uTru_e1, uTru_e2, uTru_e3, uTru_e4, uIx_e2, uSl_e2, uLen_e1, uAbs_e1, uInt_e1, uInt_e2, uMin2_e1, uIsi_e1, uIsi_e2, uIsi_e3, uIsi_e4, cx_K, uVar_0, uVar_n, uFld, uSFld, uMet, uMake, tDG, tDI, tDNI, tDP, tDD, uMk, uRaise, uDelSl, tCallS, L2.WE, uStr_e1, uStr_e2, uMul2_e1, uMul2_e2, okS_i, okS_s, List.zip_cons_cons, List.zip_nil_left, List.drop_zero, List.drop_succ_cons, List.drop_nil, putF_nil, putF_cons, eq_self, tDNewK, tB, Option.isSome_some, Option.isSome_none, false_and, false_or, or_false, exists_false, Int.zero_add, uLc, wipe, tYes, isEmpty_app, List.isEmpty_cons, List.isEmpty_nil, List.isEmpty_map, Bool.and_false, Bool.and_true, iRev, K06.lit_0, K06.lit_1, K06.lit_3, K06.lit_4, K06.fe_room_entries, K06.fe_room_words, K06.fe_room__places, K06.fe_room__least, K06.fe_entries_room, K06.fe_entries_words, K06.fe_entries__places, K06.fe_entries__least, K06.fe_words_room, K06.fe_words_entries, K06.fe_words__places, K06.fe_words__least, K06.fe__places_room, K06.fe__places_entries, K06.fe__places_words, K06.fe__places__least, K06.fe__least_room, K06.fe__least_entries, K06.fe__least_words, K06.fe__least__places, K06.fe_store_pressure, K06.fe_store_always, K06.fe_store_allocations, K06.fe_store_collections, K06.fe_store__roots, K06.fe_store__held, K06.fe_store__saved, K06.fe_pressure_store, K06.fe_pressure_always, K06.fe_pressure_allocations, K06.fe_pressure_collections, K06.fe_pressure__roots, K06.fe_pressure__held, K06.fe_pressure__saved, K06.fe_always_store, K06.fe_always_pressure, K06.fe_always_allocations, K06.fe_always_collections, K06.fe_always__roots, K06.fe_always__held, K06.fe_always__saved, K06.fe_allocations_store, K06.fe_allocations_pressure, K06.fe_allocations_always, K06.fe_allocations_collections, K06.fe_allocations__roots, K06.fe_allocations__held, K06.fe_allocations__saved, K06.fe_collections_store, K06.fe_collections_pressure, K06.fe_collections_always, K06.fe_collections_allocations, K06.fe_collections__roots, K06.fe_collections__held, K06.fe_collections__saved, K06.fe__roots_store, K06.fe__roots_pressure, K06.fe__roots_always, K06.fe__roots_allocations, K06.fe__roots_collections, K06.fe__roots__held, K06.fe__roots__saved, K06.fe__held_store, K06.fe__held_pressure, K06.fe__held_always, K06.fe__held_allocations, K06.fe__held_collections, K06.fe__held__roots, K06.fe__held__saved, K06.fe__saved_store, K06.fe__saved_pressure, K06.fe__saved_always, K06.fe__saved_allocations, K06.fe__saved_collections, K06.fe__saved__roots, K06.fe__saved__held, K06.fl_room_0, K06.lf_room_0, K06.fl_room_1, K06.lf_room_1, K06.fl_room_3, K06.lf_room_3, K06.fl_room_4, K06.lf_room_4, t11_e, uMetD.uMtD, tDGF_eq, uDGetF_e1, K06.N_is_ref, K06.N_ref_of, K06.N_reached, K06.N_words_of, K06.N_collect, K06.N_Store_init, K06.N_Store_used, K06.N_Store_exists, K06.N_Store_numbers, K06.N_Store_free_number, K06.N_Store_allocate, K06.N_Store_size, K06.N_Store_kind, K06.N_Store_get, K06.N_Store_put, K06.N_Store_slots, K06.N_Store_drop, K06.N_Store_close_up, K06.N_Space_init, K06.N_Space_press, K06.N_Space_root, K06.N_Space_set_root, K06.N_Space_hold, K06.N_Space_drop, K06.N_Space_held, K06.N_Space_all_roots, K06.N_Space_collect, K06.N_Space_collect_with, K06.N_Space_live_words, K06.N_Space_new, K06.N_Space_fitted, K06.N__law_number, K06.N__law_deeds, K06.N__law_is, K06.N__law_same, K06.N__law_place, K06.N__law_word, K06.N__law_reached, K06.N__law_total, K06.N__law_collections, K06.N__law_called, K06.N__law_kept, K06.N__law_held, K06.N__law_fresh, K06.N__law_new, K06.N__law_deed, K06.N__law_space, K06.N_law, sp_is_ref, sp_ref_of])
local macro_rules | `(tactic| walk_at "nn") => `(tactic| first | assumption | exact ne_un (by assumption) | exact ne_un (ne_un (by assumption)) | exact ne_un (ne_un (ne_un (by assumption))) | exact ne_un (ne_un (ne_un (ne_un (by assumption)))))
local macro_rules | `(tactic| walk_at "ne") => `(tactic| first | assumption | (apply Ne.symm; assumption) | exact ne_ud (by assumption) | exact Ne.symm (ne_ud (by assumption)) | exact ne_ud (ne_un (by assumption)) | exact Ne.symm (ne_ud (ne_un (by assumption))) | exact ne_ud (ne_un (ne_un (by assumption))) | exact Ne.symm (ne_ud (ne_un (ne_un (by assumption)))) | exact ne_m (by assumption) (by assumption) | exact Ne.symm (ne_m (by assumption) (by assumption)) | exact ne_n (by assumption) (by walk_at "nn") | exact Ne.symm (ne_n (by assumption) (by walk_at "nn")))
local macro_rules | `(tactic| walk_at "hp") => `(tactic| first | assumption | exact upd_same | (refine Eq.trans (upd_ne ?_) ?_; (focus walk_at "ne"); walk_at "hp"))
local macro_rules | `(tactic| walk_at "sc") => `(tactic| first | (with_reducible assumption) | omega | exact le_line (by (try simp only [List.length_map, List.length_append, List.length_cons, List.length_nil, S_len]); omega) | exact div_s (by omega) | exact mul_r (by omega) | exact mul_l (by omega) | exact pow_s (by omega) | exact mul2_r (by omega) | exact mul2_l (by omega) | exact small4300 (by omega) | exact lt_line (by (try simp only [List.length_map, List.length_append, List.length_cons, List.length_nil, S_len]); omega) | exact ⟨_, by assumption⟩ | (guard_target =~ Exists _; exact ⟨_, .of (by walk_at "hp")⟩) | (guard_target =~ _ ∨ _; exact .inl ⟨_, by assumption⟩) | (guard_target =~ _ ∨ _; exact .inl ⟨_, .of (by walk_at "hp")⟩) | (guard_target =~ _ ∨ _; exact .inr (.inr (.inl ⟨rfl, .inl ⟨_, by walk_at "hp"⟩⟩))) | decide)
local macro_rules | `(tactic| walk_at "kr") => `(tactic| first | (guard_target =~ _ ∧ _; first | refine And.intro (by walk_at "sc") ?_) | (guard_target =~ KW.uIx _ _ _ _ _; first | refine ix_l (by walk_at "hp") (by first | walk_at "hv" | rfl) ?_ | refine ix_t (by walk_at "hp") (by first | walk_at "hv" | rfl) ?_ | refine ix_sl (by assumption) (by walk_at "hv") ?_) | (guard_target =~ KW.uLen _ _ _ _; first | refine len_l (by walk_at "hp") ?_ | refine len_t (by walk_at "hp") ?_ | refine len_sl (by assumption) ?_) | (guard_target =~ KW.uSet _ _ _ _ _; first | refine set_l (by walk_at "hp") (by first | walk_at "hv" | rfl) ?_) | (guard_target =~ L2.gTup _ _ _ _ _ _ _; first | refine tup_l (by walk_at "hp") (by rfl) ?_) | (guard_target =~ KW.uGet _ _ _ _ _; first | refine get_l (by walk_at "hp") (by walk_at "hc") (by decide) (by rfl) ?_) | (guard_target =~ KW.uPut _ _ _ _ _ _; first | refine put_l (by walk_at "hp") (by walk_at "hc") (by decide) (by simp) ?_) | (guard_target =~ KW.uMet.uMt _ _ _ _ _ _ _ _ _; first | refine met_l (by walk_at "hp") (by rfl) ?_) | (guard_target =~ KW.uMet.uMt _ _ _ _ _ _ _ _ _; first | refine ST.met_s (by assumption) (by decide) ?_) | (guard_target =~ ST.spExists _ _ _ _ _; first | refine ST.exists_s (by assumption) ?_) | (guard_target =~ ST.spUsed _ _ _ _ _; first | refine ST.used_s (by assumption) ?_) | (guard_target =~ KW.uGet _ _ _ _ _; first | refine ST.words_s (by assumption) (by walk_at "hc") (by decide) ?_) | (guard_target =~ KW.uDIn _ _ _ _; first | refine din_i (by walk_at "hp") ?_ | refine din_s (by walk_at "hp") ?_) | (guard_target =~ KW.uDGet _ _ _ _; first | refine dget_i (by walk_at "hp") (by walk_at "hv") ?_ | refine dget_s (by walk_at "hp") (by walk_at "hv") ?_) | (guard_target =~ KW.uDPut _ _ _ _ _; first | refine dput_i (by walk_at "hp") (by walk_at "sc") ?_ | refine dput_s (by walk_at "hp") (by walk_at "sc") ?_) | (guard_target =~ KW.uDDel _ _ _ _; first | refine ddel_i (by walk_at "hp") (by walk_at "hv") ?_ | refine ddel_s (by walk_at "hp") (by walk_at "hv") ?_) | (guard_target =~ KW.uMul2 _ _ _ _; first | refine rep_l (by walk_at "hp") (by walk_at "sc") (by walk_at "sc") (by walk_at "sc") ?_) | (guard_target =~ L2.rAppend _ _ _ _; first | refine app_l (by walk_at "hp") (by walk_at "sc") ?_) | (guard_target =~ L2.rPop _ _ _ _; first | refine pop_l (by walk_at "hp") (by walk_at "hv") ?_ | refine pops_l (by walk_at "hp") ?_) | (guard_target =~ L2.rClear _ _ _ _; first | refine clr_l (by walk_at "hp") ?_) | (guard_target =~ L2.rReverse _ _ _ _; first | refine rev_l (by walk_at "hp") ?_) | (guard_target =~ L2.rExtend _ _ _ _; first | refine ext_l (by walk_at "hp") (by walk_at "hp") (by walk_at "sc") ?_) | (guard_target =~ KW.uAdd _ _ _ _ _; first | refine ucat_l (by walk_at "hp") (by walk_at "hp") (by walk_at "sc") ?_) | (guard_target =~ KW.uSl _ _ _ _ _ _; first | refine usl_l (by walk_at "hp") ?_) | (guard_target =~ KW.uTru _ _ _ _; first | refine tru_l (by walk_at "hp") ?_ | refine tru_t (by walk_at "hp") ?_ | refine tru_d (by walk_at "hp") ?_ | refine tru_sl (by assumption) ?_) | (guard_target =~ L2.rIndex _ _ _ _ _; first | refine idx_s (by walk_at "hp") (by assumption) ?_ | refine idx_i (by walk_at "hp") (by assumption) ?_) | (guard_target =~ L2.rIn _ _ _ _ _ _; first | refine in_s (by walk_at "hp") ?_ | refine nin_s (by walk_at "hp") ?_ | refine in_i (by walk_at "hp") ?_ | refine nin_i (by walk_at "hp") ?_) | (guard_target =~ KW.uIsi _ _ _ _; first | refine isi_l (by walk_at "hp") (by decide +kernel) ?_ | refine isi_t (by walk_at "hp") (by decide +kernel) ?_ | refine isi_d (by walk_at "hp") (by decide +kernel) ?_) | (guard_target =~ KW.uList _ _ _ _; first | refine list_l (by walk_at "hp") ?_ | refine list_t (by walk_at "hp") ?_ | refine list_sl (by assumption) ?_) | (guard_target =~ KW.uDict _ _ _; first | refine dict_d (by walk_at "hp") ?_) | (guard_target =~ KW.uSorted _ _ _ _; first | refine srt_l (by walk_at "hp") ?_) | (guard_target =~ KW.uSum _ _ _ _; first | refine sum_l (by walk_at "hp") ?_) | (guard_target =~ KW.uDelC _ _ _ _; first | refine dels_l (by walk_at "hp") (by walk_at "sc") ?_) | (guard_target =~ L2.wAs _ _ _ _ _ _ _ _ _ _; first | refine as_yes (by walk_at "hx") ?_ | refine as_no (by walk_at "hx") ?_) | (guard_target =~ KW.uEf _ _ _ _ _ _ _ _ _; first | refine ef_l (by walk_at "he") (by decide) (by rfl) (by walk_at "hp") (by rfl) ?_) | (guard_target =~ KW.uIsE _ _ _ _ _ _ _; first | refine isE_r (by walk_at "he") (by walk_at "hp") (by walk_at "hk") ?_ | refine isE_t (by walk_at "he") (by walk_at "hp") (by walk_at "hk") ?_))
local macro_rules | `(tactic| walk_at "hv") => `(tactic| first | assumption)
local macro_rules | `(tactic| walk_at "kk") => `(tactic| repeat (first | walk_at "kw" | walk_at "kr"))
local macro_rules | `(tactic| walk_at "hc") => `(tactic| first | exact K06.Txt.c_Store (by assumption) | exact K06.Txt.c_Space (by assumption))
local macro_rules | `(tactic| walk_at "he") => `(tactic| first | exact K06.Txt.e_BadWord (by assumption) | exact K06.Txt.e_NoRoom (by assumption) | exact K06.Txt.e_NoNumber (by assumption) | exact K06.Txt.e_Wrong (by assumption))
local macro_rules | `(tactic| walk_at "hx") => `(tactic| first | exact K06.Txt.x_BadWord_KilnwardenError (by assumption) | exact K06.Txt.x_BadWord_NoNumber (by assumption) | exact K06.Txt.x_BadWord_NoRoom (by assumption) | exact K06.Txt.x_NoRoom_KilnwardenError (by assumption) | exact K06.Txt.x_NoRoom_NoNumber (by assumption) | exact K06.Txt.x_NoRoom_NoRoom (by assumption) | exact K06.Txt.x_NoNumber_KilnwardenError (by assumption) | exact K06.Txt.x_NoNumber_NoNumber (by assumption) | exact K06.Txt.x_NoNumber_NoRoom (by assumption) | exact K06.Txt.x_Wrong_KilnwardenError (by assumption) | exact K06.Txt.x_Wrong_NoNumber (by assumption) | exact K06.Txt.x_Wrong_NoRoom (by assumption))
local macro_rules | `(tactic| walk_at "hk") => `(tactic| first | exact K06.Txt.i_BadWord_NoNumber (by assumption) | exact K06.Txt.i_BadWord_NoRoom (by assumption) | exact K06.Txt.i_NoRoom_NoNumber (by assumption) | exact K06.Txt.i_NoRoom_NoRoom (by assumption) | exact K06.Txt.i_NoNumber_NoNumber (by assumption) | exact K06.Txt.i_NoNumber_NoRoom (by assumption) | exact K06.Txt.i_Wrong_NoNumber (by assumption) | exact K06.Txt.i_Wrong_NoRoom (by assumption))

section
variable {P : Program} {w : World} {K : Frag} {mg : Str → Option Value} {base : Heap} {a : Ads}
theorem ok__law_number (T : Txt P w K mg a) : Cal P w K mg base 1 "_law_number" spNumber := by
  refine T.d__law_number.ok sc__law_number (fun vs H Q E h => ?_) (fun f cdv A outer s H vs Q E hr h => ⟨_, (pss_cons (ps_if (pt_cmpR o_ge (kv 0) (pe_op o_pow pe_int pe_int) (nomark _))
      (pss_one (ps_ret (kv 0)))
      pss_nil)
      (pss_cons (ps_set (i := 2) sc__law_number.nd rfl (Or.inl rfl) (pe_op o_mod (pe_callTy c_int (by rfl) T.n_int (by decide +kernel) (pa_cons (pe_op o_add (pe_op o_add (pe_op o_mul2 (kv 0) pe_int) (pe_op o_mul2 (kv 1) pe_int)) pe_int) pa_nil)) pe_int))
      (pss_one (ps_ret (pe_op o_mod (pe_callTy c_int (by rfl) T.n_int (by decide +kernel) (pa_cons (pe_op o_add (pe_op o_mul2 (kv 2) (kv 2)) (pe_op o_mul2 (kv 1) pe_int)) pa_nil)) pe_int))))), ?_⟩)
  · obtain ⟨_, _, rfl, _⟩ := h; rfl
  · obtain ⟨c, k, rfl, hk, hk2, h⟩ := h
    walk_at "kk"
    split
    · exact h _ (by omega)
    · walk_at "kk"
      exact h _ (by omega)
theorem ok__law_is (T : Txt P w K mg a) : Cal P w K mg base 1 "_law_is" spIs := by
  refine T.d__law_is.ok sc__law_is (fun vs H Q E h => ?_) (fun f cdv A outer s H vs Q E hr h => ⟨_, (pss_one (ps_ret (pe_and (pe_callB c_isi (by rfl) T.n_isinstance (by decide +kernel) (pa_cons (kv 0) (pa_cons (pe_bltn (v := .ty "int") (by rfl) T.n_int (by decide +kernel) rfl) pa_nil))) (pe_and (pe_not (pe_callB c_isi (by rfl) T.n_isinstance (by decide +kernel) (pa_cons (kv 0) (pa_cons (pe_bltn (v := .ty "bool") (by rfl) T.n_bool (by decide +kernel) rfl) pa_nil)))) (pe_one (pe_cmpR (o_eq hr.units) (kv 0) (kv 1) (nomark _))))))), ?_⟩)
  · obtain ⟨_, _, rfl, _⟩ := h; rfl
  · obtain ⟨b, c, rfl, ⟨x, y, rfl, rfl, h⟩⟩ := h
    walk_at "kk"
    exact h
theorem ok__law_same (T : Txt P w K mg a) : Cal P w K mg base 2 "_law_same" spSame := by
  have C__law_is := ok__law_is (P := P) (w := w) (base := base) T
  refine T.d__law_same.ok sc__law_same (fun vs H Q E h => ?_) (fun f cdv A outer s H vs Q E hr h => ⟨_, (pss_cons (ps_if (PW.pt (pw_or (pt_not (kt (pe_callB c_isi (by rfl) T.n_isinstance (by decide +kernel) (pa_cons (kv 0) (pa_cons (pe_bltn (v := .ty "list") (by rfl) T.n_list (by decide +kernel) rfl) pa_nil))))) (pw_or1 (pt_cmpR (o_ne hr.units) (pe_callB c_len (by rfl) T.n_len (by decide +kernel) (pa_cons (kv 0) pa_nil)) (pe_callB c_len (by rfl) T.n_len (by decide +kernel) (pa_cons (kv 1) pa_nil)) (nomark _)))))
      (pss_one (ps_ret pe_bl))
      pss_nil)
      (pss_cons (k_for (passes_of rfl) rfl (pi_range1 (by rfl) T.n_range (pa_cons (pe_callB c_len (by rfl) T.n_len (by decide +kernel) (pa_cons (kv 1) pa_nil)) pa_nil)) (pg_name (i := 2) sc__law_same.nd rfl (Or.inl rfl))
      (pss_one (ps_if (pt_not (kt (kc C__law_is (hr.mono (by decide)) (pa_cons (pe_ix o_ix (kv 0) (kv 2) (fun _ _ => rfl)) (pa_cons (pe_ix o_ix (kv 1) (kv 2) (fun _ _ => rfl)) pa_nil)))))
      (pss_one (ps_ret pe_bl))
      pss_nil)))
      (pss_one (ps_ret pe_bl)))), ?_⟩)
  · obtain ⟨_, _, _, rfl, _⟩ := h; rfl
  · obtain ⟨p, q, xs, rfl, hp, hq, hl, h⟩ := h
    walk_at "kk"
    refine for_rng (fun i σ H' => ∃ v, σ = [some (.ref p), some (.ref q), v] ∧ H' = H) ⟨_, rfl, rfl⟩ ?_ ?_
    · rintro i σ H' hi ⟨v, rfl, rfl⟩
      obtain ⟨x, hx⟩ : ∃ x, xs[i]? = some x := ⟨_, List.getElem?_eq_getElem (show i < xs.length by omega)⟩
      have hv := atI_map (f := V.int) hx
      walk_at "kk"
      unfold spIs
      walk_at "kk"
    · rintro σ H' ⟨v, rfl, rfl⟩
      walk_at "kk"
      exact h
end
end K06

set_option Elab.async false
set_option linter.all false
set_option maxRecDepth 100000
set_option maxHeartbeats 4000000
/-! SpGN: when a new object fits; what new answers, told as the laws tell it -/
namespace ST
open PySem PySem.Spec PyProof.Rows L2 KW LamX
/-- all numbers are below the limit -/
def Low (d : Gd) : Prop := ∀ n, lv d.B n = true → 0 ≤ n ∧ n < d.en
theorem cnt_lt {ys : List Int} {m f : Int} (nd : ys.Nodup) (h : ∀ y ∈ ys, 0 ≤ y ∧ y < m) (hf : f ∉ ys) (h0 : 0 ≤ f) (h1 : f < m) : (ys.length : Int) < m := by
  have n2 : (f :: ys).Nodup := List.nodup_cons.mpr ⟨hf, nd⟩
  have := n2.length_le_of_subset (l₂ := (List.range m.toNat).map fun (i : Nat) => (i : Int)) fun x hx => by
    rw [List.mem_map]
    have hx' : 0 ≤ x ∧ x < m := by
      rcases List.mem_cons.mp hx with q | q
      · subst q; exact ⟨h0, h1⟩
      · exact h x q
    exact ⟨x.toNat, List.mem_range.mpr (by omega), by omega⟩
  rw [List.length_cons, List.length_map, List.length_range] at this
  omega
theorem fits_iff {d : Gd} {B : List Blk} {n : Nat} (N : Nd B) (h : ∀ n, lv B n = true → 0 ≤ n ∧ n < d.en) : (∃ f, FitsG d B n f) ↔ ((flat B).length : Int) + 3 + n ≤ d.rm ∧ ((nums B).length : Int) < d.en := by
  constructor
  · rintro ⟨f, h1, h2, h3⟩
    exact ⟨h1, cnt_lt (nums_nodup N) (fun y hy => h y (mem_nums.mp hy)) (fun z => by have := mem_nums.mp z; rw [h2.no] at this; cases this) h2.pos h3⟩
  · rintro ⟨h1, h2⟩
    obtain ⟨f, hf, hl⟩ := free_ex B
    exact ⟨f, h1, hf, by omega⟩
theorem kept_low {d : Gd} (h : Low d) (F : List Int) : ∀ n, lv (kept d.B F) n = true → 0 ≤ n ∧ n < d.en := fun n hn => by
  rw [lv_kept, Bool.and_eq_true] at hn
  exact h n hn.1
theorem flat_sum : ∀ B : List Blk, ((flat B).length : Int) = (B.map fun e => 3 + (e.s.length : Int)).sum
  | [] => rfl
  | e :: B => by
    rw [flat_cons, List.length_append, Blk.ws_len, List.map_cons, List.sum_cons, ← flat_sum B]
    omega
theorem kept_al {B : List Blk} {F : List Int} {e : Blk} (h : e ∈ kept B F) : e ∈ B ∧ e.al = true ∧ e.n ∈ F := by
  obtain ⟨i, hi⟩ := List.getElem?_of_mem h
  obtain ⟨j, h1, h2, h3⟩ := mem_kept hi
  exact ⟨List.mem_of_getElem? h1, h2, h3⟩
theorem tot_kept {B : List Blk} {F : List Int} (N : Nd B) (nF : F.Nodup) (hF : ∀ n ∈ F, lv B n = true) : ((flat (kept B F)).length : Int) = (F.map (wof B)).sum := by
  rw [flat_sum, ← perm_sum ((nums_kept N nF hF).map (wof B))]
  have e : nums (kept B F) = (kept B F).map fun e => e.n := by
    unfold nums
    rw [List.filter_eq_self.mpr]
    intro e he
    exact (kept_al he).2.1
  rw [e, List.map_map]
  congr 1
  refine List.map_congr_left fun e he => ?_
  obtain ⟨h1, h2, h3⟩ := kept_al he
  obtain ⟨i, hi⟩ := List.getElem?_of_mem h1
  exact (wof_eq N hi h2).symm
theorem cnt_kept {B : List Blk} {F : List Int} (N : Nd B) (nF : F.Nodup) (hF : ∀ n ∈ F, lv B n = true) : (nums (kept B F)).length = F.length := (nums_kept N nF hF).length_eq
theorem cnt_le {B : List Blk} {F : List Int} (N : Nd B) (nF : F.Nodup) (hF : ∀ n ∈ F, lv B n = true) : F.length ≤ (nums B).length := nF.length_le_of_subset fun n hn => mem_nums.mpr (hF n hn)
/-- how many collections new makes -/
def colN (d : Gd) (F : List Int) (n : Nat) : Nat :=
  if d.force = true then (if ((flat (kept d.B F)).length : Int) + 3 + n > d.rm ∨ (F.length : Int) ≥ d.en then 2 else 1)
  else (if ((flat d.B).length : Int) + 3 + n > d.rm ∨ ((nums d.B).length : Int) ≥ d.en then 1 else 0)
def bN (d : Gd) (F : List Int) (n : Nat) : List Blk := if colN d F n = 0 then d.B else kept d.B F
/-- at most these changed; what is the space's is the old space's or new -/
def MovG (d d' : Gd) (p : Addr) (H H' : Hp) : Prop := KW.Fr [d.sp, d.st, d.wd, d.pl, p] H H' ∧ ∀ x ∈ fpG d', x ∈ fpG d ∨ H x = none
theorem frN {l1 l2 l : List Addr} {H H1 H' : Hp} (f1 : KW.Fr l1 H H1) (f2 : KW.Fr l2 H1 H') (h1 : ∀ x ∈ l1, x ∈ l) (h2 : ∀ x ∈ l2, x ∈ l ∨ H x = none) : KW.Fr l H H' := fun b o hb hH => f2 b o (fun z => by
  rcases h2 b z with q | q
  · exact hb q
  · rw [hH] at q; cases q) (f1 b o (fun z => hb (h1 b z)) hH)
theorem newL_s {CS C NR NN p : Addr} {q : Str} {d : Gd} {F : List Int} {kd : Int} {n : Nat} {H : Hp} {Q : VK} {E : XK} {x : Addr} (Z : Gpc CS C H d) (TS : TabS H p q) (sv : d.sv = .non) (low : Low d) (hn : n ≤ 1000) (nF : F.Nodup) (hF : ∀ m, m ∈ F ↔ Rg (gB d.B) (d.ws ++ [kd]) m)
    (made : ((flat (kept d.B F)).length : Int) + 3 + n ≤ d.rm → (F.length : Int) < d.en → ∀ f H' wd' pl', Free (bN d F n) f → f < d.en → Gpc CS C H' { d with al := d.al + 1, co := d.co + colN d F n, wd := wd', pl := pl', B := bN d F n ++ [⟨f, kd, List.replicate n 0, true⟩] } → MovG d { d with wd := wd', pl := pl' } p H H' → TabS H' p q → Q (.int f) H')
    (room : ((flat (kept d.B F)).length : Int) + 3 + n > d.rm → ∀ H' wd' pl' t, Gpc CS C H' { d with al := d.al + 1, co := d.co + colN d F n, wd := wd', pl := pl', B := bN d F n } → MovG d { d with wd := wd', pl := pl' } p H H' → TabS H' p q → H' t = none → E (.ref NR) (some t) (upd H' t (.xd [("need", .int (3 + n))])))
    (numb : ((flat (kept d.B F)).length : Int) + 3 + n ≤ d.rm → (F.length : Int) ≥ d.en → ∀ H' wd' pl' t, Gpc CS C H' { d with al := d.al + 1, co := d.co + colN d F n, wd := wd', pl := pl', B := bN d F n } → MovG d { d with wd := wd', pl := pl' } p H H' → TabS H' p q → H' t = none → E (.ref NN) (some t) (upd H' t (.xd [("limit", .int d.en)])))
    (ex : x = d.sp := by rfl) : spGNew CS C NR NN p q [.ref x, .int kd, .int n] H Q E := by
  subst ex
  have hl : ∀ m ∈ F, lv d.B m = true := fun m hm => by
    obtain ⟨r, hr⟩ := ((hF m).mp hm).some
    rw [← gB_lv, hr]; rfl
  have N := Z.S.nd
  have ck := cnt_kept N nF hl
  have cl := cnt_le N nF hl
  have fk : (flat (kept d.B F)).length ≤ (flat d.B).length := flat_kept
  have Nk := N.kept F
  have uq : ∀ F', F'.Nodup → (∀ m, m ∈ F' ↔ Rg (gB d.B) (d.ws ++ [kd]) m) → kept d.B F' = kept d.B F := fun F' _ h => kept_same fun m => (h m).trans (hF m).symm
  refine ⟨d, kd, n, rfl, Z, TS, sv, hn, fun F' nF' hF' => ?_⟩
  have ek := uq F' nF' hF'
  have fp0 : ∀ {wd' pl' : Addr}, H wd' = none → H pl' = none → ∀ x ∈ fpG { d with wd := wd', pl := pl' }, x ∈ fpG d ∨ H x = none := fun h1 h2 x hx => by
    simp only [fpG, List.mem_cons, List.not_mem_nil, or_false] at hx ⊢
    rcases hx with rfl | rfl | rfl | rfl | rfl | rfl | rfl <;> simp_all
  have fp1 : ∀ x ∈ fpG d, x ∈ fpG d ∨ H x = none := fun x hx => .inl hx
  constructor
  · intro hf H1 Z1 f1
    have T1 := TS.frl f1 fun y hy => Z.pln y (by simp at hy; simp [hy])
    have c0 : colN d F n = if ((flat d.B).length : Int) + 3 + n > d.rm ∨ ((nums d.B).length : Int) ≥ d.en then 1 else 0 := by unfold colN; rw [if_neg (by rw [hf]; simp)]
    by_cases c : ((flat d.B).length : Int) + 3 + n > d.rm ∨ ((nums d.B).length : Int) ≥ d.en
    · rw [if_pos c] at c0
      have b0 : bN d F n = kept d.B F := by unfold bN; rw [c0]; rfl
      rw [c0, b0] at made room numb
      have nof : ∀ f, ¬ FitsG { d with al := d.al + 1 } d.B n f := fun f hf => by
        have := (fits_iff (d := { d with al := d.al + 1 }) N low).mp ⟨f, hf⟩
        dsimp only at this
        omega
      refine ⟨fun f H' hf => (nof f hf).elim, fun _ => ⟨fun f H' wd' pl' hf Z' n1 n2 f' T' => ?_, fun H' wd' pl' Z' n1 n2 f' T' t ht => ⟨fun hr => ?_, fun hr hnf => ?_⟩⟩⟩
      · rw [show ({ d with al := d.al + 1 } : Gd).B = d.B from rfl, ek] at hf Z'
        have h2 := (fits_iff (d := { d with al := d.al + 1 }) Nk (kept_low low F)).mp ⟨f, hf⟩
        rw [ck] at h2
        have m1 := f1.none (b := wd') (fun m => by simp at m; rw [m] at n1; obtain ⟨o, ho⟩ := Z1.there d.sp (by simp); rw [n1] at ho; cases ho) n1
        have m2 := f1.none (b := pl') (fun m => by simp at m; rw [m] at n2; obtain ⟨o, ho⟩ := Z1.there d.sp (by simp); rw [n2] at ho; cases ho) n2
        exact made h2.1 h2.2 f H' wd' pl' hf.2.1 hf.2.2 Z' ⟨(f1.mono (by simp)).trans f', fp0 m1 m2⟩ T'
      · rw [show ({ d with al := d.al + 1 } : Gd).B = d.B from rfl, ek] at hr Z'
        have m1 := f1.none (b := wd') (fun m => by simp at m; rw [m] at n1; obtain ⟨o, ho⟩ := Z1.there d.sp (by simp); rw [n1] at ho; cases ho) n1
        have m2 := f1.none (b := pl') (fun m => by simp at m; rw [m] at n2; obtain ⟨o, ho⟩ := Z1.there d.sp (by simp); rw [n2] at ho; cases ho) n2
        exact room hr H' wd' pl' t Z' ⟨(f1.mono (by simp)).trans f', fp0 m1 m2⟩ T' ht
      · rw [show ({ d with al := d.al + 1 } : Gd).B = d.B from rfl, ek] at hr hnf Z'
        have m1 := f1.none (b := wd') (fun m => by simp at m; rw [m] at n1; obtain ⟨o, ho⟩ := Z1.there d.sp (by simp); rw [n1] at ho; cases ho) n1
        have m2 := f1.none (b := pl') (fun m => by simp at m; rw [m] at n2; obtain ⟨o, ho⟩ := Z1.there d.sp (by simp); rw [n2] at ho; cases ho) n2
        have h2 : ¬ (((flat (kept d.B F)).length : Int) + 3 + n ≤ d.rm ∧ ((nums (kept d.B F)).length : Int) < d.en) := fun z => by
          obtain ⟨f, hf⟩ := (fits_iff (d := { d with al := d.al + 1 }) Nk (kept_low low F)).mpr z
          exact hnf f hf
        rw [ck] at h2
        have hr' : ((flat (kept d.B F)).length : Int) + 3 + n ≤ d.rm := hr
        exact numb hr' (by omega) H' wd' pl' t Z' ⟨(f1.mono (by simp)).trans f', fp0 m1 m2⟩ T' ht
    · rw [if_neg c] at c0
      have b0 : bN d F n = d.B := by unfold bN; rw [c0]; rfl
      rw [c0, b0] at made
      have fit : ∃ f, FitsG { d with al := d.al + 1 } d.B n f := (fits_iff (d := { d with al := d.al + 1 }) N low).mpr ⟨by dsimp only; omega, by dsimp only; omega⟩
      refine ⟨fun f H' hf Z' f' T' => ?_, fun no => (no _ fit.choose_spec).elim⟩
      refine made (by omega) (by omega) f H' d.wd d.pl hf.2.1 hf.2.2 ?_ ⟨(f1.mono (by simp)).trans f', fp1⟩ T'
      simpa using Z'
  · intro hf H1 wd' pl' Z1 n1 n2 f1 T1
    rw [ek] at Z1 ⊢
    have c0 : colN d F n = if ((flat (kept d.B F)).length : Int) + 3 + n > d.rm ∨ (F.length : Int) ≥ d.en then 2 else 1 := by unfold colN; rw [if_pos hf]
    have b0 : bN d F n = kept d.B F := by unfold bN; rw [c0]; split <;> rfl
    have kk : kept (kept d.B F) F' = kept d.B F := kept_kept fun m => (hF' m).trans (hF m).symm
    rw [b0] at made room numb
    have fr2 : ∀ x ∈ [d.sp, d.st, wd', pl', p], x ∈ [d.sp, d.st, d.wd, d.pl, p] ∨ H x = none := fun x hx => by
      simp only [List.mem_cons, List.not_mem_nil, or_false] at hx ⊢
      rcases hx with rfl | rfl | rfl | rfl | rfl <;> simp [n1, n2]
    have fp2 : ∀ y, H1 y = none → y ∈ fpG d ∨ H y = none := fun y hy => by
      by_cases c : y ∈ [d.sp, d.st, d.pl, p]
      · simp only [List.mem_cons, List.not_mem_nil, or_false] at c
        rcases c with c | c | c | c
        · exact .inl (by simp [c])
        · exact .inl (by simp [c])
        · exact .inl (by simp [c])
        · obtain ⟨ps, h1, _⟩ := T1
          rw [c, h1] at hy; cases hy
      · exact .inr (f1.none c hy)
    have fp3 : ∀ {wd2 pl2 : Addr}, H1 wd2 = none → H1 pl2 = none → ∀ x ∈ fpG { d with wd := wd2, pl := pl2 }, x ∈ fpG d ∨ H x = none := fun h1 h2 x hx => by
      have q1 := fp2 _ h1
      have q2 := fp2 _ h2
      simp only [fpG, List.mem_cons, List.not_mem_nil, or_false] at hx q1 q2 ⊢
      rcases hx with rfl | rfl | rfl | rfl | rfl | rfl | rfl
      · simp
      · simp
      · exact q1
      · exact q2
      · simp
      · simp
      · simp
    by_cases c : ((flat (kept d.B F)).length : Int) + 3 + n > d.rm ∨ (F.length : Int) ≥ d.en
    · rw [if_pos c] at c0
      rw [c0] at room numb
      have nof : ∀ f, ¬ FitsG { d with al := d.al + 1, wd := wd', pl := pl', B := kept d.B F, co := d.co + 1 } (kept d.B F) n f := fun f hf => by
        have := (fits_iff (d := { d with al := d.al + 1, wd := wd', pl := pl', B := kept d.B F, co := d.co + 1 }) Nk (kept_low low F)).mp ⟨f, hf⟩
        rw [ck] at this
        dsimp only at this
        omega
      refine ⟨fun f H' hf => (nof f hf).elim, fun _ => ⟨fun f H' wd2 pl2 hf => ?_, fun H' wd2 pl2 Z' x1 x2 f' T' t ht => ⟨fun hr => ?_, fun hr hnf => ?_⟩⟩⟩
      · dsimp only at hf
        rw [kk] at hf
        exact (nof f hf).elim
      · dsimp only at hr Z'
        rw [kk] at hr Z'
        have Z3 : Gpc CS C H' { d with al := d.al + 1, co := d.co + 2, wd := wd2, pl := pl2, B := kept d.B F } := by
          have e : d.co + 1 + 1 = d.co + 2 := by omega
          rw [e] at Z'; exact Z'
        exact room hr H' wd2 pl2 t Z3 ⟨frN f1 f' (by simp) fr2, fp3 x1 x2⟩ T' ht
      · dsimp only at hr Z'
        rw [kk] at hr Z'
        have Z3 : Gpc CS C H' { d with al := d.al + 1, co := d.co + 2, wd := wd2, pl := pl2, B := kept d.B F } := by
          have e : d.co + 1 + 1 = d.co + 2 := by omega
          rw [e] at Z'; exact Z'
        exact numb hr (by omega) H' wd2 pl2 t Z3 ⟨frN f1 f' (by simp) fr2, fp3 x1 x2⟩ T' ht
    · rw [if_neg c] at c0
      rw [c0] at made
      have fit : ∃ f, FitsG { d with al := d.al + 1, wd := wd', pl := pl', B := kept d.B F, co := d.co + 1 } (kept d.B F) n f := (fits_iff (d := { d with al := d.al + 1, wd := wd', pl := pl', B := kept d.B F, co := d.co + 1 }) Nk (kept_low low F)).mpr ⟨by dsimp only; omega, by rw [ck]; dsimp only; omega⟩
      refine ⟨fun f H' hf Z' f' T' => ?_, fun no => (no _ fit.choose_spec).elim⟩
      exact made (by omega) (by omega) f H' wd' pl' hf.2.1 hf.2.2 Z' ⟨frN f1 f' (by simp) fr2, fp0 n1 n2⟩ T'
end ST

set_option Elab.async false
set_option linter.all false
set_option maxRecDepth 100000
set_option maxHeartbeats 4000000
/-! Sp6: what the laws over a space that collects keep beside it; promises -/
namespace ST
open PySem PySem.Spec PyProof.Rows L2 KW LamX
/-- a found object: its number, its list, its slots' list -/
structure DRow where
  n : Int
  a : Addr
  s : Addr
  k : Int
  sl : List Int
def kvF (D : List DRow) : KVs := D.map fun r => (.inl r.n, .ref r.a)
abbrev nsF (D : List DRow) : List Int := D.map fun r => r.n
structure Fd (H : Hp) (p : Addr) (D : List DRow) : Prop where
  dc : H p = some (.dK (kvF D))
  rs : ∀ r ∈ D, H r.a = some (.lst [.int r.k, .ref r.s]) ∧ IL H r.s r.sl
  nd : (nsF D).Nodup
theorem kvF_keys (D : List DRow) : (kvF D).map (·.1) = (nsF D).map Sum.inl := by unfold kvF nsF; rw [List.map_map, List.map_map]; rfl
theorem kvF_len (D : List DRow) : (kvF D).length = D.length := by unfold kvF; rw [List.length_map]
theorem kvF_at {D : List DRow} (nd : (nsF D).Nodup) {r : DRow} (h : r ∈ D) : valV (kvF D) (.inl r.n) = some (.ref r.a) := by
  induction D with
  | nil => cases h
  | cons e D ih =>
    simp only [nsF, List.map_cons, List.nodup_cons] at nd
    by_cases c : e.n = r.n
    · rcases List.mem_cons.mp h with q | q
      · subst q; exact valV_pos (p := (Sum.inl r.n, V.ref r.a)) (r := kvF D) rfl
      · exact absurd (List.mem_map.mpr ⟨r, q, c.symm⟩) nd.1
    · rcases List.mem_cons.mp h with q | q
      · exact absurd (by rw [q]) c
      · exact (valV_neg (p := (Sum.inl e.n, V.ref e.a)) (r := kvF D) (fun z => c (Sum.inl.inj z))).trans (ih nd.2 q)
theorem kvF_is (D : List DRow) (n : Int) : (valV (kvF D) (.inl n)).isSome = decide (n ∈ nsF D) := by
  apply Bool.eq_iff_iff.mpr
  rw [valV_some, kvF_keys, List.mem_map, decide_eq_true_eq]
  exact ⟨fun ⟨a, ha, z⟩ => by cases z; exact ha, fun ha => ⟨n, ha, rfl⟩⟩
theorem kvF_put {D : List DRow} {r : DRow} (h : r.n ∉ nsF D) : putK (kvF D) (.inl r.n) (.ref r.a) = kvF (D ++ [r]) := by
  have e : valV (kvF D) (.inl r.n) = none := by
    have := kvF_is D r.n
    rw [decide_eq_false h] at this
    cases q : valV (kvF D) (.inl r.n) with
    | none => rfl
    | some v => rw [q] at this; cases this
  unfold putK
  rw [if_neg (by rw [valV_any, e]; simp)]
  unfold kvF
  rw [List.map_append]; rfl
theorem Fd.fr0 {H H' : Hp} {p : Addr} {D : List DRow} (s : Fd H p D) (f : KW.Fr [] H H') : Fd H' p D := ⟨f _ _ (by simp) s.dc, fun r hr => ⟨f _ _ (by simp) (s.rs r hr).1, f _ _ (by simp) (s.rs r hr).2⟩, s.nd⟩
abbrev fpF (p : Addr) (D : List DRow) : List Addr := p :: (D.map fun r => r.a) ++ D.map fun r => r.s
theorem Fd.fr {H H' : Hp} {p : Addr} {D : List DRow} {l : List Addr} (s : Fd H p D) (f : KW.Fr l H H') (n : ∀ x ∈ fpF p D, x ∉ l) : Fd H' p D :=
  ⟨f _ _ (n _ (by simp)) s.dc, fun r hr => ⟨f _ _ (n _ (by simp; exact .inr (.inl ⟨r, hr, rfl⟩))) (s.rs r hr).1, f _ _ (n _ (by simp; exact .inr (.inr ⟨r, hr, rfl⟩))) (s.rs r hr).2⟩, s.nd⟩
theorem Fd.there {H : Hp} {p : Addr} {D : List DRow} (s : Fd H p D) : ∀ x ∈ fpF p D, ∃ o, H x = some o := fun x hx => by
  simp only [fpF, List.cons_append, List.mem_cons, List.mem_append, List.mem_map] at hx
  rcases hx with rfl | ⟨r, hr, rfl⟩ | ⟨r, hr, rfl⟩
  · exact ⟨_, s.dc⟩
  · exact ⟨_, (s.rs r hr).1⟩
  · exact ⟨_, (s.rs r hr).2⟩
/-- what the rows say is what the store holds -/
def Tells (B : List Blk) (D : List DRow) : Prop := ∀ r ∈ D, gB B r.n = some (r.k :: r.sl)
/-- the law's limits -/
structure Lims (H : Hp) (lm : Addr) (d : Gd) (mo : Addr) : Prop where
  hd : H lm = some (.tup [.int d.rm, .int d.en, .ref mo, .bl d.aw])
  mo : IL H mo d.P
/-- a space as the law treats it -/
structure S6 (CS C p : Addr) (q : Str) (H : Hp) (d : Gd) : Prop where
  Z : Gpc CS C H d
  T : TabS H p q
  sv : d.sv = .non
  low : Low d
  use : ((flat d.B).length : Int) ≤ d.rm
  rm : d.rm ≤ 500
theorem S6.fr0 {CS C p : Addr} {q : Str} {H H' : Hp} {d : Gd} (s : S6 CS C p q H d) (f : KW.Fr [] H H') : S6 CS C p q H' d := ⟨s.Z.fr0 f, s.T.fr0 f, s.sv, s.low, s.use, s.rm⟩
def spDeeds : Sp := fun vs H Q _ => ∃ (c k : Int), vs = [.int c, .int k] ∧ 0 ≤ k ∧ k ≤ 1000 ∧ ∀ l x y, H l = none → 0 ≤ x → 0 ≤ y → Q (.ref l) (upd H l (.lst [.int x, .int y]))
def spPlace6 : Sp := fun vs H Q _ => ∃ (x : Int), vs = [.int x] ∧ 0 ≤ x ∧ ∀ r : Nat, r < 16 → Q (.int r) H
def spWord6 (CS C : Addr) : Sp := fun vs H Q _ => ∃ (d : Gd) (x : Int), vs = [.ref d.sp, .int x] ∧ Gpc CS C H d ∧ 0 ≤ x ∧ ∀ z, Q (.int z) H
def spReached6 (CS C : Addr) : Sp := fun vs H Q _ => ∃ (d : Gd) (l : Addr) (R : List Int), vs = [.ref d.sp, .ref l] ∧ Gpc CS C H d ∧ (flat d.B).length ≤ 500 ∧ IL H l R ∧ R.length ≤ 1100 ∧
  ∀ p D H', H p = none → KW.Fr [] H H' → Fd H' p D → (∀ x ∈ fpF p D, H x = none) → Tells d.B D → (∀ n, n ∈ nsF D ↔ Rg (gB d.B) R n) → Q (.ref p) H'
def spTotal6 : Sp := fun vs H Q _ => ∃ (p : Addr) (D : List DRow), vs = [.ref p] ∧ Fd H p D ∧ D.length ≤ 10000 ∧ ∀ H', KW.Fr [] H H' → Q (.int (D.map fun r => 3 + (r.sl.length : Int)).sum) H'
def spCollections6 (CS C : Addr) : Sp := fun vs H Q _ => ∃ (d : Gd) (p lm mo : Addr) (D : List DRow) (n : Nat), vs = [.ref d.sp, .ref p, .ref lm, .int n] ∧ Gpc CS C H d ∧ Fd H p D ∧ Tells d.B D ∧ Lims H lm d mo ∧ D.length ≤ 10000 ∧ n ≤ 1000 ∧ ∀ H', KW.Fr [] H H' → Q (.int (colN d (nsF D) n)) H'
theorem tot_rows {B : List Blk} {D : List DRow} (N : Nd B) (nd : (nsF D).Nodup) (t : Tells B D) : ((flat (kept B (nsF D))).length : Int) = (D.map fun r => 3 + (r.sl.length : Int)).sum := by
  have hl : ∀ n ∈ nsF D, lv B n = true := fun n hn => by
    obtain ⟨r, hr, rfl⟩ := List.mem_map.mp hn
    rw [← gB_lv, t r hr]; rfl
  rw [tot_kept N nd hl, List.map_map]
  congr 1
  refine List.map_congr_left fun r hr => ?_
  obtain ⟨i, e, h1, h2, h3, h4⟩ := (gB_some N).mp (t r hr)
  have : e.s = r.sl := by injection h4
  show wof B r.n = _
  rw [← h3, wof_eq N h1 h2, this]
end ST
namespace ST
open PySem PySem.Spec PyProof.Rows L2 KW LamX
/-- the space behind a call of new -/
abbrev newD (d : Gd) (F : List Int) (n : Nat) (wd' pl' : Addr) (B : List Blk) : Gd := { d with al := d.al + 1, co := d.co + colN d F n, wd := wd', pl := pl', B := B }
def totK (d : Gd) (F : List Int) : Int := ((flat (kept d.B F)).length : Int)
def spCalled6 (CS C p : Addr) (q : Str) : Sp := fun vs H Q _ => ∃ (d : Gd) (kd : Int) (n : Nat), vs = [.ref d.sp, .int kd, .int n] ∧ S6 CS C p q H d ∧ n ≤ 1000 ∧ ∀ F : List Int, F.Nodup → (∀ m, m ∈ F ↔ Rg (gB d.B) (d.ws ++ [kd]) m) →
  (totK d F + 3 + n ≤ d.rm → (F.length : Int) < d.en → ∀ f wd' pl' t H', Free (bN d F n) f → f < d.en → S6 CS C p q H' (newD d F n wd' pl' (bN d F n ++ [⟨f, kd, List.replicate n 0, true⟩])) → MovG d { d with wd := wd', pl := pl' } p H H' → H' t = some (.tup [.str (S [109, 97, 100, 101]), .int f]) → Q (.ref t) H') ∧
  (totK d F + 3 + n > d.rm → ∀ wd' pl' t H', S6 CS C p q H' (newD d F n wd' pl' (bN d F n)) → MovG d { d with wd := wd', pl := pl' } p H H' → H' t = some (.tup [.str (S [114, 111, 111, 109]), .int (3 + n)]) → Q (.ref t) H') ∧
  (totK d F + 3 + n ≤ d.rm → (F.length : Int) ≥ d.en → ∀ wd' pl' t H', S6 CS C p q H' (newD d F n wd' pl' (bN d F n)) → MovG d { d with wd := wd', pl := pl' } p H H' → H' t = some (.tup [.str (S [110, 117, 109, 98, 101, 114]), .int d.en]) → Q (.ref t) H')
def spKept6 (CS C : Addr) : Sp := fun vs H Q _ => ∃ (d : Gd) (p : Addr) (D : List DRow), vs = [.ref d.sp, .ref p] ∧ Gpc CS C H d ∧ Fd H p D ∧ Tells d.B D ∧ p ∉ fpG d ∧ ∀ H', KW.Fr [] H H' → Q (.bl true) H'
def spHeld6 (CS C : Addr) : Sp := fun vs H Q _ => ∃ (d : Gd) (l : Addr) (ys : List Int) (u r : Int) (n : Nat), vs = [.ref d.sp, .ref l, .int u, .int r, .int n] ∧ Gpc CS C H d ∧ IL H l ys ∧ l ∉ fpG d ∧ ys.Nodup ∧ ys.length ≤ 100000 ∧
  (0 ≤ r → r ∉ ys ∧ (∀ m, lv d.B m = true ↔ m ∈ ys ∨ m = r) ∧ ((flat d.B).length : Int) = u + 3 + n) ∧ (r < 0 → (∀ m, lv d.B m = true ↔ m ∈ ys) ∧ ((flat d.B).length : Int) = u) ∧ ∀ H', KW.Fr [] H H' → Q (.bl true) H'
def spFresh6 (CS C : Addr) : Sp := fun vs H Q _ => ∃ (d : Gd) (p : Addr) (D : List DRow) (f kd : Int) (n : Nat), vs = [.ref d.sp, .ref p, .int f, .int kd, .int n] ∧ Gpc CS C H d ∧ Fd H p D ∧ 0 ≤ f ∧ f ∉ nsF D ∧ gB d.B f = some (kd :: List.replicate n 0) ∧ n ≤ 1000 ∧ ∀ H', KW.Fr [] H H' → Q (.bl true) H'
end ST
namespace ST
open PySem PySem.Spec PyProof.Rows L2 KW LamX
def glF (D : List DRow) (n : Int) : Int := 3 + ((D.find? fun r => decide (r.n = n)).map fun r => (r.sl.length : Int)).getD 0
theorem find_F {D : List DRow} (nd : (nsF D).Nodup) {r : DRow} (h : r ∈ D) : (D.find? fun x => decide (x.n = r.n)) = some r := by
  induction D with
  | nil => cases h
  | cons e D ih =>
    simp only [nsF, List.map_cons, List.nodup_cons] at nd
    by_cases c : e.n = r.n
    · rw [List.find?_cons_of_pos (by simp [c])]
      rcases List.mem_cons.mp h with q | q
      · rw [q]
      · exact absurd (List.mem_map.mpr ⟨r, q, c.symm⟩) nd.1
    · rw [List.find?_cons_of_neg (by simp [c])]
      refine ih nd.2 ?_
      rcases List.mem_cons.mp h with q | q
      · exact absurd (by rw [q]) c
      · exact q
theorem glF_at {D : List DRow} (nd : (nsF D).Nodup) {r : DRow} (h : r ∈ D) : glF D r.n = 3 + (r.sl.length : Int) := by unfold glF; rw [find_F nd h]; rfl
theorem glF_list {D : List DRow} (nd : (nsF D).Nodup) : (nsF D).filterMap (fun n => some (V.int (glF D n))) = (D.map fun r => 3 + (r.sl.length : Int)).map V.int := by
  have : ∀ D' : List DRow, (∀ r ∈ D', r ∈ D) → (nsF D').filterMap (fun n => some (V.int (glF D n))) = (D'.map fun r => 3 + (r.sl.length : Int)).map V.int := by
    intro D'
    induction D' with
    | nil => intro _; rfl
    | cons e D' ih =>
      intro h
      have := ih fun r hr => h r (List.mem_cons_of_mem _ hr)
      simp only [nsF, List.map_cons] at this ⊢
      rw [List.filterMap_cons_some (by rfl), this, glF_at nd (h e List.mem_cons_self)]
  exact this D fun r hr => hr
theorem nsF_i {D : List DRow} {i : Nat} {x : Int} (h : (nsF D)[i]? = some x) : ∃ r, D[i]? = some r ∧ r.n = x := by
  rw [List.getElem?_map] at h
  obtain ⟨r, h1, h2⟩ := Option.map_eq_some_iff.mp h
  exact ⟨r, h1, h2⟩
theorem Fd.na {H : Hp} {p : Addr} {D : List DRow} (s : Fd H p D) {r : DRow} (h : r ∈ D) : r.a ≠ p ∧ r.s ≠ p := by
  obtain ⟨h1, h2⟩ := s.rs r h
  exact ⟨fun z => (by rw [z, s.dc] at h1; cases h1), fun z => (by unfold IL at h2; rw [z, s.dc] at h2; cases h2)⟩
end ST

set_option Elab.async false
set_option linter.all false
set_option maxRecDepth 100000
set_option maxHeartbeats 4000000
namespace K06
open PySem PySem.Spec PyProof.Rows L2 KW ST LamX
local macro_rules | `(tactic| walk_at "kw") => `(tactic| simp only [tSeq, tNext, tIfS, tTest, tAnd, tOr, tNot, tAndV, tOrV, tNotV, tIf, tChain, tOp, tUn, tC, tAsg, gName, gSub, gCons, gNil, tRet, tRetN, tDrop, tCons, tNil, tCB, tAug, tSl, tPart, tNoPart, tLst, tTup, tBM, tBM0, uTest, uFor, iRng1, iRng2, iList, uCall, List.map_cons, List.map_nil, List.length_cons, List.length_nil, List.cons_append, List.nil_append, List.replicate, Nat.zero_add, Nat.reduceAdd, Nat.reduceSub, List.getElem?_cons_zero, List.getElem?_cons_succ, List.set_cons_zero, List.set_cons_succ, V.bl.injEq, V.int.injEq, V.str.injEq, V.ref.injEq, V.ty.injEq, List.cons.injEq, and_true, true_and, exists_eq_left', exists_eq_right, exists_eq_left, exists_and_left, exists_and_right, decide_eq_true_eq, Bool.not_eq_true', decide_eq_false_iff_not, Bool.false_eq_true, if_true, if_false, ite_true, ite_false, Bool.not_true, Bool.not_false, reduceCtorEq, decide_true, decide_false, Bool.not_not, isK_int_int, isK_int_bool, isK_int_str, isK_int_list, isK_int_tuple, isK_bool_int, isK_bool_bool, isK_bool_str, isK_str_str, isK_str_int, isK_str_bool, isK_str_tuple, isK_str_list, isK_list_list, isK_list_tuple, isK_tuple_tuple, isK_tuple_list, isOk_int_int, isOk_int_bool, isOk_int_str, isOk_int_list, isOk_int_tuple, isOk_bool_int, isOk_bool_bool, isOk_bool_str, isOk_str_str, isOk_str_int, isOk_str_bool, isOk_str_tuple, isOk_str_list, isOk_list_list, isOk_list_tuple, isOk_tuple_tuple, isOk_tuple_list, isK_dict_dict, isOk_dict_dict, isK_none_int, isK_none_bool, isOk_none_int, isOk_none_bool, tyV, S_inj, S_cat, L2.start, Nat.reduceSub, List.replicate_succ, List.replicate_zero, and_assoc, List.append_nil, Nat.reduceEqDiff, Option.some.injEq, Int.natCast_inj, upd_upd, Int.reducePow, Int.reduceToNat, Int.reduceMul, Int.reduceAdd, Int.reduceSub, Int.reduceLT, Int.reduceLE, Int.reduceNeg, Int.reduceDiv, Int.reduceMod, Nat.reducePow, Nat.reduceMul, S_len, List.length_append, List.length_map, List.length_range, not_true_eq_false, not_false_eq_true, ne_eq, uAdd_e1, uAdd_e2, uSub_e1, uMod_e1, uDiv_e1, uPow_e1, uShl_e1, uNeg_e1, uIAdd_e1, uIAdd_e2, uIAdd_e3, uISub_e1, uLt_e1, uLt_e2, uLe_e1, uGt_e1, uGe_e1, uEq_e1, uEq_e2, uEq_e3, uEq_e4, uEq_e5, uEq_e6, uEq_e7, uEq_e8, uEq_e9, uEq_e10, uEq_e11, uNe_e1, uNe_e2, uNe_e3, uNe_e4, uNe_e5, uNe_e6, uNe_e7, uNe_e8, uNe_e9, uNe_e10, uNe_e11, uIs_e1, uIs_e2, uIs_e3, uIs_e4, uIs_e5, uIs_e6, uIs_e7, uNotIs_e1, uNotIs_e2, uNotIs_e3, uNotIs_e4, uNotIs_e5, uNotIs_e6, uIn_e1, uIn_e2, uIn_e3, uIn_e4, uNotIn_e1, uNotIn_e2, uNotIn_e3, uNotIn_e4, uTru_e1, uTru_e2, uTru_e3, uTru_e4, uIx_e2, uSl_e2, uLen_e1, uAbs_e1, uInt_e1, uInt_e2, uMin2_e1, uIsi_e1, uIsi_e2, uIsi_e3, uIsi_e4, cx_K, uVar_0, uVar_n, uFld, uSFld, uMet, uMake, tDG, tDI, tDNI, tDP, tDD, uMk, uRaise, uDelSl, tCallS, L2.WE, uStr_e1, uStr_e2, uMul2_e1, uMul2_e2, okS_i, okS_s, List.zip_cons_cons, List.zip_nil_left, List.drop_zero, List.drop_succ_cons, List.drop_nil, putF_nil, putF_cons, eq_self, tDNewK, tB, Option.isSome_some, Option.isSome_none, false_and, false_or, or_false, exists_false, Int.zero_add, uLc, wipe, tYes, isEmpty_app, List.isEmpty_cons, List.isEmpty_nil, List.isEmpty_map, Bool.and_false, Bool.and_true, iRev, K06.lit_0, K06.lit_1, K06.lit_3, K06.lit_4, K06.fe_room_entries, K06.fe_room_words, K06.fe_room__places, K06.fe_room__least, K06.fe_entries_room, K06.fe_entries_words, K06.fe_entries__places, K06.fe_entries__least, K06.fe_words_room, K06.fe_words_entries, K06.fe_words__places, K06.fe_words__least, K06.fe__places_room, K06.fe__places_entries, K06.fe__places_words, K06.fe__places__least, K06.fe__least_room, K06.fe__least_entries, K06.fe__least_words, K06.fe__least__places, K06.fe_store_pressure, K06.fe_store_always, K06.fe_store_allocations, K06.fe_store_collections, K06.fe_store__roots, K06.fe_store__held, K06.fe_store__saved, K06.fe_pressure_store, K06.fe_pressure_always, K06.fe_pressure_allocations, K06.fe_pressure_collections, K06.fe_pressure__roots, K06.fe_pressure__held, K06.fe_pressure__saved, K06.fe_always_store, K06.fe_always_pressure, K06.fe_always_allocations, K06.fe_always_collections, K06.fe_always__roots, K06.fe_always__held, K06.fe_always__saved, K06.fe_allocations_store, K06.fe_allocations_pressure, K06.fe_allocations_always, K06.fe_allocations_collections, K06.fe_allocations__roots, K06.fe_allocations__held, K06.fe_allocations__saved, K06.fe_collections_store, K06.fe_collections_pressure, K06.fe_collections_always, K06.fe_collections_allocations, K06.fe_collections__roots, K06.fe_collections__held, K06.fe_collections__saved, K06.fe__roots_store, K06.fe__roots_pressure, K06.fe__roots_always, K06.fe__roots_allocations, K06.fe__roots_collections, K06.fe__roots__held, K06.fe__roots__saved, K06.fe__held_store, K06.fe__held_pressure, K06.fe__held_always, K06.fe__held_allocations, K06.fe__held_collections, K06.fe__held__roots, K06.fe__held__saved, K06.fe__saved_store, K06.fe__saved_pressure, K06.fe__saved_always, K06.fe__saved_allocations, K06.fe__saved_collections, K06.fe__saved__roots, K06.fe__saved__held, K06.fl_room_0, K06.lf_room_0, K06.fl_room_1, K06.lf_room_1, K06.fl_room_3, K06.lf_room_3, K06.fl_room_4, K06.lf_room_4, t11_e, uMetD.uMtD, tDGF_eq, uDGetF_e1, K06.N_is_ref, K06.N_ref_of, K06.N_reached, K06.N_words_of, K06.N_collect, K06.N_Store_init, K06.N_Store_used, K06.N_Store_exists, K06.N_Store_numbers, K06.N_Store_free_number, K06.N_Store_allocate, K06.N_Store_size, K06.N_Store_kind, K06.N_Store_get, K06.N_Store_put, K06.N_Store_slots, K06.N_Store_drop, K06.N_Store_close_up, K06.N_Space_init, K06.N_Space_press, K06.N_Space_root, K06.N_Space_set_root, K06.N_Space_hold, K06.N_Space_drop, K06.N_Space_held, K06.N_Space_all_roots, K06.N_Space_collect, K06.N_Space_collect_with, K06.N_Space_live_words, K06.N_Space_new, K06.N_Space_fitted, K06.N__law_number, K06.N__law_deeds, K06.N__law_is, K06.N__law_same, K06.N__law_place, K06.N__law_word, K06.N__law_reached, K06.N__law_total, K06.N__law_collections, K06.N__law_called, K06.N__law_kept, K06.N__law_held, K06.N__law_fresh, K06.N__law_new, K06.N__law_deed, K06.N__law_space, K06.N_law, sp_is_ref, sp_ref_of])
local macro_rules | `(tactic| walk_at "nn") => `(tactic| first | assumption | exact ne_un (by assumption) | exact ne_un (ne_un (by assumption)) | exact ne_un (ne_un (ne_un (by assumption))) | exact ne_un (ne_un (ne_un (ne_un (by assumption)))))
local macro_rules | `(tactic| walk_at "ne") => `(tactic| first | assumption | (apply Ne.symm; assumption) | exact ne_ud (by assumption) | exact Ne.symm (ne_ud (by assumption)) | exact ne_ud (ne_un (by assumption)) | exact Ne.symm (ne_ud (ne_un (by assumption))) | exact ne_ud (ne_un (ne_un (by assumption))) | exact Ne.symm (ne_ud (ne_un (ne_un (by assumption)))) | exact ne_m (by assumption) (by assumption) | exact Ne.symm (ne_m (by assumption) (by assumption)) | exact ne_n (by assumption) (by walk_at "nn") | exact Ne.symm (ne_n (by assumption) (by walk_at "nn")))
local macro_rules | `(tactic| walk_at "hp") => `(tactic| first | assumption | exact upd_same | (refine Eq.trans (upd_ne ?_) ?_; (focus walk_at "ne"); walk_at "hp"))
local macro_rules | `(tactic| walk_at "sc") => `(tactic| first | (with_reducible assumption) | omega | exact le_line (by (try simp only [List.length_map, List.length_append, List.length_cons, List.length_nil, S_len]); omega) | exact div_s (by omega) | exact mul_r (by omega) | exact mul_l (by omega) | exact pow_s (by omega) | exact mul2_r (by omega) | exact mul2_l (by omega) | exact small4300 (by omega) | exact lt_line (by (try simp only [List.length_map, List.length_append, List.length_cons, List.length_nil, S_len]); omega) | exact ⟨_, by assumption⟩ | (guard_target =~ Exists _; exact ⟨_, .of (by walk_at "hp")⟩) | (guard_target =~ _ ∨ _; exact .inl ⟨_, by assumption⟩) | (guard_target =~ _ ∨ _; exact .inl ⟨_, .of (by walk_at "hp")⟩) | (guard_target =~ _ ∨ _; exact .inr (.inr (.inl ⟨rfl, .inl ⟨_, by walk_at "hp"⟩⟩))) | decide)
local macro_rules | `(tactic| walk_at "kr") => `(tactic| first | (guard_target =~ _ ∧ _; first | refine And.intro (by walk_at "sc") ?_) | (guard_target =~ KW.uIx _ _ _ _ _; first | refine ix_l (by walk_at "hp") (by first | walk_at "hv" | rfl) ?_ | refine ix_t (by walk_at "hp") (by first | walk_at "hv" | rfl) ?_ | refine ix_sl (by assumption) (by walk_at "hv") ?_) | (guard_target =~ KW.uLen _ _ _ _; first | refine len_l (by walk_at "hp") ?_ | refine len_t (by walk_at "hp") ?_ | refine len_sl (by assumption) ?_) | (guard_target =~ KW.uSet _ _ _ _ _; first | refine set_l (by walk_at "hp") (by first | walk_at "hv" | rfl) ?_) | (guard_target =~ L2.gTup _ _ _ _ _ _ _; first | refine tup_l (by walk_at "hp") (by rfl) ?_) | (guard_target =~ KW.uGet _ _ _ _ _; first | refine get_l (by walk_at "hp") (by walk_at "hc") (by decide) (by rfl) ?_) | (guard_target =~ KW.uPut _ _ _ _ _ _; first | refine put_l (by walk_at "hp") (by walk_at "hc") (by decide) (by simp) ?_) | (guard_target =~ KW.uMet.uMt _ _ _ _ _ _ _ _ _; first | refine met_l (by walk_at "hp") (by rfl) ?_) | (guard_target =~ KW.uMet.uMt _ _ _ _ _ _ _ _ _; first | refine ST.met_s (by assumption) (by decide) ?_) | (guard_target =~ ST.spExists _ _ _ _ _; first | refine ST.exists_s (by assumption) ?_) | (guard_target =~ ST.spUsed _ _ _ _ _; first | refine ST.used_s (by assumption) ?_) | (guard_target =~ KW.uGet _ _ _ _ _; first | refine ST.words_s (by assumption) (by walk_at "hc") (by decide) ?_) | (guard_target =~ KW.uDIn _ _ _ _; first | refine din_i (by walk_at "hp") ?_ | refine din_s (by walk_at "hp") ?_) | (guard_target =~ KW.uDGet _ _ _ _; first | refine dget_i (by walk_at "hp") (by walk_at "hv") ?_ | refine dget_s (by walk_at "hp") (by walk_at "hv") ?_) | (guard_target =~ KW.uDPut _ _ _ _ _; first | refine dput_i (by walk_at "hp") (by walk_at "sc") ?_ | refine dput_s (by walk_at "hp") (by walk_at "sc") ?_) | (guard_target =~ KW.uDDel _ _ _ _; first | refine ddel_i (by walk_at "hp") (by walk_at "hv") ?_ | refine ddel_s (by walk_at "hp") (by walk_at "hv") ?_) | (guard_target =~ KW.uMul2 _ _ _ _; first | refine rep_l (by walk_at "hp") (by walk_at "sc") (by walk_at "sc") (by walk_at "sc") ?_) | (guard_target =~ L2.rAppend _ _ _ _; first | refine app_l (by walk_at "hp") (by walk_at "sc") ?_) | (guard_target =~ L2.rPop _ _ _ _; first | refine pop_l (by walk_at "hp") (by walk_at "hv") ?_ | refine pops_l (by walk_at "hp") ?_) | (guard_target =~ L2.rClear _ _ _ _; first | refine clr_l (by walk_at "hp") ?_) | (guard_target =~ L2.rReverse _ _ _ _; first | refine rev_l (by walk_at "hp") ?_) | (guard_target =~ L2.rExtend _ _ _ _; first | refine ext_l (by walk_at "hp") (by walk_at "hp") (by walk_at "sc") ?_) | (guard_target =~ KW.uAdd _ _ _ _ _; first | refine ucat_l (by walk_at "hp") (by walk_at "hp") (by walk_at "sc") ?_) | (guard_target =~ KW.uSl _ _ _ _ _ _; first | refine usl_l (by walk_at "hp") ?_) | (guard_target =~ KW.uTru _ _ _ _; first | refine tru_l (by walk_at "hp") ?_ | refine tru_t (by walk_at "hp") ?_ | refine tru_d (by walk_at "hp") ?_ | refine tru_sl (by assumption) ?_) | (guard_target =~ L2.rIndex _ _ _ _ _; first | refine idx_s (by walk_at "hp") (by assumption) ?_ | refine idx_i (by walk_at "hp") (by assumption) ?_) | (guard_target =~ L2.rIn _ _ _ _ _ _; first | refine in_s (by walk_at "hp") ?_ | refine nin_s (by walk_at "hp") ?_ | refine in_i (by walk_at "hp") ?_ | refine nin_i (by walk_at "hp") ?_) | (guard_target =~ KW.uIsi _ _ _ _; first | refine isi_l (by walk_at "hp") (by decide +kernel) ?_ | refine isi_t (by walk_at "hp") (by decide +kernel) ?_ | refine isi_d (by walk_at "hp") (by decide +kernel) ?_) | (guard_target =~ KW.uList _ _ _ _; first | refine list_l (by walk_at "hp") ?_ | refine list_t (by walk_at "hp") ?_ | refine list_sl (by assumption) ?_) | (guard_target =~ KW.uDict _ _ _; first | refine dict_d (by walk_at "hp") ?_) | (guard_target =~ KW.uSorted _ _ _ _; first | refine srt_l (by walk_at "hp") ?_) | (guard_target =~ KW.uSum _ _ _ _; first | refine sum_l (by walk_at "hp") ?_) | (guard_target =~ KW.uDelC _ _ _ _; first | refine dels_l (by walk_at "hp") (by walk_at "sc") ?_) | (guard_target =~ L2.wAs _ _ _ _ _ _ _ _ _ _; first | refine as_yes (by walk_at "hx") ?_ | refine as_no (by walk_at "hx") ?_) | (guard_target =~ KW.uEf _ _ _ _ _ _ _ _ _; first | refine ef_l (by walk_at "he") (by decide) (by rfl) (by walk_at "hp") (by rfl) ?_) | (guard_target =~ KW.uIsE _ _ _ _ _ _ _; first | refine isE_r (by walk_at "he") (by walk_at "hp") (by walk_at "hk") ?_ | refine isE_t (by walk_at "he") (by walk_at "hp") (by walk_at "hk") ?_))
local macro_rules | `(tactic| walk_at "hv") => `(tactic| first | assumption)
local macro_rules | `(tactic| walk_at "kk") => `(tactic| repeat (first | walk_at "kw" | walk_at "kr"))
local macro_rules | `(tactic| walk_at "hc") => `(tactic| first | exact K06.Txt.c_Store (by assumption) | exact K06.Txt.c_Space (by assumption))
local macro_rules | `(tactic| walk_at "he") => `(tactic| first | exact K06.Txt.e_BadWord (by assumption) | exact K06.Txt.e_NoRoom (by assumption) | exact K06.Txt.e_NoNumber (by assumption) | exact K06.Txt.e_Wrong (by assumption))
local macro_rules | `(tactic| walk_at "hx") => `(tactic| first | exact K06.Txt.x_BadWord_KilnwardenError (by assumption) | exact K06.Txt.x_BadWord_NoNumber (by assumption) | exact K06.Txt.x_BadWord_NoRoom (by assumption) | exact K06.Txt.x_NoRoom_KilnwardenError (by assumption) | exact K06.Txt.x_NoRoom_NoNumber (by assumption) | exact K06.Txt.x_NoRoom_NoRoom (by assumption) | exact K06.Txt.x_NoNumber_KilnwardenError (by assumption) | exact K06.Txt.x_NoNumber_NoNumber (by assumption) | exact K06.Txt.x_NoNumber_NoRoom (by assumption) | exact K06.Txt.x_Wrong_KilnwardenError (by assumption) | exact K06.Txt.x_Wrong_NoNumber (by assumption) | exact K06.Txt.x_Wrong_NoRoom (by assumption))
local macro_rules | `(tactic| walk_at "hk") => `(tactic| first | exact K06.Txt.i_BadWord_NoNumber (by assumption) | exact K06.Txt.i_BadWord_NoRoom (by assumption) | exact K06.Txt.i_NoRoom_NoNumber (by assumption) | exact K06.Txt.i_NoRoom_NoRoom (by assumption) | exact K06.Txt.i_NoNumber_NoNumber (by assumption) | exact K06.Txt.i_NoNumber_NoRoom (by assumption) | exact K06.Txt.i_Wrong_NoNumber (by assumption) | exact K06.Txt.i_Wrong_NoRoom (by assumption))

local macro_rules | `(tactic| walk_at "kr") => `(tactic| first | (guard_target =~ KW.uGet _ _ _ _ _; refine ST.get_g (by assumption) (by rfl) (by walk_at "hc") (by decide) (by rfl) ?_) | (guard_target =~ KW.uMet.uMt _ _ _ _ _ _ _ _ _; refine ST.met_g (by assumption) (by rfl) (by decide) ?_))
section
variable {P : Program} {w : World} {K : Frag} {mg : Str → Option Value} {base : Heap} {a : Ads}
theorem ok__law_deeds (T : Txt P w K mg a) : Cal P w K mg base 2 "_law_deeds" spDeeds := by
  have C__law_number := ok__law_number (P := P) (w := w) (base := base) T
  refine T.d__law_deeds.ok sc__law_deeds (fun vs H Q E h => ?_) (fun f cdv A outer s H vs Q E hr h => ⟨_, (pss_cons (ps_if (pt_cmpR o_ge (kv 0) (pe_op o_pow pe_int pe_int) (nomark _))
      (pss_one (ps_ret (pe_lst (pa_cons (pe_op o_mod (pe_callTy c_int (by rfl) T.n_int (by decide +kernel) (pa_cons (kv 0) pa_nil)) (pe_op o_pow pe_int pe_int)) (pa_cons (pe_op o_fdiv (kv 0) (pe_op o_pow pe_int pe_int)) pa_nil)))))
      pss_nil)
      (pss_one (ps_ret (pe_lst (pa_cons (kc C__law_number (hr.mono (by decide)) (pa_cons (kv 0) (pa_cons (kv 1) pa_nil))) (pa_cons (kc C__law_number (hr.mono (by decide)) (pa_cons (kv 0) (pa_cons (pe_op o_add (kv 1) pe_int) pa_nil))) pa_nil)))))), ?_⟩)
  · obtain ⟨_, _, rfl, _⟩ := h; rfl
  · obtain ⟨c, k, rfl, k0, k1, h⟩ := h
    walk_at "kk"
    split
    · walk_at "kk"
      exact ⟨.inr ⟨by decide, by decide +kernel⟩, by decide, fun l hl => h l _ _ hl (by omega) (by omega)⟩
    · walk_at "kk"
      refine num_s k0 (by omega) fun x hx => ?_
      refine num_s (by omega) (by omega) fun y hy => ?_
      walk_at "kk"
      exact fun l hl => h l _ _ hl hx hy
theorem ok__law_place (T : Txt P w K mg a) : Cal P w K mg base 1 "_law_place" spPlace6 := by
  refine T.d__law_place.ok sc__law_place (fun vs H Q E h => ?_) (fun f cdv A outer s H vs Q E hr h => ⟨_, (pss_cons (ps_set (i := 1) sc__law_place.nd rfl (Or.inl rfl) (pe_op o_mod (pe_callTy c_int (by rfl) T.n_int (by decide +kernel) (pa_cons (kv 0) pa_nil)) pe_int))
      (pss_cons (ps_if (pt_cmpR o_lt (kv 1) pe_int (nomark _))
      (pss_one (ps_ret (kv 1)))
      pss_nil)
      (pss_one (ps_ret (pe_op o_mod (kv 1) pe_int))))), ?_⟩)
  · obtain ⟨_, rfl, _⟩ := h; rfl
  · obtain ⟨x, rfl, x0, h⟩ := h
    walk_at "kk"
    split
    · rename_i c
      have := h (x % 32).toNat (by omega)
      rw [show (((x % 32).toNat : Nat) : Int) = x % 32 by omega] at this
      exact this
    · rename_i c
      walk_at "kk"
      have := h (x % 32 % 3).toNat (by omega)
      rw [show (((x % 32 % 3).toNat : Nat) : Int) = x % 32 % 3 by omega] at this
      exact this
theorem ok__law_word (T : Txt P w K mg a) : Cal P w K mg base 2 "_law_word" (spWord6 a.Space a.Store) := by
  have C__law_place := ok__law_place (P := P) (w := w) (base := base) T
  have M_Space_root := ok_Space_root (P := P) (w := w) (base := base) T
  refine T.d__law_word.ok sc__law_word (fun vs H Q E h => ?_) (fun f cdv A outer s H vs Q E hr h => ⟨_, (pss_cons (ps_set (i := 2) sc__law_word.nd rfl (Or.inl rfl) (pe_op o_fdiv (kv 1) pe_int))
      (pss_cons (ps_if (pt_cmpR (o_eq hr.units) (pe_op o_mod (pe_callTy c_int (by rfl) T.n_int (by decide +kernel) (pa_cons (kv 1) pa_nil)) pe_int) pe_int (nomark _))
      (pss_one (ps_ret (pe_op o_add (pe_op o_mul2 pe_int (pe_op o_sub (pe_op o_mod (pe_callTy c_int (by rfl) T.n_int (by decide +kernel) (pa_cons (pe_op o_mul2 (kv 2) pe_int) pa_nil)) pe_int) pe_int)) pe_int)))
      pss_nil)
      (pss_cons (ps_if (pt_cmpR (o_eq hr.units) (pe_op o_mod (pe_callTy c_int (by rfl) T.n_int (by decide +kernel) (pa_cons (kv 1) pa_nil)) pe_int) pe_int (nomark _))
      (pss_one (ps_ret (pe_op o_add (pe_op o_mul2 pe_int (pe_op o_mod (pe_callTy c_int (by rfl) T.n_int (by decide +kernel) (pa_cons (pe_op o_mul2 (kv 2) pe_int) pa_nil)) pe_int)) pe_int)))
      pss_nil)
      (pss_cons (ps_if (PW.pt (pw_and (pt_cmpR (o_eq hr.units) (pe_op o_mod (pe_callTy c_int (by rfl) T.n_int (by decide +kernel) (pa_cons (kv 1) pa_nil)) pe_int) pe_int (nomark _)) (pw_and1 (pt_cmpR (o_eq hr.units) (pe_op o_mod (pe_callTy c_int (by rfl) T.n_int (by decide +kernel) (pa_cons (kv 2) pa_nil)) pe_int) pe_int (nomark _)))))
      (pss_one (ps_ret pe_int))
      pss_nil)
      (pss_one (ps_ret (km M_Space_root (hr.mono (by decide)) (kv 0) (pa_cons (kc C__law_place (hr.mono (by decide)) (pa_cons (pe_op o_fdiv (kv 2) pe_int) pa_nil)) pa_nil)))))))), ?_⟩)
  · obtain ⟨_, _, rfl, _⟩ := h; rfl
  · obtain ⟨d, x, rfl, Z, x0, h⟩ := h
    have r16 := Z.r16
    walk_at "kk"
    split
    · walk_at "kk"
      exact h _
    · walk_at "kk"
      split
      · walk_at "kk"
        exact h _
      · have last : uMet.uMt a.Space "root" (spGRoot a.Space a.Store) E0 (tCons (uCall spPlace6 (tCons (tOp uDiv (uVar 2) (tC (V.int 4))) tNil)) tNil) [some (V.ref d.sp), some (V.int x), some (V.int (x / 4))] (V.ref d.sp) H Q := by
          walk_at "kk"
          refine ⟨_, rfl, by omega, fun r hr => ?_⟩
          obtain ⟨z, hz⟩ : ∃ z, d.R[r]? = some z := ⟨_, List.getElem?_eq_getElem (by omega)⟩
          exact ⟨d, r, z, rfl, Z, hz, h z⟩
        split
        · split
          · exact h _
          · exact last
        · exact last
theorem ok__law_reached (T : Txt P w K mg a) : Cal P w K mg base 3 "_law_reached" (spReached6 a.Space a.Store) := by
  have M_Store_exists := ok_Store_exists (P := P) (w := w) (base := base) T
  have M_Store_kind := ok_Store_kind (P := P) (w := w) (base := base) T
  have M_Store_slots := ok_Store_slots (P := P) (w := w) (base := base) T
  refine T.d__law_reached.ok sc__law_reached (fun vs H Q E h => ?_) (fun f cdv A outer s H vs Q E hr h => ⟨_, (pss_cons (ps_set (i := 2) sc__law_reached.nd rfl (Or.inl rfl) (k_fld (kv 0) rfl))
      (pss_cons (ps_set (i := 3) sc__law_reached.nd rfl (Or.inl rfl) pe_dnewK)
      (pss_cons (k_setLc (i := 4) (own := [("word", 5)]) (g := gName 5) (by rfl) sc__law_reached.nd rfl rfl (sw_true rfl rfl rfl (by decide +kernel)) (pi_list (kv 1)) (blkOk_by (own := [("word", 5)]) (N := ["space", "words", "store", "found", "waiting", "word", "turn", "number", "row"]) (sc := defScope s__law_reached) (by decide +kernel)) (fun _ _ _ _ _ => pg_name (i := 5) sc__law_reached.nd rfl (Or.inl rfl)) (fun _ _ _ _ _ => by exact pts_one (pt_cmpR (o_eqK K hr.units) (pe_op o_mod (pe_callTy c_int (by rfl) T.n_int (by decide +kernel) (pa_cons (kv 5) pa_nil)) pe_int) pe_int (nomark _))) (fun _ _ _ _ _ => by exact (pe_op o_fdiv (kv 5) pe_int)))
      (pss_cons (k_for (passes_of rfl) rfl (pi_range1 (by rfl) T.n_range (pa_cons pe_int pa_nil)) (pg_name (i := 6) sc__law_reached.nd rfl (Or.inl rfl))
      (pss_cons (ps_if (pt_not (kt (kv 4)))
      (pss_one ps_break)
      pss_nil)
      (pss_cons (ps_set (i := 7) sc__law_reached.nd rfl (Or.inl rfl) (pe_bm0 PySem.F.plainAttrs_list PySem.F.slot_list_pop PySem.F.type_list_pop mt_pop (kv 4)))
      (pss_one (ps_if (PW.pt (pw_and (pt_cmp (k_dnotin (hu_of hr) (kv 7) (kv 3))) (pw_and1 (kt (km M_Store_exists (hr.mono (by decide)) (kv 2) (pa_cons (kv 7) pa_nil))))))
      (pss_cons (k_dput (hu_of hr) (kv 3) (kv 7) (pe_lst (pa_cons (km M_Store_kind (hr.mono (by decide)) (kv 2) (pa_cons (kv 7) pa_nil)) (pa_cons (pe_callTy c_list (by rfl) T.n_list (by decide +kernel) (pa_cons (km M_Store_slots (hr.mono (by decide)) (kv 2) (pa_cons (kv 7) pa_nil)) pa_nil)) pa_nil))))
      (pss_cons (ps_set (i := 8) sc__law_reached.nd rfl (Or.inl rfl) (pe_op o_add (pe_lst (pa_cons (pe_ix o_ix (k_dget (hu_of hr) (kv 3) (kv 7)) pe_int (fun _ _ => rfl)) pa_nil)) (pe_ix o_ix (k_dget (hu_of hr) (kv 3) (kv 7)) pe_int (fun _ _ => rfl))))
      (pss_one (ps_expr (pe_bm PySem.F.plainAttrs_list PySem.F.slot_list_extend PySem.F.type_list_extend mt_extend (kv 4) (pa_cons (k_lc (own := [("word", 5)]) (g := gName 5) (by rfl) sc__law_reached.nd (pi_list (kv 8)) (blkOk_by (own := [("word", 5)]) (N := ["space", "words", "store", "found", "waiting", "word", "turn", "number", "row"]) (sc := defScope s__law_reached) (by decide +kernel)) (fun _ _ _ _ _ => pg_name (i := 5) sc__law_reached.nd rfl (Or.inl rfl)) (fun _ _ _ _ _ => by exact pts_one (pt_cmpR (o_eqK K hr.units) (pe_op o_mod (pe_callTy c_int (by rfl) T.n_int (by decide +kernel) (pa_cons (kv 5) pa_nil)) pe_int) pe_int (nomark _))) (fun _ _ _ _ _ => by exact (pe_op o_fdiv (kv 5) pe_int))) pa_nil))))))
      pss_nil)))))
      (pss_one (ps_ret (kv 3))))))), ?_⟩)
  · obtain ⟨_, _, _, rfl, _⟩ := h; rfl
  · obtain ⟨d, l, R, rfl, Z, bd, hl, lR, h⟩ := h
    have S := Z.S
    walk_at "kk"
    intro p hp
    have p0 : H p = none := hp
    have lp : l ≠ p := ne_of_none hl hp
    have hl1 : upd H p (.dK []) l = some (.lst (R.map V.int)) := by rw [upd_ne lp]; exact hl
    refine ⟨⟨_, .of hl1⟩, ?_⟩
    refine lc_ii (fun w => if w % 2 = 0 then some (w / 2) else none) (.of hl1) (lt_line (by omega)) ?_ ?_
    · intro i x D acc Cy Cn hx hD h1 h2
      walk_at "kw"
      by_cases c : x % 2 = 0
      · have h1 := h1 (x / 2) (if_pos c)
        simp only [c, decide_true]
        walk_at "kk"
        exact h1
      · have h2 := h2 (if_neg c)
        simp only [c, decide_false]
        walk_at "kk"
        exact h2
    intro q hq
    have q0 : H q = none := ne_un hq
    have qp : q ≠ p := ne_ud hq
    have f0 : KW.Fr [] H (upd (upd H p (.dK [])) q (.lst ((refs R).map V.int))) := (Fr.new hp).trans (Fr.new hq)
    have p1 : upd (upd H p (.dK [])) q (.lst ((refs R).map V.int)) p = some (.dK (kvF [])) := by rw [upd_ne (Ne.symm qp), upd_same]; rfl
    have q1 : upd (upd H p (.dK [])) q (.lst ((refs R).map V.int)) q = some (.lst ((refs R).map V.int)) := upd_same
    show forK _ _ _ _ _ (upd (upd H p (.dK [])) q (.lst ((refs R).map V.int)))
    revert f0 p1 q1
    generalize upd (upd H p (.dK [])) q (.lst ((refs R).map V.int)) = H1
    intro f0 p1 q1
    obtain ⟨Pv, hPv⟩ : ∃ Pv : Nat → L2.St → Hp → Prop, Pv = fun i σ H' => ∃ (D : List DRow) (W : List Int) (v5 v6 v7 v8 : Option V), σ = [some (.ref d.sp), some (.ref l), some (.ref d.st), some (.ref p), some (.ref q), v5, v6, v7, v8] ∧ i + W.length + pot (nsF D) d.B ≤ 18000 ∧ DI d.B R (nsF D) W ∧ Fd H' p D ∧ H' q = some (.lst (W.map V.int)) ∧ KW.Fr [] H H' ∧ Tells d.B D ∧ (∀ x ∈ fpF p D, H x = none) ∧ q ∉ fpF p D := ⟨_, rfl⟩
    have fin : ∀ D H', DI d.B R (nsF D) [] → Fd H' p D → KW.Fr [] H H' → Tells d.B D → (∀ x ∈ fpF p D, H x = none) → Q (.ref p) H' := fun D H' hD hF hf hT hx => h p D H' hp hf hF hx hT fun n => (hD.done S.nd n).trans (rch_rg S.nd n)
    refine for_rng Pv (by
      rw [hPv]
      refine ⟨[], refs R, _, _, _, _, rfl, ?_, .init d.B R, ⟨p1, fun r hr => by simp at hr, List.nodup_nil⟩, q1, f0, fun r hr => by simp at hr, fun x hx => by simp at hx; rw [hx]; exact hp, by simpa using qp⟩
      have := pot_flat [] d.B; have := refs_len R
      show 0 + (refs R).length + pot [] d.B ≤ 18000
      omega) ?_ ?_
    · intro i σ H2 hi pv
      rw [hPv] at pv
      obtain ⟨D, W, v5, v6, v7, v8, rfl, hm, hD, hF, hq2, f2, hT, hx, hqn⟩ := pv
      have S2 := (Z.fr0 f2).S
      have hdc := hF.dc
      walk_at "kk"
      rcases List.eq_nil_or_concat W with rfl | ⟨W', n, rfl⟩
      · walk_at "kk"
        exact fin D H2 hD hF f2 hT hx
      · rw [List.concat_eq_append] at hm hD hq2 ⊢
        rw [List.map_append] at hq2
        rw [List.length_append] at hm
        walk_at "kk"
        have fq : KW.Fr [q] H2 (upd H2 q (.lst (W'.map V.int))) := Fr.upd (by simp)
        have F3 := hF.fr fq (fun x hx' => by simp; rintro rfl; exact hqn hx')
        have f3 : KW.Fr [] H (upd H2 q (.lst (W'.map V.int))) := fun b o hb hH => by
          have : b ≠ q := fun z => by rw [z, q0] at hH; cases hH
          rw [upd_ne this]; exact f2 b o hb hH
        have q3 : upd H2 q (.lst (W'.map V.int)) q = some (.lst (W'.map V.int)) := upd_same
        revert F3 f3 q3
        clear hF hq2 f2 fq hdc
        generalize upd H2 q (.lst (W'.map V.int)) = H3
        intro F3 f3 q3
        clear S2
        have S3 := (Z.fr0 f3).S
        have hm' : i + W'.length + 1 + pot (nsF D) d.B ≤ 18000 := by simp at hm; omega
        rw [kvF_is]
        by_cases c : n ∈ nsF D
        · rw [decide_eq_true c]
          walk_at "kk"
          rw [hPv]
          exact ⟨D, W', _, _, _, _, rfl, by omega, hD.skip (.inl c), F3, q3, f3, hT, hx, hqn⟩
        rw [decide_eq_false c]
        walk_at "kk"
        cases el : lv d.B n with
        | false =>
          walk_at "kk"
          rw [hPv]
          exact ⟨D, W', _, _, _, _, rfl, by omega, hD.skip (.inr el), F3, q3, f3, hT, hx, hqn⟩
        | true =>
          obtain ⟨j, e, hj, ha, rfl⟩ := lv_iff.mp el
          have lD : D.length ≤ d.B.length := by
            have := rch_len hD.nd hD.sF
            rw [List.length_map] at this; exact this
          have lf := len_flat d.B
          have o3 := off_add hj
          walk_at "kk"
          refine kind_s S3 hj ha rfl ?_
          walk_at "kk"
          refine slots_s S3 hj ha rfl fun t1 ht1 => ?_
          refine list_l upd_same fun t2 ht2 => ?_
          refine ⟨by decide, fun t3 ht3 => ?_⟩
          have n1 : H3 t1 = none := ht1
          have n2 : H3 t2 = none := ne_un ht2
          have n3 : H3 t3 = none := ne_un (ne_un ht3)
          have e21 : t2 ≠ t1 := ne_ud ht2
          have e32 : t3 ≠ t2 := ne_ud ht3
          have fn : KW.Fr [] H3 (upd (upd (upd H3 t1 (.lst (e.s.map V.int))) t2 (.lst (e.s.map V.int))) t3 (.lst [.int e.k, .ref t2])) := (Fr.new ht1).trans ((Fr.new ht2).trans (Fr.new ht3))
          have g2 : upd (upd (upd H3 t1 (.lst (e.s.map V.int))) t2 (.lst (e.s.map V.int))) t3 (.lst [.int e.k, .ref t2]) t2 = some (.lst (e.s.map V.int)) := by rw [upd_ne (Ne.symm e32), upd_same]
          have g3 : upd (upd (upd H3 t1 (.lst (e.s.map V.int))) t2 (.lst (e.s.map V.int))) t3 (.lst [.int e.k, .ref t2]) t3 = some (.lst [.int e.k, .ref t2]) := upd_same
          revert fn g2 g3
          generalize upd (upd (upd H3 t1 (.lst (e.s.map V.int))) t2 (.lst (e.s.map V.int))) t3 (.lst [.int e.k, .ref t2]) = H4
          intro fn g2 g3
          have F4 := F3.fr0 fn
          have q4 := fn _ _ (by simp) q3
          have pq : p ≠ q := Ne.symm qp
          have np3 : p ≠ t3 := ne_of_none F3.dc n3
          have np2 : p ≠ t2 := ne_of_none F3.dc n2
          have nq3 : q ≠ t3 := ne_of_none q3 n3
          have nq2 : q ≠ t2 := ne_of_none q3 n2
          refine dput_i F4.dc (le_line (by rw [kvF_len]; omega)) ?_
          rw [kvF_put (r := ⟨e.n, t3, t2, e.k, e.s⟩) c]
          obtain ⟨D', hD'⟩ : ∃ D', D' = D ++ [(⟨e.n, t3, t2, e.k, e.s⟩ : DRow)] := ⟨_, rfl⟩
          have nsD : nsF D' = nsF D ++ [e.n] := by rw [hD']; simp
          have F5 : Fd (upd H4 p (.dK (kvF D'))) p D' := by
            refine ⟨upd_same, fun r hr => ?_, by rw [nsD]; exact List.nodup_append.mpr ⟨F3.nd, by simp, fun x hx y hy => by simp at hy; rintro rfl; rw [hy] at hx; exact c hx⟩⟩
            have np : ∀ {y : Addr} {xs : List V}, H4 y = some (.lst xs) → y ≠ p := fun hy z => by rw [z, F4.dc] at hy; cases hy
            rw [hD'] at hr
            rcases List.mem_append.mp hr with hr | hr
            · obtain ⟨r1, r2⟩ := F4.rs r hr
              exact ⟨by rw [upd_ne (np r1)]; exact r1, by show upd _ _ _ _ = _; rw [upd_ne (np r2)]; exact r2⟩
            · simp at hr; subst hr
              exact ⟨by rw [upd_ne (Ne.symm np3)]; exact g3, by show upd _ _ _ _ = _; rw [upd_ne (Ne.symm np2)]; exact g2⟩
          have q5 : upd H4 p (.dK (kvF D')) q = some (.lst (W'.map V.int)) := by rw [upd_ne (Ne.symm pq)]; exact q4
          have f5 : KW.Fr [] H (upd H4 p (.dK (kvF D'))) := fun b o hb hH => by
            have : b ≠ p := fun z => by rw [z, p0] at hH; cases hH
            rw [upd_ne this]; exact fn b o hb (f3 b o hb hH)
          have hT5 : Tells d.B D' := fun r hr => by
            rw [hD'] at hr
            rcases List.mem_append.mp hr with hr | hr
            · exact hT r hr
            · simp at hr; subst hr; exact gB_at S.nd hj ha
          have hx5 : ∀ x ∈ fpF p D', H x = none := fun x hx' => by
            rw [hD'] at hx'
            simp only [fpF, List.map_append, List.map_cons, List.map_nil, List.cons_append, List.mem_cons, List.mem_append, List.not_mem_nil, or_false] at hx'
            rcases hx' with z | ((z | z) | (z | z))
            · rw [z]; exact p0
            · exact hx x (by simp only [fpF, List.cons_append, List.mem_cons, List.mem_append]; exact .inr (.inl z))
            · rw [z]; exact f3.none (by simp) n3
            · exact hx x (by simp only [fpF, List.cons_append, List.mem_cons, List.mem_append]; exact .inr (.inr z))
            · rw [z]; exact f3.none (by simp) n2
          have hqn5 : q ∉ fpF p D' := fun hx' => by
            rw [hD'] at hx'
            simp only [fpF, List.map_append, List.map_cons, List.map_nil, List.cons_append, List.mem_cons, List.mem_append, List.not_mem_nil, or_false] at hx'
            rcases hx' with z | ((z | z) | (z | z))
            · exact qp z
            · exact hqn (by simp only [fpF, List.cons_append, List.mem_cons, List.mem_append]; exact .inr (.inl z))
            · exact nq3 z
            · exact hqn (by simp only [fpF, List.cons_append, List.mem_cons, List.mem_append]; exact .inr (.inr z))
            · exact nq2 z
          have v5' : valV (kvF D') (.inl e.n) = some (.ref t3) := kvF_at (r := ⟨e.n, t3, t2, e.k, e.s⟩) F5.nd (by rw [hD']; simp)
          have g5 : upd H4 p (.dK (kvF D')) t3 = some (.lst [.int e.k, .ref t2]) := by rw [upd_ne (Ne.symm np3)]; exact g3
          have s5 : upd H4 p (.dK (kvF D')) t2 = some (.lst (e.s.map V.int)) := by rw [upd_ne (Ne.symm np2)]; exact g2
          rw [← hD']
          revert F5 q5 f5 g5 s5
          clear F3 F4 q4 g2 g3 fn f3 q3 S3
          generalize upd H4 p (.dK (kvF D')) = H5
          intro F5 q5 f5 g5 s5
          have d5 := F5.dc
          walk_at "kk"
          intro t4 ht4
          have f4 : KW.Fr [] H5 (upd H5 t4 (.lst [.int e.k])) := Fr.new ht4
          refine dget_i (f4 _ _ (by simp) d5) v5' ?_
          refine ix_l (f4 _ _ (by simp) g5) rfl ?_
          refine ucat_l (xs := [.int e.k]) (zs := e.s.map V.int) upd_same (f4 _ _ (by simp) s5) (le_line (by simp only [List.length_map, List.length_cons, List.length_nil]; omega)) fun t5 ht5 => ?_
          have f6 : KW.Fr [] H5 (upd (upd H5 t4 (.lst [.int e.k])) t5 (.lst ([.int e.k] ++ e.s.map V.int))) := f4.trans (Fr.new ht5)
          have w6 : upd (upd H5 t4 (.lst [.int e.k])) t5 (.lst ([.int e.k] ++ e.s.map V.int)) t5 = some (.lst ((e.k :: e.s).map V.int)) := upd_same
          have q6 := f6 _ _ (by simp) q5
          have F6 := F5.fr0 f6
          have f7 := f5.trans f6
          revert q6 F6 f7 w6
          clear f6
          generalize upd (upd H5 t4 (.lst [.int e.k])) t5 (.lst ([.int e.k] ++ e.s.map V.int)) = H6
          intro w6 q6 F6 f7
          refine ⟨.inl ⟨_, .of q6⟩, t5, rfl, ⟨_, .of w6⟩, ?_⟩
          refine lc_ii (fun w => if w % 2 = 0 then some (w / 2) else none) (.of w6) (lt_line (by rw [List.length_cons]; omega)) ?_ ?_
          · intro i x D acc Cy Cn hx hD h1 h2
            walk_at "kw"
            by_cases c : x % 2 = 0
            · have h1 := h1 (x / 2) (if_pos c)
              simp only [c, decide_true]
              walk_at "kk"
              exact h1
            · have h2 := h2 (if_neg c)
              simp only [c, decide_false]
              walk_at "kk"
              exact h2
          intro t6 ht6
          have f8 : KW.Fr [] H6 (upd H6 t6 (.lst ((refs (e.k :: e.s)).map V.int))) := Fr.new ht6
          have q8 := f8 _ _ (by simp) q6
          have F8 := F6.fr0 f8
          have f9 := f7.trans f8
          have w8 : upd H6 t6 (.lst ((refs (e.k :: e.s)).map V.int)) t6 = some (.lst ((refs (e.k :: e.s)).map V.int)) := upd_same
          show rExtend _ _ (upd H6 t6 (.lst ((refs (e.k :: e.s)).map V.int))) _
          revert q8 F8 f9 w8
          clear f8
          generalize upd H6 t6 (.lst ((refs (e.k :: e.s)).map V.int)) = H7
          intro q8 F8 f9 w8
          have rl := refs_len (e.k :: e.s)
          rw [List.length_cons] at rl
          have px := pot_lt hj ha c
          refine ext_l q8 w8 (le_line (by simp only [List.length_map]; omega)) ?_
          rw [hPv]
          rw [← List.map_append]
          refine ⟨D', W' ++ refs (e.k :: e.s), _, _, _, _, rfl, ?_, ?_, F8.fr (l := [q]) (Fr.upd (by simp)) (fun x hx' => by simp; rintro rfl; exact hqn5 hx'), upd_same, ?_, hT5, hx5, hqn5⟩
          · rw [nsD, List.length_append]; omega
          · rw [nsD]
            exact hD.take S.nd hj ha c (fun m hm => hm) (fun m hm => .inr hm)
          · intro b o hb hH
            have : b ≠ q := fun z => by rw [z, q0] at hH; cases hH
            rw [upd_ne this]; exact f9 b o hb hH
    · intro σ H2 pv
      rw [hPv] at pv
      obtain ⟨D, W, v5, v6, v7, v8, rfl, hm, _⟩ := pv
      omega
end
end K06

set_option Elab.async false
set_option linter.all false
set_option maxRecDepth 100000
set_option maxHeartbeats 4000000
namespace K06
open PySem PySem.Spec PyProof.Rows L2 KW ST LamX
local macro_rules | `(tactic| walk_at "kw") => `(tactic| simp only [tSeq, tNext, tIfS, tTest, tAnd, tOr, tNot, tAndV, tOrV, tNotV, tIf, tChain, tOp, tUn, tC, tAsg, gName, gSub, gCons, gNil, tRet, tRetN, tDrop, tCons, tNil, tCB, tAug, tSl, tPart, tNoPart, tLst, tTup, tBM, tBM0, uTest, uFor, iRng1, iRng2, iList, uCall, List.map_cons, List.map_nil, List.length_cons, List.length_nil, List.cons_append, List.nil_append, List.replicate, Nat.zero_add, Nat.reduceAdd, Nat.reduceSub, List.getElem?_cons_zero, List.getElem?_cons_succ, List.set_cons_zero, List.set_cons_succ, V.bl.injEq, V.int.injEq, V.str.injEq, V.ref.injEq, V.ty.injEq, List.cons.injEq, and_true, true_and, exists_eq_left', exists_eq_right, exists_eq_left, exists_and_left, exists_and_right, decide_eq_true_eq, Bool.not_eq_true', decide_eq_false_iff_not, Bool.false_eq_true, if_true, if_false, ite_true, ite_false, Bool.not_true, Bool.not_false, reduceCtorEq, decide_true, decide_false, Bool.not_not, isK_int_int, isK_int_bool, isK_int_str, isK_int_list, isK_int_tuple, isK_bool_int, isK_bool_bool, isK_bool_str, isK_str_str, isK_str_int, isK_str_bool, isK_str_tuple, isK_str_list, isK_list_list, isK_list_tuple, isK_tuple_tuple, isK_tuple_list, isOk_int_int, isOk_int_bool, isOk_int_str, isOk_int_list, isOk_int_tuple, isOk_bool_int, isOk_bool_bool, isOk_bool_str, isOk_str_str, isOk_str_int, isOk_str_bool, isOk_str_tuple, isOk_str_list, isOk_list_list, isOk_list_tuple, isOk_tuple_tuple, isOk_tuple_list, isK_dict_dict, isOk_dict_dict, isK_none_int, isK_none_bool, isOk_none_int, isOk_none_bool, tyV, S_inj, S_cat, L2.start, Nat.reduceSub, List.replicate_succ, List.replicate_zero, and_assoc, List.append_nil, Nat.reduceEqDiff, Option.some.injEq, Int.natCast_inj, upd_upd, Int.reducePow, Int.reduceToNat, Int.reduceMul, Int.reduceAdd, Int.reduceSub, Int.reduceLT, Int.reduceLE, Int.reduceNeg, Int.reduceDiv, Int.reduceMod, Nat.reducePow, Nat.reduceMul, S_len, List.length_append, List.length_map, List.length_range, not_true_eq_false, not_false_eq_true, ne_eq, uAdd_e1, uAdd_e2, uSub_e1, uMod_e1, uDiv_e1, uPow_e1, uShl_e1, uNeg_e1, uIAdd_e1, uIAdd_e2, uIAdd_e3, uISub_e1, uLt_e1, uLt_e2, uLe_e1, uGt_e1, uGe_e1, uEq_e1, uEq_e2, uEq_e3, uEq_e4, uEq_e5, uEq_e6, uEq_e7, uEq_e8, uEq_e9, uEq_e10, uEq_e11, uNe_e1, uNe_e2, uNe_e3, uNe_e4, uNe_e5, uNe_e6, uNe_e7, uNe_e8, uNe_e9, uNe_e10, uNe_e11, uIs_e1, uIs_e2, uIs_e3, uIs_e4, uIs_e5, uIs_e6, uIs_e7, uNotIs_e1, uNotIs_e2, uNotIs_e3, uNotIs_e4, uNotIs_e5, uNotIs_e6, uIn_e1, uIn_e2, uIn_e3, uIn_e4, uNotIn_e1, uNotIn_e2, uNotIn_e3, uNotIn_e4, uTru_e1, uTru_e2, uTru_e3, uTru_e4, uIx_e2, uSl_e2, uLen_e1, uAbs_e1, uInt_e1, uInt_e2, uMin2_e1, uIsi_e1, uIsi_e2, uIsi_e3, uIsi_e4, cx_K, uVar_0, uVar_n, uFld, uSFld, uMet, uMake, tDG, tDI, tDNI, tDP, tDD, uMk, uRaise, uDelSl, tCallS, L2.WE, uStr_e1, uStr_e2, uMul2_e1, uMul2_e2, okS_i, okS_s, List.zip_cons_cons, List.zip_nil_left, List.drop_zero, List.drop_succ_cons, List.drop_nil, putF_nil, putF_cons, eq_self, tDNewK, tB, Option.isSome_some, Option.isSome_none, false_and, false_or, or_false, exists_false, Int.zero_add, uLc, wipe, tYes, isEmpty_app, List.isEmpty_cons, List.isEmpty_nil, List.isEmpty_map, Bool.and_false, Bool.and_true, iRev, K06.lit_0, K06.lit_1, K06.lit_3, K06.lit_4, K06.fe_room_entries, K06.fe_room_words, K06.fe_room__places, K06.fe_room__least, K06.fe_entries_room, K06.fe_entries_words, K06.fe_entries__places, K06.fe_entries__least, K06.fe_words_room, K06.fe_words_entries, K06.fe_words__places, K06.fe_words__least, K06.fe__places_room, K06.fe__places_entries, K06.fe__places_words, K06.fe__places__least, K06.fe__least_room, K06.fe__least_entries, K06.fe__least_words, K06.fe__least__places, K06.fe_store_pressure, K06.fe_store_always, K06.fe_store_allocations, K06.fe_store_collections, K06.fe_store__roots, K06.fe_store__held, K06.fe_store__saved, K06.fe_pressure_store, K06.fe_pressure_always, K06.fe_pressure_allocations, K06.fe_pressure_collections, K06.fe_pressure__roots, K06.fe_pressure__held, K06.fe_pressure__saved, K06.fe_always_store, K06.fe_always_pressure, K06.fe_always_allocations, K06.fe_always_collections, K06.fe_always__roots, K06.fe_always__held, K06.fe_always__saved, K06.fe_allocations_store, K06.fe_allocations_pressure, K06.fe_allocations_always, K06.fe_allocations_collections, K06.fe_allocations__roots, K06.fe_allocations__held, K06.fe_allocations__saved, K06.fe_collections_store, K06.fe_collections_pressure, K06.fe_collections_always, K06.fe_collections_allocations, K06.fe_collections__roots, K06.fe_collections__held, K06.fe_collections__saved, K06.fe__roots_store, K06.fe__roots_pressure, K06.fe__roots_always, K06.fe__roots_allocations, K06.fe__roots_collections, K06.fe__roots__held, K06.fe__roots__saved, K06.fe__held_store, K06.fe__held_pressure, K06.fe__held_always, K06.fe__held_allocations, K06.fe__held_collections, K06.fe__held__roots, K06.fe__held__saved, K06.fe__saved_store, K06.fe__saved_pressure, K06.fe__saved_always, K06.fe__saved_allocations, K06.fe__saved_collections, K06.fe__saved__roots, K06.fe__saved__held, K06.fl_room_0, K06.lf_room_0, K06.fl_room_1, K06.lf_room_1, K06.fl_room_3, K06.lf_room_3, K06.fl_room_4, K06.lf_room_4, t11_e, uMetD.uMtD, tDGF_eq, uDGetF_e1, K06.N_is_ref, K06.N_ref_of, K06.N_reached, K06.N_words_of, K06.N_collect, K06.N_Store_init, K06.N_Store_used, K06.N_Store_exists, K06.N_Store_numbers, K06.N_Store_free_number, K06.N_Store_allocate, K06.N_Store_size, K06.N_Store_kind, K06.N_Store_get, K06.N_Store_put, K06.N_Store_slots, K06.N_Store_drop, K06.N_Store_close_up, K06.N_Space_init, K06.N_Space_press, K06.N_Space_root, K06.N_Space_set_root, K06.N_Space_hold, K06.N_Space_drop, K06.N_Space_held, K06.N_Space_all_roots, K06.N_Space_collect, K06.N_Space_collect_with, K06.N_Space_live_words, K06.N_Space_new, K06.N_Space_fitted, K06.N__law_number, K06.N__law_deeds, K06.N__law_is, K06.N__law_same, K06.N__law_place, K06.N__law_word, K06.N__law_reached, K06.N__law_total, K06.N__law_collections, K06.N__law_called, K06.N__law_kept, K06.N__law_held, K06.N__law_fresh, K06.N__law_new, K06.N__law_deed, K06.N__law_space, K06.N_law, sp_is_ref, sp_ref_of])
local macro_rules | `(tactic| walk_at "nn") => `(tactic| first | assumption | exact ne_un (by assumption) | exact ne_un (ne_un (by assumption)) | exact ne_un (ne_un (ne_un (by assumption))) | exact ne_un (ne_un (ne_un (ne_un (by assumption)))))
local macro_rules | `(tactic| walk_at "ne") => `(tactic| first | assumption | (apply Ne.symm; assumption) | exact ne_ud (by assumption) | exact Ne.symm (ne_ud (by assumption)) | exact ne_ud (ne_un (by assumption)) | exact Ne.symm (ne_ud (ne_un (by assumption))) | exact ne_ud (ne_un (ne_un (by assumption))) | exact Ne.symm (ne_ud (ne_un (ne_un (by assumption)))) | exact ne_m (by assumption) (by assumption) | exact Ne.symm (ne_m (by assumption) (by assumption)) | exact ne_n (by assumption) (by walk_at "nn") | exact Ne.symm (ne_n (by assumption) (by walk_at "nn")))
local macro_rules | `(tactic| walk_at "hp") => `(tactic| first | assumption | exact upd_same | (refine Eq.trans (upd_ne ?_) ?_; (focus walk_at "ne"); walk_at "hp"))
local macro_rules | `(tactic| walk_at "sc") => `(tactic| first | (with_reducible assumption) | omega | exact le_line (by (try simp only [List.length_map, List.length_append, List.length_cons, List.length_nil, S_len]); omega) | exact div_s (by omega) | exact mul_r (by omega) | exact mul_l (by omega) | exact pow_s (by omega) | exact mul2_r (by omega) | exact mul2_l (by omega) | exact small4300 (by omega) | exact lt_line (by (try simp only [List.length_map, List.length_append, List.length_cons, List.length_nil, S_len]); omega) | exact ⟨_, by assumption⟩ | (guard_target =~ Exists _; exact ⟨_, .of (by walk_at "hp")⟩) | (guard_target =~ _ ∨ _; exact .inl ⟨_, by assumption⟩) | (guard_target =~ _ ∨ _; exact .inl ⟨_, .of (by walk_at "hp")⟩) | (guard_target =~ _ ∨ _; exact .inr (.inr (.inl ⟨rfl, .inl ⟨_, by walk_at "hp"⟩⟩))) | decide)
local macro_rules | `(tactic| walk_at "kr") => `(tactic| first | (guard_target =~ _ ∧ _; first | refine And.intro (by walk_at "sc") ?_) | (guard_target =~ KW.uIx _ _ _ _ _; first | refine ix_l (by walk_at "hp") (by first | walk_at "hv" | rfl) ?_ | refine ix_t (by walk_at "hp") (by first | walk_at "hv" | rfl) ?_ | refine ix_sl (by assumption) (by walk_at "hv") ?_) | (guard_target =~ KW.uLen _ _ _ _; first | refine len_l (by walk_at "hp") ?_ | refine len_t (by walk_at "hp") ?_ | refine len_sl (by assumption) ?_) | (guard_target =~ KW.uSet _ _ _ _ _; first | refine set_l (by walk_at "hp") (by first | walk_at "hv" | rfl) ?_) | (guard_target =~ L2.gTup _ _ _ _ _ _ _; first | refine tup_l (by walk_at "hp") (by rfl) ?_) | (guard_target =~ KW.uGet _ _ _ _ _; first | refine get_l (by walk_at "hp") (by walk_at "hc") (by decide) (by rfl) ?_) | (guard_target =~ KW.uPut _ _ _ _ _ _; first | refine put_l (by walk_at "hp") (by walk_at "hc") (by decide) (by simp) ?_) | (guard_target =~ KW.uMet.uMt _ _ _ _ _ _ _ _ _; first | refine met_l (by walk_at "hp") (by rfl) ?_) | (guard_target =~ KW.uMet.uMt _ _ _ _ _ _ _ _ _; first | refine ST.met_s (by assumption) (by decide) ?_) | (guard_target =~ ST.spExists _ _ _ _ _; first | refine ST.exists_s (by assumption) ?_) | (guard_target =~ ST.spUsed _ _ _ _ _; first | refine ST.used_s (by assumption) ?_) | (guard_target =~ KW.uGet _ _ _ _ _; first | refine ST.words_s (by assumption) (by walk_at "hc") (by decide) ?_) | (guard_target =~ KW.uDIn _ _ _ _; first | refine din_i (by walk_at "hp") ?_ | refine din_s (by walk_at "hp") ?_) | (guard_target =~ KW.uDGet _ _ _ _; first | refine dget_i (by walk_at "hp") (by walk_at "hv") ?_ | refine dget_s (by walk_at "hp") (by walk_at "hv") ?_) | (guard_target =~ KW.uDPut _ _ _ _ _; first | refine dput_i (by walk_at "hp") (by walk_at "sc") ?_ | refine dput_s (by walk_at "hp") (by walk_at "sc") ?_) | (guard_target =~ KW.uDDel _ _ _ _; first | refine ddel_i (by walk_at "hp") (by walk_at "hv") ?_ | refine ddel_s (by walk_at "hp") (by walk_at "hv") ?_) | (guard_target =~ KW.uMul2 _ _ _ _; first | refine rep_l (by walk_at "hp") (by walk_at "sc") (by walk_at "sc") (by walk_at "sc") ?_) | (guard_target =~ L2.rAppend _ _ _ _; first | refine app_l (by walk_at "hp") (by walk_at "sc") ?_) | (guard_target =~ L2.rPop _ _ _ _; first | refine pop_l (by walk_at "hp") (by walk_at "hv") ?_ | refine pops_l (by walk_at "hp") ?_) | (guard_target =~ L2.rClear _ _ _ _; first | refine clr_l (by walk_at "hp") ?_) | (guard_target =~ L2.rReverse _ _ _ _; first | refine rev_l (by walk_at "hp") ?_) | (guard_target =~ L2.rExtend _ _ _ _; first | refine ext_l (by walk_at "hp") (by walk_at "hp") (by walk_at "sc") ?_) | (guard_target =~ KW.uAdd _ _ _ _ _; first | refine ucat_l (by walk_at "hp") (by walk_at "hp") (by walk_at "sc") ?_) | (guard_target =~ KW.uSl _ _ _ _ _ _; first | refine usl_l (by walk_at "hp") ?_) | (guard_target =~ KW.uTru _ _ _ _; first | refine tru_l (by walk_at "hp") ?_ | refine tru_t (by walk_at "hp") ?_ | refine tru_d (by walk_at "hp") ?_ | refine tru_sl (by assumption) ?_) | (guard_target =~ L2.rIndex _ _ _ _ _; first | refine idx_s (by walk_at "hp") (by assumption) ?_ | refine idx_i (by walk_at "hp") (by assumption) ?_) | (guard_target =~ L2.rIn _ _ _ _ _ _; first | refine in_s (by walk_at "hp") ?_ | refine nin_s (by walk_at "hp") ?_ | refine in_i (by walk_at "hp") ?_ | refine nin_i (by walk_at "hp") ?_) | (guard_target =~ KW.uIsi _ _ _ _; first | refine isi_l (by walk_at "hp") (by decide +kernel) ?_ | refine isi_t (by walk_at "hp") (by decide +kernel) ?_ | refine isi_d (by walk_at "hp") (by decide +kernel) ?_) | (guard_target =~ KW.uList _ _ _ _; first | refine list_l (by walk_at "hp") ?_ | refine list_t (by walk_at "hp") ?_ | refine list_sl (by assumption) ?_) | (guard_target =~ KW.uDict _ _ _; first | refine dict_d (by walk_at "hp") ?_) | (guard_target =~ KW.uSorted _ _ _ _; first | refine srt_l (by walk_at "hp") ?_) | (guard_target =~ KW.uSum _ _ _ _; first | refine sum_l (by walk_at "hp") ?_) | (guard_target =~ KW.uDelC _ _ _ _; first | refine dels_l (by walk_at "hp") (by walk_at "sc") ?_) | (guard_target =~ L2.wAs _ _ _ _ _ _ _ _ _ _; first | refine as_yes (by walk_at "hx") ?_ | refine as_no (by walk_at "hx") ?_) | (guard_target =~ KW.uEf _ _ _ _ _ _ _ _ _; first | refine ef_l (by walk_at "he") (by decide) (by rfl) (by walk_at "hp") (by rfl) ?_) | (guard_target =~ KW.uIsE _ _ _ _ _ _ _; first | refine isE_r (by walk_at "he") (by walk_at "hp") (by walk_at "hk") ?_ | refine isE_t (by walk_at "he") (by walk_at "hp") (by walk_at "hk") ?_))
local macro_rules | `(tactic| walk_at "hv") => `(tactic| first | assumption)
local macro_rules | `(tactic| walk_at "kk") => `(tactic| repeat (first | walk_at "kw" | walk_at "kr"))
local macro_rules | `(tactic| walk_at "hc") => `(tactic| first | exact K06.Txt.c_Store (by assumption) | exact K06.Txt.c_Space (by assumption))
local macro_rules | `(tactic| walk_at "he") => `(tactic| first | exact K06.Txt.e_BadWord (by assumption) | exact K06.Txt.e_NoRoom (by assumption) | exact K06.Txt.e_NoNumber (by assumption) | exact K06.Txt.e_Wrong (by assumption))
local macro_rules | `(tactic| walk_at "hx") => `(tactic| first | exact K06.Txt.x_BadWord_KilnwardenError (by assumption) | exact K06.Txt.x_BadWord_NoNumber (by assumption) | exact K06.Txt.x_BadWord_NoRoom (by assumption) | exact K06.Txt.x_NoRoom_KilnwardenError (by assumption) | exact K06.Txt.x_NoRoom_NoNumber (by assumption) | exact K06.Txt.x_NoRoom_NoRoom (by assumption) | exact K06.Txt.x_NoNumber_KilnwardenError (by assumption) | exact K06.Txt.x_NoNumber_NoNumber (by assumption) | exact K06.Txt.x_NoNumber_NoRoom (by assumption) | exact K06.Txt.x_Wrong_KilnwardenError (by assumption) | exact K06.Txt.x_Wrong_NoNumber (by assumption) | exact K06.Txt.x_Wrong_NoRoom (by assumption))
local macro_rules | `(tactic| walk_at "hk") => `(tactic| first | exact K06.Txt.i_BadWord_NoNumber (by assumption) | exact K06.Txt.i_BadWord_NoRoom (by assumption) | exact K06.Txt.i_NoRoom_NoNumber (by assumption) | exact K06.Txt.i_NoRoom_NoRoom (by assumption) | exact K06.Txt.i_NoNumber_NoNumber (by assumption) | exact K06.Txt.i_NoNumber_NoRoom (by assumption) | exact K06.Txt.i_Wrong_NoNumber (by assumption) | exact K06.Txt.i_Wrong_NoRoom (by assumption))

local macro_rules | `(tactic| walk_at "kr") => `(tactic| first | (guard_target =~ KW.uGet _ _ _ _ _; refine ST.get_g (by assumption) (by rfl) (by walk_at "hc") (by decide) (by rfl) ?_) | (guard_target =~ KW.uMet.uMt _ _ _ _ _ _ _ _ _; refine ST.met_g (by assumption) (by rfl) (by decide) ?_))
section
variable {P : Program} {w : World} {K : Frag} {mg : Str → Option Value} {base : Heap} {a : Ads}
theorem ok__law_total (T : Txt P w K mg a) : Cal P w K mg base 1 "_law_total" spTotal6 := by
  refine T.d__law_total.ok sc__law_total (fun vs H Q E h => ?_) (fun f cdv A outer s H vs Q E hr h => ⟨_, (pss_one (ps_ret (pe_callB (c_sum rfl) (by rfl) T.n_sum (by decide +kernel) (pa_cons (pe_lock (k_lc (own := [("number", 1)]) (g := gName 1) (by rfl) sc__law_total.nd (pi_keys (kv 0)) (blkOk_by (own := [("number", 1)]) (N := ["found", "number"]) (sc := defScope s__law_total) (by decide +kernel)) (fun _ _ _ _ _ => pg_name (i := 1) sc__law_total.nd rfl (Or.inl rfl)) (fun _ _ _ _ _ => pts_nil) (fun _ _ _ _ _ => by exact (pe_op (o_addK K) pe_int (pe_callB (c_lenK K) (by rfl) T.n_len (by decide +kernel) (pa_cons (pe_ix (o_ixK K) (k_dgetF (hu_of hr) (kv 0) (kv 1)) pe_int (fun _ _ => rfl)) pa_nil)))))) pa_nil)))), ?_⟩)
  · obtain ⟨_, _, rfl, _⟩ := h; rfl
  · obtain ⟨p, D, rfl, F, lD, h⟩ := h
    walk_at "kk"
    refine ⟨p, .dK (kvF D), F.dc, trivial, fun od => ?_⟩
    refine ⟨p, od, rfl, .inl ⟨kvF D, upd_same, ?_⟩⟩
    refine lc_pk (fun n => some (.int (glF D n))) upd_same (kvF_keys D) (lt_line (by rw [List.length_map]; omega)) ?_ ?_
    · intro i x D0 acc Cy Cn hx hD h1 h2
      obtain ⟨r, hri, rfl⟩ := nsF_i hx
      have hr' := List.mem_of_getElem? hri
      obtain ⟨r1, r2⟩ := F.rs r hr'
      obtain ⟨na, ns⟩ := F.na hr'
      have pD : p ≠ D0 := Ne.symm (ne_ud hD)
      have aD : r.a ≠ D0 := ne_of_none (by rw [upd_ne na]; exact r1) hD
      have sD : r.s ≠ D0 := ne_of_none (H := upd H p (.frz od (.dK (kvF D)))) (by rw [upd_ne ns]; exact r2) hD
      have k0 : upd (upd H p (.frz od (.dK (kvF D)))) D0 (.lst acc) p = some (.frz od (.dK (kvF D))) := by rw [upd_ne pD, upd_same]
      have k1 : upd (upd H p (.frz od (.dK (kvF D)))) D0 (.lst acc) r.a = some (.lst [.int r.k, .ref r.s]) := by rw [upd_ne aD, upd_ne na]; exact r1
      have k2 : upd (upd H p (.frz od (.dK (kvF D)))) D0 (.lst acc) r.s = some (.lst (r.sl.map V.int)) := by rw [upd_ne sD, upd_ne ns]; exact r2
      walk_at "kk"
      refine ⟨_, _, k0, _, kvF_at F.nd hr', ?_⟩
      walk_at "kk"
      exact h1 _ (by rw [glF_at F.nd hr'])
    · intro t ht
      rw [glF_list F.nd]
      have pt : p ≠ t := Ne.symm (ne_ud ht)
      refine ⟨by rw [upd_ne pt]; exact upd_same, ?_⟩
      have f4 : KW.Fr [] H (upd (upd (upd H p (.frz od (.dK (kvF D)))) t (.lst ((D.map fun r => 3 + (r.sl.length : Int)).map V.int))) p (.dK (kvF D))) := Fr.unl F.dc (Fr.lock F.dc (Fr.new ht))
      refine sum_l (ns := D.map fun r => 3 + (r.sl.length : Int)) (by rw [upd_ne (Ne.symm pt)]; exact upd_same) ?_
      exact h _ f4
theorem ok__law_collections (T : Txt P w K mg a) : Cal P w K mg base 2 "_law_collections" (spCollections6 a.Space a.Store) := by
  have M_Store_numbers := ok_Store_numbers (P := P) (w := w) (base := base) T
  have M_Store_used := ok_Store_used (P := P) (w := w) (base := base) T
  have C__law_total := ok__law_total (P := P) (w := w) (base := base) T
  refine T.d__law_collections.ok sc__law_collections (fun vs H Q E h => ?_) (fun f cdv A outer s H vs Q E hr h => ⟨_, (pss_cons (ps_set (i := 4) sc__law_collections.nd rfl (Or.inl rfl) (pe_callB c_len (by rfl) T.n_len (by decide +kernel) (pa_cons (km0 M_Store_numbers (hr.mono (by decide)) (k_fld (kv 0) rfl)) pa_nil)))
      (pss_cons (ps_set (i := 5) sc__law_collections.nd rfl (Or.inl rfl) (km0 M_Store_used (hr.mono (by decide)) (k_fld (kv 0) rfl)))
      (pss_cons (ps_set (i := 6) sc__law_collections.nd rfl (Or.inl rfl) pe_int)
      (C8.pss_cut (ps_if (PW.pt (pw_or (kt (pe_ix o_ix (kv 2) pe_int (fun _ _ => rfl))) (pw_or1 (pt_cmpR o_in (pe_op o_add (k_fld (kv 0) rfl) pe_int) (pe_ix o_ix (kv 2) pe_int (fun _ _ => rfl)) (by rfl)))))
      (pss_cons (ps_set (i := 6) sc__law_collections.nd rfl (Or.inl rfl) pe_int)
      (pss_cons (ps_set (i := 4) sc__law_collections.nd rfl (Or.inl rfl) (pe_callB c_lenDk (by rfl) T.n_len (by decide +kernel) (pa_cons (kv 1) pa_nil)))
      (pss_one (ps_set (i := 5) sc__law_collections.nd rfl (Or.inl rfl) (kc C__law_total (hr.mono (by decide)) (pa_cons (kv 1) pa_nil))))))
      pss_nil)
      (pss_cons (ps_if (PW.pt (pw_or (pt_cmpR o_gt (pe_op o_add (pe_op o_add (kv 5) pe_int) (kv 3)) (pe_ix o_ix (kv 2) pe_int (fun _ _ => rfl)) (nomark _)) (pw_or1 (pt_cmpR o_ge (kv 4) (pe_ix o_ix (kv 2) pe_int (fun _ _ => rfl)) (nomark _)))))
      (pss_one (ps_ret (pe_op o_add (kv 6) pe_int)))
      pss_nil)
      (pss_one (ps_ret (kv 6)))))))), ?_⟩)
  · obtain ⟨_, _, _, _, _, _, rfl, _⟩ := h; rfl
  · obtain ⟨d, p, lm, mo, D, n, rfl, Z, F, tl, lim, lD, hn, h⟩ := h
    have S := Z.S
    have bd := Z.bd
    have lB := len_flat d.B
    walk_at "kk"
    refine numbers_s S (by omega) fun ys l hy1 hy2 hl => ?_
    have f1 : KW.Fr [] H (upd H l (.lst (ys.map V.int))) := Fr.new hl
    have Z1 := Z.fr0 f1
    have F1 := F.fr0 f1
    have hm1 := f1 _ _ (by simp) lim.hd
    have mo1 := f1 _ _ (by simp) lim.mo
    have l1 : upd H l (.lst (ys.map V.int)) l = some (.lst (ys.map V.int)) := upd_same
    revert f1 Z1 F1 hm1 mo1 l1
    generalize upd H l (.lst (ys.map V.int)) = H1
    intro f1 Z1 F1 hm1 mo1 l1
    have S1 := Z1.S
    have ly := hy1.length_eq
    have tot := tot_rows Z.S.nd F.nd tl
    walk_at "kk"
    refine ⟨fun σ H' => ∃ fo cn us : Int, σ = [some (.ref d.sp), some (.ref p), some (.ref lm), some (.int (n : Nat)), some (.int cn), some (.int us), some (.int fo)] ∧ KW.Fr [] H H' ∧ H' lm = some (.tup [.int d.rm, .int d.en, .ref mo, .bl d.aw]) ∧ ((d.force = true ∧ fo = 1 ∧ cn = D.length ∧ us = (flat (kept d.B (nsF D))).length) ∨ (d.force = false ∧ fo = 0 ∧ cn = (nums d.B).length ∧ us = (flat d.B).length)), ?_, ?_⟩
    · have dc1 := F1.dc
      have forced : ∀ G : V → V → Hp → Prop, (∀ H2, KW.Fr [] H1 H2 → G (.int D.length) (.int (D.map fun r => 3 + (r.sl.length : Int)).sum) H2) → uLenDk [V.ref p] H1 fun x H1 => spTotal6 [V.ref p] H1 (fun y H1 => G x y H1) E0 := fun G hG => by
        rw [uLenDk_e]
        refine ⟨_, dc1, p, D, rfl, F1, lD, fun H2 f2 => ?_⟩
        rw [kvF_len]; exact hG H2 f2
      walk_at "kk"
      split
      · rename_i c
        refine forced _ fun H2 f2 => ?_
        refine ⟨1, _, rfl, _, rfl, rfl, f1.trans f2, f2 _ _ (by simp) hm1, .inl ⟨by unfold Gd.force; rw [c]; rfl, rfl, rfl, tot.symm⟩⟩
      · rename_i c
        walk_at "kk"
        by_cases c2 : d.al + 1 ∈ d.P
        · rw [if_pos c2]
          refine forced _ fun H2 f2 => ?_
          refine ⟨1, _, rfl, _, rfl, rfl, f1.trans f2, f2 _ _ (by simp) hm1, .inl ⟨by unfold Gd.force; rw [decide_eq_true c2, Bool.or_true], rfl, rfl, tot.symm⟩⟩
        · rw [if_neg c2]
          exact ⟨f1, hm1, .inr ⟨by unfold Gd.force; rw [decide_eq_false c2, Bool.or_false]; simpa using c, ly⟩⟩
    · rintro σ H2 ⟨fo, cn, us, rfl, f2, hm2, hc⟩
      walk_at "kk"
      have fin : ∀ b : Bool, (b = true ↔ (d.rm < us + 3 + ↑n ∨ d.en ≤ cn)) → Q (.int (if b = true then fo + 1 else fo)) H2 := fun b hb => by
        have e : (if b = true then fo + 1 else fo) = (colN d (nsF D) n : Int) := by
          have hln : (nsF D).length = D.length := by simp
          rcases hc with ⟨c, rfl, rfl, rfl⟩ | ⟨c, rfl, rfl, rfl⟩
          · have e2 : colN d (nsF D) n = if ((flat (kept d.B (nsF D))).length : Int) + 3 + n > d.rm ∨ ((nsF D).length : Int) ≥ d.en then 2 else 1 := by unfold colN; rw [if_pos c]
            rw [e2, hln]
            cases b with
            | true => rw [if_pos (hb.mp rfl)]; rfl
            | false => rw [if_neg fun z => Bool.noConfusion (hb.mpr z)]; rfl
          · have e2 : colN d (nsF D) n = if ((flat d.B).length : Int) + 3 + n > d.rm ∨ ((nums d.B).length : Int) ≥ d.en then 1 else 0 := by unfold colN; rw [if_neg (by rw [c]; simp)]
            rw [e2]
            cases b with
            | true => rw [if_pos (hb.mp rfl)]; rfl
            | false => rw [if_neg fun z => Bool.noConfusion (hb.mpr z)]; rfl
        rw [e]; exact h _ f2
      split
      · rename_i c
        exact fin true (by simp [c])
      · rename_i c
        walk_at "kk"
        split
        · rename_i c2
          exact fin true (by simp [c2])
        · rename_i c2
          exact fin false (by simp; omega)
theorem ok__law_called (T : Txt P w K mg a) (TB : LamX.TabB base mg a.c_Store_close_up a.p_Store_close_up) : Cal P w K mg base 8 "_law_called" (spCalled6 a.Space a.Store a.p_Store_close_up ("Store.close_up" ++ ".<locals>.<lambda>")) := by
  have M_Space_new := ok_Space_new (P := P) (w := w) (base := base) T TB
  refine T.d__law_called.ok sc__law_called (fun vs H Q E h => ?_) (fun f cdv A outer s H vs Q E hr h => ⟨_, (pss_one (L2N.ps_try_as (X := (cxOf (L2N.CX P w) P w K mg base N__law_called "_law_called" (defScope s__law_called) f cdv A outer s H E)) (i := 3) rfl rfl sc__law_called.nd rfl rfl ⟨by rfl, by decide, .inl T.g_KilnwardenError⟩ (L2N.takes_of rfl rfl rfl rfl) (fun W pn xe tk po => by
        have hbd : PSs (Cx.tr (cxOf (L2N.CX P w) P w K mg base N__law_called "_law_called" (defScope s__law_called) f cdv A outer s H E) pn xe) (tryB (nthS (defBody s__law_called) 0)) _ := (pss_one (ps_ret (pe_tup (pa_cons pe_str (pa_cons (kmX tk M_Space_new (hr.mono (by decide)) (kv 0) (pa_cons (kv 1) (pa_cons (kv 2) pa_nil))) pa_nil)))))
        dsimp only [Cx.tr] at hbd
        exact hbd)
      (fun ea oe cls d pn hzn hf => by
        have hz := hzn.zc
        have hsu : PSs (Cx.suite (cxOf (L2N.CX P w) P w K mg base N__law_called "_law_called" (defScope s__law_called) f cdv A outer s H E) ea ((ea, oe) :: pn)) (suB (nthS (defBody s__law_called) 0)) _ := (pss_cons (ps_if (PW.pt (pw_and (kt (k_isE hz hf T.n_isinstance (pa_cons (kv 3) (pa_cons (pe_glob (v := .ref a.NoRoom) (by rfl) T.g_NoRoom rfl) pa_nil)))) (pw_and1 (pt_not (kt (k_isE hz hf T.n_isinstance (pa_cons (kv 3) (pa_cons (pe_glob (v := .ref a.NoNumber) (by rfl) T.g_NoNumber rfl) pa_nil))))))))
      (pss_one (ps_ret (pe_tup (pa_cons pe_str (pa_cons (k_ef 3 hz hf) pa_nil)))))
      pss_nil)
      (pss_cons (ps_if (PW.pt (pw_and (kt (k_isE hz hf T.n_isinstance (pa_cons (kv 3) (pa_cons (pe_glob (v := .ref a.NoNumber) (by rfl) T.g_NoNumber rfl) pa_nil)))) (pw_and1 (pt_not (kt (k_isE hz hf T.n_isinstance (pa_cons (kv 3) (pa_cons (pe_glob (v := .ref a.NoRoom) (by rfl) T.g_NoRoom rfl) pa_nil))))))))
      (pss_one (ps_ret (pe_tup (pa_cons pe_str (pa_cons (k_ef 3 hz hf) pa_nil)))))
      pss_nil)
      (pss_one (ps_ret (pe_tup (pa_cons pe_str (pa_cons pe_int pa_nil)))))))
        dsimp only [Cx.suite] at hsu
        exact hsu))), ?_⟩)
  · obtain ⟨_, _, _, rfl, _⟩ := h; rfl
  · obtain ⟨d, kd, n, rfl, Z6, hn, h⟩ := h
    have Z := Z6.Z
    generalize a.p_Store_close_up = P0 at *
    obtain ⟨F, nF, hF⟩ := rg_ex Z.S.nd (d.ws ++ [kd])
    obtain ⟨hM, hR, hN⟩ := h F nF hF
    have hl : ∀ m ∈ F, lv d.B m = true := fun m hm => by
      obtain ⟨r, hr⟩ := ((hF m).mp hm).some
      rw [← gB_lv, hr]; rfl
    have lB : ((flat d.B).length : Int) ≤ d.rm := Z6.use
    have lK : ((flat (kept d.B F)).length : Int) ≤ d.rm := by have : (flat (kept d.B F)).length ≤ (flat d.B).length := flat_kept; omega
    have lN : ((flat (bN d F n)).length : Int) ≤ d.rm := by unfold bN; split <;> assumption
    have wN : ∀ m, lv (bN d F n) m = true → 0 ≤ m ∧ m < d.en := by unfold bN; split; exact Z6.low; exact kept_low Z6.low F
    walk_at "kk"
    refine newL_s Z Z6.T Z6.sv Z6.low hn nF hF ?_ ?_ ?_
    · intro h1 h2 f H' wd' pl' hf hl Z' mv T'
      refine ⟨lt_line (by decide), fun t ht => ?_⟩
      refine hM h1 h2 f wd' pl' t _ hf hl ⟨Z'.fr0 (Fr.new ht), T'.fr0 (Fr.new ht), Z6.sv, ?_, ?_, Z6.rm⟩ ⟨mv.1.trans (Fr.new ht), mv.2⟩ upd_same
      · intro m hm
        have hm' : lv (bN d F n ++ [⟨f, kd, List.replicate n 0, true⟩]) m = true := hm
        rw [lv_app, Bool.or_eq_true] at hm'
        show 0 ≤ m ∧ m < d.en
        rcases hm' with q | q
        · exact wN m q
        · have : m = f := by simp [lv] at q; exact q.symm
          rw [this]; exact ⟨hf.pos, hl⟩
      · have : ((flat (bN d F n)).length : Int) + 3 + n ≤ d.rm := by
          unfold bN
          split
          · rename_i c
            unfold colN at c
            split at c
            · split at c <;> omega
            · split at c <;> omega
          · exact h1
        show ((flat (bN d F n ++ [⟨f, kd, List.replicate n 0, true⟩])).length : Int) ≤ d.rm
        rw [flat_app, List.length_append]
        have e1 : (flat [(⟨f, kd, List.replicate n 0, true⟩ : Blk)]).length = n + 3 := by rw [flat_cons]; simp [flat, Blk.ws_len]
        omega
    · intro h1 H' wd' pl' x Z' mv T' hx
      walk_at "kk"
      intro x2 hx2
      walk_at "kk"
      intro t ht
      have fx : KW.Fr [] H' (upd (upd H' x (HO.xd [(Str.ofString "need", V.int (3 + ↑n))])) t (HO.tup [V.str (Str.ofString "room"), V.int (3 + ↑n)])) := (Fr.new hx).trans (Fr.new ht)
      exact hR h1 wd' pl' t _ ⟨Z'.fr0 fx, T'.fr0 fx, Z6.sv, wN, lN, Z6.rm⟩ ⟨mv.1.trans (fx.mono (by simp)), mv.2⟩ upd_same
    · intro h1 h2 H' wd' pl' x Z' mv T' hx
      walk_at "kk"
      intro x2 hx2
      walk_at "kk"
      intro t ht
      have fx : KW.Fr [] H' (upd (upd H' x (HO.xd [(Str.ofString "limit", V.int d.en)])) t (HO.tup [V.str (S [110, 117, 109, 98, 101, 114]), V.int d.en])) := (Fr.new hx).trans (Fr.new ht)
      exact hN h1 h2 wd' pl' t _ ⟨Z'.fr0 fx, T'.fr0 fx, Z6.sv, wN, lN, Z6.rm⟩ ⟨mv.1.trans (fx.mono (by simp)), mv.2⟩ upd_same
theorem ok__law_kept (T : Txt P w K mg a) : Cal P w K mg base 3 "_law_kept" (spKept6 a.Space a.Store) := by
  have M_Store_exists := ok_Store_exists (P := P) (w := w) (base := base) T
  have M_Store_kind := ok_Store_kind (P := P) (w := w) (base := base) T
  have M_Store_slots := ok_Store_slots (P := P) (w := w) (base := base) T
  have C__law_is := ok__law_is (P := P) (w := w) (base := base) T
  have C__law_same := ok__law_same (P := P) (w := w) (base := base) T
  refine T.d__law_kept.ok sc__law_kept (fun vs H Q E h => ?_) (fun f cdv A outer s H vs Q E hr h => ⟨_, (pss_cons (ps_set (i := 2) sc__law_kept.nd rfl (Or.inl rfl) (k_fld (kv 0) rfl))
      (pss_cons (ps_lock (k_for (passes_of rfl) rfl (pi_keys (kv 1)) (pg_name (i := 3) sc__law_kept.nd rfl (Or.inl rfl))
      (pss_cons (ps_if (PW.pt (pw_or (pt_cmpR o_isnot (km M_Store_exists (hr.mono (by decide)) (kv 2) (pa_cons (kv 3) pa_nil)) pe_bl (nomark _)) (pw_or1 (pt_not (kt (kc C__law_is (hr.mono (by decide)) (pa_cons (km M_Store_kind (hr.mono (by decide)) (kv 2) (pa_cons (kv 3) pa_nil)) (pa_cons (pe_ix o_ix (k_dgetF (hu_of hr) (kv 1) (kv 3)) pe_int (fun _ _ => rfl)) pa_nil))))))))
      (pss_one (ps_ret pe_bl))
      pss_nil)
      (pss_one (ps_if (pt_not (kt (kc C__law_same (hr.mono (by decide)) (pa_cons (km M_Store_slots (hr.mono (by decide)) (kv 2) (pa_cons (kv 3) pa_nil)) (pa_cons (pe_ix o_ix (k_dgetF (hu_of hr) (kv 1) (kv 3)) pe_int (fun _ _ => rfl)) pa_nil)))))
      (pss_one (ps_ret pe_bl))
      pss_nil)))))
      (pss_one (ps_ret pe_bl)))), ?_⟩)
  · obtain ⟨_, _, _, rfl, _⟩ := h; rfl
  · obtain ⟨d, p, D, rfl, Z, F, tl, np, h⟩ := h
    walk_at "kk"
    refine ⟨p, .dK (kvF D), F.dc, trivial, fun od => ?_⟩
    obtain ⟨Pv, hPv⟩ : ∃ Pv : Nat → L2.St → Hp → Prop, Pv = fun i σ H' => ∃ (v3 : Option V), σ = [some (.ref d.sp), some (.ref p), some (.ref d.st), v3] ∧ H' p = some (.frz od (.dK (kvF D))) ∧ KW.Fr [p] H H' := ⟨_, rfl⟩
    refine ⟨p, od, rfl, .inl ⟨kvF D, upd_same, ?_⟩⟩
    refine for_pk (kvF_keys D) Pv ?_ ?_ ?_ ?_
    · rw [hPv]
      exact ⟨_, rfl, upd_same, Fr.upd (by simp)⟩
    · rintro i σ H2 - hp
      rw [hPv] at hp
      obtain ⟨_, _, k2, _⟩ := hp
      exact k2
    · intro i x σ H2 hx hp
      rw [hPv] at hp
      obtain ⟨v3, rfl, k2, f2⟩ := hp
      obtain ⟨r, hri, rfl⟩ := nsF_i hx
      have hr' := List.mem_of_getElem? hri
      have S2 := (Z.fr f2 fun x hx => by simp; rintro rfl; exact np hx).S
      have hv := kvF_at F.nd hr'
      have gB := tl r hr'
      obtain ⟨na, ns⟩ := F.na hr'
      have ra := f2 _ _ (by simpa using na) (F.rs r hr').1
      have rs : H2 r.s = some (.lst (r.sl.map V.int)) := f2 _ _ (by simpa using ns) (F.rs r hr').2
      have hlv : lv d.B r.n = true := by rw [← gB_lv, gB]; rfl
      obtain ⟨j, e, hj, ha, hn, he⟩ := (gB_some Z.S.nd).mp gB
      have ek : e.k = r.k := (List.cons.inj he).1
      have es : e.s = r.sl := (List.cons.inj he).2
      have l9 : r.sl.length ≤ 100000 := by have := off_add hj; have := Z.bd; rw [← es]; omega
      walk_at "kk"
      rw [if_neg (by simp [hlv])]
      walk_at "kk"
      refine kind_s S2 hj ha hn ?_
      walk_at "kk"
      refine ⟨_, _, k2, _, hv, ?_⟩
      walk_at "kk"
      refine is_s ?_
      simp only [ek, decide_true]
      walk_at "kk"
      refine slots_s S2 hj ha hn fun t ht => ?_
      have pt : p ≠ t := ne_of_none k2 ht
      have at' : r.a ≠ t := ne_of_none ra ht
      have st' : r.s ≠ t := ne_of_none rs ht
      refine ⟨_, _, by rw [upd_ne pt]; exact k2, _, hv, ?_⟩
      walk_at "kk"
      refine same_s (xs := e.s) upd_same (by rw [es]; show upd _ _ _ _ = _; rw [upd_ne st']; exact rs) (by rw [es]; omega) ?_
      walk_at "kk"
      rw [hPv]
      refine ⟨_, rfl, by rw [upd_ne pt]; exact k2, f2.trans (Fr.new ht)⟩
    · intro σ H2 hp
      rw [hPv] at hp
      obtain ⟨v3, rfl, k2, f2⟩ := hp
      refine ⟨k2, ?_⟩
      exact h _ (Fr.unl F.dc f2)
theorem ok__law_held (T : Txt P w K mg a) : Cal P w K mg base 3 "_law_held" (spHeld6 a.Space a.Store) := by
  have M_Store_numbers := ok_Store_numbers (P := P) (w := w) (base := base) T
  have M_Store_used := ok_Store_used (P := P) (w := w) (base := base) T
  have C__law_is := ok__law_is (P := P) (w := w) (base := base) T
  have C__law_same := ok__law_same (P := P) (w := w) (base := base) T
  refine T.d__law_held.ok sc__law_held (fun vs H Q E h => ?_) (fun f cdv A outer s H vs Q E hr h => ⟨_, (pss_cons (ps_set (i := 5) sc__law_held.nd rfl (Or.inl rfl) (pe_callTy c_list (by rfl) T.n_list (by decide +kernel) (pa_cons (kv 1) pa_nil)))
      (pss_cons (ps_if (pt_cmpR o_ge (kv 3) pe_int (nomark _))
      (pss_cons (ps_expr (pe_bm PySem.F.plainAttrs_list PySem.F.slot_list_append PySem.F.type_list_append mt_append (kv 5) (pa_cons (kv 3) pa_nil)))
      (pss_one (ps_set (i := 2) sc__law_held.nd rfl (Or.inl rfl) (pe_op o_add (pe_op o_add (kv 2) pe_int) (kv 4)))))
      pss_nil)
      (pss_one (ps_ret (pe_and (kc C__law_same (hr.mono (by decide)) (pa_cons (km0 M_Store_numbers (hr.mono (by decide)) (k_fld (kv 0) rfl)) (pa_cons (pe_callB (c_sorted rfl) (by rfl) T.n_sorted (by decide +kernel) (pa_cons (kv 5) pa_nil)) pa_nil))) (pe_one (kc C__law_is (hr.mono (by decide)) (pa_cons (km0 M_Store_used (hr.mono (by decide)) (k_fld (kv 0) rfl)) (pa_cons (kv 2) pa_nil))))))))), ?_⟩)
  · obtain ⟨_, _, _, _, _, _, rfl, _⟩ := h; rfl
  · obtain ⟨d, l, ys, u, r, n, rfl, Z, hl, nl, nd, ly, h1, h2, h⟩ := h
    have l9 : ys.length ≤ 100000 := ly
    have bd := Z.bd
    have lB := len_flat d.B
    walk_at "kk"
    intro t ht
    have lt : l ≠ t := ne_of_none hl ht
    have f1 : KW.Fr [] H (upd H t (.lst (ys.map V.int))) := Fr.new ht
    have t1 : upd H t (.lst (ys.map V.int)) t = some (.lst (ys.map V.int)) := upd_same
    revert f1 t1
    generalize upd H t (.lst (ys.map V.int)) = H1
    intro f1 t1
    have nd1 : ∀ x ∈ fpG d, x ≠ t := fun x hx => by rintro rfl; obtain ⟨o, ho⟩ := Z.there x hx; rw [ho] at ht; cases ht
    split
    · rename_i c
      obtain ⟨q1, q2, q3⟩ := h1 c
      refine ⟨.inl ⟨_, .of t1⟩, ?_⟩
      walk_at "kk"
      have f2 : KW.Fr [] H (upd H1 t (.lst (ys.map V.int ++ [V.int r]))) := fun b o hb hH => by
        have : b ≠ t := fun z => by rw [z, ht] at hH; cases hH
        rw [upd_ne this]; exact f1 b o hb hH
      have t2 : upd H1 t (.lst (ys.map V.int ++ [V.int r])) t = some (.lst ((ys ++ [r]).map V.int)) := by rw [upd_same, List.map_append]; rfl
      revert f2 t2
      generalize upd H1 t (.lst (ys.map V.int ++ [V.int r])) = H2
      intro f2 t2
      have Z2 := Z.fr0 f2
      have S2 := Z2.S
      walk_at "kk"
      refine numbers_s S2 (by omega) fun as l1 ha1 ha2 hl1 => ?_
      have tl1 : t ≠ l1 := ne_of_none t2 hl1
      refine srt_l (ns := ys ++ [r]) (by rw [upd_ne tl1]; exact t2) fun bs l2 hb1 hb2 hl2 => ?_
      have e : as = bs := srt_uniq (fun x => by rw [mem_nums, q2]; simp) (nums_nodup Z.S.nd) (List.nodup_append.mpr ⟨nd, by simp, by rintro x hx y hy rfl; simp at hy; rw [hy] at hx; exact q1 hx⟩) ha1 hb1 ha2 hb2
      have f3 : KW.Fr [] H2 (upd (upd H2 l1 (.lst (as.map V.int))) l2 (.lst (bs.map V.int))) := (Fr.new hl1).trans (Fr.new hl2)
      have l12 : l1 ≠ l2 := ne_of_none upd_same hl2
      have lb := hb1.length_eq
      rw [List.length_append, List.length_singleton] at lb
      refine same_s (xs := bs) (by show upd _ _ _ _ = _; rw [upd_ne l12, upd_same, e]) upd_same (by omega) ?_
      have Z3 := Z2.fr0 f3
      have S3 := Z3.S
      have Q3 := h _ (f2.trans f3)
      revert Z3 S3 Q3
      generalize upd (upd H2 l1 (.lst (as.map V.int))) l2 (.lst (bs.map V.int)) = H3
      intro Z3 S3 Q3
      walk_at "kk"
      refine is_s ?_
      simp only [q3, decide_true]
      exact Q3
    · rename_i c
      obtain ⟨q2, q3⟩ := h2 (by omega)
      have Z2 := Z.fr0 f1
      have S2 := Z2.S
      walk_at "kk"
      refine numbers_s S2 (by omega) fun as l1 ha1 ha2 hl1 => ?_
      have tl1 : t ≠ l1 := ne_of_none t1 hl1
      refine srt_l (ns := ys) (by rw [upd_ne tl1]; exact t1) fun bs l2 hb1 hb2 hl2 => ?_
      have e : as = bs := srt_uniq (fun x => by rw [mem_nums, q2]) (nums_nodup Z.S.nd) nd ha1 hb1 ha2 hb2
      have f3 : KW.Fr [] H1 (upd (upd H1 l1 (.lst (as.map V.int))) l2 (.lst (bs.map V.int))) := (Fr.new hl1).trans (Fr.new hl2)
      have l12 : l1 ≠ l2 := ne_of_none upd_same hl2
      have lb := hb1.length_eq
      refine same_s (xs := bs) (by show upd _ _ _ _ = _; rw [upd_ne l12, upd_same, e]) upd_same (by omega) ?_
      have Z3 := Z2.fr0 f3
      have S3 := Z3.S
      have Q3 := h _ (f1.trans f3)
      revert Z3 S3 Q3
      generalize upd (upd H1 l1 (.lst (as.map V.int))) l2 (.lst (bs.map V.int)) = H3
      intro Z3 S3 Q3
      walk_at "kk"
      refine is_s ?_
      simp only [q3, decide_true]
      exact Q3
theorem ok__law_fresh (T : Txt P w K mg a) : Cal P w K mg base 3 "_law_fresh" (spFresh6 a.Space a.Store) := by
  have M_Store_exists := ok_Store_exists (P := P) (w := w) (base := base) T
  have M_Store_kind := ok_Store_kind (P := P) (w := w) (base := base) T
  have M_Store_size := ok_Store_size (P := P) (w := w) (base := base) T
  have M_Store_slots := ok_Store_slots (P := P) (w := w) (base := base) T
  have C__law_is := ok__law_is (P := P) (w := w) (base := base) T
  have C__law_same := ok__law_same (P := P) (w := w) (base := base) T
  refine T.d__law_fresh.ok sc__law_fresh (fun vs H Q E h => ?_) (fun f cdv A outer s H vs Q E hr h => ⟨_, (pss_cons (ps_if (PW.pt (pw_or (pt_not (kt (pe_callB c_isi (by rfl) T.n_isinstance (by decide +kernel) (pa_cons (kv 2) (pa_cons (pe_bltn (v := .ty "int") (by rfl) T.n_int (by decide +kernel) rfl) pa_nil))))) (pw_or (kt (pe_callB c_isi (by rfl) T.n_isinstance (by decide +kernel) (pa_cons (kv 2) (pa_cons (pe_bltn (v := .ty "bool") (by rfl) T.n_bool (by decide +kernel) rfl) pa_nil)))) (pw_or (pt_cmpR o_lt (kv 2) pe_int (nomark _)) (pw_or1 (pt_cmp (k_din (hu_of hr) (kv 2) (kv 1))))))))
      (pss_one (ps_ret pe_bl))
      pss_nil)
      (pss_cons (ps_if (PW.pt (pw_or (pt_cmpR o_isnot (km M_Store_exists (hr.mono (by decide)) (k_fld (kv 0) rfl) (pa_cons (kv 2) pa_nil)) pe_bl (nomark _)) (pw_or1 (pt_not (kt (kc C__law_is (hr.mono (by decide)) (pa_cons (km M_Store_size (hr.mono (by decide)) (k_fld (kv 0) rfl) (pa_cons (kv 2) pa_nil)) (pa_cons (kv 4) pa_nil))))))))
      (pss_one (ps_ret pe_bl))
      pss_nil)
      (pss_one (ps_ret (pe_and (kc C__law_is (hr.mono (by decide)) (pa_cons (km M_Store_kind (hr.mono (by decide)) (k_fld (kv 0) rfl) (pa_cons (kv 2) pa_nil)) (pa_cons (kv 3) pa_nil))) (pe_one (kc C__law_same (hr.mono (by decide)) (pa_cons (km M_Store_slots (hr.mono (by decide)) (k_fld (kv 0) rfl) (pa_cons (kv 2) pa_nil)) (pa_cons (pe_op o_mul2 (pe_lst (pa_cons pe_int pa_nil)) (kv 4)) pa_nil))))))))), ?_⟩)
  · obtain ⟨_, _, _, _, _, _, rfl, _⟩ := h; rfl
  · obtain ⟨d, p, D, f, kd, n, rfl, Z, F, f0, nf, g, hn, h⟩ := h
    have S := Z.S
    have dc := F.dc
    obtain ⟨i, e, hi, ha, rfl, he⟩ := (gB_some S.nd).mp g
    have lvf := lv_at hi ha
    have hin : (valV (kvF D) (.inl e.n)).isSome = false := by rw [kvF_is]; exact decide_eq_false nf
    have ek : e.k = kd := (List.cons.inj he).1
    have es : e.s = List.replicate n 0 := (List.cons.inj he).2
    have el : e.s.length = n := by rw [es]; simp
    walk_at "kk"
    rw [if_neg (by omega)]
    walk_at "kk"
    rw [hin]
    walk_at "kk"
    simp only [lvf]
    walk_at "kk"
    refine size_s S hi ha rfl (is_s ?_)
    simp only [el, decide_true]
    walk_at "kk"
    refine kind_s S hi ha rfl (is_s ?_)
    simp only [ek, decide_true]
    walk_at "kk"
    refine slots_s S hi ha rfl fun t ht => ⟨lt_line (by decide), fun t2 ht2 => ?_⟩
    have f1 : KW.Fr [] H (upd H t (.lst (e.s.map V.int))) := Fr.new ht
    have t1 : upd H t (.lst (e.s.map V.int)) t = some (.lst (e.s.map V.int)) := upd_same
    revert f1 t1 ht2
    generalize upd H t (.lst (e.s.map V.int)) = H1
    intro ht2 f1 t1
    refine rep_l (xs := [V.int 0]) upd_same (by omega) (by omega) (le_line (by simp; omega)) fun t3 ht3 => ?_
    have e3 : (List.replicate ((n : Int)).toNat [V.int 0]).flatten = e.s.map V.int := by
      rw [es, Int.toNat_natCast]
      clear h ht2 hn el es f1 t1 g he
      induction n with
      | zero => rfl
      | succ n ih => rw [List.replicate_succ, List.replicate_succ, List.flatten_cons, ih]; rfl
    rw [e3]
    have n12 : t ≠ t2 := ne_of_none t1 ht2
    have n13 : t ≠ t3 := ne_of_none (by rw [upd_ne n12]; exact t1) ht3
    refine same_s (xs := e.s) (by show upd _ _ _ _ = _; rw [upd_ne n13, upd_ne n12]; exact t1) upd_same (by omega) ?_
    exact h _ ((f1.trans (Fr.new ht2)).trans (Fr.new ht3))
end
end K06

set_option Elab.async false
set_option linter.all false
set_option maxRecDepth 100000
set_option maxHeartbeats 4000000
/-! Sp6b: one call of new as the law sees it; what the deeds keep -/
namespace ST
open PySem PySem.Spec PyProof.Rows L2 KW LamX
def spNew6 (CS C p : Addr) (q : Str) : Sp := fun vs H Q _ => ∃ (d : Gd) (lm mo : Addr) (kd : Int) (n : Nat), vs = [.ref d.sp, .ref lm, .int kd, .int n] ∧ S6 CS C p q H d ∧ Lims H lm d mo ∧ mo ∉ fpG d ∧ n ≤ 1000 ∧ 
  ∀ (r : Int) (c : Nat) wd' pl' B' H', S6 CS C p q H' { d with al := d.al + 1, co := d.co + c, wd := wd', pl := pl', B := B' } → MovG d { d with wd := wd', pl := pl' } p H H' → (d.B = [] → 3 + (n : Int) ≤ d.rm → 0 < d.en → r = 0) → Q (.int r) H'
theorem lims0 {H H' : Hp} {lm mo : Addr} {d : Gd} (L : Lims H lm d mo) (f : KW.Fr [] H H') : Lims H' lm d mo := ⟨f _ _ (by simp) L.hd, f _ _ (by simp) L.mo⟩
theorem lims_ne {CS C p lm mo : Addr} {q : Str} {H : Hp} {d : Gd} (Z : Gpc CS C H d) (T : TabS H p q) (L : Lims H lm d mo) (nm : mo ∉ fpG d) : lm ∉ [d.sp, d.st, d.wd, d.pl, p] ∧ mo ∉ [d.sp, d.st, d.wd, d.pl, p] := by
  obtain ⟨dx, ob⟩ := Z.ob
  obtain ⟨dx2, lo, ob2, _⟩ := Z.S.ob
  have ow := Z.S.wo
  obtain ⟨kvs, op, _⟩ := Z.S.pa
  have hd := L.hd
  have hm := L.mo
  simp only [List.mem_cons, List.not_mem_nil, or_false, not_or] at nm ⊢
  refine ⟨⟨?_, ?_, ?_, ?_, ?_⟩, nm.1, nm.2.1, nm.2.2.1, nm.2.2.2.1, ?_⟩
  · rintro rfl; rw [hd] at ob; cases ob
  · rintro rfl; rw [hd] at ob2; cases ob2
  · rintro rfl; rw [hd] at ow; cases ow
  · rintro rfl; rw [hd] at op; cases op
  · exact fun z => T.ne hd pln_tup.1 z
  · exact fun z => T.ne hm pln_lst.1 z
theorem lims_mov {CS C p lm mo : Addr} {q : Str} {H H' : Hp} {d d' : Gd} (Z : Gpc CS C H d) (T : TabS H p q) (L : Lims H lm d mo) (nm : mo ∉ fpG d) (m : MovG d d' p H H') : Lims H' lm d mo ∧ mo ∉ fpG d' := by
  obtain ⟨n1, n2⟩ := lims_ne Z T L nm
  refine ⟨⟨m.1 _ _ n1 L.hd, m.1 _ _ n2 L.mo⟩, fun z => ?_⟩
  rcases m.2 mo z with q | q
  · exact nm q
  · have := L.mo; unfold IL at this; rw [q] at this; cases this
theorem none_ne {CS C p x : Addr} {q : Str} {H : Hp} {d : Gd} (Z : Gpc CS C H d) (T : TabS H p q) (h : H x = none) : x ∉ [d.sp, d.st, d.wd, d.pl, p] := fun z => by
  simp only [List.mem_cons, List.not_mem_nil, or_false] at z
  have e : x ∈ fpG d ∨ x = p := by simp; rcases z with z | z | z | z | z <;> simp [z]
  rcases e with e | e
  · obtain ⟨o, ho⟩ := Z.there x e; rw [h] at ho; cases ho
  · obtain ⟨o, ho, _⟩ := T; rw [← e, h] at ho; cases ho
def CaseN (d : Gd) (F : List Int) (n : Nat) (kd : Int) (TT : Int) (du : Str) (v : Int) (B' : List Blk) : Prop :=
  (du = S [109, 97, 100, 101] ∧ TT + 3 + n ≤ d.rm ∧ (F.length : Int) < d.en ∧ Free (bN d F n) v ∧ v < d.en ∧ B' = bN d F n ++ [⟨v, kd, List.replicate n 0, true⟩]) ∨
  (du = Str.ofString "room" ∧ TT + 3 + n > d.rm ∧ v = 3 + n ∧ B' = bN d F n) ∨
  (du = S [110, 117, 109, 98, 101, 114] ∧ TT + 3 + n ≤ d.rm ∧ (F.length : Int) ≥ d.en ∧ v = d.en ∧ B' = bN d F n)
theorem called_s {CS C p : Addr} {q : Str} {H : Hp} {Q : VK} {E : XK} {d : Gd} {kd : Int} {n : Nat} {F : List Int} {TT : Int} {x : Addr} (Z6 : S6 CS C p q H d) (hn : n ≤ 1000) (nF : F.Nodup) (hF : ∀ m, m ∈ F ↔ Rg (gB d.B) (d.ws ++ [kd]) m) (hT : TT = ((flat (kept d.B F)).length : Int))
    (k : ∀ t du v wd' pl' B' H', CaseN d F n kd TT du v B' → S6 CS C p q H' (newD d F n wd' pl' B') → MovG d { d with wd := wd', pl := pl' } p H H' → H' t = some (.tup [.str du, .int v]) → Q (.ref t) H') (ex : x = d.sp := by rfl) : spCalled6 CS C p q [.ref x, .int kd, .int n] H Q E := by
  subst ex
  refine ⟨d, kd, n, rfl, Z6, hn, fun F' nF' hF' => ?_⟩
  have eF : ∀ m, m ∈ F' ↔ m ∈ F := fun m => (hF' m).trans (hF m).symm
  have eK : kept d.B F' = kept d.B F := kept_same eF
  have eL : F'.length = F.length := Nat.le_antisymm (nF'.length_le_of_subset fun m h => (eF m).mp h) (nF.length_le_of_subset fun m h => (eF m).mpr h)
  have eC : colN d F' n = colN d F n := by unfold colN; rw [eK, eL]
  have eB : bN d F' n = bN d F n := by unfold bN; rw [eC, eK]
  have eT : totK d F' = TT := by unfold totK; rw [eK, hT]
  have eN : ∀ wd' pl' B', newD d F' n wd' pl' B' = newD d F n wd' pl' B' := fun wd' pl' B' => by unfold newD; rw [eC]
  simp only [eT, eL, eB, eN]
  refine ⟨fun h1 h2 f wd' pl' t H' hf hl s m ht => ?_, fun h1 wd' pl' t H' s m ht => ?_, fun h1 h2 wd' pl' t H' s m ht => ?_⟩
  · exact k t _ _ wd' pl' _ H' (.inl ⟨rfl, h1, h2, hf, hl, rfl⟩) s m ht
  · exact k t _ _ wd' pl' _ H' (.inr (.inl ⟨rfl, h1, rfl, rfl⟩)) s m ht
  · exact k t _ _ wd' pl' _ H' (.inr (.inr ⟨rfl, h1, h2, rfl, rfl⟩)) s m ht
end ST
namespace ST
open PySem PySem.Spec PyProof.Rows L2 KW LamX
structure W6 (CS C p : Addr) (q : Str) (lm mo : Addr) (H : Hp) (d : Gd) : Prop where
  s : S6 CS C p q H d
  l : Lims H lm d mo
  n : mo ∉ fpG d
def Mv6 (d d' : Gd) (p : Addr) (H H' : Hp) : Prop := KW.Fr (p :: fpG d) H H' ∧ ∀ x ∈ fpG d', x ∈ fpG d ∨ H x = none
structure Nx (CS C p : Addr) (q : Str) (lm mo : Addr) (H : Hp) (d : Gd) (H' : Hp) (d' : Gd) (k : Nat) : Prop where
  w : W6 CS C p q lm mo H' d'
  m : Mv6 d d' p H H'
  e : d'.sp = d.sp
  len : d'.L.length ≤ d.L.length + k
section
variable {CS C p lm mo : Addr} {q : Str} {H H' H1 H2 : Hp} {d d' d1 d2 : Gd} {i j k : Nat}
theorem W6.fr0 (X : W6 CS C p q lm mo H d) (f : KW.Fr [] H H') : W6 CS C p q lm mo H' d := ⟨X.s.fr0 f, lims0 X.l f, X.n⟩
theorem Nx.refl (X : W6 CS C p q lm mo H d) : Nx CS C p q lm mo H d H d 0 := ⟨X, ⟨Fr.refl _, fun _ h => .inl h⟩, rfl, by omega⟩
theorem Mv6.trans (a : Mv6 d d1 p H H1) (b : Mv6 d1 d2 p H1 H2) (T : TabS H1 p q) : Mv6 d d2 p H H2 := by
  refine ⟨fun x o hx ho => b.1 x o (fun z => ?_) (a.1 x o hx ho), fun x hx => ?_⟩
  · rcases List.mem_cons.mp z with rfl | z
    · exact hx List.mem_cons_self
    · rcases a.2 x z with u | u
      · exact hx (List.mem_cons_of_mem _ u)
      · rw [ho] at u; cases u
  · rcases b.2 x hx with u | u
    · exact a.2 x u
    · by_cases c : x ∈ p :: fpG d
      · rcases List.mem_cons.mp c with rfl | c
        · obtain ⟨o, ho, _⟩ := T; rw [u] at ho; cases ho
        · exact .inl c
      · exact .inr (a.1.none c u)
theorem Nx.trans (a : Nx CS C p q lm mo H d H1 d1 i) (b : Nx CS C p q lm mo H1 d1 H2 d2 j) : Nx CS C p q lm mo H d H2 d2 (i + j) := ⟨b.w, a.m.trans b.m a.w.s.T, b.e.trans a.e, by have := a.len; have := b.len; omega⟩
theorem Nx.fr0 (a : Nx CS C p q lm mo H d H1 d1 i) (f : KW.Fr [] H1 H2) : Nx CS C p q lm mo H d H2 d1 i := ⟨a.w.fr0 f, ⟨a.m.1.trans (f.mono (by simp)), a.m.2⟩, a.e, a.len⟩
theorem Nx.le (a : Nx CS C p q lm mo H d H1 d1 i) (h : i ≤ j) : Nx CS C p q lm mo H d H1 d1 j := ⟨a.w, a.m, a.e, by have := a.len; omega⟩
theorem MovG.mv6 (m : MovG d d' p H H') : Mv6 d d' p H H' := ⟨m.1.mono fun x hx => by simp only [List.mem_cons, List.not_mem_nil, or_false] at hx ⊢; rcases hx with rfl | rfl | rfl | rfl | rfl <;> simp, m.2⟩
theorem new6_s {kd : Int} {n : Nat} {Q : VK} {E : XK} {x : Addr} (X : W6 CS C p q lm mo H d) (hn : n ≤ 1000) (h : ∀ r d' H', Nx CS C p q lm mo H d H' d' 0 → Q (.int r) H') (ex : x = d.sp := by rfl) : spNew6 CS C p q [.ref x, .ref lm, .int kd, .int n] H Q E := by
  subst ex
  refine ⟨d, lm, mo, kd, n, rfl, X.s, X.l, X.n, hn, fun r c wd' pl' B' H' s m _ => ?_⟩
  obtain ⟨l', n'⟩ := lims_mov X.s.Z X.s.T X.l X.n m
  exact h r _ H' ⟨⟨s, ⟨l'.hd, l'.mo⟩, n'⟩, m.mv6, rfl, by simp⟩
theorem W6.step (X : W6 CS C p q lm mo H d) (Z' : Gpc CS C H' d') (f : KW.Fr (fpG d) H H') (e : fpG d' = fpG d) (e1 : d'.rm = d.rm) (e2 : d'.en = d.en) (e3 : d'.aw = d.aw) (e4 : d'.P = d.P) (e5 : d'.sv = d.sv) (low : Low d') (use : ((flat d'.B).length : Int) ≤ d'.rm) (len : d'.L.length ≤ d.L.length + k) : Nx CS C p q lm mo H d H' d' k := by
  have hl : lm ∉ fpG d := fun z => by
    have h1 := X.l.hd
    have nn := lims_ne X.s.Z X.s.T X.l X.n
    have z2 := z
    simp only [List.mem_cons, List.not_mem_nil, or_false, not_or] at z2 nn
    rcases z2 with z2 | z2 | z2 | z2 | z2 | z2 | z2
    · exact nn.1.1 z2
    · exact nn.1.2.1 z2
    · exact nn.1.2.2.1 z2
    · exact nn.1.2.2.2.1 z2
    · have := X.s.Z.pe; unfold IL at this; rw [← z2, h1] at this; cases this
    · have := X.s.Z.rt; unfold IL at this; rw [← z2, h1] at this; cases this
    · have := X.s.Z.hl; unfold IL at this; rw [← z2, h1] at this; cases this
  refine ⟨⟨⟨Z', X.s.T.frl f fun y hy => X.s.Z.pln y hy, by rw [e5]; exact X.s.sv, low, use, by rw [e1]; exact X.s.rm⟩, ⟨?_, ?_⟩, by rw [e]; exact X.n⟩, ⟨f.mono fun _ h => List.mem_cons_of_mem _ h, fun x hx => .inl (by rw [← e]; exact hx)⟩, ?_, len⟩
  · rw [e1, e2, e3]; exact f _ _ hl X.l.hd
  · rw [e4]; exact f _ _ X.n X.l.mo
  · have := e; simp only [fpG, List.cons.injEq] at this; exact this.1
end
def spDeed6 (CS C p : Addr) (q : Str) : Sp := fun vs H Q _ => ∃ (d : Gd) (lm mo : Addr) (x : Int), vs = [.ref d.sp, .ref lm, .int x] ∧ W6 CS C p q lm mo H d ∧ 0 ≤ x ∧ d.L.length ≤ 900 ∧ ∀ d' H', Nx CS C p q lm mo H d H' d' 1 → Q (.bl true) H'
def spSpace6 (CS C p : Addr) (q : Str) : Sp := fun vs H Q _ => ∃ (ce : Addr) (cs : List Int), vs = [.ref ce] ∧ IL H ce cs ∧ 2 ≤ cs.length ∧ cs.length ≤ 1000 ∧ TabS H p q ∧
  ∀ d lm mo tu H', W6 CS C p q lm mo H' d → d.al = 0 → d.B = [] → d.R = List.replicate 16 0 → d.L = [] → 3 ≤ d.rm → 0 < d.en → KW.Fr [] H H' → H' tu = some (.tup [.ref d.sp, .ref lm]) → (∀ x ∈ fpG d, H x = none) → H tu = none → Q (.ref tu) H'
end ST

set_option Elab.async false
set_option linter.all false
set_option maxRecDepth 100000
set_option maxHeartbeats 4000000
namespace K06
open PySem PySem.Spec PyProof.Rows L2 KW ST LamX
local macro_rules | `(tactic| walk_at "kw") => `(tactic| simp only [tSeq, tNext, tIfS, tTest, tAnd, tOr, tNot, tAndV, tOrV, tNotV, tIf, tChain, tOp, tUn, tC, tAsg, gName, gSub, gCons, gNil, tRet, tRetN, tDrop, tCons, tNil, tCB, tAug, tSl, tPart, tNoPart, tLst, tTup, tBM, tBM0, uTest, uFor, iRng1, iRng2, iList, uCall, List.map_cons, List.map_nil, List.length_cons, List.length_nil, List.cons_append, List.nil_append, List.replicate, Nat.zero_add, Nat.reduceAdd, Nat.reduceSub, List.getElem?_cons_zero, List.getElem?_cons_succ, List.set_cons_zero, List.set_cons_succ, V.bl.injEq, V.int.injEq, V.str.injEq, V.ref.injEq, V.ty.injEq, List.cons.injEq, and_true, true_and, exists_eq_left', exists_eq_right, exists_eq_left, exists_and_left, exists_and_right, decide_eq_true_eq, Bool.not_eq_true', decide_eq_false_iff_not, Bool.false_eq_true, if_true, if_false, ite_true, ite_false, Bool.not_true, Bool.not_false, reduceCtorEq, decide_true, decide_false, Bool.not_not, isK_int_int, isK_int_bool, isK_int_str, isK_int_list, isK_int_tuple, isK_bool_int, isK_bool_bool, isK_bool_str, isK_str_str, isK_str_int, isK_str_bool, isK_str_tuple, isK_str_list, isK_list_list, isK_list_tuple, isK_tuple_tuple, isK_tuple_list, isOk_int_int, isOk_int_bool, isOk_int_str, isOk_int_list, isOk_int_tuple, isOk_bool_int, isOk_bool_bool, isOk_bool_str, isOk_str_str, isOk_str_int, isOk_str_bool, isOk_str_tuple, isOk_str_list, isOk_list_list, isOk_list_tuple, isOk_tuple_tuple, isOk_tuple_list, isK_dict_dict, isOk_dict_dict, isK_none_int, isK_none_bool, isOk_none_int, isOk_none_bool, tyV, S_inj, S_cat, L2.start, Nat.reduceSub, List.replicate_succ, List.replicate_zero, and_assoc, List.append_nil, Nat.reduceEqDiff, Option.some.injEq, Int.natCast_inj, upd_upd, Int.reducePow, Int.reduceToNat, Int.reduceMul, Int.reduceAdd, Int.reduceSub, Int.reduceLT, Int.reduceLE, Int.reduceNeg, Int.reduceDiv, Int.reduceMod, Nat.reducePow, Nat.reduceMul, S_len, List.length_append, List.length_map, List.length_range, not_true_eq_false, not_false_eq_true, ne_eq, uAdd_e1, uAdd_e2, uSub_e1, uMod_e1, uDiv_e1, uPow_e1, uShl_e1, uNeg_e1, uIAdd_e1, uIAdd_e2, uIAdd_e3, uISub_e1, uLt_e1, uLt_e2, uLe_e1, uGt_e1, uGe_e1, uEq_e1, uEq_e2, uEq_e3, uEq_e4, uEq_e5, uEq_e6, uEq_e7, uEq_e8, uEq_e9, uEq_e10, uEq_e11, uNe_e1, uNe_e2, uNe_e3, uNe_e4, uNe_e5, uNe_e6, uNe_e7, uNe_e8, uNe_e9, uNe_e10, uNe_e11, uIs_e1, uIs_e2, uIs_e3, uIs_e4, uIs_e5, uIs_e6, uIs_e7, uNotIs_e1, uNotIs_e2, uNotIs_e3, uNotIs_e4, uNotIs_e5, uNotIs_e6, uIn_e1, uIn_e2, uIn_e3, uIn_e4, uNotIn_e1, uNotIn_e2, uNotIn_e3, uNotIn_e4, uTru_e1, uTru_e2, uTru_e3, uTru_e4, uIx_e2, uSl_e2, uLen_e1, uAbs_e1, uInt_e1, uInt_e2, uMin2_e1, uIsi_e1, uIsi_e2, uIsi_e3, uIsi_e4, cx_K, uVar_0, uVar_n, uFld, uSFld, uMet, uMake, tDG, tDI, tDNI, tDP, tDD, uMk, uRaise, uDelSl, tCallS, L2.WE, uStr_e1, uStr_e2, uMul2_e1, uMul2_e2, okS_i, okS_s, List.zip_cons_cons, List.zip_nil_left, List.drop_zero, List.drop_succ_cons, List.drop_nil, putF_nil, putF_cons, eq_self, tDNewK, tB, Option.isSome_some, Option.isSome_none, false_and, false_or, or_false, exists_false, Int.zero_add, uLc, wipe, tYes, isEmpty_app, List.isEmpty_cons, List.isEmpty_nil, List.isEmpty_map, Bool.and_false, Bool.and_true, iRev, K06.lit_0, K06.lit_1, K06.lit_3, K06.lit_4, K06.fe_room_entries, K06.fe_room_words, K06.fe_room__places, K06.fe_room__least, K06.fe_entries_room, K06.fe_entries_words, K06.fe_entries__places, K06.fe_entries__least, K06.fe_words_room, K06.fe_words_entries, K06.fe_words__places, K06.fe_words__least, K06.fe__places_room, K06.fe__places_entries, K06.fe__places_words, K06.fe__places__least, K06.fe__least_room, K06.fe__least_entries, K06.fe__least_words, K06.fe__least__places, K06.fe_store_pressure, K06.fe_store_always, K06.fe_store_allocations, K06.fe_store_collections, K06.fe_store__roots, K06.fe_store__held, K06.fe_store__saved, K06.fe_pressure_store, K06.fe_pressure_always, K06.fe_pressure_allocations, K06.fe_pressure_collections, K06.fe_pressure__roots, K06.fe_pressure__held, K06.fe_pressure__saved, K06.fe_always_store, K06.fe_always_pressure, K06.fe_always_allocations, K06.fe_always_collections, K06.fe_always__roots, K06.fe_always__held, K06.fe_always__saved, K06.fe_allocations_store, K06.fe_allocations_pressure, K06.fe_allocations_always, K06.fe_allocations_collections, K06.fe_allocations__roots, K06.fe_allocations__held, K06.fe_allocations__saved, K06.fe_collections_store, K06.fe_collections_pressure, K06.fe_collections_always, K06.fe_collections_allocations, K06.fe_collections__roots, K06.fe_collections__held, K06.fe_collections__saved, K06.fe__roots_store, K06.fe__roots_pressure, K06.fe__roots_always, K06.fe__roots_allocations, K06.fe__roots_collections, K06.fe__roots__held, K06.fe__roots__saved, K06.fe__held_store, K06.fe__held_pressure, K06.fe__held_always, K06.fe__held_allocations, K06.fe__held_collections, K06.fe__held__roots, K06.fe__held__saved, K06.fe__saved_store, K06.fe__saved_pressure, K06.fe__saved_always, K06.fe__saved_allocations, K06.fe__saved_collections, K06.fe__saved__roots, K06.fe__saved__held, K06.fl_room_0, K06.lf_room_0, K06.fl_room_1, K06.lf_room_1, K06.fl_room_3, K06.lf_room_3, K06.fl_room_4, K06.lf_room_4, t11_e, uMetD.uMtD, tDGF_eq, uDGetF_e1, K06.N_is_ref, K06.N_ref_of, K06.N_reached, K06.N_words_of, K06.N_collect, K06.N_Store_init, K06.N_Store_used, K06.N_Store_exists, K06.N_Store_numbers, K06.N_Store_free_number, K06.N_Store_allocate, K06.N_Store_size, K06.N_Store_kind, K06.N_Store_get, K06.N_Store_put, K06.N_Store_slots, K06.N_Store_drop, K06.N_Store_close_up, K06.N_Space_init, K06.N_Space_press, K06.N_Space_root, K06.N_Space_set_root, K06.N_Space_hold, K06.N_Space_drop, K06.N_Space_held, K06.N_Space_all_roots, K06.N_Space_collect, K06.N_Space_collect_with, K06.N_Space_live_words, K06.N_Space_new, K06.N_Space_fitted, K06.N__law_number, K06.N__law_deeds, K06.N__law_is, K06.N__law_same, K06.N__law_place, K06.N__law_word, K06.N__law_reached, K06.N__law_total, K06.N__law_collections, K06.N__law_called, K06.N__law_kept, K06.N__law_held, K06.N__law_fresh, K06.N__law_new, K06.N__law_deed, K06.N__law_space, K06.N_law, sp_is_ref, sp_ref_of])
local macro_rules | `(tactic| walk_at "nn") => `(tactic| first | assumption | exact ne_un (by assumption) | exact ne_un (ne_un (by assumption)) | exact ne_un (ne_un (ne_un (by assumption))) | exact ne_un (ne_un (ne_un (ne_un (by assumption)))))
local macro_rules | `(tactic| walk_at "ne") => `(tactic| first | assumption | (apply Ne.symm; assumption) | exact ne_ud (by assumption) | exact Ne.symm (ne_ud (by assumption)) | exact ne_ud (ne_un (by assumption)) | exact Ne.symm (ne_ud (ne_un (by assumption))) | exact ne_ud (ne_un (ne_un (by assumption))) | exact Ne.symm (ne_ud (ne_un (ne_un (by assumption)))) | exact ne_m (by assumption) (by assumption) | exact Ne.symm (ne_m (by assumption) (by assumption)) | exact ne_n (by assumption) (by walk_at "nn") | exact Ne.symm (ne_n (by assumption) (by walk_at "nn")))
local macro_rules | `(tactic| walk_at "hp") => `(tactic| first | assumption | exact upd_same | (refine Eq.trans (upd_ne ?_) ?_; (focus walk_at "ne"); walk_at "hp"))
local macro_rules | `(tactic| walk_at "sc") => `(tactic| first | (with_reducible assumption) | omega | exact le_line (by (try simp only [List.length_map, List.length_append, List.length_cons, List.length_nil, S_len]); omega) | exact div_s (by omega) | exact mul_r (by omega) | exact mul_l (by omega) | exact pow_s (by omega) | exact mul2_r (by omega) | exact mul2_l (by omega) | exact small4300 (by omega) | exact lt_line (by (try simp only [List.length_map, List.length_append, List.length_cons, List.length_nil, S_len]); omega) | exact ⟨_, by assumption⟩ | (guard_target =~ Exists _; exact ⟨_, .of (by walk_at "hp")⟩) | (guard_target =~ _ ∨ _; exact .inl ⟨_, by assumption⟩) | (guard_target =~ _ ∨ _; exact .inl ⟨_, .of (by walk_at "hp")⟩) | (guard_target =~ _ ∨ _; exact .inr (.inr (.inl ⟨rfl, .inl ⟨_, by walk_at "hp"⟩⟩))) | decide)
local macro_rules | `(tactic| walk_at "kr") => `(tactic| first | (guard_target =~ _ ∧ _; first | refine And.intro (by walk_at "sc") ?_) | (guard_target =~ KW.uIx _ _ _ _ _; first | refine ix_l (by walk_at "hp") (by first | walk_at "hv" | rfl) ?_ | refine ix_t (by walk_at "hp") (by first | walk_at "hv" | rfl) ?_ | refine ix_sl (by assumption) (by walk_at "hv") ?_) | (guard_target =~ KW.uLen _ _ _ _; first | refine len_l (by walk_at "hp") ?_ | refine len_t (by walk_at "hp") ?_ | refine len_sl (by assumption) ?_) | (guard_target =~ KW.uSet _ _ _ _ _; first | refine set_l (by walk_at "hp") (by first | walk_at "hv" | rfl) ?_) | (guard_target =~ L2.gTup _ _ _ _ _ _ _; first | refine tup_l (by walk_at "hp") (by rfl) ?_) | (guard_target =~ KW.uGet _ _ _ _ _; first | refine get_l (by walk_at "hp") (by walk_at "hc") (by decide) (by rfl) ?_) | (guard_target =~ KW.uPut _ _ _ _ _ _; first | refine put_l (by walk_at "hp") (by walk_at "hc") (by decide) (by simp) ?_) | (guard_target =~ KW.uMet.uMt _ _ _ _ _ _ _ _ _; first | refine met_l (by walk_at "hp") (by rfl) ?_) | (guard_target =~ KW.uMet.uMt _ _ _ _ _ _ _ _ _; first | refine ST.met_s (by assumption) (by decide) ?_) | (guard_target =~ ST.spExists _ _ _ _ _; first | refine ST.exists_s (by assumption) ?_) | (guard_target =~ ST.spUsed _ _ _ _ _; first | refine ST.used_s (by assumption) ?_) | (guard_target =~ KW.uGet _ _ _ _ _; first | refine ST.words_s (by assumption) (by walk_at "hc") (by decide) ?_) | (guard_target =~ KW.uDIn _ _ _ _; first | refine din_i (by walk_at "hp") ?_ | refine din_s (by walk_at "hp") ?_) | (guard_target =~ KW.uDGet _ _ _ _; first | refine dget_i (by walk_at "hp") (by walk_at "hv") ?_ | refine dget_s (by walk_at "hp") (by walk_at "hv") ?_) | (guard_target =~ KW.uDPut _ _ _ _ _; first | refine dput_i (by walk_at "hp") (by walk_at "sc") ?_ | refine dput_s (by walk_at "hp") (by walk_at "sc") ?_) | (guard_target =~ KW.uDDel _ _ _ _; first | refine ddel_i (by walk_at "hp") (by walk_at "hv") ?_ | refine ddel_s (by walk_at "hp") (by walk_at "hv") ?_) | (guard_target =~ KW.uMul2 _ _ _ _; first | refine rep_l (by walk_at "hp") (by walk_at "sc") (by walk_at "sc") (by walk_at "sc") ?_) | (guard_target =~ L2.rAppend _ _ _ _; first | refine app_l (by walk_at "hp") (by walk_at "sc") ?_) | (guard_target =~ L2.rPop _ _ _ _; first | refine pop_l (by walk_at "hp") (by walk_at "hv") ?_ | refine pops_l (by walk_at "hp") ?_) | (guard_target =~ L2.rClear _ _ _ _; first | refine clr_l (by walk_at "hp") ?_) | (guard_target =~ L2.rReverse _ _ _ _; first | refine rev_l (by walk_at "hp") ?_) | (guard_target =~ L2.rExtend _ _ _ _; first | refine ext_l (by walk_at "hp") (by walk_at "hp") (by walk_at "sc") ?_) | (guard_target =~ KW.uAdd _ _ _ _ _; first | refine ucat_l (by walk_at "hp") (by walk_at "hp") (by walk_at "sc") ?_) | (guard_target =~ KW.uSl _ _ _ _ _ _; first | refine usl_l (by walk_at "hp") ?_) | (guard_target =~ KW.uTru _ _ _ _; first | refine tru_l (by walk_at "hp") ?_ | refine tru_t (by walk_at "hp") ?_ | refine tru_d (by walk_at "hp") ?_ | refine tru_sl (by assumption) ?_) | (guard_target =~ L2.rIndex _ _ _ _ _; first | refine idx_s (by walk_at "hp") (by assumption) ?_ | refine idx_i (by walk_at "hp") (by assumption) ?_) | (guard_target =~ L2.rIn _ _ _ _ _ _; first | refine in_s (by walk_at "hp") ?_ | refine nin_s (by walk_at "hp") ?_ | refine in_i (by walk_at "hp") ?_ | refine nin_i (by walk_at "hp") ?_) | (guard_target =~ KW.uIsi _ _ _ _; first | refine isi_l (by walk_at "hp") (by decide +kernel) ?_ | refine isi_t (by walk_at "hp") (by decide +kernel) ?_ | refine isi_d (by walk_at "hp") (by decide +kernel) ?_) | (guard_target =~ KW.uList _ _ _ _; first | refine list_l (by walk_at "hp") ?_ | refine list_t (by walk_at "hp") ?_ | refine list_sl (by assumption) ?_) | (guard_target =~ KW.uDict _ _ _; first | refine dict_d (by walk_at "hp") ?_) | (guard_target =~ KW.uSorted _ _ _ _; first | refine srt_l (by walk_at "hp") ?_) | (guard_target =~ KW.uSum _ _ _ _; first | refine sum_l (by walk_at "hp") ?_) | (guard_target =~ KW.uDelC _ _ _ _; first | refine dels_l (by walk_at "hp") (by walk_at "sc") ?_) | (guard_target =~ L2.wAs _ _ _ _ _ _ _ _ _ _; first | refine as_yes (by walk_at "hx") ?_ | refine as_no (by walk_at "hx") ?_) | (guard_target =~ KW.uEf _ _ _ _ _ _ _ _ _; first | refine ef_l (by walk_at "he") (by decide) (by rfl) (by walk_at "hp") (by rfl) ?_) | (guard_target =~ KW.uIsE _ _ _ _ _ _ _; first | refine isE_r (by walk_at "he") (by walk_at "hp") (by walk_at "hk") ?_ | refine isE_t (by walk_at "he") (by walk_at "hp") (by walk_at "hk") ?_))
local macro_rules | `(tactic| walk_at "hv") => `(tactic| first | assumption)
local macro_rules | `(tactic| walk_at "kk") => `(tactic| repeat (first | walk_at "kw" | walk_at "kr"))
local macro_rules | `(tactic| walk_at "hc") => `(tactic| first | exact K06.Txt.c_Store (by assumption) | exact K06.Txt.c_Space (by assumption))
local macro_rules | `(tactic| walk_at "he") => `(tactic| first | exact K06.Txt.e_BadWord (by assumption) | exact K06.Txt.e_NoRoom (by assumption) | exact K06.Txt.e_NoNumber (by assumption) | exact K06.Txt.e_Wrong (by assumption))
local macro_rules | `(tactic| walk_at "hx") => `(tactic| first | exact K06.Txt.x_BadWord_KilnwardenError (by assumption) | exact K06.Txt.x_BadWord_NoNumber (by assumption) | exact K06.Txt.x_BadWord_NoRoom (by assumption) | exact K06.Txt.x_NoRoom_KilnwardenError (by assumption) | exact K06.Txt.x_NoRoom_NoNumber (by assumption) | exact K06.Txt.x_NoRoom_NoRoom (by assumption) | exact K06.Txt.x_NoNumber_KilnwardenError (by assumption) | exact K06.Txt.x_NoNumber_NoNumber (by assumption) | exact K06.Txt.x_NoNumber_NoRoom (by assumption) | exact K06.Txt.x_Wrong_KilnwardenError (by assumption) | exact K06.Txt.x_Wrong_NoNumber (by assumption) | exact K06.Txt.x_Wrong_NoRoom (by assumption))
local macro_rules | `(tactic| walk_at "hk") => `(tactic| first | exact K06.Txt.i_BadWord_NoNumber (by assumption) | exact K06.Txt.i_BadWord_NoRoom (by assumption) | exact K06.Txt.i_NoRoom_NoNumber (by assumption) | exact K06.Txt.i_NoRoom_NoRoom (by assumption) | exact K06.Txt.i_NoNumber_NoNumber (by assumption) | exact K06.Txt.i_NoNumber_NoRoom (by assumption) | exact K06.Txt.i_Wrong_NoNumber (by assumption) | exact K06.Txt.i_Wrong_NoRoom (by assumption))

local macro_rules | `(tactic| walk_at "kr") => `(tactic| first | (guard_target =~ KW.uGet _ _ _ _ _; refine ST.get_g (by assumption) (by rfl) (by walk_at "hc") (by decide) (by rfl) ?_) | (guard_target =~ KW.uMet.uMt _ _ _ _ _ _ _ _ _; refine ST.met_g (by assumption) (by rfl) (by decide) ?_))
section
variable {P : Program} {w : World} {K : Frag} {mg : Str → Option Value} {base : Heap} {a : Ads}
theorem ok__law_new (T : Txt P w K mg a) (TB : LamX.TabB base mg a.c_Store_close_up a.p_Store_close_up) : Cal P w K mg base 9 "_law_new" (spNew6 a.Space a.Store a.p_Store_close_up ("Store.close_up" ++ ".<locals>.<lambda>")) := by
  have M_Space_all_roots := ok_Space_all_roots (P := P) (w := w) (base := base) T
  have M_Store_numbers := ok_Store_numbers (P := P) (w := w) (base := base) T
  have M_Store_used := ok_Store_used (P := P) (w := w) (base := base) T
  have C__law_reached := ok__law_reached (P := P) (w := w) (base := base) T
  have C__law_collections := ok__law_collections (P := P) (w := w) (base := base) T
  have C__law_total := ok__law_total (P := P) (w := w) (base := base) T
  have C__law_called := ok__law_called (P := P) (w := w) (base := base) T TB
  have C__law_is := ok__law_is (P := P) (w := w) (base := base) T
  have C__law_same := ok__law_same (P := P) (w := w) (base := base) T
  have C__law_fresh := ok__law_fresh (P := P) (w := w) (base := base) T
  have C__law_kept := ok__law_kept (P := P) (w := w) (base := base) T
  have C__law_held := ok__law_held (P := P) (w := w) (base := base) T
  refine T.d__law_new.ok sc__law_new (fun vs H Q E h => ?_) (fun f cdv A outer s H vs Q E hr h => ⟨_, (pss_cons (ps_set (i := 4) sc__law_new.nd rfl (Or.inl rfl) (kc C__law_reached (hr.mono (by decide)) (pa_cons (kv 0) (pa_cons (pe_op o_add (km0 M_Space_all_roots (hr.mono (by decide)) (kv 0)) (pe_lst (pa_cons (kv 2) pa_nil))) pa_nil))))
      (pss_cons (ps_set (i := 5) sc__law_new.nd rfl (Or.inl rfl) (km0 M_Space_all_roots (hr.mono (by decide)) (kv 0)))
      (pss_cons (ps_set (i := 6) sc__law_new.nd rfl (Or.inl rfl) (pe_tup (pa_cons (k_fld (kv 0) rfl) (pa_cons (k_fld (kv 0) rfl) pa_nil))))
      (pss_cons (ps_set (i := 7) sc__law_new.nd rfl (Or.inl rfl) (kc C__law_collections (hr.mono (by decide)) (pa_cons (kv 0) (pa_cons (kv 4) (pa_cons (kv 1) (pa_cons (kv 3) pa_nil))))))
      (pss_cons (ps_set (i := 8) sc__law_new.nd rfl (Or.inl rfl) (km0 M_Store_numbers (hr.mono (by decide)) (k_fld (kv 0) rfl)))
      (pss_cons (ps_set (i := 9) sc__law_new.nd rfl (Or.inl rfl) (km0 M_Store_used (hr.mono (by decide)) (k_fld (kv 0) rfl)))
      (C8.pss_cut (ps_if (pt_cmpR o_gt (kv 7) pe_int (nomark _))
      (pss_cons (ps_lock (k_setLc (i := 8) (own := [("number", 10)]) (g := gName 10) (by rfl) sc__law_new.nd rfl rfl (sw_true rfl rfl rfl (by decide +kernel)) (pi_keys (kv 4)) (blkOk_by (own := [("number", 10)]) (N := ["space", "limits", "kind", "size", "found", "roots", "counts", "collections", "numbers", "used", "number", "due", "told"]) (sc := defScope s__law_new) (by decide +kernel)) (fun _ _ _ _ _ => pg_name (i := 10) sc__law_new.nd rfl (Or.inl rfl)) (fun _ _ _ _ _ => pts_nil) (fun _ _ _ _ _ => by exact (kv 10))))
      (pss_one (ps_set (i := 9) sc__law_new.nd rfl (Or.inl rfl) (kc C__law_total (hr.mono (by decide)) (pa_cons (kv 4) pa_nil)))))
      pss_nil)
      (pss_cons (ps_set (i := 11) sc__law_new.nd rfl (Or.inl rfl) pe_str)
      (C8.pss_cut (ps_if (pt_cmpR o_gt (pe_op o_add (pe_op o_add (kc C__law_total (hr.mono (by decide)) (pa_cons (kv 4) pa_nil)) pe_int) (kv 3)) (pe_ix o_ix (kv 1) pe_int (fun _ _ => rfl)) (nomark _))
      (pss_one (ps_set (i := 11) sc__law_new.nd rfl (Or.inl rfl) pe_str))
      (pss_one (ps_if (pt_cmpR o_ge (pe_callB c_lenDk (by rfl) T.n_len (by decide +kernel) (pa_cons (kv 4) pa_nil)) (pe_ix o_ix (kv 1) pe_int (fun _ _ => rfl)) (nomark _))
      (pss_one (ps_set (i := 11) sc__law_new.nd rfl (Or.inl rfl) pe_str))
      pss_nil)))
      (pss_cons (ps_set (i := 12) sc__law_new.nd rfl (Or.inl rfl) (kc C__law_called (hr.mono (by decide)) (pa_cons (kv 0) (pa_cons (kv 2) (pa_cons (kv 3) pa_nil)))))
      (C8.pss_cut (ps_if (PW.pt (pw_or (pt_cmpR (o_ne hr.units) (pe_ix o_ix (kv 12) pe_int (fun _ _ => rfl)) (kv 11) (nomark _)) (pw_or1 (PW.pt (pw_and (pt_cmpR (o_eq hr.units) (kv 11) pe_str (nomark _)) (pw_and1 (pt_not (kt (kc C__law_is (hr.mono (by decide)) (pa_cons (pe_ix o_ix (kv 12) pe_int (fun _ _ => rfl)) (pa_cons (pe_op o_add pe_int (kv 3)) pa_nil)))))))))))
      (pss_one (ps_ret pe_non))
      pss_nil)
      (C8.pss_cut (ps_if (PW.pt (pw_and (pt_cmpR (o_eq hr.units) (kv 11) pe_str (nomark _)) (pw_and1 (pt_not (kt (kc C__law_is (hr.mono (by decide)) (pa_cons (pe_ix o_ix (kv 12) pe_int (fun _ _ => rfl)) (pa_cons (pe_ix o_ix (kv 1) pe_int (fun _ _ => rfl)) pa_nil))))))))
      (pss_one (ps_ret pe_non))
      pss_nil)
      (C8.pss_cut (ps_if (PW.pt (pw_and (pt_cmpR (o_eq hr.units) (kv 11) pe_str (nomark _)) (pw_and1 (PW.pt (pw_or (pt_not (kt (kc C__law_fresh (hr.mono (by decide)) (pa_cons (kv 0) (pa_cons (kv 4) (pa_cons (pe_ix o_ix (kv 12) pe_int (fun _ _ => rfl)) (pa_cons (kv 2) (pa_cons (kv 3) pa_nil)))))))) (pw_or1 (pt_cmpR o_ge (pe_ix o_ix (kv 12) pe_int (fun _ _ => rfl)) (pe_ix o_ix (kv 1) pe_int (fun _ _ => rfl)) (nomark _))))))))
      (pss_one (ps_ret pe_non))
      pss_nil)
      (pss_cons (ps_set (i := 10) sc__law_new.nd rfl (Or.inl rfl) (pe_un o_neg pe_int))
      (C8.pss_cut (ps_if (pt_cmpR (o_eq hr.units) (kv 11) pe_str (nomark _))
      (pss_one (ps_set (i := 10) sc__law_new.nd rfl (Or.inl rfl) (pe_ix o_ix (kv 12) pe_int (fun _ _ => rfl))))
      pss_nil)
      (pss_cons (ps_if (PW.pt (pw_or (pt_not (kt (kc C__law_is (hr.mono (by decide)) (pa_cons (k_fld (kv 0) rfl) (pa_cons (pe_op o_add (pe_ix o_ix (kv 6) pe_int (fun _ _ => rfl)) pe_int) pa_nil))))) (pw_or1 (pt_not (kt (kc C__law_is (hr.mono (by decide)) (pa_cons (k_fld (kv 0) rfl) (pa_cons (pe_op o_add (pe_ix o_ix (kv 6) pe_int (fun _ _ => rfl)) (kv 7)) pa_nil))))))))
      (pss_one (ps_ret pe_non))
      pss_nil)
      (pss_cons (ps_if (PW.pt (pw_or (pt_not (kt (kc C__law_same (hr.mono (by decide)) (pa_cons (km0 M_Space_all_roots (hr.mono (by decide)) (kv 0)) (pa_cons (kv 5) pa_nil))))) (pw_or1 (pt_not (kt (kc C__law_kept (hr.mono (by decide)) (pa_cons (kv 0) (pa_cons (kv 4) pa_nil))))))))
      (pss_one (ps_ret pe_non))
      pss_nil)
      (pss_cons (ps_if (pt_not (kt (kc C__law_held (hr.mono (by decide)) (pa_cons (kv 0) (pa_cons (kv 8) (pa_cons (kv 9) (pa_cons (kv 10) (pa_cons (kv 3) pa_nil))))))))
      (pss_one (ps_ret pe_non))
      pss_nil)
      (pss_one (ps_ret (kv 10))))))))))))))))))))), ?_⟩)
  · obtain ⟨_, _, _, _, _, rfl, _⟩ := h; rfl
  · obtain ⟨d, lm, mo, kd, n, rfl, Z6, L, nm, hn, h⟩ := h
    have Z := Z6.Z
    have use := Z6.use
    have rm := Z6.rm
    have l9 := Z.l9
    have r16 := Z.r16
    have bd := Z.bd
    have lws : d.ws.length ≤ 1017 := by simp [r16]; omega
    generalize a.p_Store_close_up = P0 at *
    walk_at "kk"
    refine ⟨d, rfl, Z, fun l1 H1 hl1 f1 i1 => ?_⟩
    refine ⟨lt_line (by decide), fun l2 hl2 => ?_⟩
    have l12 : l1 ≠ l2 := ne_of_none i1 hl2
    refine ucat_l (by rw [upd_ne l12]; exact i1) upd_same (lt_line (by simp; omega)) fun l3 hl3 => ?_
    have f3 : KW.Fr [] H (upd (upd H1 l2 (HO.lst [V.int kd])) l3 (HO.lst (List.map V.int d.ws ++ [V.int kd]))) := (f1.trans (Fr.new hl2)).trans (Fr.new hl3)
    have i3 : IL (upd (upd H1 l2 (HO.lst [V.int kd])) l3 (HO.lst (List.map V.int d.ws ++ [V.int kd]))) l3 (d.ws ++ [kd]) := by show upd _ _ _ _ = _; rw [upd_same, List.map_append]; rfl
    revert f3 i3
    generalize upd (upd H1 l2 (HO.lst [V.int kd])) l3 (HO.lst (List.map V.int d.ws ++ [V.int kd])) = H3
    intro f3 i3
    clear hl1 f1 i1 hl2 l12 hl3
    refine ⟨d, l3, d.ws ++ [kd], rfl, Z.fr0 f3, by omega, i3, by rw [List.length_append, List.length_singleton]; omega, fun p D H4 hp f4 F4 np tl iff => ?_⟩
    have g4 := f3.trans f4
    have Z4 := Z.fr0 g4
    have np0 : ∀ x ∈ fpF p D, H x = none := fun x hx => f3.none (by simp) (np x hx)
    clear i3 f3 f4 hp np
    have N := Z.S.nd
    have hlv : ∀ m ∈ nsF D, lv d.B m = true := fun m hm => by
      obtain ⟨r, hr⟩ := ((iff m).mp hm).some
      rw [← gB_lv, hr]; rfl
    have nF := F4.nd
    have lnB := nums_len d.B
    have lBf := len_flat d.B
    have lnD : (nsF D).length = D.length := by simp
    have dD : D.length ≤ 500 := by have := cnt_le N nF hlv; omega
    have tot := tot_rows N nF tl
    walk_at "kk"
    refine ⟨d, rfl, Z4, fun ro H5 hro f5 i5 => ?_⟩
    have g5 := g4.trans f5
    have Z5 := Z.fr0 g5
    have nro : H ro = none := g4.none (by simp) hro
    have F5 := F4.fr0 f5
    clear Z4 F4 f5 hro g4
    walk_at "kk"
    intro tc htc
    have g6 : KW.Fr [] H (upd H5 tc (.tup [.int d.al, .int d.co])) := g5.trans (Fr.new htc)
    have t6 : upd H5 tc (.tup [.int d.al, .int d.co]) tc = some (.tup [.int d.al, .int d.co]) := upd_same
    have ntc : H tc = none := g5.none (by simp) htc
    have i6 : IL (upd H5 tc (.tup [.int d.al, .int d.co])) ro d.ws := (Fr.new htc : KW.Fr [] H5 _) _ _ (by simp) i5
    have F6 := F5.fr0 (Fr.new (o := (.tup [.int d.al, .int d.co])) htc)
    revert g6 t6 i6 F6
    generalize upd H5 tc (.tup [.int d.al, .int d.co]) = H6
    intro g6 t6 i6 F6
    clear Z5 F5 htc g5 i5
    refine ⟨d, p, lm, mo, D, n, rfl, Z.fr0 g6, F6, tl, lims0 L g6, by omega, hn, fun H7 f7 => ?_⟩
    have g7 := g6.trans f7
    have Z7 := Z.fr0 g7
    have S7 := Z7.S
    have F7 := F6.fr0 f7
    have t7 := f7 _ _ (by simp) t6
    have i7 : IL H7 ro d.ws := f7 _ _ (by simp) i6
    have L7 := lims0 L g7
    clear g6 t6 i6 F6 f7
    walk_at "kk"
    refine numbers_s S7 (by omega) fun ys l8 hy1 hy2 hl8 => ?_
    have f8 : KW.Fr [] H7 (upd H7 l8 (.lst (ys.map V.int))) := Fr.new hl8
    have i8 : IL (upd H7 l8 (.lst (ys.map V.int))) l8 ys := upd_same
    have S8 := S7.fr0 f8
    have Z8 := Z7.fr0 f8
    revert f8 i8 S8 Z8
    generalize upd H7 l8 (.lst (ys.map V.int)) = H8
    intro f8 i8 S8 Z8
    have F8 := F7.fr0 f8
    have ly := hy1.length_eq
    walk_at "kk"
    refine ⟨fun σ H' => ∃ (l8 : Addr) (ns : List Int) (v10 : Option V), σ = [some (.ref d.sp), some (.ref lm), some (.int kd), some (.int (n : Nat)), some (.ref p), some (.ref ro), some (.ref tc), some (.int (colN d (nsF D) n : Nat)), some (.ref l8), some (.int ((flat (bN d (nsF D) n)).length : Nat)), v10, none, none] ∧ KW.Fr [] H7 H' ∧ H7 l8 = none ∧ IL H' l8 ns ∧ ns.Nodup ∧ ns.length ≤ 100000 ∧ (∀ m, lv (bN d (nsF D) n) m = true ↔ m ∈ ns), ?_, ?_⟩
    · walk_at "kk"
      split
      · rename_i c
        have bK : bN d (nsF D) n = kept d.B (nsF D) := by unfold bN; rw [if_neg (by omega)]
        walk_at "kk"
        refine ⟨p, .dK (kvF D), F8.dc, trivial, fun od => ?_⟩
        refine ⟨p, od, rfl, .inl ⟨kvF D, upd_same, ?_⟩⟩
        refine lc_pk (fun n => some (.int n)) upd_same (kvF_keys D) (lt_line (by rw [List.length_map]; omega)) ?_ ?_
        · intro i x D0 acc Cy Cn hx hD h1 h2
          walk_at "kk"
          exact h1 _ rfl
        · intro t ht
          have e : List.filterMap (fun n => some (V.int n)) (nsF D) = (nsF D).map V.int := by rw [← List.filterMap_eq_map]; rfl
          rw [e]
          walk_at "kk"
          have nt : H8 t = none := ne_un ht
          have pt : p ≠ t := Ne.symm (ne_ud ht)
          refine ⟨by rw [upd_ne pt]; exact upd_same, ?_⟩
          have f9 : KW.Fr [] H8 (upd (upd (upd H8 p (.frz od (.dK (kvF D)))) t (.lst ((nsF D).map V.int))) p (.dK (kvF D))) := Fr.unl F8.dc (Fr.lock F8.dc (Fr.new ht))
          have i9 : upd (upd (upd H8 p (.frz od (.dK (kvF D)))) t (.lst ((nsF D).map V.int))) p (.dK (kvF D)) t = some (.lst ((nsF D).map V.int)) := by rw [upd_ne (Ne.symm pt), upd_same]
          revert f9 i9
          generalize upd (upd (upd H8 p (.frz od (.dK (kvF D)))) t (.lst ((nsF D).map V.int))) p (.dK (kvF D)) = H9
          intro f9 i9
          refine ⟨p, D, rfl, F8.fr0 f9, by omega, fun H10 f10 => ?_⟩
          walk_at "kk"
          refine ⟨?_, ⟨_, rfl⟩, f8.trans (f9.trans f10), f8.none (by simp) nt, nsF D, f10 _ _ (by simp) i9, nF, by omega, fun m => ?_⟩
          · rw [bK, tot]
          · rw [bK, lv_kept, Bool.and_eq_true, decide_eq_true_eq]
            exact ⟨fun z => z.2, fun z => ⟨hlv m z, z⟩⟩
      · rename_i c
        have bK : bN d (nsF D) n = d.B := by unfold bN; rw [if_pos (by omega)]
        walk_at "kk"
        refine ⟨?_, f8, hl8, ys, i8, hy1.symm.nodup (nums_nodup N), by omega, fun m => ?_⟩
        · rw [bK]
        · rw [bK, hy1.mem_iff, mem_nums]
    · rintro σ H9 ⟨l9, ns, v10, rfl, f9, n9, i9, nd9, len9, iff9⟩
      clear f8 i8 S8 Z8 F8 hy1 hy2 ly hl8 S7
      have L9 := lims0 L7 f9
      have hm9 := L9.hd
      have F9 := F7.fr0 f9
      have Z9 := Z7.fr0 f9
      have t9 := f9 _ _ (by simp) t7
      have r9 : IL H9 ro d.ws := f9 _ _ (by simp) i7
      have g9 := g7.trans f9
      have no9 : H l9 = none := g7.none (by simp) n9
      clear Z7 F7 t7 i7 L7 f9 g7 n9
      obtain ⟨TT, hTT⟩ : ∃ TT : Int, TT = ((flat (kept d.B (nsF D))).length : Int) := ⟨_, rfl⟩
      walk_at "kw"
      refine ⟨fun σ H' => ∃ (du : Str), σ = [some (.ref d.sp), some (.ref lm), some (.int kd), some (.int (n : Nat)), some (.ref p), some (.ref ro), some (.ref tc), some (.int (colN d (nsF D) n : Nat)), some (.ref l9), some (.int ((flat (bN d (nsF D) n)).length : Nat)), v10, some (.str du), none] ∧ KW.Fr [] H9 H' ∧ ((du = S [109, 97, 100, 101] ∧ TT + 3 + n ≤ d.rm ∧ ((nsF D).length : Int) < d.en) ∨ (du = Str.ofString "room" ∧ TT + 3 + n > d.rm) ∨ (du = S [110, 117, 109, 98, 101, 114] ∧ TT + 3 + n ≤ d.rm ∧ ((nsF D).length : Int) ≥ d.en)), ?_, ?_⟩
      · walk_at "kk"
        refine ⟨p, D, rfl, F9, by omega, fun H10 f10 => ?_⟩
        have hm10 := f10 _ _ (by simp) hm9
        have dc10 := (F9.fr0 f10).dc
        rw [← tot, ← hTT]
        walk_at "kk"
        split
        · rename_i c
          exact ⟨f10, by omega⟩
        · rename_i c
          rw [uLenDk_e]
          refine ⟨_, dc10, ?_⟩
          rw [kvF_len]
          walk_at "kk"
          split
          · rename_i c2
            exact ⟨f10, by omega, by omega⟩
          · rename_i c2
            exact ⟨f10, by omega, by omega⟩
      · rintro σ H10 ⟨du, rfl, f10, hdu⟩
        have g10 := g9.trans f10
        walk_at "kk"
        refine called_s (TT := TT) (Z6.fr0 g10) hn nF iff hTT fun t du2 v wd' pl' B' H11 hc Z11 mv ht => ?_
        have ed : du2 = du := by
          rcases hdu with ⟨rfl, q1, q2⟩ | ⟨rfl, q1⟩ | ⟨rfl, q1, q2⟩ <;> rcases hc with ⟨rfl, c1, c2, _⟩ | ⟨rfl, c1, _⟩ | ⟨rfl, c1, c2, _⟩ <;> first | rfl | omega
        subst ed
        clear hdu
        have ex : ∀ x, H x = none → x ∉ [d.sp, d.st, d.wd, d.pl, P0] := fun x hx => none_ne Z Z6.T hx
        obtain ⟨L11, _⟩ := lims_mov (Z.fr0 g10) (Z6.T.fr0 g10) (lims0 L g10) nm mv
        have hm11 := L11.hd
        have F11 : Fd H11 p D := (F9.fr0 f10).fr mv.1 fun x hx => ex x (np0 x hx)
        have r11 : IL H11 ro d.ws := mv.1 _ _ (ex _ nro) (f10 _ _ (by simp) r9)
        have t11 := mv.1 _ _ (ex _ ntc) (f10 _ _ (by simp) t9)
        have i11 : IL H11 l9 ns := mv.1 _ _ (ex _ no9) (f10 _ _ (by simp) i9)
        have lvb : ∀ m ∈ nsF D, lv (bN d (nsF D) n) m = true := by
          unfold bN; split
          · exact hlv
          · intro m hm; rw [lv_kept, hlv m hm, decide_eq_true hm]; rfl
        have gbN : ∀ m ∈ nsF D, gB (bN d (nsF D) n) m = gB d.B m := by
          unfold bN; split
          · exact fun _ _ => rfl
          · intro m hm; rw [gB_kept N, if_pos hm]
        have NbN : Nd (bN d (nsF D) n) := by
          unfold bN; split
          · exact N
          · exact N.kept _
        have tl11 : Tells B' D := fun r hr => by
          have hm : r.n ∈ nsF D := List.mem_map.mpr ⟨r, hr, rfl⟩
          rcases hc with ⟨_, _, _, hf, _, rfl⟩ | ⟨_, _, _, rfl⟩ | ⟨_, _, _, _, rfl⟩
          · rw [gB_app NbN rfl hf.no, if_neg (fun z => by have := lvb _ hm; rw [z, hf.no] at this; cases this), gbN _ hm]; exact tl r hr
          · rw [gbN _ hm]; exact tl r hr
          · rw [gbN _ hm]; exact tl r hr
        have nG : ∀ x o, H x = none → H10 x = some o → x ∉ fpG (newD d (nsF D) n wd' pl' B') := fun x o p0 h1 z => by
          rcases mv.2 x z with q | q
          · obtain ⟨o, ho⟩ := Z.there x q; rw [p0] at ho; cases ho
          · rw [q] at h1; cases h1
        have npG := nG p _ (np0 p (by simp)) (F9.fr0 f10).dc
        have nl9 := nG l9 _ no9 (f10 _ _ (by simp) i9)
        have hroom : du2 = Str.ofString "room" → v = 3 + n := fun c => by
          rcases hc with ⟨e, _⟩ | ⟨_, _, e, _⟩ | ⟨e, _⟩
          · rw [e] at c; exact absurd c (by decide)
          · exact e
          · rw [e] at c; exact absurd c (by decide)
        have hnumb : du2 = S [110, 117, 109, 98, 101, 114] → v = d.en := fun c => by
          rcases hc with ⟨e, _⟩ | ⟨e, _⟩ | ⟨_, _, _, e, _⟩
          · rw [e] at c; exact absurd c (by decide)
          · rw [e] at c; exact absurd c (by decide)
          · exact e
        have hmade : du2 = S [109, 97, 100, 101] → Free (bN d (nsF D) n) v ∧ v < d.en ∧ B' = bN d (nsF D) n ++ [⟨v, kd, List.replicate n 0, true⟩] := fun c => by
          rcases hc with ⟨_, _, _, e⟩ | ⟨e, _⟩ | ⟨e, _⟩
          · exact e
          · rw [e] at c; exact absurd c (by decide)
          · rw [e] at c; exact absurd c (by decide)
        have hnot : du2 ≠ S [109, 97, 100, 101] → B' = bN d (nsF D) n ∧ (TT + 3 + n > d.rm ∨ ((nsF D).length : Int) ≥ d.en) := fun c => by
          rcases hc with ⟨e, _⟩ | ⟨_, q, _, e⟩ | ⟨_, _, q, _, e⟩
          · exact absurd e c
          · exact ⟨e, .inl q⟩
          · exact ⟨e, .inr q⟩
        clear F9 f10 r9 t9 i9 hm9 L9
        refine ⟨fun σ H' => σ = [some (.ref d.sp), some (.ref lm), some (.int kd), some (.int (n : Nat)), some (.ref p), some (.ref ro), some (.ref tc), some (.int (colN d (nsF D) n : Nat)), some (.ref l9), some (.int ((flat (bN d (nsF D) n)).length : Nat)), v10, some (.str du2), some (.ref t)] ∧ KW.Fr [] H11 H', ?_, ?_⟩
        · walk_at "kk"
          split
          · rename_i c
            walk_at "kk"
            refine is_s ?_
            simp only [hroom c, decide_true]
            walk_at "kk"
            exact Fr.refl _
          · exact Fr.refl _
        rintro σ H12 ⟨rfl, f12⟩
        have hm12 := f12 _ _ (by simp) hm11
        have ht12 := f12 _ _ (by simp) ht
        refine ⟨fun σ H' => σ = [some (.ref d.sp), some (.ref lm), some (.int kd), some (.int (n : Nat)), some (.ref p), some (.ref ro), some (.ref tc), some (.int (colN d (nsF D) n : Nat)), some (.ref l9), some (.int ((flat (bN d (nsF D) n)).length : Nat)), v10, some (.str du2), some (.ref t)] ∧ KW.Fr [] H11 H', ?_, ?_⟩
        · walk_at "kk"
          split
          · rename_i c
            walk_at "kk"
            refine is_s ?_
            simp only [hnumb c, decide_true]
            walk_at "kk"
            exact f12
          · exact f12
        clear hm12 ht12
        rintro σ H13 ⟨rfl, f13⟩
        have hm13 := f13 _ _ (by simp) hm11
        have ht13 := f13 _ _ (by simp) ht
        refine ⟨fun σ H' => σ = [some (.ref d.sp), some (.ref lm), some (.int kd), some (.int (n : Nat)), some (.ref p), some (.ref ro), some (.ref tc), some (.int (colN d (nsF D) n : Nat)), some (.ref l9), some (.int ((flat (bN d (nsF D) n)).length : Nat)), v10, some (.str du2), some (.ref t)] ∧ KW.Fr [] H11 H', ?_, ?_⟩
        · walk_at "kk"
          split
          · rename_i c
            obtain ⟨hf, hl, eB⟩ := hmade c
            walk_at "kk"
            refine ⟨newD d (nsF D) n wd' pl' B', p, D, v, kd, n, rfl, Z11.Z.fr0 f13, F11.fr0 f13, hf.pos, (fun z => by have := lvb _ z; rw [hf.no] at this; cases this), ?_, hn, fun H' f' => ?_⟩
            · show gB B' v = _
              rw [eB, gB_app NbN rfl hf.no, if_pos rfl]
            have ht' := f' _ _ (by simp) ht13
            have hm' := f' _ _ (by simp) hm13
            walk_at "kk"
            rw [if_neg (by omega)]
            exact f13.trans f'
          · exact f13
        clear hm13 ht13
        rintro σ H14 ⟨rfl, f14⟩
        have ht14 := f14 _ _ (by simp) ht
        walk_at "kw"
        refine ⟨fun σ H' => ∃ r : Int, σ = [some (.ref d.sp), some (.ref lm), some (.int kd), some (.int (n : Nat)), some (.ref p), some (.ref ro), some (.ref tc), some (.int (colN d (nsF D) n : Nat)), some (.ref l9), some (.int ((flat (bN d (nsF D) n)).length : Nat)), some (.int r), some (.str du2), some (.ref t)] ∧ KW.Fr [] H11 H' ∧ (0 ≤ r → r ∉ ns ∧ (∀ m, lv B' m = true ↔ m ∈ ns ∨ m = r) ∧ ((flat B').length : Int) = ((flat (bN d (nsF D) n)).length : Nat) + 3 + n) ∧ (r < 0 → (∀ m, lv B' m = true ↔ m ∈ ns) ∧ ((flat B').length : Int) = ((flat (bN d (nsF D) n)).length : Nat)) ∧ (d.B = [] → 3 + (n : Int) ≤ d.rm → 0 < d.en → r = 0), ?_, ?_⟩
        · walk_at "kk"
          split
          · rename_i c
            obtain ⟨hf, hl, eB⟩ := hmade c
            walk_at "kk"
            refine ⟨fun _ => ⟨fun z => ?_, fun m => ?_, ?_⟩, fun z => absurd hf.pos (by omega), fun e0 _ _ => ?_⟩
            · have := (iff9 v).mpr z; rw [hf.no] at this; cases this
            · rw [eB, lv_app, Bool.or_eq_true, iff9]
              refine or_congr Iff.rfl ?_
              simp [lv]
              exact eq_comm
            · rw [eB, flat_app, List.length_append]
              have e1 : (flat [(⟨v, kd, List.replicate n 0, true⟩ : Blk)]).length = n + 3 := by rw [flat_cons]; simp [flat, Blk.ws_len]
              omega
            · have eb : bN d (nsF D) n = [] := by unfold bN; rw [e0]; split <;> rfl
              rw [eb] at hf
              exact hf.uniq ⟨by omega, rfl, fun i _ _ => by omega⟩
          · rename_i c
            obtain ⟨eB, hq⟩ := hnot c
            refine ⟨f14, fun z => z.elim, fun _ => ⟨fun m => by rw [eB, iff9], by rw [eB]⟩, fun e0 q1 q2 => ?_⟩
            have e1 : nsF D = [] := List.eq_nil_iff_forall_not_mem.mpr fun m hm => by have := hlv m hm; rw [e0] at this; cases this
            have e2 : TT = 0 := by rw [hTT, e0]; rfl
            rw [e1, e2] at hq
            simp at hq
            omega
        rintro σ H15 ⟨r, rfl, f15, hr1, hr2, hr3⟩
        have Z15 := Z11.Z.fr0 f15
        have t15 := f15 _ _ (by simp) t11
        have r15 : IL H15 ro d.ws := f15 _ _ (by simp) r11
        walk_at "kk"
        refine is_s ?_
        simp only [decide_true]
        walk_at "kk"
        refine is_s ?_
        simp only [decide_true]
        walk_at "kk"
        refine ⟨newD d (nsF D) n wd' pl' B', rfl, Z15, fun l H16 hl f16 i16 => ?_⟩
        have Z16 := Z15.fr0 f16
        have F16 := F11.fr0 (f15.trans f16)
        refine same_s i16 (f16 _ _ (by simp) r15) (by show d.ws.length ≤ _; omega) ?_
        walk_at "kk"
        refine ⟨newD d (nsF D) n wd' pl' B', p, D, rfl, Z16, F16, tl11, npG, fun H17 f17 => ?_⟩
        walk_at "kk"
        refine ⟨newD d (nsF D) n wd' pl' B', l9, ns, _, r, n, rfl, Z16.fr0 f17, (f15.trans (f16.trans f17)) _ _ (by simp) i11, nl9, nd9, len9, hr1, hr2, fun H18 f18 => ?_⟩
        walk_at "kk"
        have fz := f15.trans (f16.trans (f17.trans f18))
        exact h r (colN d (nsF D) n) wd' pl' B' _ (Z11.fr0 fz) ⟨(g10.mono (by simp)).trans (mv.1.trans (fz.mono (by simp))), fun x hx => (mv.2 x hx).imp id fun q => g10.none (by simp) q⟩ hr3
end
end K06

set_option Elab.async false
set_option linter.all false
set_option maxRecDepth 100000
set_option maxHeartbeats 4000000
/-! SpB: a store as it is built, row by row -/
namespace ST
open PySem PySem.Spec PyProof.Rows L2 KW LamX
theorem Fr.frs {l : List Addr} {H H1 H2 : Hp} (f : KW.Fr [] H H1) (g : KW.Fr l H1 H2) (h : ∀ x ∈ l, H x = none) : KW.Fr [] H H2 := fun b o n e =>
  g b o (fun m => by rw [h b m] at e; cases e) (f b o (by simp) e)
structure Bs (Ls : List (Addr × List Int)) (B : List Blk) (m i at_ : Nat) : Prop where
  len : B.length = m
  le : m ≤ Ls.length
  e : ∀ (j : Nat) (e : Blk) (x : Addr × List Int), B[j]? = some e → Ls[j]? = some x → e.n = (j : Int) ∧ e.al = true ∧ x.2.head? = some e.k ∧ e.s.length + 1 = x.2.length ∧ (j < i → e.s = x.2.tail) ∧ (j = i → ∀ t, t < at_ → e.s[t]? = x.2[t + 1]?)
theorem Bs.ex {Ls : List (Addr × List Int)} {B : List Blk} {m i a j : Nat} {e : Blk} (s : Bs Ls B m i a) (h : B[j]? = some e) : ∃ x, Ls[j]? = some x := ⟨_, List.getElem?_eq_getElem (by have := (List.getElem?_eq_some_iff.mp h).1; have := s.len; have := s.le; omega)⟩
theorem Bs.lv {Ls : List (Addr × List Int)} {B : List Blk} {m i a : Nat} (s : Bs Ls B m i a) (n : Int) : lv B n = decide (0 ≤ n ∧ n < m) := by
  apply Bool.eq_iff_iff.mpr
  rw [decide_eq_true_eq]
  constructor
  · intro h
    obtain ⟨j, e, h2, h3, h4⟩ := lv_iff.mp h
    obtain ⟨x, hx⟩ := s.ex h2
    have := (s.e j e x h2 hx).1
    have := (List.getElem?_eq_some_iff.mp h2).1
    have := s.len
    omega
  · rintro ⟨h1, h2⟩
    have := s.len
    obtain ⟨e, he⟩ : ∃ e, B[n.toNat]? = some e := ⟨_, List.getElem?_eq_getElem (by omega)⟩
    obtain ⟨x, hx⟩ := s.ex he
    have q := s.e _ e x he hx
    have e1 : e.n = n := by rw [q.1]; omega
    rw [← e1]; exact lv_at he q.2.1
theorem Bs.free {Ls : List (Addr × List Int)} {B : List Blk} {m i a : Nat} (s : Bs Ls B m i a) : Free B (m : Int) :=
  ⟨by omega, by rw [s.lv]; simp, fun g h1 h2 => by rw [s.lv]; simp; exact ⟨h1, h2⟩⟩
theorem Bs.nil (Ls : List (Addr × List Int)) : Bs Ls [] 0 0 0 := ⟨rfl, Nat.zero_le _, fun j e x h => by simp at h⟩
theorem Bs.app {Ls : List (Addr × List Int)} {B : List Blk} {m : Nat} {p : Addr} {r : List Int} {k : Int} {n : Nat} (s : Bs Ls B m 0 0) (h : Ls[m]? = some (p, r)) (hk : r.head? = some k) (hn : n + 1 = r.length) : Bs Ls (B ++ [⟨m, k, List.replicate n 0, true⟩]) (m + 1) 0 0 := by
  refine ⟨by rw [List.length_append, s.len]; rfl, (List.getElem?_eq_some_iff.mp h).1, fun j e x h1 h2 => ?_⟩
  rw [List.getElem?_append] at h1
  split at h1
  · exact s.e j e x h1 h2
  · have := List.mem_of_getElem? h1
    simp at this
    have lj := (List.getElem?_eq_some_iff.mp h1).1
    have := s.len
    simp at lj
    have ej : j = m := by omega
    subst ej
    rw [h] at h2
    cases h2
    subst e
    exact ⟨rfl, rfl, hk, by simpa using hn, fun z => by omega, fun _ t z => by omega⟩
theorem Bs.put {Ls : List (Addr × List Int)} {B : List Blk} {m i a : Nat} {p : Addr} {r : List Int} {e : Blk} {z : Int} (s : Bs Ls B m i a) (h : Ls[i]? = some (p, r)) (he : B[i]? = some e) (hz : r[a + 1]? = some z) : Bs Ls (B.set i { e with s := e.s.set a z }) m i (a + 1) := by
  refine ⟨by rw [List.length_set, s.len], s.le, fun j u x h1 h2 => ?_⟩
  rw [get_set he] at h1
  split at h1
  · rename_i c; subst c; cases h1
    rw [h] at h2; cases h2
    obtain ⟨q1, q2, q3, q4, q5, q6⟩ := s.e _ e _ he h
    refine ⟨q1, q2, q3, by simpa using q4, fun z => by omega, fun _ t ht => ?_⟩
    dsimp only
    have la := (List.getElem?_eq_some_iff.mp hz).1
    by_cases c : t = a
    · subst c
      dsimp only at q4
      rw [List.getElem?_set_self (by omega), hz]
    · rw [List.getElem?_set_ne (Ne.symm c)]
      exact q6 rfl t (by omega)
  · rename_i c
    obtain ⟨q1, q2, q3, q4, q5, q6⟩ := s.e _ u _ h1 h2
    exact ⟨q1, q2, q3, q4, q5, fun z => absurd z c⟩
theorem Bs.next {Ls : List (Addr × List Int)} {B : List Blk} {m i a : Nat} {p : Addr} {r : List Int} (s : Bs Ls B m i a) (h : Ls[i]? = some (p, r)) (ha : a + 1 = r.length) : Bs Ls B m (i + 1) 0 := by
  refine ⟨s.len, s.le, fun j u x h1 h2 => ?_⟩
  obtain ⟨q1, q2, q3, q4, q5, q6⟩ := s.e _ u _ h1 h2
  refine ⟨q1, q2, q3, q4, fun z => ?_, fun _ t z => by omega⟩
  by_cases c : j = i
  · subst c
    rw [h] at h2; cases h2
    dsimp only at q4 ⊢
    apply List.ext_getElem?
    intro t
    rw [List.getElem?_tail]
    by_cases d : t < a
    · exact q6 rfl t d
    · rw [List.getElem?_eq_none (by omega), List.getElem?_eq_none (by omega)]
  · exact q5 (by omega)
theorem Bs.flat {Ls : List (Addr × List Int)} {B : List Blk} {m i a M : Nat} (s : Bs Ls B m i a) (h : ∀ x ∈ Ls, x.2.length ≤ M) : (ST.flat B).length ≤ (M + 2) * m := by
  have key : ∀ C : List Blk, (∀ e ∈ C, e.s.length + 1 ≤ M) → (ST.flat C).length ≤ (M + 2) * C.length := by
    intro C
    induction C with
    | nil => intro _; simp [flat_nil]
    | cons e C ih =>
      intro hc
      rw [flat_cons, List.length_append, Blk.ws_len, List.length_cons]
      have := ih fun x hx => hc x (by simp [hx])
      have := hc e (by simp)
      have : (M + 2) * (C.length + 1) = (M + 2) * C.length + (M + 2) := Nat.mul_succ _ _
      omega
  rw [← s.len]
  refine key B fun e he => ?_
  obtain ⟨j, hj⟩ := List.getElem?_of_mem he
  obtain ⟨x, hx⟩ := s.ex hj
  have := (s.e j e x hj hx).2.2.2.1
  have := h x (List.mem_of_getElem? hx)
  omega
theorem Bs.gr {Ls : List (Addr × List Int)} {B : List Blk} {a : Nat} (s : Bs Ls B Ls.length Ls.length a) (N : Nd B) : gB B = gL Ls := by
  funext n
  refine opt_ext fun r => ?_
  rw [gB_some N]
  unfold gL
  have hl := s.len
  constructor
  · rintro ⟨i, e, h1, h2, rfl, rfl⟩
    obtain ⟨x, hx⟩ := s.ex h1
    obtain ⟨q1, q2, q3, q4, q5, q6⟩ := s.e _ e _ h1 hx
    rw [q1, if_pos (by omega)]
    rw [Int.toNat_natCast, hx, q5 (List.getElem?_eq_some_iff.mp hx).1]
    cases hr : x.2 with
    | nil => rw [hr] at q3; cases q3
    | cons b bs => rw [hr] at q3; simp at q3; simp [q3, hr]
  · intro h
    split at h
    · rename_i n0
      obtain ⟨x, h1, h2⟩ := Option.map_eq_some_iff.mp h
      have lx := (List.getElem?_eq_some_iff.mp h1).1
      obtain ⟨e, he⟩ : ∃ e, B[n.toNat]? = some e := ⟨_, List.getElem?_eq_getElem (by omega)⟩
      obtain ⟨q1, q2, q3, q4, q5, q6⟩ := s.e _ e _ he h1
      refine ⟨_, e, he, q2, by rw [q1]; omega, ?_⟩
      rw [q5 lx, ← h2]
      cases hr : x.2 with
      | nil => rw [hr] at q3; cases q3
      | cons b bs => rw [hr] at q3; simp at q3; simp [q3]
    · cases h
/-- roots and held words as they are set -/
structure Ws (ws R L : List Int) (k : Nat) : Prop where
  r : R.length = 16
  l : L = (ws.take k).drop 16
  e : ∀ t, t < 16 → t < k → R[t]? = ws[t]?
theorem Ws.init (ws : List Int) : Ws ws (List.replicate 16 0) [] 0 := ⟨by simp, by simp, fun t _ h => by omega⟩
theorem Ws.root {ws R L : List Int} {k : Nat} {z : Int} (s : Ws ws R L k) (h : ws[k]? = some z) (c : k < 16) : Ws ws (R.set k z) L (k + 1) := by
  refine ⟨by rw [List.length_set, s.r], ?_, fun t h1 h2 => ?_⟩
  · rw [s.l, List.drop_eq_nil_of_le (by rw [List.length_take]; omega), List.drop_eq_nil_of_le (by rw [List.length_take]; omega)]
  · by_cases e : t = k
    · subst e; rw [List.getElem?_set_self (by rw [s.r]; omega), h]
    · rw [List.getElem?_set_ne (Ne.symm e)]; exact s.e t h1 (by omega)
theorem Ws.hold {ws R L : List Int} {k : Nat} {z : Int} (s : Ws ws R L k) (h : ws[k]? = some z) (c : ¬ k < 16) : Ws ws R (L ++ [z]) (k + 1) := by
  refine ⟨s.r, ?_, fun t h1 h2 => s.e t h1 (by omega)⟩
  have lk := (List.getElem?_eq_some_iff.mp h).1
  rw [take_s h, List.drop_append_of_le_length (by rw [List.length_take]; omega), s.l]
theorem Ws.done {ws R L : List Int} (s : Ws ws R L ws.length) (h : 16 ≤ ws.length) : R ++ L = ws := by
  have e : R = ws.take 16 := by
    apply List.ext_getElem?
    intro t
    rw [List.getElem?_take]
    split
    · rename_i c; exact s.e t c (by omega)
    · exact List.getElem?_eq_none (by rw [s.r]; omega)
  rw [e, s.l, List.take_length, List.take_append_drop]
end ST

set_option Elab.async false
set_option linter.all false
set_option maxRecDepth 100000
set_option maxHeartbeats 4000000
/-! SpF: a place emptied, what goes and what stays -/
namespace ST
open PySem PySem.Spec PyProof.Rows L2 KW LamX
theorem flat_setlen {B : List Blk} {i : Nat} {e f : Blk} (h : B[i]? = some e) (hs : f.s.length = e.s.length) : (flat (B.set i f)).length = (flat B).length := by
  rw [flat_set h, flat_at h]
  simp only [List.length_append, Blk.ws_len, hs]
theorem gB_kind {B : List Blk} {i : Nat} {e : Blk} (N : Nd B) (h : B[i]? = some e) (ha : e.al = true) : gB (B.set i { e with k := 0 }) = (Plc.kind e.n).g (gB B) := by
  funext n
  rw [gB_set (f := { e with k := 0 }) N h ha rfl rfl]
  unfold Plc.g
  by_cases c : n = e.n
  · subst c; rw [if_pos rfl, gB_at N h ha]; simp [Plc.row]
  · rw [if_neg c]
    cases gB B n with
    | none => rfl
    | some r => simp [Plc.row, c]
theorem gB_slot {B : List Blk} {i j : Nat} {e : Blk} (N : Nd B) (h : B[i]? = some e) (ha : e.al = true) : gB (B.set i { e with s := e.s.set j 0 }) = (Plc.slot e.n j).g (gB B) := by
  funext n
  rw [gB_set (f := { e with s := e.s.set j 0 }) N h ha rfl rfl]
  unfold Plc.g
  by_cases c : n = e.n
  · subst c; rw [if_pos rfl, gB_at N h ha]; simp [Plc.row, Nat.add_comm 1 j]
  · rw [if_neg c]
    cases gB B n with
    | none => rfl
    | some r => simp [Plc.row, c]
theorem g_root (k : Nat) (g : Gr) : (Plc.root k).g g = g := by
  funext n
  unfold Plc.g
  cases g n <;> rfl
theorem cnt_all {A B C N : List Int} (nN : N.Nodup) (nA : A.Nodup) (nB : B.Nodup) (nC : C.Nodup) (h : ∀ n, n ∈ N ↔ n ∈ A ∨ n ∈ B ∨ n ∈ C) (d1 : ∀ n, n ∈ A → n ∉ B ∧ n ∉ C) (d2 : ∀ n, n ∈ B → n ∉ C) : (N.length : Int) - A.length = (B.length : Int) + C.length := by
  have nBC : (B ++ C).Nodup := by
    rw [List.nodup_append]
    exact ⟨nB, nC, fun a ha b hb z => by subst z; exact d2 a ha hb⟩
  have nABC : (A ++ (B ++ C)).Nodup := by
    rw [List.nodup_append]
    exact ⟨nA, nBC, fun a ha b hb z => by
      subst z
      rcases List.mem_append.mp hb with q | q
      · exact (d1 a ha).1 q
      · exact (d1 a ha).2 q⟩
  have := ((List.perm_ext_iff_of_nodup nN nABC).mpr fun n => by rw [h, List.mem_append, List.mem_append]).length_eq
  rw [List.length_append, List.length_append] at this
  omega
/-- rows that stay -/
theorem gR_filter {D : List RW} (nd : (nsR D).Nodup) (q : Int → Bool) (n : Int) : gR (D.filter fun d => q d.n) n = if q n = true then gR D n else none := by
  have nd2 : (nsR (D.filter fun d => q d.n)).Nodup := nd.sublist (List.Sublist.map _ List.filter_sublist)
  refine opt_ext fun r => ?_
  rw [gR_iff nd2]
  constructor
  · rintro ⟨d, h1, h2, h3⟩
    obtain ⟨h4, h5⟩ := List.mem_filter.mp h1
    subst h2; subst h3
    rw [if_pos h5]; exact gR_at nd h4
  · intro h
    split at h
    · rename_i c
      obtain ⟨d, h1, h2, h3⟩ := gR_ex h
      exact ⟨d, List.mem_filter.mpr ⟨h1, by rw [h2]; exact c⟩, h2, h3⟩
    · cases h
def SameP (d2 d : Spd) : Prop := fpP d2 = fpP d
section
variable {CS C : Addr} {H : Hp} {d : Spd}
theorem Spc.nt {p : Addr} {xs : List V} (s : Spc CS C H d) (h : H p = some (.tup xs)) : p ∉ fpP d := fun m => by
  obtain ⟨⟨dx, ob⟩, ⟨⟨dx2, lo, ob2, _⟩, wo, ⟨kv, pa, _⟩, _⟩, pe, rt, hl, _⟩ := s
  simp only [fpP, List.mem_cons, List.not_mem_nil, or_false] at m
  unfold IL at rt hl
  rcases m with rfl | rfl | rfl | rfl | rfl | rfl | rfl
  · rw [h] at ob; cases ob
  · rw [h] at ob2; cases ob2
  · rw [h] at wo; cases wo
  · rw [h] at pa; cases pa
  · rw [h] at pe; cases pe
  · rw [h] at rt; cases rt
  · rw [h] at hl; cases hl
theorem LW.np {p rw wo : Addr} {q : Str} {D : List RW} {ws : List Int} (Y : LW H rw wo D ws) (t : TabS H p q) : ∀ x ∈ wo :: fpW rw D, x ≠ p := fun x hx => by
  rcases List.mem_cons.mp hx with rfl | hx
  · exact t.ne Y.W (by simp)
  rcases List.mem_cons.mp hx with rfl | hx
  · exact t.ne Y.R.dc (by simp)
  obtain ⟨e, he, rfl⟩ := List.mem_map.mp hx
  exact t.ne (Y.R.rs e he) (by simp)
end
end ST

set_option Elab.async false
set_option linter.all false
set_option maxRecDepth 100000
set_option maxHeartbeats 4000000
namespace K06
open PySem PySem.Spec PyProof.Rows L2 KW ST LamX
local macro_rules | `(tactic| walk_at "kw") => `(tactic| simp only [tSeq, tNext, tIfS, tTest, tAnd, tOr, tNot, tAndV, tOrV, tNotV, tIf, tChain, tOp, tUn, tC, tAsg, gName, gSub, gCons, gNil, tRet, tRetN, tDrop, tCons, tNil, tCB, tAug, tSl, tPart, tNoPart, tLst, tTup, tBM, tBM0, uTest, uFor, iRng1, iRng2, iList, uCall, List.map_cons, List.map_nil, List.length_cons, List.length_nil, List.cons_append, List.nil_append, List.replicate, Nat.zero_add, Nat.reduceAdd, Nat.reduceSub, List.getElem?_cons_zero, List.getElem?_cons_succ, List.set_cons_zero, List.set_cons_succ, V.bl.injEq, V.int.injEq, V.str.injEq, V.ref.injEq, V.ty.injEq, List.cons.injEq, and_true, true_and, exists_eq_left', exists_eq_right, exists_eq_left, exists_and_left, exists_and_right, decide_eq_true_eq, Bool.not_eq_true', decide_eq_false_iff_not, Bool.false_eq_true, if_true, if_false, ite_true, ite_false, Bool.not_true, Bool.not_false, reduceCtorEq, decide_true, decide_false, Bool.not_not, isK_int_int, isK_int_bool, isK_int_str, isK_int_list, isK_int_tuple, isK_bool_int, isK_bool_bool, isK_bool_str, isK_str_str, isK_str_int, isK_str_bool, isK_str_tuple, isK_str_list, isK_list_list, isK_list_tuple, isK_tuple_tuple, isK_tuple_list, isOk_int_int, isOk_int_bool, isOk_int_str, isOk_int_list, isOk_int_tuple, isOk_bool_int, isOk_bool_bool, isOk_bool_str, isOk_str_str, isOk_str_int, isOk_str_bool, isOk_str_tuple, isOk_str_list, isOk_list_list, isOk_list_tuple, isOk_tuple_tuple, isOk_tuple_list, isK_dict_dict, isOk_dict_dict, isK_none_int, isK_none_bool, isOk_none_int, isOk_none_bool, tyV, S_inj, S_cat, L2.start, Nat.reduceSub, List.replicate_succ, List.replicate_zero, and_assoc, List.append_nil, Nat.reduceEqDiff, Option.some.injEq, Int.natCast_inj, upd_upd, Int.reducePow, Int.reduceToNat, Int.reduceMul, Int.reduceAdd, Int.reduceSub, Int.reduceLT, Int.reduceLE, Int.reduceNeg, Int.reduceDiv, Int.reduceMod, Nat.reducePow, Nat.reduceMul, S_len, List.length_append, List.length_map, List.length_range, not_true_eq_false, not_false_eq_true, ne_eq, uAdd_e1, uAdd_e2, uSub_e1, uMod_e1, uDiv_e1, uPow_e1, uShl_e1, uNeg_e1, uIAdd_e1, uIAdd_e2, uIAdd_e3, uISub_e1, uLt_e1, uLt_e2, uLe_e1, uGt_e1, uGe_e1, uEq_e1, uEq_e2, uEq_e3, uEq_e4, uEq_e5, uEq_e6, uEq_e7, uEq_e8, uEq_e9, uEq_e10, uEq_e11, uNe_e1, uNe_e2, uNe_e3, uNe_e4, uNe_e5, uNe_e6, uNe_e7, uNe_e8, uNe_e9, uNe_e10, uNe_e11, uIs_e1, uIs_e2, uIs_e3, uIs_e4, uIs_e5, uIs_e6, uIs_e7, uNotIs_e1, uNotIs_e2, uNotIs_e3, uNotIs_e4, uNotIs_e5, uNotIs_e6, uIn_e1, uIn_e2, uIn_e3, uIn_e4, uNotIn_e1, uNotIn_e2, uNotIn_e3, uNotIn_e4, uTru_e1, uTru_e2, uTru_e3, uTru_e4, uIx_e2, uSl_e2, uLen_e1, uAbs_e1, uInt_e1, uInt_e2, uMin2_e1, uIsi_e1, uIsi_e2, uIsi_e3, uIsi_e4, cx_K, uVar_0, uVar_n, uFld, uSFld, uMet, uMake, tDG, tDI, tDNI, tDP, tDD, uMk, uRaise, uDelSl, tCallS, L2.WE, uStr_e1, uStr_e2, uMul2_e1, uMul2_e2, okS_i, okS_s, List.zip_cons_cons, List.zip_nil_left, List.drop_zero, List.drop_succ_cons, List.drop_nil, putF_nil, putF_cons, eq_self, tDNewK, tB, Option.isSome_some, Option.isSome_none, false_and, false_or, or_false, exists_false, Int.zero_add, uLc, wipe, tYes, isEmpty_app, List.isEmpty_cons, List.isEmpty_nil, List.isEmpty_map, Bool.and_false, Bool.and_true, iRev, K06.lit_0, K06.lit_1, K06.lit_3, K06.lit_4, K06.fe_room_entries, K06.fe_room_words, K06.fe_room__places, K06.fe_room__least, K06.fe_entries_room, K06.fe_entries_words, K06.fe_entries__places, K06.fe_entries__least, K06.fe_words_room, K06.fe_words_entries, K06.fe_words__places, K06.fe_words__least, K06.fe__places_room, K06.fe__places_entries, K06.fe__places_words, K06.fe__places__least, K06.fe__least_room, K06.fe__least_entries, K06.fe__least_words, K06.fe__least__places, K06.fe_store_pressure, K06.fe_store_always, K06.fe_store_allocations, K06.fe_store_collections, K06.fe_store__roots, K06.fe_store__held, K06.fe_store__saved, K06.fe_pressure_store, K06.fe_pressure_always, K06.fe_pressure_allocations, K06.fe_pressure_collections, K06.fe_pressure__roots, K06.fe_pressure__held, K06.fe_pressure__saved, K06.fe_always_store, K06.fe_always_pressure, K06.fe_always_allocations, K06.fe_always_collections, K06.fe_always__roots, K06.fe_always__held, K06.fe_always__saved, K06.fe_allocations_store, K06.fe_allocations_pressure, K06.fe_allocations_always, K06.fe_allocations_collections, K06.fe_allocations__roots, K06.fe_allocations__held, K06.fe_allocations__saved, K06.fe_collections_store, K06.fe_collections_pressure, K06.fe_collections_always, K06.fe_collections_allocations, K06.fe_collections__roots, K06.fe_collections__held, K06.fe_collections__saved, K06.fe__roots_store, K06.fe__roots_pressure, K06.fe__roots_always, K06.fe__roots_allocations, K06.fe__roots_collections, K06.fe__roots__held, K06.fe__roots__saved, K06.fe__held_store, K06.fe__held_pressure, K06.fe__held_always, K06.fe__held_allocations, K06.fe__held_collections, K06.fe__held__roots, K06.fe__held__saved, K06.fe__saved_store, K06.fe__saved_pressure, K06.fe__saved_always, K06.fe__saved_allocations, K06.fe__saved_collections, K06.fe__saved__roots, K06.fe__saved__held, K06.fl_room_0, K06.lf_room_0, K06.fl_room_1, K06.lf_room_1, K06.fl_room_3, K06.lf_room_3, K06.fl_room_4, K06.lf_room_4, t11_e, uMetD.uMtD, tDGF_eq, uDGetF_e1, K06.N_is_ref, K06.N_ref_of, K06.N_reached, K06.N_words_of, K06.N_collect, K06.N_Store_init, K06.N_Store_used, K06.N_Store_exists, K06.N_Store_numbers, K06.N_Store_free_number, K06.N_Store_allocate, K06.N_Store_size, K06.N_Store_kind, K06.N_Store_get, K06.N_Store_put, K06.N_Store_slots, K06.N_Store_drop, K06.N_Store_close_up, K06.N_Space_init, K06.N_Space_press, K06.N_Space_root, K06.N_Space_set_root, K06.N_Space_hold, K06.N_Space_drop, K06.N_Space_held, K06.N_Space_all_roots, K06.N_Space_collect, K06.N_Space_collect_with, K06.N_Space_live_words, K06.N_Space_new, K06.N_Space_fitted, K06.N__law_number, K06.N__law_deeds, K06.N__law_is, K06.N__law_same, K06.N__law_place, K06.N__law_word, K06.N__law_reached, K06.N__law_total, K06.N__law_collections, K06.N__law_called, K06.N__law_kept, K06.N__law_held, K06.N__law_fresh, K06.N__law_new, K06.N__law_deed, K06.N__law_space, K06.N_law, sp_is_ref, sp_ref_of])
local macro_rules | `(tactic| walk_at "nn") => `(tactic| first | assumption | exact ne_un (by assumption) | exact ne_un (ne_un (by assumption)) | exact ne_un (ne_un (ne_un (by assumption))) | exact ne_un (ne_un (ne_un (ne_un (by assumption)))))
local macro_rules | `(tactic| walk_at "ne") => `(tactic| first | assumption | (apply Ne.symm; assumption) | exact ne_ud (by assumption) | exact Ne.symm (ne_ud (by assumption)) | exact ne_ud (ne_un (by assumption)) | exact Ne.symm (ne_ud (ne_un (by assumption))) | exact ne_ud (ne_un (ne_un (by assumption))) | exact Ne.symm (ne_ud (ne_un (ne_un (by assumption)))) | exact ne_m (by assumption) (by assumption) | exact Ne.symm (ne_m (by assumption) (by assumption)) | exact ne_n (by assumption) (by walk_at "nn") | exact Ne.symm (ne_n (by assumption) (by walk_at "nn")))
local macro_rules | `(tactic| walk_at "hp") => `(tactic| first | assumption | exact upd_same | (refine Eq.trans (upd_ne ?_) ?_; (focus walk_at "ne"); walk_at "hp"))
local macro_rules | `(tactic| walk_at "sc") => `(tactic| first | (with_reducible assumption) | omega | exact le_line (by (try simp only [List.length_map, List.length_append, List.length_cons, List.length_nil, S_len]); omega) | exact div_s (by omega) | exact mul_r (by omega) | exact mul_l (by omega) | exact pow_s (by omega) | exact mul2_r (by omega) | exact mul2_l (by omega) | exact small4300 (by omega) | exact lt_line (by (try simp only [List.length_map, List.length_append, List.length_cons, List.length_nil, S_len]); omega) | exact ⟨_, by assumption⟩ | (guard_target =~ Exists _; exact ⟨_, .of (by walk_at "hp")⟩) | (guard_target =~ _ ∨ _; exact .inl ⟨_, by assumption⟩) | (guard_target =~ _ ∨ _; exact .inl ⟨_, .of (by walk_at "hp")⟩) | (guard_target =~ _ ∨ _; exact .inr (.inr (.inl ⟨rfl, .inl ⟨_, by walk_at "hp"⟩⟩))) | decide)
local macro_rules | `(tactic| walk_at "kr") => `(tactic| first | (guard_target =~ _ ∧ _; first | refine And.intro (by walk_at "sc") ?_) | (guard_target =~ KW.uIx _ _ _ _ _; first | refine ix_l (by walk_at "hp") (by first | walk_at "hv" | rfl) ?_ | refine ix_t (by walk_at "hp") (by first | walk_at "hv" | rfl) ?_ | refine ix_sl (by assumption) (by walk_at "hv") ?_) | (guard_target =~ KW.uLen _ _ _ _; first | refine len_l (by walk_at "hp") ?_ | refine len_t (by walk_at "hp") ?_ | refine len_sl (by assumption) ?_) | (guard_target =~ KW.uSet _ _ _ _ _; first | refine set_l (by walk_at "hp") (by first | walk_at "hv" | rfl) ?_) | (guard_target =~ L2.gTup _ _ _ _ _ _ _; first | refine tup_l (by walk_at "hp") (by rfl) ?_) | (guard_target =~ KW.uGet _ _ _ _ _; first | refine get_l (by walk_at "hp") (by walk_at "hc") (by decide) (by rfl) ?_) | (guard_target =~ KW.uPut _ _ _ _ _ _; first | refine put_l (by walk_at "hp") (by walk_at "hc") (by decide) (by simp) ?_) | (guard_target =~ KW.uMet.uMt _ _ _ _ _ _ _ _ _; first | refine met_l (by walk_at "hp") (by rfl) ?_) | (guard_target =~ KW.uMet.uMt _ _ _ _ _ _ _ _ _; first | refine ST.met_s (by assumption) (by decide) ?_) | (guard_target =~ ST.spExists _ _ _ _ _; first | refine ST.exists_s (by assumption) ?_) | (guard_target =~ ST.spUsed _ _ _ _ _; first | refine ST.used_s (by assumption) ?_) | (guard_target =~ KW.uGet _ _ _ _ _; first | refine ST.words_s (by assumption) (by walk_at "hc") (by decide) ?_) | (guard_target =~ KW.uDIn _ _ _ _; first | refine din_i (by walk_at "hp") ?_ | refine din_s (by walk_at "hp") ?_) | (guard_target =~ KW.uDGet _ _ _ _; first | refine dget_i (by walk_at "hp") (by walk_at "hv") ?_ | refine dget_s (by walk_at "hp") (by walk_at "hv") ?_) | (guard_target =~ KW.uDPut _ _ _ _ _; first | refine dput_i (by walk_at "hp") (by walk_at "sc") ?_ | refine dput_s (by walk_at "hp") (by walk_at "sc") ?_) | (guard_target =~ KW.uDDel _ _ _ _; first | refine ddel_i (by walk_at "hp") (by walk_at "hv") ?_ | refine ddel_s (by walk_at "hp") (by walk_at "hv") ?_) | (guard_target =~ KW.uMul2 _ _ _ _; first | refine rep_l (by walk_at "hp") (by walk_at "sc") (by walk_at "sc") (by walk_at "sc") ?_) | (guard_target =~ L2.rAppend _ _ _ _; first | refine app_l (by walk_at "hp") (by walk_at "sc") ?_) | (guard_target =~ L2.rPop _ _ _ _; first | refine pop_l (by walk_at "hp") (by walk_at "hv") ?_ | refine pops_l (by walk_at "hp") ?_) | (guard_target =~ L2.rClear _ _ _ _; first | refine clr_l (by walk_at "hp") ?_) | (guard_target =~ L2.rReverse _ _ _ _; first | refine rev_l (by walk_at "hp") ?_) | (guard_target =~ L2.rExtend _ _ _ _; first | refine ext_l (by walk_at "hp") (by walk_at "hp") (by walk_at "sc") ?_) | (guard_target =~ KW.uAdd _ _ _ _ _; first | refine ucat_l (by walk_at "hp") (by walk_at "hp") (by walk_at "sc") ?_) | (guard_target =~ KW.uSl _ _ _ _ _ _; first | refine usl_l (by walk_at "hp") ?_) | (guard_target =~ KW.uTru _ _ _ _; first | refine tru_l (by walk_at "hp") ?_ | refine tru_t (by walk_at "hp") ?_ | refine tru_d (by walk_at "hp") ?_ | refine tru_sl (by assumption) ?_) | (guard_target =~ L2.rIndex _ _ _ _ _; first | refine idx_s (by walk_at "hp") (by assumption) ?_ | refine idx_i (by walk_at "hp") (by assumption) ?_) | (guard_target =~ L2.rIn _ _ _ _ _ _; first | refine in_s (by walk_at "hp") ?_ | refine nin_s (by walk_at "hp") ?_ | refine in_i (by walk_at "hp") ?_ | refine nin_i (by walk_at "hp") ?_) | (guard_target =~ KW.uIsi _ _ _ _; first | refine isi_l (by walk_at "hp") (by decide +kernel) ?_ | refine isi_t (by walk_at "hp") (by decide +kernel) ?_ | refine isi_d (by walk_at "hp") (by decide +kernel) ?_) | (guard_target =~ KW.uList _ _ _ _; first | refine list_l (by walk_at "hp") ?_ | refine list_t (by walk_at "hp") ?_ | refine list_sl (by assumption) ?_) | (guard_target =~ KW.uDict _ _ _; first | refine dict_d (by walk_at "hp") ?_) | (guard_target =~ KW.uSorted _ _ _ _; first | refine srt_l (by walk_at "hp") ?_) | (guard_target =~ KW.uSum _ _ _ _; first | refine sum_l (by walk_at "hp") ?_) | (guard_target =~ KW.uDelC _ _ _ _; first | refine dels_l (by walk_at "hp") (by walk_at "sc") ?_) | (guard_target =~ L2.wAs _ _ _ _ _ _ _ _ _ _; first | refine as_yes (by walk_at "hx") ?_ | refine as_no (by walk_at "hx") ?_) | (guard_target =~ KW.uEf _ _ _ _ _ _ _ _ _; first | refine ef_l (by walk_at "he") (by decide) (by rfl) (by walk_at "hp") (by rfl) ?_) | (guard_target =~ KW.uIsE _ _ _ _ _ _ _; first | refine isE_r (by walk_at "he") (by walk_at "hp") (by walk_at "hk") ?_ | refine isE_t (by walk_at "he") (by walk_at "hp") (by walk_at "hk") ?_))
local macro_rules | `(tactic| walk_at "hv") => `(tactic| first | assumption)
local macro_rules | `(tactic| walk_at "kk") => `(tactic| repeat (first | walk_at "kw" | walk_at "kr"))
local macro_rules | `(tactic| walk_at "hc") => `(tactic| first | exact K06.Txt.c_Store (by assumption) | exact K06.Txt.c_Space (by assumption))
local macro_rules | `(tactic| walk_at "he") => `(tactic| first | exact K06.Txt.e_BadWord (by assumption) | exact K06.Txt.e_NoRoom (by assumption) | exact K06.Txt.e_NoNumber (by assumption) | exact K06.Txt.e_Wrong (by assumption))
local macro_rules | `(tactic| walk_at "hx") => `(tactic| first | exact K06.Txt.x_BadWord_KilnwardenError (by assumption) | exact K06.Txt.x_BadWord_NoNumber (by assumption) | exact K06.Txt.x_BadWord_NoRoom (by assumption) | exact K06.Txt.x_NoRoom_KilnwardenError (by assumption) | exact K06.Txt.x_NoRoom_NoNumber (by assumption) | exact K06.Txt.x_NoRoom_NoRoom (by assumption) | exact K06.Txt.x_NoNumber_KilnwardenError (by assumption) | exact K06.Txt.x_NoNumber_NoNumber (by assumption) | exact K06.Txt.x_NoNumber_NoRoom (by assumption) | exact K06.Txt.x_Wrong_KilnwardenError (by assumption) | exact K06.Txt.x_Wrong_NoNumber (by assumption) | exact K06.Txt.x_Wrong_NoRoom (by assumption))
local macro_rules | `(tactic| walk_at "hk") => `(tactic| first | exact K06.Txt.i_BadWord_NoNumber (by assumption) | exact K06.Txt.i_BadWord_NoRoom (by assumption) | exact K06.Txt.i_NoRoom_NoNumber (by assumption) | exact K06.Txt.i_NoRoom_NoRoom (by assumption) | exact K06.Txt.i_NoNumber_NoNumber (by assumption) | exact K06.Txt.i_NoNumber_NoRoom (by assumption) | exact K06.Txt.i_Wrong_NoNumber (by assumption) | exact K06.Txt.i_Wrong_NoRoom (by assumption))

local macro_rules | `(tactic| walk_at "kr") => `(tactic| first | (guard_target =~ KW.uGet _ _ _ _ _; refine ST.get_g (by assumption) (by rfl) (by walk_at "hc") (by decide) (by rfl) ?_) | (guard_target =~ KW.uMet.uMt _ _ _ _ _ _ _ _ _; refine ST.met_g (by assumption) (by rfl) (by decide) ?_))
section
variable {P : Program} {w : World} {K : Frag} {mg : Str → Option Value} {base : Heap} {a : Ads}
theorem ok__law_deed (T : Txt P w K mg a) (TB : LamX.TabB base mg a.c_Store_close_up a.p_Store_close_up) : Cal P w K mg base 10 "_law_deed" (spDeed6 a.Space a.Store a.p_Store_close_up ("Store.close_up" ++ ".<locals>.<lambda>")) := by
  have M_Space_all_roots := ok_Space_all_roots (P := P) (w := w) (base := base) T
  have M_Space_set_root := ok_Space_set_root (P := P) (w := w) (base := base) T
  have M_Space_root := ok_Space_root (P := P) (w := w) (base := base) T
  have M_Space_hold := ok_Space_hold (P := P) (w := w) (base := base) T
  have M_Space_held := ok_Space_held (P := P) (w := w) (base := base) T
  have M_Space_drop := ok_Space_drop (P := P) (w := w) (base := base) T
  have M_Space_live_words := ok_Space_live_words (P := P) (w := w) (base := base) T
  have M_Store_exists := ok_Store_exists (P := P) (w := w) (base := base) T
  have M_Store_size := ok_Store_size (P := P) (w := w) (base := base) T
  have M_Store_put := ok_Store_put (P := P) (w := w) (base := base) T
  have C__law_place := ok__law_place (P := P) (w := w) (base := base) T
  have C__law_word := ok__law_word (P := P) (w := w) (base := base) T
  have C__law_reached := ok__law_reached (P := P) (w := w) (base := base) T
  have C__law_total := ok__law_total (P := P) (w := w) (base := base) T
  have C__law_is := ok__law_is (P := P) (w := w) (base := base) T
  have C__law_new := ok__law_new (P := P) (w := w) (base := base) T TB
  refine T.d__law_deed.ok sc__law_deed (fun vs H Q E h => ?_) (fun f cdv A outer s H vs Q E hr h => ⟨_, (pss_cons (ps_set (i := 3) sc__law_deed.nd rfl (Or.inl rfl) (pe_op o_mod (pe_callTy c_int (by rfl) T.n_int (by decide +kernel) (pa_cons (kv 2) pa_nil)) pe_int))
      (pss_cons (ps_set (i := 4) sc__law_deed.nd rfl (Or.inl rfl) (pe_op o_fdiv (kv 2) pe_int))
      (pss_cons (ps_set (i := 5) sc__law_deed.nd rfl (Or.inl rfl) (kc C__law_place (hr.mono (by decide)) (pa_cons (pe_op o_fdiv (kv 2) pe_int) pa_nil)))
      (C8.pss_cut (ps_if (pt_cmpR o_lt (kv 3) pe_int (nomark _))
      (pss_cons (ps_set (i := 6) sc__law_deed.nd rfl (Or.inl rfl) (pe_op o_mod (pe_callTy c_int (by rfl) T.n_int (by decide +kernel) (pa_cons (kv 4) pa_nil)) pe_int))
      (C8.pss_cut (ps_if (pt_cmpR (o_eq hr.units) (pe_op o_mod (pe_op o_fdiv (kv 4) pe_int) pe_int) pe_int (nomark _))
      (pss_one (ps_set (i := 6) sc__law_deed.nd rfl (Or.inl rfl) (pe_op o_mod (pe_op o_fdiv (kv 4) pe_int) pe_int)))
      pss_nil)
      (pss_cons (ps_set (i := 7) sc__law_deed.nd rfl (Or.inl rfl) (kc C__law_new (hr.mono (by decide)) (pa_cons (kv 0) (pa_cons (kv 1) (pa_cons (kc C__law_word (hr.mono (by decide)) (pa_cons (kv 0) (pa_cons (pe_op o_fdiv (kv 4) pe_int) pa_nil))) (pa_cons (kv 6) pa_nil))))))
      (pss_cons (ps_if (pt_cmpR o_is (kv 7) pe_non (nomark _))
      (pss_one (ps_ret pe_bl))
      pss_nil)
      (C8.pss_cut (ps_if (PW.pt (pw_and (pt_cmpR o_ge (kv 7) pe_int (nomark _)) (pw_and1 (pt_cmpR (o_eq hr.units) (kv 3) pe_int (nomark _)))))
      (pss_cons (ps_set (i := 7) sc__law_deed.nd rfl (Or.inl rfl) (kc C__law_new (hr.mono (by decide)) (pa_cons (kv 0) (pa_cons (kv 1) (pa_cons (pe_op o_mul2 pe_int (kv 7)) (pa_cons (pe_op o_mod (pe_op o_fdiv (kv 4) pe_int) pe_int) pa_nil))))))
      (pss_one (ps_if (pt_cmpR o_is (kv 7) pe_non (nomark _))
      (pss_one (ps_ret pe_bl))
      pss_nil)))
      pss_nil)
      (C8.pss_cut (ps_if (PW.pt (pw_and (pt_cmpR o_ge (kv 7) pe_int (nomark _)) (pw_and1 (pt_cmpR (o_ne hr.units) (kv 3) pe_int (nomark _)))))
      (pss_one (ps_expr (km M_Space_set_root (hr.mono (by decide)) (kv 0) (pa_cons (kv 5) (pa_cons (pe_op o_mul2 pe_int (kv 7)) pa_nil)))))
      pss_nil)
      (pss_one (ps_if (PW.pt (pw_and (pt_cmpR o_ge (kv 7) pe_int (nomark _)) (pw_and1 (pt_cmpR (o_eq hr.units) (kv 3) pe_int (nomark _)))))
      (pss_one (ps_expr (km M_Space_hold (hr.mono (by decide)) (kv 0) (pa_cons (pe_op o_mul2 pe_int (kv 7)) pa_nil))))
      pss_nil))))))))
      (pss_one (ps_if (pt_cmpR (o_eq hr.units) (kv 3) pe_int (nomark _))
      (pss_one (ps_expr (km M_Space_set_root (hr.mono (by decide)) (kv 0) (pa_cons (kv 5) (pa_cons (kc C__law_word (hr.mono (by decide)) (pa_cons (kv 0) (pa_cons (kv 4) pa_nil))) pa_nil)))))
      (pss_one (ps_if (pt_cmpR o_lt (kv 3) pe_int (nomark _))
      (pss_cons (ps_set (i := 8) sc__law_deed.nd rfl (Or.inl rfl) (km M_Space_root (hr.mono (by decide)) (kv 0) (pa_cons (kv 5) pa_nil)))
      (pss_one (ps_if (PW.pt (pw_and (pt_cmpR (o_eq hr.units) (pe_op o_mod (pe_callTy c_int (by rfl) T.n_int (by decide +kernel) (pa_cons (kv 8) pa_nil)) pe_int) pe_int (nomark _)) (pw_and (kt (km M_Store_exists (hr.mono (by decide)) (k_fld (kv 0) rfl) (pa_cons (pe_op o_fdiv (kv 8) pe_int) pa_nil))) (pw_and1 (pt_cmpR o_gt (km M_Store_size (hr.mono (by decide)) (k_fld (kv 0) rfl) (pa_cons (pe_op o_fdiv (kv 8) pe_int) pa_nil)) pe_int (nomark _))))))
      (pss_cons (ps_set (i := 9) sc__law_deed.nd rfl (Or.inl rfl) (pe_op o_mod (pe_op o_mod (pe_callTy c_int (by rfl) T.n_int (by decide +kernel) (pa_cons (kv 4) pa_nil)) pe_int) (km M_Store_size (hr.mono (by decide)) (k_fld (kv 0) rfl) (pa_cons (pe_op o_fdiv (kv 8) pe_int) pa_nil))))
      (pss_one (ps_expr (km M_Store_put (hr.mono (by decide)) (k_fld (kv 0) rfl) (pa_cons (pe_op o_fdiv (kv 8) pe_int) (pa_cons (kv 9) (pa_cons (kc C__law_word (hr.mono (by decide)) (pa_cons (kv 0) (pa_cons (pe_op o_fdiv (kv 4) pe_int) pa_nil))) pa_nil)))))))
      pss_nil)))
      (pss_one (ps_if (pt_cmpR o_gt (km0 M_Space_held (hr.mono (by decide)) (kv 0)) pe_int (nomark _))
      (pss_one (ps_expr (km M_Space_drop (hr.mono (by decide)) (kv 0) (pa_cons pe_int pa_nil))))
      pss_nil)))))))
      (pss_one (ps_ret (kc C__law_is (hr.mono (by decide)) (pa_cons (km0 M_Space_live_words (hr.mono (by decide)) (kv 0)) (pa_cons (kc C__law_total (hr.mono (by decide)) (pa_cons (kc C__law_reached (hr.mono (by decide)) (pa_cons (kv 0) (pa_cons (km0 M_Space_all_roots (hr.mono (by decide)) (kv 0)) pa_nil))) pa_nil)) pa_nil))))))))), ?_⟩)
  · obtain ⟨_, _, _, _, rfl, _⟩ := h; rfl
  · obtain ⟨d, lm, mo, x, rfl, X, x0, l9, h⟩ := h
    generalize a.p_Store_close_up = P0 at *
    have Z := X.s.Z
    walk_at "kk"
    refine ⟨_, rfl, by omega, fun pl hpl => ?_⟩
    walk_at "kw"
    refine ⟨fun σ H' => ∃ (d' : Gd) (v6 v7 v8 v9 : Option V), σ = [some (.ref d'.sp), some (.ref lm), some (.int x), some (.int (x % 8)), some (.int (x / 256)), some (.int (pl : Nat)), v6, v7, v8, v9] ∧ Nx a.Space a.Store P0 ("Store.close_up" ++ ".<locals>.<lambda>") lm mo H d H' d' 1, ?_, ?_⟩
    · walk_at "kw"
      split
      · walk_at "kk"
        refine ⟨fun σ H' => ∃ (n : Nat), σ = [some (.ref d.sp), some (.ref lm), some (.int x), some (.int (x % 8)), some (.int (x / 256)), some (.int (pl : Nat)), some (.int (n : Nat)), none, none, none] ∧ n ≤ 60 ∧ H = H', ?_, ?_⟩
        · walk_at "kk"
          split
          · walk_at "kk"
            exact ⟨(x / 256 / 80 % 60).toNat, by omega, by omega⟩
          · exact ⟨(x / 256 % 5).toNat, by omega, by omega⟩
        · rintro σ H' ⟨n, rfl, hn, rfl⟩
          walk_at "kk"
          refine ⟨d, _, rfl, Z, by omega, fun z => ?_⟩
          refine new6_s X (by omega) fun r d1 H1 N1 => ?_
          have e1 := N1.e
          rw [← e1]
          walk_at "kk"
          refine ⟨fun σ H' => ∃ (r : Int) (d1 : Gd), σ = [some (.ref d1.sp), some (.ref lm), some (.int x), some (.int (x % 8)), some (.int (x / 256)), some (.int (pl : Nat)), some (.int (n : Nat)), some (.int r), none, none] ∧ Nx a.Space a.Store P0 ("Store.close_up" ++ ".<locals>.<lambda>") lm mo H d H' d1 0, ?_, ?_⟩
          · have keep : ∃ r_1 d1_1, d1.sp = d1_1.sp ∧ r = r_1 ∧ Nx a.Space a.Store P0 ("Store.close_up" ++ ".<locals>.<lambda>") lm mo H d H1 d1_1 0 := ⟨r, d1, rfl, rfl, N1⟩
            walk_at "kk"
            split
            · split
              · walk_at "kk"
                rw [show x / 256 / 7 % 3 = (((x / 256 / 7 % 3).toNat : Nat) : Int) by omega]
                refine new6_s N1.w (by omega) fun r2 d2 H2 N2 => ?_
                walk_at "kk"
                exact ⟨r2, d2, N2.e.symm, rfl, N1.trans N2⟩
              · exact keep
            · exact keep
          · rintro σ H2 ⟨r, d2, rfl, N2⟩
            walk_at "kk"
            refine ⟨fun σ H' => ∃ (r : Int) (d1 : Gd), σ = [some (.ref d1.sp), some (.ref lm), some (.int x), some (.int (x % 8)), some (.int (x / 256)), some (.int (pl : Nat)), some (.int (n : Nat)), some (.int r), none, none] ∧ Nx a.Space a.Store P0 ("Store.close_up" ++ ".<locals>.<lambda>") lm mo H d H' d1 0, ?_, ?_⟩
            · have Z2 := N2.w.s.Z
              have keep : ∃ r_1 d1_1, d2.sp = d1_1.sp ∧ r = r_1 ∧ Nx a.Space a.Store P0 ("Store.close_up" ++ ".<locals>.<lambda>") lm mo H d H2 d1_1 0 := ⟨r, d2, rfl, rfl, N2⟩
              walk_at "kk"
              split
              · split
                · walk_at "kk"
                  refine ⟨d2, pl, _, rfl, Z2, hpl, fun H' Z' f => ?_⟩
                  have N1' := (N2.w.step (k := 0) Z' (f.mono (by simp)) rfl rfl rfl rfl rfl rfl N2.w.s.low N2.w.s.use (by simp))
                  exact ⟨r, _, N1'.e.symm, rfl, N2.trans N1'⟩
                · exact keep
              · exact keep
            · rintro σ H3 ⟨r, d3, rfl, N3⟩
              have Z3 := N3.w.s.Z
              have l3 := N3.len
              have keep : ∃ d', d3.sp = d'.sp ∧ (∃ x : Option V, none = x) ∧ Nx a.Space a.Store P0 ("Store.close_up" ++ ".<locals>.<lambda>") lm mo H d H3 d' 1 := ⟨d3, rfl, ⟨_, rfl⟩, N3.le (by omega)⟩
              walk_at "kk"
              split
              · split
                · walk_at "kk"
                  refine ⟨d3, _, rfl, Z3, by omega, fun H' Z' f => ?_⟩
                  have N1' := N3.w.step (k := 1) Z' (f.mono (by simp)) rfl rfl rfl rfl rfl rfl N3.w.s.low N3.w.s.use (by simp)
                  exact ⟨_, N1'.e.symm, ⟨_, rfl⟩, (N3.trans N1').le (by omega)⟩
                · exact keep
              · exact keep
      · walk_at "kk"
        split
        · rename_i c
          walk_at "kk"
          refine ⟨d, _, rfl, Z, by omega, fun z => ?_⟩
          refine ⟨d, pl, z, rfl, Z, hpl, fun H' Z' f => ?_⟩
          have N' := (X.step (k := 0) Z' (f.mono (by simp)) rfl rfl rfl rfl rfl rfl X.s.low X.s.use (by simp)).le (j := 1) (by omega)
          exact ⟨_, N'.e.symm, N'⟩
        · split
          · rename_i c c2
            have r16 := Z.r16
            obtain ⟨z, hz⟩ : ∃ z, d.R[pl]? = some z := ⟨_, List.getElem?_eq_getElem (by omega)⟩
            walk_at "kk"
            refine ⟨d, pl, z, rfl, Z, hz, ?_⟩
            have S := Z.S
            have keep : ∃ d', d.sp = d'.sp ∧ Nx a.Space a.Store P0 ("Store.close_up" ++ ".<locals>.<lambda>") lm mo H d H d' 1 := ⟨d, rfl, (Nx.refl X).le (by omega)⟩
            walk_at "kk"
            split
            · walk_at "kk"
              split
              · rename_i c3 c4
                obtain ⟨i, e, hi, ha, hn⟩ := lv_iff.mp c4
                walk_at "kk"
                refine size_s S hi ha hn ?_
                walk_at "kk"
                split
                · rename_i c5
                  walk_at "kk"
                  refine size_s S hi ha hn ?_
                  walk_at "kk"
                  refine ⟨d, _, rfl, Z, by omega, fun z2 => ?_⟩
                  obtain ⟨j, hj⟩ : ∃ j : Nat, x / 256 % 64 % e.s.length = j := ⟨_, (Int.toNat_of_nonneg (Int.emod_nonneg _ (by omega))).symm⟩
                  have hj2 : (j : Int) < e.s.length := by rw [← hj]; exact Int.emod_lt_of_pos _ (by omega)
                  rw [hj]
                  refine put_s S hi ha hn (by omega) fun H' S' f' => ?_
                  have fl := flat_setlen (f := { e with s := e.s.set j z2 }) hi (by simp)
                  have Z' := Z.word S' f' (by rw [fl]; exact Z.bd)
                  have N' := (X.step (k := 0) Z' (f'.mono (by simp)) rfl rfl rfl rfl rfl rfl (fun m hm => X.s.low m (by rw [← lv_set (f := { e with s := e.s.set j z2 }) hi rfl rfl]; exact hm)) (by show ((flat (d.B.set i { e with s := e.s.set j z2 })).length : Int) ≤ d.rm; rw [fl]; exact X.s.use) (by simp)).le (j := 1) (by omega)
                  exact ⟨_, N'.e.symm, N'⟩
                · exact keep
              · exact keep
            · exact keep
          · rename_i c c2
            have keep : ∃ d', d.sp = d'.sp ∧ Nx a.Space a.Store P0 ("Store.close_up" ++ ".<locals>.<lambda>") lm mo H d H d' 1 := ⟨d, rfl, (Nx.refl X).le (by omega)⟩
            walk_at "kk"
            refine ⟨d, rfl, Z, ?_⟩
            walk_at "kk"
            split
            · rename_i c3
              walk_at "kk"
              refine ⟨d, 1, rfl, Z, by omega, fun H' Z' f => ?_⟩
              have N' := (X.step (k := 0) Z' (f.mono (by simp)) rfl rfl rfl rfl rfl rfl X.s.low X.s.use (by simp)).le (j := 1) (by omega)
              exact ⟨_, N'.e.symm, N'⟩
            · exact keep
    · rintro σ H1 ⟨d1, v6, v7, v8, v9, rfl, N1⟩
      have X1 := N1.w
      have Z1 := X1.s.Z
      have N := Z1.S.nd
      have use := X1.s.use
      have rm := X1.s.rm
      have r16 := Z1.r16
      have l9' := Z1.l9
      walk_at "kk"
      refine ⟨d1, rfl, Z1, fun F H2 nF iF f2 => ?_⟩
      have Z2 := Z1.fr0 f2
      walk_at "kk"
      refine ⟨d1, rfl, Z2, fun l H3 hl f3 i3 => ?_⟩
      have Z3 := Z2.fr0 f3
      refine ⟨d1, l, d1.ws, rfl, Z3, by omega, i3, by simp [r16]; omega, fun p D H4 hp f4 F4 np tl iD => ?_⟩
      have hlv : ∀ m ∈ nsF D, lv d1.B m = true := fun m hm => by
        obtain ⟨r, hr⟩ := ((iD m).mp hm).some
        rw [← gB_lv, hr]; rfl
      have hlF : ∀ m ∈ F, lv d1.B m = true := fun m hm => by
        obtain ⟨r, hr⟩ := ((iF m).mp hm).some
        rw [← gB_lv, hr]; rfl
      have lnD : (nsF D).length = D.length := by simp
      have dD : D.length ≤ 500 := by
        have h1 := cnt_le N F4.nd hlv; have h2 := nums_len d1.B; have h3 := len_flat d1.B; omega
      have e : (F.map (wof d1.B)).sum = (D.map fun r => 3 + (r.sl.length : Int)).sum := by
        rw [← tot_rows N F4.nd tl, ← tot_kept N nF hlF, kept_same fun m => (iF m).trans (iD m).symm]
      refine ⟨p, D, rfl, F4, by omega, fun H5 f5 => ?_⟩
      refine is_s ?_
      rw [e]
      simp only [decide_true]
      exact h d1 _ (N1.fr0 (f2.trans (f3.trans (f4.trans f5))))
theorem ok__law_space (T : Txt P w K mg a) : Cal P w K mg base 5 "_law_space" (spSpace6 a.Space a.Store a.p_Store_close_up ("Store.close_up" ++ ".<locals>.<lambda>")) := by
  have C__law_number := ok__law_number (P := P) (w := w) (base := base) T
  have I_Space := ok_Space_init (P := P) (w := w) (base := base) T
  have M_Space_press := ok_Space_press (P := P) (w := w) (base := base) T
  refine T.d__law_space.ok sc__law_space (fun vs H Q E h => ?_) (fun f cdv A outer s H vs Q E hr h => ⟨_, (pss_cons (ps_set (i := 1) sc__law_space.nd rfl (Or.inl rfl) (kc C__law_number (hr.mono (by decide)) (pa_cons (pe_ix o_ix (kv 0) pe_int (fun _ _ => rfl)) (pa_cons pe_int pa_nil))))
      (pss_cons (ps_set (i := 2) sc__law_space.nd rfl (Or.inl rfl) (pe_op o_add pe_int (pe_op o_mod (pe_callTy c_int (by rfl) T.n_int (by decide +kernel) (pa_cons (kv 1) pa_nil)) pe_int)))
      (C8.pss_cut (ps_if (pt_cmpR (o_eq hr.units) (pe_op o_mod (pe_op o_fdiv (kv 1) pe_int) pe_int) pe_int (nomark _))
      (pss_one (ps_set (i := 2) sc__law_space.nd rfl (Or.inl rfl) (pe_op o_add pe_int (pe_op o_mod (pe_op o_fdiv (kv 1) pe_int) pe_int))))
      pss_nil)
      (pss_cons (ps_set (i := 3) sc__law_space.nd rfl (Or.inl rfl) pe_int)
      (C8.pss_cut (ps_if (pt_cmpR (o_eq hr.units) (pe_op o_mod (pe_op o_fdiv (kv 1) pe_int) pe_int) pe_int (nomark _))
      (pss_one (ps_set (i := 3) sc__law_space.nd rfl (Or.inl rfl) (pe_op o_add pe_int (pe_op o_mod (pe_op o_fdiv (kv 1) pe_int) pe_int))))
      pss_nil)
      (pss_cons (ps_set (i := 4) sc__law_space.nd rfl (Or.inl rfl) (kmk 0 I_Space (hr.mono (by decide)) (pa_cons (kv 2) (pa_cons (kv 3) pa_nil))))
      (pss_cons (ps_set (i := 5) sc__law_space.nd rfl (Or.inl rfl) (kc C__law_number (hr.mono (by decide)) (pa_cons (pe_ix o_ix (kv 0) pe_int (fun _ _ => rfl)) (pa_cons pe_int pa_nil))))
      (pss_cons (ps_set (i := 6) sc__law_space.nd rfl (Or.inl rfl) (pe_cmpR (o_eq hr.units) (pe_op o_mod (pe_callTy c_int (by rfl) T.n_int (by decide +kernel) (pa_cons (kv 5) pa_nil)) pe_int) pe_int (nomark _)))
      (pss_cons (ps_set (i := 5) sc__law_space.nd rfl (Or.inl rfl) (pe_op o_fdiv (kv 5) pe_int))
      (pss_cons (ps_set (i := 7) sc__law_space.nd rfl (Or.inl rfl) (pe_lst pa_nil))
      (pss_cons (k_for (passes_of rfl) rfl (pi_range1 (by rfl) T.n_range (pa_cons pe_int pa_nil)) (pg_name (i := 8) sc__law_space.nd rfl (Or.inl rfl))
      (pss_cons (ps_if (pt_cmpR (o_eq hr.units) (pe_op o_mod (pe_callTy c_int (by rfl) T.n_int (by decide +kernel) (pa_cons (kv 5) pa_nil)) pe_int) pe_int (nomark _))
      (pss_one (ps_expr (pe_bm PySem.F.plainAttrs_list PySem.F.slot_list_append PySem.F.type_list_append mt_append (kv 7) (pa_cons (pe_op o_add (kv 8) pe_int) pa_nil))))
      pss_nil)
      (pss_one (ps_set (i := 5) sc__law_space.nd rfl (Or.inl rfl) (pe_op o_fdiv (kv 5) pe_int)))))
      (pss_cons (ps_set (i := 9) sc__law_space.nd rfl (Or.inl rfl) (pe_callTy c_list (by rfl) T.n_list (by decide +kernel) (pa_cons (kv 7) pa_nil)))
      (pss_cons (ps_expr (kmK M_Space_press (hr.mono (by decide)) (kv 4) (pa_cons (kv 9) pa_nil) (pk_cons (kv 6) pk_nil)))
      (pss_cons (ps_expr (pe_bm PySem.F.plainAttrs_list PySem.F.slot_list_append PySem.F.type_list_append mt_append (kv 9) (pa_cons (pe_callB c_len (by rfl) T.n_len (by decide +kernel) (pa_cons (kv 0) pa_nil)) pa_nil)))
      (pss_one (ps_ret (pe_tup (pa_cons (kv 4) (pa_cons (pe_tup (pa_cons (kv 2) (pa_cons (kv 3) (pa_cons (kv 7) (pa_cons (kv 6) pa_nil))))) pa_nil))))))))))))))))))), ?_⟩)
  · obtain ⟨_, _, rfl, _⟩ := h; rfl
  · obtain ⟨ce, cs, rfl, h0, c2, c9, hT, h⟩ := h
    generalize a.p_Store_close_up = P0 at *
    obtain ⟨z0, z1, cr, rfl⟩ : ∃ z0 z1 cr, cs = z0 :: z1 :: cr := by
      match cs, c2 with
      | z0 :: z1 :: cr, _ => exact ⟨_, _, _, rfl⟩
    have a0 : atI ((z0 :: z1 :: cr).map V.int) 0 = some (.int z0) := atI_map (f := V.int) (i := 0) rfl
    have a1 : atI ((z0 :: z1 :: cr).map V.int) 1 = some (.int z1) := atI_map (f := V.int) (i := 1) rfl
    generalize z0 :: z1 :: cr = cs at *
    have h0' : H ce = some (.lst (cs.map V.int)) := h0
    walk_at "kk"
    refine num_s (by omega) (by omega) fun x hx => ?_
    walk_at "kk"
    refine ⟨fun σ H' => ∃ rm : Int, σ = [some (.ref ce), some (.int x), some (.int rm), none, none, none, none, none, none, none] ∧ 3 ≤ rm ∧ rm ≤ 500 ∧ H = H', ?_, ?_⟩
    · walk_at "kk"
      split
      · walk_at "kk"
        omega
      · omega
    rintro σ H' ⟨rm, rfl, rm1, rm2, rfl⟩
    walk_at "kk"
    refine ⟨fun σ H' => ∃ en : Int, σ = [some (.ref ce), some (.int x), some (.int rm), some (.int en), none, none, none, none, none, none] ∧ 1 ≤ en ∧ en ≤ 100000 ∧ H = H', ?_, ?_⟩
    · walk_at "kk"
      split
      · walk_at "kk"
        omega
      · trivial
    rintro σ H' ⟨en, rfl, en1, en2, rfl⟩
    walk_at "kk"
    intro sp dx hsp hdx hne
    have f1 : KW.Fr [] H (upd (upd H dx (.own sp)) sp (.ins a.Space dx [])) := (Fr.new hdx).trans (Fr.new (by rw [upd_ne (Ne.symm hne)]; exact hsp))
    have s1 : upd (upd H dx (.own sp)) sp (.ins a.Space dx []) sp = some (.ins a.Space dx []) := upd_same
    revert f1 s1
    generalize upd (upd H dx (.own sp)) sp (.ins a.Space dx []) = H1
    intro f1 s1
    refine ⟨sp, dx, rm, en, rfl, s1, by omega, by omega, en2, fun d H2 e1 e2 e3 e4 e5 e6 e7 e8 e9 e10 e11 Z2 f2 n2 => ?_⟩
    subst e1
    have nG : ∀ y ∈ fpG d, H y = none := fun y hy => by
      by_cases c : y = d.sp
      · rw [c]; exact hsp
      · exact f1.none (by simp) (n2 y hy c)
    have F2 : KW.Fr [] H H2 := Fr.frs f1 f2 (by simp [hsp])
    have T2 : TabS H2 P0 ("Store.close_up" ++ ".<locals>.<lambda>") := (hT.fr0 f1).frl f2 (by simp; exact ⟨_, s1, pln_ins⟩)
    have h2 := F2 _ _ (by simp) h0'
    clear hsp hdx hne f1 s1 f2 n2
    walk_at "kk"
    refine num_s (by omega) (by omega) fun y hy => ?_
    walk_at "kk"
    intro mo hmo
    have h3 := hmo
    have nmo : H mo = none := F2.none (by simp) hmo
    obtain ⟨aw, haw⟩ : ∃ aw : Bool, aw = decide (y % 4 = 1) := ⟨_, rfl⟩
    try rw [← haw]
    obtain ⟨Pv, hPv⟩ : ∃ Pv : Nat → L2.St → Hp → Prop, Pv = fun i σ H' => ∃ (y : Int) (P : List Int) (v8 : Option V), σ = [some (.ref ce), some (.int x), some (.int rm), some (.int en), some (.ref d.sp), some (.int y), some (.bl aw), some (.ref mo), v8, none] ∧ 0 ≤ y ∧ H' mo = some (.lst (P.map V.int)) ∧ P.length ≤ i ∧ KW.Fr [] H2 H' := ⟨_, rfl⟩
    refine for_rng Pv (by rw [hPv]; exact ⟨_, [], _, rfl, by omega, upd_same, by simp, Fr.new hmo⟩) ?_ ?_
    · intro i σ H3 hi hp
      rw [hPv] at hp
      obtain ⟨y, P, v8, rfl, y0, m3, lP, f3⟩ := hp
      walk_at "kk"
      split
      · walk_at "kk"
        rw [hPv]
        refine ⟨_, P ++ [(i : Int) + 1], _, rfl, by omega, by rw [upd_same, List.map_append]; rfl, by simp; omega, fun b o hb ho => ?_⟩
        have : b ≠ mo := fun z => by rw [z, hmo] at ho; cases ho
        rw [upd_ne this]; exact f3 b o hb ho
      · walk_at "kk"
        rw [hPv]
        exact ⟨_, P, _, rfl, by omega, m3, by omega, f3⟩
    · intro σ H3 hp
      rw [hPv] at hp
      obtain ⟨y, P, v8, rfl, y0, m3, lP, f3⟩ := hp
      clear hPv Pv
      have Z3 := Z2.fr0 f3
      have T3 := T2.fr0 f3
      have h3 := f3 _ _ (by simp) h2
      have F3 := F2.trans f3
      walk_at "kk"
      intro t ht
      have f4 : KW.Fr [] H3 (upd H3 t (.lst (P.map V.int))) := Fr.new ht
      have t4 : upd H3 t (.lst (P.map V.int)) t = some (.lst (P.map V.int)) := upd_same
      have tm : t ≠ mo := fun z => by rw [z, m3] at ht; cases ht
      revert f4 t4
      generalize upd H3 t (.lst (P.map V.int)) = H4
      intro f4 t4
      have Z4 := Z3.fr0 f4
      have T4 := T3.fr0 f4
      have h4 := f4 _ _ (by simp) h3
      have m4 := f4 _ _ (by simp) m3
      have F4 := F3.trans f4
      have nt : H t = none := F3.none (by simp) ht
      have tG : t ∉ fpG d := fun z => by
        obtain ⟨o, ho⟩ := Z3.there t z; rw [ht] at ho; cases ho
      clear Z3 T3 h3 m3 F3 ht f3 f4
      walk_at "kk"
      refine ⟨d, t, P, aw, rfl, Z4, .of t4, by omega, fun pr' H5 hpr Z5 f5 => ?_⟩
      have nsp : ∀ y, H y = none → ∀ o, H4 y = some o → y ∉ fpG d → y ∉ [d.sp] := fun y _ _ _ h1 h2 => h1 (by simp at h2; simp [h2])
      have t5 : H5 t = some (.lst (P.map V.int)) := f5 _ _ (by simp; rintro rfl; obtain ⟨dx, ob⟩ := Z4.ob; rw [t4] at ob; cases ob) t4
      have m5 : H5 mo = some (.lst (P.map V.int)) := f5 _ _ (by simp; rintro rfl; obtain ⟨dx, ob⟩ := Z4.ob; rw [m4] at ob; cases ob) m4
      have h5 : H5 ce = some (.lst (cs.map V.int)) := f5 _ _ (by simp; rintro rfl; obtain ⟨dx, ob⟩ := Z4.ob; rw [h4] at ob; cases ob) h4
      have T5 : TabS H5 P0 ("Store.close_up" ++ ".<locals>.<lambda>") := T4.frl f5 fun y hy => by simp at hy; rw [hy]; exact Z4.pln _ (by simp)
      have F5 : KW.Fr [] H H5 := Fr.frs F4 f5 (by simp; exact nG _ (by simp))
      have npr : H pr' = none := F4.none (by simp) hpr
      have mn : mo ∉ fpG d := fun z => by
        obtain ⟨o, ho⟩ := Z2.there mo z; rw [hmo] at ho; cases ho
      have mpr : mo ≠ pr' := fun z => by rw [← z, m4] at hpr; cases hpr
      have tpr : t ≠ pr' := fun z => by rw [← z, t4] at hpr; cases hpr
      refine ⟨.inl ⟨_, .of t5⟩, ?_⟩
      walk_at "kk"
      intro lm hlm
      refine ⟨lt_line (by decide), fun tu htu => ?_⟩
      have f6 : KW.Fr [t] H5 (upd H5 t (.lst (P.map V.int ++ [.int cs.length]))) := Fr.upd (by simp)
      have F6 : KW.Fr [] H (upd H5 t (.lst (P.map V.int ++ [.int cs.length]))) := fun b o hb ho => by
        have : b ≠ t := fun z => by rw [z, nt] at ho; cases ho
        rw [upd_ne this]; exact F5 b o hb ho
      have Z6 := Z5.fr f6 fun y hy => by
        simp only [List.mem_cons, List.not_mem_nil, or_false] at hy ⊢
        simp only [fpG, List.mem_cons, List.not_mem_nil, or_false, not_or] at tG
        obtain ⟨g1, g2, g3, g4, g5, g6, g7⟩ := tG
        rcases hy with rfl | rfl | rfl | rfl | rfl | rfl | rfl
        · exact Ne.symm g1
        · exact Ne.symm g2
        · exact Ne.symm g3
        · exact Ne.symm g4
        · exact Ne.symm tpr
        · exact Ne.symm g6
        · exact Ne.symm g7
      have T6 := LamX.TabS.upd T5 t5 (o' := .lst (P.map V.int ++ [.int cs.length])) pln_lst
      have m6 : upd H5 t (.lst (P.map V.int ++ [.int cs.length])) mo = some (.lst (P.map V.int)) := by rw [upd_ne (Ne.symm tm)]; exact m5
      revert hlm htu F6 Z6 T6 m6
      clear f6
      generalize upd H5 t (.lst (P.map V.int ++ [.int cs.length])) = H6
      intro hlm htu F6 Z6 T6 m6
      have ltu : lm ≠ tu := ne_of_none upd_same htu
      have f8 : KW.Fr [] H6 (upd (upd H6 lm (.tup [.int rm, .int en, .ref mo, .bl aw])) tu (.tup [.ref d.sp, .ref lm])) := (Fr.new hlm).trans (Fr.new htu)
      refine h { d with pr := pr', aw := aw, P := P } lm mo tu _ ⟨⟨Z6.fr0 f8, T6.fr0 f8, e7, fun m hm => ?_, ?_, by show d.rm ≤ 500; omega⟩, ⟨?_, f8 _ _ (by simp) m6⟩, ?_⟩ e4 e9 e10 e11 (by show 3 ≤ d.rm; omega) (by show 0 < d.en; omega) (F6.trans f8) upd_same (fun y hy => ?_) (F6.none (by simp) (ne_un htu))
      · have hm' : lv d.B m = true := hm
        rw [e9] at hm'; cases hm'
      · show ((flat d.B).length : Int) ≤ d.rm
        rw [e9]; show (0 : Int) ≤ d.rm; omega
      · rw [upd_ne ltu, upd_same]
        show _ = some (HO.tup [.int d.rm, .int d.en, .ref mo, .bl aw])
        rw [e2, e3]
      · intro z
        simp only [fpG, List.mem_cons, List.not_mem_nil, or_false, not_or] at mn z
        obtain ⟨g1, g2, g3, g4, g5, g6, g7⟩ := mn
        rcases z with z | z | z | z | z | z | z
        · exact g1 z
        · exact g2 z
        · exact g3 z
        · exact g4 z
        · exact mpr z
        · exact g6 z
        · exact g7 z
      · simp only [fpG, List.mem_cons, List.not_mem_nil, or_false] at hy
        rcases hy with rfl | rfl | rfl | rfl | rfl | rfl | rfl
        · exact nG _ (by simp)
        · exact nG _ (by simp)
        · exact nG _ (by simp)
        · exact nG _ (by simp)
        · exact npr
        · exact nG _ (by simp)
        · exact nG _ (by simp)
end
end K06

set_option Elab.async false
set_option linter.all false
set_option maxRecDepth 100000
set_option maxHeartbeats 4000000
namespace ST
open PySem PySem.Spec PyProof.Rows L2 KW LamX
theorem Nx.keep {CS C p lm mo : Addr} {q : Str} {H H' : Hp} {d d' : Gd} {k : Nat} {x : Addr} {o : HO} (a : Nx CS C p q lm mo H d H' d' k) (h : H x = some o) (n : x ∉ fpG d) (m : x ≠ p) : H' x = some o ∧ x ∉ fpG d' :=
  ⟨a.m.1 _ _ (fun z => (List.mem_cons.mp z).elim m n) h, fun z => by
    rcases a.m.2 x z with u | u
    · exact n u
    · rw [h] at u; cases u⟩
theorem tup_out {CS C x : Addr} {H : Hp} {d : Gd} {xs : List V} (Z : Gpc CS C H d) (h : H x = some (.tup xs)) : x ∉ fpG d := by
  obtain ⟨dx, ob⟩ := Z.ob
  obtain ⟨dx2, lo, ob2, _⟩ := Z.S.ob
  have ow := Z.S.wo
  obtain ⟨kvs, op, _⟩ := Z.S.pa
  have o1 := Z.pe
  have o2 := Z.rt
  have o3 := Z.hl
  unfold IL at o1 o2 o3
  intro z
  simp only [List.mem_cons, List.not_mem_nil, or_false] at z
  rcases z with rfl | rfl | rfl | rfl | rfl | rfl | rfl
  · rw [h] at ob; cases ob
  · rw [h] at ob2; cases ob2
  · rw [h] at ow; cases ow
  · rw [h] at op; cases op
  · rw [h] at o1; cases o1
  · rw [h] at o2; cases o2
  · rw [h] at o3; cases o3
end ST
namespace K06
open PySem PySem.Spec PyProof.Rows L2 KW ST LamX
local macro_rules | `(tactic| walk_at "kw") => `(tactic| simp only [tSeq, tNext, tIfS, tTest, tAnd, tOr, tNot, tAndV, tOrV, tNotV, tIf, tChain, tOp, tUn, tC, tAsg, gName, gSub, gCons, gNil, tRet, tRetN, tDrop, tCons, tNil, tCB, tAug, tSl, tPart, tNoPart, tLst, tTup, tBM, tBM0, uTest, uFor, iRng1, iRng2, iList, uCall, List.map_cons, List.map_nil, List.length_cons, List.length_nil, List.cons_append, List.nil_append, List.replicate, Nat.zero_add, Nat.reduceAdd, Nat.reduceSub, List.getElem?_cons_zero, List.getElem?_cons_succ, List.set_cons_zero, List.set_cons_succ, V.bl.injEq, V.int.injEq, V.str.injEq, V.ref.injEq, V.ty.injEq, List.cons.injEq, and_true, true_and, exists_eq_left', exists_eq_right, exists_eq_left, exists_and_left, exists_and_right, decide_eq_true_eq, Bool.not_eq_true', decide_eq_false_iff_not, Bool.false_eq_true, if_true, if_false, ite_true, ite_false, Bool.not_true, Bool.not_false, reduceCtorEq, decide_true, decide_false, Bool.not_not, isK_int_int, isK_int_bool, isK_int_str, isK_int_list, isK_int_tuple, isK_bool_int, isK_bool_bool, isK_bool_str, isK_str_str, isK_str_int, isK_str_bool, isK_str_tuple, isK_str_list, isK_list_list, isK_list_tuple, isK_tuple_tuple, isK_tuple_list, isOk_int_int, isOk_int_bool, isOk_int_str, isOk_int_list, isOk_int_tuple, isOk_bool_int, isOk_bool_bool, isOk_bool_str, isOk_str_str, isOk_str_int, isOk_str_bool, isOk_str_tuple, isOk_str_list, isOk_list_list, isOk_list_tuple, isOk_tuple_tuple, isOk_tuple_list, isK_dict_dict, isOk_dict_dict, isK_none_int, isK_none_bool, isOk_none_int, isOk_none_bool, tyV, S_inj, S_cat, L2.start, Nat.reduceSub, List.replicate_succ, List.replicate_zero, and_assoc, List.append_nil, Nat.reduceEqDiff, Option.some.injEq, Int.natCast_inj, upd_upd, Int.reducePow, Int.reduceToNat, Int.reduceMul, Int.reduceAdd, Int.reduceSub, Int.reduceLT, Int.reduceLE, Int.reduceNeg, Int.reduceDiv, Int.reduceMod, Nat.reducePow, Nat.reduceMul, S_len, List.length_append, List.length_map, List.length_range, not_true_eq_false, not_false_eq_true, ne_eq, uAdd_e1, uAdd_e2, uSub_e1, uMod_e1, uDiv_e1, uPow_e1, uShl_e1, uNeg_e1, uIAdd_e1, uIAdd_e2, uIAdd_e3, uISub_e1, uLt_e1, uLt_e2, uLe_e1, uGt_e1, uGe_e1, uEq_e1, uEq_e2, uEq_e3, uEq_e4, uEq_e5, uEq_e6, uEq_e7, uEq_e8, uEq_e9, uEq_e10, uEq_e11, uNe_e1, uNe_e2, uNe_e3, uNe_e4, uNe_e5, uNe_e6, uNe_e7, uNe_e8, uNe_e9, uNe_e10, uNe_e11, uIs_e1, uIs_e2, uIs_e3, uIs_e4, uIs_e5, uIs_e6, uIs_e7, uNotIs_e1, uNotIs_e2, uNotIs_e3, uNotIs_e4, uNotIs_e5, uNotIs_e6, uIn_e1, uIn_e2, uIn_e3, uIn_e4, uNotIn_e1, uNotIn_e2, uNotIn_e3, uNotIn_e4, uTru_e1, uTru_e2, uTru_e3, uTru_e4, uIx_e2, uSl_e2, uLen_e1, uAbs_e1, uInt_e1, uInt_e2, uMin2_e1, uIsi_e1, uIsi_e2, uIsi_e3, uIsi_e4, cx_K, uVar_0, uVar_n, uFld, uSFld, uMet, uMake, tDG, tDI, tDNI, tDP, tDD, uMk, uRaise, uDelSl, tCallS, L2.WE, uStr_e1, uStr_e2, uMul2_e1, uMul2_e2, okS_i, okS_s, List.zip_cons_cons, List.zip_nil_left, List.drop_zero, List.drop_succ_cons, List.drop_nil, putF_nil, putF_cons, eq_self, tDNewK, tB, Option.isSome_some, Option.isSome_none, false_and, false_or, or_false, exists_false, Int.zero_add, uLc, wipe, tYes, isEmpty_app, List.isEmpty_cons, List.isEmpty_nil, List.isEmpty_map, Bool.and_false, Bool.and_true, iRev, K06.lit_0, K06.lit_1, K06.lit_3, K06.lit_4, K06.fe_room_entries, K06.fe_room_words, K06.fe_room__places, K06.fe_room__least, K06.fe_entries_room, K06.fe_entries_words, K06.fe_entries__places, K06.fe_entries__least, K06.fe_words_room, K06.fe_words_entries, K06.fe_words__places, K06.fe_words__least, K06.fe__places_room, K06.fe__places_entries, K06.fe__places_words, K06.fe__places__least, K06.fe__least_room, K06.fe__least_entries, K06.fe__least_words, K06.fe__least__places, K06.fe_store_pressure, K06.fe_store_always, K06.fe_store_allocations, K06.fe_store_collections, K06.fe_store__roots, K06.fe_store__held, K06.fe_store__saved, K06.fe_pressure_store, K06.fe_pressure_always, K06.fe_pressure_allocations, K06.fe_pressure_collections, K06.fe_pressure__roots, K06.fe_pressure__held, K06.fe_pressure__saved, K06.fe_always_store, K06.fe_always_pressure, K06.fe_always_allocations, K06.fe_always_collections, K06.fe_always__roots, K06.fe_always__held, K06.fe_always__saved, K06.fe_allocations_store, K06.fe_allocations_pressure, K06.fe_allocations_always, K06.fe_allocations_collections, K06.fe_allocations__roots, K06.fe_allocations__held, K06.fe_allocations__saved, K06.fe_collections_store, K06.fe_collections_pressure, K06.fe_collections_always, K06.fe_collections_allocations, K06.fe_collections__roots, K06.fe_collections__held, K06.fe_collections__saved, K06.fe__roots_store, K06.fe__roots_pressure, K06.fe__roots_always, K06.fe__roots_allocations, K06.fe__roots_collections, K06.fe__roots__held, K06.fe__roots__saved, K06.fe__held_store, K06.fe__held_pressure, K06.fe__held_always, K06.fe__held_allocations, K06.fe__held_collections, K06.fe__held__roots, K06.fe__held__saved, K06.fe__saved_store, K06.fe__saved_pressure, K06.fe__saved_always, K06.fe__saved_allocations, K06.fe__saved_collections, K06.fe__saved__roots, K06.fe__saved__held, K06.fl_room_0, K06.lf_room_0, K06.fl_room_1, K06.lf_room_1, K06.fl_room_3, K06.lf_room_3, K06.fl_room_4, K06.lf_room_4, t11_e, uMetD.uMtD, tDGF_eq, uDGetF_e1, K06.N_is_ref, K06.N_ref_of, K06.N_reached, K06.N_words_of, K06.N_collect, K06.N_Store_init, K06.N_Store_used, K06.N_Store_exists, K06.N_Store_numbers, K06.N_Store_free_number, K06.N_Store_allocate, K06.N_Store_size, K06.N_Store_kind, K06.N_Store_get, K06.N_Store_put, K06.N_Store_slots, K06.N_Store_drop, K06.N_Store_close_up, K06.N_Space_init, K06.N_Space_press, K06.N_Space_root, K06.N_Space_set_root, K06.N_Space_hold, K06.N_Space_drop, K06.N_Space_held, K06.N_Space_all_roots, K06.N_Space_collect, K06.N_Space_collect_with, K06.N_Space_live_words, K06.N_Space_new, K06.N_Space_fitted, K06.N__law_number, K06.N__law_deeds, K06.N__law_is, K06.N__law_same, K06.N__law_place, K06.N__law_word, K06.N__law_reached, K06.N__law_total, K06.N__law_collections, K06.N__law_called, K06.N__law_kept, K06.N__law_held, K06.N__law_fresh, K06.N__law_new, K06.N__law_deed, K06.N__law_space, K06.N_law, sp_is_ref, sp_ref_of])
local macro_rules | `(tactic| walk_at "nn") => `(tactic| first | assumption | exact ne_un (by assumption) | exact ne_un (ne_un (by assumption)) | exact ne_un (ne_un (ne_un (by assumption))) | exact ne_un (ne_un (ne_un (ne_un (by assumption)))))
local macro_rules | `(tactic| walk_at "ne") => `(tactic| first | assumption | (apply Ne.symm; assumption) | exact ne_ud (by assumption) | exact Ne.symm (ne_ud (by assumption)) | exact ne_ud (ne_un (by assumption)) | exact Ne.symm (ne_ud (ne_un (by assumption))) | exact ne_ud (ne_un (ne_un (by assumption))) | exact Ne.symm (ne_ud (ne_un (ne_un (by assumption)))) | exact ne_m (by assumption) (by assumption) | exact Ne.symm (ne_m (by assumption) (by assumption)) | exact ne_n (by assumption) (by walk_at "nn") | exact Ne.symm (ne_n (by assumption) (by walk_at "nn")))
local macro_rules | `(tactic| walk_at "hp") => `(tactic| first | assumption | exact upd_same | (refine Eq.trans (upd_ne ?_) ?_; (focus walk_at "ne"); walk_at "hp"))
local macro_rules | `(tactic| walk_at "sc") => `(tactic| first | (with_reducible assumption) | omega | exact le_line (by (try simp only [List.length_map, List.length_append, List.length_cons, List.length_nil, S_len]); omega) | exact div_s (by omega) | exact mul_r (by omega) | exact mul_l (by omega) | exact pow_s (by omega) | exact mul2_r (by omega) | exact mul2_l (by omega) | exact small4300 (by omega) | exact lt_line (by (try simp only [List.length_map, List.length_append, List.length_cons, List.length_nil, S_len]); omega) | exact ⟨_, by assumption⟩ | (guard_target =~ Exists _; exact ⟨_, .of (by walk_at "hp")⟩) | (guard_target =~ _ ∨ _; exact .inl ⟨_, by assumption⟩) | (guard_target =~ _ ∨ _; exact .inl ⟨_, .of (by walk_at "hp")⟩) | (guard_target =~ _ ∨ _; exact .inr (.inr (.inl ⟨rfl, .inl ⟨_, by walk_at "hp"⟩⟩))) | decide)
local macro_rules | `(tactic| walk_at "kr") => `(tactic| first | (guard_target =~ _ ∧ _; first | refine And.intro (by walk_at "sc") ?_) | (guard_target =~ KW.uIx _ _ _ _ _; first | refine ix_l (by walk_at "hp") (by first | walk_at "hv" | rfl) ?_ | refine ix_t (by walk_at "hp") (by first | walk_at "hv" | rfl) ?_ | refine ix_sl (by assumption) (by walk_at "hv") ?_) | (guard_target =~ KW.uLen _ _ _ _; first | refine len_l (by walk_at "hp") ?_ | refine len_t (by walk_at "hp") ?_ | refine len_sl (by assumption) ?_) | (guard_target =~ KW.uSet _ _ _ _ _; first | refine set_l (by walk_at "hp") (by first | walk_at "hv" | rfl) ?_) | (guard_target =~ L2.gTup _ _ _ _ _ _ _; first | refine tup_l (by walk_at "hp") (by rfl) ?_) | (guard_target =~ KW.uGet _ _ _ _ _; first | refine get_l (by walk_at "hp") (by walk_at "hc") (by decide) (by rfl) ?_) | (guard_target =~ KW.uPut _ _ _ _ _ _; first | refine put_l (by walk_at "hp") (by walk_at "hc") (by decide) (by simp) ?_) | (guard_target =~ KW.uMet.uMt _ _ _ _ _ _ _ _ _; first | refine met_l (by walk_at "hp") (by rfl) ?_) | (guard_target =~ KW.uMet.uMt _ _ _ _ _ _ _ _ _; first | refine ST.met_s (by assumption) (by decide) ?_) | (guard_target =~ ST.spExists _ _ _ _ _; first | refine ST.exists_s (by assumption) ?_) | (guard_target =~ ST.spUsed _ _ _ _ _; first | refine ST.used_s (by assumption) ?_) | (guard_target =~ KW.uGet _ _ _ _ _; first | refine ST.words_s (by assumption) (by walk_at "hc") (by decide) ?_) | (guard_target =~ KW.uDIn _ _ _ _; first | refine din_i (by walk_at "hp") ?_ | refine din_s (by walk_at "hp") ?_) | (guard_target =~ KW.uDGet _ _ _ _; first | refine dget_i (by walk_at "hp") (by walk_at "hv") ?_ | refine dget_s (by walk_at "hp") (by walk_at "hv") ?_) | (guard_target =~ KW.uDPut _ _ _ _ _; first | refine dput_i (by walk_at "hp") (by walk_at "sc") ?_ | refine dput_s (by walk_at "hp") (by walk_at "sc") ?_) | (guard_target =~ KW.uDDel _ _ _ _; first | refine ddel_i (by walk_at "hp") (by walk_at "hv") ?_ | refine ddel_s (by walk_at "hp") (by walk_at "hv") ?_) | (guard_target =~ KW.uMul2 _ _ _ _; first | refine rep_l (by walk_at "hp") (by walk_at "sc") (by walk_at "sc") (by walk_at "sc") ?_) | (guard_target =~ L2.rAppend _ _ _ _; first | refine app_l (by walk_at "hp") (by walk_at "sc") ?_) | (guard_target =~ L2.rPop _ _ _ _; first | refine pop_l (by walk_at "hp") (by walk_at "hv") ?_ | refine pops_l (by walk_at "hp") ?_) | (guard_target =~ L2.rClear _ _ _ _; first | refine clr_l (by walk_at "hp") ?_) | (guard_target =~ L2.rReverse _ _ _ _; first | refine rev_l (by walk_at "hp") ?_) | (guard_target =~ L2.rExtend _ _ _ _; first | refine ext_l (by walk_at "hp") (by walk_at "hp") (by walk_at "sc") ?_) | (guard_target =~ KW.uAdd _ _ _ _ _; first | refine ucat_l (by walk_at "hp") (by walk_at "hp") (by walk_at "sc") ?_) | (guard_target =~ KW.uSl _ _ _ _ _ _; first | refine usl_l (by walk_at "hp") ?_) | (guard_target =~ KW.uTru _ _ _ _; first | refine tru_l (by walk_at "hp") ?_ | refine tru_t (by walk_at "hp") ?_ | refine tru_d (by walk_at "hp") ?_ | refine tru_sl (by assumption) ?_) | (guard_target =~ L2.rIndex _ _ _ _ _; first | refine idx_s (by walk_at "hp") (by assumption) ?_ | refine idx_i (by walk_at "hp") (by assumption) ?_) | (guard_target =~ L2.rIn _ _ _ _ _ _; first | refine in_s (by walk_at "hp") ?_ | refine nin_s (by walk_at "hp") ?_ | refine in_i (by walk_at "hp") ?_ | refine nin_i (by walk_at "hp") ?_) | (guard_target =~ KW.uIsi _ _ _ _; first | refine isi_l (by walk_at "hp") (by decide +kernel) ?_ | refine isi_t (by walk_at "hp") (by decide +kernel) ?_ | refine isi_d (by walk_at "hp") (by decide +kernel) ?_) | (guard_target =~ KW.uList _ _ _ _; first | refine list_l (by walk_at "hp") ?_ | refine list_t (by walk_at "hp") ?_ | refine list_sl (by assumption) ?_) | (guard_target =~ KW.uDict _ _ _; first | refine dict_d (by walk_at "hp") ?_) | (guard_target =~ KW.uSorted _ _ _ _; first | refine srt_l (by walk_at "hp") ?_) | (guard_target =~ KW.uSum _ _ _ _; first | refine sum_l (by walk_at "hp") ?_) | (guard_target =~ KW.uDelC _ _ _ _; first | refine dels_l (by walk_at "hp") (by walk_at "sc") ?_) | (guard_target =~ L2.wAs _ _ _ _ _ _ _ _ _ _; first | refine as_yes (by walk_at "hx") ?_ | refine as_no (by walk_at "hx") ?_) | (guard_target =~ KW.uEf _ _ _ _ _ _ _ _ _; first | refine ef_l (by walk_at "he") (by decide) (by rfl) (by walk_at "hp") (by rfl) ?_) | (guard_target =~ KW.uIsE _ _ _ _ _ _ _; first | refine isE_r (by walk_at "he") (by walk_at "hp") (by walk_at "hk") ?_ | refine isE_t (by walk_at "he") (by walk_at "hp") (by walk_at "hk") ?_))
local macro_rules | `(tactic| walk_at "hv") => `(tactic| first | assumption)
local macro_rules | `(tactic| walk_at "kk") => `(tactic| repeat (first | walk_at "kw" | walk_at "kr"))
local macro_rules | `(tactic| walk_at "hc") => `(tactic| first | exact K06.Txt.c_Store (by assumption) | exact K06.Txt.c_Space (by assumption))
local macro_rules | `(tactic| walk_at "he") => `(tactic| first | exact K06.Txt.e_BadWord (by assumption) | exact K06.Txt.e_NoRoom (by assumption) | exact K06.Txt.e_NoNumber (by assumption) | exact K06.Txt.e_Wrong (by assumption))
local macro_rules | `(tactic| walk_at "hx") => `(tactic| first | exact K06.Txt.x_BadWord_KilnwardenError (by assumption) | exact K06.Txt.x_BadWord_NoNumber (by assumption) | exact K06.Txt.x_BadWord_NoRoom (by assumption) | exact K06.Txt.x_NoRoom_KilnwardenError (by assumption) | exact K06.Txt.x_NoRoom_NoNumber (by assumption) | exact K06.Txt.x_NoRoom_NoRoom (by assumption) | exact K06.Txt.x_NoNumber_KilnwardenError (by assumption) | exact K06.Txt.x_NoNumber_NoNumber (by assumption) | exact K06.Txt.x_NoNumber_NoRoom (by assumption) | exact K06.Txt.x_Wrong_KilnwardenError (by assumption) | exact K06.Txt.x_Wrong_NoNumber (by assumption) | exact K06.Txt.x_Wrong_NoRoom (by assumption))
local macro_rules | `(tactic| walk_at "hk") => `(tactic| first | exact K06.Txt.i_BadWord_NoNumber (by assumption) | exact K06.Txt.i_BadWord_NoRoom (by assumption) | exact K06.Txt.i_NoRoom_NoNumber (by assumption) | exact K06.Txt.i_NoRoom_NoRoom (by assumption) | exact K06.Txt.i_NoNumber_NoNumber (by assumption) | exact K06.Txt.i_NoNumber_NoRoom (by assumption) | exact K06.Txt.i_Wrong_NoNumber (by assumption) | exact K06.Txt.i_Wrong_NoRoom (by assumption))

local macro_rules | `(tactic| walk_at "kr") => `(tactic| first | (guard_target =~ KW.uGet _ _ _ _ _; refine ST.get_g (by assumption) (by rfl) (by walk_at "hc") (by decide) (by rfl) ?_) | (guard_target =~ KW.uMet.uMt _ _ _ _ _ _ _ _ _; refine ST.met_g (by assumption) (by rfl) (by decide) ?_))
section
variable {P : Program} {w : World} {K : Frag} {mg : Str → Option Value} {base : Heap} {a : Ads}
theorem ok_law (T : Txt P w K mg a) (TB : LamX.TabB base mg a.c_Store_close_up a.p_Store_close_up) : ∀ f fd, Fun K "law" "law" s_law f fd → FnOk P w K mg base (L2N.CX P w) 11 f fd ["script"] (sp_law63T K a.p_Store_close_up ("Store.close_up" ++ ".<locals>." ++ "<lambda>")) := by
  generalize hP0 : a.p_Store_close_up = P0
  have C__law_same := ok__law_same (P := P) (w := w) (base := base) T
  have C__law_is := ok__law_is (P := P) (w := w) (base := base) T
  have C__law_space := ok__law_space (P := P) (w := w) (base := base) T
  have C__law_deeds := ok__law_deeds (P := P) (w := w) (base := base) T
  have C__law_new := ok__law_new (P := P) (w := w) (base := base) T TB
  have C__law_deed := ok__law_deed (P := P) (w := w) (base := base) T TB
  have I_Space := ok_Space_init (P := P) (w := w) (base := base) T
  have M_Space_all_roots := ok_Space_all_roots (P := P) (w := w) (base := base) T
  rw [hP0] at C__law_space C__law_new C__law_deed
  refine DefAt.fn sc_law (fun vs H Q E h => ?_) (fun f cdv A outer s H vs Q E hr h => ⟨_, (pss_cons (k_setLc (i := 1) (own := [("cell", 2)]) (g := gName 2) (by rfl) sc_law.nd rfl rfl (sw_true rfl rfl rfl (by decide +kernel)) (pi_list (kv 0)) (blkOk_by (own := [("cell", 2)]) (N := ["script", "cells", "cell", "made", "space", "fresh", "k", "x"]) (sc := defScope s_law) (by decide +kernel)) (fun _ _ _ _ _ => pg_name (i := 2) sc_law.nd rfl (Or.inl rfl)) (fun _ _ _ _ _ => pts_nil) (fun _ _ _ _ _ => by exact (pe_callTy c_int (by rfl) T.n_int (by decide +kernel) (pa_cons (kv 2) pa_nil))))
      (C8.pss_cut (k_while (passes_of rfl) (pt_cmpR o_lt (pe_callB c_len (by rfl) T.n_len (by decide +kernel) (pa_cons (kv 1) pa_nil)) pe_int (nomark _))
      (pss_one (ps_expr (pe_bm PySem.F.plainAttrs_list PySem.F.slot_list_append PySem.F.type_list_append mt_append (kv 1) (pa_cons pe_int pa_nil)))))
      (pss_cons (ps_set (i := 3) sc_law.nd rfl (Or.inl rfl) (kc C__law_space (hr.mono (by decide)) (pa_cons (kv 1) pa_nil)))
      (pss_cons (ps_set (i := 4) sc_law.nd rfl (Or.inl rfl) (pe_ix o_ix (kv 3) pe_int (fun _ _ => rfl)))
      (pss_cons (ps_set (i := 5) sc_law.nd rfl (Or.inl rfl) (kmk 0 I_Space (hr.mono (by decide)) (pa_cons pe_int (pa_cons pe_int pa_nil))))
      (pss_cons (ps_if (PW.pt (pw_or (pt_not (kt (kc C__law_same (hr.mono (by decide)) (pa_cons (k_fld (kv 5) rfl) (pa_cons (pe_lst pa_nil) pa_nil))))) (pw_or (pt_cmpR o_isnot (k_fld (kv 5) rfl) pe_bl (nomark _)) (pw_or1 (pt_not (kt (kc C__law_same (hr.mono (by decide)) (pa_cons (k_fld (kv 4) rfl) (pa_cons (pe_ix o_ix (pe_ix o_ix (kv 3) pe_int (fun _ _ => rfl)) pe_int (fun _ _ => rfl)) pa_nil)))))))))
      (pss_one (ps_ret pe_bl))
      pss_nil)
      (pss_cons (ps_if (PW.pt (pw_or (pt_not (kt (pe_callB c_isi (by rfl) T.n_isinstance (by decide +kernel) (pa_cons (k_fld (kv 4) rfl) (pa_cons (pe_bltn (v := .ty "bool") (by rfl) T.n_bool (by decide +kernel) rfl) pa_nil))))) (pw_or1 (pt_cmpR (o_ne hr.units) (k_fld (kv 4) rfl) (pe_ix o_ix (pe_ix o_ix (kv 3) pe_int (fun _ _ => rfl)) pe_int (fun _ _ => rfl)) (nomark _)))))
      (pss_one (ps_ret pe_bl))
      pss_nil)
      (C8.pss_cut (ps_if (PW.pt (pw_or (pt_not (kt (kc C__law_is (hr.mono (by decide)) (pa_cons (k_g T.g_ROOTS) (pa_cons pe_int pa_nil))))) (pw_or (pt_not (kt (kc C__law_same (hr.mono (by decide)) (pa_cons (km0 M_Space_all_roots (hr.mono (by decide)) (kv 4)) (pa_cons (pe_op o_mul2 (pe_lst (pa_cons pe_int pa_nil)) pe_int) pa_nil))))) (pw_or1 (pt_not (kt (kc C__law_is (hr.mono (by decide)) (pa_cons (k_fld (kv 4) rfl) (pa_cons pe_int pa_nil)))))))))
      (pss_one (ps_ret pe_bl))
      pss_nil)
      (pss_cons (ps_if (pt_not (kt (kc C__law_is (hr.mono (by decide)) (pa_cons (kc C__law_new (hr.mono (by decide)) (pa_cons (kv 4) (pa_cons (pe_ix o_ix (kv 3) pe_int (fun _ _ => rfl)) (pa_cons pe_int (pa_cons pe_int pa_nil))))) (pa_cons pe_int pa_nil)))))
      (pss_one (ps_ret pe_bl))
      pss_nil)
      (pss_cons (k_for (passes_of rfl) rfl (pi_range2 (by rfl) T.n_range (pa_cons pe_int (pa_cons (pe_callB c_len (by rfl) T.n_len (by decide +kernel) (pa_cons (kv 1) pa_nil)) pa_nil))) (pg_name (i := 6) sc_law.nd rfl (Or.inl rfl))
      (pss_one (k_for (passes_of rfl) rfl (pi_list (kc C__law_deeds (hr.mono (by decide)) (pa_cons (pe_ix o_ix (kv 1) (kv 6) (fun _ _ => rfl)) (pa_cons (kv 6) pa_nil)))) (pg_name (i := 7) sc_law.nd rfl (Or.inl rfl))
      (pss_one (ps_if (pt_not (kt (kc C__law_deed (hr.mono (by decide)) (pa_cons (kv 4) (pa_cons (pe_ix o_ix (kv 3) pe_int (fun _ _ => rfl)) (pa_cons (kv 7) pa_nil))))))
      (pss_one (ps_ret pe_bl))
      pss_nil)))))
      (pss_one (ps_ret pe_bl)))))))))))), ?_⟩)
  · obtain ⟨sc, ns, rfl, _⟩ := h; rfl
  · obtain ⟨sc, ns, rfl, hS, hn, hT, h⟩ := h
    have hT : LamX.TabS H P0 ("Store.close_up" ++ ".<locals>.<lambda>") := hT
    walk_at "kw"
    refine ⟨⟨_, hS⟩, ?_⟩
    refine lc_ii (fun n => some n) hS (lt_line (by omega)) ?_ ?_
    · intro i x D acc Cy Cn hx hD h1 h2
      walk_at "kk"
      exact h1 _ rfl
    intro ce hD
    rw [List.filterMap_some]
    have hT0 := hT.add (o' := .lst (ns.map V.int)) hD
    have h0 : IL (upd H ce (.lst (ns.map V.int))) ce ns := upd_same
    revert hT0 h0
    generalize upd H ce (.lst (ns.map V.int)) = H0
    intro hT0 h0
    refine ⟨fun σ H' => ∃ cs, σ = [some (.ref sc), some (.ref ce), none, none, none, none, none, none] ∧ IL H' ce cs ∧ 2 ≤ cs.length ∧ cs.length ≤ 64 ∧ LamX.TabS H' P0 ("Store.close_up" ++ ".<locals>.<lambda>"), ?_, ?_⟩
    · refine ⟨fun m σ H' => ∃ cs, σ = [some (.ref sc), some (.ref ce), none, none, none, none, none, none] ∧ IL H' ce cs ∧ cs.length ≤ 64 ∧ m = 2 - cs.length ∧ LamX.TabS H' P0 ("Store.close_up" ++ ".<locals>.<lambda>"), ⟨_, ns, rfl, h0, by omega, rfl, hT0⟩, ?_⟩
      rintro m σ H' ⟨cs, rfl, h1, hl1, rfl, hT1⟩
      walk_at "kk"
      split
      · walk_at "kk"
        refine ⟨_, ?_, cs ++ [4], ?_, by simp; omega, rfl, ?_⟩
        · simp; omega
        · show _ = _
          rw [upd_same]; simp
        · exact hT1.upd h1 pln_lst
      · walk_at "kk"
        exact ⟨cs, h1, by omega, hl1, hT1⟩
    clear h0 hT0
    rintro σ H0 ⟨cs, rfl, h0, c2, c64, hT0⟩
    walk_at "kk"
    refine ⟨ce, cs, rfl, h0, c2, by omega, hT0, fun d lm mo tu H1 X e4 e9 e10 e11 q1 q2 f1 t1 nG nt => ?_⟩
    have h1 := f1 _ _ (by simp) h0
    have cG : ce ∉ fpG d := fun z => by have := nG ce z; unfold IL at h0; rw [h0] at this; cases this
    have uG : tu ∉ fpG d := tup_out X.s.Z t1
    have cP : ce ≠ P0 := fun z => X.s.T.ne h1 pln_lst.1 z
    have uP : tu ≠ P0 := fun z => X.s.T.ne t1 pln_tup.1 z
    have Z1 := X.s.Z
    have pe1 : H1 d.pr = some (.lst (d.P.map V.int)) := Z1.pe
    have hd1 := X.l.hd
    have mo1 : H1 mo = some (.lst (d.P.map V.int)) := X.l.mo
    walk_at "kk"
    intro s2 dx hs2 hdx hne
    have f2 : KW.Fr [] H1 (upd (upd H1 dx (.own s2)) s2 (.ins a.Space dx [])) := (Fr.new hdx).trans (Fr.new (by rw [upd_ne (Ne.symm hne)]; exact hs2))
    have k2 : upd (upd H1 dx (.own s2)) s2 (.ins a.Space dx []) s2 = some (.ins a.Space dx []) := upd_same
    revert f2 k2
    generalize upd (upd H1 dx (.own s2)) s2 (.ins a.Space dx []) = H2
    intro f2 k2
    refine ⟨s2, dx, 3, 1, rfl, k2, by omega, by omega, by omega, fun b H3 b1 b2 b3 b4 b5 b6 b7 b8 b9 b10 b11 Zb f3 _ => ?_⟩
    subst b1
    have F3 : KW.Fr [] H1 H3 := Fr.frs f2 f3 (by simp [hs2])
    clear f2 f3 k2 hne hdx hs2
    have Zd := Z1.fr0 F3
    have pb : H3 b.pr = some (.lst []) := by have := Zb.pe; unfold IL at this; rw [b8] at this; exact this
    have pd := F3 _ _ (by simp) pe1
    have hd3 := F3 _ _ (by simp) hd1
    have mo3 := F3 _ _ (by simp) mo1
    have t3 := F3 _ _ (by simp) t1
    refine ⟨rfl, ?_⟩
    refine ST.get_g Zb rfl (by walk_at "hc") (by decide) (by rfl) ?_
    walk_at "kk"
    intro q hq
    refine same_s (xs := []) (by show upd _ _ _ _ = _; rw [upd_ne (ne_of_none pb hq)]; exact pb) upd_same (by simp) ?_
    have F4 : KW.Fr [] H3 (upd H3 q (.lst [])) := Fr.new hq
    revert F4
    generalize upd H3 q (.lst []) = H4
    intro F4
    walk_at "kk"
    refine ST.get_g (Zb.fr0 F4) rfl (by walk_at "hc") (by decide) (by rfl) ?_
    rw [b6]
    clear hq
    have Z4 := Zd.fr0 F4
    have F14 := F3.trans F4
    have hd4 := F4 _ _ (by simp) hd3
    have mo4 := F4 _ _ (by simp) mo3
    have pd4 := F4 _ _ (by simp) pd
    have t4 := F4 _ _ (by simp) t3
    have X4 := X.fr0 F14
    have T4 := X4.s.T
    have c4 := F14 _ _ (by simp) h1
    clear Zd hd3 mo3 pd t3 F4 F3 pb Zb hT0 h0
    walk_at "kk"
    refine same_s (xs := d.P) pd4 mo4 (by have := Z4.p9; omega) ?_
    walk_at "kk"
    have lws : d.ws.length ≤ 2000 := by have := Z4.r16; have := Z4.l9; simp; omega
    refine ⟨fun σ H' => σ = [some (.ref sc), some (.ref ce), none, some (.ref tu), some (.ref d.sp), some (.ref b.sp), none, none] ∧ KW.Fr [] H4 H', ?_, ?_⟩
    · walk_at "kk"
      refine is_s ?_
      simp only [decide_true]
      walk_at "kk"
      refine ⟨d, rfl, Z4, fun l H5 hl f5 i5 => ?_⟩
      refine ⟨lt_line (by decide), fun l2 hl2 => ?_⟩
      have n12 : l ≠ l2 := ne_of_none i5 hl2
      refine rep_l (xs := [V.int 0]) upd_same (by omega) (by omega) (le_line (by simp)) fun l3 hl3 => ?_
      have n13 : l ≠ l3 := ne_of_none (by rw [upd_ne n12]; exact i5) hl3
      have ew : d.ws = List.replicate 17 0 := by show 0 :: (d.R ++ d.L) = _; rw [e10, e11]; rfl
      have e17 : (List.replicate ((17 : Int)).toNat [V.int 0]).flatten = d.ws.map V.int := by rw [ew]; rfl
      rw [e17]
      refine same_s (xs := d.ws) (by show upd _ _ _ _ = _; rw [upd_ne n13, upd_ne n12]; exact i5) upd_same (by omega) ?_
      have f6 : KW.Fr [] H4 (upd (upd H5 l2 (.lst [.int 0])) l3 (.lst (d.ws.map V.int))) := (f5.trans (Fr.new hl2)).trans (Fr.new hl3)
      revert f6
      generalize upd (upd H5 l2 (.lst [.int 0])) l3 (.lst (d.ws.map V.int)) = H6
      intro f6
      clear hl3
      have Z6 := Z4.fr0 f6
      walk_at "kk"
      refine is_s ?_
      simp only [e4, decide_true]
      walk_at "kk"
      exact f6
    rintro σ H5 ⟨rfl, f5⟩
    have X5 := X4.fr0 f5
    have t5 := f5 _ _ (by simp) t4
    have c5 := f5 _ _ (by simp) c4
    clear Z4 hd4 mo4 pd4 t4 X4 T4 c4
    walk_at "kk"
    refine ⟨d, lm, mo, 0, 0, rfl, X5.s, X5.l, X5.n, by omega, fun r c wd' pl' B' H6 S6' m6 hr => ?_⟩
    rw [hr e9 (by omega) q2]
    have N6 : Nx a.Space a.Store P0 ("Store.close_up" ++ ".<locals>.<lambda>") lm mo H5 d H6 { d with al := d.al + 1, co := d.co + c, wd := wd', pl := pl', B := B' } 0 := by
      obtain ⟨l', n'⟩ := lims_mov X5.s.Z X5.s.T X5.l X5.n m6
      exact ⟨⟨S6', ⟨l'.hd, l'.mo⟩, n'⟩, m6.mv6, rfl, by simp⟩
    refine is_s ?_
    simp only [decide_true]
    obtain ⟨d6, hd6⟩ : ∃ d6 : Gd, d6 = { d with al := d.al + 1, co := d.co + c, wd := wd', pl := pl', B := B' } := ⟨_, rfl⟩
    rw [← hd6] at N6
    clear hd6 m6 S6' hr
    obtain ⟨c6, cG6⟩ := N6.keep c5 cG cP
    obtain ⟨t6, uG6⟩ := N6.keep t5 uG uP
    have X6 := N6.w
    have e6 : d6.sp = d.sp := N6.e
    have l6 : d6.L.length = 0 := by have := N6.len; rw [e11] at this; simpa using this
    clear N6 t5 c5 X5
    walk_at "kk"
    obtain ⟨Pv, hPv⟩ : ∃ Pv : Nat → L2.St → Hp → Prop, Pv = fun i σ H' => ∃ (dd : Gd) (v6 v7 : Option V), σ = [some (.ref sc), some (.ref ce), none, some (.ref tu), some (.ref d.sp), some (.ref b.sp), v6, v7] ∧ W6 a.Space a.Store P0 ("Store.close_up" ++ ".<locals>.<lambda>") lm mo H' dd ∧ dd.sp = d.sp ∧ dd.L.length ≤ 2 * i ∧ H' ce = some (.lst (cs.map V.int)) ∧ H' tu = some (.tup [.ref d.sp, .ref lm]) ∧ ce ∉ fpG dd ∧ tu ∉ fpG dd := ⟨_, rfl⟩
    have en : ((cs.length : Int) - 2).toNat = cs.length - 2 := by omega
    rw [en]
    refine for_rng Pv (by rw [hPv]; exact ⟨d6, _, _, rfl, X6, e6, by omega, c6, t6, cG6, uG6⟩) ?_ ?_
    · intro i σ H7 hi hp
      rw [hPv] at hp
      obtain ⟨dd, v6, v7, rfl, X7, e7, l7, c7, t7, cG7, uG7⟩ := hp
      obtain ⟨z, hz⟩ : ∃ z, cs[2 + i]? = some z := ⟨_, List.getElem?_eq_getElem (by omega)⟩
      have ei : (2 : Int) + (i : Int) = ((2 + i : Nat) : Int) := by omega
      have hv : atI (cs.map V.int) (2 + (i : Int)) = some (.int z) := by rw [ei]; exact atI_map (f := V.int) hz
      walk_at "kk"
      refine ⟨z, _, rfl, by omega, by omega, fun l x y hl x0 y0 => ?_⟩
      have f8 : KW.Fr [] H7 (upd H7 l (.lst [.int x, .int y])) := Fr.new hl
      have i8 : upd H7 l (.lst [.int x, .int y]) l = some (.lst [.int x, .int y]) := upd_same
      have lG : l ∉ fpG dd := fun z => by obtain ⟨o, ho⟩ := X7.s.Z.there l z; rw [hl] at ho; cases ho
      revert f8 i8
      generalize upd H7 l (.lst [.int x, .int y]) = H8
      intro f8 i8
      have X8 := X7.fr0 f8
      have c8 := f8 _ _ (by simp) c7
      have t8 := f8 _ _ (by simp) t7
      have lP : l ≠ P0 := fun z => X8.s.T.ne i8 pln_lst.1 z
      refine ⟨l, rfl, ⟨_, .of i8⟩, ?_⟩
      obtain ⟨Qv, hQv⟩ : ∃ Qv : Nat → L2.St → Hp → Prop, Qv = fun j σ H' => ∃ (dd : Gd) (v7 : Option V), σ = [some (.ref sc), some (.ref ce), none, some (.ref tu), some (.ref d.sp), some (.ref b.sp), some (.int (2 + (i : Int))), v7] ∧ W6 a.Space a.Store P0 ("Store.close_up" ++ ".<locals>.<lambda>") lm mo H' dd ∧ dd.sp = d.sp ∧ dd.L.length ≤ 2 * i + j ∧ H' ce = some (.lst (cs.map V.int)) ∧ H' tu = some (.tup [.ref d.sp, .ref lm]) ∧ ce ∉ fpG dd ∧ tu ∉ fpG dd ∧ H' l = some (.lst [.int x, .int y]) ∧ l ∉ fpG dd := ⟨_, rfl⟩
      refine for_lst Qv (by rw [hQv]; exact ⟨dd, _, rfl, X8, e7, by omega, c8, t8, cG7, uG7, i8, lG⟩) (fun j σ H9 _ hq => by rw [hQv] at hq; obtain ⟨_, _, _, _, _, _, _, _, _, _, k, _⟩ := hq; exact .of k) ?_ ?_
      · intro j v σ H9 hj hq
        rw [hQv] at hq
        obtain ⟨d9, v7', rfl, X9, e9', l9, c9, t9, cG9, uG9, i9, lG9⟩ := hq
        obtain ⟨u, rfl, u0⟩ : ∃ u : Int, v = .int u ∧ 0 ≤ u := by
          match j, hj with
          | 0, hj => simp at hj; exact ⟨x, hj.symm, x0⟩
          | 1, hj => simp at hj; exact ⟨y, hj.symm, y0⟩
        have j2 : j < 2 := by
          have := (List.getElem?_eq_some_iff.mp hj).1
          simpa using this
        walk_at "kk"
        refine ⟨d9, lm, mo, u, by rw [e9'], X9, u0, by omega, fun d10 H10 N10 => ?_⟩
        walk_at "kk"
        rw [hQv]
        obtain ⟨c10, cG10⟩ := N10.keep c9 cG9 cP
        obtain ⟨t10, uG10⟩ := N10.keep t9 uG9 uP
        obtain ⟨i10, lG10⟩ := N10.keep i9 lG9 lP
        exact ⟨d10, _, rfl, N10.w, N10.e.trans e9', by have := N10.len; omega, c10, t10, cG10, uG10, i10, lG10⟩
      · intro σ H9 hq
        rw [hQv] at hq
        obtain ⟨d9, v7', rfl, X9, e9', l9, c9, t9, cG9, uG9, i9, lG9⟩ := hq
        rw [hPv]
        exact ⟨d9, _, _, rfl, X9, e9', by simp at l9; omega, c9, t9, cG9, uG9⟩
    · intro σ H7 hp
      rw [hPv] at hp
      obtain ⟨dd, v6, v7, rfl, _⟩ := hp
      walk_at "kk"
      exact h _
end
end K06

set_option Elab.async false
set_option linter.all false
set_option maxRecDepth 100000
namespace K06
end K06
open PySem PySem.W PyProof.Rows
set_option maxRecDepth 100000 in
set_option maxHeartbeats 0 in
theorem PySem.Challenge.cw_kilnwarden_k06_new_harms_nothing_reached_holds : PySem.Challenge.rw_kilnwarden_k06_new_harms_nothing_reached.Holds := by
  w_on; o_law; k_head; (case hw => w_witness2)
  k_fill
  refine KW.walk63T (k := 11) (l := PySem.Challenge.rw_kilnwarden_k06_new_harms_nothing_reached) (st := K06.s_law) rfl rfl rfl ⟨rfl, by decide, by decide⟩ (fun w h Y => PySem.W.km_in_of Y) (fun _ _ _ _ _ _ us hl => match us, hl with | [_], _ => rfl) ?F
  case F =>
    intro w mg h Y KX G
    have hT8 := PySem.W.km_tabs_of Y
    have T : ∃ a : K06.Ads, K06.Txt PySem.Challenge.rw_kilnwarden_k06_new_harms_nothing_reached.prog w (L2.KOf KX) mg a ∧ h.get? a.p_Store_close_up = some { cls := .none, data := .fields #[] } := by
      delta L2.KOf
      refine' K06.Txt.exT ?T ?hp
      case hp => exact hT8 _ (List.Mem.head _)
      case T =>
        constructor
        all_goals (try dsimp only)
        case g_KilnwardenError => refine' PySem.W.mg_of KX G ?za; (case za => k_is)
        case g_BadWord => refine' PySem.W.mg_of KX G ?za; (case za => k_is)
        case g_NoRoom => refine' PySem.W.mg_of KX G ?za; (case za => k_is)
        case g_NoNumber => refine' PySem.W.mg_of KX G ?za; (case za => k_is)
        case g_Wrong => refine' PySem.W.mg_of KX G ?za; (case za => k_is)
        case g_Store => refine' PySem.W.mg_of KX G ?za; (case za => k_is)
        case g_Space => refine' PySem.W.mg_of KX G ?za; (case za => k_is)
        case e_BadWord =>
          refine' PySem.KErr_word.err_mk K06.s_BadWord_init KX G ?zaC ?zxL ?zbmv ?zsup ?zsa ?zno ?za1 ?zt1 ?zkC ?zeC ?zvC ?ztC ?zown ?ztp ?zdg ?znsup ?znstr ?zhst ?zl1 ?zc1 ?zmc ?zac ?zce ?zco ?zcf ?zcg ?ztop ?zhg ?zhk ?zhd ?zha ?zhn ?zht ?zhm
          (case zaC => k_is)
          (case zxL => k_is)
          (case zbmv => first | rfl | decide +kernel)
          (case zsup => ks_is)
          (case zsa => k_is)
          (case zno => k_is)
          (case za1 => k_is)
          (case zt1 => k_is)
          (case zkC => k_is)
          (case zeC => k_is)
          (case zvC => k_is)
          (case ztC => k_is)
          (case zown => k_is)
          (case ztp => k_is)
          (case zdg => k_is)
          (case znsup => k_is)
          (case znstr => k_is)
          (case zhst => exact ⟨rfl, rfl, rfl⟩)
          (case zl1 => k_is)
          (case zc1 => k_is)
          (case zmc => exact fun env => ⟨_, rfl⟩)
          (case zac => exact fun env => rfl)
          (case zce => k_is)
          (case zco => k_is)
          (case zcf => first | rfl | k_is)
          (case zcg => first | decide +kernel | k_is)
          (case ztop => first | decide +kernel | k_is)
          (case zhg => k_is)
          (case zhk => k_is)
          (case zhd => k_is)
          (case zha => k_is)
          (case zhn => k_is)
          (case zht => k_is)
          (case zhm => k_is)
        case x_BadWord_KilnwardenError => refine' PySem.W.exm_ref ?za ?zb ?zc ?zd; (case za => k_is); (case zb => k_is); (case zc => k_is); (case zd => k_is)
        case x_BadWord_NoNumber => refine' PySem.W.exm_ref ?za ?zb ?zc ?zd; (case za => k_is); (case zb => k_is); (case zc => k_is); (case zd => k_is)
        case x_BadWord_NoRoom => refine' PySem.W.exm_ref ?za ?zb ?zc ?zd; (case za => k_is); (case zb => k_is); (case zc => k_is); (case zd => k_is)
        case i_BadWord_NoNumber => kit_is
        case i_BadWord_NoRoom => kit_is
        case e_NoRoom =>
          refine' PySem.KErr_need.err_mk K06.s_NoRoom_init KX G ?zaC ?zxL ?zbmv ?zsup ?zsa ?zno ?za1 ?zt1 ?zkC ?zeC ?zvC ?ztC ?zown ?ztp ?zdg ?znsup ?znstr ?zhst ?zl1 ?zc1 ?zmc ?zac ?zce ?zco ?zcf ?zcg ?ztop ?zhg ?zhk ?zhd ?zha ?zhn ?zht ?zhm
          (case zaC => k_is)
          (case zxL => k_is)
          (case zbmv => first | rfl | decide +kernel)
          (case zsup => ks_is)
          (case zsa => k_is)
          (case zno => k_is)
          (case za1 => k_is)
          (case zt1 => k_is)
          (case zkC => k_is)
          (case zeC => k_is)
          (case zvC => k_is)
          (case ztC => k_is)
          (case zown => k_is)
          (case ztp => k_is)
          (case zdg => k_is)
          (case znsup => k_is)
          (case znstr => k_is)
          (case zhst => exact ⟨rfl, rfl, rfl⟩)
          (case zl1 => k_is)
          (case zc1 => k_is)
          (case zmc => exact fun env => ⟨_, rfl⟩)
          (case zac => exact fun env => rfl)
          (case zce => k_is)
          (case zco => k_is)
          (case zcf => first | rfl | k_is)
          (case zcg => first | decide +kernel | k_is)
          (case ztop => first | decide +kernel | k_is)
          (case zhg => k_is)
          (case zhk => k_is)
          (case zhd => k_is)
          (case zha => k_is)
          (case zhn => k_is)
          (case zht => k_is)
          (case zhm => k_is)
        case x_NoRoom_KilnwardenError => refine' PySem.W.exm_ref ?za ?zb ?zc ?zd; (case za => k_is); (case zb => k_is); (case zc => k_is); (case zd => k_is)
        case x_NoRoom_NoNumber => refine' PySem.W.exm_ref ?za ?zb ?zc ?zd; (case za => k_is); (case zb => k_is); (case zc => k_is); (case zd => k_is)
        case x_NoRoom_NoRoom => refine' PySem.W.exm_ref ?za ?zb ?zc ?zd; (case za => k_is); (case zb => k_is); (case zc => k_is); (case zd => k_is)
        case i_NoRoom_NoNumber => kit_is
        case i_NoRoom_NoRoom => kit_is
        case e_NoNumber =>
          refine' PySem.KErr_limit.err_mk K06.s_NoNumber_init KX G ?zaC ?zxL ?zbmv ?zsup ?zsa ?zno ?za1 ?zt1 ?zkC ?zeC ?zvC ?ztC ?zown ?ztp ?zdg ?znsup ?znstr ?zhst ?zl1 ?zc1 ?zmc ?zac ?zce ?zco ?zcf ?zcg ?ztop ?zhg ?zhk ?zhd ?zha ?zhn ?zht ?zhm
          (case zaC => k_is)
          (case zxL => k_is)
          (case zbmv => first | rfl | decide +kernel)
          (case zsup => ks_is)
          (case zsa => k_is)
          (case zno => k_is)
          (case za1 => k_is)
          (case zt1 => k_is)
          (case zkC => k_is)
          (case zeC => k_is)
          (case zvC => k_is)
          (case ztC => k_is)
          (case zown => k_is)
          (case ztp => k_is)
          (case zdg => k_is)
          (case znsup => k_is)
          (case znstr => k_is)
          (case zhst => exact ⟨rfl, rfl, rfl⟩)
          (case zl1 => k_is)
          (case zc1 => k_is)
          (case zmc => exact fun env => ⟨_, rfl⟩)
          (case zac => exact fun env => rfl)
          (case zce => k_is)
          (case zco => k_is)
          (case zcf => first | rfl | k_is)
          (case zcg => first | decide +kernel | k_is)
          (case ztop => first | decide +kernel | k_is)
          (case zhg => k_is)
          (case zhk => k_is)
          (case zhd => k_is)
          (case zha => k_is)
          (case zhn => k_is)
          (case zht => k_is)
          (case zhm => k_is)
        case x_NoNumber_KilnwardenError => refine' PySem.W.exm_ref ?za ?zb ?zc ?zd; (case za => k_is); (case zb => k_is); (case zc => k_is); (case zd => k_is)
        case x_NoNumber_NoNumber => refine' PySem.W.exm_ref ?za ?zb ?zc ?zd; (case za => k_is); (case zb => k_is); (case zc => k_is); (case zd => k_is)
        case x_NoNumber_NoRoom => refine' PySem.W.exm_ref ?za ?zb ?zc ?zd; (case za => k_is); (case zb => k_is); (case zc => k_is); (case zd => k_is)
        case i_NoNumber_NoNumber => kit_is
        case i_NoNumber_NoRoom => kit_is
        case e_Wrong =>
          refine' PySem.KErr_why.err_mk K06.s_Wrong_init KX G ?zaC ?zxL ?zbmv ?zsup ?zsa ?zno ?za1 ?zt1 ?zkC ?zeC ?zvC ?ztC ?zown ?ztp ?zdg ?znsup ?znstr ?zhst ?zl1 ?zc1 ?zmc ?zac ?zce ?zco ?zcf ?zcg ?ztop ?zhg ?zhk ?zhd ?zha ?zhn ?zht ?zhm
          (case zaC => k_is)
          (case zxL => k_is)
          (case zbmv => first | rfl | decide +kernel)
          (case zsup => ks_is)
          (case zsa => k_is)
          (case zno => k_is)
          (case za1 => k_is)
          (case zt1 => k_is)
          (case zkC => k_is)
          (case zeC => k_is)
          (case zvC => k_is)
          (case ztC => k_is)
          (case zown => k_is)
          (case ztp => k_is)
          (case zdg => k_is)
          (case znsup => k_is)
          (case znstr => k_is)
          (case zhst => exact ⟨rfl, rfl, rfl⟩)
          (case zl1 => k_is)
          (case zc1 => k_is)
          (case zmc => exact fun env => ⟨_, rfl⟩)
          (case zac => exact fun env => rfl)
          (case zce => k_is)
          (case zco => k_is)
          (case zcf => first | rfl | k_is)
          (case zcg => first | decide +kernel | k_is)
          (case ztop => first | decide +kernel | k_is)
          (case zhg => k_is)
          (case zhk => k_is)
          (case zhd => k_is)
          (case zha => k_is)
          (case zhn => k_is)
          (case zht => k_is)
          (case zhm => k_is)
        case x_Wrong_KilnwardenError => refine' PySem.W.exm_ref ?za ?zb ?zc ?zd; (case za => k_is); (case zb => k_is); (case zc => k_is); (case zd => k_is)
        case x_Wrong_NoNumber => refine' PySem.W.exm_ref ?za ?zb ?zc ?zd; (case za => k_is); (case zb => k_is); (case zc => k_is); (case zd => k_is)
        case x_Wrong_NoRoom => refine' PySem.W.exm_ref ?za ?zb ?zc ?zd; (case za => k_is); (case zb => k_is); (case zc => k_is); (case zd => k_is)
        case i_Wrong_NoNumber => kit_is
        case i_Wrong_NoRoom => kit_is
        case c_Store => refine' KW.clsA_mk KX G ?za ?zb ?zc ?zd ?ze ?zf; (case za => k_is); (case zb => k_is); (case zc => k_is); (case zd => k_is); (case ze => k_is); (case zf => (intro f hf; simp only [List.mem_cons, List.not_mem_nil, or_false] at hf; rcases hf with rfl | rfl | rfl | rfl | rfl <;> k_is))
        case c_Space => refine' KW.clsA_mk KX G ?za ?zb ?zc ?zd ?ze ?zf; (case za => k_is); (case zb => k_is); (case zc => k_is); (case zd => k_is); (case ze => k_is); (case zf => (intro f hf; simp only [List.mem_cons, List.not_mem_nil, or_false] at hf; rcases hf with rfl | rfl | rfl | rfl | rfl | rfl | rfl | rfl <;> k_is))
        case ini_Store => refine' KW.iniAt_mk ?zkc ?zmk ?za ?zf ?zk ?zl ?zc ?zb; (case zkc => k_is); (case zmk => k_is); (case za => k_is); (case zf => k_is); (case zk => k_is); (case zl => k_is); (case zc => k_is); (case zb => exact fun _ _ _ _ _ _ us hl => match us, hl with | [_, _, _], _ => rfl)
        case m_Store_used => refine' KW.metAt_mk ?za ?zf ?zk ?zl ?zc ?zb; (case za => k_is); (case zf => k_is); (case zk => k_is); (case zl => k_is); (case zc => k_is); (case zb => exact fun _ _ _ _ _ _ us hl => match us, hl with | [_], _ => rfl)
        case m_Store_exists => refine' KW.metAt_mk ?za ?zf ?zk ?zl ?zc ?zb; (case za => k_is); (case zf => k_is); (case zk => k_is); (case zl => k_is); (case zc => k_is); (case zb => exact fun _ _ _ _ _ _ us hl => match us, hl with | [_, _], _ => rfl)
        case m_Store_numbers => refine' KW.metAt_mk ?za ?zf ?zk ?zl ?zc ?zb; (case za => k_is); (case zf => k_is); (case zk => k_is); (case zl => k_is); (case zc => k_is); (case zb => exact fun _ _ _ _ _ _ us hl => match us, hl with | [_], _ => rfl)
        case m_Store_free_number => refine' KW.metAt_mk ?za ?zf ?zk ?zl ?zc ?zb; (case za => k_is); (case zf => k_is); (case zk => k_is); (case zl => k_is); (case zc => k_is); (case zb => exact fun _ _ _ _ _ _ us hl => match us, hl with | [_], _ => rfl)
        case m_Store_allocate => refine' KW.metAt_mk ?za ?zf ?zk ?zl ?zc ?zb; (case za => k_is); (case zf => k_is); (case zk => k_is); (case zl => k_is); (case zc => k_is); (case zb => exact fun _ _ _ _ _ _ us hl => match us, hl with | [_, _, _], _ => rfl)
        case m_Store_size => refine' KW.metAt_mk ?za ?zf ?zk ?zl ?zc ?zb; (case za => k_is); (case zf => k_is); (case zk => k_is); (case zl => k_is); (case zc => k_is); (case zb => exact fun _ _ _ _ _ _ us hl => match us, hl with | [_, _], _ => rfl)
        case m_Store_kind => refine' KW.metAt_mk ?za ?zf ?zk ?zl ?zc ?zb; (case za => k_is); (case zf => k_is); (case zk => k_is); (case zl => k_is); (case zc => k_is); (case zb => exact fun _ _ _ _ _ _ us hl => match us, hl with | [_, _], _ => rfl)
        case m_Store_get => refine' KW.metAt_mk ?za ?zf ?zk ?zl ?zc ?zb; (case za => k_is); (case zf => k_is); (case zk => k_is); (case zl => k_is); (case zc => k_is); (case zb => exact fun _ _ _ _ _ _ us hl => match us, hl with | [_, _, _], _ => rfl)
        case m_Store_put => refine' KW.metAt_mk ?za ?zf ?zk ?zl ?zc ?zb; (case za => k_is); (case zf => k_is); (case zk => k_is); (case zl => k_is); (case zc => k_is); (case zb => exact fun _ _ _ _ _ _ us hl => match us, hl with | [_, _, _, _], _ => rfl)
        case m_Store_slots => refine' KW.metAt_mk ?za ?zf ?zk ?zl ?zc ?zb; (case za => k_is); (case zf => k_is); (case zk => k_is); (case zl => k_is); (case zc => k_is); (case zb => exact fun _ _ _ _ _ _ us hl => match us, hl with | [_, _], _ => rfl)
        case m_Store_drop => refine' KW.metAt_mk ?za ?zf ?zk ?zl ?zc ?zb; (case za => k_is); (case zf => k_is); (case zk => k_is); (case zl => k_is); (case zc => k_is); (case zb => exact fun _ _ _ _ _ _ us hl => match us, hl with | [_, _], _ => rfl)
        case m_Store_close_up => refine' KW.metAtC_mk ?za ?zf ?zk ?zl ?zc ?zb; (case za => k_is); (case zf => k_is); (case zk => k_is); (case zl => k_is); (case zc => k_is); (case zb => exact fun _ _ _ _ _ _ us hl => match us, hl with | [_], _ => rfl)
        case kd_Store_close_up => first | k_is | kernel_rfl
        case kn_Store_close_up => first | k_is | kernel_rfl
        case ini_Space => refine' KW.iniAt_mk ?zkc ?zmk ?za ?zf ?zk ?zl ?zc ?zb; (case zkc => k_is); (case zmk => k_is); (case za => k_is); (case zf => k_is); (case zk => k_is); (case zl => k_is); (case zc => k_is); (case zb => exact fun _ _ _ _ _ _ us hl => match us, hl with | [_, _, _], _ => rfl)
        case m_Space_press => refine' KW.metAtK_mk ?za ?zf ?zk ?zl ?zc ?zD ?zu ?zp ?zb ?zw; (case za => k_is); (case zf => k_is); (case zk => k_is); (case zl => k_is); (case zc => k_is); (case zD => k_is); (case zu => rfl); (case zp => decide); (case zb => exact fun _ _ _ _ _ _ us ks hl hk => match us, ks, hl, hk with | [_, _], [_], _, _ => ⟨_, _, _, _, _, _, rfl, rfl, rfl⟩); (case zw => exact fun _ _ _ _ _ _ us ks hl hk => match us, ks, hl, hk with | [_, _], [_], _, _ => rfl)
        case m_Space_root => refine' KW.metAt_mk ?za ?zf ?zk ?zl ?zc ?zb; (case za => k_is); (case zf => k_is); (case zk => k_is); (case zl => k_is); (case zc => k_is); (case zb => exact fun _ _ _ _ _ _ us hl => match us, hl with | [_, _], _ => rfl)
        case m_Space_set_root => refine' KW.metAt_mk ?za ?zf ?zk ?zl ?zc ?zb; (case za => k_is); (case zf => k_is); (case zk => k_is); (case zl => k_is); (case zc => k_is); (case zb => exact fun _ _ _ _ _ _ us hl => match us, hl with | [_, _, _], _ => rfl)
        case m_Space_hold => refine' KW.metAt_mk ?za ?zf ?zk ?zl ?zc ?zb; (case za => k_is); (case zf => k_is); (case zk => k_is); (case zl => k_is); (case zc => k_is); (case zb => exact fun _ _ _ _ _ _ us hl => match us, hl with | [_, _], _ => rfl)
        case m_Space_drop => refine' KW.metAt_mk ?za ?zf ?zk ?zl ?zc ?zb; (case za => k_is); (case zf => k_is); (case zk => k_is); (case zl => k_is); (case zc => k_is); (case zb => exact fun _ _ _ _ _ _ us hl => match us, hl with | [_, _], _ => rfl)
        case m_Space_held => refine' KW.metAt_mk ?za ?zf ?zk ?zl ?zc ?zb; (case za => k_is); (case zf => k_is); (case zk => k_is); (case zl => k_is); (case zc => k_is); (case zb => exact fun _ _ _ _ _ _ us hl => match us, hl with | [_], _ => rfl)
        case m_Space_all_roots => refine' KW.metAt_mk ?za ?zf ?zk ?zl ?zc ?zb; (case za => k_is); (case zf => k_is); (case zk => k_is); (case zl => k_is); (case zc => k_is); (case zb => exact fun _ _ _ _ _ _ us hl => match us, hl with | [_], _ => rfl)
        case m_Space_collect => refine' KW.metAt_mk ?za ?zf ?zk ?zl ?zc ?zb; (case za => k_is); (case zf => k_is); (case zk => k_is); (case zl => k_is); (case zc => k_is); (case zb => exact fun _ _ _ _ _ _ us hl => match us, hl with | [_], _ => rfl)
        case m_Space_collect_with => refine' KW.metAt_mk ?za ?zf ?zk ?zl ?zc ?zb; (case za => k_is); (case zf => k_is); (case zk => k_is); (case zl => k_is); (case zc => k_is); (case zb => exact fun _ _ _ _ _ _ us hl => match us, hl with | [_, _], _ => rfl)
        case m_Space_live_words => refine' KW.metAt_mk ?za ?zf ?zk ?zl ?zc ?zb; (case za => k_is); (case zf => k_is); (case zk => k_is); (case zl => k_is); (case zc => k_is); (case zb => exact fun _ _ _ _ _ _ us hl => match us, hl with | [_], _ => rfl)
        case m_Space_new => refine' KW.metAt_mk ?za ?zf ?zk ?zl ?zc ?zb; (case za => k_is); (case zf => k_is); (case zk => k_is); (case zl => k_is); (case zc => k_is); (case zb => exact fun _ _ _ _ _ _ us hl => match us, hl with | [_, _, _], _ => rfl)
        case m_Space_fitted => refine' KW.metAt_mk ?za ?zf ?zk ?zl ?zc ?zb; (case za => k_is); (case zf => k_is); (case zk => k_is); (case zl => k_is); (case zc => k_is); (case zb => exact fun _ _ _ _ _ _ us hl => match us, hl with | [_, _, _], _ => rfl)
        case n_bool => exact PySem.W.mg_none_of KX G (by k_is)
        case n_int => exact PySem.W.mg_none_of KX G (by k_is)
        case n_isinstance => exact PySem.W.mg_none_of KX G (by k_is)
        case n_len => exact PySem.W.mg_none_of KX G (by k_is)
        case n_list => exact PySem.W.mg_none_of KX G (by k_is)
        case n_min => exact PySem.W.mg_none_of KX G (by k_is)
        case n_range => exact PySem.W.mg_none_of KX G (by k_is)
        case n_sorted => exact PySem.W.mg_none_of KX G (by k_is)
        case n_sum => exact PySem.W.mg_none_of KX G (by k_is)
        case g_NIL => refine' KW.gv_mk KX G ?za ?zr; (case za => k_is); (case zr => exact ⟨_, rfl⟩)
        case g_HEADER => refine' KW.gv_mk KX G ?za ?zr; (case za => k_is); (case zr => exact ⟨_, rfl⟩)
        case g_ROOTS => refine' KW.gv_mk KX G ?za ?zr; (case za => k_is); (case zr => exact ⟨_, rfl⟩)
        case d_is_ref => refine' KW.defAt_mk KX G ?za ?zl ?zc ?zk ?zb; (case za => k_is); (case zl => k_is); (case zc => k_is); (case zk => k_is); (case zb => exact fun _ _ _ _ _ _ us hl => match us, hl with | [_], _ => rfl)
        case d_ref_of => refine' KW.defAt_mk KX G ?za ?zl ?zc ?zk ?zb; (case za => k_is); (case zl => k_is); (case zc => k_is); (case zk => k_is); (case zb => exact fun _ _ _ _ _ _ us hl => match us, hl with | [_], _ => rfl)
        case d_reached => refine' KW.defAt_mk KX G ?za ?zl ?zc ?zk ?zb; (case za => k_is); (case zl => k_is); (case zc => k_is); (case zk => k_is); (case zb => exact fun _ _ _ _ _ _ us hl => match us, hl with | [_, _], _ => rfl)
        case d_words_of => refine' KW.defAt_mk KX G ?za ?zl ?zc ?zk ?zb; (case za => k_is); (case zl => k_is); (case zc => k_is); (case zk => k_is); (case zb => exact fun _ _ _ _ _ _ us hl => match us, hl with | [_, _], _ => rfl)
        case d_collect => refine' KW.defAt_mk KX G ?za ?zl ?zc ?zk ?zb; (case za => k_is); (case zl => k_is); (case zc => k_is); (case zk => k_is); (case zb => exact fun _ _ _ _ _ _ us hl => match us, hl with | [_, _], _ => rfl)
        case d__law_number => refine' KW.defAt_mk KX G ?za ?zl ?zc ?zk ?zb; (case za => k_is); (case zl => k_is); (case zc => k_is); (case zk => k_is); (case zb => exact fun _ _ _ _ _ _ us hl => match us, hl with | [_, _], _ => rfl)
        case d__law_deeds => refine' KW.defAt_mk KX G ?za ?zl ?zc ?zk ?zb; (case za => k_is); (case zl => k_is); (case zc => k_is); (case zk => k_is); (case zb => exact fun _ _ _ _ _ _ us hl => match us, hl with | [_, _], _ => rfl)
        case d__law_is => refine' KW.defAt_mk KX G ?za ?zl ?zc ?zk ?zb; (case za => k_is); (case zl => k_is); (case zc => k_is); (case zk => k_is); (case zb => exact fun _ _ _ _ _ _ us hl => match us, hl with | [_, _], _ => rfl)
        case d__law_same => refine' KW.defAt_mk KX G ?za ?zl ?zc ?zk ?zb; (case za => k_is); (case zl => k_is); (case zc => k_is); (case zk => k_is); (case zb => exact fun _ _ _ _ _ _ us hl => match us, hl with | [_, _], _ => rfl)
        case d__law_place => refine' KW.defAt_mk KX G ?za ?zl ?zc ?zk ?zb; (case za => k_is); (case zl => k_is); (case zc => k_is); (case zk => k_is); (case zb => exact fun _ _ _ _ _ _ us hl => match us, hl with | [_], _ => rfl)
        case d__law_word => refine' KW.defAt_mk KX G ?za ?zl ?zc ?zk ?zb; (case za => k_is); (case zl => k_is); (case zc => k_is); (case zk => k_is); (case zb => exact fun _ _ _ _ _ _ us hl => match us, hl with | [_, _], _ => rfl)
        case d__law_reached => refine' KW.defAt_mk KX G ?za ?zl ?zc ?zk ?zb; (case za => k_is); (case zl => k_is); (case zc => k_is); (case zk => k_is); (case zb => exact fun _ _ _ _ _ _ us hl => match us, hl with | [_, _], _ => rfl)
        case d__law_total => refine' KW.defAt_mk KX G ?za ?zl ?zc ?zk ?zb; (case za => k_is); (case zl => k_is); (case zc => k_is); (case zk => k_is); (case zb => exact fun _ _ _ _ _ _ us hl => match us, hl with | [_], _ => rfl)
        case d__law_collections => refine' KW.defAt_mk KX G ?za ?zl ?zc ?zk ?zb; (case za => k_is); (case zl => k_is); (case zc => k_is); (case zk => k_is); (case zb => exact fun _ _ _ _ _ _ us hl => match us, hl with | [_, _, _, _], _ => rfl)
        case d__law_called => refine' KW.defAt_mk KX G ?za ?zl ?zc ?zk ?zb; (case za => k_is); (case zl => k_is); (case zc => k_is); (case zk => k_is); (case zb => exact fun _ _ _ _ _ _ us hl => match us, hl with | [_, _, _], _ => rfl)
        case d__law_kept => refine' KW.defAt_mk KX G ?za ?zl ?zc ?zk ?zb; (case za => k_is); (case zl => k_is); (case zc => k_is); (case zk => k_is); (case zb => exact fun _ _ _ _ _ _ us hl => match us, hl with | [_, _], _ => rfl)
        case d__law_held => refine' KW.defAt_mk KX G ?za ?zl ?zc ?zk ?zb; (case za => k_is); (case zl => k_is); (case zc => k_is); (case zk => k_is); (case zb => exact fun _ _ _ _ _ _ us hl => match us, hl with | [_, _, _, _, _], _ => rfl)
        case d__law_fresh => refine' KW.defAt_mk KX G ?za ?zl ?zc ?zk ?zb; (case za => k_is); (case zl => k_is); (case zc => k_is); (case zk => k_is); (case zb => exact fun _ _ _ _ _ _ us hl => match us, hl with | [_, _, _, _, _], _ => rfl)
        case d__law_new => refine' KW.defAt_mk KX G ?za ?zl ?zc ?zk ?zb; (case za => k_is); (case zl => k_is); (case zc => k_is); (case zk => k_is); (case zb => exact fun _ _ _ _ _ _ us hl => match us, hl with | [_, _, _, _], _ => rfl)
        case d__law_deed => refine' KW.defAt_mk KX G ?za ?zl ?zc ?zk ?zb; (case za => k_is); (case zl => k_is); (case zc => k_is); (case zk => k_is); (case zb => exact fun _ _ _ _ _ _ us hl => match us, hl with | [_, _, _], _ => rfl)
        case d__law_space => refine' KW.defAt_mk KX G ?za ?zl ?zc ?zk ?zb; (case za => k_is); (case zl => k_is); (case zc => k_is); (case zk => k_is); (case zb => exact fun _ _ _ _ _ _ us hl => match us, hl with | [_], _ => rfl)
        case d_law => refine' KW.defAt_mk KX G ?za ?zl ?zc ?zk ?zb; (case za => k_is); (case zl => k_is); (case zc => k_is); (case zk => k_is); (case zb => exact fun _ _ _ _ _ _ us hl => match us, hl with | [_], _ => rfl)
        case d_collect_collecting => refine' KW.defAtA_mk KX G ?za ?zl ?zc ?zk ?zb; (case za => k_is); (case zl => k_is); (case zc => k_is); (case zk => k_is); (case zb => exact fun _ _ _ _ _ _ us hl => match us, hl with | [_, _], _ => rfl)
    obtain ⟨a, T, hp⟩ := T
    exact ⟨T.d_law, a.c_Store_close_up, a.p_Store_close_up, _, hp, T.kn_Store_close_up, T.kd_Store_close_up, fun base f fd TB F => K06.ok_law T TB f fd F⟩
#print axioms PySem.Challenge.cw_kilnwarden_k06_new_harms_nothing_reached_holds
