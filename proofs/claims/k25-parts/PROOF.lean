import PyProof.Rows.All
import Wide.All
import OpenK.AllK
import HandS.ExcCtx
import HandS.HotCalls
import Wide.FinOn
import HandS.Call
import HandS.List
import HandS.Ends
import HandS.Words
import HandS.Exc
import HandS.ExcOwn
import HandS.TryOnly
import HandS.Text
import HandS.Codes
import HandS.Style
import HandS.IsInst
import HandS.Wide
import KE.KExcSuper
import HandS.ExcField
import HandS.ExcIs
import HandS.TryMany
import HandS.Defaults
import HandS.Dict
import HandS.BoundDict
import HandS.NoneIn
import HandS.Flow
import HandS.WideBits
import HandS.Conv
import HandS.SortInts
import HandS.RaiseMore
import KE.RegKIsAll
import HandS.Comp
import HandS.More
import HandS.Iter
import HandS.TupAny
import HandS.Flt
import HandS.WordsDict
import KE.DataEq
import HandS.FStr
import HandS.OwnEq
import HandS.Deep
import HandS.Replace
import PyProof.Ascii
import HandS.ReplaceDef
import HandS.ReplaceLit
import KE.IntTextLaws
import HandS.ReplaceList
import KE.IntTextText
import PySem.Challenge.RW_kilnwarden_k25_listings_by_their_parts
set_option Elab.async false
set_option linter.all false
set_option maxRecDepth 100000
set_option maxHeartbeats 2000000
/-! Kw: universal readings over HandS: one rule a construct, whatever the kinds of its parts are; the readings go by cases of the values and so reduce by simp. -/
namespace KW
open PySem PySem.Spec PyProof.Rows L2
abbrev Frag := PySem.W.Frag
abbrev S (l : List Nat) : Str := SX.S l

section
variable {X : Cx}
theorem PEw {e : Expr} {t t' : TE} (h : PE X e t) (w : ∀ σ H Q, t' σ H Q → t σ H Q) : PE X e t' := ⟨fun pins s σ H Q I q => h.run pins s σ H Q I (w σ H Q q)⟩
theorem PTw {e : Expr} {t t' : TT} (h : PT X e t) (w : ∀ σ H Q, t' σ H Q → t σ H Q) : PT X e t' := ⟨fun pins s σ H Q I q => h.run pins s σ H Q I (w σ H Q q)⟩
theorem PSw {st : Stmt} {t t' : TS} (h : PS X st t) (w : ∀ D σ H, t' D σ H → t D σ H) : PS X st t' := ⟨fun pins s σ H D I q => h.run pins s σ H D I (w D σ H q)⟩
theorem OpRw {f : Value → Value → Sem Value} {r r' : R2} (h : OpR X f r) (w : ∀ x y H Q, r' x y H Q → r x y H Q) : OpR X f r' := fun pins s σ H x y v u Q I rx ry q => h pins s σ H x y v u Q I rx ry (w _ _ _ _ q)
theorem UnRw {f : Value → Sem Value} {r r' : V → Hp → VK → Prop} (h : UnR X f r) (w : ∀ x H Q, r' x H Q → r x H Q) : UnR X f r' := fun pins s σ H x v Q I rx q => h pins s σ H x v Q I rx (w _ _ _ q)
theorem CallRw {f : Value} {r r' : List V → Hp → VK → Prop} (h : CallR X f r) (w : ∀ xs H Q, r' xs H Q → r xs H Q) : CallR X f r' := fun pins s σ H xs us Q I rx q => h pins s σ H xs us Q I rx (w _ _ _ q)
theorem IxRw {r r' : R2} (h : IxR X r) (w : ∀ x y H Q, r' x y H Q → r x y H Q) : IxR X r' := fun a b pins s σ H x y v u Q I rx ry q => h a b pins s σ H x y v u Q I rx ry (w _ _ _ _ q)
theorem SlRw {r r' : V → Option Int → Option Int → Hp → VK → Prop} (h : SlR X r) (w : ∀ x l u H Q, r' x l u H Q → r x l u H Q) : SlR X r' := fun pins s σ H x v vl vu lo hi sl Q I rx a b c q => h pins s σ H x v vl vu lo hi sl Q I rx a b c (w _ _ _ _ _ q)

/-! ### names -/
def uVar (i : Nat) : TE := fun σ H Q => match σ[i]? with
  | some (some v) => Q v H
  | _ => False
theorem kv (i : Nat) {x : Str} {pos : Pos} (hN : X.N[i]? = some x := by rfl) (hv : Vis X.env.scope x := by first | exact Or.inl rfl | exact Or.inr (Or.inl rfl) | exact Or.inr (Or.inr rfl)) (hd : (x == ("__debug__" : Str)) = false := by decide)
    (hcd : (x == ("__classdict__" : Str)) = false := by decide) : PE X (.Name x pos) (uVar i) := PEw (pe_var hN hv hd hcd) fun σ H Q h => by
  unfold uVar at h
  split at h
  · rename_i v e
    exact ⟨v, e, h⟩
  · exact h.elim

/-! ### operators -/
def uAdd (K : Frag) : R2
  | .int i, .int j, H, Q => Q (.int (i + j)) H
  | .str i, .str j, H, Q => i.length + j.length ≤ sizeLine ∧ Q (.str (i ++ j)) H
  | .ref a, .ref b, H, Q => rCat (.ref a) (.ref b) H Q ∨ rCatT K (.ref a) (.ref b) H Q
  | _, _, _, _ => False
theorem o_add : OpR X (binaryOp .Add) (uAdd X.K) := OpRw (op_add.or (op_add_str.or (op_cat.or op_catT))) fun x y H Q h => by
  unfold uAdd at h
  split at h
  · exact .inl ⟨_, _, rfl, rfl, h⟩
  · exact .inr (.inl ⟨_, _, rfl, rfl, h⟩)
  · exact .inr (.inr h)
  · exact h.elim
def uSub : R2
  | .int i, .int j, H, Q => Q (.int (i - j)) H
  | _, _, _, _ => False
theorem o_sub : OpR X (binaryOp .Sub) uSub := OpRw op_sub fun x y H Q h => by
  unfold uSub at h
  split at h
  · exact ⟨_, _, rfl, rfl, h⟩
  · exact h.elim
def uMul : R2
  | .int i, .int j, H, Q => (CMul i j ∨ CMulW i j) ∧ Q (.int (i * j)) H
  | .ref l, .int k, H, Q => rRep (.ref l) (.int k) H Q
  | _, _, _, _ => False
theorem o_mul : OpR X (binaryOp .Mult) uMul := OpRw (op_mul.or (op_mulW.or op_rep)) fun x y H Q h => by
  unfold uMul at h
  split at h
  · obtain ⟨c | c, h⟩ := h
    · exact .inl ⟨_, _, rfl, rfl, c, h⟩
    · exact .inr (.inl ⟨_, _, rfl, rfl, c, h⟩)
  · exact .inr (.inr h)
  · exact h.elim
def uMod : R2
  | .int i, .int j, H, Q => 0 < j ∧ Q (.int (i % j)) H
  | _, _, _, _ => False
theorem o_mod : OpR X (binaryOp .Mod) uMod := OpRw op_mod fun x y H Q h => by
  unfold uMod at h
  split at h
  · exact ⟨_, _, rfl, rfl, h⟩
  · exact h.elim
def uDiv : R2
  | .int i, .int j, H, Q => (CDiv i j ∨ CDivW i j) ∧ Q (.int (i / j)) H
  | _, _, _, _ => False
theorem o_fdiv : OpR X (binaryOp .FloorDiv) uDiv := OpRw (op_fdiv.or op_fdivW) fun x y H Q h => by
  unfold uDiv at h
  split at h
  · obtain ⟨c | c, h⟩ := h
    · exact .inl ⟨_, _, rfl, rfl, c, h⟩
    · exact .inr ⟨_, _, rfl, rfl, c, h⟩
  · exact h.elim
def uPow : R2
  | .int i, .int j, H, Q => CPow i j ∧ Q (.int (i ^ j.toNat)) H
  | _, _, _, _ => False
theorem o_pow : OpR X (binaryOp .Pow) uPow := OpRw op_pow fun x y H Q h => by
  unfold uPow at h
  split at h
  · exact ⟨_, _, rfl, rfl, h⟩
  · exact h.elim
def uShl : R2
  | .int i, .int j, H, Q => CPow i j ∧ Q (.int (i * 2 ^ j.toNat)) H
  | _, _, _, _ => False
theorem o_shl : OpR X (binaryOp .LShift) uShl := OpRw op_shl fun x y H Q h => by
  unfold uShl at h
  split at h
  · exact ⟨_, _, rfl, rfl, h⟩
  · exact h.elim
def uNeg : V → Hp → VK → Prop
  | .int i, H, Q => Q (.int (-i)) H
  | _, _, _ => False
theorem o_neg : UnR X (unaryOp .USub) uNeg := UnRw un_neg fun x H Q h => by
  unfold uNeg at h
  split at h
  · exact ⟨_, rfl, h⟩
  · exact h.elim
/-- in place: ints and texts; a list is lengthened -/
def uIAdd : R2
  | .int i, .int j, H, Q => Q (.int (i + j)) H
  | .str i, .str j, H, Q => i.length + j.length ≤ sizeLine ∧ Q (.str (i ++ j)) H
  | .ref a, .ref b, H, Q => rExt2 (.ref a) (.ref b) H Q
  | _, _, _, _ => False
theorem o_iadd : OpR X (inplaceOp .Add) uIAdd := OpRw (iop_add.or (iop_add_str.or iop_ext)) fun x y H Q h => by
  unfold uIAdd at h
  split at h
  · exact .inl ⟨_, _, rfl, rfl, h⟩
  · exact .inr (.inl ⟨_, _, rfl, rfl, h⟩)
  · exact .inr (.inr h)
  · exact h.elim
def uISub : R2
  | .int i, .int j, H, Q => Q (.int (i - j)) H
  | _, _, _, _ => False
theorem o_isub : OpR X (inplaceOp .Sub) uISub := OpRw iop_sub fun x y H Q h => by
  unfold uISub at h
  split at h
  · exact ⟨_, _, rfl, rfl, h⟩
  · exact h.elim

/-! ### comparisons -/
def uLt : R2
  | .int i, .int j, H, Q => Q (.bl (decide (i < j))) H
  | .str i, .str j, H, Q => Q (.bl (decide (i.cps.toList < j.cps.toList))) H
  | _, _, _, _ => False
theorem o_lt : OpR X (compareOp .Lt) uLt := OpRw (op_lt.or op_lt_str) fun x y H Q h => by
  unfold uLt at h
  split at h
  · exact .inl ⟨_, _, rfl, rfl, h⟩
  · exact .inr ⟨_, _, rfl, rfl, h⟩
  · exact h.elim
def uLe : R2
  | .int i, .int j, H, Q => Q (.bl (decide (i ≤ j))) H
  | _, _, _, _ => False
theorem o_le : OpR X (compareOp .LtE) uLe := OpRw op_le fun x y H Q h => by
  unfold uLe at h
  split at h
  · exact ⟨_, _, rfl, rfl, h⟩
  · exact h.elim
def uGt : R2
  | .int i, .int j, H, Q => Q (.bl (decide (j < i))) H
  | _, _, _, _ => False
theorem o_gt : OpR X (compareOp .Gt) uGt := OpRw op_gt fun x y H Q h => by
  unfold uGt at h
  split at h
  · exact ⟨_, _, rfl, rfl, h⟩
  · exact h.elim
def uGe : R2
  | .int i, .int j, H, Q => Q (.bl (decide (j ≤ i))) H
  | _, _, _, _ => False
theorem o_ge : OpR X (compareOp .GtE) uGe := OpRw op_ge fun x y H Q h => by
  unfold uGe at h
  split at h
  · exact ⟨_, _, rfl, rfl, h⟩
  · exact h.elim
def uEq (K : Frag) : R2
  | .int i, .int j, H, Q => Q (.bl (decide (i = j))) H
  | .str i, .str j, H, Q => Q (.bl (decide (i = j))) H
  | .bl i, .bl j, H, Q => Q (.bl (decide (i = j))) H
  | .non, .non, H, Q => Q (.bl true) H
  | .int _, .str _, H, Q => Q (.bl false) H
  | .str _, .int _, H, Q => Q (.bl false) H
  | .int _, .non, H, Q => Q (.bl false) H
  | .non, .int _, H, Q => Q (.bl false) H
  | .str _, .non, H, Q => Q (.bl false) H
  | .non, .str _, H, Q => Q (.bl false) H
  | .ref a, .ref b, H, Q => rEqD K (.ref a) (.ref b) H Q
  | _, _, _, _ => False
theorem o_eq (hu : X.A.units + 64 < cLine) : OpR X (compareOp .Eq) (uEq X.K) := OpRw (op_eq.or (op_eqD hu)) fun x y H Q h => by
  unfold uEq at h
  split at h <;> first
    | exact .inl ⟨rfl, by simpa using h⟩
    | exact .inr h
    | exact h.elim
def uNe (K : Frag) : R2
  | .int i, .int j, H, Q => Q (.bl (!decide (i = j))) H
  | .str i, .str j, H, Q => Q (.bl (!decide (i = j))) H
  | .bl i, .bl j, H, Q => Q (.bl (!decide (i = j))) H
  | .non, .non, H, Q => Q (.bl false) H
  | .int _, .str _, H, Q => Q (.bl true) H
  | .str _, .int _, H, Q => Q (.bl true) H
  | .int _, .non, H, Q => Q (.bl true) H
  | .non, .int _, H, Q => Q (.bl true) H
  | .str _, .non, H, Q => Q (.bl true) H
  | .non, .str _, H, Q => Q (.bl true) H
  | .ref a, .ref b, H, Q => rNeD K (.ref a) (.ref b) H Q
  | _, _, _, _ => False
theorem o_ne (hu : X.A.units + 64 < cLine) : OpR X (compareOp .NotEq) (uNe X.K) := OpRw (op_ne.or (op_neD hu)) fun x y H Q h => by
  unfold uNe at h
  split at h <;> first
    | exact .inl ⟨rfl, by simpa using h⟩
    | exact .inr h
    | exact h.elim
/-- is, is not: None and bools on the right -/
theorem op_isIB : OpR X (compareOp .Is) (fun x y H Q => (∃ i b, x = V.int i ∧ y = V.bl b) ∧ Q (.bl false) H) := by
  intro pins s σ H x y v u Q I rx ry h
  obtain ⟨⟨i, b, rfl, rfl⟩, q⟩ := h
  obtain ⟨t, rfl⟩ := rx
  cases (show u = Value.bool b from ry)
  exact wpAny_is_other rfl (fun z => nomatch z) ⟨.bl false, H, I, rfl, q⟩
def uIs : R2
  | .non, .non, H, Q => Q (.bl true) H
  | .int _, .non, H, Q => Q (.bl false) H
  | .str _, .non, H, Q => Q (.bl false) H
  | .ref _, .non, H, Q => Q (.bl false) H
  | .bl _, .non, H, Q => Q (.bl false) H
  | .bl a, .bl b, H, Q => Q (.bl (decide (a = b))) H
  | .int _, .bl _, H, Q => Q (.bl false) H
  | _, _, _, _ => False
theorem o_is : OpR X (compareOp .Is) uIs := OpRw (op_isN.or (op_isBl.or op_isIB)) fun x y H Q h => by
  unfold uIs at h
  split at h <;> first
    | exact .inl ⟨rfl, by simpa using h⟩
    | exact .inr (.inl ⟨_, _, rfl, rfl, h⟩)
    | exact .inr (.inr ⟨⟨_, _, rfl, rfl⟩, h⟩)
    | exact h.elim
def uNotIs : R2
  | .non, .non, H, Q => Q (.bl false) H
  | .int _, .non, H, Q => Q (.bl true) H
  | .str _, .non, H, Q => Q (.bl true) H
  | .ref _, .non, H, Q => Q (.bl true) H
  | .bl _, .non, H, Q => Q (.bl true) H
  | .bl a, .bl b, H, Q => Q (.bl (!decide (a = b))) H
  | _, _, _, _ => False
theorem o_isnot : OpR X (compareOp .IsNot) uNotIs := OpRw (op_notN.or op_notBl) fun x y H Q h => by
  unfold uNotIs at h
  split at h <;> first
    | exact .inl ⟨rfl, by simpa using h⟩
    | exact .inr ⟨_, _, rfl, rfl, h⟩
    | exact h.elim
/-- one text within another -/
def subStr (i j : Str) : Bool := !(Builtin.Str.occurrences j i 0 j.length 1).isEmpty
theorem subStr_one (c : Nat) (a : List Nat) : subStr (S [c]) (S a) = decide (c ∈ a) := SX.in_one a c
def uIn (K : Frag) : R2
  | .str i, .str j, H, Q => Q (.bl (subStr i j)) H
  | .int i, .ref p, H, Q => rIn K false (.int i) (.ref p) H Q
  | .str i, .ref p, H, Q => rIn K false (.str i) (.ref p) H Q
  | .non, .ref p, H, Q => rIn K false .non (.ref p) H Q
  | _, _, _, _ => False
theorem o_in : OpR X (compareOp .In) (uIn X.K) := OpRw (op_in_str.or op_in_seq) fun x y H Q h => by
  unfold uIn at h
  split at h <;> first
    | exact .inl ⟨_, _, rfl, rfl, h⟩
    | exact .inr h
    | exact h.elim
def uNotIn (K : Frag) : R2
  | .str i, .str j, H, Q => Q (.bl (!subStr i j)) H
  | .int i, .ref p, H, Q => rIn K true (.int i) (.ref p) H Q
  | .str i, .ref p, H, Q => rIn K true (.str i) (.ref p) H Q
  | .non, .ref p, H, Q => rIn K true .non (.ref p) H Q
  | _, _, _, _ => False
theorem o_notin : OpR X (compareOp .NotIn) (uNotIn X.K) := OpRw (op_notin_str.or op_notIn_seq) fun x y H Q h => by
  unfold uNotIn at h
  split at h <;> first
    | exact .inl ⟨_, _, rfl, rfl, h⟩
    | exact .inr h
    | exact h.elim

/-! ### tests -/
def uTru (K : Frag) : V → Hp → (Bool → Prop) → Prop
  | .non, _, k => k false
  | .bl b, _, k => k b
  | .int i, _, k => k (i != 0)
  | .str y, _, k => y.length ≤ sizeLine ∧ k ((y.length : Int) != 0)
  | .ref p, H, k => ∃ b, TruV K (.ref p) H b ∧ k b
  | _, _, _ => False
def uTest (K : Frag) (t : TE) : TT := fun σ H Q => t σ H fun x H1 => uTru K x H1 fun b => Q b H1
theorem kt {e : Expr} {t : TE} (h : PE X e t) (he : ∀ whole, isTrue e X.env whole = (do let v ← whole; standAt e.pos; holding [v] (truthy v)) := by intro _; rfl) : PT X e (uTest X.K t) := by
  refine ⟨fun pins s σ H Q I hq => ?_⟩
  refine isTrue_plain (thn (h.run pins s σ H _ I hq) fun v s1 ⟨x, H1, I1, r1, q1⟩ => tru_ok pins s1 σ H1 x v Q I1 r1 ?_) (he _)
  cases x with
  | non => exact ⟨false, rfl, q1⟩
  | bl b => exact ⟨b, rfl, q1⟩
  | int i => exact ⟨_, rfl, q1⟩
  | str y => exact ⟨_, ⟨q1.1, rfl⟩, q1.2⟩
  | ref p => exact q1
  | _ => exact False.elim q1

/-! ### subscripts -/
def uIx (K : Frag) : R2
  | .ref p, .int i, H, Q => ∃ xs v, (SqL K H p xs ∨ SqT K H p xs) ∧ atI xs i = some v ∧ Q v H
  | .str z, .int i, H, Q => z.length ≤ sizeLine ∧ ∃ c, atI z.cps.toList i = some c ∧ Q (.str (S [c])) H
  | _, _, _, _ => False
theorem o_ix : IxR X (uIx X.K) := IxRw ix_seq fun x y H Q h => by
  unfold uIx at h
  split at h
  · obtain ⟨xs, v, hs | hs, e, q⟩ := h
    · exact .inl ⟨_, xs, _, v, rfl, rfl, hs, e, q⟩
    · exact .inr (.inl ⟨_, xs, _, v, rfl, rfl, hs, e, q⟩)
  · obtain ⟨hz, c, e, q⟩ := h
    exact .inr (.inr ⟨_, _, c, rfl, rfl, hz, e, q⟩)
  · exact h.elim
def uSl (K : Frag) : V → Option Int → Option Int → Hp → VK → Prop
  | .ref a, lo, hi, H, Q => rSlL K (.ref a) lo hi H Q ∨ rSlT K (.ref a) lo hi H Q
  | .str z, lo, hi, H, Q => z.length ≤ sizeLine ∧ Q (.str (cutS z lo hi)) H
  | _, _, _, _, _ => False
theorem o_sl : SlR X (uSl X.K) := SlRw (sl_list.or (sl_tup.or sl_str)) fun x lo hi H Q h => by
  unfold uSl at h
  split at h
  · exact h.elim .inl fun z => .inr (.inl z)
  · exact .inr (.inr ⟨_, rfl, h.1, h.2⟩)
  · exact h.elim
theorem S_len (a : List Nat) : (S a).length = a.length := SX.S_len a
theorem S_nil : (S []).length = 0 := rfl
theorem S_tl (x : Str) : S x.cps.toList = x := SX.S_tl x
theorem cps_S (a : List Nat) : (S a).cps.toList = a := rfl
theorem S_cat (a b : List Nat) : S a ++ S b = S (a ++ b) := SX.S_cat a b
theorem S_inj {a b : List Nat} : S a = S b ↔ a = b := ⟨SX.S_inj, fun h => congrArg S h⟩
theorem cutS_S (a : List Nat) (i j : Nat) : cutS (S a) (some (i : Int)) (some (j : Int)) = S ((a.drop i).take (j - i)) := by
  unfold cutS
  rw [HT.sIx_nat, HT.sIx_nat, cps_S]
  have e : (S a).length = a.length := S_len a
  rw [e]
  refine congrArg S ?_
  rw [show a.drop (min i a.length) = a.drop i by
    by_cases h : i ≤ a.length
    · rw [Nat.min_eq_left h]
    · rw [Nat.min_eq_right (by omega), List.drop_length, List.drop_eq_nil_of_le (by omega)]]
  refine List.take_eq_take_iff.mpr ?_
  rw [List.length_drop]
  omega

/-! ### calls of built-ins -/
def uLen (K : Frag) : List V → Hp → VK → Prop
  | [.str y], H, Q => y.length ≤ sizeLine ∧ Q (.int y.length) H
  | [.ref p], H, Q => ∃ xs, (SqL K H p xs ∨ SqT K H p xs) ∧ Q (.int xs.length) H
  | _, _, _ => False
theorem c_len : CallR X (.builtin "len") (uLen X.K) := CallRw call_len fun xs H Q h => by
  unfold uLen at h
  split at h
  · exact ⟨_, _, rfl, ⟨h.1, rfl⟩, h.2⟩
  · obtain ⟨xs, hs | hs, q⟩ := h
    · exact ⟨_, _, rfl, .inl ⟨xs, hs, rfl⟩, q⟩
    · exact ⟨_, _, rfl, .inr ⟨xs, hs, rfl⟩, q⟩
  · exact h.elim
def uAbs : List V → Hp → VK → Prop
  | [.int i], H, Q => Q (.int (if i < 0 then -i else i)) H
  | _, _, _ => False
theorem c_abs : CallR X (.builtin "abs") uAbs := CallRw call_abs fun xs H Q h => by
  unfold uAbs at h
  split at h
  · exact ⟨_, rfl, h⟩
  · exact h.elim
def uInt : List V → Hp → VK → Prop
  | [.int i], H, Q => Q (.int i) H
  | [.bl k], H, Q => Q (.int (if k then 1 else 0)) H
  | _, _, _ => False
theorem c_int : CallR X (.type "int") uInt := CallRw call_int1 fun xs H Q h => by
  unfold uInt at h
  split at h
  · exact .inl ⟨_, rfl, h⟩
  · exact .inr ⟨_, rfl, h⟩
  · exact h.elim
def uMin2 : List V → Hp → VK → Prop
  | [.int i, .int j], H, Q => Q (.int (if j < i then j else i)) H
  | _, _, _ => False
theorem c_min2 (hc : X.calm = true) : CallR X (.builtin "min") uMin2 := CallRw (call_min2 hc) fun xs H Q h => by
  unfold uMin2 at h
  split at h
  · exact ⟨_, _, rfl, h⟩
  · exact h.elim
/-- isinstance against a built-in type -/
def isK (a b : String) : Bool := match kitB a b with
  | some r => r
  | none => false
def isOk (a b : String) : Bool := (kitB a b).isSome
theorem isK_of {a b : String} (h : isOk a b = true) {K : Frag} : PySem.W.kitOne K (.type a) (.type b) = some (isK a b) := by
  refine kit_ty ?_
  unfold isOk at h
  unfold isK
  cases e : kitB a b with
  | none => rw [e] at h; cases h
  | some r => rfl
def uIsi (K : Frag) : List V → Hp → VK → Prop
  | [.non, .ty n], H, Q => isOk "NoneType" n = true ∧ Q (.bl (isK "NoneType" n)) H
  | [.bl _, .ty n], H, Q => isOk "bool" n = true ∧ Q (.bl (isK "bool" n)) H
  | [.int _, .ty n], H, Q => isOk "int" n = true ∧ Q (.bl (isK "int" n)) H
  | [.str _, .ty n], H, Q => isOk "str" n = true ∧ Q (.bl (isK "str" n)) H
  | [.ref p, .ty n], H, Q => ∃ T, TyX K H (.ref p) (.type T) ∧ isOk T n = true ∧ Q (.bl (isK T n)) H
  | _, _, _ => False
theorem c_isi : CallR X (.builtin "isinstance") (uIsi X.K) := CallRw call_isi fun xs H Q h => by
  unfold uIsi at h
  split at h
  · exact ⟨_, _, _, _, _, rfl, .ty _, .base .non, isK_of h.1, h.2⟩
  · exact ⟨_, _, _, _, _, rfl, .ty _, .base (.bl _), isK_of h.1, h.2⟩
  · exact ⟨_, _, _, _, _, rfl, .ty _, .base (.int _), isK_of h.1, h.2⟩
  · exact ⟨_, _, _, _, _, rfl, .ty _, .base (.str _), isK_of h.1, h.2⟩
  · obtain ⟨T, ty, o, q⟩ := h
    exact ⟨_, _, _, _, _, rfl, .ty _, ty, isK_of o, q⟩
  · exact h.elim
theorem isK_int_int : isK "int" "int" = true := by decide +kernel
theorem isK_int_bool : isK "int" "bool" = false := by decide +kernel
theorem isK_int_str : isK "int" "str" = false := by decide +kernel
theorem isK_int_list : isK "int" "list" = false := by decide +kernel
theorem isK_int_tuple : isK "int" "tuple" = false := by decide +kernel
theorem isK_bool_int : isK "bool" "int" = true := by decide +kernel
theorem isK_bool_bool : isK "bool" "bool" = true := by decide +kernel
theorem isK_bool_str : isK "bool" "str" = false := by decide +kernel
theorem isK_str_str : isK "str" "str" = true := by decide +kernel
theorem isK_str_int : isK "str" "int" = false := by decide +kernel
theorem isK_str_bool : isK "str" "bool" = false := by decide +kernel
theorem isK_str_tuple : isK "str" "tuple" = false := by decide +kernel
theorem isK_str_list : isK "str" "list" = false := by decide +kernel
theorem isK_list_list : isK "list" "list" = true := by decide +kernel
theorem isK_list_tuple : isK "list" "tuple" = false := by decide +kernel
theorem isK_tuple_tuple : isK "tuple" "tuple" = true := by decide +kernel
theorem isK_tuple_list : isK "tuple" "list" = false := by decide +kernel
theorem isK_dict_dict : isK "dict" "dict" = true := by decide +kernel
theorem isK_none_int : isK "NoneType" "int" = false := by decide +kernel
theorem isK_none_bool : isK "NoneType" "bool" = false := by decide +kernel
theorem isOk_int_int : isOk "int" "int" = true := by decide +kernel
theorem isOk_int_bool : isOk "int" "bool" = true := by decide +kernel
theorem isOk_int_str : isOk "int" "str" = true := by decide +kernel
theorem isOk_int_list : isOk "int" "list" = true := by decide +kernel
theorem isOk_int_tuple : isOk "int" "tuple" = true := by decide +kernel
theorem isOk_bool_int : isOk "bool" "int" = true := by decide +kernel
theorem isOk_bool_bool : isOk "bool" "bool" = true := by decide +kernel
theorem isOk_bool_str : isOk "bool" "str" = true := by decide +kernel
theorem isOk_str_str : isOk "str" "str" = true := by decide +kernel
theorem isOk_str_int : isOk "str" "int" = true := by decide +kernel
theorem isOk_str_bool : isOk "str" "bool" = true := by decide +kernel
theorem isOk_str_tuple : isOk "str" "tuple" = true := by decide +kernel
theorem isOk_str_list : isOk "str" "list" = true := by decide +kernel
theorem isOk_list_list : isOk "list" "list" = true := by decide +kernel
theorem isOk_list_tuple : isOk "list" "tuple" = true := by decide +kernel
theorem isOk_tuple_tuple : isOk "tuple" "tuple" = true := by decide +kernel
theorem isOk_tuple_list : isOk "tuple" "list" = true := by decide +kernel
theorem isOk_dict_dict : isOk "dict" "dict" = true := by decide +kernel
theorem isOk_none_int : isOk "NoneType" "int" = true := by decide +kernel
theorem isOk_none_bool : isOk "NoneType" "bool" = true := by decide +kernel
end

/-! ### loops -/
/-- the loop itself, behind the making of its iterator: not opened by simp -/
def forK (J : It) (g : TG) (tb : TS) (D : Ends) (σ : L2.St) (H : Hp) : Prop :=
  ∃ W : Nat → Nat → L2.St → Hp → Prop, (∃ m, W 0 m σ H) ∧ ∀ i m σ H, W i m σ H →
    (J.stop i H ∧ D.nx σ H) ∨ (J.go i H ∧ ∃ N : L2.St → Hp → Prop, (∀ σ' H', N σ' H' → ∃ m', m' < m ∧ W (i + 1) m' σ' H') ∧ ∀ x H', J.yld i H x H' → g x σ H' fun σ2 H2 => tb { D with nx := N, ct := N, bk := D.nx } σ2 H2)
def uFor (wi : TI) (g : TG) (tb : TS) : TS := fun D σ H => wi σ H fun J H1 => forK J g tb D σ H1
theorem for_rng {lo : Int} {n : Nat} {g : TG} {tb : TS} {D : Ends} {σ : L2.St} {H : Hp} (Pv : Nat → L2.St → Hp → Prop) (h0 : Pv 0 σ H)
    (hs : ∀ i σ H, i < n → Pv i σ H → g (.int (lo + i)) σ H fun σ2 H2 => tb { D with nx := Pv (i + 1), ct := Pv (i + 1), bk := D.nx } σ2 H2) (hd : ∀ σ H, Pv n σ H → D.nx σ H) : forK (Itr lo n) g tb D σ H := for_range Pv h0 hs hd
theorem for_lst {K : Frag} {a : Addr} {xs : List V} {g : TG} {tb : TS} {D : Ends} {σ : L2.St} {H : Hp} (Pv : Nat → L2.St → Hp → Prop) (h0 : Pv 0 σ H) (hl : ∀ i σ H, i ≤ xs.length → Pv i σ H → SqL K H a xs)
    (hs : ∀ i x σ H, xs[i]? = some x → Pv i σ H → g x σ H fun σ2 H2 => tb { D with nx := Pv (i + 1), ct := Pv (i + 1), bk := D.nx } σ2 H2) (hd : ∀ σ H, Pv xs.length σ H → D.nx σ H) : forK (Itl K a) g tb D σ H := for_list Pv h0 hl hs hd
/-- while: what holds, by a measure -/
def uWhile (c : TT) (tb : TS) : TS := fun D σ H => ∃ W : Nat → L2.St → Hp → Prop, (∃ m, W m σ H) ∧ ∀ m σ H, W m σ H →
  c σ H fun b H1 => if b = true then tb { D with nx := fun σ' H' => ∃ m', m' < m ∧ W m' σ' H', ct := fun σ' H' => ∃ m', m' < m ∧ W m' σ' H', bk := D.nx } σ H1 else D.nx σ H1
section
variable {X : Cx}
theorem k_for {tg iter : Expr} {body : List Stmt} {wi : TI} {g : TG} {tb : TS} {pos : Pos} (hp : PassesOwn (model X.prog X.w) X.A X.env X.xe) (hc : X.calm = true) (hi : PI X tg iter wi) (hg : PG X tg g) (hb : PSs X body tb)
    (hs : ∀ x, foldedSetIterable iter X.env x = pure x := by intro _; rfl) : PS X (.For tg iter body [] pos) (uFor wi g tb) := ⟨(ps_for hp hc hi hg hb hs).run⟩
theorem k_while {c : Expr} {body : List Stmt} {tc : TT} {tb : TS} {pos : Pos} (hp : PassesOwn (model X.prog X.w) X.A X.env X.xe) (hc : PT X c tc) (hb : PSs X body tb) : PS X (.While c body [] pos) (uWhile tc tb) := by
  refine ⟨fun pins s σ H D I h => ?_⟩
  obtain ⟨W, ⟨m0, w0⟩, turn⟩ := h
  refine wpAny_While (codeAny_whileLoop (fun n s' => ∃ σ' H', Inv X pins σ' H' s' ∧ W n σ' H') ?_ m0 ⟨σ, H, I, w0⟩)
  rintro n s1 ⟨σ1, H1, I1, w1⟩
  refine wpAny_passesOwn hp (thn (hc.run pins s1 σ1 H1 _ I1 (turn n σ1 H1 w1)) fun b s2 ⟨H2, I2, q2⟩ => ?_)
  cases b with
  | true =>
    rw [if_pos rfl] at q2
    rw [if_pos rfl]
    refine wpAny_passesOwn hp (thn (hb.run pins s2 σ1 H2 _ I2 q2) fun f s3 q3 => ?_)
    cases f with
    | next =>
      obtain ⟨σ3, H3, I3, m', hm, w3⟩ := q3
      exact ⟨m', hm, σ3, H3, I3, w3⟩
    | cont =>
      obtain ⟨σ3, H3, I3, m', hm, w3⟩ := q3
      exact ⟨m', hm, σ3, H3, I3, w3⟩
    | brk => exact q3
    | ret v => exact q3
  | false =>
    rw [if_neg Bool.false_ne_true] at q2
    rw [if_neg Bool.false_ne_true]
    exact wpAny_execs_nil ⟨σ1, H2, I2, q2⟩

/-! ### defs of the text, called by their names -/
/-- the def x of the module keeps the promise sp, at level k; ps its parameters, dvs the defaults that a call leaves open -/
structure Cal (P : Program) (w : World) (K : Frag) (mg : Str → Option Value) (base : Heap) (k : Nat) (x : Str) (sp : Sp) : Prop where
  ex : ∃ (f : Addr) (fd : FuncData) (ps : List Str), mg x = some (.ref f) ∧ PySem.W.keepIn K (.ref f) = true ∧ Binds K fd ps [] ∧ FnOk P w K mg base (L2N.CX P w) k f fd ps sp
def uCall (sp : Sp) (t : TA) : TE := fun σ H Q => t σ H fun vs H1 => sp vs H1 Q E0
theorem passAt0 {σ : L2.St} : PassesAt (L2N.CX X.prog X.w) X σ E0 := fun _ _ _ _ _ _ h => by
  obtain ⟨_, _, _, _, _, _, _, _, _, _, _, _, z⟩ := h
  exact z.elim
section
variable {k : Nat} {x : Str} {sp : Sp} {p pos : Pos} {e : Expr} {es : List Expr} {t : TA}
/-- f(e, ..), f a def that raises nothing here -/
theorem kc (c : Cal X.prog X.w X.K X.mg X.base k x sp) (hr : Room k X.A) (ha : PA X (e :: es) t) (hg : Gl X x := by rfl) (hdb : (x == ("__debug__" : Str)) = false := by decide)
    (he : starEach (e :: es) X.env = (false, eval e X.env) :: starEach es X.env := by rfl) (hpl : (backTo pos (starEach es X.env)).any (·.1) = false := by rfl) : PE X (.Call (.Name x p) (e :: es) [] pos) (uCall sp t) := by
  obtain ⟨f, fd, ps, hm, hk, hb, F⟩ := c.ex
  exact pe_callS F hr hg hm hk hb (fun _ => passAt0) ha hdb he hpl
theorem kc0 (c : Cal X.prog X.w X.K X.mg X.base k x sp) (hr : Room k X.A) (hg : Gl X x := by rfl) (hdb : (x == ("__debug__" : Str)) = false := by decide) : PE X (.Call (.Name x p) [] [] pos) (uCall sp tNil) := by
  obtain ⟨f, fd, ps, hm, hk, hb, F⟩ := c.ex
  refine ⟨fun pins s σ H Q I h => ?_⟩
  refine wpAny_Call_Name_kw (ld_glob I hg hm ?_ hdb)
  exact PySem.W.callWith_K0 I.kIn hk (run_fnS (E := fun _ => E0) F hr hb passAt0 I .nil h)
/-- f(e, ..), f a def that may raise: W is what is wanted of it -/
theorem kcX {W : WX} (tk : L2N.Takes X W) (c : Cal X.prog X.w X.K X.mg X.base k x sp) (hr : Room k X.A) (ha : PA X (e :: es) t) (hg : Gl X x := by rfl) (hdb : (x == ("__debug__" : Str)) = false := by decide)
    (he : starEach (e :: es) X.env = (false, eval e X.env) :: starEach es X.env := by rfl) (hpl : (backTo pos (starEach es X.env)).any (·.1) = false := by rfl) : PE X (.Call (.Name x p) (e :: es) [] pos) (tCallS sp (WE W) t) := by
  obtain ⟨f, fd, ps, hm, hk, hb, F⟩ := c.ex
  exact pe_callS F hr hg hm hk hb (fun σ => L2N.passAt tk σ) ha hdb he hpl
end
end
/-- a def of the text, with what binds its arguments -/
structure DefAt (K : Frag) (mg : Str → Option Value) (x qual : Str) (st : Stmt) (ps : List Str) : Prop where
  ex : ∃ (f : Addr) (fd : FuncData), mg x = some (.ref f) ∧ Fun K x qual st f fd ∧ Binds K fd ps []
section
variable {P : Program} {w : World} {K : Frag} {mg : Str → Option Value} {base : Heap}
theorem DefAt.ok {x qual : Str} {st : Stmt} {N ps : List Str} {k : Nat} {sp : Sp} (D : DefAt K mg x qual st ps) (S : FnScope N ps (defScope st)) (len : ∀ vs H Q E, sp vs H Q E → vs.length = ps.length)
    (hbody : ∀ (f : Addr) (cdv : Value) (A : Around) (outer : List Env) (s : Shared) (H : Hp) (vs : List V) (Q : VK) (E : XK), Room k (A.deeper (envOfC qual (defScope st) s.heap.objs.size f cdv)) → sp vs H Q E →
      ∃ t, PSs (cxOf (L2N.CX P w) P w K mg base N qual (defScope st) f cdv A outer s H E) (defBody st) t ∧ t { nx := fun _ H' => Q .non H', rt := Q } (start N vs) H) : Cal P w K mg base (k + 1) x sp := by
  obtain ⟨f, fd, hm, F, hb⟩ := D.ex
  refine ⟨f, fd, ps, hm, F.kp, hb, ?_⟩
  obtain ⟨oc, od, kV, doc, pm, an, cdv, ct, osl, rfl, lk, hcd⟩ := F.ex
  exact fn_of lk hcd S len fun A outer s H vs Q E hr hsp => hbody f cdv A outer s H vs Q E hr hsp
theorem Cal.mono {j k : Nat} {x : Str} {sp : Sp} (c : Cal P w K mg base j x sp) (h : j ≤ k) : Cal P w K mg base k x sp := by
  obtain ⟨f, fd, ps, hm, hk, hb, F⟩ := c.ex
  exact ⟨f, fd, ps, hm, hk, hb, F.mono h⟩
end
end KW
namespace KW
open PySem PySem.Spec PyProof.Rows L2
/-- the module's name x holds the constant v -/
def GV (mg : Str → Option Value) (x : Str) (v : V) : Prop := ∃ u, mg x = some u ∧ RelV v u
theorem k_g {X : Cx} {x : Str} {v : V} {pos : Pos} (h : GV X.mg x v) (hg : Gl X x := by rfl) (hd : (x == ("__debug__" : Str)) = false := by decide) : PE X (.Name x pos) (tC v) := by
  obtain ⟨u, hm, r⟩ := h
  exact pe_glob hg hm r hd
/-- an object that stands by itself may be changed while all else stands -/
def But (a : Addr) (H H' : Hp) : Prop := ∀ b o, b ≠ a → H b = some o → H' b = some o
theorem But.refl {a : Addr} (H : Hp) : But a H H := fun _ _ _ h => h
theorem But.trans {a : Addr} {H H1 H2 : Hp} (x : But a H H1) (y : But a H1 H2) : But a H H2 := fun b o n h => y b o n (x b o n h)
theorem But.upd {a : Addr} {H : Hp} {o : HO} : But a H (upd H a o) := fun b _ n h => by rw [upd_ne n]; exact h
theorem But.seq {a b : Addr} {K : Frag} {H H' : Hp} {xs : List V} (e : But a H H') (n : b ≠ a) (h : SqL K H b xs) : SqL K H' b xs := by
  rcases h with (h | ⟨o, h⟩) | h
  · exact .inl (.inl (e _ _ n h))
  · exact .inl (.inr ⟨o, e _ _ n h⟩)
  · exact .inr h
end KW
namespace KW
open PySem PySem.Spec PyProof.Rows L2
/-! ### reads and stores of lists and tuples: by lemmas, not by simp -/
section
variable {K : Frag} {H : Hp} {p : Addr} {xs : List V} {i : Int} {v : V} {Q : VK}
theorem ix_l (h : H p = some (.lst xs)) (e : atI xs i = some v) (q : Q v H) : uIx K (.ref p) (.int i) H Q := ⟨xs, v, .inl (.of h), e, q⟩
theorem ix_t (h : H p = some (.tup xs)) (e : atI xs i = some v) (q : Q v H) : uIx K (.ref p) (.int i) H Q := ⟨xs, v, .inr (.of h), e, q⟩
theorem ix_sl (h : SqL K H p xs) (e : atI xs i = some v) (q : Q v H) : uIx K (.ref p) (.int i) H Q := ⟨xs, v, .inl h, e, q⟩
theorem ix_st (h : SqT K H p xs) (e : atI xs i = some v) (q : Q v H) : uIx K (.ref p) (.int i) H Q := ⟨xs, v, .inr h, e, q⟩
theorem len_l (h : H p = some (.lst xs)) (q : Q (.int xs.length) H) : uLen K [.ref p] H Q := ⟨xs, .inl (.of h), q⟩
theorem len_t (h : H p = some (.tup xs)) (q : Q (.int xs.length) H) : uLen K [.ref p] H Q := ⟨xs, .inr (.of h), q⟩
theorem len_sl (h : SqL K H p xs) (q : Q (.int xs.length) H) : uLen K [.ref p] H Q := ⟨xs, .inl h, q⟩
theorem len_st (h : SqT K H p xs) (q : Q (.int xs.length) H) : uLen K [.ref p] H Q := ⟨xs, .inr h, q⟩
end
/-- o[i] = v -/
def uSet : TSet
  | .ref p, .int k, v, H, Q => ∃ xs j, H p = some (.lst xs) ∧ ixN xs.length k = some j ∧ Q (upd H p (.lst (xs.set j v)))
  | _, _, _, _, _ => False
theorem s_set {X : Cx} : PSet X uSet := fun pins s σ H o i v ov iv u Q I ro ri rv h => by
  unfold uSet at h
  split at h
  · obtain ⟨xs, j, h1, h2, q⟩ := h
    exact set_list pins s σ H _ _ _ ov iv u Q I ro ri rv ⟨_, xs, _, j, rfl, rfl, h1, h2, q⟩
  · exact h.elim
theorem set_l {H : Hp} {p : Addr} {xs : List V} {k : Int} {j : Nat} {v : V} {Q : Hp → Prop} (h : H p = some (.lst xs)) (e : ixN xs.length k = some j) (q : Q (upd H p (.lst (xs.set j v)))) : uSet (.ref p) (.int k) v H Q := ⟨xs, j, h, e, q⟩
end KW
namespace KW
open PySem PySem.Spec PyProof.Rows L2
theorem le_line {n : Nat} (h : n ≤ 16000000) : n ≤ sizeLine := by rw [sizeLine_eq]; omega
theorem lt_line {n : Nat} (h : n ≤ 16000000) : n < sizeLine := by rw [sizeLine_eq]; omega
theorem mul_l {i j : Int} (h : -18446744073709551616 < i ∧ i < 18446744073709551616) : CMul i j ∨ CMulW i j := .inl (.inl ⟨by omega, by omega⟩)
theorem mul_r {i j : Int} (h : -18446744073709551616 < j ∧ j < 18446744073709551616) : CMul i j ∨ CMulW i j := .inl (.inr ⟨by omega, by omega⟩)
theorem div_s {i j : Int} (h : 0 < j ∧ j < 1073741824) : CDiv i j ∨ CDivW i j := .inl h
theorem pow_s {i j : Int} (h : 0 ≤ j ∧ j ≤ 1000000 ∧ -18446744073709551616 < i ∧ i < 18446744073709551616) : CPow i j := ⟨h.1, h.2.1, by omega⟩
end KW
namespace KW
open PySem PySem.Spec PyProof.Rows L2
theorem But.new {st p : Addr} {H : Hp} {o : HO} (h : H p = none) : But st H (L2.upd H p o) := fun b u _ e => by rw [upd_ne (ne_of_none e h)]; exact e
theorem SqL.new {K : Frag} {H : Hp} {sc p : Addr} {o : HO} {xs : List V} (h : H p = none) (hS : SqL K H sc xs) : SqL K (upd H p o) sc xs := by
  rcases hS with (q | ⟨o, q⟩) | q
  · exact .inl (.inl (by rw [upd_ne (ne_of_none q h)]; exact q))
  · exact .inl (.inr ⟨o, by rw [upd_ne (ne_of_none q h)]; exact q⟩)
  · exact .inr q
theorem atI_int {α : Type} {xs : List α} {r : Int} (h0 : 0 ≤ r) (h1 : r < xs.length) : ∃ v, xs[r.toNat]? = some v ∧ atI xs r = some v := by
  obtain ⟨j, rfl⟩ := Int.eq_ofNat_of_zero_le h0
  have h : j < xs.length := by omega
  exact ⟨xs[j], List.getElem?_eq_getElem h, atI_nat (List.getElem?_eq_getElem h)⟩
end KW
namespace KW
open PySem PySem.Spec PyProof.Rows L2
theorem tup_l {K : Frag} {n : Nat} {t : TGs} {a : Addr} {xs : List V} {σ : L2.St} {H : Hp} {Q : L2.St → Hp → Prop} (h : H a = some (.tup xs)) (hn : xs.length = n) (q : t xs σ H Q) : gTup K n t (.ref a) σ H Q := ⟨a, xs, rfl, .of h, hn, q⟩
theorem tup_s {K : Frag} {n : Nat} {t : TGs} {a : Addr} {xs : List V} {σ : L2.St} {H : Hp} {Q : L2.St → Hp → Prop} (h : SqT K H a xs) (hn : xs.length = n) (q : t xs σ H Q) : gTup K n t (.ref a) σ H Q := ⟨a, xs, rfl, h, hn, q⟩
end KW
namespace KW
open PySem PySem.Spec PyProof.Rows L2
section
variable {P : Program} {w : World} {K : Frag} {mg : Str → Option Value} {base : Heap}
theorem DefAt.fn {x qual : Str} {st : Stmt} {N ps : List Str} {k : Nat} {sp : Sp} (S : FnScope N ps (defScope st)) (len : ∀ vs H Q E, sp vs H Q E → vs.length = ps.length)
    (hbody : ∀ (f : Addr) (cdv : Value) (A : Around) (outer : List Env) (s : Shared) (H : Hp) (vs : List V) (Q : VK) (E : XK), Room k (A.deeper (envOfC qual (defScope st) s.heap.objs.size f cdv)) → sp vs H Q E →
      ∃ t, PSs (cxOf (L2N.CX P w) P w K mg base N qual (defScope st) f cdv A outer s H E) (defBody st) t ∧ t { nx := fun _ H' => Q .non H', rt := Q } (start N vs) H) :
    ∀ f fd, Fun K x qual st f fd → FnOk P w K mg base (L2N.CX P w) (k + 1) f fd ps sp := by
  intro f fd F
  obtain ⟨oc, od, kV, doc, pm, an, cdv, ct, osl, rfl, lk, hcd⟩ := F.ex
  exact fn_of lk hcd S len fun A outer s H vs Q E hr hsp => hbody f cdv A outer s H vs Q E hr hsp
theorem defAt_mk {x qual : Str} {st : Stmt} {ps : List Str} {h : Heap} {f : Addr} {oc : Value} {od an : Option Addr} {osl : Array (Option Value)} {kV doc pm cdv ct : Value}
    (X : K.In h) (G : h.Ns mainGlobals mg) (a : PySem.W.nsIn K mainGlobals x = some (some (.ref f)))
    (l : K.lookup f = some ⟨oc, od, .func (PySem.W.fnOf x qual (defArgs st) (defBody st) (defScope st) .none kV doc pm an cdv ct), osl⟩) (c : PySem.W.codeIn K cdv qual = true) (k : PySem.W.keepIn K (.ref f) = true)
    (hb : ∀ (kV doc pm : Value) (an : Option Addr) (cdv ct : Value) (us : List Value), us.length = ps.length → bindArgs (PySem.W.fnOf x qual (defArgs st) (defBody st) (defScope st) .none kV doc pm an cdv ct) ⟨us, []⟩ = pure (ps.zip us)) : DefAt K mg x qual st ps := by
  have F := fun_mk (st := st) l c k
  exact ⟨f, _, PySem.W.mg_of X G a, F, F.binds hb⟩
theorem gv_mk {x : Str} {v : V} {u : Value} {h : Heap} (X : K.In h) (G : h.Ns mainGlobals mg) (a : PySem.W.nsIn K mainGlobals x = some (some u)) (r : RelV v u) : GV mg x v := ⟨u, PySem.W.mg_of X G a, r⟩
/-- the law's promise: True for every list of at most 63 ints -/
def sp_law63 (K : Frag) : Sp := fun vs H Q _ => ∃ (sc : Addr) (ns : List Int), vs = [.ref sc] ∧ SqL K H sc (ns.map .int) ∧ ns.length ≤ 63 ∧ ∀ H', Q (.bl true) H'
end
theorem CX_none {P : Program} {w : World} {l : List Env} {H : Hp} {s : Shared} {e : Value} {s' : Shared} (h : L2N.CX P w l H s (fun _ _ _ => False) e s') : False := by
  obtain ⟨_, _, _, _, _, _, _, _, _, _, _, _, z⟩ := h
  exact z.elim
theorem walk63 {l : PySem.W.OpenLaw} {k : Nat} {st : Stmt} {q : Program} {loose : List Str} {XP : (Str → Option Value) → Heap → Prop} {YP : World → Heap → Prop} {d : DefRec} {K : Params → PySem.W.Frag} (hn : l.most = some 63) (hdf : d.params.defaults = []) (hd : d.name = "law") (hr : Room k callerA)
    (hY : ∀ (w : World) (h : Heap), YP w h → (K w.params).In h)
    (hb : ∀ (kV doc pm : Value) (an : Option Addr) (cdv ct : Value) (us : List Value), us.length = ["script"].length → bindArgs (PySem.W.fnOf "law" "law" (defArgs st) (defBody st) (defScope st) .none kV doc pm an cdv ct) ⟨us, []⟩ = pure ((["script"] : List Str).zip us))
    (F : ∀ (w : World) (mg : Str → Option Value) (h : Heap), (K w.params).In h → h.Ns mainGlobals mg →
      DefAt (K w.params) mg "law" "law" st ["script"] ∧ ∀ base f fd, Fun (K w.params) "law" "law" st f fd → FnOk l.prog w (K w.params) mg base (L2N.CX l.prog w) k f fd ["script"] (sp_law63 (K w.params))) :
    PySem.W.WalkO q loose XP YP l.row.toRowW d [] (fun f vs => PySem.call f vs) := by
  refine L2.walk_of (n := 63) (k := k) (x := "script") (CX := fun w => L2N.CX l.prog w) (sp := fun w => sp_law63 (K w.params)) hn (by decide) hdf hr hY ?_ (fun _ _ a ns hl _ hS => ⟨a, ns, rfl, hS, hl, fun _ => rfl⟩) fun _ _ _ _ _ h => CX_none h
  intro w mg fa h KX G hmg
  obtain ⟨D, ok⟩ := F w mg h KX G
  obtain ⟨f, fd, hm, Fu, _⟩ := D.ex
  rw [hd, hm] at hmg
  cases hmg
  have Fu' := Fu
  obtain ⟨oc, od, kV, doc, pm, an, cdv, ct, osl, rfl, lk, hcd⟩ := Fu.ex
  exact ⟨_, fun s u => .of_eq (hb kV doc pm an cdv ct [u] rfl), fun base _ _ => ok base _ _ Fu'⟩
end KW
/-! ### case lemmas -/
namespace KW
open PySem PySem.Spec PyProof.Rows L2
theorem uAdd_e1 {K : Frag} {i : Int} {j : Int} {H : Hp} {Q : VK} : uAdd K (.int i) (.int j) H Q = (Q (.int (i + j)) H) := rfl
theorem uAdd_e2 {K : Frag} {i : Str} {j : Str} {H : Hp} {Q : VK} : uAdd K (.str i) (.str j) H Q = (i.length + j.length ≤ sizeLine ∧ Q (.str (i ++ j)) H) := rfl
theorem uAdd_e3 {K : Frag} {a : Addr} {b : Addr} {H : Hp} {Q : VK} : uAdd K (.ref a) (.ref b) H Q = (rCat (.ref a) (.ref b) H Q ∨ rCatT K (.ref a) (.ref b) H Q) := rfl
theorem uSub_e1 {i : Int} {j : Int} {H : Hp} {Q : VK} : uSub (.int i) (.int j) H Q = (Q (.int (i - j)) H) := rfl
theorem uMul_e1 {i : Int} {j : Int} {H : Hp} {Q : VK} : uMul (.int i) (.int j) H Q = ((CMul i j ∨ CMulW i j) ∧ Q (.int (i * j)) H) := rfl
theorem uMul_e2 {l : Addr} {k : Int} {H : Hp} {Q : VK} : uMul (.ref l) (.int k) H Q = (rRep (.ref l) (.int k) H Q) := rfl
theorem uMod_e1 {i : Int} {j : Int} {H : Hp} {Q : VK} : uMod (.int i) (.int j) H Q = (0 < j ∧ Q (.int (i % j)) H) := rfl
theorem uDiv_e1 {i : Int} {j : Int} {H : Hp} {Q : VK} : uDiv (.int i) (.int j) H Q = ((CDiv i j ∨ CDivW i j) ∧ Q (.int (i / j)) H) := rfl
theorem uPow_e1 {i : Int} {j : Int} {H : Hp} {Q : VK} : uPow (.int i) (.int j) H Q = (CPow i j ∧ Q (.int (i ^ j.toNat)) H) := rfl
theorem uShl_e1 {i : Int} {j : Int} {H : Hp} {Q : VK} : uShl (.int i) (.int j) H Q = (CPow i j ∧ Q (.int (i * 2 ^ j.toNat)) H) := rfl
theorem uNeg_e1 {i : Int} {H : Hp} {Q : VK} : uNeg (.int i) H Q = (Q (.int (-i)) H) := rfl
theorem uIAdd_e1 {i : Int} {j : Int} {H : Hp} {Q : VK} : uIAdd (.int i) (.int j) H Q = (Q (.int (i + j)) H) := rfl
theorem uIAdd_e2 {i : Str} {j : Str} {H : Hp} {Q : VK} : uIAdd (.str i) (.str j) H Q = (i.length + j.length ≤ sizeLine ∧ Q (.str (i ++ j)) H) := rfl
theorem uIAdd_e3 {a : Addr} {b : Addr} {H : Hp} {Q : VK} : uIAdd (.ref a) (.ref b) H Q = (rExt2 (.ref a) (.ref b) H Q) := rfl
theorem uISub_e1 {i : Int} {j : Int} {H : Hp} {Q : VK} : uISub (.int i) (.int j) H Q = (Q (.int (i - j)) H) := rfl
theorem uLt_e1 {i : Int} {j : Int} {H : Hp} {Q : VK} : uLt (.int i) (.int j) H Q = (Q (.bl (decide (i < j))) H) := rfl
theorem uLt_e2 {i : Str} {j : Str} {H : Hp} {Q : VK} : uLt (.str i) (.str j) H Q = (Q (.bl (decide (i.cps.toList < j.cps.toList))) H) := rfl
theorem uLe_e1 {i : Int} {j : Int} {H : Hp} {Q : VK} : uLe (.int i) (.int j) H Q = (Q (.bl (decide (i ≤ j))) H) := rfl
theorem uGt_e1 {i : Int} {j : Int} {H : Hp} {Q : VK} : uGt (.int i) (.int j) H Q = (Q (.bl (decide (j < i))) H) := rfl
theorem uGe_e1 {i : Int} {j : Int} {H : Hp} {Q : VK} : uGe (.int i) (.int j) H Q = (Q (.bl (decide (j ≤ i))) H) := rfl
theorem uEq_e1 {K : Frag} {i : Int} {j : Int} {H : Hp} {Q : VK} : uEq K (.int i) (.int j) H Q = (Q (.bl (decide (i = j))) H) := rfl
theorem uEq_e2 {K : Frag} {i : Str} {j : Str} {H : Hp} {Q : VK} : uEq K (.str i) (.str j) H Q = (Q (.bl (decide (i = j))) H) := rfl
theorem uEq_e3 {K : Frag} {i : Bool} {j : Bool} {H : Hp} {Q : VK} : uEq K (.bl i) (.bl j) H Q = (Q (.bl (decide (i = j))) H) := rfl
theorem uEq_e4 {K : Frag} {H : Hp} {Q : VK} : uEq K (.non) (.non) H Q = (Q (.bl true) H) := rfl
theorem uEq_e5 {K : Frag} {w1 : Int} {w2 : Str} {H : Hp} {Q : VK} : uEq K (.int w1) (.str w2) H Q = (Q (.bl false) H) := rfl
theorem uEq_e6 {K : Frag} {w1 : Str} {w2 : Int} {H : Hp} {Q : VK} : uEq K (.str w1) (.int w2) H Q = (Q (.bl false) H) := rfl
theorem uEq_e7 {K : Frag} {w1 : Int} {H : Hp} {Q : VK} : uEq K (.int w1) (.non) H Q = (Q (.bl false) H) := rfl
theorem uEq_e8 {K : Frag} {w1 : Int} {H : Hp} {Q : VK} : uEq K (.non) (.int w1) H Q = (Q (.bl false) H) := rfl
theorem uEq_e9 {K : Frag} {w1 : Str} {H : Hp} {Q : VK} : uEq K (.str w1) (.non) H Q = (Q (.bl false) H) := rfl
theorem uEq_e10 {K : Frag} {w1 : Str} {H : Hp} {Q : VK} : uEq K (.non) (.str w1) H Q = (Q (.bl false) H) := rfl
theorem uEq_e11 {K : Frag} {a : Addr} {b : Addr} {H : Hp} {Q : VK} : uEq K (.ref a) (.ref b) H Q = (rEqD K (.ref a) (.ref b) H Q) := rfl
theorem uNe_e1 {K : Frag} {i : Int} {j : Int} {H : Hp} {Q : VK} : uNe K (.int i) (.int j) H Q = (Q (.bl (!decide (i = j))) H) := rfl
theorem uNe_e2 {K : Frag} {i : Str} {j : Str} {H : Hp} {Q : VK} : uNe K (.str i) (.str j) H Q = (Q (.bl (!decide (i = j))) H) := rfl
theorem uNe_e3 {K : Frag} {i : Bool} {j : Bool} {H : Hp} {Q : VK} : uNe K (.bl i) (.bl j) H Q = (Q (.bl (!decide (i = j))) H) := rfl
theorem uNe_e4 {K : Frag} {H : Hp} {Q : VK} : uNe K (.non) (.non) H Q = (Q (.bl false) H) := rfl
theorem uNe_e5 {K : Frag} {w1 : Int} {w2 : Str} {H : Hp} {Q : VK} : uNe K (.int w1) (.str w2) H Q = (Q (.bl true) H) := rfl
theorem uNe_e6 {K : Frag} {w1 : Str} {w2 : Int} {H : Hp} {Q : VK} : uNe K (.str w1) (.int w2) H Q = (Q (.bl true) H) := rfl
theorem uNe_e7 {K : Frag} {w1 : Int} {H : Hp} {Q : VK} : uNe K (.int w1) (.non) H Q = (Q (.bl true) H) := rfl
theorem uNe_e8 {K : Frag} {w1 : Int} {H : Hp} {Q : VK} : uNe K (.non) (.int w1) H Q = (Q (.bl true) H) := rfl
theorem uNe_e9 {K : Frag} {w1 : Str} {H : Hp} {Q : VK} : uNe K (.str w1) (.non) H Q = (Q (.bl true) H) := rfl
theorem uNe_e10 {K : Frag} {w1 : Str} {H : Hp} {Q : VK} : uNe K (.non) (.str w1) H Q = (Q (.bl true) H) := rfl
theorem uNe_e11 {K : Frag} {a : Addr} {b : Addr} {H : Hp} {Q : VK} : uNe K (.ref a) (.ref b) H Q = (rNeD K (.ref a) (.ref b) H Q) := rfl
theorem uIs_e1 {H : Hp} {Q : VK} : uIs (.non) (.non) H Q = (Q (.bl true) H) := rfl
theorem uIs_e2 {w1 : Int} {H : Hp} {Q : VK} : uIs (.int w1) (.non) H Q = (Q (.bl false) H) := rfl
theorem uIs_e3 {w1 : Str} {H : Hp} {Q : VK} : uIs (.str w1) (.non) H Q = (Q (.bl false) H) := rfl
theorem uIs_e4 {w1 : Addr} {H : Hp} {Q : VK} : uIs (.ref w1) (.non) H Q = (Q (.bl false) H) := rfl
theorem uIs_e5 {w1 : Bool} {H : Hp} {Q : VK} : uIs (.bl w1) (.non) H Q = (Q (.bl false) H) := rfl
theorem uIs_e6 {a : Bool} {b : Bool} {H : Hp} {Q : VK} : uIs (.bl a) (.bl b) H Q = (Q (.bl (decide (a = b))) H) := rfl
theorem uIs_e7 {a : Int} {b : Bool} {H : Hp} {Q : VK} : uIs (.int a) (.bl b) H Q = (Q (.bl false) H) := rfl
theorem uNotIs_e1 {H : Hp} {Q : VK} : uNotIs (.non) (.non) H Q = (Q (.bl false) H) := rfl
theorem uNotIs_e2 {w1 : Int} {H : Hp} {Q : VK} : uNotIs (.int w1) (.non) H Q = (Q (.bl true) H) := rfl
theorem uNotIs_e3 {w1 : Str} {H : Hp} {Q : VK} : uNotIs (.str w1) (.non) H Q = (Q (.bl true) H) := rfl
theorem uNotIs_e4 {w1 : Addr} {H : Hp} {Q : VK} : uNotIs (.ref w1) (.non) H Q = (Q (.bl true) H) := rfl
theorem uNotIs_e5 {w1 : Bool} {H : Hp} {Q : VK} : uNotIs (.bl w1) (.non) H Q = (Q (.bl true) H) := rfl
theorem uNotIs_e6 {a : Bool} {b : Bool} {H : Hp} {Q : VK} : uNotIs (.bl a) (.bl b) H Q = (Q (.bl (!decide (a = b))) H) := rfl
theorem uIn_e1 {K : Frag} {i : Str} {j : Str} {H : Hp} {Q : VK} : uIn K (.str i) (.str j) H Q = (Q (.bl (subStr i j)) H) := rfl
theorem uIn_e2 {K : Frag} {i : Int} {p : Addr} {H : Hp} {Q : VK} : uIn K (.int i) (.ref p) H Q = (rIn K false (.int i) (.ref p) H Q) := rfl
theorem uIn_e3 {K : Frag} {i : Str} {p : Addr} {H : Hp} {Q : VK} : uIn K (.str i) (.ref p) H Q = (rIn K false (.str i) (.ref p) H Q) := rfl
theorem uIn_e4 {K : Frag} {p : Addr} {H : Hp} {Q : VK} : uIn K (.non) (.ref p) H Q = (rIn K false .non (.ref p) H Q) := rfl
theorem uNotIn_e1 {K : Frag} {i : Str} {j : Str} {H : Hp} {Q : VK} : uNotIn K (.str i) (.str j) H Q = (Q (.bl (!subStr i j)) H) := rfl
theorem uNotIn_e2 {K : Frag} {i : Int} {p : Addr} {H : Hp} {Q : VK} : uNotIn K (.int i) (.ref p) H Q = (rIn K true (.int i) (.ref p) H Q) := rfl
theorem uNotIn_e3 {K : Frag} {i : Str} {p : Addr} {H : Hp} {Q : VK} : uNotIn K (.str i) (.ref p) H Q = (rIn K true (.str i) (.ref p) H Q) := rfl
theorem uNotIn_e4 {K : Frag} {p : Addr} {H : Hp} {Q : VK} : uNotIn K (.non) (.ref p) H Q = (rIn K true .non (.ref p) H Q) := rfl
theorem uTru_e1 {K : Frag} {w1 : Hp} {k : Bool → Prop} : uTru K (.non) w1 k = (k false) := rfl
theorem uTru_e2 {K : Frag} {b : Bool} {w1 : Hp} {k : Bool → Prop} : uTru K (.bl b) w1 k = (k b) := rfl
theorem uTru_e3 {K : Frag} {i : Int} {w1 : Hp} {k : Bool → Prop} : uTru K (.int i) w1 k = (k (i != 0)) := rfl
theorem uTru_e4 {K : Frag} {y : Str} {w1 : Hp} {k : Bool → Prop} : uTru K (.str y) w1 k = (y.length ≤ sizeLine ∧ k ((y.length : Int) != 0)) := rfl
theorem uTru_e5 {K : Frag} {p : Addr} {H : Hp} {k : Bool → Prop} : uTru K (.ref p) H k = (∃ b, TruV K (.ref p) H b ∧ k b) := rfl
theorem uIx_e1 {K : Frag} {p : Addr} {i : Int} {H : Hp} {Q : VK} : uIx K (.ref p) (.int i) H Q = (∃ xs v, (SqL K H p xs ∨ SqT K H p xs) ∧ atI xs i = some v ∧ Q v H) := rfl
theorem uIx_e2 {K : Frag} {z : Str} {i : Int} {H : Hp} {Q : VK} : uIx K (.str z) (.int i) H Q = (z.length ≤ sizeLine ∧ ∃ c, atI z.cps.toList i = some c ∧ Q (.str (S [c])) H) := rfl
theorem uSl_e1 {K : Frag} {a : Addr} {lo : Option Int} {hi : Option Int} {H : Hp} {Q : VK} : uSl K (.ref a) lo hi H Q = (rSlL K (.ref a) lo hi H Q ∨ rSlT K (.ref a) lo hi H Q) := rfl
theorem uSl_e2 {K : Frag} {z : Str} {lo : Option Int} {hi : Option Int} {H : Hp} {Q : VK} : uSl K (.str z) lo hi H Q = (z.length ≤ sizeLine ∧ Q (.str (cutS z lo hi)) H) := rfl
theorem uLen_e1 {K : Frag} {y : Str} {H : Hp} {Q : VK} : uLen K [.str y] H Q = (y.length ≤ sizeLine ∧ Q (.int y.length) H) := rfl
theorem uLen_e2 {K : Frag} {p : Addr} {H : Hp} {Q : VK} : uLen K [.ref p] H Q = (∃ xs, (SqL K H p xs ∨ SqT K H p xs) ∧ Q (.int xs.length) H) := rfl
theorem uAbs_e1 {i : Int} {H : Hp} {Q : VK} : uAbs [.int i] H Q = (Q (.int (if i < 0 then -i else i)) H) := rfl
theorem uInt_e1 {i : Int} {H : Hp} {Q : VK} : uInt [.int i] H Q = (Q (.int i) H) := rfl
theorem uInt_e2 {k : Bool} {H : Hp} {Q : VK} : uInt [.bl k] H Q = (Q (.int (if k then 1 else 0)) H) := rfl
theorem uMin2_e1 {i : Int} {j : Int} {H : Hp} {Q : VK} : uMin2 [.int i, .int j] H Q = (Q (.int (if j < i then j else i)) H) := rfl
theorem uIsi_e1 {K : Frag} {n : String} {H : Hp} {Q : VK} : uIsi K [.non, .ty n] H Q = (isOk "NoneType" n = true ∧ Q (.bl (isK "NoneType" n)) H) := rfl
theorem uIsi_e2 {K : Frag} {w1 : Bool} {n : String} {H : Hp} {Q : VK} : uIsi K [.bl w1, .ty n] H Q = (isOk "bool" n = true ∧ Q (.bl (isK "bool" n)) H) := rfl
theorem uIsi_e3 {K : Frag} {w1 : Int} {n : String} {H : Hp} {Q : VK} : uIsi K [.int w1, .ty n] H Q = (isOk "int" n = true ∧ Q (.bl (isK "int" n)) H) := rfl
theorem uIsi_e4 {K : Frag} {w1 : Str} {n : String} {H : Hp} {Q : VK} : uIsi K [.str w1, .ty n] H Q = (isOk "str" n = true ∧ Q (.bl (isK "str" n)) H) := rfl
theorem uIsi_e5 {K : Frag} {p : Addr} {n : String} {H : Hp} {Q : VK} : uIsi K [.ref p, .ty n] H Q = (∃ T, TyX K H (.ref p) (.type T) ∧ isOk T n = true ∧ Q (.bl (isK T n)) H) := rfl
theorem cx_K {CX : CXT} {P : Program} {w : World} {K : Frag} {mg : Str → Option Value} {base : Heap} {N : List Str} {qual : Str} {scope : Scope} {f : Addr} {cd : Value} {A : Around} {outer : List Env} {s : Shared} {H : Hp} {E : XK} : (cxOf CX P w K mg base N qual scope f cd A outer s H E).K = K := rfl
theorem uVar_s {i : Nat} {σ : L2.St} {H : Hp} {Q : VK} {v : V} (h : σ[i]? = some (some v)) : uVar i σ H Q = Q v H := by unfold uVar; rw [h]
theorem uVar_0 {a : V} {l : L2.St} {H : Hp} {Q : VK} : uVar 0 (some a :: l) H Q = Q a H := rfl
theorem uVar_n {i : Nat} {a : Option V} {l : L2.St} {H : Hp} {Q : VK} : uVar (i + 1) (a :: l) H Q = uVar i l H Q := rfl
end KW

set_option Elab.async false
set_option linter.all false
set_option maxRecDepth 100000
set_option maxHeartbeats 4000000
/-! KErr: own exception classes whose __init__(self, f) says super().__init__(str(f)); self.f = f -/
namespace PySem
namespace KErr
open PySem.W PySem.Calls PyProof.Rows PySem.HandSPX
/-- str(v) is made: some text -/
def StrOk (prog : Program) (w : World) (v : Value) : Prop := ∀ (A : Around) (s : Shared) (Q : Value → Shared → Prop) (E : Value → Shared → Prop), A.handled = none → s.heap.NoDigits → (∀ txt tk k, Q (.str txt tk) { s with toks := k }) → wpAny (model prog w) A (call (.type "str") [v]) Q E s
theorem strOk_int {prog : Program} {w : World} {n : Int} {t : Tok} (h : n.natAbs < 10 ^ 4300) : StrOk prog w (.int n t) := fun A s Q E hh hn q => str_of_int_or hh hn (fun _ => q _ _ _) fun z => absurd h (Nat.not_lt.mpr z)
theorem one_size (v : Value) : [v].length ≤ sizeLine := by
  rw [sizeLine_eq]
  exact (by decide : 1 ≤ 16777216)
theorem kept_but {K : Frag} {h h' : Heap} {x : Addr} (X : K.In h) (hx : K.lookup x = none) (k : ∀ b o, b ≠ x → h.get? b = some o → h'.get? b = some o) : K.In h' := fun a o e =>
  k a o (fun z => by rw [z, hx] at e; cases e) (X a o e)
structure InitEnd (h h' : Heap) (x C dx t1 : Addr) (f : Str) (v : Value) : Prop where
  keep : ∀ b o, b ≠ x → h.get? b = some o → h'.get? b = some o
  obj : h'.get? x = some { cls := .ref C, dict := some dx, data := .fields #[.ref t1, .none, .none, .none, .bool false, .none] }
  dbig : h.objs.size ≤ dx
  dne : dx ≠ x
  ns : h'.Ns1 dx (fun y => if y = f then some v else none)
section
variable {prog : Program} {w : World} {A : Around} {E : Value → Shared → Prop} {h : Heap} {g : Array GenState} {d : Drawn} {t : Nat} {os : OsState}
variable {nm q : Str} {C N : Addr} {bs bm : List Value} {hdct : Bool} {sn : List Str} {sub : List Value} {ab : Bool} {col : Option Bool} {dd : Option Addr} {k0 k1 k2 k3 k5 : Option Value}
theorem init_call {u e t0 : Addr} {rest : List Value} {Q : Value → Shared → Prop}
    (hC : h.get? C = some (excClassObj nm q C N bs bm hdct sn sub ab col dd k0 k1 k2 k3 k5 "ValueError.__new__")) (he : h.get? e = some (excO C t0)) (hu : h.get? u = some (kxs_mw "ValueError.__init__" e)) (hrest : rest.length ≤ sizeLine)
    (hq : ∀ h' t1, (∀ b o, b ≠ e → h.get? b = some o → h'.get? b = some o) → h'.get? e = some (excO C t1) → Q .none ⟨h', g, d, t, os⟩) :
    wpAny (model prog w) A (call (.ref u) rest) Q E ⟨h, g, d, t, os⟩ := by
  have FB := F.excBase_ValueError
  refine wpAny_call (codeAny_of_tree ?_)
  show wpAny _ A.in1 (callAny (.ref u) ⟨rest, []⟩) _ _ _
  simp only [callAny]
  refine wpAny_bind (wpAny_load hu ?_)
  simp only [kxs_mw, show (Value.type "method-wrapper" == Value.type "method" || Value.type "method-wrapper" == Value.type "builtin_function_or_method" || Value.type "method-wrapper" == Value.type "method-wrapper") = true by decide, if_true]
  refine KFB.if_so (by decide) ?_
  refine wpAny_bind (check_bound_init FB.toExcCallFacts hC he rfl ?_)
  refine wpAny_bind (wpAny_pure (wpAny_pure ?_))
  refine ⟨plainId_quiet FB.init.plain _, codeAny_builtin FB.initEntry ?_⟩
  rw [Around.under_plainId FB.init.plain _]
  exact exc_init_tree (cls := .ref C) (t0 := t0) (dv := none) (c2 := .none) (c3 := .none) (b4 := .bool false) he hrest (fun h' k e' _ => hq h' _ k e')
end
/-- a made own error -/
structure OwnMade (h h' : Heap) (e C d : Addr) (fs : List (Str × Value)) : Prop where
  keep : ∀ b o, h.get? b = some o → h'.get? b = some o
  new : h.objs.size ≤ e
  obj : ∃ oe vs, h'.get? e = some oe ∧ oe.cls = .ref C ∧ oe.dict = some d ∧ oe.data = .fields vs ∧ vs[1]? = some .none ∧ vs[2]? = some .none
  dbig : h.objs.size ≤ d
  dne : d ≠ e
  ns : h'.Ns1 d (fun y => fs.lookup y)
/-- C(us): made, where us are the values of vs and ok vs -/
def Mkd (prog : Program) (w : World) (K : Frag) (mg : Str → Option Value) (C : Addr) (ns : List Str) (ok : List L2.V → Prop) : Prop :=
  ∀ {A : Around} {s : Shared} {R : Result → Shared → Prop} {vs : List L2.V} {us : List Value}, L2.Vals vs us → ok vs → K.In s.heap → s.heap.NoLimit → s.heap.Ns mainGlobals mg → (∃ mb, s.heap.Ns builtinsNs mb ∧ ∀ x : Str, x ≠ "__name__" → mb x = bootBuiltins x) → A.handled = none → A.depth + 1 < recursionLimit →
    (∀ h' tk e d, OwnMade s.heap h' e C d (ns.zip us) → R (.ok (.ret (.ref e))) { s with heap := h', toks := tk }) → codeAny (model prog w) A (.call (.ref C) ⟨us, []⟩) R s
/-- str of the value is some text -/
def okS : L2.V → Prop
  | .int n => n.natAbs < 10 ^ 4300
  | .str _ => True
  | _ => False
theorem strOk_str {prog : Program} {w : World} {x : Str} {t : Tok} : StrOk prog w (.str x t) := fun _ _ _ _ _ _ q => PySem.P.str_of_str (q _ _ _)
theorem okS_ok {prog : Program} {w : World} {v : L2.V} {u : Value} (r : L2.RelV v u) (h : okS v) : StrOk prog w u := by
  cases v <;> simp only [okS] at h
  · obtain ⟨t, rfl⟩ := r
    exact strOk_int h
  · obtain ⟨t, rfl⟩ := r
    exact strOk_str
end KErr
end PySem

set_option Elab.async false
set_option linter.all false
set_option maxRecDepth 100000
set_option maxHeartbeats 4000000
/-! Kw2a: errors at the readings' level: made, raised, caught, asked -/
namespace PySem.W
open PySem PySem.Spec PySem.Calls PyProof.Rows
section
variable {prog : Program} {w : World} {A : Around} {E : Value → Shared → Prop} {s : Shared} {K : Frag} {x D : Addr} {ox : Obj} {od : Option Obj}
theorem kw_findCls {C : Addr} {name : Str} {a g : Value} (hc : (clsIn K C).isSome = true) (ha : findIn K (.ref C) name = some (some a)) (hg : specialIn K a "__get__" = some (some g)) (ht : takesIn K a = some true) : findObj K C od name = some (.bind g a) := by
  obtain ⟨cd, hc⟩ := Option.isSome_iff_exists.mp hc
  unfold findObj
  rw [hc, Option.bind_some, ha, Option.bind_some]
  simp [hg, ht]
/-- the class of an own error, asked by __class__, whatever its own dict holds -/
theorem kw_class {Q : Option Value → Shared → Prop} (C : L2.ExcC K D) (X : K.In s.heap) (I : InstAt s.heap x ox D od) (h : Q (some (.ref D)) { s with toks := s.toks + 1 }) : wpAny (model prog w) A (getAttr? (.ref x) "__class__") Q E s := by
  have hf : findObj K D od "__class__" = some (.bind (.builtin "getset_descriptor.__get__") (.builtin "object.__class__")) := kw_findCls (by obtain ⟨cd, hc, _⟩ := any_some C.hd; rw [hc]; rfl) C.ha C.hn C.ht
  obtain ⟨hp, g, d, t, os⟩ := s
  have L0 := I.type (M := model prog w)
  have L1 := looks_findIn (M := model prog w) X C.hg
  have L2 := looks_findIn (M := model prog w) X C.hk
  have L3 := looks_find (M := model prog w) X I hf
  have sub : Looks (model prog w) hp (isInstance (.ref x) (.type "BaseException")) true := L0.andThen (looks_subIn X C.hs)
  have hx2 : (Value.builtin "BaseException.__getattribute__" == Value.builtin "object.__getattribute__") = false := by decide +kernel
  have hx1 : (onTheHeap (Value.ref D) && Value.builtin "BaseException.__getattribute__" == Value.builtin "object.__getattribute__") = false := by rw [hx2]; rfl
  have hx0 : (false && onTheHeap (Value.builtin "BaseException.__getattribute__")) = false := rfl
  unfold getAttr? getAttrBy? getAttrBy
  refine wpAny_bind (wpAny_mkText (wpAny_bind (wpAny_attempt (wpAny_holding (wpAny_bind (L0.at (wpAny_bind (L1.at ?_))))))))
  show wpAny _ _ (if (onTheHeap (Value.ref D) && Value.builtin "BaseException.__getattribute__" == Value.builtin "object.__getattribute__") = true then _ else _) _ _ _
  rw [hx1, if_neg Bool.false_ne_true]
  unfold getAttrByItsOwn hookBefore
  refine wpAny_bind ?_
  rw [if_pos (show onTheHeap (Value.ref D) = true from rfl)]
  refine L2.at ?_
  refine wpAny_bind (wpAny_attempt (wpAny_holding ?_))
  unfold callGetattribute
  rw [hx0, if_neg Bool.false_ne_true]
  unfold boundAndCalled
  rw [PySem.F.excAttr_ValueError.ga.bind (.ref x)]
  refine wpAny_bind (wpAny_pure ?_)
  refine wpAny_call (codeAny_call_builtin PySem.F.excAttr_ValueError.ga.plain PySem.F.entry_bexc_ga ?_)
  refine @check_slot (model prog w) _ _ ⟨hp, g, d, t + 1, os⟩ "BaseException.__getattribute__" "BaseException" "__getattribute__" (.ref x) [.str "__class__" t] [] _ (by decide +kernel) (by decide +kernel) sub (PySem.F.args_bexc_ga (.ref x) (.str "__class__" t)) ?_
  unfold Builtin.«object.__getattribute__»
  refine wpAny_bind (wpAny_of_eq (a := ((Value.ref x : Value), [Value.str "__class__" t])) (by first | rfl | (simp only [slotArgs]; rfl)) ?_)
  refine wpAny_bind (wpAny_pure (wpAny_bind (L0.at (wpAny_bind (L3.at ?_)))))
  refine wpAny_bind (wpAny_holding (wpAny_call (class_get (s := ⟨hp, g, d, t + 1, os⟩) (ox := ox) (od := od) X I C.hm ?_)))
  refine wpAny_pure ?_
  show wpAny _ _ (handedOut (.ref D)) _ _ _
  rw [handedOut_of (v := .ref D) rfl]
  first
    | exact wpAny_pure (wpAny_pure h)
    | exact wpAny_pure h
    | exact wpAny_pure (wpAny_bind (wpAny_pure (wpAny_pure h)))
theorem kw_kitx (C : L2.ExcC K D) : KitX K (.ref x) (.ref D) (fun h => InstAt h x ox D od) where
  ty := fun _ _ _ I => I.type
  it := fun _ _ X _ => by
    obtain ⟨cdD, hcD, _⟩ := any_some C.hd
    unfold clsIn at hcD
    split at hcD
    · rename_i c' d' cd' sl' ho
      intro A' Q' E' s' k q
      unfold isType loadHead
      exact wpAny_bind (wpAny_loadPart (k _ _ (X _ _ ho)) (wpAny_pure q))
    · cases hcD
  ne := fun h tp dd its n sl X htp => by
    obtain ⟨cdD, hcD, _⟩ := any_some C.hd
    refine Bool.eq_false_iff.mpr fun q => ?_
    have e : D = tp := Value.ref.inj (beq_iff_eq.mp q)
    subst e
    unfold clsIn at hcD
    split at hcD
    · rename_i c' d' cd' sl' ho
      have z := (X _ _ ho).symm.trans htp
      cases z
    · cases hcD
  ca := fun X I k => kw_class C X I k
end
end PySem.W
namespace KW
open PySem PySem.Spec PyProof.Rows L2
/-- an own error class of the text: x its name, C its place, ns its fields, ok what its arguments must be -/
structure ErrC (P : Program) (w : World) (K : Frag) (mg : Str → Option Value) (x : Str) (C : Addr) (ns : List Str) (ok : List V → Prop) : Prop where
  gC : mg x = some (.ref C)
  made : PySem.KErr.Mkd P w K mg C ns ok
  kC : PySem.W.keepIn K (.ref C) = true
  exC : PySem.W.subIn K (.ref C) (.type "BaseException") = some true
  tyC : PySem.W.typeIn K (.ref C) = some (.type "type")
  xf : XfC K C
  is : ExcC K C
  no : ∀ f ∈ ns, PySem.W.findIn K (.ref C) f = some none
section
variable {X : Cx} {x : Str} {C : Addr} {ns : List Str} {ok : List V → Prop}
theorem relO_zip : ∀ {ns : List Str} {vs : List V} {us : List Value}, Vals vs us → ∀ f, RelO (List.lookup f (ns.zip vs)) (List.lookup f (ns.zip us))
  | [], _, _, _, f => by simp [List.lookup, RelO]
  | n :: ns, _, _, .nil, f => by simp [List.lookup, RelO]
  | n :: ns, _, _, .cons r rs, f => by
    rw [List.zip_cons_cons, List.zip_cons_cons]
    by_cases h : f = n
    · subst h
      simp only [List.lookup, beq_self_eq_true]
      exact r
    · have q : (f == n) = false := by simpa using h
      simp only [List.lookup, q]
      exact relO_zip rs f
/-- x(args): the error made -/
def uMk (C : Addr) (ns : List Str) (ok : List V → Prop) (t : TA) : L2.St → Hp → XK → Prop := fun σ H Q => t σ H fun vs H1 => ok vs ∧ ∀ d, H1 d = none → Q (.ref C) (some d) (upd H1 d (.xd (ns.zip vs)))
theorem k_mk {e : Expr} {es : List Expr} {t : TA} {p pos : Pos} {k : Nat} (T : ErrC X.prog X.w X.K X.mg x C ns ok) (hr : Room k X.A) (ha : PA X (e :: es) t) (hg : Gl X x := by rfl) (hdb : (x == ("__debug__" : Str)) = false := by decide)
    (he : starEach (e :: es) X.env = (false, eval e X.env) :: starEach es X.env := by rfl) (hpl : (backTo pos (starEach es X.env)).any (·.1) = false := by rfl) : L2N.PMk X (.Call (.Name x p) (e :: es) [] pos) (uMk C ns ok t) := by
  intro pins s σ H Q I h
  refine wpAny_Call_Name_kw (ld_glob I hg T.gC ?_ hdb)
  refine PySem.W.callWith_K (h₀ := X.base) I.ok.mod.kin T.kC (thn (ha.run pos pins s σ H _ I h) fun us s1 hh => ?_) he hpl
  obtain ⟨vs, H1, I1, r1, okv, q1⟩ := hh
  refine ⟨I1.kIn, ?_⟩
  show wpAny _ _ (call (.ref C) us) _ _ _
  have hlim := I1.nolimit
  have G := I1.mod.glob.keeps I1.bk
  have B : ∃ mb, s1.heap.Ns builtinsNs mb ∧ ∀ x : Str, x ≠ "__name__" → mb x = bootBuiltins x := by
    obtain ⟨mb, h1, h2⟩ := I1.mod.blt
    exact ⟨mb, h1.keeps I1.bk, h2⟩
  obtain ⟨hp, g, dr, tk, os⟩ := s1
  refine wpAny_call (T.made r1 okv I1.kIn hlim G B (by exact hr.hd) (by show X.A.depth + 1 < _; have := hr.dp; omega) fun h' tk' e d M => ?_)
  show L2N.MkP X pins σ Q (.ref e) ⟨h', g, dr, tk', os⟩
  obtain ⟨oe, fv, hoe, hc, hd, hdat, h1, h2⟩ := M.obj
  have hns := M.ns
  obtain ⟨G', g1, g2⟩ := restrict h' fun b => decide (b ≠ e)
  have gk : ∀ b, b ≠ e → G'.get? b = h'.get? b := fun b hb => g1 b (decide_eq_true hb)
  have ge : G'.get? e = none := g2 e (by simp)
  have old : ∀ b o, hp.get? b = some o → G'.get? b = some o := fun b o q => (gk b (Nat.ne_of_lt (Nat.lt_of_lt_of_le (Heap.lt_size q) M.new))).trans (M.keep b o q)
  have ob : ObjOk X.prog X.w (upd H1 d (.xd (ns.zip vs))) G' d (.xd (ns.zip vs)) := ⟨_, hns.at (fun o q => (gk d M.dne).trans q), fun f => relO_zip r1 f⟩
  have J : Inv X pins σ (upd H1 d (.xd (ns.zip vs))) ⟨G', g, dr, tk', os⟩ := I1.laid (t' := tk') old M.dbig ob
  refine ⟨e, oe, fv, ⟨G', g, dr, tk', os⟩, _, .ref C, some d, rfl, J, fun b o q => ?_, ge, hoe, ⟨hc, hd, fun vs' e' => by rw [hdat] at e'; cases e'; exact h2⟩, hdat, h1, ?_, rfl, I1.bare, raises_own T.exC T.tyC, q1 d (I1.hok.fresh M.dbig)⟩
  · by_cases hb : b = e
    · have q' : G'.get? b = some o := q
      rw [hb, ge] at q'; cases q'
    · exact (gk b hb).symm.trans q
  · rw [upd_ne (Ne.symm M.dne)]
    exact I1.hok.fresh M.new
/-- raise x(..) -/
def uRaise (W : WX) (t : L2.St → Hp → XK → Prop) : TS := fun _ σ H => t σ H fun cls d H' => W cls d σ H'
theorem k_raise {W : WX} {e : Expr} {t : L2.St → Hp → XK → Prop} {pos : Pos} (tk : L2N.Takes X W) (he : L2N.PMk X e t) (hc : X.calm = true := by rfl) : PS X (.Raise (some e) none pos) (uRaise W t) := L2N.ps_raise hc tk he
/-- what does not come about -/
def uDead : TE := fun _ _ _ => False
def sDead : TS := fun _ _ _ => False
theorem k_dead {e : Expr} : PE X e uDead := ⟨fun _ _ _ _ _ _ h => h.elim⟩
theorem k_deadS {st : Stmt} : PS X st sDead := ⟨fun _ _ _ _ _ _ h => h.elim⟩
/-- e.f in the suite that holds e -/
def uEf (K : Frag) (a : Addr) (cls : Value) (d : Option Addr) (i : Nat) (f : Str) : TE := fun σ H Q => ∃ (C dd : Addr) (fs : List (Str × V)) (v : V), σ[i]? = some (some (.ref a)) ∧ cls = .ref C ∧ XfC K C ∧ PySem.W.findIn K (.ref C) f = some none ∧ d = some dd ∧ H dd = some (.xd fs) ∧ fs.lookup f = some v ∧ Q v H
theorem k_ef (i : Nat) {a : Addr} {oe : Obj} {cls : Value} {d : Option Addr} {pn : List (Addr × Obj)} {n f : Str} {p pos : Pos} (hz : Zc cls d oe) (hf : ∃ vs, oe.data = .fields vs) (hN : X.N[i]? = some n := by rfl)
    (hv : Vis X.env.scope n := by first | exact Or.inl rfl | exact Or.inr (Or.inl rfl) | exact Or.inr (Or.inr rfl)) (hd : (n == ("__debug__" : Str)) = false := by decide) (hcd : (n == ("__classdict__" : Str)) = false := by decide)
    (hb : attributeBase (.Name n p) f X.env (eval (.Name n p) X.env) = eval (.Name n p) X.env := by rfl) : PE (X.suite a ((a, oe) :: pn)) (.Attribute (.Name n p) f pos) (uEf X.K a cls d i f) := by
  refine ⟨fun pins s σ H Q I h => ?_⟩
  obtain ⟨C, dd, fs, v, e0, e1, xf, no, e2, e3, e4, q⟩ := h
  exact (pe_xf (X := X) xf no hz hf (pe_var (X := X.suite a ((a, oe) :: pn)) hN hv hd hcd) hb).run pins s σ H Q I ⟨.ref a, e0, rfl, e1, dd, fs, v, e2, e3, e4, q⟩
/-- isinstance(e, c) in the suite that holds e -/
def uIsE (K : Frag) (a : Addr) (cls : Value) (d : Option Addr) : List V → Hp → VK → Prop
  | [.ref b, .ref c], H, Q => ∃ (D dd : Addr) (fs : List (Str × V)) (r : Bool), b = a ∧ cls = .ref D ∧ ExcC K D ∧ d = some dd ∧ H dd = some (.xd fs) ∧ PySem.W.kitOne K (.ref D) (.ref c) = some r ∧ Q (.bl r) H
  | [.ref b, .ty T], H, Q => ∃ (D dd : Addr) (fs : List (Str × V)) (r : Bool), b = a ∧ cls = .ref D ∧ ExcC K D ∧ d = some dd ∧ H dd = some (.xd fs) ∧ PySem.W.kitOne K (.ref D) (.type T) = some r ∧ Q (.bl r) H
  | _, _, _ => False
theorem c_isE {a : Addr} {oe : Obj} {cls : Value} {d : Option Addr} {pn : List (Addr × Obj)} (hz : Zc cls d oe) (hf : ∃ vs, oe.data = .fields vs) : CallR (X.suite a ((a, oe) :: pn)) (.builtin "isinstance") (uIsE X.K a cls d) := by
  intro pins s σ H xs us Q I r h
  have key : ∀ {D dd : Addr} {fs : List (Str × V)} {cv : Value} {b : Bool}, cls = .ref D → ExcC X.K D → d = some dd → H dd = some (.xd fs) → PySem.W.kitOne X.K (.ref D) cv = some b → Q (.bl b) H →
      wpAny (model X.prog X.w) (X.A.mark (some (.ref a))) (call (.builtin "isinstance") [.ref a, cv]) (EP (X.suite a ((a, oe) :: pn)) pins σ Q) (fun _ _ => False) s := fun {D dd fs cv b} e1 C e2 e3 e4 q => by
    subst e1 e2
    obtain ⟨hget, _⟩ := I.pin (a, oe) (List.mem_append.mpr (.inl List.mem_cons_self))
    obtain ⟨vs, hv⟩ := hf
    obtain ⟨mA, hns, hr⟩ := (show ObjOk X.prog X.w H s.heap dd (.xd fs) from I.hok dd _ e3)
    obtain ⟨od, ho, hl⟩ := lookIn_ns hns
    have J : PySem.W.InstAt s.heap a oe D (some od) := by
      refine ⟨hget, hz.1, by unfold PySem.W.notCls; rw [hv] <;> rfl, ?_⟩
      rw [hz.2]
      exact ho
    exact PySem.W.kia_one (PySem.W.kw_kitx C) I.kIn J e4 (fun z => nomatch z) fun tk => ⟨.bl b, H, I.kept (t' := tk) fun _ _ z => z, rfl, q⟩
  unfold uIsE at h
  split at h
  · obtain ⟨D, dd, fs, b, rfl, e1, C, e2, e3, e4, q⟩ := h
    cases r with
    | cons rx rr =>
      cases rr with
      | cons rt rr =>
        cases rr
        cases rx
        cases rt
        exact key e1 C e2 e3 e4 q
  · obtain ⟨D, dd, fs, b, rfl, e1, C, e2, e3, e4, q⟩ := h
    cases r with
    | cons rx rr =>
      cases rr with
      | cons rt rr =>
        cases rr
        cases rx
        cases rt
        exact key e1 C e2 e3 e4 q
  · exact h.elim
theorem k_isE {a : Addr} {oe : Obj} {cls : Value} {d : Option Addr} {pn : List (Addr × Obj)} {e : Expr} {es : List Expr} {t : TA} {p pos : Pos} (hz : Zc cls d oe) (hf : ∃ vs, oe.data = .fields vs) (hm : X.mg "isinstance" = none) (ha : PA (X.suite a ((a, oe) :: pn)) (e :: es) t) (hg : Gl X "isinstance" := by rfl)
    (he : starEach (e :: es) X.env = (false, eval e X.env) :: starEach es X.env := by rfl) (hpl : (backTo pos (starEach es X.env)).any (·.1) = false := by rfl) : PE (X.suite a ((a, oe) :: pn)) (.Call (.Name "isinstance" p) (e :: es) [] pos) (tCB (uIsE X.K a cls d) t) :=
  pe_callB (c_isE hz hf) hg hm (by decide +kernel) ha (by decide) (by decide) he hpl
end
end KW

set_option Elab.async false
set_option linter.all false
set_option maxRecDepth 100000
set_option maxHeartbeats 4000000
/-! Kw2b: instances of plain classes: made, their fields and methods -/
namespace KW
open PySem PySem.Spec PyProof.Rows L2
/-- a plain class of the text and the names of its fields -/
structure ClsA (K : Frag) (mg : Str → Option Value) (x : Str) (C : Addr) (ns : List Str) : Prop where
  gC : mg x = some (.ref C)
  cls : Cls K C
  no : ∀ f ∈ ns, NoAttr K C f
/-- e.f -/
def uGet (K : Frag) (f : Str) : V → Hp → VK → Prop
  | .ref a, H, Q => ∃ C dx fs v, H a = some (.ins C dx fs) ∧ Cls K C ∧ NoAttr K C f ∧ fs.lookup f = some v ∧ Q v H
  | _, _, _ => False
def uFld (K : Frag) (t : TE) (f : Str) : TE := fun σ H Q => t σ H fun x H1 => uGet K f x H1 Q
section
variable {X : Cx}
theorem k_fld {e : Expr} {t : TE} {f : Str} {pos : Pos} (he : PE X e t) (hb : attributeBase e f X.env (eval e X.env) = eval e X.env) : PE X (.Attribute e f pos) (uFld X.K t f) := by
  refine PEw (pe_fld (PEw he (t' := fun σ H Q => t σ H Q) fun _ _ _ h => h) hb) fun σ H Q h => ?_
  unfold uFld at h
  unfold tFld
  have e : (fun x H1 => uGet X.K f x H1 Q) = fun x H1 => ∃ a C dx fs v, x = .ref a ∧ H1 a = some (.ins C dx fs) ∧ Cls X.K C ∧ NoAttr X.K C f ∧ fs.lookup f = some v ∧ Q v H1 := by
    funext x H1
    cases x <;> simp only [uGet, eq_iff_iff] <;> first
      | exact ⟨False.elim, fun ⟨_, _, _, _, _, z, _⟩ => nomatch z⟩
      | (rename_i p
         exact ⟨fun ⟨C, dx, fs, v, h⟩ => ⟨p, C, dx, fs, v, rfl, h⟩, fun ⟨a, C, dx, fs, v, z, h⟩ => by cases z; exact ⟨C, dx, fs, v, h⟩⟩)
  rw [e] at h
  exact h
/-- o.f = v -/
def uPut (K : Frag) (f : Str) : V → V → Hp → (Hp → Prop) → Prop
  | .ref a, y, H, Q => ∃ C dx fs, H a = some (.ins C dx fs) ∧ Cls K C ∧ NoAttr K C f ∧ fs.length < 1000 ∧ Q (upd H a (.ins C dx (putF f y fs)))
  | _, _, _, _ => False
def uSFld (K : Frag) (ta tv : TE) (f : Str) : TS := fun D σ H => tv σ H fun y H1 => ta σ H1 fun x H2 => uPut K f x y H2 fun H3 => D.nx σ H3
theorem k_sfld {o value : Expr} {ta tv : TE} {f : Str} {pos' pos : Pos} (ha : PE X o ta) (hv : PE X value tv) (hs : swapsWith value (some (.Attribute o f pos')) pos.line X.env = pure false) : PS X (.Assign [.Attribute o f pos'] value pos) (uSFld X.K ta tv f) := by
  refine PSw (ps_fld ha hv hs) fun D σ H h => ?_
  unfold uSFld at h
  unfold sFld
  have e : (fun (y : V) (H1 : Hp) => ta σ H1 fun x H2 => uPut X.K f x y H2 fun H3 => D.nx σ H3) = fun y H1 => ta σ H1 fun x H2 => ∃ a C dx fs, x = .ref a ∧ H2 a = some (.ins C dx fs) ∧ Cls X.K C ∧ NoAttr X.K C f ∧ fs.length < 1000 ∧ D.nx σ (upd H2 a (.ins C dx (putF f y fs))) := by
    funext y H1
    refine congrArg (ta σ H1) ?_
    funext x H2
    cases x <;> simp only [uPut, eq_iff_iff] <;> first
      | exact ⟨False.elim, fun ⟨_, _, _, _, z, _⟩ => nomatch z⟩
      | (rename_i p
         exact ⟨fun ⟨C, dx, fs, h⟩ => ⟨p, C, dx, fs, rfl, h⟩, fun ⟨a, C, dx, fs, z, h⟩ => by cases z; exact ⟨C, dx, fs, h⟩⟩)
  rw [e] at h
  exact h
end
section
variable {K : Frag} {mg : Str → Option Value} {x f : Str} {C a dx : Addr} {ns : List Str} {fs fs' : List (Str × V)} {v y : V} {H : Hp}
theorem get_l {Q : VK} (h : H a = some (.ins C dx fs)) (c : ClsA K mg x C ns) (m : f ∈ ns) (l : fs.lookup f = some v) (q : Q v H) : uGet K f (.ref a) H Q := ⟨C, dx, fs, v, h, c.cls, c.no f m, l, q⟩
theorem put_l {Q : Hp → Prop} (h : H a = some (.ins C dx fs)) (c : ClsA K mg x C ns) (m : f ∈ ns) (z : fs.length < 1000) (q : Q (upd H a (.ins C dx (putF f y fs)))) : uPut K f (.ref a) y H Q := ⟨C, dx, fs, h, c.cls, c.no f m, z, q⟩
end
/-! ### methods -/
/-- a def at f: ps its parameters, dvs its defaults -/
structure DfnAt (K : Frag) (x qual : Str) (st : Stmt) (ps : List Str) (dvs : List V) (f : Addr) : Prop where
  ex : ∃ fd, FunD K x qual (defArgs st) (defBody st) (defScope st) dvs [] f fd ∧ ∀ j, j ≤ dvs.length → ∃ ds, Vals (dvs.drop j) ds ∧ Binds K fd ps ds
/-- the method m of the class C -/
structure MetAt (K : Frag) (C : Addr) (m qual : Str) (st : Stmt) (ps : List Str) : Prop where
  ex : ∃ f, Meth K C m f ∧ DfnAt K m qual st ps [] f
/-- the __init__ of the class x at C -/
structure IniAt (K : Frag) (C : Addr) (qual : Str) (st : Stmt) (ps : List Str) (dvs : List V) : Prop where
  ex : ∃ f, Mk K C f ∧ DfnAt K "__init__" qual st ps dvs f
structure CalM (P : Program) (w : World) (K : Frag) (mg : Str → Option Value) (base : Heap) (k : Nat) (C : Addr) (m : Str) (sp : Sp) : Prop where
  cls : Cls K C
  ex : ∃ (f : Addr) (fd : FuncData) (ps : List Str), Meth K C m f ∧ Binds K fd ps [] ∧ FnOk P w K mg base (L2N.CX P w) k f fd ps sp
structure CalI (P : Program) (w : World) (K : Frag) (mg : Str → Option Value) (base : Heap) (k : Nat) (x : Str) (C : Addr) (dvs : List V) (sp : Sp) : Prop where
  ex : mg x = some (.ref C) ∧ ∃ (f : Addr) (fd : FuncData) (ps : List Str), Mk K C f ∧ FnOk P w K mg base (L2N.CX P w) k f fd ps sp ∧ ∀ j, j ≤ dvs.length → ∃ ds, Vals (dvs.drop j) ds ∧ Binds K fd ps ds
section
variable {P : Program} {w : World} {K : Frag} {mg : Str → Option Value} {base : Heap}
theorem DfnAt.fn {x qual : Str} {st : Stmt} {N ps : List Str} {dvs : List V} {f : Addr} {k : Nat} {sp : Sp} (D : DfnAt K x qual st ps dvs f) (S : FnScope N ps (defScope st)) (len : ∀ vs H Q E, sp vs H Q E → vs.length = ps.length)
    (hbody : ∀ (f : Addr) (cdv : Value) (A : Around) (outer : List Env) (s : Shared) (H : Hp) (vs : List V) (Q : VK) (E : XK), Room k (A.deeper (envOfC qual (defScope st) s.heap.objs.size f cdv)) → sp vs H Q E →
      ∃ t, PSs (cxOf (L2N.CX P w) P w K mg base N qual (defScope st) f cdv A outer s H E) (defBody st) t ∧ t { nx := fun _ H' => Q .non H', rt := Q } (start N vs) H) :
    ∃ fd, FnOk P w K mg base (L2N.CX P w) (k + 1) f fd ps sp ∧ ∀ j, j ≤ dvs.length → ∃ ds, Vals (dvs.drop j) ds ∧ Binds K fd ps ds := by
  obtain ⟨fd, F, hb⟩ := D.ex
  exact ⟨fd, F.ok S len fun cdv A outer s H vs Q E hr hsp => hbody f cdv A outer s H vs Q E hr hsp, hb⟩
theorem MetAt.ok {C : Addr} {m qual : Str} {st : Stmt} {N ps : List Str} {k : Nat} {sp : Sp} (D : MetAt K C m qual st ps) (c : Cls K C) (S : FnScope N ps (defScope st)) (len : ∀ vs H Q E, sp vs H Q E → vs.length = ps.length)
    (hbody : ∀ (f : Addr) (cdv : Value) (A : Around) (outer : List Env) (s : Shared) (H : Hp) (vs : List V) (Q : VK) (E : XK), Room k (A.deeper (envOfC qual (defScope st) s.heap.objs.size f cdv)) → sp vs H Q E →
      ∃ t, PSs (cxOf (L2N.CX P w) P w K mg base N qual (defScope st) f cdv A outer s H E) (defBody st) t ∧ t { nx := fun _ H' => Q .non H', rt := Q } (start N vs) H) : CalM P w K mg base (k + 1) C m sp := by
  obtain ⟨f, M, D⟩ := D.ex
  obtain ⟨fd, F, hb⟩ := D.fn S len hbody
  obtain ⟨ds, hd, b⟩ := hb 0 (Nat.le_refl _)
  cases hd
  exact ⟨c, f, fd, ps, M, b, F⟩
theorem IniAt.ok {x : Str} {C : Addr} {qual : Str} {st : Stmt} {N ps : List Str} {dvs : List V} {k : Nat} {sp : Sp} (D : IniAt K C qual st ps dvs) (g : mg x = some (.ref C)) (S : FnScope N ps (defScope st)) (len : ∀ vs H Q E, sp vs H Q E → vs.length = ps.length)
    (hbody : ∀ (f : Addr) (cdv : Value) (A : Around) (outer : List Env) (s : Shared) (H : Hp) (vs : List V) (Q : VK) (E : XK), Room k (A.deeper (envOfC qual (defScope st) s.heap.objs.size f cdv)) → sp vs H Q E →
      ∃ t, PSs (cxOf (L2N.CX P w) P w K mg base N qual (defScope st) f cdv A outer s H E) (defBody st) t ∧ t { nx := fun _ H' => Q .non H', rt := Q } (start N vs) H) : CalI P w K mg base (k + 1) x C dvs sp := by
  obtain ⟨f, M, D⟩ := D.ex
  obtain ⟨fd, F, hb⟩ := D.fn S len hbody
  exact ⟨g, f, fd, ps, M, F, hb⟩
end
/-- o.m(args): what it may let out is taken at the slots as they stand -/
def uMet (C : Addr) (m : Str) (sp : Sp) (E : L2.St → XK) (ta : TE) (t : TA) : TE := fun σ H Q => ta σ H fun x H1 => uMt C m sp (E σ) t σ x H1 Q
where uMt (C : Addr) (m : Str) (sp : Sp) (E : XK) (t : TA) (σ : L2.St) : V → Hp → VK → Prop
  | .ref a, H1, Q => ∃ dx fs, H1 a = some (.ins C dx fs) ∧ fs.lookup m = none ∧ t σ H1 fun vs H2 => sp (.ref a :: vs) H2 Q E
  | _, _, _ => False
section
variable {X : Cx} {k : Nat} {C : Addr} {m x : Str} {sp : Sp} {o e : Expr} {es : List Expr} {ta : TE} {t : TA} {apos p pos : Pos} {pl : Sem Bool}
theorem uMt_of {E : XK} {σ : L2.St} {x : V} {H : Hp} {Q : VK} (h : uMet.uMt C m sp E t σ x H Q) : ∃ a dx fs, x = .ref a ∧ H a = some (.ins C dx fs) ∧ fs.lookup m = none ∧ t σ H fun vs H2 => sp (.ref a :: vs) H2 Q E := by
  cases x with
  | ref a => obtain ⟨dx, fs, h⟩ := h; exact ⟨a, dx, fs, rfl, h⟩
  | _ => exact False.elim h
theorem km_of {E : L2.St → XK} (hx : ∀ σ, PassesAt (L2N.CX X.prog X.w) X σ (E σ)) (c : CalM X.prog X.w X.K X.mg X.base k C m sp) (hr : Room k X.A) (he : PE X o ta) (ha : PA X (e :: es) t)
    (hst : starEach (e :: es) X.env = (false, eval e X.env) :: starEach es X.env) (hpl : (backTo pos (starEach es X.env)).any (·.1) = false)
    (ht : eval (.Call (.Attribute o m apos) (e :: es) [] pos) X.env = (do
      let ov ← eval o X.env
      standAt apos.atName
      let (f, first) ← holding [ov] (getMethod ov m pl)
      callWith pos f first (backTo pos (starEach (e :: es) X.env)) (backToKw pos (keywordEach [] X.env)))) :
    PE X (.Call (.Attribute o m apos) (e :: es) [] pos) (uMet C m sp E ta t) := by
  obtain ⟨cl, f, fd, ps, hm, hb, F⟩ := c
  refine ⟨fun pins s σ H Q I h => ?_⟩
  refine PySem.W.methodCall_KW (pl := pl) (thn (he.run pins s σ H _ I h) fun u s1 ⟨x, H1, I1, rx, hu⟩ => ?_) ht
  obtain ⟨a, dx, fs, ex, ea, l, q⟩ := uMt_of hu
  subst ex
  obtain rfl : u = Value.ref a := rx
  refine getmeth_ok I1 ea cl hm l ?_
  refine PySem.W.callWith_K (h₀ := X.base) I.ok.mod.kin hm.kp (thn (ha.run pos pins s1 σ H1 _ I1 q) fun us s2 ⟨vs, H2, I2, r, q2⟩ => ⟨I2.kIn, ?_⟩) hst hpl
  exact run_fnS (us := .ref a :: us) (vs := .ref a :: vs) F hr hb (hx σ) I2 (.cons rfl r) q2
theorem km0_of {E : L2.St → XK} (hx : ∀ σ, PassesAt (L2N.CX X.prog X.w) X σ (E σ)) (c : CalM X.prog X.w X.K X.mg X.base k C m sp) (hr : Room k X.A) (he : PE X o ta)
    (ht : eval (.Call (.Attribute o m apos) [] [] pos) X.env = (do
      let ov ← eval o X.env
      standAt apos.atName
      let (f, first) ← holding [ov] (getMethod ov m pl)
      callWith pos f first (backTo pos (starEach [] X.env)) (backToKw pos (keywordEach [] X.env)))) :
    PE X (.Call (.Attribute o m apos) [] [] pos) (uMet C m sp E ta tNil) := by
  obtain ⟨cl, f, fd, ps, hm, hb, F⟩ := c
  refine ⟨fun pins s σ H Q I h => ?_⟩
  refine PySem.W.methodCall_KW (pl := pl) (thn (he.run pins s σ H _ I h) fun u s1 ⟨x, H1, I1, rx, hu⟩ => ?_) ht
  obtain ⟨a, dx, fs, ex, ea, l, q⟩ := uMt_of hu
  subst ex
  obtain rfl : u = Value.ref a := rx
  refine getmeth_ok I1 ea cl hm l ?_
  exact PySem.W.callWith_K0 (first := [.ref a]) I1.kIn hm.kp (run_fnS (us := [.ref a]) (vs := [.ref a]) F hr hb (hx σ) I1 (.cons rfl .nil) q)
theorem km (c : CalM X.prog X.w X.K X.mg X.base k C m sp) (hr : Room k X.A) (he : PE X o ta) (ha : PA X (e :: es) t)
    (hst : starEach (e :: es) X.env = (false, eval e X.env) :: starEach es X.env := by rfl) (hpl : (backTo pos (starEach es X.env)).any (·.1) = false := by rfl)
    (ht : eval (.Call (.Attribute o m apos) (e :: es) [] pos) X.env = (do
      let ov ← eval o X.env
      standAt apos.atName
      let (f, first) ← holding [ov] (getMethod ov m pl)
      callWith pos f first (backTo pos (starEach (e :: es) X.env)) (backToKw pos (keywordEach [] X.env))) := by rfl) :
    PE X (.Call (.Attribute o m apos) (e :: es) [] pos) (uMet C m sp (fun _ => E0) ta t) := km_of (fun _ => passAt0) c hr he ha hst hpl ht
theorem km0 (c : CalM X.prog X.w X.K X.mg X.base k C m sp) (hr : Room k X.A) (he : PE X o ta)
    (ht : eval (.Call (.Attribute o m apos) [] [] pos) X.env = (do
      let ov ← eval o X.env
      standAt apos.atName
      let (f, first) ← holding [ov] (getMethod ov m pl)
      callWith pos f first (backTo pos (starEach [] X.env)) (backToKw pos (keywordEach [] X.env))) := by rfl) :
    PE X (.Call (.Attribute o m apos) [] [] pos) (uMet C m sp (fun _ => E0) ta tNil) := km0_of (fun _ => passAt0) c hr he ht
theorem kmX {W : WX} (tk : L2N.Takes X W) (c : CalM X.prog X.w X.K X.mg X.base k C m sp) (hr : Room k X.A) (he : PE X o ta) (ha : PA X (e :: es) t)
    (hst : starEach (e :: es) X.env = (false, eval e X.env) :: starEach es X.env := by rfl) (hpl : (backTo pos (starEach es X.env)).any (·.1) = false := by rfl)
    (ht : eval (.Call (.Attribute o m apos) (e :: es) [] pos) X.env = (do
      let ov ← eval o X.env
      standAt apos.atName
      let (f, first) ← holding [ov] (getMethod ov m pl)
      callWith pos f first (backTo pos (starEach (e :: es) X.env)) (backToKw pos (keywordEach [] X.env))) := by rfl) :
    PE X (.Call (.Attribute o m apos) (e :: es) [] pos) (uMet C m sp (WE W) ta t) := km_of (fun σ => L2N.passAt tk σ) c hr he ha hst hpl ht
theorem kmX0 {W : WX} (tk : L2N.Takes X W) (c : CalM X.prog X.w X.K X.mg X.base k C m sp) (hr : Room k X.A) (he : PE X o ta)
    (ht : eval (.Call (.Attribute o m apos) [] [] pos) X.env = (do
      let ov ← eval o X.env
      standAt apos.atName
      let (f, first) ← holding [ov] (getMethod ov m pl)
      callWith pos f first (backTo pos (starEach [] X.env)) (backToKw pos (keywordEach [] X.env))) := by rfl) :
    PE X (.Call (.Attribute o m apos) [] [] pos) (uMet C m sp (WE W) ta tNil) := km0_of (fun σ => L2N.passAt tk σ) c hr he ht
theorem met_l {E : XK} {a dx : Addr} {fs : List (Str × V)} {σ : L2.St} {H : Hp} {Q : VK} (h : H a = some (.ins C dx fs)) (l : fs.lookup m = none) (q : t σ H fun vs H2 => sp (.ref a :: vs) H2 Q E) : uMet.uMt C m sp E t σ (.ref a) H Q := ⟨dx, fs, h, l, q⟩
/-- x(args): an instance made; the last defaults fill up -/
def uMake (C : Addr) (sp : Sp) (dvs : List V) (t : TA) : TE := fun σ H Q => t σ H fun vs H1 => ∀ x dx, H1 x = none → H1 dx = none → dx ≠ x → sp (.ref x :: (vs ++ dvs)) (upd (upd H1 dx (.own x)) x (.ins C dx [])) (fun v H2 => v = .non ∧ Q (.ref x) H2) E0
theorem pass0 : Passes (L2N.CX X.prog X.w) X E0 := fun _ _ _ _ _ _ _ h => by
  obtain ⟨_, _, _, _, _, _, _, _, _, _, _, _, z⟩ := h
  exact z.elim
theorem kmk {dvs : List V} (j : Nat) (c : CalI X.prog X.w X.K X.mg X.base k x C dvs sp) (hr : Room (k + 1) X.A) (ha : PA X (e :: es) t) (hj : j ≤ dvs.length := by decide) (hg : Gl X x := by rfl) (hdb : (x == ("__debug__" : Str)) = false := by decide)
    (he : starEach (e :: es) X.env = (false, eval e X.env) :: starEach es X.env := by rfl) (hpl : (backTo pos (starEach es X.env)).any (·.1) = false := by rfl) : PE X (.Call (.Name x p) (e :: es) [] pos) (uMake C sp (dvs.drop j) t) := by
  obtain ⟨hm, f, fd, ps, M, F, hb⟩ := c
  obtain ⟨ds, hd, b⟩ := hb j hj
  exact pe_make M F hr hg hm b hd pass0 ha hdb he hpl
theorem kmk0 {dvs : List V} (c : CalI X.prog X.w X.K X.mg X.base k x C dvs sp) (hr : Room (k + 1) X.A) (hg : Gl X x := by rfl) (hdb : (x == ("__debug__" : Str)) = false := by decide) : PE X (.Call (.Name x p) [] [] pos) (uMake C sp dvs tNil) := by
  obtain ⟨hm, f, fd, ps, M, F, hb⟩ := c
  obtain ⟨ds, hd, b⟩ := hb 0 (Nat.zero_le _)
  exact pe_make0 M F hr hg hm b hd pass0 hdb
end
end KW

set_option Elab.async false
set_option linter.all false
set_option maxRecDepth 100000
set_option maxHeartbeats 4000000
/-! Kw2c: del xs[a:] of a list -/
namespace KW
open PySem PySem.Spec PyProof.Rows L2
theorem fm_take {α : Type} (p : Nat → Bool) (a : Nat) : ∀ (l : List α) (j : Nat), (∀ k, j ≤ k → k < j + l.length → p k = decide (a ≤ k)) → (l.zipIdx j).filterMap (fun x => if p x.2 = true then none else some x.1) = l.take (a - j)
  | [], j, _ => by simp
  | x :: l, j, h => by
    have h0 := h j (Nat.le_refl _) (by simp)
    have ih := fm_take p a l (j + 1) fun k h1 h2 => h k (by omega) (by simp only [List.length_cons]; omega)
    rw [List.zipIdx_cons, List.filterMap_cons]
    by_cases c : a ≤ j
    · simp only [h0, c, decide_true, if_true]
      rw [ih, show a - j = 0 by omega, show a - (j + 1) = 0 by omega]
      simp
    · simp only [h0, c, decide_false, Bool.false_eq_true, if_false]
      rw [ih, show a - j = (a - (j + 1)) + 1 by omega]
      rfl
section
variable {prog : Program} {w : World} {A : Around} {E : Value → Shared → Prop} {s : Shared}
theorem bounds_from (a n : Nat) : sliceBounds (some (a : Int)) none none n = (((min a n : Nat) : Int), (n : Int), 1) := by
  simp only [sliceBounds, Option.getD_none]
  have h1 : ¬ ((a : Int) < 0) := by omega
  simp only [h1, if_false, show (1 : Int) > 0 by decide, if_true]
  congr 1
  omega
theorem delItem_cut {l sl : Addr} {items : Array Value} {n : Nat} {vl : Value} {a : Nat} {Q : Unit → Shared → Prop}
    (e : s.heap.get? l = some { cls := .type "list", data := .seq items n })
    (hs : s.heap.IsSliceOf sl vl .none .none) (pl : IsPart vl (some (a : Int)))
    (hsz : items.size ≤ sizeLine) (h : ∀ F : Array Value → Array Value, F items = (items.toList.take a).toArray → Q () { s with heap := s.heap.update l (Obj.mapSeq F) }) :
    wpAny (model prog w) A (delItem (.ref l) (.ref sl)) Q E s := by
  have hl : s.heap.IsList l items := PySem.IsL.isList e
  obtain ⟨os, hos, hcs, hds⟩ := id hs
  have hTs : s.TypeIs (.ref sl) "slice" := ⟨os, hos, hcs⟩
  have hstep : ¬ ((rawPart none == rawInt 0) = true) := Bool.false_ne_true
  refine wpAny_delItem_slot hl.typeIs (by decide) PySem.F.slot_list_delitem ?_
  refine wpAny_call_entry PySem.F.slot_list_delitem hl.typeIs PySem.F.entry_list_delitem ?_ (PySem.F.args_list_delitem_2 _ _)
  show wpAny _ _ (Builtin.List.listSubscript? (.ref sl) >>= _) _ _ s
  refine wpAny_bind ?_
  unfold Builtin.List.listSubscript?
  refine wpAny_bind (wpAny_specialOf hTs slice_no_index ?_)
  simp only [Option.isNone_none, if_true]
  refine wpAny_pure ?_
  show wpAny _ _ (typeOf (.ref sl) >>= _) _ _ s
  refine wpAny_bind (wpAny_typeOf hTs ?_)
  first
    | rw [if_neg (by decide)]
    | refine PySem.W.KFB.if_not (by decide) ?_
  rw [listSliceParts_eq]
  refine wpAny_bind (wpAny_bind (wpAny_field hos hds (x := .none) rfl (wpAny_bind (wpAny_listPart .none ?_))))
  rw [if_neg hstep]
  refine wpAny_bind (wpAny_field hos hds (x := vl) rfl (wpAny_bind (wpAny_listPart pl ?_)))
  refine wpAny_bind (wpAny_field hos hds (x := .none) rfl (wpAny_bind (wpAny_listPart .none (wpAny_pure ?_))))
  unfold Builtin.List.listItems
  refine wpAny_bind (wpAny_bind (wpAny_seqItems e rfl (wpAny_pure ?_)))
  refine wpAny_bind (wpAny_of_eq ((sliceIndices_raw (some (a : Int)) none none items.size (by simp)).trans (congrArg (pure : Int × Int × Int → Sem (Int × Int × Int)) (bounds_from a items.size))) ?_)
  refine wpAny_bind (wpAny_rule ?_)
  have key : ∀ (p : Nat → Bool), (∀ k, k < items.size → p k = decide (a ≤ k)) → (List.filterMap (fun x : Value × Nat => if p x.2 = true then none else some x.1) items.toList.zipIdx).toArray = (items.toList.take a).toArray := fun p hp => by
    rw [fm_take p a items.toList 0 fun k _ h2 => hp k (by rw [Array.length_toList] at h2; omega)]
    rfl
  refine wpAny_bind (m := Builtin.List.listUpdate (.ref l) _) ?_
  show wpAny _ _ (updateSeq l _) _ _ _
  have kk : ∀ k, k < items.size → (if (1 : Int) > 0 then decide (((min a items.size : Nat) : Int) ≤ (k : Int)) && decide ((k : Int) < (items.size : Int)) && (((k : Int) - ((min a items.size : Nat) : Int)) % 1 == 0) else false) = decide (a ≤ k) := fun k hk => by
    rw [if_pos (by decide)]
    have e1 : (((k : Int) - ((min a items.size : Nat) : Int)) % 1 == 0) = true := by rw [Int.emod_one]; rfl
    rw [e1, Bool.and_true]
    by_cases c : a ≤ k
    · rw [decide_eq_true c, decide_eq_true (by omega), decide_eq_true (by omega)]
      rfl
    · rw [decide_eq_false c, decide_eq_false (by omega)]
      rfl
  refine wpAny_updateSeq (hz := hsz) (_hz' := ?z) e rfl ?_
  case z =>
    refine Nat.le_trans (Nat.le_of_eq (congrArg Array.size (key _ ?_))) ?_
    · exact fun k hk => (kk k hk)
    · rw [List.size_toArray, List.length_take, Array.length_toList]
      omega
  refine wpAny_bind (wpAny_letGo ?_)
  refine wpAny_pure ⟨.none, rfl, h _ (key _ ?_)⟩
  exact fun k hk => (kk k hk)
end
section
variable {X : Cx}
/-- del xs[a:] -/
def uDelC : V → Option Int → Hp → (Hp → Prop) → Prop
  | .ref l, some a, H, Q => ∃ xs, H l = some (.lst xs) ∧ 0 ≤ a ∧ Q (upd H l (.lst (xs.take a.toNat)))
  | _, _, _, _ => False
def uDelSl (to ti : TE) : TS := fun D σ H => to σ H fun x H1 => tPart ti σ H1 fun l H2 => uDelC x l H2 fun H3 => D.nx σ H3
theorem dels_l {H : Hp} {p : Addr} {xs : List V} {a : Int} {Q : Hp → Prop} (h : H p = some (.lst xs)) (e : 0 ≤ a) (q : Q (upd H p (.lst (xs.take a.toNat)))) : uDelC (.ref p) (some a) H Q := ⟨xs, h, e, q⟩
theorem k_delsl {o i : Expr} {to ti : TE} {p2 tpos pos : Pos} (ho : PE X o to) (hi : PE X i ti) : PS X (.Delete [.Subscript o (.Slice (some i) none none p2) tpos] pos) (uDelSl to ti) := by
  refine ⟨fun pins s σ H D I h => ?_⟩
  refine wpAny_Delete (wpAny_deleteEach_cons (wpAny_delete_Subscript (thn (ho.run pins s σ H _ I h) fun u s1 ⟨x, H1, I1, rx, q1⟩ => ?_)))
  refine wpAny_Slice (thn ((po_some hi).run pins s1 σ H1 _ I1 q1) fun vl s2 ⟨l, H2, I2, pl, q2⟩ => ?_)
  rw [evalPart_none]
  refine wpAny_pure (wpAny_pure ?_)
  have I4 : Inv X pins σ H2 { s2 with heap := s2.heap.push { cls := .type "slice", data := .fields #[vl, .none, .none] } } := I2.kept (t' := s2.toks) fun b ob q => Heap.get?_push_of_some _ q
  unfold uDelC at q2
  split at q2
  · rename_i w1 p a w2
    obtain ⟨xs, hH, h0, q2⟩ := q2
    obtain rfl : u = Value.ref p := rx
    obtain ⟨a', rfl⟩ := Int.eq_ofNat_of_zero_le h0
    obtain ⟨z, its, n, r, hl, e⟩ := I4.lstM hH
    rw [Int.toNat_natCast] at q2
    refine delItem_cut (a := a') e (Heap.IsSliceOf.new ..) pl (by rw [List.size_toArray]; omega) fun F hF => wpAny_deleteEach_nil ⟨σ, _, ?_, q2⟩
    refine I4.lset (its' := its.take a') (t' := s2.toks) hH e hF (r.take _) ?_
    rw [List.length_take]
    omega
  · exact q2.elim
end
end KW

set_option Elab.async false
set_option linter.all false
set_option maxRecDepth 100000
set_option maxHeartbeats 4000000
/-! Kw2d: dicts, texts and built-ins -/
namespace KW
open PySem PySem.Spec PyProof.Rows L2
section
variable {X : Cx} {o i e value : Expr} {pos pos' tpos : Pos} {td ty tv : TE}
/-- d[y] -/
def uDGet : V → V → Hp → VK → Prop
  | .ref a, .int i, H, Q => ∃ kvs v, H a = some (.dK kvs) ∧ valV kvs (.inl i) = some v ∧ Q v H
  | .ref a, .str i, H, Q => ∃ kvs v, H a = some (.dK kvs) ∧ valV kvs (.inr i) = some v ∧ Q v H
  | _, _, _, _ => False
theorem uDGet_of {x y : V} {H2 : Hp} {Q : VK} (q : uDGet x y H2 Q) : ∃ a v, x = .ref a ∧ DGet H2 a y (some v) ∧ Q v H2 := by
  unfold uDGet at q
  split at q
  · obtain ⟨kvs, v, h1, h2, q⟩ := q
    exact ⟨_, v, rfl, by rw [← h2]; exact DGet.k (k := .inl _) h1, q⟩
  · obtain ⟨kvs, v, h1, h2, q⟩ := q
    exact ⟨_, v, rfl, by rw [← h2]; exact DGet.k (k := .inr _) h1, q⟩
  · exact q.elim
def tDG (td ty : TE) : TE := fun σ H Q => td σ H fun x H1 => ty σ H1 fun y H2 => uDGet x y H2 Q
theorem k_dget (hu : X.A.units + 1 < cLine) (ho : PE X o td) (hi : PE X i ty) (hs : NoSl i := by intro _ _; rfl) : PE X (.Subscript o i pos) (tDG td ty) := by
  refine ⟨fun pins s σ H Q I h => ?_⟩
  refine subD_of PySem.F.slot_dict_getitem.lookup hs (thn (ho.run pins s σ H _ I h) fun u s1 ⟨x, H1, I1, rx, q1⟩ => thn (hi.run pins s1 σ H1 _ I1 q1) fun iv s2 ⟨y, H2, I2, ry, q2⟩ => ?_)
  obtain ⟨a, v, ex, g, q5⟩ := uDGet_of q2
  subst ex
  obtain rfl : u = Value.ref a := rx
  exact ⟨dict_typeIs I2 g, d_getItem hu I2 g ry fun w' s3 I3 rw' => ⟨v, H2, I3, rw', q5⟩⟩
/-- y in d -/
def uDIn : V → V → Hp → (Bool → Prop) → Prop
  | .int i, .ref a, H, Q => ∃ kvs, H a = some (.dK kvs) ∧ Q (valV kvs (.inl i)).isSome
  | .str i, .ref a, H, Q => ∃ kvs, H a = some (.dK kvs) ∧ Q (valV kvs (.inr i)).isSome
  | _, _, _, _ => False
theorem uDIn_of {x y : V} {H2 : Hp} {Q : Bool → Prop} (q : uDIn y x H2 Q) : ∃ a o, x = .ref a ∧ DGet H2 a y o ∧ Q o.isSome := by
  unfold uDIn at q
  split at q
  · obtain ⟨kvs, h1, q⟩ := q
    exact ⟨_, _, rfl, DGet.k (k := .inl _) h1, q⟩
  · obtain ⟨kvs, h1, q⟩ := q
    exact ⟨_, _, rfl, DGet.k (k := .inr _) h1, q⟩
  · exact q.elim
def tDI (ty td : TE) : TE := fun σ H Q => ty σ H fun y H1 => td σ H1 fun x H2 => uDIn y x H2 fun b => Q (.bl b) H2
def tDNI (ty td : TE) : TE := fun σ H Q => ty σ H fun y H1 => td σ H1 fun x H2 => uDIn y x H2 fun b => Q (.bl (!b)) H2
theorem k_din (hu : X.A.units + 1 < cLine) (hi : PE X i ty) (ho : PE X o td) : PC X .In i o (tDI ty td) := by
  refine ⟨fun pins s σ H Q I h => ?_⟩
  refine thn (hi.run pins s σ H _ I h) fun iv s1 ⟨y, H1, I1, ry, q1⟩ => thn (ho.run pins s1 σ H1 _ I1 q1) fun u s2 ⟨x, H2, I2, rx, q2⟩ => ?_
  obtain ⟨a, ov, ex, g, q5⟩ := uDIn_of q2
  subst ex
  obtain rfl : u = Value.ref a := rx
  exact d_in hu I2 g ry fun s3 I3 => ⟨.bl ov.isSome, H2, I3, rfl, q5⟩
theorem k_dnotin (hu : X.A.units + 1 < cLine) (hi : PE X i ty) (ho : PE X o td) : PC X .NotIn i o (tDNI ty td) := by
  refine ⟨fun pins s σ H Q I h => ?_⟩
  refine thn (hi.run pins s σ H _ I h) fun iv s1 ⟨y, H1, I1, ry, q1⟩ => thn (ho.run pins s1 σ H1 _ I1 q1) fun u s2 ⟨x, H2, I2, rx, q2⟩ => ?_
  obtain ⟨a, ov, ex, g, q5⟩ := uDIn_of q2
  subst ex
  obtain rfl : u = Value.ref a := rx
  exact d_notIn hu I2 g ry fun s3 I3 => ⟨.bl (!ov.isSome), H2, I3, rfl, q5⟩
/-- d[y] = v -/
def uDPut : V → V → V → Hp → (Hp → Prop) → Prop
  | .ref a, .int i, v, H, Q => ∃ kvs, H a = some (.dK kvs) ∧ kvs.length < sizeLine ∧ Q (upd H a (.dK (putK kvs (.inl i) v)))
  | .ref a, .str i, v, H, Q => ∃ kvs, H a = some (.dK kvs) ∧ kvs.length < sizeLine ∧ Q (upd H a (.dK (putK kvs (.inr i) v)))
  | _, _, _, _, _ => False
theorem uDPut_of {x y v : V} {H : Hp} {Q : Hp → Prop} (q : uDPut x y v H Q) : ∃ a H4, x = .ref a ∧ DPut H a y v H4 ∧ Q H4 := by
  unfold uDPut at q
  split at q
  · obtain ⟨kvs, h1, h2, q⟩ := q
    exact ⟨_, _, rfl, DPut.k (k := .inl _) h1 h2, q⟩
  · obtain ⟨kvs, h1, h2, q⟩ := q
    exact ⟨_, _, rfl, DPut.k (k := .inr _) h1 h2, q⟩
  · exact q.elim
def tDP (td ty tv : TE) : TS := fun D σ H => tv σ H fun v H1 => td σ H1 fun x H2 => ty σ H2 fun y H3 => uDPut x y v H3 fun H4 => D.nx σ H4
theorem k_dput (hu : X.A.units + 1 < cLine) (ho : PE X o td) (hi : PE X i ty) (hv : PE X value tv) (hs : swapsWith value (some (.Subscript o i pos')) pos.line X.env = pure false := by rfl) :
    PS X (.Assign [.Subscript o i pos'] value pos) (tDP td ty tv) := by
  refine ⟨fun pins s σ H D I h => ?_⟩
  refine wpAny_Assign_Subscript (thn (hv.run pins s σ H _ I h) fun r s1 ⟨v, H1, I1, rv, q1⟩ => thn (ho.run pins s1 σ H1 _ I1 q1) fun u s2 ⟨x, H2, I2, rx, q2⟩ => thn (hi.run pins s2 σ H2 _ I2 q2) fun iv s3 ⟨y, H3, I3, ry, q3⟩ => ?_) hs
  obtain ⟨a, H4, ex, g, q5⟩ := uDPut_of q3
  subst ex
  obtain rfl : u = Value.ref a := rx
  exact d_setItem hu I3 g ry rv fun s4 I4 => ⟨σ, H4, I4, q5⟩
/-- del d[y] -/
def uDDel : V → V → Hp → (Hp → Prop) → Prop
  | .ref a, .int i, H, Q => ∃ kvs, H a = some (.dK kvs) ∧ (valV kvs (.inl i)).isSome = true ∧ Q (upd H a (.dK (dropK kvs (.inl i))))
  | .ref a, .str i, H, Q => ∃ kvs, H a = some (.dK kvs) ∧ (valV kvs (.inr i)).isSome = true ∧ Q (upd H a (.dK (dropK kvs (.inr i))))
  | _, _, _, _ => False
theorem uDDel_of {x y : V} {H2 : Hp} {Q : Hp → Prop} (q : uDDel x y H2 Q) : ∃ a kvs k, x = .ref a ∧ H2 a = some (.dK kvs) ∧ y = kV k ∧ (valV kvs k).isSome = true ∧ Q (upd H2 a (.dK (dropK kvs k))) := by
  unfold uDDel at q
  split at q
  · obtain ⟨kvs, h1, h2, q⟩ := q
    exact ⟨_, kvs, .inl _, rfl, h1, rfl, h2, q⟩
  · obtain ⟨kvs, h1, h2, q⟩ := q
    exact ⟨_, kvs, .inr _, rfl, h1, rfl, h2, q⟩
  · exact q.elim
def tDD (td ty : TE) : TS := fun D σ H => td σ H fun x H1 => ty σ H1 fun y H2 => uDDel x y H2 fun H3 => D.nx σ H3
theorem k_ddel (ho : PE X o td) (hi : PE X i ty) : PS X (.Delete [.Subscript o i tpos] pos) (tDD td ty) := by
  refine ⟨fun pins s σ H D I h => ?_⟩
  refine wpAny_Delete (wpAny_deleteEach_cons (wpAny_delete_Subscript (thn (ho.run pins s σ H _ I h) fun u s1 ⟨x, H1, I1, rx, q1⟩ => thn (hi.run pins s1 σ H1 _ I1 q1) fun iv s2 ⟨y, H2, I2, ry, q2⟩ => ?_)))
  obtain ⟨a, kvs, k, ex, e, ey, l, q5⟩ := uDDel_of q2
  subst ex ey
  obtain rfl : u = Value.ref a := rx
  exact d_delItem I2 e ry l fun s3 I3 => wpAny_deleteEach_nil ⟨σ, _, I3, q5⟩
end
section
variable {H : Hp} {a : Addr} {kvs : List (Key × V)} {v : V} {i : Int} {x : Str}
theorem dget_i {Q : VK} (h : H a = some (.dK kvs)) (e : valV kvs (.inl i) = some v) (q : Q v H) : uDGet (.ref a) (.int i) H Q := ⟨kvs, v, h, e, q⟩
theorem dget_s {Q : VK} (h : H a = some (.dK kvs)) (e : valV kvs (.inr x) = some v) (q : Q v H) : uDGet (.ref a) (.str x) H Q := ⟨kvs, v, h, e, q⟩
theorem din_i {Q : Bool → Prop} (h : H a = some (.dK kvs)) (q : Q (valV kvs (.inl i)).isSome) : uDIn (.int i) (.ref a) H Q := ⟨kvs, h, q⟩
theorem din_s {Q : Bool → Prop} (h : H a = some (.dK kvs)) (q : Q (valV kvs (.inr x)).isSome) : uDIn (.str x) (.ref a) H Q := ⟨kvs, h, q⟩
theorem dput_i {Q : Hp → Prop} (h : H a = some (.dK kvs)) (e : kvs.length < sizeLine) (q : Q (upd H a (.dK (putK kvs (.inl i) v)))) : uDPut (.ref a) (.int i) v H Q := ⟨kvs, h, e, q⟩
theorem dput_s {Q : Hp → Prop} (h : H a = some (.dK kvs)) (e : kvs.length < sizeLine) (q : Q (upd H a (.dK (putK kvs (.inr x) v)))) : uDPut (.ref a) (.str x) v H Q := ⟨kvs, h, e, q⟩
theorem ddel_i {Q : Hp → Prop} (h : H a = some (.dK kvs)) (e : (valV kvs (.inl i)).isSome = true) (q : Q (upd H a (.dK (dropK kvs (.inl i))))) : uDDel (.ref a) (.int i) H Q := ⟨kvs, h, e, q⟩
theorem ddel_s {Q : Hp → Prop} (h : H a = some (.dK kvs)) (e : (valV kvs (.inr x)).isSome = true) (q : Q (upd H a (.dK (dropK kvs (.inr x))))) : uDDel (.ref a) (.str x) H Q := ⟨kvs, h, e, q⟩
end
/-! ### built-ins -/
section
variable {X : Cx}
/-- list(xs): of a list or a tuple -/
def uList (K : Frag) : List V → Hp → VK → Prop
  | [.ref p], H, Q => ∃ ys, (SqL K H p ys ∨ SqT K H p ys) ∧ ∀ l, H l = none → Q (.ref l) (upd H l (.lst ys))
  | _, _, _ => False
theorem c_list : CallR X (.type "list") (uList X.K) := CallRw call_list_of fun xs H Q h => by
  unfold uList at h
  split at h
  · obtain ⟨ys, hs, q⟩ := h
    exact ⟨_, ys, rfl, hs, q⟩
  · exact h.elim
theorem list_l {K : Frag} {H : Hp} {p : Addr} {ys : List V} {Q : VK} (h : H p = some (.lst ys)) (q : ∀ l, H l = none → Q (.ref l) (upd H l (.lst ys))) : uList K [.ref p] H Q := ⟨ys, .inl (.of h), q⟩
theorem list_t {K : Frag} {H : Hp} {p : Addr} {ys : List V} {Q : VK} (h : H p = some (.tup ys)) (q : ∀ l, H l = none → Q (.ref l) (upd H l (.lst ys))) : uList K [.ref p] H Q := ⟨ys, .inr (.of h), q⟩
theorem list_sl {K : Frag} {H : Hp} {p : Addr} {ys : List V} {Q : VK} (h : SqL K H p ys) (q : ∀ l, H l = none → Q (.ref l) (upd H l (.lst ys))) : uList K [.ref p] H Q := ⟨ys, .inl h, q⟩
/-- str(x) -/
def uStr : List V → Hp → VK → Prop
  | [.int i], H, Q => i.natAbs.log2 < 1920 ∧ Q (.str (toString i)) H
  | [.str a], H, Q => Q (.str a) H
  | _, _, _ => False
theorem c_str : CallR X (.type "str") uStr := CallRw (r := fun xs H Q => (∃ i, xs = [.int i] ∧ i.natAbs.log2 < 1920 ∧ Q (.str (toString i)) H) ∨ ∃ a, xs = [.str a] ∧ Q (.str a) H) (by
  intro pins s σ H xs us Q I r h
  rcases h with h | h
  · exact call_str_int pins s σ H xs us Q I r h
  · exact SkE.call_str_str pins s σ H xs us Q I r h) fun xs H Q h => by
  unfold uStr at h
  split at h
  · exact .inl ⟨_, rfl, h.1, h.2⟩
  · exact .inr ⟨_, rfl, h⟩
  · exact h.elim
/-- text * k -/
theorem foldl_cps (a : Array Nat) : ∀ (m : Nat) (acc : Array Nat), (List.replicate m a).foldl (· ++ ·) acc = acc ++ (List.replicate m a.toList).flatten.toArray
  | 0, acc => by simp
  | m + 1, acc => by
    rw [List.replicate_succ, List.foldl_cons, foldl_cps a m, List.replicate_succ, List.flatten_cons]
    apply Array.toList_inj.mp
    simp
def repS (a : Str) (k : Nat) : Str := S (List.replicate k a.cps.toList).flatten
theorem repS_len (a : Str) (k : Nat) : (repS a k).length = a.length * k := by
  unfold repS
  rw [S_len]
  have : ∀ k, ((List.replicate k a.cps.toList).flatten).length = a.cps.toList.length * k := fun k => by
    induction k with
    | zero => simp
    | succ k ih => rw [List.replicate_succ, List.flatten_cons, List.length_append, ih, Nat.mul_succ, Nat.add_comm]
  rw [this]
  rfl
theorem op_repS : OpR X (binaryOp .Mult) (fun x y H Q => ∃ a k, x = .str a ∧ y = .int k ∧ 0 ≤ k ∧ k ≤ 1000000 ∧ a.length * k.toNat ≤ sizeLine ∧ Q (.str (repS a k.toNat)) H) := by
  intro pins s σ H x y v u Q I rx ry h
  obtain ⟨a, k, rfl, rfl, h0, h1, hz, q⟩ := h
  obtain ⟨t, rfl⟩ := rx
  obtain ⟨tu, rfl⟩ := ry
  have e1 : (decide (k < -(2 ^ 63 : Int)) || decide (k ≥ 2 ^ 63)) = false := by
    rw [decide_eq_false (by omega), decide_eq_false (by omega)]; rfl
  have hs : sizeLine = 16777216 := sizeLine_eq
  have tl : Builtin.Str.tooLong (a.length * k.toNat) = false := by
    first
      | exact decide_eq_false (by omega)
      | (unfold Builtin.Str.tooLong; exact decide_eq_false (by omega))
      | (unfold Builtin.Str.tooLong; simp; omega)
  refine PySem.P.mul_str e1 (fun h2 h3 => ?_) (fun _ _ => tl) ?_
  · have h4 : (k == 1 || a.length == 0) = false := h3
    have p : 1 ≤ k := by omega
    have hl : (a.length : Int) ≤ 16777216 := by
      have : a.length * 1 ≤ a.length * k.toNat := Nat.mul_le_mul_left _ (by omega)
      omega
    have : (16777216 : Int) ≤ (2 ^ 63 - 1) / k := by
      rw [Int.le_ediv_iff_mul_le (by omega)]
      omega
    omega
  · by_cases c : k < 1
    · rw [if_pos c]
      have e : k = 0 := by omega
      subst e
      exact ⟨by decide, ⟨.str _, H, I.tok _, ⟨_, rfl⟩, q⟩⟩
    · rw [if_neg c]
      by_cases c2 : (k == 1 || a.length == 0) = true
      · rw [if_pos c2]
        have e : repS a k.toNat = a := by
          rcases (by simpa using c2 : k = 1 ∨ a.length = 0) with e | e
          · subst e
            show S (List.replicate 1 a.cps.toList).flatten = a
            rw [show (List.replicate 1 a.cps.toList).flatten = a.cps.toList by simp, S_tl]
          · have l0 : (repS a k.toNat).length = 0 := by rw [repS_len, e, Nat.zero_mul]
            have z : ∀ x : Str, x.length = 0 → x = S [] := fun x hx => by
              rw [← S_tl x]
              have : x.cps.toList = [] := List.eq_nil_of_length_eq_zero (by have : x.cps.toList.length = x.length := rfl; omega)
              rw [this]
            rw [z _ l0, z _ e]
        rw [e] at q
        exact ⟨.str _, H, I, ⟨_, rfl⟩, q⟩
      · rw [if_neg c2]
        have e : (⟨(List.replicate k.toNat a.cps).foldl (· ++ ·) #[]⟩ : Str) = repS a k.toNat := by
          rw [foldl_cps]
          unfold repS
          show _ = Str.mk _
          congr 1
          simp
        rw [e]
        exact ⟨by rw [repS_len]; exact hz, ⟨.str _, H, I.tok _, ⟨_, rfl⟩, q⟩⟩
/-- times: ints, texts, lists -/
def uMul2 : R2
  | .int i, .int j, H, Q => (CMul i j ∨ CMulW i j ∨ CMulX i j) ∧ Q (.int (i * j)) H
  | .str a, .int k, H, Q => 0 ≤ k ∧ k ≤ 1000000 ∧ a.length * k.toNat ≤ sizeLine ∧ Q (.str (repS a k.toNat)) H
  | .ref l, .int k, H, Q => ∃ xs, H l = some (.lst xs) ∧ 0 ≤ k ∧ k ≤ 1000000 ∧ xs.length * k.toNat ≤ sizeLine ∧ ∀ p, H p = none → Q (.ref p) (upd H p (.lst (List.replicate k.toNat xs).flatten))
  | _, _, _, _ => False
theorem o_mul2 : OpR X (binaryOp .Mult) uMul2 := OpRw (op_mul.or (op_mulW.or (op_mulX.or (op_repS.or op_rep)))) fun x y H Q h => by
  unfold uMul2 at h
  split at h
  · obtain ⟨c | c | c, h⟩ := h
    · exact .inl ⟨_, _, rfl, rfl, c, h⟩
    · exact .inr (.inl ⟨_, _, rfl, rfl, c, h⟩)
    · exact .inr (.inr (.inl ⟨_, _, rfl, rfl, c, h⟩))
  · exact .inr (.inr (.inr (.inl ⟨_, _, rfl, rfl, h.1, h.2.1, h.2.2.1, h.2.2.2⟩)))
  · obtain ⟨xs, h1, h2, h3, h4, q⟩ := h
    exact .inr (.inr (.inr (.inr ⟨_, _, xs, rfl, rfl, h1, by omega, by omega, h4, q⟩)))
  · exact h.elim
theorem mul2_l {i j : Int} (h : -18446744073709551616 < i ∧ i < 18446744073709551616) : CMul i j ∨ CMulW i j ∨ CMulX i j := .inl (.inl ⟨by omega, by omega⟩)
theorem mul2_r {i j : Int} (h : -18446744073709551616 < j ∧ j < 18446744073709551616) : CMul i j ∨ CMulW i j ∨ CMulX i j := .inl (.inr ⟨by omega, by omega⟩)
theorem rep_l {H : Hp} {l : Addr} {k : Int} {xs : List V} {Q : VK} (h : H l = some (.lst xs)) (h0 : 0 ≤ k) (h1 : k ≤ 1000000) (h2 : xs.length * k.toNat ≤ sizeLine) (q : ∀ p, H p = none → Q (.ref p) (upd H p (.lst (List.replicate k.toNat xs).flatten))) : uMul2 (.ref l) (.int k) H Q := ⟨xs, h, h0, h1, h2, q⟩
end
end KW

set_option Elab.async false
set_option linter.all false
set_option maxRecDepth 100000
set_option maxHeartbeats 4000000
/-! Kw2e: what the top leaves, made; case lemmas; steps -/
namespace KW
open PySem PySem.Spec PyProof.Rows L2
section
variable {K : Frag} {mg : Str → Option Value} {h : Heap} {x m qual : Str} {C f T : Addr} {st : Stmt} {ns ps : List Str} {oc : Value} {od an : Option Addr} {osl : Array (Option Value)} {kV doc pm cdv ct : Value}
theorem clsA_mk (X : K.In h) (G : h.Ns mainGlobals mg) (a : PySem.W.nsIn K mainGlobals x = some (some (.ref C))) (pg : PySem.W.plainGet K C Str.empty = true) (hd : PySem.W.hasDictIn K C = true) (po : PySem.W.plainOver K C = true)
    (sa : PySem.W.findIn K (.ref C) "__setattr__" = some (some (.builtin "object.__setattr__"))) (no : ∀ f ∈ ns, PySem.W.findIn K (.ref C) f = some none) : ClsA K mg x C ns :=
  ⟨PySem.W.mg_of X G a, ⟨pg, hd, po, sa⟩, no⟩
theorem metAt_mk (a : PySem.W.findIn K (.ref C) m = some (some (.ref f))) (fn : PySem.W.isFn K (.ref f) = true) (kp : PySem.W.keepIn K (.ref f) = true)
    (l : K.lookup f = some ⟨oc, od, .func (PySem.W.fnOf m qual (defArgs st) (defBody st) (defScope st) .none kV doc pm an cdv ct), osl⟩) (c : PySem.W.codeIn K cdv qual = true)
    (hb : ∀ (kV doc pm : Value) (an : Option Addr) (cdv ct : Value) (us : List Value), us.length = ps.length → bindArgs (PySem.W.fnOf m qual (defArgs st) (defBody st) (defScope st) .none kV doc pm an cdv ct) ⟨us, []⟩ = pure (ps.zip us)) : MetAt K C m qual st ps := by
  have F : FunD K m qual (defArgs st) (defBody st) (defScope st) [] [] f _ := ⟨⟨oc, od, .none, kV, doc, pm, an, cdv, ct, osl, rfl, l, c, .inl ⟨rfl, rfl⟩, .inl rfl⟩, kp⟩
  exact ⟨f, ⟨a, fn, kp⟩, _, F, fun j hj => ⟨[], by simpa using Paired.nil, F.bindsN hb⟩⟩
theorem iniAt_mk (kc : PySem.W.keepIn K (.ref C) = true) (mk : PySem.W.makesIn K C = true) (a : PySem.W.findIn K (.ref C) "__init__" = some (some (.ref f))) (fn : PySem.W.isFn K (.ref f) = true) (kp : PySem.W.keepIn K (.ref f) = true)
    (l : K.lookup f = some ⟨oc, od, .func (PySem.W.fnOf "__init__" qual (defArgs st) (defBody st) (defScope st) .none kV doc pm an cdv ct), osl⟩) (c : PySem.W.codeIn K cdv qual = true)
    (hb : ∀ (kV doc pm : Value) (an : Option Addr) (cdv ct : Value) (us : List Value), us.length = ps.length → bindArgs (PySem.W.fnOf "__init__" qual (defArgs st) (defBody st) (defScope st) .none kV doc pm an cdv ct) ⟨us, []⟩ = pure (ps.zip us)) : IniAt K C qual st ps [] := by
  have F : FunD K "__init__" qual (defArgs st) (defBody st) (defScope st) [] [] f _ := ⟨⟨oc, od, .none, kV, doc, pm, an, cdv, ct, osl, rfl, l, c, .inl ⟨rfl, rfl⟩, .inl rfl⟩, kp⟩
  exact ⟨f, ⟨mk, a, fn, kc⟩, _, F, fun j hj => ⟨[], by simpa using Paired.nil, F.bindsN hb⟩⟩
theorem iniAt_mkD {dvs : List V} {its : List Value} {o : Obj} {n : Nat} (kc : PySem.W.keepIn K (.ref C) = true) (mk : PySem.W.makesIn K C = true) (a : PySem.W.findIn K (.ref C) "__init__" = some (some (.ref f))) (fn : PySem.W.isFn K (.ref f) = true) (kp : PySem.W.keepIn K (.ref f) = true)
    (l : K.lookup f = some ⟨oc, od, .func (PySem.W.fnOf "__init__" qual (defArgs st) (defBody st) (defScope st) (.ref T) kV doc pm an cdv ct), osl⟩) (c : PySem.W.codeIn K cdv qual = true)
    (lT : K.lookup T = some o) (oT : o.data = .seq its.toArray n) (r : Vals dvs its) (hd : dvs ≠ []) (hl : dvs.length ≤ ps.length)
    (hb : ∀ j, j ≤ dvs.length → ∀ (T : Addr) (kV doc pm : Value) (an : Option Addr) (cdv ct : Value) (us its : List Value), us.length = ps.length - (dvs.length - j) → its.length = dvs.length →
      ∃ k, bindArgs (PySem.W.fnOf "__init__" qual (defArgs st) (defBody st) (defScope st) (.ref T) kV doc pm an cdv ct) ⟨us, []⟩ = seqItems? (.ref T) >>= k ∧ k (some its.toArray) = pure (ps.zip (us ++ its.drop j))) : IniAt K C qual st ps dvs := by
  have F : FunD K "__init__" qual (defArgs st) (defBody st) (defScope st) dvs [] f _ := ⟨⟨oc, od, .ref T, kV, doc, pm, an, cdv, ct, osl, rfl, l, c, .inr ⟨hd, T, o, its, n, rfl, lT, oT, r⟩, .inl rfl⟩, kp⟩
  exact ⟨f, ⟨mk, a, fn, kc⟩, _, F, fun j hj => F.binds1 (ps.length - (dvs.length - j)) j hd (by omega) (hb j hj)⟩
end
/-! ### case lemmas -/
theorem uStr_e1 {i : Int} {H : Hp} {Q : VK} : uStr [.int i] H Q = (i.natAbs.log2 < 1920 ∧ Q (.str (toString i)) H) := rfl
theorem uStr_e2 {a : Str} {H : Hp} {Q : VK} : uStr [.str a] H Q = Q (.str a) H := rfl
theorem uMul2_e1 {i j : Int} {H : Hp} {Q : VK} : uMul2 (.int i) (.int j) H Q = ((CMul i j ∨ CMulW i j ∨ CMulX i j) ∧ Q (.int (i * j)) H) := rfl
theorem uMul2_e2 {a : Str} {k : Int} {H : Hp} {Q : VK} : uMul2 (.str a) (.int k) H Q = (0 ≤ k ∧ k ≤ 1000000 ∧ a.length * k.toNat ≤ sizeLine ∧ Q (.str (repS a k.toNat)) H) := rfl
theorem okS_i {n : Int} : PySem.KErr.okS (.int n) = (n.natAbs < 10 ^ 4300) := rfl
theorem okS_s {x : Str} : PySem.KErr.okS (.str x) = True := rfl
theorem small4300 {n : Int} (h : -100000000000000000000000000000000000000000000000000000000000000000000000000000000 < n ∧ n < 100000000000000000000000000000000000000000000000000000000000000000000000000000000) : n.natAbs < 10 ^ 4300 := by
  refine Nat.lt_of_lt_of_le (show n.natAbs < 10 ^ 80 by omega) (Nat.pow_le_pow_right (by decide) (by decide))
theorem WE_e {W : WX} {σ : L2.St} {c : Value} {d : Option Addr} {H : Hp} : WE W σ c d H = W c d σ H := rfl
/-! ### errors caught or let through -/
section
variable {K : Frag} {c cls : Value} {d : Option Addr} {i : Nat} {ts : Addr → Value → Option Addr → TS} {W : WX} {D : Ends} {σ : L2.St} {H : Hp}
theorem as_yes (h : PySem.W.exmOne K cls c = some true) (q : ∀ a, H a = none → ts a cls d { nx := fun σ' H' => D.nx (σ'.set i none) H', rt := D.rt, bk := fun σ' H' => D.bk (σ'.set i none) H', ct := fun σ' H' => D.ct (σ'.set i none) H' } (σ.set i (some (.ref a))) H) : wAs K c i ts W D cls d σ H :=
  ⟨true, h, ⟨fun _ => q, fun z => absurd z.symm Bool.false_ne_true⟩⟩
theorem as_no (h : PySem.W.exmOne K cls c = some false) (q : W cls d σ H) : wAs K c i ts W D cls d σ H := ⟨false, h, ⟨fun z => absurd z Bool.false_ne_true, fun _ => q⟩⟩
variable {a C dd : Addr} {fs : List (Str × V)} {v : V} {f : Str} {Q : VK} {P : Program} {w : World} {mg : Str → Option Value} {x : Str} {ns : List Str} {ok : List V → Prop}
theorem ef_l (c : ErrC P w K mg x C ns ok) (m : f ∈ ns) (e : σ[i]? = some (some (.ref a))) (h : H dd = some (.xd fs)) (l : fs.lookup f = some v) (q : Q v H) : uEf K a (.ref C) (some dd) i f σ H Q := ⟨C, dd, fs, v, e, rfl, c.xf, c.no f m, rfl, h, l, q⟩
theorem isE_r {b : Addr} {r : Bool} (c : ErrC P w K mg x C ns ok) (h : H dd = some (.xd fs)) (k : PySem.W.kitOne K (.ref C) (.ref b) = some r) (q : Q (.bl r) H) : uIsE K a (.ref C) (some dd) [.ref a, .ref b] H Q := ⟨C, dd, fs, r, rfl, rfl, c.is, rfl, h, k, q⟩
theorem isE_t {T : String} {r : Bool} (c : ErrC P w K mg x C ns ok) (h : H dd = some (.xd fs)) (k : PySem.W.kitOne K (.ref C) (.type T) = some r) (q : Q (.bl r) H) : uIsE K a (.ref C) (some dd) [.ref a, .ty T] H Q := ⟨C, dd, fs, r, rfl, rfl, c.is, rfl, h, k, q⟩
end
section
variable {H : Hp} {a b p : Addr} {o : HO}
theorem upd_none : upd H a o p = none ↔ p ≠ a ∧ H p = none := by
  by_cases h : p = a
  · subst h; rw [upd_same]; simp
  · rw [upd_ne h]; simp [h]
theorem ne_ud (h : upd H a o p = none) : p ≠ a := (upd_none.mp h).1
theorem ne_un (h : upd H a o p = none) : H p = none := (upd_none.mp h).2
theorem ne_n (h2 : H b = some o) (h : H p = none) : p ≠ b := fun e => by subst e; rw [h] at h2; cases h2
theorem ne_m (h : H p = none) (h2 : H b = some o) : p ≠ b := ne_n h2 h
theorem putF_nil {f : Str} {v : V} : putF f v [] = [(f, v)] := rfl
theorem putF_cons {f g : Str} {v x : V} {r : List (Str × V)} : putF f v ((g, x) :: r) = if g = f then (g, v) :: r else (g, x) :: putF f v r := rfl
end
end KW

set_option Elab.async false
set_option linter.all false
set_option maxRecDepth 100000
set_option maxHeartbeats 4000000
/-! Kw2f: methods of lists, stepwise; lists of texts and of ints -/
namespace KW
open PySem PySem.Spec PyProof.Rows L2
section
variable {K : Frag} {H : Hp} {l b p : Addr} {xs zs : List V} {y v : V} {Q : VK}
theorem app_l (h : H l = some (.lst xs)) (z : xs.length < sizeLine) (q : Q .non (upd H l (.lst (xs ++ [y])))) : rAppend (.ref l) [y] H Q := ⟨l, xs, y, rfl, rfl, h, z, q⟩
theorem ext_l (h : H l = some (.lst xs)) (h2 : H b = some (.lst zs)) (z : xs.length + zs.length ≤ sizeLine) (q : Q .non (upd H l (.lst (xs ++ zs)))) : rExtend (.ref l) [.ref b] H Q := ⟨l, b, xs, zs, rfl, rfl, h, h2, z, q⟩
theorem pop_l (h : H l = some (.lst xs)) (e : xs[xs.length - 1]? = some y) (q : Q y (upd H l (.lst xs.dropLast))) : rPop (.ref l) [] H Q := ⟨l, xs, y, rfl, rfl, h, e, q⟩
theorem pops_l {y : V} (h : H l = some (.lst (xs ++ [y]))) (q : Q y (upd H l (.lst xs))) : rPop (.ref l) [] H Q := ⟨l, _, y, rfl, rfl, h, by simp, by rw [List.dropLast_concat]; exact q⟩
theorem rev_l (h : H l = some (.lst xs)) (q : Q .non (upd H l (.lst xs.reverse))) : rReverse (.ref l) [] H Q := ⟨l, xs, rfl, rfl, h, q⟩
theorem clr_l (h : H l = some (.lst xs)) (q : Q .non (upd H l (.lst []))) : rClear (.ref l) [] H Q := ⟨l, xs, rfl, rfl, h, q⟩
theorem cat_l (h : H l = some (.lst xs)) (h2 : H b = some (.lst zs)) (z : xs.length + zs.length ≤ sizeLine) (q : ∀ p, H p = none → Q (.ref p) (upd H p (.lst (xs ++ zs)))) : rCat (.ref l) (.ref b) H Q := ⟨l, b, xs, zs, rfl, rfl, h, h2, z, q⟩
theorem sll_l {lo hi : Option Int} (h : H l = some (.lst xs)) (q : ∀ p, H p = none → Q (.ref p) (upd H p (.lst (cutV xs lo hi)))) : rSlL K (.ref l) lo hi H Q := ⟨l, xs, rfl, .of h, q⟩
theorem usl_l {lo hi : Option Int} (h : H l = some (.lst xs)) (q : ∀ p, H p = none → Q (.ref p) (upd H p (.lst (cutV xs lo hi)))) : uSl K (.ref l) lo hi H Q := .inl (sll_l h q)
theorem ucat_l (h : H l = some (.lst xs)) (h2 : H b = some (.lst zs)) (z : xs.length + zs.length ≤ sizeLine) (q : ∀ p, H p = none → Q (.ref p) (upd H p (.lst (xs ++ zs)))) : uAdd K (.ref l) (.ref b) H Q := .inl (cat_l h h2 z q)
theorem tru_l {k : Bool → Prop} (h : H l = some (.lst xs)) (q : k (!xs.isEmpty)) : uTru K (.ref l) H k := ⟨_, .inl ⟨xs, .of h, rfl⟩, q⟩
theorem tru_sl {k : Bool → Prop} (h : SqL K H l xs) (q : k (!xs.isEmpty)) : uTru K (.ref l) H k := ⟨_, .inl ⟨xs, h, rfl⟩, q⟩
theorem tru_t {k : Bool → Prop} (h : H l = some (.tup xs)) (q : k (!xs.isEmpty)) : uTru K (.ref l) H k := ⟨_, .inr (.inl ⟨xs, .of h, rfl⟩), q⟩
theorem tru_d {k : Bool → Prop} {kvs : List (Key × V)} (h : H l = some (.dK kvs)) (q : k (!kvs.isEmpty)) : uTru K (.ref l) H k := ⟨_, .inr (.inr ⟨kvs, h, rfl⟩), q⟩
end
section
variable {K : Frag} {H : Hp} {p : Addr} {xs : List V} {Q : VK} {n : String}
theorem isi_l (h : H p = some (.lst xs)) (o : isOk "list" n = true) (q : Q (.bl (isK "list" n)) H) : uIsi K [.ref p, .ty n] H Q := ⟨"list", .base (.lst h), o, q⟩
theorem isi_t (h : H p = some (.tup xs)) (o : isOk "tuple" n = true) (q : Q (.bl (isK "tuple" n)) H) : uIsi K [.ref p, .ty n] H Q := ⟨"tuple", .base (.tup h), o, q⟩
theorem isi_d {kvs : List (Key × V)} (h : H p = some (.dK kvs)) (o : isOk "dict" n = true) (q : Q (.bl (isK "dict" n)) H) : uIsi K [.ref p, .ty n] H Q := ⟨"dict", .base (.dK h), o, q⟩
end
/-! ### lists of texts, of ints -/
section
variable {K : Frag} {H : Hp} {l : Addr} {Q : VK}
theorem flat_strs (xs : List Str) : (xs.map V.str).all flatV = true := by simp [flatV]
theorem flat_ints (xs : List Int) : (xs.map V.int).all flatV = true := by simp [flatV]
theorem inV_strs (x : Str) : ∀ xs : List Str, inV (.str x) (xs.map V.str) = decide (x ∈ xs)
  | [] => rfl
  | a :: r => by
    show ((a == x) || inV (.str x) (r.map V.str)) = decide (x ∈ a :: r)
    rw [inV_strs x r]
    by_cases e : a = x
    · subst e; simp
    · have e2 : ¬ x = a := fun z => e z.symm
      have e3 : (a == x) = false := by simpa using e
      simp [e2, e3]
theorem inV_ints (x : Int) : ∀ xs : List Int, inV (.int x) (xs.map V.int) = decide (x ∈ xs)
  | [] => rfl
  | a :: r => by
    show ((a == x) || inV (.int x) (r.map V.int)) = decide (x ∈ a :: r)
    rw [inV_ints x r]
    by_cases e : a = x
    · subst e; simp
    · have e2 : ¬ x = a := fun z => e z.symm
      have e3 : (a == x) = false := by simpa using e
      simp [e2, e3]
theorem in_s {x : Str} {xs : List Str} (h : H l = some (.lst (xs.map V.str))) (q : Q (.bl (decide (x ∈ xs))) H) : rIn K false (.str x) (.ref l) H Q := ⟨l, _, rfl, .inl (.of h), rfl, flat_strs xs, by rw [inV_strs]; exact q⟩
theorem nin_s {x : Str} {xs : List Str} (h : H l = some (.lst (xs.map V.str))) (q : Q (.bl (!decide (x ∈ xs))) H) : rIn K true (.str x) (.ref l) H Q := ⟨l, _, rfl, .inl (.of h), rfl, flat_strs xs, by rw [inV_strs]; exact q⟩
theorem in_i {x : Int} {xs : List Int} (h : H l = some (.lst (xs.map V.int))) (q : Q (.bl (decide (x ∈ xs))) H) : rIn K false (.int x) (.ref l) H Q := ⟨l, _, rfl, .inl (.of h), rfl, flat_ints xs, by rw [inV_ints]; exact q⟩
theorem nin_i {x : Int} {xs : List Int} (h : H l = some (.lst (xs.map V.int))) (q : Q (.bl (!decide (x ∈ xs))) H) : rIn K true (.int x) (.ref l) H Q := ⟨l, _, rfl, .inl (.of h), rfl, flat_ints xs, by rw [inV_ints]; exact q⟩
theorem idxOf_get {α : Type} [BEq α] [LawfulBEq α] {x : α} : ∀ {xs : List α}, x ∈ xs → xs[xs.idxOf x]? = some x ∧ ∀ m z, m < xs.idxOf x → xs[m]? = some z → z ≠ x
  | [], h => by cases h
  | a :: r, h => by
    by_cases e : a = x
    · subst e
      rw [List.idxOf_cons_self]
      exact ⟨rfl, fun m z hm => absurd hm (Nat.not_lt_zero _)⟩
    · have hm : x ∈ r := by
        rcases List.mem_cons.mp h with q | q
        · exact absurd q.symm e
        · exact q
      obtain ⟨h1, h2⟩ := idxOf_get hm
      have hi : (a :: r).idxOf x = r.idxOf x + 1 := by
        rw [List.idxOf_cons]
        have : (a == x) = false := by simpa using e
        rw [this]
        rfl
      rw [hi]
      refine ⟨h1, fun m z hm hz => ?_⟩
      cases m with
      | zero => simp at hz; rw [← hz]; exact e
      | succ m => exact h2 m z (by omega) hz
theorem idx_s {x : Str} {xs : List Str} (h : H l = some (.lst (xs.map V.str))) (m : x ∈ xs) (q : Q (.int (xs.idxOf x : Nat)) H) : rIndex K (.ref l) [.str x] H Q := by
  obtain ⟨h1, h2⟩ := idxOf_get m
  refine ⟨l, _, .str x, xs.idxOf x, .str x, rfl, rfl, .of h, rfl, flat_strs xs, ?_, by simp [eqV], fun m z hm hz => ?_, q⟩
  · rw [List.getElem?_map, h1]; rfl
  · rw [List.getElem?_map] at hz
    cases e : xs[m]? with
    | none => rw [e] at hz; cases hz
    | some w =>
      rw [e] at hz
      cases hz
      simpa [eqV] using h2 m w hm e
theorem idx_i {x : Int} {xs : List Int} (h : H l = some (.lst (xs.map V.int))) (m : x ∈ xs) (q : Q (.int (xs.idxOf x : Nat)) H) : rIndex K (.ref l) [.int x] H Q := by
  obtain ⟨h1, h2⟩ := idxOf_get m
  refine ⟨l, _, .int x, xs.idxOf x, .int x, rfl, rfl, .of h, rfl, flat_ints xs, ?_, by simp [eqV], fun m z hm hz => ?_, q⟩
  · rw [List.getElem?_map, h1]; rfl
  · rw [List.getElem?_map] at hz
    cases e : xs[m]? with
    | none => rw [e] at hz; cases hz
    | some w =>
      rw [e] at hz
      cases hz
      simpa [eqV] using h2 m w hm e
theorem atI_map {α β : Type} {f : α → β} {xs : List α} {i : Nat} {x : α} (h : xs[i]? = some x) : atI (xs.map f) (i : Int) = some (f x) := atI_nat (by rw [List.getElem?_map, h]; rfl)
end
theorem cutV_from (xs : List V) (n : Nat) : cutV xs (some (n : Int)) none = xs.drop n := by
  unfold cutV
  rw [HT.sIx_nat]
  show (xs.drop (min n xs.length)).take (xs.length - min n xs.length) = xs.drop n
  by_cases h : n ≤ xs.length
  · rw [Nat.min_eq_left h, List.take_of_length_le (by rw [List.length_drop]; omega)]
  · rw [Nat.min_eq_right (by omega), List.drop_length, List.drop_eq_nil_of_le (by omega)]
    simp
theorem cutV_nat (xs : List V) (i j : Nat) : cutV xs (some (i : Int)) (some (j : Int)) = (xs.drop i).take (j - i) := by
  unfold cutV
  rw [HT.sIx_nat, HT.sIx_nat]
  have e : xs.drop (min i xs.length) = xs.drop i := by
    by_cases h : i ≤ xs.length
    · rw [Nat.min_eq_left h]
    · rw [Nat.min_eq_right (by omega), List.drop_length, List.drop_eq_nil_of_le (by omega)]
  rw [e]
  refine List.take_eq_take_iff.mpr ?_
  rw [List.length_drop]
  omega
theorem valV_drop (kvs : List (Key × V)) (k j : Key) : valV (dropK kvs k) j = if j = k then none else valV kvs j := by
  unfold valV dropK
  rw [List.find?_filter]
  by_cases e : j = k
  · subst e
    rw [if_pos rfl]
    have : (kvs.find? fun a => decide (a.1 ≠ j) && decide (a.1 = j)) = none := by
      rw [List.find?_eq_none]
      intro a _
      simp
    simp [this]
  · rw [if_neg e]
    congr 1
    congr 1
    funext a
    by_cases c : a.1 = j
    · have : ¬ a.1 = k := fun z => e (c.symm.trans z)
      simp [c, this, e]
    · simp [c]
/-! ### places in a text -/
def nthS (l : List Stmt) (i : Nat) : Stmt := l.getD i (.Pass ⟨0, 0, 0, 0⟩)
def ifB : Stmt → List Stmt | .If _ b _ _ => b | _ => []
def ifE : Stmt → List Stmt | .If _ _ b _ => b | _ => []
def whB : Stmt → List Stmt | .While _ b _ _ => b | _ => []
def forB : Stmt → List Stmt | .For _ _ b _ _ => b | _ => []
def tryB : Stmt → List Stmt | .Try b _ _ _ _ => b | _ => []
def suB : Stmt → List Stmt | .Try _ [.ExceptHandler _ _ b _] _ _ _ => b | _ => []
/-! ### all but some stands -/
def Fr (l : List Addr) (H H' : Hp) : Prop := ∀ b o, b ∉ l → H b = some o → H' b = some o
theorem Fr.refl {l : List Addr} (H : Hp) : Fr l H H := fun _ _ _ h => h
theorem Fr.trans {l : List Addr} {H H1 H2 : Hp} (x : Fr l H H1) (y : Fr l H1 H2) : Fr l H H2 := fun b o n h => y b o n (x b o n h)
theorem Fr.mono {l m : List Addr} {H H1 : Hp} (x : Fr l H H1) (y : ∀ b, b ∈ l → b ∈ m) : Fr m H H1 := fun b o n h => x b o (fun z => n (y b z)) h
theorem Fr.upd {l : List Addr} {a : Addr} {H : Hp} {o : HO} (h : a ∈ l) : Fr l H (L2.upd H a o) := fun b _ n e => by rw [upd_ne (fun z => n (by rw [z]; exact h))]; exact e
theorem Fr.new {l : List Addr} {p : Addr} {H : Hp} {o : HO} (h : H p = none) : Fr l H (L2.upd H p o) := fun b u _ e => by rw [upd_ne (ne_of_none e h)]; exact e
theorem Fr.lst {l : List Addr} {H H' : Hp} {b : Addr} {o : HO} (x : Fr l H H') (h : H b = some o) (n : b ∉ l) : H' b = some o := x b o n h
theorem Fr.seq {l : List Addr} {b : Addr} {K : Frag} {H H' : Hp} {xs : List V} (e : Fr l H H') (n : b ∉ l) (h : SqL K H b xs) : SqL K H' b xs := by
  rcases h with (h | ⟨o, h⟩) | h
  · exact .inl (.inl (e _ _ n h))
  · exact .inl (.inr ⟨o, e _ _ n h⟩)
  · exact .inr h
end KW

set_option Elab.async false
set_option linter.all false
set_option maxRecDepth 100000
set_option maxHeartbeats 4000000
/-! Kw2g: list comprehensions -/
namespace KW
open PySem PySem.Spec PyProof.Rows L2
/-- the loop of a comprehension, behind the making of its iterator: not opened by simp -/
def lcK (J : It) (g : TG) (tt : TT) (te : TE) (vs : List Nat) (σ : L2.St) (H1 : Hp) (Q : VK) : Prop := ∀ D, H1 D = none → ∃ W : Nat → Nat → Hp → Prop, (∃ m, W 0 m (upd H1 D (.lst []))) ∧ ∀ i m H, W i m H →
  (J.stop i H ∧ Q (.ref D) H) ∨ (J.go i H ∧ ∃ Nx : Hp → Prop, (∀ H', Nx H' → ∃ m', m' < m ∧ W (i + 1) m' H') ∧ ∀ x H', J.yld i H x H' → g x (wipe σ vs) H' fun σ2 H2 => wipe σ2 vs = wipe σ vs ∧ tt σ2 H2 fun b H3 =>
    if b = true then te σ2 H3 fun y H4 => ∃ acc, H4 D = some (.lst acc) ∧ acc.length < sizeLine ∧ Nx (upd H4 D (.lst (acc ++ [y]))) else Nx H3)
def uLc (wi : TI) (g : TG) (tt : TT) (te : TE) (vs : List Nat) : TE := fun σ H Q => wi σ H fun J H1 => lcK J g tt te vs σ H1 Q
section
variable {X : Cx}
theorem k_lc {elt tg iter : Expr} {ifs : List Expr} {scope : Scope} {own : List (Str × Nat)} {pos : Pos} {wi : TI} {g : TG} {tt : TT} {te : TE} (hc : X.calm = true) (hN : X.N.Nodup) (hi : PI X tg iter wi) (ok : BlkOk X.N X.env.scope scope own)
    (hg : ∀ (s : Shared) (H : Hp) (C : Addr) (cl : List (Str × Addr)) (fp : List Addr), PG (X.blk s H scope (compEnvC scope cl C X.env) fp) tg g) (ht : ∀ (s : Shared) (H : Hp) (C : Addr) (cl : List (Str × Addr)) (fp : List Addr), PTs (X.blk s H scope (compEnvC scope cl C X.env) fp) ifs tt)
    (he : ∀ (s : Shared) (H : Hp) (C : Addr) (cl : List (Str × Addr)) (fp : List Addr), PE (X.blk s H scope (compEnvC scope cl C X.env) fp) elt te) (hs : ∀ x, foldedSetIterable iter X.env x = pure x := by intro _; rfl) :
    PE X (.ListComp elt [⟨tg, iter, ifs, 0⟩] scope pos) (uLc wi g tt te (own.map (·.2))) := ⟨(pe_lc hc hN hi ok hg ht he hs).run⟩
theorem k_setLc {i : Nat} {y : Str} {py : Pos} {elt tg iter : Expr} {ifs : List Expr} {scope : Scope} {own : List (Str × Nat)} {pos spos : Pos} {wi : TI} {g : TG} {tt : TT} {te : TE} (hc : X.calm = true) (hN : X.N.Nodup) (hy : X.N[i]? = some y) (hyl : X.env.scope.names.lookup y = some .local)
    (hsw : swapsWith (.ListComp elt [⟨tg, iter, ifs, 0⟩] scope pos) (some (.Name y py)) spos.line X.env = pure true) (hi : PI X tg iter wi) (ok : BlkOk X.N X.env.scope scope own)
    (hg : ∀ (s : Shared) (H : Hp) (C : Addr) (cl : List (Str × Addr)) (fp : List Addr), PG (X.blk s H scope (compEnvC scope cl C X.env) fp) tg g) (ht : ∀ (s : Shared) (H : Hp) (C : Addr) (cl : List (Str × Addr)) (fp : List Addr), PTs (X.blk s H scope (compEnvC scope cl C X.env) fp) ifs tt)
    (he : ∀ (s : Shared) (H : Hp) (C : Addr) (cl : List (Str × Addr)) (fp : List Addr), PE (X.blk s H scope (compEnvC scope cl C X.env) fp) elt te) (hs : ∀ x, foldedSetIterable iter X.env x = pure x := by intro _; rfl) :
    PS X (.Assign [.Name y py] (.ListComp elt [⟨tg, iter, ifs, 0⟩] scope pos) spos) (tAsg (uLc wi g tt te (own.map (·.2))) (gName i)) := ⟨(ps_setLc hc hN hy hyl hsw hi ok hg ht he hs).run⟩
end
/-- over a list, where the items are made without a change of the heap: f tells what each gives -/
theorem lc_pl {K : Frag} {a : Addr} {xs : List V} {g : TG} {tt : TT} {te : TE} {vs : List Nat} {σ : L2.St} {H : Hp} {Q : VK} (f : V → Option V) (hS : SqL K H a xs) (hz : xs.length < sizeLine)
    (hs : ∀ (i : Nat) (x : V) (D : Addr) (acc : List V) (Cy : V → Hp → Prop) (Cn : Hp → Prop), xs[i]? = some x → H D = none → (∀ y, f x = some y → Cy y (upd H D (.lst acc))) → (f x = none → Cn (upd H D (.lst acc))) →
      g x (wipe σ vs) (upd H D (.lst acc)) fun σ2 H2 => wipe σ2 vs = wipe σ vs ∧ tt σ2 H2 fun b H3 => if b = true then te σ2 H3 fun y H4 => Cy y H4 else Cn H3)
    (hq : ∀ D, H D = none → Q (.ref D) (upd H D (.lst (xs.filterMap f)))) : lcK (Itl K a) g tt te vs σ H Q := by
  intro D hD
  refine ⟨fun i m H' => m = xs.length - i ∧ i ≤ xs.length ∧ H' = upd H D (.lst ((xs.take i).filterMap f)), ⟨xs.length, by simp⟩, ?_⟩
  rintro i m H' ⟨rfl, hi, rfl⟩
  have q := SqL.new (o := .lst ((xs.take i).filterMap f)) hD hS
  by_cases hlt : i < xs.length
  · refine .inr ⟨⟨xs, xs[i], q, by simp [hlt]⟩, fun H'' => H'' = upd H D (.lst ((xs.take (i + 1)).filterMap f)), fun H'' e => ⟨xs.length - (i + 1), by omega, rfl, hlt, e⟩, fun x H' y => ?_⟩
    obtain ⟨e, y⟩ := y
    subst e
    have hx := y xs q
    have et : xs.take (i + 1) = xs.take i ++ [x] := by
      rw [List.take_add_one, hx]; rfl
    refine hs i x D _ _ _ hx hD (fun y hy => ⟨_, upd_same, ?_, ?_⟩) fun hn => ?_
    · have h1 : ((xs.take i).filterMap f).length ≤ (xs.take i).length := List.length_filterMap_le _ _
      have h2 : (xs.take i).length ≤ xs.length := by rw [List.length_take]; omega
      omega
    · rw [upd_upd, et, List.filterMap_append]
      simp [hy]
    · rw [et, List.filterMap_append]
      simp [hn]
  · have e : i = xs.length := by omega
    subst e
    refine .inl ⟨⟨xs, q, Nat.le_refl _⟩, ?_⟩
    rw [List.take_length]
    exact hq D hD
theorem lc_pr {lo : Int} {n : Nat} {g : TG} {tt : TT} {te : TE} {vs : List Nat} {σ : L2.St} {H : Hp} {Q : VK} (f : Nat → Option V) (hz : n < sizeLine)
    (hs : ∀ (i : Nat) (D : Addr) (acc : List V) (Cy : V → Hp → Prop) (Cn : Hp → Prop), i < n → H D = none → (∀ y, f i = some y → Cy y (upd H D (.lst acc))) → (f i = none → Cn (upd H D (.lst acc))) →
      g (.int (lo + i)) (wipe σ vs) (upd H D (.lst acc)) fun σ2 H2 => wipe σ2 vs = wipe σ vs ∧ tt σ2 H2 fun b H3 => if b = true then te σ2 H3 fun y H4 => Cy y H4 else Cn H3)
    (hq : ∀ D, H D = none → Q (.ref D) (upd H D (.lst ((List.range n).filterMap f)))) : lcK (Itr lo n) g tt te vs σ H Q := by
  intro D hD
  refine ⟨fun i m H' => m = n - i ∧ i ≤ n ∧ H' = upd H D (.lst ((List.range i).filterMap f)), ⟨n, by simp⟩, ?_⟩
  rintro i m H' ⟨rfl, hi, rfl⟩
  by_cases hlt : i < n
  · refine .inr ⟨hlt, fun H'' => H'' = upd H D (.lst ((List.range (i + 1)).filterMap f)), fun H'' e => ⟨n - (i + 1), by omega, rfl, hlt, e⟩, fun x H' y => ?_⟩
    obtain ⟨e, rfl⟩ := y
    subst e
    refine hs i D _ _ _ hlt hD (fun y hy => ⟨_, upd_same, ?_, ?_⟩) fun hn => ?_
    · have h1 : ((List.range i).filterMap f).length ≤ (List.range i).length := List.length_filterMap_le _ _
      rw [List.length_range] at h1
      omega
    · rw [upd_upd, List.range_succ, List.filterMap_append]
      simp [hy]
    · rw [List.range_succ, List.filterMap_append]
      simp [hn]
  · have e : i = n := by omega
    subst e
    exact .inl ⟨Nat.le_refl _, hq D hD⟩
end KW

set_option Elab.async false
set_option linter.all false
set_option maxRecDepth 100000
set_option maxHeartbeats 4000000
/-! Kw2h: sorted, sum, walks over dicts -/
namespace KW
open PySem PySem.Spec PyProof.Rows L2
section
variable {X : Cx}
theorem pe_or {e : Expr} {t t' : TE} (h : PE X e t) (h' : PE X e t') : PE X e (fun σ H Q => t σ H Q ∨ t' σ H Q) := ⟨fun pins s σ H Q I q => q.elim (h.run pins s σ H Q I) (h'.run pins s σ H Q I)⟩
theorem ps_or {e : Stmt} {t t' : TS} (h : PS X e t) (h' : PS X e t') : PS X e (fun D σ H => t D σ H ∨ t' D σ H) := ⟨fun pins s σ H D I q => q.elim (h.run pins s σ H D I) (h'.run pins s σ H D I)⟩
/-- a dict's keys are gathered -/
def ColD (X : Cx) : Prop := ∀ (pins : List (Addr × Obj)) (σ : L2.St) (H : Hp) (s : Shared) (a : Addr) (vs : List (Key × Value)) (ep : Nat) (E : Value → Shared → Prop) (R : List Value → Shared → Prop), Inv X pins σ H s → (a == sysModules) = false → s.heap.DictAt (mixKind X.prog X.w) a vs ep → vs.length ≤ sizeLine →
  (∀ (h' : Heap) (tk : Nat) (acc : Array Value), (∀ b o, s.heap.get? b = some o → h'.get? b = some o) → ItemsOf (fun i v => ∃ k x, vs[i]? = some (k, x) ∧ (mixKind X.prog X.w).is k v = true) acc vs.length → R acc.toList { s with heap := h', toks := tk }) →
  wpAny (model X.prog X.w) X.A.in1 (collect (.ref a)) R E s
theorem colD_calm (hcalm : X.calm = true) : ColD X := fun pins σ H s a vs ep E R I lo hat h16 h => PySem.W.kdu_collect (A := X.A.in1) (PySem.W.kdl_dict (knd := mixKind X.prog X.w) (kvs := vs) (ep := ep) lo) (I.ok.hd hcalm) hat h16 h
/-- sorted(d) of a dict whose keys are ints -/
theorem call_sortedDN (hcol : ColD X) : CallR X (.builtin "sorted") (fun xs H Q => ∃ (a : Addr) (kvs : List (Key × V)) (ks : List Int), xs = [.ref a] ∧ Rd H a (.dK kvs) ∧ kvs.map (·.1) = ks.map Sum.inl ∧ ks.length ≤ sizeLine ∧
    ∀ (ys : List Int) (p : Addr), ys.Perm ks → ys.Pairwise (· ≤ ·) → H p = none → Q (.ref p) (upd H p (.lst (ys.map V.int)))) := by
  intro pins s σ H xs us Q I r q
  obtain ⟨a, kvs, ks, ex, hd, hks, h64, q⟩ := q
  subst ex
  obtain ⟨u, eu, rx⟩ := vals1 r
  subst eu
  cases rx
  obtain ⟨z, lo, vs, rel, dd⟩ := dk_rd I.hok hd
  obtain ⟨ep, hat⟩ := dd.dictAt
  have hkeys : vs.map (·.1) = ks.map Sum.inl := rel.keys.symm.trans hks
  have hl : vs.length = ks.length := by
    have e := congrArg List.length hkeys
    rw [List.length_map, List.length_map] at e
    exact e
  have h16 : vs.length ≤ sizeLine := by rw [hl]; exact h64
  refine Calls.call_function_entry PyProof.Rows.kind_sorted PyProof.Rows.plain_sorted PyProof.Rows.entry_sorted (PyProof.Rows.args_sorted1 _) ?_
  unfold Builtin.«sorted»
  refine wpAny_bind (m := checkCount "sorted" 1 1 _) (wpAny_pure ?_)
  refine wpAny_bind (hcol pins σ H s a vs ep _ _ I lo hat h16 fun h' tk acc hk hacc => ?_)
  have hal : acc.toList.length = ks.length := by rw [Array.length_toList, hacc.1, hl]
  have hS : IntsAre acc.toList ks := ints_each hal fun j v e => by
    obtain ⟨k, x, e1, e2⟩ := hacc.2 j v (by rw [← Array.getElem?_toList]; exact e)
    have e3 : (vs.map (·.1))[j]? = some k := by rw [List.getElem?_map, e1]; rfl
    rw [hkeys, List.getElem?_map] at e3
    cases e4 : ks[j]? with
    | none => rw [e4] at e3; cases e3
    | some y =>
      rw [e4] at e3
      have e5 : Sum.inl y = k := Option.some.inj e3
      subst e5
      rcases keyIs_shape (show keyIs (Sum.inl y) v = true from e2) with ⟨i, t, ek, ev⟩ | ⟨z, t, ek, ev⟩
      · cases ek
        exact ⟨y, t, rfl, ev⟩
      · cases ek
  have I1 : Inv X pins σ H { s with heap := h', toks := tk } := I.kept hk
  refine wpAny_bind (wpAny_newList ?_ (by rw [hal]; exact h64))
  have hoL : (h'.push (seqObj "list" acc.toList.toArray 0)).get? h'.objs.size = some (seqObj "list" acc.toList.toArray 0) := Heap.get?_push_size _ rfl
  show wpAny _ _ _ _ _ { s with heap := h'.push (seqObj "list" acc.toList.toArray 0), toks := tk }
  refine wpAny_bind (wpAny_holding (wpAny_call_entry PyProof.Rows.slot_list_sort ⟨_, hoL, rfl⟩ PyProof.Rows.entry_list_sort
    (SrtO.list_sort_ord (s := { s with heap := h'.push (seqObj "list" acc.toList.toArray 0), toks := tk }) SrtO.swo_int hoL (by rw [hal]; exact h64) (fun h2 => SrtO.ints_sortable hS h2) fun out hs hb => ⟨_, rfl, ?_⟩) (PyProof.Rows.args_list_sort _)))
  obtain ⟨g1, g2, g3⟩ := SrtO.ints_out hS hs hb
  obtain ⟨e', he'⟩ := PyProof.Rows.sortedHeap_at (vs := acc.toList) (out := out.toArray) hoL
  have hlen : ((out.map SrtO.iv).map V.int).length ≤ sizeLine := by
    rw [List.length_map, g2.length_eq]
    exact h64
  refine wpAny_pure ⟨_, rfl, .ref h'.objs.size, upd H h'.objs.size (.lst ((out.map SrtO.iv).map V.int)), I1.laid (t' := tk) (fun b u e => ?_) (Nat.le_refl _)
    (show ObjOk X.prog X.w _ _ _ (.lst ((out.map SrtO.iv).map V.int)) from ⟨hlen, out, e', vals_of_ints g1, he'⟩), rfl, q _ _ g2 g3 (I1.hok.fresh (Nat.le_refl _))⟩
  have hb : b < h'.objs.size := Heap.lt_size e
  rw [PyProof.Rows.sortedHeap_old (Nat.ne_of_lt hb) (by rw [size_push']; exact Nat.lt_succ_of_lt hb)]
  exact Heap.get?_push_of_some _ e
/-- sorted(x): a list of ints, a dict with ints as keys -/
def uSorted (K : Frag) : List V → Hp → VK → Prop := fun xs H Q => (∃ (a : Addr) (ns : List Int), xs = [V.ref a] ∧ SqL K H a (ns.map V.int) ∧ ∀ (ys : List Int) (p : Addr), ys.Perm ns → ys.Pairwise (· ≤ ·) → H p = none → Q (.ref p) (upd H p (.lst (ys.map V.int)))) ∨
  (∃ (a : Addr) (kvs : List (Key × V)) (ks : List Int), xs = [.ref a] ∧ Rd H a (.dK kvs) ∧ kvs.map (·.1) = ks.map Sum.inl ∧ ks.length ≤ sizeLine ∧ ∀ (ys : List Int) (p : Addr), ys.Perm ks → ys.Pairwise (· ≤ ·) → H p = none → Q (.ref p) (upd H p (.lst (ys.map V.int))))
theorem c_sortedG (hcol : ColD X) : CallR X (.builtin "sorted") (uSorted X.K) := fun pins s σ H xs us Q I r h => by
  rcases h with h | h
  · exact cr_sortedI pins s σ H xs us Q I r h
  · exact call_sortedDN hcol pins s σ H xs us Q I r h
theorem c_sorted (hcalm : X.calm = true) : CallR X (.builtin "sorted") (uSorted X.K) := c_sortedG (colD_calm hcalm)
theorem srt_l {K : Frag} {H : Hp} {a : Addr} {ns : List Int} {Q : VK} (h : H a = some (.lst (ns.map V.int))) (q : ∀ (ys : List Int) (p : Addr), ys.Perm ns → ys.Pairwise (· ≤ ·) → H p = none → Q (.ref p) (upd H p (.lst (ys.map V.int)))) : uSorted K [.ref a] H Q := .inl ⟨a, ns, rfl, .of h, q⟩
theorem srt_d {K : Frag} {H : Hp} {a : Addr} {kvs : List (Key × V)} {ks : List Int} {Q : VK} (h : H a = some (.dK kvs)) (e : kvs.map (·.1) = ks.map Sum.inl) (z : ks.length ≤ sizeLine) (q : ∀ (ys : List Int) (p : Addr), ys.Perm ks → ys.Pairwise (· ≤ ·) → H p = none → Q (.ref p) (upd H p (.lst (ys.map V.int)))) : uSorted K [.ref a] H Q := .inr ⟨a, kvs, ks, rfl, .inl h, e, z, q⟩
/-- sum(xs), ints -/
def uSum (K : Frag) : List V → Hp → VK → Prop := rSum K
theorem c_sum (hc : X.calm = true) : CallR X (.builtin "sum") (uSum X.K) := cr_sum hc
theorem sum_l {K : Frag} {H : Hp} {a : Addr} {ns : List Int} {Q : VK} (h : H a = some (.lst (ns.map V.int))) (q : Q (.int ns.sum) H) : uSum K [.ref a] H Q := ⟨a, ns, rfl, .of h, q⟩
end
/-- a comprehension over a locked dict's keys (ints), where the items are made without a change of the heap -/
theorem lc_pk {d : Addr} {o : Obj} {kvs : List (Key × V)} {ks : List Int} {g : TG} {tt : TT} {te : TE} {vs : List Nat} {σ : L2.St} {H : Hp} {Q : VK} (f : Int → Option V) (hS : H d = some (.frz o (.dK kvs))) (hk : kvs.map (·.1) = ks.map Sum.inl) (hz : ks.length < sizeLine)
    (hs : ∀ (i : Nat) (x : Int) (D : Addr) (acc : List V) (Cy : V → Hp → Prop) (Cn : Hp → Prop), ks[i]? = some x → H D = none → (∀ y, f x = some y → Cy y (upd H D (.lst acc))) → (f x = none → Cn (upd H D (.lst acc))) →
      g (.int x) (wipe σ vs) (upd H D (.lst acc)) fun σ2 H2 => wipe σ2 vs = wipe σ vs ∧ tt σ2 H2 fun b H3 => if b = true then te σ2 H3 fun y H4 => Cy y H4 else Cn H3)
    (hq : ∀ D, H D = none → Q (.ref D) (upd H D (.lst (ks.filterMap f)))) : lcK (Itk d o kvs) g tt te vs σ H Q := by
  intro D hD
  have hl : kvs.length = ks.length := by
    have := congrArg List.length hk
    rw [List.length_map, List.length_map] at this
    exact this
  refine ⟨fun i m H' => m = ks.length - i ∧ i ≤ ks.length ∧ H' = upd H D (.lst ((ks.take i).filterMap f)), ⟨ks.length, by simp⟩, ?_⟩
  rintro i m H' ⟨rfl, hi, rfl⟩
  have hne : d ≠ D := ne_of_none hS hD
  have q : upd H D (.lst ((ks.take i).filterMap f)) d = some (.frz o (.dK kvs)) := by rw [upd_ne hne]; exact hS
  by_cases hlt : i < ks.length
  · refine .inr ⟨⟨q, by omega⟩, fun H'' => H'' = upd H D (.lst ((ks.take (i + 1)).filterMap f)), fun H'' e => ⟨ks.length - (i + 1), by omega, rfl, hlt, e⟩, fun x H' y => ?_⟩
    obtain ⟨e, k, v, hkv, rfl⟩ := y
    subst e
    have e3 : (kvs.map (·.1))[i]? = some k := by rw [List.getElem?_map, hkv]; rfl
    rw [hk, List.getElem?_map] at e3
    obtain ⟨x, hx⟩ : ∃ x, ks[i]? = some x := ⟨_, List.getElem?_eq_getElem hlt⟩
    rw [hx] at e3
    have e5 : Sum.inl x = k := Option.some.inj e3
    subst e5
    have et : ks.take (i + 1) = ks.take i ++ [x] := by
      rw [List.take_add_one, hx]; rfl
    refine hs i x D _ _ _ hx hD (fun y hy => ⟨_, upd_same, ?_, ?_⟩) fun hn => ?_
    · have h1 : ((ks.take i).filterMap f).length ≤ (ks.take i).length := List.length_filterMap_le _ _
      have h2 : (ks.take i).length ≤ ks.length := by rw [List.length_take]; omega
      omega
    · rw [upd_upd, et, List.filterMap_append]
      simp [hy]
    · rw [et, List.filterMap_append]
      simp [hn]
  · have e : i = ks.length := by omega
    subst e
    refine .inl ⟨⟨q, by omega⟩, ?_⟩
    rw [List.take_length]
    exact hq D hD
end KW

set_option Elab.async false
set_option linter.all false
set_option maxRecDepth 100000
set_option maxHeartbeats 4000000
/-! Kw2i: the rules with the frag told (within comprehensions) -/
namespace KW
theorem isEmpty_app {α : Type} (xs ys : List α) : (xs ++ ys).isEmpty = (xs.isEmpty && ys.isEmpty) := by cases xs <;> simp
open PySem PySem.Spec PyProof.Rows L2
section
variable {X : Cx} (K : Frag)
theorem ktK {e : Expr} {t : TE} (h : PE X e t) (he : ∀ whole, isTrue e X.env whole = (do let v ← whole; standAt e.pos; holding [v] (truthy v)) := by intro _; rfl) (hK : X.K = K := by rfl) : PT X e (uTest K t) := hK ▸ kt h he
theorem o_addK (hK : X.K = K := by rfl) : OpR X (binaryOp .Add) (uAdd K) := hK ▸ o_add
theorem o_eqK (hu : X.A.units + 64 < cLine) (hK : X.K = K := by rfl) : OpR X (compareOp .Eq) (uEq K) := hK ▸ o_eq hu
theorem o_neK (hu : X.A.units + 64 < cLine) (hK : X.K = K := by rfl) : OpR X (compareOp .NotEq) (uNe K) := hK ▸ o_ne hu
theorem o_inK (hK : X.K = K := by rfl) : OpR X (compareOp .In) (uIn K) := hK ▸ o_in
theorem o_notinK (hK : X.K = K := by rfl) : OpR X (compareOp .NotIn) (uNotIn K) := hK ▸ o_notin
theorem o_ixK (hK : X.K = K := by rfl) : IxR X (uIx K) := hK ▸ o_ix
theorem o_slK (hK : X.K = K := by rfl) : SlR X (uSl K) := hK ▸ o_sl
theorem c_lenK (hK : X.K = K := by rfl) : CallR X (.builtin "len") (uLen K) := hK ▸ c_len
theorem c_isiK (hK : X.K = K := by rfl) : CallR X (.builtin "isinstance") (uIsi K) := hK ▸ c_isi
theorem c_listK (hK : X.K = K := by rfl) : CallR X (.type "list") (uList K) := hK ▸ c_list
theorem c_sortedK (hc : X.calm = true) (hK : X.K = K := by rfl) : CallR X (.builtin "sorted") (uSorted K) := hK ▸ c_sorted hc
theorem c_sumK (hc : X.calm = true) (hK : X.K = K := by rfl) : CallR X (.builtin "sum") (uSum K) := hK ▸ c_sum hc
theorem k_fldK {e : Expr} {t : TE} {f : Str} {pos : Pos} (he : PE X e t) (hb : attributeBase e f X.env (eval e X.env) = eval e X.env) (hK : X.K = K := by rfl) : PE X (.Attribute e f pos) (uFld K t f) := hK ▸ k_fld he hb
theorem mt_indexK (hK : X.K = K := by rfl) : MtR X "list.index" (rIndex K) := hK ▸ mt_index
theorem pi_listK {tg l : Expr} {tl : TE} (hl : PE X l tl) (hK : X.K = K := by rfl) : PI X tg l (iList K tl) := hK ▸ pi_list hl
end
/-- of a list of ints, ints again -/
theorem lc_ii {K : Frag} {a : Addr} {xs : List Int} {g : TG} {tt : TT} {te : TE} {vs : List Nat} {σ : L2.St} {H : Hp} {Q : VK} (f : Int → Option Int) (hS : SqL K H a (xs.map V.int)) (hz : xs.length < sizeLine)
    (hs : ∀ (i : Nat) (x : Int) (D : Addr) (acc : List V) (Cy : V → Hp → Prop) (Cn : Hp → Prop), xs[i]? = some x → H D = none → (∀ y, f x = some y → Cy (.int y) (upd H D (.lst acc))) → (f x = none → Cn (upd H D (.lst acc))) →
      g (.int x) (wipe σ vs) (upd H D (.lst acc)) fun σ2 H2 => wipe σ2 vs = wipe σ vs ∧ tt σ2 H2 fun b H3 => if b = true then te σ2 H3 fun y H4 => Cy y H4 else Cn H3)
    (hq : ∀ D, H D = none → Q (.ref D) (upd H D (.lst ((xs.filterMap f).map V.int)))) : lcK (Itl K a) g tt te vs σ H Q := by
  refine lc_pl (fun v => match v with | .int i => (f i).map V.int | _ => none) hS (by rw [List.length_map]; exact hz) (fun i x D acc Cy Cn hx hD h1 h2 => ?_) fun D hD => ?_
  · rw [List.getElem?_map] at hx
    cases e : xs[i]? with
    | none => rw [e] at hx; cases hx
    | some z =>
      rw [e] at hx
      cases hx
      exact hs i z D acc Cy Cn e hD (fun y hy => h1 _ (by simp [hy])) fun hn => h2 (by simp [hn])
  · have e : (xs.map V.int).filterMap (fun v => match v with | .int i => (f i).map V.int | _ => none) = (xs.filterMap f).map V.int := by
      rw [List.filterMap_map, List.map_filterMap]; rfl
    rw [e]
    exact hq D hD
/-- over a list of anything told by F -/
theorem lc_f {α : Type} {K : Frag} {a : Addr} {xs : List α} {F : α → V} {g : TG} {tt : TT} {te : TE} {vs : List Nat} {σ : L2.St} {H : Hp} {Q : VK} (f : α → Option V) (hS : SqL K H a (xs.map F)) (hz : xs.length < sizeLine)
    (hs : ∀ (i : Nat) (x : α) (D : Addr) (acc : List V) (Cy : V → Hp → Prop) (Cn : Hp → Prop), xs[i]? = some x → H D = none → (∀ y, f x = some y → Cy y (upd H D (.lst acc))) → (f x = none → Cn (upd H D (.lst acc))) →
      g (F x) (wipe σ vs) (upd H D (.lst acc)) fun σ2 H2 => wipe σ2 vs = wipe σ vs ∧ tt σ2 H2 fun b H3 => if b = true then te σ2 H3 fun y H4 => Cy y H4 else Cn H3)
    (hq : ∀ D, H D = none → Q (.ref D) (upd H D (.lst (xs.filterMap f)))) : lcK (Itl K a) g tt te vs σ H Q := by
  intro D hD
  refine ⟨fun i m H' => m = xs.length - i ∧ i ≤ xs.length ∧ H' = upd H D (.lst ((xs.take i).filterMap f)), ⟨xs.length, by simp⟩, ?_⟩
  rintro i m H' ⟨rfl, hi, rfl⟩
  have q := SqL.new (o := .lst ((xs.take i).filterMap f)) hD hS
  by_cases hlt : i < xs.length
  · refine .inr ⟨⟨_, F xs[i], q, by simp [hlt]⟩, fun H'' => H'' = upd H D (.lst ((xs.take (i + 1)).filterMap f)), fun H'' e => ⟨xs.length - (i + 1), by omega, rfl, hlt, e⟩, fun x H' y => ?_⟩
    obtain ⟨e, y⟩ := y
    subst e
    have hx := y _ q
    obtain ⟨z, hz1⟩ : ∃ z, xs[i]? = some z := ⟨_, List.getElem?_eq_getElem hlt⟩
    rw [List.getElem?_map, hz1] at hx
    cases hx
    have et : xs.take (i + 1) = xs.take i ++ [z] := by
      rw [List.take_add_one, hz1]; rfl
    refine hs i z D _ _ _ hz1 hD (fun y hy => ⟨_, upd_same, ?_, ?_⟩) fun hn => ?_
    · have h1 : ((xs.take i).filterMap f).length ≤ (xs.take i).length := List.length_filterMap_le _ _
      have h2 : (xs.take i).length ≤ xs.length := by rw [List.length_take]; omega
      omega
    · rw [upd_upd, et, List.filterMap_append]
      simp [hy]
    · rw [et, List.filterMap_append]
      simp [hn]
  · have e : i = xs.length := by omega
    subst e
    refine .inl ⟨⟨_, q, by simp⟩, ?_⟩
    rw [List.take_length]
    exact hq D hD
/-- over a range, any answers, the heap may change: Pv tells the list made so far (at D) and the heap -/
theorem lc_rG {lo : Int} {n : Nat} {g : TG} {tt : TT} {te : TE} {vs : List Nat} {σ : L2.St} {H : Hp} {Q : VK} (Pv : Nat → Addr → List V → Hp → Prop) (h0 : ∀ D, H D = none → Pv 0 D [] (upd H D (.lst [])))
    (hs : ∀ (i : Nat) (D : Addr) (acc : List V) (H' : Hp) (Nx : Hp → Prop), i < n → H D = none → Pv i D acc H' → (∀ acc H'', Pv (i + 1) D acc H'' → Nx H'') → g (.int (lo + i)) (wipe σ vs) H' fun σ2 H2 => wipe σ2 vs = wipe σ vs ∧ tt σ2 H2 fun b H3 => if b = true then te σ2 H3 fun y H4 => ∃ acc, H4 D = some (.lst acc) ∧ acc.length < sizeLine ∧ Nx (upd H4 D (.lst (acc ++ [y]))) else Nx H3)
    (hq : ∀ D acc H', H D = none → Pv n D acc H' → Q (.ref D) H') : lcK (Itr lo n) g tt te vs σ H Q := by
  intro D hD
  refine ⟨fun i m H' => m = n - i ∧ i ≤ n ∧ ∃ acc, Pv i D acc H', ⟨n, rfl, Nat.zero_le _, [], h0 D hD⟩, ?_⟩
  rintro i m H' ⟨rfl, hi, acc, hP⟩
  by_cases hlt : i < n
  · refine .inr ⟨hlt, fun H'' => ∃ acc, Pv (i + 1) D acc H'', fun H'' e => ⟨n - (i + 1), by omega, rfl, hlt, e⟩, fun x H2 y => ?_⟩
    obtain ⟨e, rfl⟩ := y
    subst e
    exact hs i D acc _ _ hlt hD hP fun acc H'' h => ⟨acc, h⟩
  · have e : i = n := by omega
    subst e
    exact .inl ⟨Nat.le_refl _, hq D acc H' hD hP⟩
/-- over a list -/
theorem lc_lG {α : Type} {K : Frag} {a : Addr} {xs : List α} {F : α → V} {g : TG} {tt : TT} {te : TE} {vs : List Nat} {σ : L2.St} {H : Hp} {Q : VK} (Pv : Nat → Addr → List V → Hp → Prop) (h0 : ∀ D, H D = none → Pv 0 D [] (upd H D (.lst [])))
    (hl : ∀ i D acc H', Pv i D acc H' → SqL K H' a (xs.map F))
    (hs : ∀ (i : Nat) (x : α) (D : Addr) (acc : List V) (H' : Hp) (Nx : Hp → Prop), xs[i]? = some x → H D = none → Pv i D acc H' → (∀ acc H'', Pv (i + 1) D acc H'' → Nx H'') → g (F x) (wipe σ vs) H' fun σ2 H2 => wipe σ2 vs = wipe σ vs ∧ tt σ2 H2 fun b H3 => if b = true then te σ2 H3 fun y H4 => ∃ acc, H4 D = some (.lst acc) ∧ acc.length < sizeLine ∧ Nx (upd H4 D (.lst (acc ++ [y]))) else Nx H3)
    (hq : ∀ D acc H', H D = none → Pv xs.length D acc H' → Q (.ref D) H') : lcK (Itl K a) g tt te vs σ H Q := by
  intro D hD
  refine ⟨fun i m H' => m = xs.length - i ∧ i ≤ xs.length ∧ ∃ acc, Pv i D acc H', ⟨xs.length, rfl, Nat.zero_le _, [], h0 D hD⟩, ?_⟩
  rintro i m H' ⟨rfl, hi, acc, hP⟩
  have q := hl i D acc H' hP
  by_cases hlt : i < xs.length
  · refine .inr ⟨⟨_, F xs[i], q, by simp [hlt]⟩, fun H'' => ∃ acc, Pv (i + 1) D acc H'', fun H'' e => ⟨xs.length - (i + 1), by omega, rfl, hlt, e⟩, fun x H2 y => ?_⟩
    obtain ⟨e, y⟩ := y
    subst e
    have hx := y _ q
    obtain ⟨z, hz1⟩ : ∃ z, xs[i]? = some z := ⟨_, List.getElem?_eq_getElem hlt⟩
    rw [List.getElem?_map, hz1] at hx
    cases hx
    exact hs i z D acc _ _ hz1 hD hP fun acc H'' h => ⟨acc, h⟩
  · have e : i = xs.length := by omega
    subst e
    exact .inl ⟨⟨_, q, by simp⟩, hq D acc H' hD hP⟩
/-- over reversed(xs) -/
theorem for_rev {K : Frag} {a : Addr} {xs : List V} {g : TG} {tb : TS} {D : Ends} {σ : L2.St} {H : Hp} (Pv : Nat → L2.St → Hp → Prop) (h0 : Pv 0 σ H) (hl : ∀ i σ H, i ≤ xs.length → Pv i σ H → SqL K H a xs)
    (hs : ∀ i x σ H, i < xs.length → xs[xs.length - 1 - i]? = some x → Pv i σ H → g x σ H fun σ2 H2 => tb { D with nx := Pv (i + 1), ct := Pv (i + 1), bk := D.nx } σ2 H2) (hd : ∀ σ H, Pv xs.length σ H → D.nx σ H) : forK (Itv K a xs.length) g tb D σ H := by
  refine ⟨fun i m σ H => m = xs.length - i ∧ i ≤ xs.length ∧ Pv i σ H, ⟨xs.length, rfl, Nat.zero_le _, h0⟩, ?_⟩
  rintro i m σ H ⟨rfl, hi, p⟩
  have q := hl i σ H hi p
  by_cases hlt : i < xs.length
  · refine .inr ⟨⟨hlt, xs, xs[xs.length - 1 - i], q, by rw [List.getElem?_eq_getElem]⟩, Pv (i + 1), fun σ' H' p' => ⟨xs.length - (i + 1), by omega, rfl, hlt, p'⟩, fun x H' y => ?_⟩
    obtain ⟨e, y⟩ := y
    subst e
    exact hs i x σ _ hlt (y xs q) p
  · have e : i = xs.length := by omega
    subst e
    exact .inl ⟨Nat.le_refl _, hd σ H p⟩
end KW
namespace KW
open PySem PySem.Spec PyProof.Rows L2
/-- dict(d): a copy -/
def uDict : List V → Hp → VK → Prop
  | [.ref a], H, Q => ∃ kvs, H a = some (.dK kvs) ∧ ∀ p, H p = none → Q (.ref p) (upd H p (.dK kvs))
  | _, _, _ => False
theorem c_dict {X : Cx} : CallR X (.type "dict") uDict := CallRw call_dictD fun xs H Q h => by
  unfold uDict at h
  split at h
  · obtain ⟨kvs, hs, q⟩ := h
    exact ⟨_, kvs, rfl, .of hs, q⟩
  · exact h.elim
theorem dict_d {H : Hp} {a : Addr} {kvs : List (Key × V)} {Q : VK} (h : H a = some (.dK kvs)) (q : ∀ p, H p = none → Q (.ref p) (upd H p (.dK kvs))) : uDict [.ref a] H Q := ⟨kvs, h, q⟩
end KW

set_option Elab.async false
set_option linter.all false
set_option maxRecDepth 100000
set_option maxHeartbeats 4000000
/-! Kw16: list comprehensions whose step may raise -/
namespace KW
open PySem PySem.Spec PyProof.Rows L2
/-- compPost, with the frame told -/
def cPostE (M : Model) (A : Around) (E : Value → Shared → Prop) (use : Option (Value → Sem Unit)) (Q : Value → Shared → Prop) (acc : Value) (C : Addr) (fr : Option Addr) (r : Result) (s' : Shared) : Prop :=
  match r, use with
  | .ok _, none => ∃ m, s'.heap.Ns C m ∧ ∀ h', Heap.SameBut C s'.heap h' → Q acc { s' with heap := h' }
  | .ok _, some u => wpAny M A (u acc) (fun _ s'' => ∃ m, s''.heap.Ns C m ∧ ∀ h', Heap.SameBut C s''.heap h' → Q .none { s'' with heap := h' }) E s'
  | .error x, _ => ∃ m, s'.heap.Ns C m ∧ ∀ h' m', h'.Ns C m' → Heap.SameBut C s'.heap h' → ∀ cenv : Env, cenv.frame = fr → wpAny M A (passOn "comprehension.variables-let-go" x cenv : Sem Value) (fun _ _ => False) E { s' with heap := h' }
theorem compE_free {M : Model} {A : Around} {E : Value → Shared → Prop} {s : Shared} {env : Env} {e : Expr} {scope : Scope} {pos : Pos} {newAcc first : Sem Value} {g : Comprehension} {gs : List Comprehension} {cl : List (Str × Addr)} {use : Option (Value → Sem Unit)}
    {Q : Value → Shared → Prop}
    (hcl : clausesOf e = g :: gs) (hs : ∀ x, foldedSetIterable g.iter env x = pure x) (hclos : closureFor scope env = pure cl)
    (hkind : scope.kind = .function) (hnames : ∀ x ∈ scope.names, x.2 = .local → scope.names.lookup x.1 = some .local)
    (h : wpAny M A first (fun x s₁ => wpAny M A (pyIter x) (fun it s₂ => wpAny M A newAcc (fun acc s₃ =>
      wpAny M A (newFunctionEnv scope env.globals cl [] env.qual none .none (some env)) (fun cenv s₄ =>
        codeAny M A (.compStart e 0 it acc { cenv with scope := relabel scope env }) (cPostE M A E use Q acc cenv.locals cenv.frame) s₄) E s₃) E s₂) E s₁) E s) :
    wpAny M A (comprehension e scope env pos newAcc false first use) Q E s := by
  unfold comprehension
  rw [hclos, hcl]
  refine wpAny_bind (wpAny_mono h (fun x s₁ h₁ => wpAny_bind (wpAny_standAt (wpAny_bind (wpAny_of_eq (hs x) (wpAny_bind (wpAny_holding (wpAny_mono h₁ (fun it s₂ h₂ =>
    wpAny_standIf (wpAny_bind (wpAny_mono h₂ (fun acc s₃ h₃ => wpAny_bind (wpAny_pure (wpAny_bind (wpAny_mono h₃ (fun cenv s₄ h₄ => ?_) fun _ _ h' => h')))) fun _ _ h' => h')))
      fun _ _ h' => h'))))))) fun _ _ h' => h')
  dsimp only
  have hv : ∀ x ∈ (scope.names.filter fun x => (x.2 == .local || x.2 == .cell) && x.1 != (".0" : Str)).reverse, x.2 = .local →
      Env.kindOf { cenv with scope := relabel scope env } x.1 = some .local := fun x hx hl => lookup_relabel_local (hnames x (List.mem_filter.mp (List.mem_reverse.mp hx)).1 hl)
  have hv' : ∀ x ∈ (scope.names.filter fun x => (x.2 == .local || x.2 == .cell) && x.1 != (".0" : Str)).reverse.drop 1 ++ (scope.names.filter fun x => (x.2 == .local || x.2 == .cell) && x.1 != (".0" : Str)).reverse.take 1,
      x.2 = .local → Env.kindOf { cenv with scope := relabel scope env } x.1 = some .local := fun x hx hl => by
    rcases List.mem_append.mp hx with h1 | h1
    · exact hv x (List.mem_of_mem_drop h1) hl
    · exact hv x (List.mem_of_mem_take h1) hl
  refine wpAny_holding (wpAny_bind (wpAny_attempt (wpAny_holding (wpAny_run (codeAny_mono h₄ fun r s' hr => ?_)))))
  cases r with
  | ok f =>
    cases use with
    | none =>
      obtain ⟨m, hn, hr⟩ := hr
      exact wpAny_bind (wpAny_holding (wpAny_comp_letGo (cenv := { cenv with scope := relabel scope env }) hkind _ s' m hv hn fun h' m' _ hs' => wpAny_pure (hr h' hs')))
    | some u =>
      refine wpAny_bind (wpAny_rule (wpAny_bind (wpAny_holding (wpAny_mono hr (fun _ s'' hr' => ?_) fun _ _ h' => h'))))
      obtain ⟨m, hn, hr'⟩ := hr'
      exact wpAny_bind (wpAny_comp_letGo (cenv := { cenv with scope := relabel scope env }) hkind _ s'' m hv' hn fun h' m' _ hs' => wpAny_pure (hr' h' hs'))
  | error x =>
    have hr' : ∃ m, s'.heap.Ns cenv.locals m ∧ ∀ h' m', h'.Ns cenv.locals m' → Heap.SameBut cenv.locals s'.heap h' → ∀ cenv' : Env, cenv'.frame = cenv.frame → wpAny M A (passOn "comprehension.variables-let-go" x cenv' : Sem Value) (fun _ _ => False) E { s' with heap := h' } := by cases use <;> exact hr
    obtain ⟨m, hn, hr⟩ := hr'
    exact wpAny_bind (wpAny_holding (wpAny_comp_letGo (cenv := { cenv with scope := relabel scope env }) hkind _ s' m hv hn fun h' m' hn' hs' => wpAny_mono (hr h' m' hn' hs' _ rfl) (fun _ _ f => f.elim) fun _ _ y => y))

/-- an exception that came out of a call within the block -/
def XF (X : Cx) (E : XK) (u : Value) (s' : Shared) : Prop :=
  ∃ (a : Addr) (B : Heap) (sI : Shared) (pins : List (Addr × Obj)) (σ : L2.St) (H : Hp) (cls : Value) (d : Option Addr),
    u = .ref a ∧ Inv X pins σ H sI ∧ (∀ b o, sI.heap.get? b = some o → b ∉ frs X.stack → B.get? b = some o) ∧ sI.heap.UpToSlots s'.heap ∧
      HandSPX.FlyingZ B X.stack a (L2N.Zn cls d) s'.heap ∧ H a = none ∧ s'.os = sI.os ∧ AllBare s'.gens ∧ E cls d H
theorem Inv.xe {X : Cx} {pins : List (Addr × Obj)} {σ : L2.St} {H : Hp} {s : Shared} (I : Inv X pins σ H s) (xe : Value → Shared → Prop) : Inv { X with xe := xe } pins σ H s :=
  ⟨⟨I.ok.mod, I.ok.kind, I.ok.glob, I.ok.blt, I.ok.above, I.ok.inj, I.ok.has, I.ok.cab, I.ok.hd, I.ok.frames, I.ok.stk, I.ok.exf, I.ok.bs, I.ok.bsz, I.ok.noex, I.ok.exfs, I.ok.funs, I.ok.frf⟩, I.os, I.bare, I.base, I.loc, I.cell, I.free, I.freeC, I.pin, I.hok, I.len⟩
theorem Inv.unxe {X : Cx} {pins : List (Addr × Obj)} {σ : L2.St} {H : Hp} {s : Shared} {xe : Value → Shared → Prop} (I : Inv { X with xe := xe } pins σ H s) : Inv X pins σ H s :=
  ⟨⟨I.ok.mod, I.ok.kind, I.ok.glob, I.ok.blt, I.ok.above, I.ok.inj, I.ok.has, I.ok.cab, I.ok.hd, I.ok.frames, I.ok.stk, I.ok.exf, I.ok.bs, I.ok.bsz, I.ok.noex, I.ok.exfs, I.ok.funs, I.ok.frf⟩, I.os, I.bare, I.base, I.loc, I.cell, I.free, I.freeC, I.pin, I.hok, I.len⟩
/-- the context of a block whose step may raise -/
abbrev blkE (X : Cx) (E : XK) (s : Shared) (H : Hp) (scope : Scope) (cenv : Env) (fp : List Addr) : Cx := { X.blk s H scope cenv fp with xe := XF (X.blk s H scope cenv fp) E }
theorem passB {X : Cx} {E : XK} {s : Shared} {H : Hp} {scope : Scope} {cenv : Env} {fp : List Addr} {σ : L2.St} : PassesAt (L2N.CX X.prog X.w) (blkE X E s H scope cenv fp) σ E := by
  intro pins H1 s1 u s' I c
  have I := Inv.unxe I
  obtain ⟨a, B, H', cls, d, rfl, fl, hok, ub, na, os, ag, hE⟩ := c
  obtain ⟨G, g1, g2⟩ := restrict s'.heap fun b => (B.get? b).isSome || decide (b ∈ frs X.stack)
  have st : B.StaysIn s'.heap := fl.1
  have gB : ∀ b o, B.get? b = some o → G.get? b = some o := fun b o e => by
    rw [g1 b (by simp [e])]
    exact st b o e
  have gF : ∀ b, b ∈ frs X.stack → G.get? b = s'.heap.get? b := fun b hb => g1 b (by simp [hb])
  have og : ∀ b o, G.get? b = some o → s'.heap.get? b = some o ∧ ((B.get? b).isSome = true ∨ b ∈ frs X.stack) := fun b o e => by
    cases q : ((B.get? b).isSome || decide (b ∈ frs X.stack)) with
    | false => rw [g2 b q] at e; cases e
    | true =>
      rw [g1 b q] at e
      exact ⟨e, by simpa [Bool.or_eq_true] using q⟩
  refine ⟨a, B, { s1 with heap := G, gens := s'.gens, drawn := s'.drawn, toks := s'.toks }, pins, σ, H', cls, d, rfl, ?_, fun b o e hb => ?_, Heap.UpToSlots.of_keeps fun b o e => (og b o e).1, fl, na, os, ag, hE⟩
  · refine I.call (ch := []) ⟨fun b o e n hb _ => gB b o (ub.keep b o e n hb), fun b o e n hb _ => ?_, fun b o e n _ => ub.free b o e n, fun b o e _ => ?_, ub.tups, ub.frzs, ub.tbls⟩ (hok.kept gB) ag (fun _ z => nomatch z)
    · obtain ⟨sl, q⟩ := ub.slot b o e hb
      exact ⟨sl, by rw [gF b hb]; exact q⟩
    · by_cases hb : b ∈ frs X.stack
      · obtain ⟨sl, q⟩ := ub.slot b o e hb
        exact ⟨_, by rw [gF b hb]; exact q⟩
      · obtain ⟨o', q⟩ := ub.there b o e hb
        exact ⟨o', gB b o' q⟩
  · obtain ⟨e', h⟩ := og b o e
    rcases h with h | h
    · obtain ⟨o', q⟩ := Option.isSome_iff_exists.mp h
      have z := st b o' q
      rw [e'] at z; cases z
      exact q
    · exact absurd h hb
theorem funFr_mono {h h' B B' : Heap} : ∀ {l : List Env}, h.FunFrames B l → (∀ L ∈ frs l, B'.get? L = none ∧ ∀ o, h.get? L = some o → (∀ vs, o.data ≠ .fields vs) → ∃ o', h'.get? L = some o' ∧ o'.data = o.data) → h'.FunFrames B' l
  | [], _, _ => trivial
  | env :: l, q, k => by
    obtain ⟨q1, ⟨L, o, hf, _, ho, hd⟩, q3⟩ := q
    obtain ⟨k1, k2⟩ := k L (List.mem_filterMap.mpr ⟨env, List.mem_cons_self, hf⟩)
    obtain ⟨o', e1, e2⟩ := k2 o ho hd
    refine ⟨q1, ⟨L, o', hf, k1, e1, fun vs => e2 ▸ hd vs⟩, funFr_mono q3 fun L' m => k L' ?_⟩
    obtain ⟨e, m1, m2⟩ := List.mem_filterMap.mp m
    exact List.mem_filterMap.mpr ⟨e, List.mem_cons_of_mem _ m1, m2⟩
/-- the objects of a comprehension's walk, told against the def -/
abbrev FpW (X : Cx) (pins : List (Addr × Obj)) (H : Hp) (s : Shared) (fp : List Addr) : Prop := ∀ b ∈ fp, FpOk X pins H b ∧ b < s.heap.objs.size
section
variable {X : Cx} {pins : List (Addr × Obj)} {σ : L2.St} {H3 : Hp} {s3 : Shared} {scope : Scope} {ce : Env} {fp : List Addr}
/-- a state of the block is a state of the def -/
theorem blk_out {p' : List (Addr × Obj)} {σ' : L2.St} {H' : Hp} {s' : Shared} (I3 : Inv X pins σ H3 s3) (f3 : FpW X pins H3 s3 fp) (I6 : Inv (X.blk s3 H3 scope ce fp) p' σ' H' s') : Inv X pins σ H' s' := by
  refine I3.call' (ch := fp) I6.os I6.base I6.hok I6.bare ?_
  intro b hb
  obtain ⟨-, z1, -, z3, z4, z5⟩ := (f3 b hb).1
  exact ⟨z3, z1, z4, z5⟩
/-- what the block lets out leaves the comprehension -/
theorem blk_err {E : XK} {u : Value} {s' : Shared} {use : Option (Value → Sem Unit)} {Qf : Value → Shared → Prop} {acc : Value} (tk : L2N.Takes X (fun c d _ H => E c d H)) (hst : X.stack = X.env :: X.outer) (hfr : X.env.frame = some X.env.locals) (I3 : Inv X pins σ H3 s3)
    (f3 : FpW X pins H3 s3 fp) (cL : ce.locals = s3.heap.objs.size) (cF : ce.frame = X.env.frame) (x : XF (X.blk s3 H3 scope ce fp) E u s') :
    notedBy (model X.prog X.w) X.A ce (fun e s'' => cPostE (model X.prog X.w) X.A X.xe use Qf acc s3.heap.objs.size X.env.frame (.error e) s'') u s' := by
  obtain ⟨a, B, sI, p6, σ6, H6, cls, d, rfl, I6, nb, up, fl, na, os, ag, hE⟩ := x
  have I7 := blk_out I3 f3 I6
  have nC : H6 s3.heap.objs.size = none := cL ▸ I6.free
  have hfs : X.A.frames = some (X.env :: X.outer) := by rw [I3.ok.frames, hst]
  have fl : HandSPX.FlyingZ B (X.env :: X.outer) a (L2N.Zn cls d) s'.heap := hst ▸ fl
  have en : (noteFrame (.ref a) ce : Sem Unit) = noteFrame (.ref a) X.env := by unfold noteFrame PySem.frameOf; rw [cF]
  unfold notedBy
  rw [en]
  refine PXN.looks_onZ L2N.Zn.steady hfs hfr fl fun h1 hd up1 => ?_
  obtain ⟨m, o, es, ep, hC, ho, hk, hm⟩ : ∃ m, sI.heap.Ns s3.heap.objs.size m := by
    obtain ⟨m, hn, _⟩ := I6.loc
    exact ⟨m, cL ▸ hn⟩
  have cs : s3.heap.objs.size ∉ frs X.stack := fun hm => by
    obtain ⟨_, o', e', _⟩ := I3.stack.mem hm
    exact Nat.lt_irrefl _ (Heap.lt_size e')
  have hB := nb _ _ hC cs
  obtain ⟨hkb, hen, hl, oe, vs, T, oT, ts, he, hz, hdd, hv1, hnT, hTe, hT, hdT, ht3⟩ := hd
  have TC : T ≠ s3.heap.objs.size := fun z => by rw [z, hB] at hnT; cases hnT
  have aC : a ≠ s3.heap.objs.size := fun z => by rw [z, hB] at hen; cases hen
  have main : ∃ m, h1.Ns s3.heap.objs.size m ∧ ∀ h' m', h'.Ns s3.heap.objs.size m' → Heap.SameBut s3.heap.objs.size h1 h' → ∀ cenv : Env, cenv.frame = X.env.frame →
      wpAny (model X.prog X.w) X.A (passOn "comprehension.variables-let-go" (.ref a) cenv : Sem Value) (fun _ _ => False) X.xe { s' with heap := h' } := by
    refine ⟨m, ⟨o, es, ep, hkb _ _ hB, ho, hk, hm⟩, ?_⟩
    intro h2 m2 hn2 sb cenv cf
    obtain ⟨o2, es2, ep2, hC2, ho2, -, -⟩ := hn2
    have fr2 : o2.isFreed = false := Obj.isFreed_of_dict ho2
    have he2 : h2.get? a = some oe := (sb.2 a aC).trans he
    have hT2 : h2.get? T = some oT := (sb.2 T TC).trans hT
    unfold PySem.passOn
    refine wpAny_bind (wpAny_field he2 hdd hv1 ?_)
    rw [if_neg (show ¬ ((Value.ref T == Value.none) = true) from by simp)]
    unfold setFlight
    refine wpAny_bind (wpAny_bind (wpAny_field he2 hdd hv1 ?_))
    rw [if_pos (show (Value.ref T != Value.none) = true from by simp)]
    have h3s : 3 < ts.size := (Array.getElem?_eq_some_iff.mp ht3).1
    refine wpAny_setField hT2 hdT h3s (wpAny_throw ?_)
    generalize hg : Option.elim cenv.frame Value.none (fun f => rawInt f) = fv
    have efv : fv = rawInt X.env.locals := by rw [← hg, cf, hfr]; rfl
    have hT3 : (h2.update T (Obj.mapFields (·.setIfInBounds 3 fv))).get? T = some (Obj.mapFields (·.setIfInBounds 3 fv) oT) := Heap.get?_update_self _ hT2 (Obj.isFreed_of_fields (Obj.data_mapFields hdT _))
    have oth : ∀ b, b ≠ T → (h2.update T (Obj.mapFields (·.setIfInBounds 3 fv))).get? b = h2.get? b := fun b hb => Heap.get?_update_other _ _ (Ne.symm hb)
    generalize h2.update T (Obj.mapFields (·.setIfInBounds 3 fv)) = h3 at hT3 oth ⊢
    have uB : ∀ b, b ≠ s3.heap.objs.size → (B.update s3.heap.objs.size fun _ => o2).get? b = B.get? b := fun b hb => Heap.get?_update_other _ _ (Ne.symm hb)
    have uC : (B.update s3.heap.objs.size fun _ => o2).get? s3.heap.objs.size = some o2 := Heap.get?_update_self _ hB fr2
    have uI : ∀ b, b ≠ s3.heap.objs.size → (sI.heap.update s3.heap.objs.size fun _ => o2).get? b = sI.heap.get? b := fun b hb => Heap.get?_update_other _ _ (Ne.symm hb)
    have uIC : (sI.heap.update s3.heap.objs.size fun _ => o2).get? s3.heap.objs.size = some o2 := Heap.get?_update_self _ hC fr2
    obtain ⟨g0, g1, -, g3, g4, g5⟩ : FpOk X pins H6 s3.heap.objs.size := I3.fpOk (Nat.le_refl _) nC
    have J := I7.turned (t' := sI.toks) (h' := sI.heap.update s3.heap.objs.size fun _ => o2) (fun b o hb e => (uI b hb).trans e) g0 g1 g3 g4 g5
    generalize (B.update s3.heap.objs.size fun _ => o2) = B2 at uB uC
    generalize (sI.heap.update s3.heap.objs.size fun _ => o2) = hI at uI uIC J
    have h3C : h3.get? s3.heap.objs.size = some o2 := (oth _ (Ne.symm TC)).trans hC2
    have h3o : ∀ b, b ≠ s3.heap.objs.size → b ≠ T → h3.get? b = h1.get? b := fun b x y => (oth b y).trans (sb.2 b x)
    have B2T : B2.get? T = none := (uB T TC).trans hnT
    have stay : B2.StaysIn h3 := fun b o' e => by
      by_cases x : b = s3.heap.objs.size
      · subst x
        rw [uC] at e; cases e
        exact h3C
      · rw [uB b x] at e
        rw [h3o b x (fun z => by rw [z, hnT] at e; cases e)]
        exact hkb b o' e
    refine tk _ _ ⟨a, B2, { sI with heap := hI, toks := sI.toks }, pins, σ, H6, cls, d, rfl, J, ?_, ?_, .inr (.inr ⟨stay, (uB a aC).trans hen, ?_, ?_⟩), na, os, ag, hE⟩
    · intro b o' e hb
      by_cases x : b = s3.heap.objs.size
      · subst x
        have e : hI.get? s3.heap.objs.size = some o' := e
        rw [uIC] at e; cases e
        exact uC
      · have e : hI.get? b = some o' := e
        rw [uI b x] at e
        rw [uB b x]
        exact nb b o' e hb
    · intro b o' e hnf
      have e : hI.get? b = some o' := e
      by_cases x : b = s3.heap.objs.size
      · subst x
        rw [uIC] at e; cases e
        exact ⟨_, h3C⟩
      · rw [uI b x] at e
        obtain ⟨sl, q⟩ := up b o' e hnf
        obtain ⟨sl2, q2⟩ := up1 b _ q hnf
        refine ⟨sl2, ?_⟩
        show h3.get? b = _
        rw [h3o b x (fun z => by
          rw [z, hT] at q2
          cases q2
          exact hnf ts hdT)]
        exact q2
    · rw [hst]
      refine funFr_mono hl fun b hb => ?_
      have hb2 : b ∈ frs X.stack := by rw [hst]; exact hb
      have x : b ≠ s3.heap.objs.size := fun z => cs (z ▸ hb2)
      refine ⟨(uB b x).trans (hl.mem hb).1, fun o' e hnf => ⟨o', (h3o b x (fun z => by rw [z, hT] at e; cases e; exact hnf ts hdT)).trans e, rfl⟩⟩
    · refine ⟨oe, vs, T, _, _, (h3o a aC (Ne.symm hTe)).trans he, hz, hdd, hv1, B2T, hTe, hT3, Obj.data_mapFields hdT _, ?_⟩
      rw [efv]
      simp [h3s]
  cases use <;> exact main
/-- the block's start, its objects, the first state of its loop: told once -/
theorem lcE_core {H : Hp} {s : Shared} {Q : VK} {elt tg iter : Expr} {ifs : List Expr} {own : List (Str × Nat)} {pos pos' : Pos} {wi : TI} {g : TG} {tt : TT} {te : TE} {use : Option (Value → Sem Unit)} {Qf : Value → Shared → Prop} {E : XK}
    (tk : L2N.Takes X (fun c d _ H => E c d H)) (hst : X.stack = X.env :: X.outer) (hfr : X.env.frame = some X.env.locals) (hc : X.calm = true) (hN : X.N.Nodup) (I : Inv X pins σ H s) (hi : PI X tg iter wi) (ok : BlkOk X.N X.env.scope scope own)
    (hg : ∀ s H C cl fp, PG (X.blk s H scope (compEnvC scope cl C X.env) fp) tg g) (ht : ∀ s H C cl fp, PTs (X.blk s H scope (compEnvC scope cl C X.env) fp) ifs tt) (he : ∀ s H C cl fp, PE (blkE X E s H scope (compEnvC scope cl C X.env) fp) elt te)
    (hs : ∀ x, foldedSetIterable iter X.env x = pure x) (h : tLc wi g tt te (own.map (·.2)) σ H Q)
    (hRR : ∀ D C s' m H', Inv X pins σ H' s' → Q (.ref D) H' → s'.heap.Ns C m → FpOk X pins H' C → cPostE (model X.prog X.w) X.A X.xe use Qf (.ref D) C X.env.frame (.ok .next) s') :
    wpAny (model X.prog X.w) X.A (comprehension (.ListComp elt [⟨tg, iter, ifs, 0⟩] scope pos) scope X.env pos' (newList []) false (eval iter X.env) use) Qf X.xe s := by
  have hfree : ∀ y ∈ scope.names, y.2 = .free → ∃ c, X.env.cells.lookup y.1 = some c := fun y hy e => (ok.free y hy e).elim (fun k => I.ok.has _ (.inl k)) fun k => I.ok.has _ (.inr k)
  refine compE_free (use := use) rfl hs (closure_ok hfree) ok.kind (fun y hy e => by rw [ok.uniq y hy, e]) ?_
  refine thn (hi.run pins s σ H _ I h) fun xv s1 hx => thn hx fun itv s2 h2 => ?_
  obtain ⟨it, fp, tn, J, H2, rfl, I2, T, st2, f2, q⟩ := h2
  refine wpAny_newObj_type (newEnv_comp ?_) (by show 0 ≤ sizeLine; decide)
  obtain ⟨D, hD⟩ : ∃ D, s2.heap.objs.size = D := ⟨_, rfl⟩
  rw [hD]
  have hDn : H2 D = none := I2.hok.fresh (Nat.le_of_eq hD)
  obtain ⟨W, ⟨m0, w0⟩, turn⟩ := q D hDn
  have pu : (s2.heap.push { cls := .type "list", data := .seq ([] : List Value).toArray }).get? D = some { cls := .type "list", data := .seq ([] : List Value).toArray } := hD ▸ Heap.get?_push_size _ rfl
  have szp : (s2.heap.push { cls := .type "list", data := .seq ([] : List Value).toArray }).objs.size = s2.heap.objs.size + 1 := Heap.size_push ..
  have kp : ∀ b o, s2.heap.get? b = some o → (s2.heap.push { cls := .type "list", data := .seq ([] : List Value).toArray }).get? b = some o := fun b o e => Heap.get?_push_of_some _ e
  generalize s2.heap.push { cls := .type "list", data := .seq ([] : List Value).toArray } = hp at pu szp kp ⊢
  have I3 : Inv X pins σ (upd H2 D (.lst [])) { s2 with heap := hp, toks := s2.toks } := I2.laid (t' := s2.toks) kp (Nat.le_of_eq hD) ⟨Nat.zero_le _, [], 0, .nil, pu⟩
  have sz : ∀ b ∈ fp, b < s2.heap.objs.size := fun b hb => let ⟨_, e, _⟩ := T.obj _ _ st2 b hb; Heap.lt_size e
  obtain ⟨s3, e3⟩ : ∃ s3 : Shared, s3 = { s2 with heap := hp, toks := s2.toks } := ⟨_, rfl⟩
  rw [← e3] at I3
  have e3h : s3.heap = hp := by rw [e3]
  have f3 : FpW X pins (upd H2 D (.lst [])) s3 fp := fun b hb => by
    have hlt := sz b hb
    refine ⟨⟨?_, (f2 b hb).2⟩, by rw [e3h, szp]; exact Nat.lt_succ_of_lt hlt⟩
    rw [upd_ne (show b ≠ D from by rw [← hD]; exact Nat.ne_of_lt hlt)]
    exact (f2 b hb).1
  have st3 : tn 0 s3.heap := T.keep _ _ _ st2 fun b _ o e => by rw [e3h]; exact kp b o e
  have I4 := block_start I3 ok hN f3
  generalize hH3 : upd H2 D (.lst []) = H3 at I3 I4 w0 f3
  obtain ⟨cl, hcl⟩ : ∃ cl, cl = cellsFrom (s3.heap.objs.size + 1) scope.names (cloFrom X.env.cells scope.names []) := ⟨_, rfl⟩
  rw [← hcl] at I4
  have pg := hg s3 H3 s3.heap.objs.size cl fp
  have pt := ht s3 H3 s3.heap.objs.size cl fp
  have pe := he s3 H3 s3.heap.objs.size cl fp
  have goal : codeAny (model X.prog X.w) X.A (.compStart (.ListComp elt [⟨tg, iter, ifs, 0⟩] scope pos) 0 (.ref it) (.ref D) (compEnvC scope cl s3.heap.objs.size X.env)) (cPostE (model X.prog X.w) X.A X.xe use Qf (.ref D) s3.heap.objs.size X.env.frame)
      { s3 with heap := pushCells (s3.heap.push { cls := .type "dict", data := .dict #[] }) scope.names } := by
    have cL : (compEnvC scope cl s3.heap.objs.size X.env).locals = s3.heap.objs.size := rfl
    have cF : (compEnvC scope cl s3.heap.objs.size X.env).frame = X.env.frame := rfl
    generalize compEnvC scope cl s3.heap.objs.size X.env = ce at I4 pg pt pe cL cF ⊢
    have kp4 : ∀ b o, s3.heap.get? b = some o → (pushCells (s3.heap.push { cls := .type "dict", data := .dict #[] }) scope.names).get? b = some o := fun b o e => pushCells_keeps _ _ _ _ (Heap.get?_push_of_some _ e)
    generalize hs4 : ({ s3 with heap := pushCells (s3.heap.push { cls := .type "dict", data := .dict #[] }) scope.names } : Shared) = s4 at I4 ⊢
    have st4 : tn 0 s4.heap := T.keep _ _ _ st3 fun b _ o e => by rw [← hs4]; exact kp4 b o e
    have stat : ∀ {σ' : L2.St} {H' : Hp} {s' : Shared}, Inv (X.blk s3 H3 scope ce fp) [] σ' H' s' → (∀ b ∈ fp, H' b = none) → ∀ b ∈ fp, FpOk (X.blk s3 H3 scope ce fp) [] H' b := by
      intro σ' H' s' I' hn b hb
      exact ⟨hn b hb, (I'.ok.exf b hb).1, I'.ok.exfs b hb, .inl hb, fun x c e => (I'.ok.exf b hb).2 x c e, fun p hp => absurd (show p ∈ ([] : List (Addr × Obj)) ++ [] from hp) (by simp)⟩
    have out : ∀ {u : Value} {s' : Shared}, XF (X.blk s3 H3 scope ce fp) E u s' → notedBy (model X.prog X.w) X.A ce (fun e s'' => cPostE (model X.prog X.w) X.A X.xe use Qf (.ref D) s3.heap.objs.size X.env.frame (.error e) s'') u s' := fun x => blk_err tk hst hfr I3 f3 cL cF x
    have loop : codeAny (model X.prog X.w) X.A (.compLoop (.ListComp elt [⟨tg, iter, ifs, 0⟩] scope pos) 0 (.ref it) (.ref D) ce) (cPostE (model X.prog X.w) X.A X.xe use Qf (.ref D) s3.heap.objs.size X.env.frame) s4 := by
      refine compLoop_any (fun n s' => ∃ i H', Inv (X.blk s3 H3 scope ce fp) [] (wipe σ (own.map (·.2))) H' s' ∧ tn i s'.heap ∧ (∀ b ∈ fp, H' b = none) ∧ W i n H') ?_ m0 ⟨0, H3, I4, st4, fun b hb => (f3 b hb).1.1, w0⟩
      rintro n s5 ⟨i, H5, I5, st5, n5, w5⟩
      rcases turn i n H5 w5 with ⟨stop, qq⟩ | ⟨go, Nx, hNx, step⟩
      · refine thnF (T.done (X.blk s3 H3 scope ce fp) rfl rfl rfl hc i [] s5 _ H5 (fun _ _ => False) I5 (stat I5 n5) st5 stop) ?_
        rintro r s6 ⟨rfl, I6⟩
        have nC : H5 s3.heap.objs.size = none := cL ▸ I6.free
        obtain ⟨m, hn, _⟩ := I6.loc
        exact hRR D _ s6 m H5 (blk_out I3 f3 I6) qq (cL ▸ hn) (I3.fpOk (Nat.le_refl _) nC)
      · refine thnF (T.item (X.blk s3 H3 scope ce fp) rfl rfl rfl hc i [] s5 _ H5 (fun _ _ => False) I5 (stat I5 n5) st5 go) ?_
        rintro r s6 ⟨u, rfl, h6⟩
        refine thnF h6 ?_
        rintro _ s7 ⟨x, H7, I7, r7, y7, st7, n7⟩
        refine thnF (pg.run _ s7 _ H7 x u _ (I7.pinned (stat I7 n7) (T.obj _ _ st7)) r7 (step x H7 y7)) ?_
        rintro _ s8 ⟨σ8, H8, I8, hw8, q8⟩
        refine thnF (pt.run _ s8 σ8 H8 _ I8 q8) ?_
        rintro b s9 ⟨H9, I9, q9⟩
        have fin : ∀ {s' : Shared} {H' : Hp}, Inv (X.blk s3 H3 scope ce fp) ([] ++ pinsAt fp s7.heap) σ8 H' s' → Nx H' → ∃ m, m < n ∧ ∃ i H', Inv (X.blk s3 H3 scope ce fp) [] (wipe σ (own.map (·.2))) H' s' ∧ tn i s'.heap ∧ (∀ b ∈ fp, H' b = none) ∧ W i m H' := by
          intro s' H' I' nx
          obtain ⟨m', hm, w'⟩ := hNx H' nx
          have pin' : ∀ b ∈ fp, ∀ o, s7.heap.get? b = some o → s'.heap.get? b = some o ∧ H' b = none := fun b hb o e => by
            obtain ⟨z1, z2, -⟩ := I'.pin (b, o) (List.mem_append_right _ (List.mem_append_right _ (mem_pinsAt hb e)))
            exact ⟨z1, z2⟩
          have I8' := (I'.unpinned (pins := [])).weak (σ' := wipe σ (own.map (·.2))) (by rw [← hw8, wipe_length]) fun j v e => (wipe_some (hw8 ▸ e)).1
          refine ⟨m', hm, i + 1, H', I8', T.keep _ _ _ st7 fun b hb o e => (pin' b hb o e).1, fun b hb => ?_, w'⟩
          obtain ⟨o, e, _⟩ := T.obj _ _ st7 b hb
          exact (pin' b hb o e).2
        cases b with
        | false => exact fin I9 (by simpa using q9)
        | true =>
          have q9 := by simpa using q9
          refine wpAny_mono (pe.run _ s9 σ8 H9 _ (Inv.xe I9 _) q9) ?_ fun u s' x => out x
          rintro z s10 ⟨yv, H10, I10, r10, acc, hD10, hz10, nx⟩
          exact app_ok (X := X.blk s3 H3 scope ce fp) (Inv.unxe I10) hD10 hz10 r10 fun s11 I11 => fin I11 nx
    exact codeAny_compStart_list loop (T.self X.A 0 _ _ _ st4 loop)
  rw [e3] at goal hcl
  rw [hcl] at goal
  exact goal
end
section
variable {X : Cx} {E : XK}
theorem k_lcE {elt tg iter : Expr} {ifs : List Expr} {scope : Scope} {own : List (Str × Nat)} {pos : Pos} {wi : TI} {g : TG} {tt : TT} {te : TE} (tk : L2N.Takes X (fun c d _ H => E c d H)) (hst : X.stack = X.env :: X.outer) (hfr : X.env.frame = some X.env.locals) (hc : X.calm = true) (hN : X.N.Nodup) (hi : PI X tg iter wi) (ok : BlkOk X.N X.env.scope scope own)
    (hg : ∀ s H C cl fp, PG (X.blk s H scope (compEnvC scope cl C X.env) fp) tg g) (ht : ∀ s H C cl fp, PTs (X.blk s H scope (compEnvC scope cl C X.env) fp) ifs tt) (he : ∀ s H C cl fp, PE (blkE X E s H scope (compEnvC scope cl C X.env) fp) elt te)
    (hs : ∀ x, foldedSetIterable iter X.env x = pure x := by intro _; rfl) : PE X (.ListComp elt [⟨tg, iter, ifs, 0⟩] scope pos) (uLc wi g tt te (own.map (·.2))) := by
  refine ⟨fun pins s σ H Q I h => ?_⟩
  rw [eval_ListComp]
  refine lcE_core tk hst hfr hc hN I hi ok hg ht he hs h fun D C s' m H' I' q hn f => ⟨m, hn, fun h'' sb => ?_⟩
  obtain ⟨f0, f1, -, f3, f4, f5⟩ := f
  exact ⟨.ref D, H', I'.turned (t' := s'.toks) (fun b o hb e => (sb.2 b hb).trans e) f0 f1 f3 f4 f5, rfl, q⟩
theorem k_setLcE {i : Nat} {y : Str} {py : Pos} {elt tg iter : Expr} {ifs : List Expr} {scope : Scope} {own : List (Str × Nat)} {pos spos : Pos} {wi : TI} {g : TG} {tt : TT} {te : TE} (tk : L2N.Takes X (fun c d _ H => E c d H)) (hst : X.stack = X.env :: X.outer) (hfr : X.env.frame = some X.env.locals) (hc : X.calm = true) (hN : X.N.Nodup)
    (hy : X.N[i]? = some y) (hyl : X.env.scope.names.lookup y = some .local)
    (hsw : swapsWith (.ListComp elt [⟨tg, iter, ifs, 0⟩] scope pos) (some (.Name y py)) spos.line X.env = pure true) (hi : PI X tg iter wi) (ok : BlkOk X.N X.env.scope scope own)
    (hg : ∀ s H C cl fp, PG (X.blk s H scope (compEnvC scope cl C X.env) fp) tg g) (ht : ∀ s H C cl fp, PTs (X.blk s H scope (compEnvC scope cl C X.env) fp) ifs tt) (he : ∀ s H C cl fp, PE (blkE X E s H scope (compEnvC scope cl C X.env) fp) elt te)
    (hs : ∀ x, foldedSetIterable iter X.env x = pure x := by intro _; rfl) : PS X (.Assign [.Name y py] (.ListComp elt [⟨tg, iter, ifs, 0⟩] scope pos) spos) (tAsg (uLc wi g tt te (own.map (·.2))) (gName i)) := by
  refine ⟨fun pins s σ H D I h => ?_⟩
  rw [exec_Assign_Name_used _ _ _ _ hsw]
  refine wpAny_bind (wpAny_standAt (wpAny_bind ?_))
  show wpAny _ X.A (do let _ ← comprehension (.ListComp elt [⟨tg, iter, ifs, 0⟩] scope pos) scope X.env (firstIterPos [⟨tg, iter, ifs, 0⟩] pos) (newList []) false (eval iter X.env) (some (assign (.Name y py) X.env))) _ _ s
  have h : tLc wi g tt te (own.map (·.2)) σ H (fun x H1 => gName i x σ H1 D.nx) := h
  refine wpAny_bind (thn (lcE_core (Qf := fun _ s' => SP X pins D .next s') tk hst hfr hc hN I hi ok hg ht he hs h fun L C s' m H' I' q hn f => ?_) fun _ s' hq => wpAny_pure (wpAny_pure hq))
  show wpAny _ _ (assign (.Name y py) X.env (.ref L)) _ _ _
  obtain ⟨f0, f1, -, f3, f4, f5⟩ := f
  refine wpAny_assign_Name (store_ok2 (v := V.ref L) I' hN hy (.inl hyl) rfl (fun s2 I2 h2 => ?_) (.inr hyl))
  obtain ⟨a, sb, ha⟩ := h2
  have haC : C ≠ a := by
    rcases ha with z | z
    · rw [z]; exact f1
    · exact fun e => f4 y a z e.symm
  refine ⟨m, hn.sameBut sb haC, fun h3 sb3 => ?_⟩
  exact ⟨_, H', I2.turned (t' := s2.toks) (fun b o hb e => (sb3.2 b hb).trans e) f0 f1 f3 f4 f5, q⟩
end
/-! ### calls within such a block -/
section
variable {X : Cx} {EX : XK} {bs : Shared} {bH : Hp} {bsc : Scope} {ce : Env} {bfp : List Addr} {k : Nat} {x : Str} {sp : Sp} {p pos : Pos} {e : Expr} {es : List Expr} {t : TA}
theorem kcB (c : Cal X.prog X.w X.K X.mg X.base k x sp) (hr : Room k X.A) (ha : PA (blkE X EX bs bH bsc ce bfp) (e :: es) t) (hg : Gl (blkE X EX bs bH bsc ce bfp) x := by rfl) (hdb : (x == ("__debug__" : Str)) = false := by decide)
    (he : starEach (e :: es) ce = (false, eval e ce) :: starEach es ce := by rfl) (hpl : (backTo pos (starEach es ce)).any (·.1) = false := by rfl) : PE (blkE X EX bs bH bsc ce bfp) (.Call (.Name x p) (e :: es) [] pos) (tCallS sp (fun _ => EX) t) := by
  obtain ⟨f, fd, ps, hm, hk, hb, F⟩ := c.ex
  exact pe_callS (X := blkE X EX bs bH bsc ce bfp) F hr hg hm hk hb (fun σ => passB) ha hdb he hpl
end
end KW

set_option Elab.async false
set_option linter.all false
set_option maxRecDepth 100000
set_option maxHeartbeats 4000000
/-! Kw4: own defs called within an except suite -/
namespace KW
open PySem PySem.Spec PyProof.Rows L2
structure CalH (P : Program) (w : World) (K : Frag) (mg : Str → Option Value) (base : Heap) (k : Nat) (x : Str) (sp : Sp) : Prop where
  ex : ∃ (f : Addr) (fd : FuncData) (ps : List Str), mg x = some (.ref f) ∧ PySem.W.keepIn K (.ref f) = true ∧ Binds K fd ps [] ∧ L2H.FnH P w K mg base (L2N.CX P w) k f fd ps sp
section
variable {P : Program} {w : World} {K : Frag} {mg : Str → Option Value} {base : Heap}
theorem DefAt.okH {x qual : Str} {st : Stmt} {N ps : List Str} {k : Nat} {sp : Sp} (D : DefAt K mg x qual st ps) (S : FnScope N ps (defScope st)) (len : ∀ vs H Q E, sp vs H Q E → vs.length = ps.length)
    (hbody : ∀ (f : Addr) (cdv : Value) (A : Around) (outer : List Env) (s : Shared) (H : Hp) (vs : List V) (Q : VK) (E : XK) (pp : Addr × Obj), L2H.RoomH k (A.deeper (envOfC qual (defScope st) s.heap.objs.size f cdv)) → sp vs H Q E →
      ∃ t, PSs (L2H.cxH (L2N.CX P w) P w K mg base N qual (defScope st) f cdv A outer s H E pp) (defBody st) t ∧ t { nx := fun _ H' => Q .non H', rt := Q } (start N vs) H) : CalH P w K mg base (k + 1) x sp := by
  obtain ⟨f, fd, hm, F, hb⟩ := D.ex
  refine ⟨f, fd, ps, hm, F.kp, hb, ?_⟩
  obtain ⟨oc, od, kV, doc, pm, an, cdv, ct, osl, rfl, lk, hcd⟩ := F.ex
  exact L2H.fn_ofH lk hcd S len fun A outer s H vs Q E pp _ hr hsp => hbody f cdv A outer s H vs Q E pp hr hsp
end
section
variable {X : Cx} {k : Nat} {x : Str} {sp : Sp} {p pos : Pos} {e : Expr} {es : List Expr} {t : TA}
theorem kcH {a : Addr} {oe : Obj} {cls : Value} {d : Option Addr} {pn : List (Addr × Obj)} (hz : L2N.Zn cls d oe) (hf : ∃ vs, oe.data = .fields vs) (c : CalH X.prog X.w X.K X.mg X.base k x sp) (hr : Room k X.A) (ha : PA (X.suite a ((a, oe) :: pn)) (e :: es) t)
    (hg : Gl X x := by rfl) (hdb : (x == ("__debug__" : Str)) = false := by decide)
    (he : starEach (e :: es) X.env = (false, eval e X.env) :: starEach es X.env := by rfl) (hpl : (backTo pos (starEach es X.env)).any (·.1) = false := by rfl) : PE (X.suite a ((a, oe) :: pn)) (.Call (.Name x p) (e :: es) [] pos) (uCall sp t) := by
  obtain ⟨f, fd, ps, hm, hk, hb, F⟩ := c.ex
  obtain ⟨vs, hv⟩ := hf
  exact L2H.pe_callH (X := X.suite a ((a, oe) :: pn)) (E := fun _ => E0) F ⟨hr.dp, hr.un⟩ ⟨(a, oe), ⟨rfl, vs, hv, hz.2.2 vs hv⟩, List.mem_cons_self ..⟩ hg hm hk hb (fun _ => passAt0) ha hdb he hpl
end
end KW
namespace L2H
open PySem PySem.Spec PyProof.Rows L2
theorem RoomH.units {k : Nat} {A : Around} (r : RoomH k A) : A.units + 64 < cLine := by have := r.un; omega
end L2H

set_option Elab.async false
set_option linter.all false
set_option maxRecDepth 100000
set_option maxHeartbeats 4000000
/-! Kw5: int(text) of up to 4300 signs; a def that gets the exception of the suite -/
namespace KW
open PySem PySem.Spec PyProof.Rows L2 PySem.W PySem.NumText PySem.Calls
theorem wp_max {M : Model} {A : Around} {E : Value → Shared → Prop} {s : Shared} {Q : Nat → Shared → Prop} (hd : s.heap.NoDigits) (h : Q 4300 s) : wpAny M A Builtin.intMaxStrDigits Q E s := by
  obtain ⟨mc, hns, hnone⟩ := hd
  unfold Builtin.intMaxStrDigits
  refine wpAny_bind (wpAny_nsGet hns ?_)
  rw [hnone]
  exact wpAny_pure h
theorem wp_textL {M : Model} {A : Around} {E : Value → Shared → Prop} {s : Shared} {Q : Value → Shared → Prop} {v : Value} {text : List Nat} {n : Int} (hd : s.heap.NoDigits) (hs : ¬ (text.takeWhile (· != 0)).length ≤ 640)
    (hr : (int_private% "readNumeral") 4300 10 (text.takeWhile (· != 0)) = (int_private% "Numeral.value") n) (ha : ((text.takeWhile (· != 0)).length == text.length) = true) (h : Q (.int n s.toks) { s with toks := s.toks + 1 }) :
    wpAny M A ((int_private% "intFromText") v text 10) Q E s := by
  obtain ⟨hp, g, d, tk, os⟩ := s
  repeat (any_goals (first
    | assumption
    | (with_reducible refine wpAny_ite_false (decide_eq_false hs) ?_)
    | ((with_reducible show wpAny _ _ Builtin.intMaxStrDigits _ _ _); refine wp_max hd ?_)
    | (with_reducible refine wpAny_ite_true (decide_eq_true ha) ?_)
    | wp_step))
  all_goals (try rw [hr])
  all_goals (try dsimp only)
  repeat (any_goals (first
    | assumption
    | (with_reducible refine wpAny_ite_true (decide_eq_true ha) ?_)
    | wp_step))
structure HidL (p : Prop) : Prop where
  out : p
theorem meets_textL {x : PySem.Str} {u : Tok} {n : Int} (hl : x.length ≤ sizeLine) (hlong : ¬ (numSeenOf x).length ≤ 640) (hn : PySem.intText? x = some n) :
    Meets (Builtin.«int.__new__» ⟨[.type "int", .str x u], []⟩) (fun _ R s => s.heap.NoDigits ∧ R (.ok (.ret (.int n s.toks))) { s with toks := s.toks + 1 }) := by
  intro prog w A R s ⟨hd, h⟩
  refine wpAny_mono (Q := fun fin s' => ∃ v, fin = .done (.ret v) ∧ R (.ok (.ret v)) s') (E := fun e s' => R (.error e) s') ?_ (fun fin s' h' => by obtain ⟨v, rfl, hv⟩ := h'; exact hv) fun _ _ z => z
  obtain ⟨hp, g, d, tk, os⟩ := s
  have f1 := F.conv_sub_int
  have f2 := F.madeHere_int
  have f3 := KIN.str_int
  have f4 := KIN.str_idx
  have f5 := KIN.str_trunc
  have f6 : typeOf (.str x u) = pure (.type "str") := rfl
  have hr : (int_private% "readNumeral") 4300 10 (numSeenOf x) = (int_private% "Numeral.value") n ∧ ((numSeenOf x).length == (numTextOf x).length) = true := by
    rcases read4300 x hl with ⟨m, h1, h2, h3⟩ | ⟨h1, _⟩
    · rw [hn] at h1
      injection h1 with h1
      subst h1
      exact ⟨h3, h2⟩
    · rw [hn] at h1
      cases h1
  have hk := HidL.mk (And.intro hlong hr)
  clear hr hl hn hlong
  repeat (any_goals (first
    | assumption
    | ((with_reducible show wpAny _ _ ((int_private% "intFromText") _ _ _) _ _ _); refine wp_textL hd hk.out.1 hk.out.2.1 hk.out.2.2 ?_)
    | wp_step))
  all_goals first | exact ⟨_, rfl, h⟩ | skip
  all_goals trace_state
theorem tw_all : ∀ l : List Nat, (∀ c ∈ l, 48 ≤ c ∧ c ≤ 57) → l.takeWhile (· != 0) = l
  | [], _ => rfl
  | c :: l, h => by
    have h1 := h c List.mem_cons_self
    have e : (c != 0) = true := by simp only [bne_iff_ne, ne_eq]; omega
    rw [List.takeWhile_cons, if_pos e, tw_all l fun d hd => h d (List.mem_cons_of_mem _ hd)]
theorem seen_all {x : PySem.Str} (h : AllDigits x.cps.toList) : (numSeenOf x).length = x.length := by
  have e : x.cps.all (· < 128) = true := by
    rw [← Array.all_toList, List.all_eq_true]
    intro c hc
    have := h c hc
    simp only [decide_eq_true_eq]; omega
  have e2 : numTextOf x = x.cps.toList := by unfold numTextOf; rw [if_pos e]
  unfold numSeenOf
  rw [e2, tw_all _ h]
  exact Array.length_toList
/-- int(v) -/
def uIntL : List V → Hp → VK → Prop
  | [.int i], H, Q => Q (.int i) H
  | [.str x], H, Q => AllDigits x.cps.toList ∧ x.cps.toList ≠ [] ∧ x.length ≤ 4300 ∧ Q (.int (digitsVal x.cps.toList : Nat)) H
  | _, _, _ => False
theorem uIntL_e1 {i : Int} {H : Hp} {Q : VK} : uIntL [.int i] H Q = Q (.int i) H := rfl
theorem uIntL_e2 {x : Str} {H : Hp} {Q : VK} : uIntL [.str x] H Q = (AllDigits x.cps.toList ∧ x.cps.toList ≠ [] ∧ x.length ≤ 4300 ∧ Q (.int (digitsVal x.cps.toList : Nat)) H) := rfl
theorem c_intL {X : Cx} (hdg : nsIn X.K cStatics "sys.int_max_str_digits" = some none) : CallR X (.type "int") uIntL := by
  intro pins s σ H xs us Q I r h
  unfold uIntL at h
  split at h
  · exact c_int pins s σ H _ us Q I r h
  · rename_i x
    obtain ⟨h1, h2, h3, h⟩ := h
    cases r with
    | cons r1 rs =>
      cases rs
      obtain ⟨t, rfl⟩ := r1
      have hn := intText_digits h1 h2 h3
      have fin := (⟨.int (digitsVal x.cps.toList : Nat), H, I.tok _, ⟨_, rfl⟩, h⟩ : EP X pins σ Q (.int (digitsVal x.cps.toList : Nat) s.toks) { s with toks := s.toks + 1 })
      by_cases c : x.length ≤ 640
      · exact KIN.call_text hn c fin
      · have hd : s.heap.NoDigits := let ⟨mc, a, _⟩ := I.nolimit; ⟨mc, a, ns_none_of I.kIn a hdg⟩
        exact call_int_1 (meets_textL (by rw [sizeLine_eq]; omega) (by rw [seen_all h1]; exact c) hn) ⟨hd, rfl, fin⟩
  · exact h.elim

/-! ### a def that gets the exception of the suite as its first argument -/
structure CalE (P : Program) (w : World) (K : Frag) (mg : Str → Option Value) (base : Heap) (k : Nat) (x : Str) (sp : Addr → Value → Option Addr → Sp) : Prop where
  ex : ∃ (f : Addr) (fd : FuncData) (ps : List Str), mg x = some (.ref f) ∧ PySem.W.keepIn K (.ref f) = true ∧ Binds K fd ps [] ∧ (∀ a c d vs H Q E, sp a c d vs H Q E → vs.length = ps.length) ∧
    ∀ (A : Around) (outer : List Env) (s : Shared) (H : Hp) (args : Args) (us : List Value) (vs : List V) (Q : VK) (a : Addr) (oe : Obj) (c : Value) (d : Option Addr), L2H.RoomH k A → A.handled = some (.ref a) → L2N.Zn c d oe → (∃ fv, oe.data = .fields fv) → L2H.PinOk outer H s (a, oe) → Env0 P w K mg base A outer s H →
      BindsTo s fd args (ps.zip us) → Vals vs us → sp a c d vs H Q E0 → codeAny (model P w) A (.call (.ref f) args) (CR (L2N.CX P w) outer P w H s Q E0) s
theorem mark_self {A : Around} {env : Env} {v : Value} (h : A.handled = some v) : (A.deeper env).mark (some v) = A.deeper env := by
  obtain ⟨hd, dp, fr, gs, un⟩ := A
  simp only at h
  subst h
  rfl
section
variable {P : Program} {w : World} {K : Frag} {mg : Str → Option Value} {base : Heap}
theorem DefAt.okE {x qual : Str} {st : Stmt} {N ps : List Str} {k : Nat} {sp : Addr → Value → Option Addr → Sp} (D : DefAt K mg x qual st ps) (S : FnScope N ps (defScope st)) (len : ∀ a c d vs H Q E, sp a c d vs H Q E → vs.length = ps.length)
    (hbody : ∀ (f : Addr) (cdv : Value) (A : Around) (outer : List Env) (s : Shared) (H : Hp) (vs : List V) (Q : VK) (ea : Addr) (oe : Obj) (cls : Value) (d : Option Addr), L2H.RoomH k (A.deeper (envOfC qual (defScope st) s.heap.objs.size f cdv)) → L2N.Zn cls d oe → (∃ fv, oe.data = .fields fv) → sp ea cls d vs H Q E0 →
      ∃ t, PSs ((cxOf (L2N.CX P w) P w K mg base N qual (defScope st) f cdv A outer s H E0).suite ea ((ea, oe) :: [])) (defBody st) t ∧ t { nx := fun _ H' => Q .non H', rt := Q } (start N vs) H) : CalE P w K mg base (k + 1) x sp := by
  obtain ⟨f, fd, hm, F, hb⟩ := D.ex
  obtain ⟨oc, od, kV, doc, pm, an, cdv, ct, osl, rfl, lk, hcd⟩ := F.ex
  refine ⟨f, _, ps, hm, F.kp, hb, len, fun A outer s H args us vs Q a oe c d hr hh hz hf hpin e0 hbd hv hsp => ?_⟩
  have hlen := len _ _ _ _ _ _ _ hsp
  have up := e0.bs
  have kin : K.In s.heap := e0.mod.kin.keeps fun b o e => (up b o e).1
  have nolim : s.heap.NoLimit := e0.mod.nolimit.keeps fun b o e => (up b o e).1
  have kinds : ∀ y ∈ ps.zip us, (defScope st).names.lookup y.1 = some .local ∨ ((defScope st).names.lookup y.1 = some .cell ∧ ((cellsFrom (s.heap.objs.size + 1) (defScope st).names []).lookup y.1).isSome = true) := by
    rintro ⟨n, v⟩ hy
    cases S.par n (List.of_mem_zip hy).1 with
    | inl q => exact .inl q
    | inr q => exact .inr ⟨q, PySem.W.cellsFrom_some _ _ _ (.inl q)⟩
  refine codeAny_call_function hr.depth (kin _ _ lk) rfl S.co S.gen rfl (PySem.W.codeRec_of kin hcd) (hbd _ _ _ _ ?_)
  refine wpAny_newFunctionEnv_cells S.kind kinds fun env he s1 x => ?_
  subst he
  refine ⟨nolim.keeps x.toInCall.keep, codeAny_func ?_⟩
  obtain ⟨t, ht, hq⟩ := hbody f cdv A outer s H vs Q a oe c d (hr.deeper _) hz hf hsp
  have I0 := L2H.inv_startH (CX := L2N.CX P w) (P := P) (w := w) (K := K) (mg := mg) (base := base) (qual := qual) (f := f) (cd := cdv) (A := A) (outer := outer) (E := E0) S hpin e0 hlen hv x
  have eA := mark_self (A := A) (env := envOfC qual (defScope st) s.heap.objs.size f cdv) hh
  have eX : (cxOf (L2N.CX P w) P w K mg base N qual (defScope st) f cdv A outer s H E0).suite a ((a, oe) :: []) = (L2H.cxH (L2N.CX P w) P w K mg base N qual (defScope st) f cdv A outer s H E0 (a, oe)).wish fun _ _ => False := by
    unfold Cx.suite L2H.cxH Cx.wish cxOf
    simp only [eA]
  rw [eX] at ht
  have hrun := ht.run [] s1 (start N vs) H _ (I0.wish _) hq
  refine wpAny_mono hrun (fun fl s' hs => ?_) fun e s' hs => hs.elim
  have fin : ∀ {σ' : L2.St} {H' : Hp} {v : V} {u : Value}, Inv ((L2H.cxH (L2N.CX P w) P w K mg base N qual (defScope st) f cdv A outer s H E0 (a, oe)).wish fun _ _ => False) [] σ' H' s' → RelV v u → Q v H' → CE outer P w H s Q u s' :=
    fun {σ' H' v u} J rv q => ⟨v, H', J.os, J.bare, J.unwish.base, J.hok, rv, q⟩
  cases fl with
  | ret u => obtain ⟨v, σ', H', J, rv, q⟩ := hs; exact fin J rv q
  | next => obtain ⟨σ', H', J, q⟩ := hs; exact fin (v := V.non) (u := Value.none) J rfl q
  | brk => obtain ⟨_, _, _, q⟩ := hs; exact q.elim
  | cont => obtain ⟨_, _, _, q⟩ := hs; exact q.elim
end
section
variable {X : Cx} {k : Nat} {x : Str} {p pos : Pos} {e : Expr} {es : List Expr} {t : TA}
/-- f(e, ..) in the suite that holds e -/
theorem kcE {a : Addr} {oe : Obj} {cls : Value} {d : Option Addr} {pn : List (Addr × Obj)} {sp : Addr → Value → Option Addr → Sp} (hz : L2N.Zn cls d oe) (hf : ∃ vs, oe.data = .fields vs) (c : CalE X.prog X.w X.K X.mg X.base k x sp) (hr : Room k X.A) (ha : PA (X.suite a ((a, oe) :: pn)) (e :: es) t)
    (hg : Gl X x := by rfl) (hdb : (x == ("__debug__" : Str)) = false := by decide)
    (he : starEach (e :: es) X.env = (false, eval e X.env) :: starEach es X.env := by rfl) (hpl : (backTo pos (starEach es X.env)).any (·.1) = false := by rfl) : PE (X.suite a ((a, oe) :: pn)) (.Call (.Name x p) (e :: es) [] pos) (uCall (sp a cls d) t) := by
  obtain ⟨f, fd, ps, hm, hk, hb, hlen, run⟩ := c.ex
  refine ⟨fun pins s σ H Q I h => ?_⟩
  refine wpAny_Call_Name_kw (ld_glob (x := x) I hg hm ?_ hdb)
  refine PySem.W.callWith_K (h₀ := X.base) I.ok.mod.kin hk (thn (ha.run pos pins s σ H _ I h) fun us s1 ⟨vs, H1, I1, r, q⟩ => ⟨I1.kIn, ?_⟩) he hpl
  have hl : us.length = ps.length := by rw [← r.length]; exact hlen _ _ _ _ _ _ _ q
  have b := hb s1 us I1.kIn (by rw [List.append_nil]; exact hl)
  rw [List.append_nil] at b
  have P1 := I1.pin (a, oe) (List.mem_append_left _ List.mem_cons_self)
  have pk : L2H.PinOk (X.suite a ((a, oe) :: pn)).stack H1 s1 (a, oe) := ⟨P1.1, P1.2.1, fun z => (List.mem_cons.mp (I1.stkSub a z)).elim P1.2.2.1 P1.2.2.2.1, P1.2.2.2.2⟩
  refine wpAny_call (codeAny_mono (run (X.suite a ((a, oe) :: pn)).A (X.suite a ((a, oe) :: pn)).stack s1 H1 ⟨us, []⟩ us vs Q a oe cls d ⟨hr.dp, hr.un⟩ rfl hz hf pk I1.env0 b r q) fun r s' hq => ?_)
  cases r with
  | error e =>
    obtain ⟨_, _, _, _, _, _, _, _, _, _, _, _, z⟩ := hq
    exact z.elim
  | ok fl =>
    cases fl with
    | ret u => exact I1.after hq
    | next => exact hq.elim
    | brk => exact hq.elim
    | cont => exact hq.elim
theorem kcHh {a : Addr} {oe : Obj} {cls : Value} {d : Option Addr} {pn : List (Addr × Obj)} {sp : Sp} (hz : L2N.Zn cls d oe) (hf : ∃ vs, oe.data = .fields vs) (c : CalH X.prog X.w X.K X.mg X.base k x sp) (hr : L2H.RoomH k X.A) (ha : PA (X.suite a ((a, oe) :: pn)) (e :: es) t)
    (hg : Gl X x := by rfl) (hdb : (x == ("__debug__" : Str)) = false := by decide)
    (he : starEach (e :: es) X.env = (false, eval e X.env) :: starEach es X.env := by rfl) (hpl : (backTo pos (starEach es X.env)).any (·.1) = false := by rfl) : PE (X.suite a ((a, oe) :: pn)) (.Call (.Name x p) (e :: es) [] pos) (uCall sp t) := by
  obtain ⟨f, fd, ps, hm, hk, hb, F⟩ := c.ex
  obtain ⟨vs, hv⟩ := hf
  exact L2H.pe_callH (X := X.suite a ((a, oe) :: pn)) (E := fun _ => E0) F ⟨hr.dp, hr.un⟩ ⟨(a, oe), ⟨rfl, vs, hv, hz.2.2 vs hv⟩, List.mem_cons_self ..⟩ hg hm hk hb (fun _ => passAt0) ha hdb he hpl
end
end KW

set_option Elab.async false
set_option linter.all false
set_option maxRecDepth 100000
set_option maxHeartbeats 4000000
/-! Kw7: a try with several clauses, each with a name or without -/
namespace KW
open PySem PySem.Spec PyProof.Rows L2
/-- a clause: the name's slot (if there is one), the class, the suite -/
structure Cl where
  i : Option Nat
  c : Value
  ts : Addr → Value → Option Addr → TS
def wCl (K : Frag) (Wout : WX) (D : Ends) : List Cl → WX
  | [] => Wout
  | k :: r => fun cls d σ H => ∃ b, PySem.W.exmOne K cls k.c = some b ∧
      (b = true → ∀ a, H a = none → match k.i with
        | none => k.ts a cls d D σ H
        | some i => k.ts a cls d { nx := fun σ' H' => D.nx (σ'.set i none) H', rt := D.rt, bk := fun σ' H' => D.bk (σ'.set i none) H', ct := fun σ' H' => D.ct (σ'.set i none) H' } (σ.set i (some (.ref a))) H) ∧
      (b = false → wCl K Wout D r cls d σ H)
def suBk (k : Nat) : Stmt → List Stmt | .Try _ hs _ _ _ => (match hs[k]? with | some (.ExceptHandler _ _ b _) => b | _ => []) | _ => []
def SuOk (X : Cx) (b : List Stmt) (ts : Addr → Value → Option Addr → TS) : Prop := ∀ (a : Addr) (oe : Obj) (cls : Value) (d : Option Addr) (pn : List (Addr × Obj)), L2N.Zn cls d oe → (∃ vs, oe.data = .fields vs) → PSs (X.suite a ((a, oe) :: pn)) b (ts a cls d)
inductive Cls7 (X : Cx) : List ExceptHandler → List Cl → Prop
  | nil : Cls7 X [] []
  | bare {x : Str} {c : Value} {ts : Addr → Value → Option Addr → TS} {b₀ : Stmt} {su : List Stmt} {np p : Pos} {hs : List ExceptHandler} {l : List Cl} (hc : Names X x c) (hsu : SuOk X (b₀ :: su) ts) (r : Cls7 X hs l) :
      Cls7 X (.ExceptHandler (some (.Name x np)) none (b₀ :: su) p :: hs) (⟨none, c, ts⟩ :: l)
  | named {x n : Str} {c : Value} {i : Nat} {ts : Addr → Value → Option Addr → TS} {b₀ : Stmt} {su : List Stmt} {np p : Pos} {hs : List ExceptHandler} {l : List Cl} (hN : X.N.Nodup) (hi : X.N[i]? = some n) (hn : X.env.kindOf n = some .local) (hc : Names X x c) (hsu : SuOk X (b₀ :: su) ts) (r : Cls7 X hs l) :
      Cls7 X (.ExceptHandler (some (.Name x np)) (some n) (b₀ :: su) p :: hs) (⟨some i, c, ts⟩ :: l)
section
variable {K : Frag} {W : WX} {D : Ends} {c : Value} {ts : Addr → Value → Option Addr → TS} {r : List Cl} {cls : Value} {d : Option Addr} {σ : L2.St} {H : Hp} {i : Nat}
theorem cl_no {k : Cl} (h : PySem.W.exmOne K cls k.c = some false) (q : wCl K W D r cls d σ H) : wCl K W D (k :: r) cls d σ H := ⟨false, h, fun z => absurd z Bool.false_ne_true, fun _ => q⟩
theorem cl_yes (h : PySem.W.exmOne K cls c = some true) (q : ∀ a, H a = none → ts a cls d D σ H) : wCl K W D (⟨none, c, ts⟩ :: r) cls d σ H := ⟨true, h, fun _ => q, fun z => absurd z.symm Bool.false_ne_true⟩
theorem cl_yesN (h : PySem.W.exmOne K cls c = some true) (q : ∀ a, H a = none → ts a cls d { nx := fun σ' H' => D.nx (σ'.set i none) H', rt := D.rt, bk := fun σ' H' => D.bk (σ'.set i none) H', ct := fun σ' H' => D.ct (σ'.set i none) H' } (σ.set i (some (.ref a))) H) : wCl K W D (⟨some i, c, ts⟩ :: r) cls d σ H := ⟨true, h, fun _ => q, fun z => absurd z.symm Bool.false_ne_true⟩
end
section
variable {X : Cx} {body : List Stmt} {h₀ : ExceptHandler} {hs : List ExceptHandler} {l : List Cl} {pos : Pos} {tb : WX → TS} {Wo : WX}
theorem ps_try7 (st : X.stack = X.env :: X.outer) (fr : X.env.frame = some X.env.locals) (tk : L2N.Takes X Wo)
    (hb : ∀ (W : WX) (pn : List (Addr × Obj)) (xe : Value → Shared → Prop), L2N.Takes (X.tr pn xe) W → PassesOwn (model X.prog X.w) X.A X.env xe → PSs (X.tr pn xe) body (tb W))
    (hh : Cls7 X (h₀ :: hs) l) : PS X (.Try body (h₀ :: hs) [] [] pos) (fun D σ H => tb (wCl X.K Wo D l) D σ H) := by
  refine ⟨fun pins s σ H D I q => ?_⟩
  have okX := I.ok
  have frs3 : X.A.frames = some (X.env :: X.outer) := by rw [okX.frames, st]
  refine wpAny_Try_except (wpAny_mono ((hb (wCl X.K Wo D l) (X.pn ++ pins) (fun e s₁ => wpAny (model X.prog X.w) X.A (noteFrame e X.env) (fun _ s₂ => wpAny (model X.prog X.w) X.A (setFlight e none)
    (fun _ s₃ => wpAny (model X.prog X.w) X.A (handleBy e X.env (h₀ :: hs)) (SP X pins D) X.xe s₃) X.xe s₂) X.xe s₁) (fun u t xx => ?_) PassesOwn.looking).run [] s σ H D (I.toTry _) q) (fun f t sp => ?_) (fun _ _ z => z))
  rotate_left
  · match f, sp with
    | .next, ⟨τ, G, J, z⟩ => exact wpAny_execs_nil ⟨τ, G, J.ofTry okX, z⟩
    | .brk, ⟨τ, G, J, z⟩ => exact ⟨τ, G, J.ofTry okX, z⟩
    | .cont, ⟨τ, G, J, z⟩ => exact ⟨τ, G, J.ofTry okX, z⟩
    | .ret u, ⟨v, τ, G, J, r, z⟩ => exact ⟨v, τ, G, J.ofTry okX, r, z⟩
  obtain ⟨a, B, sI, pn1, τ, G, cls, d, rfl, J0, nb, up, sky, na, os, ag, w⟩ := xx
  have J1 : Inv X pins τ G sI := J0.ofTry okX
  rw [st] at sky
  show wpAny (model X.prog X.w) X.A (noteFrame (.ref a) X.env) _ _ _
  refine L2N.Sky.land L2N.Zn.steady frs3 fr sky fun h3 fl up3 => ?_
  have J3 : Inv X pins τ G { t with heap := h3 } := J1.landed nb fl.1 (up.trans up3) os ag
  obtain ⟨oe, vs, he, hz, hd⟩ := fl.there
  have off : a ∉ frs (X.env :: X.outer) := fun m => by
    obtain ⟨_, o1, e1, nf⟩ := fl.2.2.1.mem m
    rw [he] at e1
    cases e1
    exact nf _ hd
  have offL : a ≠ X.env.locals := fun z => off (List.mem_filterMap.mpr ⟨X.env, List.mem_cons_self, by rw [fr, z]⟩)
  have offS : a ∉ X.fs := fun m => by
    obtain ⟨e, m1, m2⟩ := List.mem_filterMap.mp m
    exact off (List.mem_filterMap.mpr ⟨e, List.mem_cons_of_mem _ m1, m2⟩)
  have Su := J3.suite he hd na offL offS
  have all : ∀ {k : List ExceptHandler} {m : List Cl}, Cls7 X k m → wCl X.K Wo D m cls d τ G → wpAny (model X.prog X.w) X.A (handleBy (.ref a) X.env k) (SP X pins D) X.xe { t with heap := h3 } := by
    intro k m hk
    have tst : ∀ {x : Str} {np : Pos} {c : Value} {b : Bool} {P1 : Value → Shared → Prop} {E1 : Value → Shared → Prop}, Names X x c → P1 c { t with heap := h3 } → wpAny (model X.prog X.w) (X.A.mark (some (.ref a))) (eval (.Name x np) X.env) P1 E1 { t with heap := h3 } := fun {x np c b P1 E1} hc z => by
      obtain ⟨g1, g2, g3⟩ := hc
      rcases g3 with g3 | ⟨g3, g4, g5⟩
      · exact ld_glob (X := X.suite a ((a, oe) :: (X.pn ++ pins))) Su g1 g3 z g2
      · exact ld_blt (X := X.suite a ((a, oe) :: (X.pn ++ pins))) Su g1 g3 g4 z g5 g2
    have LT : PySem.W.Looks (model X.prog X.w) h3 (typeOf (.ref a)) cls := fun _ _ _ _ kk z => wpAny_typeOf_ref (kk _ _ he) (by rw [hz.1]; exact z)
    induction hk with
    | nil =>
      intro w
      refine wpAny_handleBy_nil ?_
      obtain ⟨_, _, _, o2, v2, T2, oT, t2, e2, z2, d2, g2, r2⟩ := id fl
      unfold PySem.passOn
      refine wpAny_bind (wpAny_field e2 d2 g2 ?_)
      rw [if_neg (by simp)]
      have out : wpAny (model X.prog X.w) X.A (setFlight (.ref a) X.env.frame) (fun _ s4 => wpAny (model X.prog X.w) X.A (throw (.ref a) : Sem Flow) (SP X pins D) X.xe s4) X.xe { t with heap := h3 } := by
        rw [fr]
        refine HandSPX.setFlight_upZ fl fun h4 hh4 up4 => wpAny_throw (tk _ _ ?_)
        exact ⟨a, B, sI, pins, τ, G, cls, d, rfl, J1, nb, (up.trans up3).trans up4, .inr (.inr (by rw [st]; exact hh4)), na, os, ag, w⟩
      first
        | exact wpAny_bind (wpAny_pure (wpAny_bind out))
        | exact wpAny_bind out
    | @bare x c ts b₀ su np p hs2 l2 hc hsu r ih =>
      intro w
      obtain ⟨b, hb1, yes, no⟩ := w
      refine wpAny_handleBy_cons (codeAny_handlers_test ?_) (by intro q; cases q)
      refine tst (b := b) hc ((PySem.W.exm_one (M := model X.prog X.w) J3.kIn LT hb1).here ?_)
      match b with
      | false => exact ih (no rfl)
      | true =>
        refine codeAny_handlers_suite (HandSPX.lands_againZ fl fun h4 fl4 up4 => ?_)
        have J4 : Inv X pins τ G { t with heap := h4 } := J1.landed nb fl4.1 ((up.trans up3).trans up4) os ag
        obtain ⟨o4, v4, e4, z4, d4⟩ := fl4.there
        refine wpAny_mono ((hsu a o4 cls d (X.pn ++ pins) z4 ⟨_, d4⟩).run [] _ _ G _ (J4.suite e4 d4 na offL offS) (yes rfl a na)) (fun f s6 z => ?_) (fun _ _ z => z.elim)
        match f, z with
        | .next, ⟨_, _, S6, z⟩ => exact ⟨_, _, S6.unsuite okX, z⟩
        | .brk, ⟨_, _, S6, z⟩ => exact ⟨_, _, S6.unsuite okX, z⟩
        | .cont, ⟨_, _, S6, z⟩ => exact ⟨_, _, S6.unsuite okX, z⟩
        | .ret u, ⟨_, _, _, S6, r6, z⟩ => exact ⟨_, _, _, S6.unsuite okX, r6, z⟩
    | @named x n c i ts b₀ su np p hs2 l2 hN hi hn hc hsu r ih =>
      intro w
      obtain ⟨b, hb1, yes, no⟩ := w
      refine wpAny_handleBy_cons (codeAny_handlers_test ?_) (by intro q; cases q)
      refine tst (b := b) hc ((PySem.W.exm_one (M := model X.prog X.w) J3.kIn LT hb1).here ?_)
      match b with
      | false => exact ih (no rfl)
      | true =>
        refine codeAny_handlers_suite_as (HandSPX.lands_againZ fl fun h4 fl4 up4 => ?_)
        have J4 : Inv X pins τ G { t with heap := h4 } := J1.landed nb fl4.1 ((up.trans up3).trans up4) os ag
        obtain ⟨o4, v4, e4, z4, d4⟩ := fl4.there
        refine store_ok (X := X.suite a ((a, o4) :: (X.pn ++ pins))) (v := .ref a) (J4.suite e4 d4 na offL offS) hN hi (.inl hn) rfl (fun s5 S5 => ?_) (.inr hn)
        refine wpAny_mono ((hsu a o4 cls d (X.pn ++ pins) z4 ⟨_, d4⟩).run [] s5 _ G _ S5 (yes rfl a na)) (fun f s6 z => ?_) (fun _ _ z => z.elim)
        have fin : ∀ {σ6 : L2.St} {H6 : Hp} {Q : Shared → Prop}, Inv (X.suite a ((a, o4) :: (X.pn ++ pins))) [] σ6 H6 s6 → (∀ s7, Inv X pins (σ6.set i none) H6 s7 → Q s7) → wpAny (model X.prog X.w) X.A (do bindName X.env n .none; unbindBehindTheSuite X.env n p) (fun _ s7 => Q s7) X.xe s6 := fun S6 z => gone_ok (S6.unsuite okX) hN hi hn z
        match f, z with
        | .next, ⟨_, _, S6, z⟩ => exact fin S6 fun _ J7 => ⟨_, _, J7, z⟩
        | .brk, ⟨_, _, S6, z⟩ => exact fin S6 fun _ J7 => ⟨_, _, J7, z⟩
        | .cont, ⟨_, _, S6, z⟩ => exact fin S6 fun _ J7 => ⟨_, _, J7, z⟩
        | .ret u, ⟨_, _, _, S6, r6, z⟩ => exact fin S6 fun _ J7 => ⟨_, _, _, J7, r6, z⟩
  exact all hh w
end
end KW

set_option Elab.async false
set_option linter.all false
set_option maxRecDepth 100000
set_option maxHeartbeats 4000000
/-! Kw6: methods with defaults, tuples among the constants, {k: v}, max of three, slices of tuples, tuple() -/
namespace KW
open PySem PySem.Spec PyProof.Rows L2
structure MetAtD (K : Frag) (C : Addr) (m qual : Str) (st : Stmt) (ps : List Str) (dvs : List V) : Prop where
  ex : ∃ f, Meth K C m f ∧ DfnAt K m qual st ps dvs f
structure CalMD (P : Program) (w : World) (K : Frag) (mg : Str → Option Value) (base : Heap) (k : Nat) (C : Addr) (m : Str) (dvs : List V) (sp : Sp) : Prop where
  cls : Cls K C
  ex : ∃ (f : Addr) (fd : FuncData) (ps : List Str), Meth K C m f ∧ FnOk P w K mg base (L2N.CX P w) k f fd ps sp ∧ ∀ j, j ≤ dvs.length → ∃ ds, Vals (dvs.drop j) ds ∧ Binds K fd ps ds
section
variable {P : Program} {w : World} {K : Frag} {mg : Str → Option Value} {base : Heap}
theorem MetAtD.ok {C : Addr} {m qual : Str} {st : Stmt} {N ps : List Str} {dvs : List V} {k : Nat} {sp : Sp} (D : MetAtD K C m qual st ps dvs) (c : Cls K C) (S : FnScope N ps (defScope st)) (len : ∀ vs H Q E, sp vs H Q E → vs.length = ps.length)
    (hbody : ∀ (f : Addr) (cdv : Value) (A : Around) (outer : List Env) (s : Shared) (H : Hp) (vs : List V) (Q : VK) (E : XK), Room k (A.deeper (envOfC qual (defScope st) s.heap.objs.size f cdv)) → sp vs H Q E →
      ∃ t, PSs (cxOf (L2N.CX P w) P w K mg base N qual (defScope st) f cdv A outer s H E) (defBody st) t ∧ t { nx := fun _ H' => Q .non H', rt := Q } (start N vs) H) : CalMD P w K mg base (k + 1) C m dvs sp := by
  obtain ⟨f, M, D⟩ := D.ex
  obtain ⟨fd, F, hb⟩ := D.fn S len hbody
  exact ⟨c, f, fd, ps, M, F, hb⟩
/-- a method that is never called here -/
theorem MetAt.dead {C : Addr} {m qual : Str} {st : Stmt} {ps : List Str} {k : Nat} (D : MetAt K C m qual st ps) (c : Cls K C) : CalM P w K mg base k C m (fun _ _ _ _ => False) := by
  obtain ⟨f, M, fd, F, hb⟩ := D.ex
  obtain ⟨ds, hd, b⟩ := hb 0 (Nat.le_refl _)
  cases hd
  exact ⟨c, f, fd, ps, M, b, fun _ _ _ _ h => h.elim, fun _ _ _ _ _ _ _ _ _ _ _ _ _ h => h.elim⟩
theorem metAt_mkD {C f T : Addr} {m qual : Str} {st : Stmt} {ps : List Str} {oc : Value} {od an : Option Addr} {osl : Array (Option Value)} {kV doc pm cdv ct : Value} {dvs : List V} {its : List Value} {o : Obj} {n : Nat} (a : PySem.W.findIn K (.ref C) m = some (some (.ref f))) (fn : PySem.W.isFn K (.ref f) = true) (kp : PySem.W.keepIn K (.ref f) = true)
    (l : K.lookup f = some ⟨oc, od, .func (PySem.W.fnOf m qual (defArgs st) (defBody st) (defScope st) (.ref T) kV doc pm an cdv ct), osl⟩) (c : PySem.W.codeIn K cdv qual = true)
    (lT : K.lookup T = some o) (oT : o.data = .seq its.toArray n) (r : Vals dvs its) (hd : dvs ≠ []) (hl : dvs.length ≤ ps.length)
    (hb : ∀ j, j ≤ dvs.length → ∀ (T : Addr) (kV doc pm : Value) (an : Option Addr) (cdv ct : Value) (us its : List Value), us.length = ps.length - (dvs.length - j) → its.length = dvs.length →
      ∃ k, bindArgs (PySem.W.fnOf m qual (defArgs st) (defBody st) (defScope st) (.ref T) kV doc pm an cdv ct) ⟨us, []⟩ = seqItems? (.ref T) >>= k ∧ k (some its.toArray) = pure (ps.zip (us ++ its.drop j))) : MetAtD K C m qual st ps dvs := by
  have F : FunD K m qual (defArgs st) (defBody st) (defScope st) dvs [] f _ := ⟨⟨oc, od, .ref T, kV, doc, pm, an, cdv, ct, osl, rfl, l, c, .inr ⟨hd, T, o, its, n, rfl, lT, oT, r⟩, .inl rfl⟩, kp⟩
  exact ⟨f, ⟨a, fn, kp⟩, _, F, fun j hj => F.binds1 (ps.length - (dvs.length - j)) j hd (by omega) (hb j hj)⟩
end
/-- o.m(args), where the last ones are taken from the defaults -/
def uMetD (C : Addr) (m : Str) (sp : Sp) (dv : List V) (ta : TE) (t : TA) : TE := fun σ H Q => ta σ H fun x H1 => uMtD C m sp dv t σ x H1 Q
where uMtD (C : Addr) (m : Str) (sp : Sp) (dv : List V) (t : TA) (σ : L2.St) : V → Hp → VK → Prop
  | .ref a, H1, Q => ∃ dx fs, H1 a = some (.ins C dx fs) ∧ fs.lookup m = none ∧ t σ H1 fun vs H2 => sp (.ref a :: (vs ++ dv)) H2 Q E0
  | _, _, _ => False
theorem uMtD_e {C : Addr} {m : Str} {sp : Sp} {dv : List V} {t : TA} {σ : L2.St} {a : Addr} {H : Hp} {Q : VK} : uMetD.uMtD C m sp dv t σ (.ref a) H Q = ∃ dx fs, H a = some (.ins C dx fs) ∧ fs.lookup m = none ∧ t σ H fun vs H2 => sp (.ref a :: (vs ++ dv)) H2 Q E0 := rfl
section
variable {X : Cx} {k : Nat} {C : Addr} {m : Str} {sp : Sp} {o e : Expr} {es : List Expr} {ta : TE} {t : TA} {apos pos : Pos} {pl : Sem Bool} {dvs : List V}
theorem kmD (j : Nat) (c : CalMD X.prog X.w X.K X.mg X.base k C m dvs sp) (hr : Room k X.A) (he : PE X o ta) (ha : PA X (e :: es) t) (hj : j ≤ dvs.length := by decide)
    (hst : starEach (e :: es) X.env = (false, eval e X.env) :: starEach es X.env := by rfl) (hpl : (backTo pos (starEach es X.env)).any (·.1) = false := by rfl)
    (ht : eval (.Call (.Attribute o m apos) (e :: es) [] pos) X.env = (do
      let ov ← eval o X.env
      standAt apos.atName
      let (f, first) ← holding [ov] (getMethod ov m pl)
      callWith pos f first (backTo pos (starEach (e :: es) X.env)) (backToKw pos (keywordEach [] X.env))) := by rfl) :
    PE X (.Call (.Attribute o m apos) (e :: es) [] pos) (uMetD C m sp (dvs.drop j) ta t) := by
  obtain ⟨cl, f, fd, ps, hm, F, hb⟩ := c
  obtain ⟨ds, hd, b⟩ := hb j hj
  refine ⟨fun pins s σ H Q I h => ?_⟩
  refine PySem.W.methodCall_KW (pl := pl) (thn (he.run pins s σ H _ I h) fun u s1 ⟨x, H1, I1, rx, hu⟩ => ?_) ht
  cases x with
  | ref a =>
    obtain ⟨dx, fs, ea, l, q⟩ := hu
    obtain rfl : u = Value.ref a := rx
    refine getmeth_ok I1 ea cl hm l ?_
    refine PySem.W.callWith_K (h₀ := X.base) I.ok.mod.kin hm.kp (thn (ha.run pos pins s1 σ H1 _ I1 q) fun us s2 ⟨vs, H2, I2, r, q2⟩ => ⟨I2.kIn, ?_⟩) hst hpl
    exact run_fn (us := .ref a :: us) (vs := .ref a :: vs) F hr b hd pass0 I2 (.cons rfl r) q2
  | _ => exact hu.elim
end
/-! ### tuples among the constants -/
structure GT (K : Frag) (mg : Str → Option Value) (x : Str) (a : Addr) (xs : List V) : Prop where
  g : mg x = some (.ref a)
  sq : ∀ H, SqT K H a xs
theorem gt_mk {K : Frag} {mg : Str → Option Value} {x : Str} {a : Addr} {xs : List V} {o : Obj} {its : List Value} {n : Nat} (g : mg x = some (.ref a)) (l : K.lookup a = some o) (c : o.cls = .type "tuple") (d : o.data = .seq its.toArray n) (z : its.length ≤ 1000) (r : Vals xs its) : GT K mg x a xs :=
  ⟨g, fun H => .inr ⟨o, its.toArray, n, l, c, d, by rw [sizeLine_eq]; simp; omega, by simpa using r⟩⟩
theorem in_gt {K : Frag} {H : Hp} {l : Addr} {x : Str} {xs : List Str} {Q : VK} (h : SqT K H l (xs.map V.str)) (q : Q (.bl (decide (x ∈ xs))) H) : rIn K false (.str x) (.ref l) H Q := ⟨l, _, rfl, .inr h, rfl, flat_strs xs, by rw [inV_strs]; exact q⟩
/-! ### {k: v} -/
def uD1 (p : Addr) : V → V → Hp → VK → Prop
  | .int i, v, H, Q => H p = some (.dK []) ∧ Q (.ref p) (upd H p (.dK [(.inl i, v)]))
  | .str i, v, H, Q => H p = some (.dK []) ∧ Q (.ref p) (upd H p (.dK [(.inr i, v)]))
  | _, _, _, _ => False
theorem uD1_e1 {p : Addr} {i : Int} {v : V} {H : Hp} {Q : VK} : uD1 p (.int i) v H Q = (H p = some (.dK []) ∧ Q (.ref p) (upd H p (.dK [(.inl i, v)]))) := rfl
theorem uD1_e2 {p : Addr} {i : Str} {v : V} {H : Hp} {Q : VK} : uD1 p (.str i) v H Q = (H p = some (.dK []) ∧ Q (.ref p) (upd H p (.dK [(.inr i, v)]))) := rfl
def uDict1 (tk tv : TE) : TE := fun σ H Q => ∀ p, H p = none → tk σ (upd H p (.dK [])) fun k H2 => tv σ H2 fun v H3 => uD1 p k v H3 Q
section
variable {X : Cx}
theorem k_dict1 {k v : Expr} {tk tv : TE} {pos : Pos} (hk : PE X k tk) (hv : PE X v tv) : PE X (.Dict [some k] [v] pos) (uDict1 tk tv) := by
  refine ⟨fun pins s σ H Q I h => ?_⟩
  refine (pe_disp (pps_cons (PEw hk (t' := tk) fun _ _ _ h => h) (PEw hv (t' := tv) fun _ _ _ h => h) pps_nil) rfl rfl (by simp) (by simp)).run pins s σ H Q I fun p hp => ?_
  have h := h p hp
  have e : (fun k H2 => tv σ H2 fun v H3 => uD1 p k v H3 Q) = fun k H2 => tv σ H2 fun v H3 => H3 p = some (.dK []) ∧ ∃ kvs : List (Key × V), [(k, v)] = kvs.map (fun kv => (kV kv.1, kv.2)) ∧ kvs.length ≤ 15 ∧ Q (.ref p) (upd H3 p (.dK (mergeK [] kvs))) := by
    funext k H2
    refine congrArg (tv σ H2) ?_
    funext v H3
    apply propext
    constructor
    · intro h
      unfold uD1 at h
      split at h
      · exact ⟨h.1, [(.inl _, v)], rfl, by simp, h.2⟩
      · exact ⟨h.1, [(.inr _, v)], rfl, by simp, h.2⟩
      · exact h.elim
    · rintro ⟨h1, kvs, e, -, q⟩
      match kvs, e with
      | [(.inl i, v')], e =>
        simp only [List.map_cons, List.map_nil, List.cons.injEq, Prod.mk.injEq, and_true] at e
        obtain ⟨rfl, rfl⟩ := e
        exact ⟨h1, q⟩
      | [(.inr i, v')], e =>
        simp only [List.map_cons, List.map_nil, List.cons.injEq, Prod.mk.injEq, and_true] at e
        obtain ⟨rfl, rfl⟩ := e
        exact ⟨h1, q⟩
  rw [e] at h
  exact h
/-! ### max(a, b, c), slices, tuple() -/
def m2 (i j : Int) : Int := if i < j then j else i
def uMax3 : List V → Hp → VK → Prop
  | [.int i, .int j, .int k], H, Q => Q (.int (m2 (m2 i j) k)) H
  | _, _, _ => False
theorem uMax3_e {i j k : Int} {H : Hp} {Q : VK} : uMax3 [.int i, .int j, .int k] H Q = Q (.int (m2 (m2 i j) k)) H := rfl
theorem c_max3 (hc : X.calm = true) : CallR X (.builtin "max") uMax3 := CallRw (call_max3Nu hc) fun xs H Q h => by
  unfold uMax3 at h
  split at h
  · rename_i i j k
    refine ⟨.int i, .int j, .int k, .int (m2 (m2 i j) k), rfl, ?_, h⟩
    have e : ∀ i j : Int, nuMax2 (.int i) (.int j) = some (.int (m2 i j)) := fun i j => by
      unfold nuMax2 m2
      show (some (decide (i < j))).map _ = _
      by_cases c : i < j
      · simp [c]
      · simp [c]
    unfold nuMax3
    rw [e]
    exact e _ _
  · exact h.elim
def uSlA (K : Frag) : V → Option Int → Option Int → Hp → VK → Prop
  | .ref a, lo, hi, H, Q => rSlL K (.ref a) lo hi H Q ∨ rSlA K (.ref a) lo hi H Q
  | .str z, lo, hi, H, Q => z.length ≤ sizeLine ∧ Q (.str (cutS z lo hi)) H
  | _, _, _, _, _ => False
theorem uSlA_e1 {K : Frag} {a : Addr} {lo : Option Int} {hi : Option Int} {H : Hp} {Q : VK} : uSlA K (.ref a) lo hi H Q = (rSlL K (.ref a) lo hi H Q ∨ rSlA K (.ref a) lo hi H Q) := rfl
theorem uSlA_e2 {K : Frag} {z : Str} {lo : Option Int} {hi : Option Int} {H : Hp} {Q : VK} : uSlA K (.str z) lo hi H Q = (z.length ≤ sizeLine ∧ Q (.str (cutS z lo hi)) H) := rfl
theorem o_slA : SlR X (uSlA X.K) := SlRw (sl_list.or (sl_tupA.or sl_str)) fun x lo hi H Q h => by
  unfold uSlA at h
  split at h
  · exact h.elim .inl fun z => .inr (.inl z)
  · exact .inr (.inr ⟨_, rfl, h.1, h.2⟩)
  · exact h.elim
def uTuple (K : Frag) : List V → Hp → VK → Prop
  | [.ref p], H, Q => ∃ ys, (SqL K H p ys ∧ ∀ l, H l = none → Q (.ref l) (upd H l (.tup ys))) ∨ (SqT K H p ys ∧ Q (.ref p) H)
  | _, _, _ => False
theorem uTuple_e {K : Frag} {p : Addr} {H : Hp} {Q : VK} : uTuple K [.ref p] H Q = ∃ ys, (SqL K H p ys ∧ ∀ l, H l = none → Q (.ref l) (upd H l (.tup ys))) ∨ (SqT K H p ys ∧ Q (.ref p) H) := rfl
theorem c_tuple : CallR X (.type "tuple") (uTuple X.K) := CallRw call_tuple_of fun xs H Q h => by
  unfold uTuple at h
  split at h
  · obtain ⟨ys, h⟩ := h
    exact ⟨_, ys, rfl, h⟩
  · exact h.elim
def uLenDk : List V → Hp → VK → Prop
  | [.ref p], H, Q => ∃ kvs, H p = some (.dK kvs) ∧ Q (.int kvs.length) H
  | _, _, _ => False
theorem uLenDk_e {p : Addr} {H : Hp} {Q : VK} : uLenDk [.ref p] H Q = ∃ kvs, H p = some (.dK kvs) ∧ Q (.int kvs.length) H := rfl
theorem c_lenDk : CallR X (.builtin "len") uLenDk := CallRw call_lenD fun xs H Q h => by
  unfold uLenDk at h
  split at h
  · obtain ⟨kvs, h1, h2⟩ := h
    exact ⟨_, kvs, rfl, h1, h2⟩
  · exact h.elim
end
end KW

set_option Elab.async false
set_option linter.all false
set_option maxRecDepth 100000
set_option maxHeartbeats 4000000
/-! Kw8: for over a locked dict's keys, d[y] of a locked dict, a def under a second name, data compared -/
namespace KW
open PySem PySem.Spec PyProof.Rows L2
section
variable {X : Cx} {o i e value : Expr} {pos pos' tpos : Pos} {td ty tv : TE}
def uDGetF : V → V → Hp → VK → Prop
  | .ref a, .int i, H, Q => ∃ ob kvs v, H a = some (.frz ob (.dK kvs)) ∧ valV kvs (.inl i) = some v ∧ Q v H
  | _, _, _, _ => False
theorem uDGetF_of {x y : V} {H2 : Hp} {Q : VK} (q : uDGetF x y H2 Q) : ∃ a v, x = .ref a ∧ DGet H2 a y (some v) ∧ Q v H2 := by
  unfold uDGetF at q
  split at q
  · obtain ⟨ob, kvs, v, h1, h2, q⟩ := q
    exact ⟨_, v, rfl, .inl ⟨kvs, .inl _, .inr ⟨ob, h1⟩, rfl, h2.symm⟩, q⟩
  · exact q.elim
def tDGF (td ty : TE) : TE := fun σ H Q => td σ H fun x H1 => ty σ H1 fun y H2 => uDGetF x y H2 Q
theorem tDGF_eq {σ : L2.St} {H : Hp} {Q : VK} : tDGF td ty σ H Q = td σ H fun x H1 => ty σ H1 fun y H2 => uDGetF x y H2 Q := rfl
theorem k_dgetF (hu : X.A.units + 1 < cLine) (ho : PE X o td) (hi : PE X i ty) (hs : NoSl i := by intro _ _; rfl) : PE X (.Subscript o i pos) (tDGF td ty) := by
  refine ⟨fun pins s σ H Q I h => ?_⟩
  refine subD_of PySem.F.slot_dict_getitem.lookup hs (thn (ho.run pins s σ H _ I h) fun u s1 ⟨x, H1, I1, rx, q1⟩ => thn (hi.run pins s1 σ H1 _ I1 q1) fun iv s2 ⟨y, H2, I2, ry, q2⟩ => ?_)
  obtain ⟨a, v, ex, g, q5⟩ := uDGetF_of q2
  subst ex
  obtain rfl : u = Value.ref a := rx
  exact ⟨dict_typeIs I2 g, d_getItem hu I2 g ry fun w' s3 I3 rw' => ⟨v, H2, I3, rw', q5⟩⟩
end
theorem uDGetF_e1 {a : Addr} {i : Int} {H : Hp} {Q : VK} : uDGetF (.ref a) (.int i) H Q = (∃ ob kvs v, H a = some (.frz ob (.dK kvs)) ∧ valV kvs (.inl i) = some v ∧ Q v H) := rfl
theorem dgetF_i {a : Addr} {ob : Obj} {kvs : List (Key × V)} {v : V} {i : Int} {H : Hp} {Q : VK} (h : H a = some (.frz ob (.dK kvs))) (hv : valV kvs (.inl i) = some v) (q : Q v H) : uDGetF (.ref a) (.int i) H Q := ⟨ob, kvs, v, h, hv, q⟩
/-- for over the keys of a locked dict -/
theorem for_pk {d : Addr} {o : Obj} {kvs : List (Key × V)} {ks : List Int} {g : TG} {tb : TS} {D : Ends} {σ : L2.St} {H : Hp} (hk : kvs.map (·.1) = ks.map Sum.inl) (Pv : Nat → L2.St → Hp → Prop) (h0 : Pv 0 σ H)
    (hl : ∀ i σ H, i ≤ ks.length → Pv i σ H → H d = some (.frz o (.dK kvs)))
    (hs : ∀ i x σ H, ks[i]? = some x → Pv i σ H → g (.int x) σ H fun σ2 H2 => tb { D with nx := Pv (i + 1), ct := Pv (i + 1), bk := D.nx } σ2 H2) (hd : ∀ σ H, Pv ks.length σ H → D.nx σ H) : forK (Itk d o kvs) g tb D σ H := by
  have hle : kvs.length = ks.length := by
    have := congrArg List.length hk
    rwa [List.length_map, List.length_map] at this
  refine ⟨fun i m σ H => m = ks.length - i ∧ i ≤ ks.length ∧ Pv i σ H, ⟨ks.length, by simp, Nat.zero_le _, h0⟩, ?_⟩
  rintro i m σ H ⟨rfl, hi, p⟩
  have q := hl i σ H hi p
  by_cases hlt : i < ks.length
  · refine .inr ⟨⟨q, by omega⟩, Pv (i + 1), fun σ' H' p' => ⟨ks.length - (i + 1), by omega, rfl, hlt, p'⟩, fun x H' y => ?_⟩
    obtain ⟨e, k, v, hkv, rfl⟩ := y
    subst e
    have e3 : (kvs.map (·.1))[i]? = some k := by rw [List.getElem?_map, hkv]; rfl
    rw [hk, List.getElem?_map] at e3
    obtain ⟨x, hx⟩ : ∃ x, ks[i]? = some x := ⟨_, List.getElem?_eq_getElem hlt⟩
    rw [hx] at e3
    have e5 : Sum.inl x = k := Option.some.inj e3
    subst e5
    exact hs i x _ _ hx p
  · have e : i = ks.length := by omega
    subst e
    exact .inl ⟨⟨q, by omega⟩, hd σ H p⟩
theorem Fr.unl {l : List Addr} {H H' : Hp} {d : Addr} {u : HO} (h : H d = some u) (f : KW.Fr (d :: l) H H') : KW.Fr l H (L2.upd H' d u) := fun b o n e => by
  by_cases c : b = d
  · subst c; rw [upd_same, ← h]; exact e
  · rw [upd_ne c]
    exact f b o (by simp [c, n]) e
theorem Fr.lock {l : List Addr} {H H' : Hp} {d : Addr} {u v : HO} (h : H d = some u) (f : KW.Fr l (L2.upd H d v) H') : KW.Fr (d :: l) H H' := fun b o n e => by
  have c : b ≠ d := fun z => n (by simp [z])
  exact f b o (fun z => n (by simp [z])) (by rw [upd_ne c]; exact e)
theorem Fr.atN {H H' : Hp} {l : Addr} {o : HO} (f : KW.Fr [] H H') (h : H l = Option.none) : KW.Fr [] H (L2.upd H' l o) := fun b u n e => by
  rw [upd_ne (ne_of_none e h)]; exact f b u n e
theorem ixI {n j : Nat} {i : Int} (h : i = j) (hj : j < n) : ixN n i = some j := by
  subst h; unfold ixN; rw [if_pos (by omega), if_pos (by omega)]; rfl
theorem set_i {H : Hp} {p : Addr} {xs : List Int} {k z : Int} {j : Nat} {Q : Hp → Prop} (h : H p = some (.lst (xs.map V.int))) (e : k = j) (hj : j < xs.length) (q : Q (upd H p (.lst ((xs.set j z).map V.int)))) : uSet (.ref p) (.int k) (.int z) H Q :=
  set_l h (ixI e (by rw [List.length_map]; exact hj)) (by rw [← List.map_set]; exact q)
/-- a def under a second name -/
structure DefAtA (K : Frag) (mg : Str → Option Value) (al x qual : Str) (st : Stmt) (ps : List Str) : Prop where
  ex : ∃ (f : Addr) (fd : FuncData), mg al = some (.ref f) ∧ Fun K x qual st f fd ∧ Binds K fd ps []
section
variable {P : Program} {w : World} {K : Frag} {mg : Str → Option Value} {base : Heap}
theorem DefAtA.ok {al x qual : Str} {st : Stmt} {N ps : List Str} {k : Nat} {sp : Sp} (D : DefAtA K mg al x qual st ps) (S : FnScope N ps (defScope st)) (len : ∀ vs H Q E, sp vs H Q E → vs.length = ps.length)
    (hbody : ∀ (f : Addr) (cdv : Value) (A : Around) (outer : List Env) (s : Shared) (H : Hp) (vs : List V) (Q : VK) (E : XK), Room k (A.deeper (envOfC qual (defScope st) s.heap.objs.size f cdv)) → sp vs H Q E →
      ∃ t, PSs (cxOf (L2N.CX P w) P w K mg base N qual (defScope st) f cdv A outer s H E) (defBody st) t ∧ t { nx := fun _ H' => Q .non H', rt := Q } (start N vs) H) : Cal P w K mg base (k + 1) al sp := by
  obtain ⟨f, fd, hm, F, hb⟩ := D.ex
  refine ⟨f, fd, ps, hm, F.kp, hb, ?_⟩
  obtain ⟨oc, od, kV, doc, pm, an, cdv, ct, osl, rfl, lk, hcd⟩ := F.ex
  exact fn_of lk hcd S len fun A outer s H vs Q E hr hsp => hbody f cdv A outer s H vs Q E hr hsp
theorem defAtA_mk {al x qual : Str} {st : Stmt} {ps : List Str} {h : Heap} {f : Addr} {oc : Value} {od an : Option Addr} {osl : Array (Option Value)} {kV doc pm cdv ct : Value}
    (X : K.In h) (G : h.Ns mainGlobals mg) (a : PySem.W.nsIn K mainGlobals al = some (some (.ref f)))
    (l : K.lookup f = some ⟨oc, od, .func (PySem.W.fnOf x qual (defArgs st) (defBody st) (defScope st) .none kV doc pm an cdv ct), osl⟩) (c : PySem.W.codeIn K cdv qual = true) (k : PySem.W.keepIn K (.ref f) = true)
    (hb : ∀ (kV doc pm : Value) (an : Option Addr) (cdv ct : Value) (us : List Value), us.length = ps.length → bindArgs (PySem.W.fnOf x qual (defArgs st) (defBody st) (defScope st) .none kV doc pm an cdv ct) ⟨us, []⟩ = pure (ps.zip us)) : DefAtA K mg al x qual st ps := by
  have F := fun_mk (st := st) l c k
  exact ⟨f, _, PySem.W.mg_of X G a, F, F.binds hb⟩
end
/-! data compared -/
def vD : V → Option PyData
  | .int i => some (.int i)
  | .str x => some (.str x)
  | .bl b => some (.bool b)
  | .non => some .none
  | _ => none
theorem dp_flat {K : Frag} {H : Hp} {v : V} {d : PyData} (h : vD v = some d) : Dp K H v d := by
  cases v <;> simp only [vD, Option.some.injEq, reduceCtorEq] at h <;> subst h <;> constructor
theorem dpAll_flat {K : Frag} {H : Hp} : ∀ {vs : List V} {ds : List PyData}, vs.map vD = ds.map some → DpAll K H vs ds
  | [], [], _ => .nil
  | [], _ :: _, h => by cases h
  | _ :: _, [], h => by cases h
  | v :: vs, d :: ds, h => by
    simp only [List.map_cons, List.cons.injEq] at h
    exact .cons (dp_flat h.1) (dpAll_flat h.2)
theorem dpAll_ints {K : Frag} {H : Hp} (ns : List Int) : DpAll K H (ns.map V.int) (ns.map PyData.int) := dpAll_flat (by rw [List.map_map, List.map_map]; rfl)
theorem lay_ints (ns : List Int) : PyData.canLayAll0 (ns.map PyData.int) = true := by
  induction ns with
  | nil => rfl
  | cons n ns ih => rw [List.map_cons, PyData.canLayAll0, ih]; rfl
theorem dep_ints (ns : List Int) : PyData.depthAll (ns.map PyData.int) = 0 := by
  induction ns with
  | nil => rfl
  | cons n ns ih => rw [List.map_cons, PyData.depthAll, ih]; rfl
theorem eqv_sh {d : PyData} (h : SeqAt.shaped d = true) : PyData.eqv d d = true := SeqAt.eqv_refl_plain d (PyData.plain_of_canLay0 d (SeqAt.canLay_of_shaped h))
theorem neD_s {K : Frag} {x y : V} {H : Hp} {Q : VK} {d : PyData} (h1 : Dp K H x d) (h2 : Dp K H y d) (hs : SeqAt.shaped d = true) (q : Q (.bl false) H) : rNeD K x y H Q := ⟨d, d, h1, h2, hs, hs, by rw [eqv_sh hs]; exact q⟩
theorem eqD_s {K : Frag} {x y : V} {H : Hp} {Q : VK} {d : PyData} (h1 : Dp K H x d) (h2 : Dp K H y d) (hs : SeqAt.shaped d = true) (q : Q (.bl true) H) : rEqD K x y H Q := ⟨d, d, h1, h2, hs, hs, by rw [eqv_sh hs]; exact q⟩
theorem sh2 {x : Str} {n : Int} (h : PyData.canLay0 (.str x) = true) : SeqAt.shaped (.tuple [.str x, .int n]) = true := by
  have e : SeqAt.shaped (.tuple [.str x, .int n]) = ((PyData.canLay0 (.str x) && (true && true)) && decide (max 0 (max 0 0) + 1 ≤ 64)) := rfl
  rw [e, h]; decide
theorem sh3 {x : Str} {n m : Int} (h : PyData.canLay0 (.str x) = true) : SeqAt.shaped (.tuple [.str x, .int n, .int m]) = true := by
  have e : SeqAt.shaped (.tuple [.str x, .int n, .int m]) = ((PyData.canLay0 (.str x) && (true && (true && true))) && decide (max 0 (max 0 (max 0 0)) + 1 ≤ 64)) := rfl
  rw [e, h]; decide
theorem eqT_s {K : Frag} {p q : Addr} {xs ys : List V} {ds es : List PyData} {H : Hp} {Q : VK} (h1 : H p = some (.tup xs)) (h2 : H q = some (.tup ys)) (e1 : xs.map vD = ds.map some) (e2 : ys.map vD = es.map some) (h : Q (.bl (PyData.eqvAll ds es)) H) (s1 : SeqAt.shaped (.tuple ds) = true) (s2 : SeqAt.shaped (.tuple es) = true) : rEqD K (.ref p) (.ref q) H Q :=
  ⟨.tuple ds, .tuple es, .tup (.of h1) (dpAll_flat e1), .tup (.of h2) (dpAll_flat e2), s1, s2, by rw [PyData.eqv]; exact h⟩
end KW

set_option Elab.async false
set_option linter.all false
set_option maxRecDepth 100000
set_option maxHeartbeats 4000000
/-! Kw17: texts split and joined, comprehensions over texts, f-strings, membership of tuples, == by an own def -/
namespace KW
open PySem PySem.Spec PyProof.Rows L2 TL
/-! ### all(list of bools) -/
def uAll (K : Frag) : List V → Hp → VK → Prop
  | [.ref p], H, Q => ∃ bs : List Bool, SqL K H p (bs.map V.bl) ∧ Q (.bl (bs.all id)) H
  | _, _, _ => False
theorem uAll_e {K : Frag} {p : Addr} {H : Hp} {Q : VK} : uAll K [.ref p] H Q = ∃ bs : List Bool, SqL K H p (bs.map V.bl) ∧ Q (.bl (bs.all id)) H := rfl
theorem c_all {X : Cx} (hc : X.calm = true) : CallR X (.builtin "all") (uAll X.K) := CallRw (cr_all hc) fun xs H Q h => by
  unfold uAll at h
  split at h
  · obtain ⟨bs, hs, q⟩ := h
    exact ⟨_, bs, rfl, hs, q⟩
  · exact h.elim
/-! ### text by text -/
theorem its_at {l : List Nat} {i : Nat} {v : V} (h : ∃ c, (S l).cps[i]? = some c ∧ v = .str ⟨#[c]⟩) : ∃ c, l[i]? = some c ∧ v = .str (S [c]) := by
  obtain ⟨c, h1, h2⟩ := h
  refine ⟨c, ?_, h2⟩
  have : (S l).cps.toList[i]? = some c := by rw [Array.getElem?_toList]; exact h1
  exact this
theorem S_size (l : List Nat) : (S l).cps.size = l.length := by
  show l.toArray.size = _
  simp
/-- [.. for c in text], the items made without a change of the heap -/
theorem lc_sp {l : List Nat} {g : TG} {tt : TT} {te : TE} {vs : List Nat} {σ : L2.St} {H : Hp} {Q : VK} (f : Nat → Option V) (hz : l.length < sizeLine)
    (hs : ∀ (i c : Nat) (D : Addr) (acc : List V) (Cy : V → Hp → Prop) (Cn : Hp → Prop), l[i]? = some c → H D = none → (∀ y, f c = some y → Cy y (upd H D (.lst acc))) → (f c = none → Cn (upd H D (.lst acc))) →
      g (.str (S [c])) (wipe σ vs) (upd H D (.lst acc)) fun σ2 H2 => wipe σ2 vs = wipe σ vs ∧ tt σ2 H2 fun b H3 => if b = true then te σ2 H3 fun y H4 => Cy y H4 else Cn H3)
    (hq : ∀ D, H D = none → Q (.ref D) (upd H D (.lst (l.filterMap f)))) : lcK (Its (S l)) g tt te vs σ H Q := by
  intro D hD
  refine ⟨fun i m H' => m = l.length - i ∧ i ≤ l.length ∧ H' = upd H D (.lst ((l.take i).filterMap f)), ⟨l.length, by simp⟩, ?_⟩
  rintro i m H' ⟨rfl, hi, rfl⟩
  by_cases hlt : i < l.length
  · refine .inr ⟨by show i < _; rw [S_size]; exact hlt, fun H'' => H'' = upd H D (.lst ((l.take (i + 1)).filterMap f)), fun H'' e => ⟨l.length - (i + 1), by omega, rfl, hlt, e⟩, ?_⟩
    rintro x H' ⟨rfl, y⟩
    obtain ⟨c, hc, rfl⟩ := its_at y
    have et : l.take (i + 1) = l.take i ++ [c] := by rw [List.take_add_one, hc]; rfl
    refine hs i c D _ _ _ hc hD (fun y hy => ⟨_, upd_same, ?_, ?_⟩) fun hn => ?_
    · have h1 : ((l.take i).filterMap f).length ≤ (l.take i).length := List.length_filterMap_le _ _
      have h2 : (l.take i).length ≤ l.length := by rw [List.length_take]; omega
      omega
    · rw [upd_upd, et, List.filterMap_append]
      simp [hy]
    · rw [et, List.filterMap_append]
      simp [hn]
  · have e : i = l.length := by omega
    subst e
    refine .inl ⟨by show (S l).cps.size ≤ _; rw [S_size]; exact Nat.le_refl _, ?_⟩
    rw [List.take_length]
    exact hq D hD
/-- for c in text -/
theorem for_s {l : List Nat} {g : TG} {tb : TS} {D : Ends} {σ : L2.St} {H : Hp} (Pv : Nat → L2.St → Hp → Prop) (h0 : Pv 0 σ H)
    (hs : ∀ i c σ H, l[i]? = some c → Pv i σ H → g (.str (S [c])) σ H fun σ2 H2 => tb { D with nx := Pv (i + 1), ct := Pv (i + 1), bk := D.nx } σ2 H2) (hd : ∀ σ H, Pv l.length σ H → D.nx σ H) : forK (Its (S l)) g tb D σ H := by
  refine ⟨fun i m σ H => m = l.length - i ∧ i ≤ l.length ∧ Pv i σ H, ⟨l.length, rfl, Nat.zero_le _, h0⟩, ?_⟩
  rintro i m σ H ⟨rfl, hi, p⟩
  by_cases hlt : i < l.length
  · refine .inr ⟨by show i < _; rw [S_size]; exact hlt, Pv (i + 1), fun σ' H' p' => ⟨l.length - (i + 1), by omega, rfl, hlt, p'⟩, ?_⟩
    rintro x H' ⟨rfl, y⟩
    obtain ⟨c, hc, rfl⟩ := its_at y
    exact hs i c σ _ hc p
  · have e : i = l.length := by omega
    subst e
    exact .inl ⟨by show (S l).cps.size ≤ _; rw [S_size]; exact Nat.le_refl _, hd σ H p⟩
/-! ### words of a line -/
def wdsGo : List Nat → List Nat → List (List Nat)
  | acc, [] => [acc]
  | acc, c :: r => if c = 32 then acc :: wdsGo [] r else wdsGo (acc ++ [c]) r
def wds (l : List Nat) : List (List Nat) := wdsGo [] l
theorem wdsGo_spl : ∀ (l acc : List Nat), spl [32] 0 acc l = wdsGo acc l
  | [], acc => by rw [spl_nil]; rfl
  | c :: r, acc => by
    show (if pre [32] (c :: r) = true then acc :: spl [32] 0 [] r else spl [32] 0 (acc ++ [c]) r) = if c = 32 then acc :: wdsGo [] r else wdsGo (acc ++ [c]) r
    rw [wdsGo_spl r [], wdsGo_spl r (acc ++ [c])]
    have e : pre [32] (c :: r) = decide (c = 32) := by
      unfold pre
      simp only [List.length_cons, List.length_nil, List.take_succ_cons, List.take_zero]
      by_cases h : c = 32
      · subst h; rfl
      · rw [decide_eq_false h]
        simpa using h
    rw [e]
    by_cases h : c = 32 <;> simp [h]
theorem split_wds (l : List Nat) : (Txt.split (S l) (S [32])).map V.str = (wds l).map fun w => V.str (S w) := by
  have h := split_spl (S l) (S [32]) (by simp [tl, S, SX.S]) (kind_ok (by show ([32].toArray.all fun x => decide (x < 256)) = true; simp))
  have e : tl (S l) = l := rfl
  have e2 : tl (S [32]) = [32] := rfl
  rw [e, e2, wdsGo_spl] at h
  show _ = (wdsGo [] l).map _
  rw [← h, List.map_map]
  refine List.map_congr_left fun x _ => ?_
  show V.str x = V.str (S x.cps.toList)
  rw [S_tl]
theorem wdsGo_ne : ∀ (l acc : List Nat), wdsGo acc l ≠ []
  | [], _ => by simp [wdsGo]
  | c :: r, acc => by
    unfold wdsGo
    split
    · simp
    · exact wdsGo_ne r _
theorem wds_ne (l : List Nat) : wds l ≠ [] := wdsGo_ne l []
theorem wdsGo_len : ∀ (l acc : List Nat), (wdsGo acc l).length ≤ l.length + 1
  | [], _ => by simp [wdsGo]
  | c :: r, acc => by
    unfold wdsGo
    split
    · have := wdsGo_len r []; simp only [List.length_cons]; omega
    · have := wdsGo_len r (acc ++ [c]); simp only [List.length_cons]; omega
theorem wds_len (l : List Nat) : (wds l).length ≤ l.length + 1 := wdsGo_len l []
theorem wds_pos (l : List Nat) : 0 < (wds l).length := List.length_pos_iff.mpr (wds_ne l)
theorem wdsGo_sum : ∀ (l acc : List Nat), ((wdsGo acc l).map List.length).sum + (wdsGo acc l).length = acc.length + l.length + 1
  | [], acc => by simp [wdsGo]
  | c :: r, acc => by
    unfold wdsGo
    split
    · have := wdsGo_sum r []
      simp only [List.map_cons, List.sum_cons, List.length_cons] at this ⊢
      simp only [List.length_nil] at this
      omega
    · have := wdsGo_sum r (acc ++ [c])
      simp only [List.length_append, List.length_cons, List.length_nil] at this ⊢
      omega
theorem wds_sum (l : List Nat) : ((wds l).map List.length).sum + (wds l).length = l.length + 1 := by
  have := wdsGo_sum l []
  simp only [List.length_nil] at this
  show ((wdsGo [] l).map List.length).sum + (wdsGo [] l).length = _
  omega
theorem len_le_sum : ∀ {ws : List (List Nat)} {w : List Nat}, w ∈ ws → w.length ≤ (ws.map List.length).sum
  | a :: r, w, h => by
    simp only [List.map_cons, List.sum_cons]
    rcases List.mem_cons.mp h with rfl | h
    · omega
    · have := len_le_sum h; omega
theorem wds_le {l w : List Nat} (h : w ∈ wds l) : w.length ≤ l.length := by
  have h1 := len_le_sum h
  have h2 := wds_sum l
  have h3 := wds_pos l
  omega
theorem split_w {l : List Nat} {H : Hp} {Q : VK} (q : ∀ p, H p = none → Q (.ref p) (upd H p (.lst ((wds l).map fun w => .str (S w))))) : rNewStrs (Txt.split (S l) (S [32])) H Q := fun p hp => by
  rw [split_wds]
  exact q p hp
/-! ### a text within a tuple, None within a list -/
section
variable {K : Frag} {H : Hp} {l : Addr} {Q : VK}
theorem in_ts {x : Str} {xs : List Str} (h : H l = some (.tup (xs.map V.str))) (q : Q (.bl (decide (x ∈ xs))) H) : rIn K false (.str x) (.ref l) H Q := ⟨l, _, rfl, .inr (.of h), rfl, flat_strs xs, by rw [inV_strs]; exact q⟩
theorem nin_ts {x : Str} {xs : List Str} (h : H l = some (.tup (xs.map V.str))) (q : Q (.bl (!decide (x ∈ xs))) H) : rIn K true (.str x) (.ref l) H Q := ⟨l, _, rfl, .inr (.of h), rfl, flat_strs xs, by rw [inV_strs]; exact q⟩
/-- an int or None -/
def oV : Option Int → V
  | some i => .int i
  | none => .non
theorem flat_oV (xs : List (Option Int)) : (xs.map oV).all flatV = true := by
  rw [List.all_map, List.all_eq_true]
  rintro (_ | i) _ <;> rfl
theorem inV_oV : ∀ xs : List (Option Int), inV .non (xs.map oV) = decide (Option.none ∈ xs)
  | [] => rfl
  | a :: r => by
    show (eqV (oV a) .non || inV .non (r.map oV)) = _
    rw [inV_oV r]
    cases a with
    | none => simp [oV, eqV]
    | some i => simp [oV, eqV]
theorem in_non {xs : List (Option Int)} (h : H l = some (.lst (xs.map oV))) (q : Q (.bl (decide (Option.none ∈ xs))) H) : rIn K false .non (.ref l) H Q := ⟨l, _, rfl, .inl (.of h), rfl, flat_oV xs, by rw [inV_oV]; exact q⟩
end
/-! ### a tuple within a tuple -/
def rInT (K : Frag) (neg : Bool) : R2 := fun x y H Q => ∃ d ds, Dp K H x d ∧ (Dp K H y (.tuple ds) ∧ SeqAt.shaped (.tuple ds) = true ∨ Dp K H y (.list ds) ∧ SeqAt.shaped (.list ds) = true) ∧ SeqAt.shaped d = true ∧ Q (.bl (if neg then !ds.any fun z => PyData.eqv z d else ds.any fun z => PyData.eqv z d)) H
section
variable {X : Cx}
theorem tup_shaped {ds : List PyData} (h : SeqAt.shaped (.tuple ds) = true) : SeqAt.shaped (.list ds) = true := by
  revert h
  simp only [SeqAt.shaped, PyData.canLay0, PyData.depth]
  exact id
theorem op_inT (hu : X.A.units + 65 < cLine) : OpR X (compareOp .In) (rInT X.K false) := by
  intro pins s σ H x y v u Q I rx ry h
  obtain ⟨d, ds, hd, he, sd, q⟩ := h
  obtain ⟨as, r1⟩ := Dp.reads I d x v hd rx
  rcases he with ⟨he, se⟩ | ⟨he, se⟩
  · obtain ⟨bs, r2⟩ := Dp.reads I (.tuple ds) y u he ry
    have se := tup_shaped se
    exact SeqAt.in_tuple_reads r2 r1 (SeqAt.canLay_of_shaped se) (SeqAt.canLay_of_shaped sd) (room_in_shaped sd hu) ⟨.bl _, H, I, rfl, q⟩
  · obtain ⟨bs, r2⟩ := Dp.reads I (.list ds) y u he ry
    exact SeqAt.in_list_reads r2 r1 (SeqAt.canLay_of_shaped se) (SeqAt.canLay_of_shaped sd) (room_in_shaped sd hu) ⟨.bl _, H, I, rfl, q⟩
theorem op_ninT (hu : X.A.units + 65 < cLine) : OpR X (compareOp .NotIn) (rInT X.K true) := by
  intro pins s σ H x y v u Q I rx ry h
  obtain ⟨d, ds, hd, he, sd, q⟩ := h
  obtain ⟨as, r1⟩ := Dp.reads I d x v hd rx
  rcases he with ⟨he, se⟩ | ⟨he, se⟩
  · obtain ⟨bs, r2⟩ := Dp.reads I (.tuple ds) y u he ry
    have se := tup_shaped se
    exact SeqAt.notIn_tuple_reads r2 r1 (SeqAt.canLay_of_shaped se) (SeqAt.canLay_of_shaped sd) (room_in_shaped sd hu) ⟨.bl _, H, I, rfl, q⟩
  · obtain ⟨bs, r2⟩ := Dp.reads I (.list ds) y u he ry
    exact SeqAt.notIn_list_reads r2 r1 (SeqAt.canLay_of_shaped se) (SeqAt.canLay_of_shaped sd) (room_in_shaped sd hu) ⟨.bl _, H, I, rfl, q⟩
end
/-! ### == by an own def -/
def uEqO (C : Addr) (sp : Sp) : R2
  | .ref a, .ref b, H, Q => ∃ dx dy fs gs, H a = some (.ins C dx fs) ∧ H b = some (.ins C dy gs) ∧ sp [.ref a, .ref b] H (fun v H' => ∃ c, v = .bl c ∧ Q (.bl c) H') E0
  | _, _, _, _ => False
theorem uEqO_e {C : Addr} {sp : Sp} {a b : Addr} {H : Hp} {Q : VK} : uEqO C sp (.ref a) (.ref b) H Q = ∃ dx dy fs gs, H a = some (.ins C dx fs) ∧ H b = some (.ins C dy gs) ∧ sp [.ref a, .ref b] H (fun v H' => ∃ c, v = .bl c ∧ Q (.bl c) H') E0 := rfl
theorem o_eqO {X : Cx} {k : Nat} {C : Addr} {sp : Sp} (c : CalM X.prog X.w X.K X.mg X.base k C "__eq__" sp) (hr : Room k X.A) (hn : PySem.W.notFirst X.K C (.ref C) = true) : OpR X (compareOp .Eq) (uEqO C sp) := by
  intro pins s σ H x y v u Q I rx ry h
  unfold uEqO at h
  split at h
  · rename_i a b
    obtain ⟨dx, dy, fs, gs, ha, hb', hs⟩ := h
    obtain ⟨cl, f, fd, ps, hm, hb, F⟩ := c
    cases rx
    cases ry
    obtain ⟨mA, J, _⟩ := ins_get I.hok ha
    obtain ⟨mB, J', _⟩ := ins_get I.hok hb'
    obtain ⟨od, J, _⟩ := J.look
    obtain ⟨od', J', _⟩ := J'.look
    obtain ⟨m, hF⟩ := I.fr
    show wpAny (model X.prog X.w) X.A (richCompare .Eq (.ref a) (.ref b)) (EP X pins σ Q) X.xe s
    refine PySem.W.cmp_K (op := .Eq) (tb := .ref C) hr.units0 hF I.ok.mod.kin J J'.type hn hm.at_ hm.fn ?_
    refine thn (run_fnS (E := fun _ => E0) (us := [.ref a, .ref b]) (vs := [.ref a, .ref b]) F hr hb passAt0 I (.cons rfl (.cons rfl .nil)) hs) fun w s' hq => ?_
    obtain ⟨z, H', I', rz, c, rfl, q⟩ := hq
    cases rz
    exact ⟨.bl c, H', I', rfl, q⟩
  · exact h.elim
/-! ### f-strings -/
/-- {x}: a text or an int -/
def uFm : V → Hp → VK → Prop
  | .str y, H, Q => y.length ≤ sizeLine ∧ Q (.str y) H
  | .int i, H, Q => i.natAbs.log2 < 1920 ∧ Q (.str (toString i)) H
  | _, _, _ => False
theorem uFm_e1 {y : Str} {H : Hp} {Q : VK} : uFm (.str y) H Q = (y.length ≤ sizeLine ∧ Q (.str y) H) := rfl
theorem uFm_e2 {i : Int} {H : Hp} {Q : VK} : uFm (.int i) H Q = (i.natAbs.log2 < 1920 ∧ Q (.str (toString i)) H) := rfl
def tFm (t : TE) : TE := fun σ H Q => t σ H fun x H1 => uFm x H1 Q
theorem k_fmt {X : Cx} {e : Expr} {te : TE} {pos : Pos} (he : PE X e te) : PE X (.FormattedValue e (-1) none pos) (tFm te) := by
  refine PEw (pe_fmt he) fun σ H Q h => ?_
  unfold tFm at h
  unfold tFmt
  have e : (fun (x : V) (H1 : Hp) => uFm x H1 Q) = fun x H1 => (∃ y : Str, x = .str y ∧ y.length ≤ sizeLine ∧ Q (.str y) H1) ∨ ∃ i : Int, x = .int i ∧ i.natAbs.log2 < 1920 ∧ Q (.str (toString i)) H1 := by
    funext x H1
    cases x <;> simp [uFm]
  rw [e] at h
  exact h
theorem log_sm {i : Int} (h : i.natAbs < 10 ^ 18) : i.natAbs.log2 < 1920 := by
  by_cases z : i.natAbs = 0
  · rw [z]; decide
  · refine (Nat.log2_lt z).mpr (Nat.lt_trans h ?_)
    decide +kernel
/-- the text of a small int -/
def itxt (i : Int) : List Nat := (Str.ofString (toString i)).cps.toList
theorem itxt_S (i : Int) : (toString i : Str) = S (itxt i) := (S_tl _).symm
theorem itxt_len {i : Int} (h : i.natAbs < 10 ^ 18) : (itxt i).length ≤ 19 := by
  have h1 := PySem.int_text_length_le10 (k := 18) (by decide) h
  have e : (itxt i).length = (Str.ofString (toString i)).length := by
    unfold itxt
    rw [Array.length_toList]
    rfl
  rw [e, PySem.ofString_length]
  exact h1
/-! ### a list unpacked -/
theorem unl_l {K : Frag} {n : Nat} {t : TGs} {a : Addr} {xs : List V} {σ : L2.St} {H : Hp} {Q : L2.St → Hp → Prop} (h : H a = some (.lst xs)) (hn : xs.length = n) (q : t xs σ H Q) : gUnl K n t (.ref a) σ H Q := ⟨a, xs, rfl, .of h, hn, q⟩
/-! ### int(v) of ints, bools and texts -/
def uIntS : List V → Hp → VK → Prop
  | [.int i], H, Q => Q (.int i) H
  | [.bl k], H, Q => Q (.int (if k then 1 else 0)) H
  | [.str x], H, Q => ∃ n, PySem.intText? x = some n ∧ x.length ≤ 640 ∧ Q (.int n) H
  | _, _, _ => False
theorem uIntS_e1 {i : Int} {H : Hp} {Q : VK} : uIntS [.int i] H Q = Q (.int i) H := rfl
theorem uIntS_e2 {k : Bool} {H : Hp} {Q : VK} : uIntS [.bl k] H Q = Q (.int (if k then 1 else 0)) H := rfl
theorem uIntS_e3 {x : Str} {H : Hp} {Q : VK} : uIntS [.str x] H Q = ∃ n, PySem.intText? x = some n ∧ x.length ≤ 640 ∧ Q (.int n) H := rfl
theorem c_intS {X : Cx} : CallR X (.type "int") uIntS := CallRw (r := fun xs H Q => uInt xs H Q ∨ ∃ a n, xs = [.str a] ∧ PySem.intText? a = some n ∧ a.length ≤ 640 ∧ Q (.int n) H) (by
  intro pins s σ H xs us Q I r h
  rcases h with h | h
  · exact c_int pins s σ H xs us Q I r h
  · exact call_int_str pins s σ H xs us Q I r h) fun xs H Q h => by
  unfold uIntS at h
  split at h
  · exact .inl h
  · exact .inl h
  · obtain ⟨n, h1, h2, q⟩ := h
    exact .inr ⟨_, n, rfl, h1, h2, q⟩
  · exact h.elim
/-! ### a digit's place -/
theorem dig_occ {c : Nat} (h : 48 ≤ c ∧ c ≤ 57) : Builtin.Str.occurrences (S [48, 49, 50, 51, 52, 53, 54, 55, 56, 57]) (S [c]) 0 10 1 = [c - 48] := by
  have : c = 48 ∨ c = 49 ∨ c = 50 ∨ c = 51 ∨ c = 52 ∨ c = 53 ∨ c = 54 ∨ c = 55 ∨ c = 56 ∨ c = 57 := by omega
  rcases this with h | h | h | h | h | h | h | h | h | h <;> subst h <;> decide +kernel
/-! ### isinstance(o, C) of an own class that it is of -/
structure InsA (K : Frag) (C : Addr) : Prop where
  ha : PySem.W.findIn K (.ref C) "__class__" = some (some (.builtin "object.__class__"))
  hn : PySem.W.specialIn K (.builtin "object.__class__") "__get__" = some (some (.builtin "getset_descriptor.__get__"))
  htk : PySem.W.takesIn K (.builtin "object.__class__") = some true
  hm : PySem.W.mroIn K C (.type "object") = some true
  me : PySem.W.kitOne K (.ref C) (.ref C) = some true
def uIsO (K : Frag) : List V → Hp → VK → Prop
  | [.ref a, .ref C], H, Q => ∃ dx fs, H a = some (.ins C dx fs) ∧ Q (.bl true) H
  | _, _, _ => False
theorem uIsO_e {K : Frag} {a C : Addr} {H : Hp} {Q : VK} : uIsO K [.ref a, .ref C] H Q = ∃ dx fs, H a = some (.ins C dx fs) ∧ Q (.bl true) H := rfl
theorem c_isO {X : Cx} {C : Addr} (q : InsA X.K C) (c : Cls X.K C) : CallR X (.builtin "isinstance") (fun xs H Q => ∃ a, xs = [.ref a, .ref C] ∧ ∃ dx fs, H a = some (.ins C dx fs) ∧ Q (.bl true) H) := CallRw (C8.call_isC ⟨c, q.ha, q.hn, q.htk, q.hm, q.me⟩) fun xs H Q h => by
  obtain ⟨a, e, dx, fs, h1, q⟩ := h
  exact ⟨a, dx, fs, e, h1, q⟩
theorem _root_.L2.Room.units65 {k : Nat} {A : Around} (r : Room k A) : A.units + 65 < cLine := by have := r.un; omega
end KW

set_option Elab.async false
set_option linter.all false
set_option maxRecDepth 100000
set_option maxHeartbeats 4000000
/-! Kw18: texts put together, their sizes -/
namespace KW
open PySem PySem.Spec PyProof.Rows L2
/-- a text of at most n signs, all of them signs -/
structure Sm (n : Nat) (l : List Nat) : Prop where
  len : l.length ≤ n
  cps : ∀ c ∈ l, c < 1114112
theorem Sm.mono {n m : Nat} {l : List Nat} (h : Sm n l) (e : n ≤ m) : Sm m l := ⟨Nat.le_trans h.len e, h.cps⟩
theorem Sm.app {n m : Nat} {a b : List Nat} (h : Sm n a) (k : Sm m b) : Sm (n + m) (a ++ b) :=
  ⟨by rw [List.length_append]; exact Nat.add_le_add h.len k.len, fun c hc => (List.mem_append.mp hc).elim (h.cps c) (k.cps c)⟩
theorem Sm.lit {l : List Nat} (h : l.all (· < 1114112) = true) : Sm l.length l := ⟨Nat.le_refl _, fun c hc => by
  have := List.all_eq_true.mp h c hc
  exact of_decide_eq_true this⟩
theorem itxt_cps (i : Int) : ∀ c ∈ itxt i, c < 128 := by
  intro c hc
  unfold itxt at hc
  rw [Str.ofString_eq_toList] at hc
  obtain ⟨d, hd, rfl⟩ := List.mem_map.mp (by simpa using hc : c ∈ (toString i).toList.map Char.toNat)
  exact int_ascii i d hd
theorem Sm.int {i : Int} (h1 : -100000000000000000 < i) (h2 : i < 100000000000000000) : Sm 19 (itxt i) :=
  ⟨itxt_len (by omega), fun c hc => Nat.lt_trans (itxt_cps i c hc) (by decide)⟩
theorem Sm.line {n : Nat} {l : List Nat} (h : Sm n l) (e : n ≤ 16000000) : l.length ≤ sizeLine := le_line (Nat.le_trans h.len e)
theorem S_e (a : List Nat) : Str.empty ++ S a = S a := by
  rw [show (Str.empty : Str) = S [] from rfl, S_cat]; rfl
theorem log_smI {i : Int} (h1 : -100000000000000000 < i) (h2 : i < 100000000000000000) : i.natAbs.log2 < 1920 := log_sm (by omega)
end KW

set_option Elab.async false
set_option linter.all false
set_option maxRecDepth 100000
set_option maxHeartbeats 4000000
/-! Kw19: an own def whose body gives out a token (replace); comprehensions over tuples -/
namespace KW
open PySem PySem.Spec PyProof.Rows L2
section
variable {P : Program} {w : World} {K : Frag} {mg : Str → Option Value} {base : Heap}
theorem DefAt.okT {x qual : Str} {st : Stmt} {N ps : List Str} {k : Nat} {sp : Sp} (D : DefAt K mg x qual st ps) (S : FnScope N ps (defScope st)) (hnc : ∀ y ∈ (defScope st).names, y.2 ≠ .cell) (hps : 1 ≤ ps.length) (len : ∀ vs H Q E, sp vs H Q E → vs.length = ps.length)
    (hbody : ∀ (f : Addr) (cdv : Value) (A : Around) (outer : List Env) (s : Shared) (H : Hp) (vs : List V) (Q : VK) (E : XK), Room k (A.deeper (envOfC qual (defScope st) s.heap.objs.size f cdv)) → sp vs H Q E →
      ∃ t, PSsT (cxOf (L2N.CX P w) P w K mg base N qual (defScope st) f cdv A outer s H E) (defBody st) t ∧ t { nx := fun _ H' => Q .non H', rt := Q } (start N vs) H) : Cal P w K mg base (k + 1) x sp := by
  obtain ⟨f, fd, hm, F, hb⟩ := D.ex
  refine ⟨f, fd, ps, hm, F.kp, hb, ?_⟩
  obtain ⟨oc, od, kV, doc, pm, an, cdv, ct, osl, rfl, lk, hcd⟩ := F.ex
  exact fn_ofT lk hcd S hnc hps len fun A outer s H vs Q E hr hsp => hbody f cdv A outer s H vs Q E hr hsp
end
theorem iTup_e {K : Frag} {tl : TE} {σ : L2.St} {H : Hp} {R : It → Hp → Prop} : iTup K tl σ H R = tl σ H fun x H1 => ∃ a, x = .ref a ∧ (∃ xs, SqT K H1 a xs) ∧ R (Itt K a) H1 := rfl
theorem lc_ft {α : Type} {K : Frag} {a : Addr} {xs : List α} {F : α → V} {g : TG} {tt : TT} {te : TE} {vs : List Nat} {σ : L2.St} {H : Hp} {Q : VK} (f : α → Option V) (hS : H a = some (.tup (xs.map F))) (hz : xs.length < sizeLine)
    (hs : ∀ (i : Nat) (x : α) (D : Addr) (acc : List V) (Cy : V → Hp → Prop) (Cn : Hp → Prop), xs[i]? = some x → H D = none → (∀ y, f x = some y → Cy y (upd H D (.lst acc))) → (f x = none → Cn (upd H D (.lst acc))) →
      g (F x) (wipe σ vs) (upd H D (.lst acc)) fun σ2 H2 => wipe σ2 vs = wipe σ vs ∧ tt σ2 H2 fun b H3 => if b = true then te σ2 H3 fun y H4 => Cy y H4 else Cn H3)
    (hq : ∀ D, H D = none → Q (.ref D) (upd H D (.lst (xs.filterMap f)))) : lcK (Itt K a) g tt te vs σ H Q := by
  intro D hD
  refine ⟨fun i m H' => m = xs.length - i ∧ i ≤ xs.length ∧ H' = upd H D (.lst ((xs.take i).filterMap f)), ⟨xs.length, by simp⟩, ?_⟩
  rintro i m H' ⟨rfl, hi, rfl⟩
  have q : SqT K (upd H D (.lst ((xs.take i).filterMap f))) a (xs.map F) := .of ((upd_ne (ne_of_none hS hD)).trans hS)
  by_cases hlt : i < xs.length
  · refine .inr ⟨⟨_, F xs[i], q, by simp [hlt]⟩, fun H'' => H'' = upd H D (.lst ((xs.take (i + 1)).filterMap f)), fun H'' e => ⟨xs.length - (i + 1), by omega, rfl, hlt, e⟩, fun x H' y => ?_⟩
    obtain ⟨e, y⟩ := y
    subst e
    have hx := y _ q
    obtain ⟨z, hz1⟩ : ∃ z, xs[i]? = some z := ⟨_, List.getElem?_eq_getElem hlt⟩
    rw [List.getElem?_map, hz1] at hx
    cases hx
    have et : xs.take (i + 1) = xs.take i ++ [z] := by
      rw [List.take_add_one, hz1]; rfl
    refine hs i z D _ _ _ hz1 hD (fun y hy => ⟨_, upd_same, ?_, ?_⟩) fun hn => ?_
    · have h1 : ((xs.take i).filterMap f).length ≤ (xs.take i).length := List.length_filterMap_le _ _
      have h2 : (xs.take i).length ≤ xs.length := by rw [List.length_take]; omega
      omega
    · rw [upd_upd, et, List.filterMap_append]
      simp [hy]
    · rw [et, List.filterMap_append]
      simp [hn]
  · have e : i = xs.length := by omega
    subst e
    refine .inl ⟨⟨_, q, by simp⟩, ?_⟩
    rw [List.take_length]
    exact hq D hD
end KW

set_option Elab.async false
set_option linter.all false
set_option maxRecDepth 100000
set_option maxHeartbeats 4000000
namespace PySem
namespace KErr_at
open PySem.W PySem.Calls PyProof.Rows PySem.HandSPX PySem.KErr
def eA (p1 p2 : Pos) : Arguments := { posonlyargs := [], args := [{ arg := "self", annotation := none, pos := p1 }, { arg := "at", annotation := none, pos := p2 }], vararg := none, kwonlyargs := [], kw_defaults := [], kwarg := none, defaults := [] }
def eB (q : Nat → Pos) : List Stmt := [
  .Expr (.Call (.Attribute (.Call (.Name "super" (q 0)) [] [] (q 1)) "__init__" (q 2)) [.Call (.Name "str" (q 3)) [.Name "at" (q 4)] [] (q 5)] [] (q 6)) (q 7),
  .Assign [.Attribute (.Name "self" (q 8)) "at" (q 9)] (.Name "at" (q 10)) (q 11)]
def eS : Scope := { kind := .function, names := [(PySem.Str.ofString "self", .local), (PySem.Str.ofString "at", .local), (PySem.Str.ofString "__class__", .free), (PySem.Str.ofString "super", .globalImplicit), (PySem.Str.ofString "str", .globalImplicit)], isGenerator := false, isCoroutine := false, more := [] }
def MC (q : Nat → Pos) : Prop := ∀ env : Env, ∃ pl : Sem Bool, eval (.Call (.Attribute (.Call (.Name "super" (q 0)) [] [] (q 1)) "__init__" (q 2)) [.Call (.Name "str" (q 3)) [.Name "at" (q 4)] [] (q 5)] [] (q 6)) env = (do
      let ov ← attributeBase (.Call (.Name "super" (q 0)) [] [] (q 1)) "__init__" env (eval (.Call (.Name "super" (q 0)) [] [] (q 1)) env)
      standAt (q 2).atName
      let (f, first) ← holding [ov] (getMethod ov "__init__" pl)
      callWith (q 6) f first (backTo (q 6) (starEach [.Call (.Name "str" (q 3)) [.Name "at" (q 4)] [] (q 5)] env)) [])
def AC (q : Nat → Pos) : Prop := ∀ env : Env, swapsWith (.Name "at" (q 10)) (some (.Attribute (.Name "self" (q 8)) "at" (q 9))) (q 11).line env = pure false
/-- what the top leaves of the class x with the one field -/
structure ErrTxt (prog : Program) (K : Frag) (mg : Str → Option Value) (x qual : Str) (C fI cc cda : Addr) : Prop where
  gC : mg x = some (.ref C)
  cls : ∃ nm q N bs bm sn sub ab col dd k0 k1 k2 k3 k5, K.lookup C = some (excClassObj nm q C N bs bm true sn sub ab col dd k0 k1 k2 k3 k5 "ValueError.__new__") ∧ refsVE bm = true
  sup : ks_superIn K C C "__init__" = some (some (.builtin "ValueError.__init__"))
  sa : findIn K (.ref C) "__setattr__" = some (some (.builtin "object.__setattr__"))
  noN : findIn K (.ref C) "at" = some none
  iC : findIn K (.ref C) "__init__" = some (some (.ref fI))
  tC : typeIn K (.ref fI) = some (.type "function")
  kC : keepIn K (.ref C) = true
  exC : subIn K (.ref C) (.type "BaseException") = some true
  veC : subIn K (.ref C) (.type "ValueError") = some true
  tyC : typeIn K (.ref C) = some (.type "type")
  own : mroIn K C (.ref C) = some true
  tp : nsIn K cStatics "thirdparty.any" = some none
  dg : nsIn K cStatics "sys.int_max_str_digits" = some none
  nsup : mg "super" = none
  nstr : mg "str" = none
  fn : ∃ (oc : Value) (od : Option Addr) (doc pm : Value) (an : Option Addr) (ct : Value) (osl : Array (Option Value)) (p1 p2 : Pos) (q : Nat → Pos),
    K.lookup fI = some ⟨oc, od, .func (ksFn "__init__" qual (eA p1 p2) (eB q) eS .none .none doc pm an (.ref cda) ct cc), osl⟩ ∧ codeIn K (.ref cda) qual = true ∧ MC q ∧ AC q
  cell : ∃ cl cld csl, K.lookup cc = some ⟨cl, cld, .cell (some (.ref C)), csl⟩
  code : ∃ ccl cdd vs ccs file tf, K.lookup cda = some ⟨ccl, cdd, .fields vs, ccs⟩ ∧ vs[2]? = some (.str file tf) ∧ ((prog.main.file : Str) == file) = true
  top : (prog.main.scope.names.lookup ("super" : Str)).isSome = false
section
variable {prog : Program} {w : World} {A : Around} {E : Value → Shared → Prop} {R : Result → Shared → Prop} {s : Shared} {K : Frag} {mg : Str → Option Value} {x qual : Str} {C fI cc cda : Addr}
theorem err_init (T : ErrTxt prog K mg x qual C fI cc cda) {e t0 : Addr} {v : Value} (X : K.In s.heap) (hlim : s.heap.NoLimit) (G : s.heap.Ns mainGlobals mg) (B : ∃ mb, s.heap.Ns builtinsNs mb ∧ ∀ x : Str, x ≠ "__name__" → mb x = bootBuiltins x)
    (hx : s.heap.get? e = some (excO C t0)) (hnx : K.lookup e = none) (hh : A.handled = none) (hroom : A.depth < recursionLimit) (hv : StrOk prog w v)
    (hq : ∀ h' tk dx t1, InitEnd s.heap h' e C dx t1 "at" v → R (.ok (.ret .none)) { s with heap := h', toks := tk }) :
    codeAny (model prog w) A (.call (.ref fI) ⟨[.ref e, v], []⟩) R s := by
  obtain ⟨oc, od, doc, pm, an, ct, osl, p1, p2, q, ho, hcd, hMC, hAC⟩ := T.fn
  obtain ⟨nm, qn, N, bs, bm, sn, sub, ab, col, dd, k0, k1, k2, k3, k5, hC, hbm⟩ := T.cls
  obtain ⟨cl, cld, csl, hcell⟩ := T.cell
  obtain ⟨ccl, cdd, vs, ccs, file, tf, hcode, hvs, hfile⟩ := T.code
  obtain ⟨mb, Bn, Bb⟩ := B
  have hcl : clsIn K C = some { name := nm, bases := bs, mro := .ref C :: bm, ns := N, qualname := qn, hasDict := true, slotNames := sn, subclasses := sub, abstract := ab, collection := col, hasDel := false } := by unfold clsIn; rw [hC] <;> rfl
  refine ks_codeAny_call_defAt (fd := ksFn "__init__" qual (eA p1 p2) (eB q) eS .none .none doc pm an (.ref cda) ct cc) (body := eB q) (binds := [("self", .ref e), ("at", v)]) hroom (X _ _ ho) rfl hlim (codeRec_of X hcd) rfl ?b ?c ?l (fun h₁ hns k₁ => ?_)
  case b => exact BindsTo.of_eq (by first | rfl | with_unfolding_all rfl)
  case c => show ∀ x ∈ eS.names, x.2 ≠ .cell; decide
  case l => exact locs rfl
  obtain ⟨sh, sg, sd, st, sos⟩ := s
  have X₁ : K.In h₁ := X.keeps k₁
  have hx₁ := k₁ _ _ hx
  have hC₁ := X₁ _ _ hC
  show _root_.PySem.wpAt (model prog w) _ (.func (eB q) (ksEnv qual eS sh.objs.size fI (.ref cda) cc)) (execs (eB q) (ksEnv qual eS sh.objs.size fI (.ref cda) cc)) _ _ _
  obtain ⟨pl, hpl⟩ := hMC (ksEnv qual eS sh.objs.size fI (.ref cda) cc)
  refine ks_wpAt_execs_cons (ks_wpAt_Expr_any (ks_wpAt_MethodCall ?_ hpl))
  refine ks_wpAt_super_base (env := ksEnv qual eS sh.objs.size fI (.ref cda) cc) (ar := { arg := "self", annotation := none, pos := p1 }) rfl rfl (by decide) rfl (X₁ _ _ ho) rfl rfl rfl (X₁ _ _ hcode) rfl hvs hfile T.top ?_
  refine ks_loadName_global rfl rfl (loadGlobal_builtin (env := ksEnv qual eS sh.objs.size fI (.ref cda) cc) (G.keeps k₁) T.nsup (Bn.keeps k₁) ((Bb _ (by decide +kernel)).trans (by first | boot_by_name | rfl | kernel_rfl)) ⟨rfl, ?_⟩)
  refine wpAny_loadName_free rfl rfl rfl ⟨_, X₁ _ _ hcell, rfl⟩ ?_
  refine wpAny_loadName_local rfl rfl hns (by first | rfl | with_unfolding_all rfl | kernel_rfl) ?_
  refine ks_wpAny_isType_cls hC₁ rfl ⟨rfl, ?_⟩
  refine ks_wpAny_call_super hC₁ rfl hx₁ rfl (fun c z => by cases z) (looks_mroIn X₁ T.own) (fun h₂ e2 k2 => ?_)
  have X₂ : K.In h₂ := X₁.keeps k2
  have hC₂ := k2 _ _ hC₁
  have hx₂ := k2 _ _ hx₁
  have I₂ : InstAt h₂ e (excO C t0) C none := ⟨hx₂, rfl, rfl, trivial⟩
  have hxC : e ≠ C := ks_ne X₂ I₂ hcl
  have hsup := T.sup
  unfold ks_superIn at hsup
  rw [hcl] at hsup
  refine kxs_getMethod kxs_ValueError e2 (looks_opaque X₂ T.tp) (l₀ := .ref C :: bm) (fun A Q E s k q => wpAny_bind ((looks_clsIn X₂ hcl) A _ E s k (wpAny_pure q))) rfl X₂ hsup (I₂.type.andThen (looks_subIn X₂ T.veC)) hxC rfl ?_
  refine kxs_callWith (i := "ValueError.__init__") (x := e) rfl ?_
  refine Calls.evalArgs_plain (Calls.spliced_cons ?_)
  have k3 : ∀ b o, h₂.get? b = some o → (h₂.push (kxs_mw "ValueError.__init__" e)).get? b = some o := fun b o z => Heap.get?_push_of_some _ z
  have X₃ := X₂.keeps k3
  have G₃ := ((G.keeps k₁).keeps k2).keeps k3
  have B₃ := ((Bn.keeps k₁).keeps k2).keeps k3
  have hns₃ := (hns.keeps k2).keeps k3
  have hu : (h₂.push (kxs_mw "ValueError.__init__" e)).get? h₂.objs.size = some (kxs_mw "ValueError.__init__" e) := by heap_get
  have hdg : (h₂.push (kxs_mw "ValueError.__init__" e)).NoDigits := let ⟨mc, a, _⟩ := ((hlim.keeps k₁).keeps k2).keeps k3; ⟨mc, a, ns_none_of X₃ a T.dg⟩
  generalize h₂.push (kxs_mw "ValueError.__init__" e) = h₃ at *
  refine wpAny_Call_NameR (wpAny_Name (ks_loadName_global rfl rfl (loadGlobal_builtin (env := ksEnv qual eS sh.objs.size fI (.ref cda) cc) G₃ T.nstr B₃ ((Bb _ (by decide +kernel)).trans (by first | boot_by_name | rfl | kernel_rfl)) ?_)) rfl)
  refine callWith_type1 ?_
  show wpAny _ _ (eval (.Name "at" (q 4)) _) _ _ _
  refine wpAny_Name (wpAny_loadName_local rfl rfl hns₃ (by first | rfl | with_unfolding_all rfl | kernel_rfl) ?_) (by decide)
  refine hv _ _ _ _ hh hdg (fun txt tk tk' => ?_)
  refine Calls.spliced_nil ⟨hu, ?_⟩
  refine init_call (hC := k3 _ _ hC₂) (he := k3 _ _ hx₂) (hu := hu) (one_size _) (fun h₄ t1 k4 hx₄ => ?_)
  have hLe : sh.objs.size ≠ e := Nat.ne_of_gt (Heap.lt_size hx)
  have hns₄ : h₄.Ns sh.objs.size (fun x => List.lookup x [((PySem.Str.ofString "self" : Str), Value.ref e), ((PySem.Str.ofString "at" : Str), v)].reverse) := by
    obtain ⟨oL, es, ep, hL, r⟩ := hns₃
    exact ⟨oL, es, ep, k4 _ _ hLe hL, r⟩
  have X₄ : K.In h₄ := kept_but X₃ hnx k4
  show wpAt _ _ _ (execs _ _) _ _ _
  refine ks_wpAt_execs_cons (ks_wpAt_Assign_Attr (wpAt_of_wpAny (wpAny_Name (wpAny_loadName_local rfl rfl hns₄ (by first | rfl | with_unfolding_all rfl | kernel_rfl) ?_) (by decide))) (hAC _))
  refine wpAny_Name (wpAny_loadName_local rfl rfl hns₄ (by first | rfl | with_unfolding_all rfl | kernel_rfl) ?_) (by decide)
  refine set_plain X₄ (ox := excO C t1) (od := none) ⟨hx₄, rfl, rfl, trivial⟩ T.sa ?_
  refine exc_osa X₄ hx₄ hcl (show refsVE (.ref C :: bm) = true from hbm) rfl T.noN (fun h₅ tk₅ dx k₅ dn dne hx₅ hn₅ => ?_)
  show wpAt _ _ _ (execs _ _) _ _ _
  have z : sh.objs.size < h₄.objs.size := hns₄.lt
  refine wpAt_of_wpAny (wpAny_execs_nil (hq h₅ tk₅ dx t1 ⟨fun b o hb e => k₅ b o hb (k4 b o hb (k3 _ _ (k2 _ _ (k₁ b o e)))), hx₅, Nat.le_of_lt (Nat.lt_of_lt_of_le z dn), dne, hn₅⟩))
theorem err_made (T : ErrTxt prog K mg x qual C fI cc cda) : Mkd prog w K mg C ["at"] (fun vs => ∃ v, vs = [v] ∧ okS v) := by
  intro A s R vs us rl hok X hlim G B hh hroom hq
  obtain ⟨v, rfl, ov⟩ := hok
  cases rl with
  | cons rv rn =>
  rename_i u us'
  cases rn
  obtain ⟨nm, q, N, bs, bm, sn, sub, ab, col, dd, k0, k1, k2, k3, k5, hC, hbm⟩ := T.cls
  obtain ⟨hp, g, dr, tk, os⟩ := s
  have k : ∀ b o, hp.get? b = some o → ((hp.push (kdv_tup [u])).push (excO C hp.objs.size)).get? b = some o := fun b o e => Heap.get?_push_of_some _ (Heap.get?_push_of_some _ e)
  have hget : ((hp.push (kdv_tup [u])).push (excO C hp.objs.size)).get? (hp.objs.size + 1) = some (excO C hp.objs.size) := by heap_get
  have hnx : K.lookup (hp.objs.size + 1) = none := by
    cases e : K.lookup (hp.objs.size + 1) with
    | none => rfl
    | some o =>
      have z : hp.get? (hp.objs.size + 1) = some o := X _ _ e
      exact absurd (Nat.lt_of_succ_lt (Heap.lt_size z)) (Nat.lt_irrefl _)
  refine call_own F.excBase_ValueError (fun X => refsVE_contains X bm hbm) (X _ _ hC) (looks_findIn X T.iC) (fun self => bind_fn X self T.tC) (one_size u) ?_
  obtain ⟨mb, B1, B2⟩ := B
  refine err_init (s := ⟨(hp.push (kdv_tup [u])).push (excO C hp.objs.size), g, dr, tk, os⟩) T (X.keeps k) (hlim.keeps k) (G.keeps k) ⟨mb, B1.keeps k, B2⟩ hget hnx ?_ ?_ (okS_ok rv ov) fun h' tk' dx t1 ⟨k', hx, dn, dne, hns⟩ => ?_
  · exact hh
  · show A.depth + 1 < recursionLimit
    exact hroom
  · have old : ∀ b o, hp.get? b = some o → h'.get? b = some o := fun b o e => k' b o (Nat.ne_of_lt (Nat.lt_succ_of_lt (Heap.lt_size e))) (k b o e)
    have z : hp.objs.size + 1 + 1 ≤ dx := by
      first
        | (simpa only [Heap.size_push] using dn)
        | exact dn
        | (have q := dn; rw [Heap.size_push, Heap.size_push] at q; exact q)
    refine ⟨rfl, hq h' tk' (hp.objs.size + 1) dx ⟨old, Nat.le_succ _, ⟨_, _, hx, rfl, rfl, rfl, rfl, rfl⟩, Nat.le_trans (Nat.le_trans (Nat.le_succ _) (Nat.le_succ _)) z, dne, ?_⟩⟩
    have ef : (fun y : Str => List.lookup y ([(PySem.Str.ofString "at" : Str)].zip [u])) = fun y => if y = PySem.Str.ofString "at" then some u else none := by
      funext y
      by_cases h : y = PySem.Str.ofString "at"
      · simp [List.lookup, h]
      · have h2 : (y == PySem.Str.ofString "at") = false := by simpa using h
        simp [List.lookup, h, h2]
    rw [ef]
    exact hns
def p1Of (st : Stmt) : Pos := match (L2.defArgs st).args with | [a, _] => a.pos | _ => ⟨0, 0, 0, 0⟩
def p2Of (st : Stmt) : Pos := match (L2.defArgs st).args with | [_, a] => a.pos | _ => ⟨0, 0, 0, 0⟩
def qOf (st : Stmt) : Nat → Pos := match L2.defBody st with
  | [.Expr (.Call (.Attribute (.Call (.Name _ q0) _ _ q1) _ q2) [.Call (.Name _ q3) [.Name _ q4] _ q5] _ q6) q7, .Assign [.Attribute (.Name _ q8) _ q9] (.Name _ q10) q11] =>
    fun n => [q0, q1, q2, q3, q4, q5, q6, q7, q8, q9, q10, q11].getD n ⟨0, 0, 0, 0⟩
  | _ => fun _ => ⟨0, 0, 0, 0⟩
theorem err_mk (st : Stmt) {h : Heap} {nm q : Str} {N : Addr} {bs bm : List Value} {sn : List Str} {sub : List Value} {ab : Bool} {col : Option Bool} {dd : Option Addr} {k0 k1 k2 k3 k5 : Option Value} {oc : Value} {od : Option Addr} {doc pm : Value} {an : Option Addr} {ct : Value} {osl : Array (Option Value)}
    {cl : Value} {cld : Option Addr} {csl : Array (Option Value)} {ccl : Value} {cdd : Option Addr} {vs : Array Value} {ccs : Array (Option Value)} {file : Str} {tf : Tok}
    (X : K.In h) (G : h.Ns mainGlobals mg) (aC : nsIn K mainGlobals x = some (some (.ref C))) (xL : K.lookup C = some (excClassObj nm q C N bs bm true sn sub ab col dd k0 k1 k2 k3 k5 "ValueError.__new__")) (bmv : refsVE bm = true)
    (sup : ks_superIn K C C "__init__" = some (some (.builtin "ValueError.__init__"))) (sa : findIn K (.ref C) "__setattr__" = some (some (.builtin "object.__setattr__"))) (no : findIn K (.ref C) "at" = some none)
    (a1 : findIn K (.ref C) "__init__" = some (some (.ref fI))) (t1 : typeIn K (.ref fI) = some (.type "function")) (kC : keepIn K (.ref C) = true) (eC : subIn K (.ref C) (.type "BaseException") = some true) (vC : subIn K (.ref C) (.type "ValueError") = some true)
    (tC : typeIn K (.ref C) = some (.type "type")) (own : mroIn K C (.ref C) = some true) (tp : nsIn K cStatics "thirdparty.any" = some none) (dg : nsIn K cStatics "sys.int_max_str_digits" = some none) (nsup : nsIn K mainGlobals "super" = some none) (nstr : nsIn K mainGlobals "str" = some none)
    (hst : L2.defArgs st = eA (p1Of st) (p2Of st) ∧ L2.defBody st = eB (qOf st) ∧ L2.defScope st = eS)
    (l1 : K.lookup fI = some ⟨oc, od, .func (ksFn "__init__" qual (L2.defArgs st) (L2.defBody st) (L2.defScope st) .none .none doc pm an (.ref cda) ct cc), osl⟩) (c1 : codeIn K (.ref cda) qual = true) (mc : MC (qOf st)) (ac : AC (qOf st))
    (ce : K.lookup cc = some ⟨cl, cld, .cell (some (.ref C)), csl⟩) (co : K.lookup cda = some ⟨ccl, cdd, .fields vs, ccs⟩) (cf : vs[2]? = some (.str file tf)) (cg : ((prog.main.file : Str) == file) = true) (top : (prog.main.scope.names.lookup ("super" : Str)).isSome = false)
    (hg : findIn K (.ref C) "__getattribute__" = some (some (.builtin "BaseException.__getattribute__"))) (hk : findIn K (.ref C) "__getattr__" = some none) (hd : hasDictIn K C = true) (ha : findIn K (.ref C) "__class__" = some (some (.builtin "object.__class__")))
    (hn : specialIn K (.builtin "object.__class__") "__get__" = some (some (.builtin "getset_descriptor.__get__"))) (ht : takesIn K (.builtin "object.__class__") = some true) (hm : mroIn K C (.type "object") = some true) :
    KW.ErrC prog w K mg x C ["at"] (fun vs => ∃ v, vs = [v] ∧ okS v) := by
  have T : ErrTxt prog K mg x qual C fI cc cda :=
    { gC := mg_of X G aC, cls := ⟨nm, q, N, bs, bm, sn, sub, ab, col, dd, k0, k1, k2, k3, k5, xL, bmv⟩, sup := sup, sa := sa, noN := no, iC := a1, tC := t1, kC := kC, exC := eC, veC := vC, tyC := tC, own := own, tp := tp, dg := dg,
      nsup := mg_none_of X G nsup, nstr := mg_none_of X G nstr,
      fn := ⟨oc, od, doc, pm, an, ct, osl, p1Of st, p2Of st, qOf st, by rw [← hst.1, ← hst.2.1, ← hst.2.2]; exact l1, c1, mc, ac⟩,
      cell := ⟨cl, cld, csl, ce⟩, code := ⟨ccl, cdd, vs, ccs, file, tf, co, cf, cg⟩, top := top }
  exact ⟨T.gC, err_made T, kC, eC, tC, ⟨hg, hk, eC, hd⟩, ⟨hg, hk, eC, hd, ha, hn, ht, hm⟩, fun f hf => by cases hf with | head => exact no | tail _ z => cases z⟩
end
end KErr_at
end PySem

set_option Elab.async false
set_option linter.all false
set_option maxRecDepth 100000
set_option maxHeartbeats 4000000
namespace K25
open PySem PySem.Spec PyProof.Rows L2 KW
def topS (i : Nat) : Stmt := PySem.Challenge.pw_kilnwarden_k25_listings_by_their_parts.main.body.getD i (.Pass ⟨0, 0, 0, 0⟩)

theorem lit_0 : (PySem.Str.ofString "local") = S [108, 111, 99, 97, 108] := by decide +kernel
def str_1 : List Nat := [115, 101, 116, 95, 108, 111, 99, 97, 108]
theorem lit_1 : (PySem.Str.ofString "set_local") = S str_1 := by decide +kernel
theorem lit_2 : (PySem.Str.ofString "outer") = S [111, 117, 116, 101, 114] := by decide +kernel
def str_3 : List Nat := [115, 101, 116, 95, 111, 117, 116, 101, 114]
theorem lit_3 : (PySem.Str.ofString "set_outer") = S str_3 := by decide +kernel
theorem lit_4 : (PySem.Str.ofString "field") = S [102, 105, 101, 108, 100] := by decide +kernel
def str_5 : List Nat := [115, 101, 116, 95, 102, 105, 101, 108, 100]
theorem lit_5 : (PySem.Str.ofString "set_field") = S str_5 := by decide +kernel
def str_6 : List Nat := [108, 105, 116, 101, 114, 97, 108]
theorem lit_6 : (PySem.Str.ofString "literal") = S str_6 := by decide +kernel
theorem lit_7 : (PySem.Str.ofString "global") = S [103, 108, 111, 98, 97, 108] := by decide +kernel
def str_8 : List Nat := [115, 101, 116, 95, 103, 108, 111, 98, 97, 108]
theorem lit_8 : (PySem.Str.ofString "set_global") = S str_8 := by decide +kernel
theorem lit_9 : (PySem.Str.ofString "self") = S [115, 101, 108, 102] := by decide +kernel
theorem lit_10 : (PySem.Str.ofString "nil") = S [110, 105, 108] := by decide +kernel
theorem lit_11 : (PySem.Str.ofString "true") = S [116, 114, 117, 101] := by decide +kernel
theorem lit_12 : (PySem.Str.ofString "false") = S [102, 97, 108, 115, 101] := by decide +kernel
theorem lit_13 : (PySem.Str.ofString "pop") = S [112, 111, 112] := by decide +kernel
theorem lit_14 : (PySem.Str.ofString "dup") = S [100, 117, 112] := by decide +kernel
theorem lit_15 : (PySem.Str.ofString "send") = S [115, 101, 110, 100] := by decide +kernel
def str_16 : List Nat := [115, 117, 112, 101, 114, 95, 115, 101, 110, 100]
theorem lit_16 : (PySem.Str.ofString "super_send") = S str_16 := by decide +kernel
theorem lit_17 : (PySem.Str.ofString "block") = S [98, 108, 111, 99, 107] := by decide +kernel
theorem lit_18 : (PySem.Str.ofString "jump") = S [106, 117, 109, 112] := by decide +kernel
def str_19 : List Nat := [106, 117, 109, 112, 95, 102, 97, 108, 115, 101]
theorem lit_19 : (PySem.Str.ofString "jump_false") = S str_19 := by decide +kernel
theorem lit_20 : (PySem.Str.ofString "return") = S [114, 101, 116, 117, 114, 110] := by decide +kernel
theorem lit_21 : (PySem.Str.ofString "leave") = S [108, 101, 97, 118, 101] := by decide +kernel
def str_22 : List Nat := [48, 49, 50, 51, 52, 53, 54, 55, 56, 57]
theorem lit_22 : (PySem.Str.ofString "0123456789") = S str_22 := by decide +kernel
theorem lit_23 : (PySem.Str.ofString "symbol") = S [115, 121, 109, 98, 111, 108] := by decide +kernel
def str_24 : List Nat := [115, 101, 108, 101, 99, 116, 111, 114]
theorem lit_24 : (PySem.Str.ofString "selector") = S str_24 := by decide +kernel
theorem lit_25 : (PySem.Str.ofString "\\") = S [92] := by decide +kernel
theorem lit_26 : (PySem.Str.ofString "\\\\") = S [92, 92] := by decide +kernel
theorem lit_27 : (PySem.Str.ofString "\n") = S [10] := by decide +kernel
theorem lit_28 : (PySem.Str.ofString "\\n") = S [92, 110] := by decide +kernel
theorem lit_29 : (PySem.Str.ofString " ") = S [32] := by decide +kernel
theorem lit_30 : (PySem.Str.ofString "method") = S [109, 101, 116, 104, 111, 100] := by decide +kernel
theorem lit_31 : (PySem.Str.ofString "code") = S [99, 111, 100, 101] := by decide +kernel
theorem lit_32 : (PySem.Str.ofString "-") = S [45] := by decide +kernel
theorem lit_33 : (PySem.Str.ofString "0") = S [48] := by decide +kernel
theorem lit_34 : (PySem.Str.ofString "") = S [] := by decide +kernel
theorem lit_35 : (PySem.Str.ofString "n") = S [110] := by decide +kernel
theorem lit_36 : (PySem.Str.ofString "int") = S [105, 110, 116] := by decide +kernel
theorem lit_37 : (PySem.Str.ofString "a") = S [97] := by decide +kernel
theorem lit_38 : (PySem.Str.ofString "B7") = S [66, 55] := by decide +kernel
def str_39 : List Nat := [97, 116, 58, 112, 117, 116, 58]
theorem lit_39 : (PySem.Str.ofString "at:put:") = S str_39 := by decide +kernel
theorem lit_40 : (PySem.Str.ofString "+") = S [43] := by decide +kernel
theorem lit_41 : (PySem.Str.ofString "'") = S [39] := by decide +kernel
theorem lit_42 : (PySem.Str.ofString "x9") = S [120, 57] := by decide +kernel
theorem lit_43 : (PySem.Str.ofString "#") = S [35] := by decide +kernel
theorem lit_44 : (PySem.Str.ofString "-1") = S [45, 49] := by decide +kernel
theorem lit_45 : (PySem.Str.ofString "~") = S [126] := by decide +kernel
theorem lit_46 : (PySem.Str.ofString "  ") = S [32, 32] := by decide +kernel
theorem lit_47 : (PySem.Str.ofString " code") = S [32, 99, 111, 100, 101] := by decide +kernel
theorem lit_48 : (PySem.Str.ofString "\n ") = S [10, 32] := by decide +kernel
theorem lit_49 : (PySem.Str.ofString "\\ ") = S [92, 32] := by decide +kernel
def str_50 : List Nat := [109, 101, 116, 104, 111, 100, 32]
theorem lit_50 : (PySem.Str.ofString "method ") = S str_50 := by decide +kernel
theorem lit_51 : (PySem.Str.ofString "x") = S [120] := by decide +kernel
abbrev s_Malformed_init : Stmt := inClass (topS 2) 0
abbrev s_Draft_init : Stmt := inClass (topS 6) 0
abbrev N_Draft_init : List Str := ["self", "selector", "argc", "count", "stack", "code", "literals"]
theorem sc_Draft_init : FnScope N_Draft_init ["self", "selector", "argc", "count", "stack", "code", "literals"] (defScope s_Draft_init) := ⟨rfl, rfl, rfl, by decide +kernel, rfl, by decide +kernel, by decide +kernel⟩
abbrev s_Draft_parts : Stmt := inClass (topS 6) 1
abbrev N_Draft_parts : List Str := ["self"]
theorem sc_Draft_parts : FnScope N_Draft_parts ["self"] (defScope s_Draft_parts) := ⟨rfl, rfl, rfl, by decide +kernel, rfl, by decide +kernel, by decide +kernel⟩
abbrev s_Draft___eq__ : Stmt := inClass (topS 6) 2
abbrev N_Draft___eq__ : List Str := ["self", "other"]
theorem sc_Draft___eq__ : FnScope N_Draft___eq__ ["self", "other"] (defScope s_Draft___eq__) := ⟨rfl, rfl, rfl, by decide +kernel, rfl, by decide +kernel, by decide +kernel⟩
abbrev s_escaped : Stmt := topS 11
abbrev N_escaped : List Str := ["text"]
theorem sc_escaped : FnScope N_escaped ["text"] (defScope s_escaped) := ⟨rfl, rfl, rfl, by decide +kernel, rfl, by decide +kernel, by decide +kernel⟩
abbrev s_joined : Stmt := topS 12
abbrev N_joined : List Str := ["words", "word"]
theorem sc_joined : FnScope N_joined ["words"] (defScope s_joined) := ⟨rfl, rfl, rfl, by decide +kernel, rfl, by decide +kernel, by decide +kernel⟩
abbrev s_literal_line : Stmt := topS 13
abbrev N_literal_line : List Str := ["literal"]
theorem sc_literal_line : FnScope N_literal_line ["literal"] (defScope s_literal_line) := ⟨rfl, rfl, rfl, by decide +kernel, rfl, by decide +kernel, by decide +kernel⟩
abbrev s_list_draft : Stmt := topS 14
abbrev N_list_draft : List Str := ["draft", "lines", "literal", "op", "arg"]
theorem sc_list_draft : FnScope N_list_draft ["draft"] (defScope s_list_draft) := ⟨rfl, rfl, rfl, by decide +kernel, rfl, by decide +kernel, by decide +kernel⟩
abbrev s_number_in : Stmt := topS 15
abbrev N_number_in : List Str := ["word", "at", "digits", "char"]
theorem sc_number_in : FnScope N_number_in ["word", "at"] (defScope s_number_in) := ⟨rfl, rfl, rfl, by decide +kernel, rfl, by decide +kernel, by decide +kernel⟩
abbrev s_numbers_in : Stmt := topS 16
abbrev N_numbers_in : List Str := ["words", "count", "at", "word"]
theorem sc_numbers_in : FnScope N_numbers_in ["words", "count", "at"] (defScope s_numbers_in) := ⟨rfl, rfl, rfl, by decide +kernel, rfl, by decide +kernel, by decide +kernel⟩
abbrev s_unescaped : Stmt := topS 17
abbrev N_unescaped : List Str := ["text", "at", "found", "place", "char", "follower"]
theorem sc_unescaped : FnScope N_unescaped ["text", "at"] (defScope s_unescaped) := ⟨rfl, rfl, rfl, by decide +kernel, rfl, by decide +kernel, by decide +kernel⟩
abbrev s_read_head : Stmt := topS 18
abbrev N_read_head : List Str := ["line", "words"]
theorem sc_read_head : FnScope N_read_head ["line"] (defScope s_read_head) := ⟨rfl, rfl, rfl, by decide +kernel, rfl, by decide +kernel, by decide +kernel⟩
abbrev s_read_text : Stmt := topS 19
abbrev N_read_text : List Str := ["kind", "line", "at", "text"]
theorem sc_read_text : FnScope N_read_text ["kind", "line", "at"] (defScope s_read_text) := ⟨rfl, rfl, rfl, by decide +kernel, rfl, by decide +kernel, by decide +kernel⟩
abbrev s_read_literal : Stmt := topS 20
abbrev N_read_literal : List Str := ["line", "at", "words"]
theorem sc_read_literal : FnScope N_read_literal ["line", "at"] (defScope s_read_literal) := ⟨rfl, rfl, rfl, by decide +kernel, rfl, by decide +kernel, by decide +kernel⟩
abbrev s_read_instruction : Stmt := topS 21
abbrev N_read_instruction : List Str := ["line", "at", "words", "arg"]
theorem sc_read_instruction : FnScope N_read_instruction ["line", "at"] (defScope s_read_instruction) := ⟨rfl, rfl, rfl, by decide +kernel, rfl, by decide +kernel, by decide +kernel⟩
abbrev s_read_listing : Stmt := topS 22
abbrev N_read_listing : List Str := ["lines", "selector", "argc", "count", "stack", "literals", "at", "code", "k"]
theorem sc_read_listing : FnScope N_read_listing ["lines"] (defScope s_read_listing) := ⟨rfl, rfl, rfl, by decide +kernel, rfl, by decide +kernel, by decide +kernel⟩
abbrev s__law_start : Stmt := topS 24
abbrev N__law_start : List Str := ["script"]
theorem sc__law_start : FnScope N__law_start ["script"] (defScope s__law_start) := ⟨rfl, rfl, rfl, by decide +kernel, rfl, by decide +kernel, by decide +kernel⟩
abbrev s__law_pick : Stmt := topS 25
abbrev N__law_pick : List Str := ["state", "limit", "cell", "drawn"]
theorem sc__law_pick : FnScope N__law_pick ["state", "limit"] (defScope s__law_pick) := ⟨rfl, rfl, rfl, by decide +kernel, rfl, by decide +kernel, by decide +kernel⟩
abbrev s__law_text : Stmt := topS 26
abbrev N__law_text : List Str := ["state", "spaces", "pieces", "text", "turn"]
theorem sc__law_text : FnScope N__law_text ["state", "spaces"] (defScope s__law_text) := ⟨rfl, rfl, rfl, by decide +kernel, rfl, by decide +kernel, by decide +kernel⟩
abbrev s__law_count : Stmt := topS 27
abbrev N__law_count : List Str := ["state", "number"]
theorem sc__law_count : FnScope N__law_count ["state"] (defScope s__law_count) := ⟨rfl, rfl, rfl, by decide +kernel, rfl, by decide +kernel, by decide +kernel⟩
abbrev s__law_literal : Stmt := topS 28
abbrev N__law_literal : List Str := ["state", "kind"]
theorem sc__law_literal : FnScope N__law_literal ["state"] (defScope s__law_literal) := ⟨rfl, rfl, rfl, by decide +kernel, rfl, by decide +kernel, by decide +kernel⟩
abbrev s__law_plain : Stmt := topS 29
abbrev N__law_plain : List Str := []
theorem sc__law_plain : FnScope N__law_plain [] (defScope s__law_plain) := ⟨rfl, rfl, rfl, by decide +kernel, rfl, by decide +kernel, by decide +kernel⟩
abbrev s__law_instruction : Stmt := topS 30
abbrev N__law_instruction : List Str := ["state", "ops", "op"]
theorem sc__law_instruction : FnScope N__law_instruction ["state"] (defScope s__law_instruction) := ⟨rfl, rfl, rfl, by decide +kernel, rfl, by decide +kernel, by decide +kernel⟩
abbrev s__law_written : Stmt := topS 31
abbrev N__law_written : List Str := ["text", "found", "char"]
theorem sc__law_written : FnScope N__law_written ["text"] (defScope s__law_written) := ⟨rfl, rfl, rfl, by decide +kernel, rfl, by decide +kernel, by decide +kernel⟩
abbrev s__law_lines : Stmt := topS 32
abbrev N__law_lines : List Str := ["parts", "lines", "literal", "number", "op", "arg"]
theorem sc__law_lines : FnScope N__law_lines ["parts"] (defScope s__law_lines) := ⟨rfl, rfl, rfl, by decide +kernel, rfl, by decide +kernel, by decide +kernel⟩
abbrev s__law_draft : Stmt := topS 33
abbrev N__law_draft : List Str := ["parts"]
theorem sc__law_draft : FnScope N__law_draft ["parts"] (defScope s__law_draft) := ⟨rfl, rfl, rfl, by decide +kernel, rfl, by decide +kernel, by decide +kernel⟩
abbrev s__law_parts : Stmt := topS 34
abbrev N__law_parts : List Str := ["draft"]
theorem sc__law_parts : FnScope N__law_parts ["draft"] (defScope s__law_parts) := ⟨rfl, rfl, rfl, by decide +kernel, rfl, by decide +kernel, by decide +kernel⟩
abbrev s__law_changed : Stmt := topS 35
abbrev N__law_changed : List Str := ["state", "row", "other", "rows", "kind", "at"]
theorem sc__law_changed : FnScope N__law_changed ["state", "row", "other"] (defScope s__law_changed) := ⟨rfl, rfl, rfl, by decide +kernel, rfl, by decide +kernel, by decide +kernel⟩
abbrev s__law_others : Stmt := topS 36
abbrev N__law_others : List Str := ["state", "parts", "found", "k", "other"]
theorem sc__law_others : FnScope N__law_others ["state", "parts"] (defScope s__law_others) := ⟨rfl, rfl, rfl, by decide +kernel, rfl, by decide +kernel, by decide +kernel⟩
abbrev s_law : Stmt := topS 37
abbrev N_law : List Str := ["script", "state", "literals", "turn", "code", "parts", "given", "draft", "lines", "read", "other"]
theorem sc_law : FnScope N_law ["script"] (defScope s_law) := ⟨rfl, rfl, rfl, by decide +kernel, rfl, by decide +kernel, by decide +kernel⟩
structure Ads where
  KilnwardenError : Addr
  Malformed : Addr
  Draft : Addr
  t_OPS : Addr
  t_PLAIN : Addr
  t_TEXTS : Addr
structure Txt (P : Program) (w : World) (K : Frag) (mg : Str → Option Value) (a : Ads) : Prop where
  g_KilnwardenError : mg "KilnwardenError" = some (.ref a.KilnwardenError)
  g_Malformed : mg "Malformed" = some (.ref a.Malformed)
  g_Draft : mg "Draft" = some (.ref a.Draft)
  e_Malformed : ErrC P w K mg "Malformed" a.Malformed ["at"] (fun vs => ∃ v, vs = [v] ∧ PySem.KErr.okS v)
  q_Draft : InsA K a.Draft
  c_Draft : ClsA K mg "Draft" a.Draft ["selector", "argc", "locals", "stack", "code", "literals"]
  ini_Draft : IniAt K a.Draft "Draft.__init__" s_Draft_init ["self", "selector", "argc", "count", "stack", "code", "literals"] []
  m_Draft_parts : MetAt K a.Draft "parts" "Draft.parts" s_Draft_parts ["self"]
  m_Draft___eq__ : MetAt K a.Draft "__eq__" "Draft.__eq__" s_Draft___eq__ ["self", "other"]
  n_abs : mg "abs" = none
  n_all : mg "all" = none
  n_int : mg "int" = none
  n_isinstance : mg "isinstance" = none
  n_len : mg "len" = none
  n_list : mg "list" = none
  n_range : mg "range" = none
  n_str : mg "str" = none
  n_tuple : mg "tuple" = none
  gt_OPS : GT K mg "OPS" a.t_OPS [.str (S [108, 111, 99, 97, 108]), .str (S str_1), .str (S [111, 117, 116, 101, 114]), .str (S str_3), .str (S [102, 105, 101, 108, 100]), .str (S str_5), .str (S str_6), .str (S [103, 108, 111, 98, 97, 108]), .str (S str_8), .str (S [115, 101, 108, 102]), .str (S [110, 105, 108]), .str (S [116, 114, 117, 101]), .str (S [102, 97, 108, 115, 101]), .str (S [112, 111, 112]), .str (S [100, 117, 112]), .str (S [115, 101, 110, 100]), .str (S str_16), .str (S [98, 108, 111, 99, 107]), .str (S [106, 117, 109, 112]), .str (S str_19), .str (S [114, 101, 116, 117, 114, 110]), .str (S [108, 101, 97, 118, 101])]
  gt_PLAIN : GT K mg "PLAIN" a.t_PLAIN [.str (S [115, 101, 108, 102]), .str (S [110, 105, 108]), .str (S [116, 114, 117, 101]), .str (S [102, 97, 108, 115, 101]), .str (S [112, 111, 112]), .str (S [100, 117, 112]), .str (S [114, 101, 116, 117, 114, 110]), .str (S [108, 101, 97, 118, 101])]
  g_DIGITS : GV mg "DIGITS" (.str (S str_22))
  g_MOST_ARG : GV mg "MOST_ARG" (.int (65535))
  gt_TEXTS : GT K mg "TEXTS" a.t_TEXTS [.str (S [115, 121, 109, 98, 111, 108]), .str (S [103, 108, 111, 98, 97, 108]), .str (S str_24)]
  d_escaped : DefAt K mg "escaped" "escaped" s_escaped ["text"]
  d_joined : DefAt K mg "joined" "joined" s_joined ["words"]
  d_literal_line : DefAt K mg "literal_line" "literal_line" s_literal_line ["literal"]
  d_list_draft : DefAt K mg "list_draft" "list_draft" s_list_draft ["draft"]
  d_number_in : DefAt K mg "number_in" "number_in" s_number_in ["word", "at"]
  d_numbers_in : DefAt K mg "numbers_in" "numbers_in" s_numbers_in ["words", "count", "at"]
  d_unescaped : DefAt K mg "unescaped" "unescaped" s_unescaped ["text", "at"]
  d_read_head : DefAt K mg "read_head" "read_head" s_read_head ["line"]
  d_read_text : DefAt K mg "read_text" "read_text" s_read_text ["kind", "line", "at"]
  d_read_literal : DefAt K mg "read_literal" "read_literal" s_read_literal ["line", "at"]
  d_read_instruction : DefAt K mg "read_instruction" "read_instruction" s_read_instruction ["line", "at"]
  d_read_listing : DefAt K mg "read_listing" "read_listing" s_read_listing ["lines"]
  d__law_start : DefAt K mg "_law_start" "_law_start" s__law_start ["script"]
  d__law_pick : DefAt K mg "_law_pick" "_law_pick" s__law_pick ["state", "limit"]
  d__law_text : DefAt K mg "_law_text" "_law_text" s__law_text ["state", "spaces"]
  d__law_count : DefAt K mg "_law_count" "_law_count" s__law_count ["state"]
  d__law_literal : DefAt K mg "_law_literal" "_law_literal" s__law_literal ["state"]
  d__law_plain : DefAt K mg "_law_plain" "_law_plain" s__law_plain []
  d__law_instruction : DefAt K mg "_law_instruction" "_law_instruction" s__law_instruction ["state"]
  d__law_written : DefAt K mg "_law_written" "_law_written" s__law_written ["text"]
  d__law_lines : DefAt K mg "_law_lines" "_law_lines" s__law_lines ["parts"]
  d__law_draft : DefAt K mg "_law_draft" "_law_draft" s__law_draft ["parts"]
  d__law_parts : DefAt K mg "_law_parts" "_law_parts" s__law_parts ["draft"]
  d__law_changed : DefAt K mg "_law_changed" "_law_changed" s__law_changed ["state", "row", "other"]
  d__law_others : DefAt K mg "_law_others" "_law_others" s__law_others ["state", "parts"]
  d_law : DefAt K mg "law" "law" s_law ["script"]
theorem fe_selector_argc : ((PySem.Str.ofString "selector" : Str) = PySem.Str.ofString "argc") = False := eq_false (by decide)
theorem fe_selector_locals : ((PySem.Str.ofString "selector" : Str) = PySem.Str.ofString "locals") = False := eq_false (by decide)
theorem fe_selector_stack : ((PySem.Str.ofString "selector" : Str) = PySem.Str.ofString "stack") = False := eq_false (by decide)
theorem fe_selector_code : ((PySem.Str.ofString "selector" : Str) = PySem.Str.ofString "code") = False := eq_false (by decide)
theorem fe_selector_literals : ((PySem.Str.ofString "selector" : Str) = PySem.Str.ofString "literals") = False := eq_false (by decide)
theorem fe_argc_selector : ((PySem.Str.ofString "argc" : Str) = PySem.Str.ofString "selector") = False := eq_false (by decide)
theorem fe_argc_locals : ((PySem.Str.ofString "argc" : Str) = PySem.Str.ofString "locals") = False := eq_false (by decide)
theorem fe_argc_stack : ((PySem.Str.ofString "argc" : Str) = PySem.Str.ofString "stack") = False := eq_false (by decide)
theorem fe_argc_code : ((PySem.Str.ofString "argc" : Str) = PySem.Str.ofString "code") = False := eq_false (by decide)
theorem fe_argc_literals : ((PySem.Str.ofString "argc" : Str) = PySem.Str.ofString "literals") = False := eq_false (by decide)
theorem fe_locals_selector : ((PySem.Str.ofString "locals" : Str) = PySem.Str.ofString "selector") = False := eq_false (by decide)
theorem fe_locals_argc : ((PySem.Str.ofString "locals" : Str) = PySem.Str.ofString "argc") = False := eq_false (by decide)
theorem fe_locals_stack : ((PySem.Str.ofString "locals" : Str) = PySem.Str.ofString "stack") = False := eq_false (by decide)
theorem fe_locals_code : ((PySem.Str.ofString "locals" : Str) = PySem.Str.ofString "code") = False := eq_false (by decide)
theorem fe_locals_literals : ((PySem.Str.ofString "locals" : Str) = PySem.Str.ofString "literals") = False := eq_false (by decide)
theorem fe_stack_selector : ((PySem.Str.ofString "stack" : Str) = PySem.Str.ofString "selector") = False := eq_false (by decide)
theorem fe_stack_argc : ((PySem.Str.ofString "stack" : Str) = PySem.Str.ofString "argc") = False := eq_false (by decide)
theorem fe_stack_locals : ((PySem.Str.ofString "stack" : Str) = PySem.Str.ofString "locals") = False := eq_false (by decide)
theorem fe_stack_code : ((PySem.Str.ofString "stack" : Str) = PySem.Str.ofString "code") = False := eq_false (by decide)
theorem fe_stack_literals : ((PySem.Str.ofString "stack" : Str) = PySem.Str.ofString "literals") = False := eq_false (by decide)
theorem fe_code_selector : ((PySem.Str.ofString "code" : Str) = PySem.Str.ofString "selector") = False := eq_false (by decide)
theorem fe_code_argc : ((PySem.Str.ofString "code" : Str) = PySem.Str.ofString "argc") = False := eq_false (by decide)
theorem fe_code_locals : ((PySem.Str.ofString "code" : Str) = PySem.Str.ofString "locals") = False := eq_false (by decide)
theorem fe_code_stack : ((PySem.Str.ofString "code" : Str) = PySem.Str.ofString "stack") = False := eq_false (by decide)
theorem fe_code_literals : ((PySem.Str.ofString "code" : Str) = PySem.Str.ofString "literals") = False := eq_false (by decide)
theorem fe_literals_selector : ((PySem.Str.ofString "literals" : Str) = PySem.Str.ofString "selector") = False := eq_false (by decide)
theorem fe_literals_argc : ((PySem.Str.ofString "literals" : Str) = PySem.Str.ofString "argc") = False := eq_false (by decide)
theorem fe_literals_locals : ((PySem.Str.ofString "literals" : Str) = PySem.Str.ofString "locals") = False := eq_false (by decide)
theorem fe_literals_stack : ((PySem.Str.ofString "literals" : Str) = PySem.Str.ofString "stack") = False := eq_false (by decide)
theorem fe_literals_code : ((PySem.Str.ofString "literals" : Str) = PySem.Str.ofString "code") = False := eq_false (by decide)
theorem fl_code_0 : ((PySem.Str.ofString "code" : Str) = S [108, 111, 99, 97, 108]) = False := eq_false (by decide)
theorem lf_code_0 : (S [108, 111, 99, 97, 108] = (PySem.Str.ofString "code" : Str)) = False := eq_false (by decide)
theorem fl_code_1 : ((PySem.Str.ofString "code" : Str) = S str_1) = False := eq_false (by decide)
theorem lf_code_1 : (S str_1 = (PySem.Str.ofString "code" : Str)) = False := eq_false (by decide)
theorem fl_code_2 : ((PySem.Str.ofString "code" : Str) = S [111, 117, 116, 101, 114]) = False := eq_false (by decide)
theorem lf_code_2 : (S [111, 117, 116, 101, 114] = (PySem.Str.ofString "code" : Str)) = False := eq_false (by decide)
theorem fl_code_3 : ((PySem.Str.ofString "code" : Str) = S str_3) = False := eq_false (by decide)
theorem lf_code_3 : (S str_3 = (PySem.Str.ofString "code" : Str)) = False := eq_false (by decide)
theorem fl_code_4 : ((PySem.Str.ofString "code" : Str) = S [102, 105, 101, 108, 100]) = False := eq_false (by decide)
theorem lf_code_4 : (S [102, 105, 101, 108, 100] = (PySem.Str.ofString "code" : Str)) = False := eq_false (by decide)
theorem fl_code_5 : ((PySem.Str.ofString "code" : Str) = S str_5) = False := eq_false (by decide)
theorem lf_code_5 : (S str_5 = (PySem.Str.ofString "code" : Str)) = False := eq_false (by decide)
theorem fl_code_6 : ((PySem.Str.ofString "code" : Str) = S str_6) = False := eq_false (by decide)
theorem lf_code_6 : (S str_6 = (PySem.Str.ofString "code" : Str)) = False := eq_false (by decide)
theorem fl_code_7 : ((PySem.Str.ofString "code" : Str) = S [103, 108, 111, 98, 97, 108]) = False := eq_false (by decide)
theorem lf_code_7 : (S [103, 108, 111, 98, 97, 108] = (PySem.Str.ofString "code" : Str)) = False := eq_false (by decide)
theorem fl_code_8 : ((PySem.Str.ofString "code" : Str) = S str_8) = False := eq_false (by decide)
theorem lf_code_8 : (S str_8 = (PySem.Str.ofString "code" : Str)) = False := eq_false (by decide)
theorem fl_code_9 : ((PySem.Str.ofString "code" : Str) = S [115, 101, 108, 102]) = False := eq_false (by decide)
theorem lf_code_9 : (S [115, 101, 108, 102] = (PySem.Str.ofString "code" : Str)) = False := eq_false (by decide)
theorem fl_code_10 : ((PySem.Str.ofString "code" : Str) = S [110, 105, 108]) = False := eq_false (by decide)
theorem lf_code_10 : (S [110, 105, 108] = (PySem.Str.ofString "code" : Str)) = False := eq_false (by decide)
theorem fl_code_11 : ((PySem.Str.ofString "code" : Str) = S [116, 114, 117, 101]) = False := eq_false (by decide)
theorem lf_code_11 : (S [116, 114, 117, 101] = (PySem.Str.ofString "code" : Str)) = False := eq_false (by decide)
theorem fl_code_12 : ((PySem.Str.ofString "code" : Str) = S [102, 97, 108, 115, 101]) = False := eq_false (by decide)
theorem lf_code_12 : (S [102, 97, 108, 115, 101] = (PySem.Str.ofString "code" : Str)) = False := eq_false (by decide)
theorem fl_code_13 : ((PySem.Str.ofString "code" : Str) = S [112, 111, 112]) = False := eq_false (by decide)
theorem lf_code_13 : (S [112, 111, 112] = (PySem.Str.ofString "code" : Str)) = False := eq_false (by decide)
theorem fl_code_14 : ((PySem.Str.ofString "code" : Str) = S [100, 117, 112]) = False := eq_false (by decide)
theorem lf_code_14 : (S [100, 117, 112] = (PySem.Str.ofString "code" : Str)) = False := eq_false (by decide)
theorem fl_code_15 : ((PySem.Str.ofString "code" : Str) = S [115, 101, 110, 100]) = False := eq_false (by decide)
theorem lf_code_15 : (S [115, 101, 110, 100] = (PySem.Str.ofString "code" : Str)) = False := eq_false (by decide)
theorem fl_code_16 : ((PySem.Str.ofString "code" : Str) = S str_16) = False := eq_false (by decide)
theorem lf_code_16 : (S str_16 = (PySem.Str.ofString "code" : Str)) = False := eq_false (by decide)
theorem fl_code_17 : ((PySem.Str.ofString "code" : Str) = S [98, 108, 111, 99, 107]) = False := eq_false (by decide)
theorem lf_code_17 : (S [98, 108, 111, 99, 107] = (PySem.Str.ofString "code" : Str)) = False := eq_false (by decide)
theorem fl_code_18 : ((PySem.Str.ofString "code" : Str) = S [106, 117, 109, 112]) = False := eq_false (by decide)
theorem lf_code_18 : (S [106, 117, 109, 112] = (PySem.Str.ofString "code" : Str)) = False := eq_false (by decide)
theorem fl_code_19 : ((PySem.Str.ofString "code" : Str) = S str_19) = False := eq_false (by decide)
theorem lf_code_19 : (S str_19 = (PySem.Str.ofString "code" : Str)) = False := eq_false (by decide)
theorem fl_code_20 : ((PySem.Str.ofString "code" : Str) = S [114, 101, 116, 117, 114, 110]) = False := eq_false (by decide)
theorem lf_code_20 : (S [114, 101, 116, 117, 114, 110] = (PySem.Str.ofString "code" : Str)) = False := eq_false (by decide)
theorem fl_code_21 : ((PySem.Str.ofString "code" : Str) = S [108, 101, 97, 118, 101]) = False := eq_false (by decide)
theorem lf_code_21 : (S [108, 101, 97, 118, 101] = (PySem.Str.ofString "code" : Str)) = False := eq_false (by decide)
theorem fl_code_22 : ((PySem.Str.ofString "code" : Str) = S str_22) = False := eq_false (by decide)
theorem lf_code_22 : (S str_22 = (PySem.Str.ofString "code" : Str)) = False := eq_false (by decide)
theorem fl_code_23 : ((PySem.Str.ofString "code" : Str) = S [115, 121, 109, 98, 111, 108]) = False := eq_false (by decide)
theorem lf_code_23 : (S [115, 121, 109, 98, 111, 108] = (PySem.Str.ofString "code" : Str)) = False := eq_false (by decide)
theorem fl_code_24 : ((PySem.Str.ofString "code" : Str) = S str_24) = False := eq_false (by decide)
theorem lf_code_24 : (S str_24 = (PySem.Str.ofString "code" : Str)) = False := eq_false (by decide)
theorem fl_code_25 : ((PySem.Str.ofString "code" : Str) = S [92]) = False := eq_false (by decide)
theorem lf_code_25 : (S [92] = (PySem.Str.ofString "code" : Str)) = False := eq_false (by decide)
theorem fl_code_26 : ((PySem.Str.ofString "code" : Str) = S [92, 92]) = False := eq_false (by decide)
theorem lf_code_26 : (S [92, 92] = (PySem.Str.ofString "code" : Str)) = False := eq_false (by decide)
theorem fl_code_27 : ((PySem.Str.ofString "code" : Str) = S [10]) = False := eq_false (by decide)
theorem lf_code_27 : (S [10] = (PySem.Str.ofString "code" : Str)) = False := eq_false (by decide)
theorem fl_code_28 : ((PySem.Str.ofString "code" : Str) = S [92, 110]) = False := eq_false (by decide)
theorem lf_code_28 : (S [92, 110] = (PySem.Str.ofString "code" : Str)) = False := eq_false (by decide)
theorem fl_code_29 : ((PySem.Str.ofString "code" : Str) = S [32]) = False := eq_false (by decide)
theorem lf_code_29 : (S [32] = (PySem.Str.ofString "code" : Str)) = False := eq_false (by decide)
theorem fl_code_30 : ((PySem.Str.ofString "code" : Str) = S [109, 101, 116, 104, 111, 100]) = False := eq_false (by decide)
theorem lf_code_30 : (S [109, 101, 116, 104, 111, 100] = (PySem.Str.ofString "code" : Str)) = False := eq_false (by decide)
theorem fl_code_32 : ((PySem.Str.ofString "code" : Str) = S [45]) = False := eq_false (by decide)
theorem lf_code_32 : (S [45] = (PySem.Str.ofString "code" : Str)) = False := eq_false (by decide)
theorem fl_code_33 : ((PySem.Str.ofString "code" : Str) = S [48]) = False := eq_false (by decide)
theorem lf_code_33 : (S [48] = (PySem.Str.ofString "code" : Str)) = False := eq_false (by decide)
theorem fl_code_34 : ((PySem.Str.ofString "code" : Str) = S []) = False := eq_false (by decide)
theorem lf_code_34 : (S [] = (PySem.Str.ofString "code" : Str)) = False := eq_false (by decide)
theorem fl_code_35 : ((PySem.Str.ofString "code" : Str) = S [110]) = False := eq_false (by decide)
theorem lf_code_35 : (S [110] = (PySem.Str.ofString "code" : Str)) = False := eq_false (by decide)
theorem fl_code_36 : ((PySem.Str.ofString "code" : Str) = S [105, 110, 116]) = False := eq_false (by decide)
theorem lf_code_36 : (S [105, 110, 116] = (PySem.Str.ofString "code" : Str)) = False := eq_false (by decide)
theorem fl_code_37 : ((PySem.Str.ofString "code" : Str) = S [97]) = False := eq_false (by decide)
theorem lf_code_37 : (S [97] = (PySem.Str.ofString "code" : Str)) = False := eq_false (by decide)
theorem fl_code_38 : ((PySem.Str.ofString "code" : Str) = S [66, 55]) = False := eq_false (by decide)
theorem lf_code_38 : (S [66, 55] = (PySem.Str.ofString "code" : Str)) = False := eq_false (by decide)
theorem fl_code_39 : ((PySem.Str.ofString "code" : Str) = S str_39) = False := eq_false (by decide)
theorem lf_code_39 : (S str_39 = (PySem.Str.ofString "code" : Str)) = False := eq_false (by decide)
theorem fl_code_40 : ((PySem.Str.ofString "code" : Str) = S [43]) = False := eq_false (by decide)
theorem lf_code_40 : (S [43] = (PySem.Str.ofString "code" : Str)) = False := eq_false (by decide)
theorem fl_code_41 : ((PySem.Str.ofString "code" : Str) = S [39]) = False := eq_false (by decide)
theorem lf_code_41 : (S [39] = (PySem.Str.ofString "code" : Str)) = False := eq_false (by decide)
theorem fl_code_42 : ((PySem.Str.ofString "code" : Str) = S [120, 57]) = False := eq_false (by decide)
theorem lf_code_42 : (S [120, 57] = (PySem.Str.ofString "code" : Str)) = False := eq_false (by decide)
theorem fl_code_43 : ((PySem.Str.ofString "code" : Str) = S [35]) = False := eq_false (by decide)
theorem lf_code_43 : (S [35] = (PySem.Str.ofString "code" : Str)) = False := eq_false (by decide)
theorem fl_code_44 : ((PySem.Str.ofString "code" : Str) = S [45, 49]) = False := eq_false (by decide)
theorem lf_code_44 : (S [45, 49] = (PySem.Str.ofString "code" : Str)) = False := eq_false (by decide)
theorem fl_code_45 : ((PySem.Str.ofString "code" : Str) = S [126]) = False := eq_false (by decide)
theorem lf_code_45 : (S [126] = (PySem.Str.ofString "code" : Str)) = False := eq_false (by decide)
theorem fl_code_46 : ((PySem.Str.ofString "code" : Str) = S [32, 32]) = False := eq_false (by decide)
theorem lf_code_46 : (S [32, 32] = (PySem.Str.ofString "code" : Str)) = False := eq_false (by decide)
theorem fl_code_47 : ((PySem.Str.ofString "code" : Str) = S [32, 99, 111, 100, 101]) = False := eq_false (by decide)
theorem lf_code_47 : (S [32, 99, 111, 100, 101] = (PySem.Str.ofString "code" : Str)) = False := eq_false (by decide)
theorem fl_code_48 : ((PySem.Str.ofString "code" : Str) = S [10, 32]) = False := eq_false (by decide)
theorem lf_code_48 : (S [10, 32] = (PySem.Str.ofString "code" : Str)) = False := eq_false (by decide)
theorem fl_code_49 : ((PySem.Str.ofString "code" : Str) = S [92, 32]) = False := eq_false (by decide)
theorem lf_code_49 : (S [92, 32] = (PySem.Str.ofString "code" : Str)) = False := eq_false (by decide)
theorem fl_code_50 : ((PySem.Str.ofString "code" : Str) = S str_50) = False := eq_false (by decide)
theorem lf_code_50 : (S str_50 = (PySem.Str.ofString "code" : Str)) = False := eq_false (by decide)
theorem fl_code_51 : ((PySem.Str.ofString "code" : Str) = S [120]) = False := eq_false (by decide)
theorem lf_code_51 : (S [120] = (PySem.Str.ofString "code" : Str)) = False := eq_false (by decide)
theorem fl_selector_0 : ((PySem.Str.ofString "selector" : Str) = S [108, 111, 99, 97, 108]) = False := eq_false (by decide)
theorem lf_selector_0 : (S [108, 111, 99, 97, 108] = (PySem.Str.ofString "selector" : Str)) = False := eq_false (by decide)
theorem fl_selector_1 : ((PySem.Str.ofString "selector" : Str) = S str_1) = False := eq_false (by decide)
theorem lf_selector_1 : (S str_1 = (PySem.Str.ofString "selector" : Str)) = False := eq_false (by decide)
theorem fl_selector_2 : ((PySem.Str.ofString "selector" : Str) = S [111, 117, 116, 101, 114]) = False := eq_false (by decide)
theorem lf_selector_2 : (S [111, 117, 116, 101, 114] = (PySem.Str.ofString "selector" : Str)) = False := eq_false (by decide)
theorem fl_selector_3 : ((PySem.Str.ofString "selector" : Str) = S str_3) = False := eq_false (by decide)
theorem lf_selector_3 : (S str_3 = (PySem.Str.ofString "selector" : Str)) = False := eq_false (by decide)
theorem fl_selector_4 : ((PySem.Str.ofString "selector" : Str) = S [102, 105, 101, 108, 100]) = False := eq_false (by decide)
theorem lf_selector_4 : (S [102, 105, 101, 108, 100] = (PySem.Str.ofString "selector" : Str)) = False := eq_false (by decide)
theorem fl_selector_5 : ((PySem.Str.ofString "selector" : Str) = S str_5) = False := eq_false (by decide)
theorem lf_selector_5 : (S str_5 = (PySem.Str.ofString "selector" : Str)) = False := eq_false (by decide)
theorem fl_selector_6 : ((PySem.Str.ofString "selector" : Str) = S str_6) = False := eq_false (by decide)
theorem lf_selector_6 : (S str_6 = (PySem.Str.ofString "selector" : Str)) = False := eq_false (by decide)
theorem fl_selector_7 : ((PySem.Str.ofString "selector" : Str) = S [103, 108, 111, 98, 97, 108]) = False := eq_false (by decide)
theorem lf_selector_7 : (S [103, 108, 111, 98, 97, 108] = (PySem.Str.ofString "selector" : Str)) = False := eq_false (by decide)
theorem fl_selector_8 : ((PySem.Str.ofString "selector" : Str) = S str_8) = False := eq_false (by decide)
theorem lf_selector_8 : (S str_8 = (PySem.Str.ofString "selector" : Str)) = False := eq_false (by decide)
theorem fl_selector_9 : ((PySem.Str.ofString "selector" : Str) = S [115, 101, 108, 102]) = False := eq_false (by decide)
theorem lf_selector_9 : (S [115, 101, 108, 102] = (PySem.Str.ofString "selector" : Str)) = False := eq_false (by decide)
theorem fl_selector_10 : ((PySem.Str.ofString "selector" : Str) = S [110, 105, 108]) = False := eq_false (by decide)
theorem lf_selector_10 : (S [110, 105, 108] = (PySem.Str.ofString "selector" : Str)) = False := eq_false (by decide)
theorem fl_selector_11 : ((PySem.Str.ofString "selector" : Str) = S [116, 114, 117, 101]) = False := eq_false (by decide)
theorem lf_selector_11 : (S [116, 114, 117, 101] = (PySem.Str.ofString "selector" : Str)) = False := eq_false (by decide)
theorem fl_selector_12 : ((PySem.Str.ofString "selector" : Str) = S [102, 97, 108, 115, 101]) = False := eq_false (by decide)
theorem lf_selector_12 : (S [102, 97, 108, 115, 101] = (PySem.Str.ofString "selector" : Str)) = False := eq_false (by decide)
theorem fl_selector_13 : ((PySem.Str.ofString "selector" : Str) = S [112, 111, 112]) = False := eq_false (by decide)
theorem lf_selector_13 : (S [112, 111, 112] = (PySem.Str.ofString "selector" : Str)) = False := eq_false (by decide)
theorem fl_selector_14 : ((PySem.Str.ofString "selector" : Str) = S [100, 117, 112]) = False := eq_false (by decide)
theorem lf_selector_14 : (S [100, 117, 112] = (PySem.Str.ofString "selector" : Str)) = False := eq_false (by decide)
theorem fl_selector_15 : ((PySem.Str.ofString "selector" : Str) = S [115, 101, 110, 100]) = False := eq_false (by decide)
theorem lf_selector_15 : (S [115, 101, 110, 100] = (PySem.Str.ofString "selector" : Str)) = False := eq_false (by decide)
theorem fl_selector_16 : ((PySem.Str.ofString "selector" : Str) = S str_16) = False := eq_false (by decide)
theorem lf_selector_16 : (S str_16 = (PySem.Str.ofString "selector" : Str)) = False := eq_false (by decide)
theorem fl_selector_17 : ((PySem.Str.ofString "selector" : Str) = S [98, 108, 111, 99, 107]) = False := eq_false (by decide)
theorem lf_selector_17 : (S [98, 108, 111, 99, 107] = (PySem.Str.ofString "selector" : Str)) = False := eq_false (by decide)
theorem fl_selector_18 : ((PySem.Str.ofString "selector" : Str) = S [106, 117, 109, 112]) = False := eq_false (by decide)
theorem lf_selector_18 : (S [106, 117, 109, 112] = (PySem.Str.ofString "selector" : Str)) = False := eq_false (by decide)
theorem fl_selector_19 : ((PySem.Str.ofString "selector" : Str) = S str_19) = False := eq_false (by decide)
theorem lf_selector_19 : (S str_19 = (PySem.Str.ofString "selector" : Str)) = False := eq_false (by decide)
theorem fl_selector_20 : ((PySem.Str.ofString "selector" : Str) = S [114, 101, 116, 117, 114, 110]) = False := eq_false (by decide)
theorem lf_selector_20 : (S [114, 101, 116, 117, 114, 110] = (PySem.Str.ofString "selector" : Str)) = False := eq_false (by decide)
theorem fl_selector_21 : ((PySem.Str.ofString "selector" : Str) = S [108, 101, 97, 118, 101]) = False := eq_false (by decide)
theorem lf_selector_21 : (S [108, 101, 97, 118, 101] = (PySem.Str.ofString "selector" : Str)) = False := eq_false (by decide)
theorem fl_selector_22 : ((PySem.Str.ofString "selector" : Str) = S str_22) = False := eq_false (by decide)
theorem lf_selector_22 : (S str_22 = (PySem.Str.ofString "selector" : Str)) = False := eq_false (by decide)
theorem fl_selector_23 : ((PySem.Str.ofString "selector" : Str) = S [115, 121, 109, 98, 111, 108]) = False := eq_false (by decide)
theorem lf_selector_23 : (S [115, 121, 109, 98, 111, 108] = (PySem.Str.ofString "selector" : Str)) = False := eq_false (by decide)
theorem fl_selector_25 : ((PySem.Str.ofString "selector" : Str) = S [92]) = False := eq_false (by decide)
theorem lf_selector_25 : (S [92] = (PySem.Str.ofString "selector" : Str)) = False := eq_false (by decide)
theorem fl_selector_26 : ((PySem.Str.ofString "selector" : Str) = S [92, 92]) = False := eq_false (by decide)
theorem lf_selector_26 : (S [92, 92] = (PySem.Str.ofString "selector" : Str)) = False := eq_false (by decide)
theorem fl_selector_27 : ((PySem.Str.ofString "selector" : Str) = S [10]) = False := eq_false (by decide)
theorem lf_selector_27 : (S [10] = (PySem.Str.ofString "selector" : Str)) = False := eq_false (by decide)
theorem fl_selector_28 : ((PySem.Str.ofString "selector" : Str) = S [92, 110]) = False := eq_false (by decide)
theorem lf_selector_28 : (S [92, 110] = (PySem.Str.ofString "selector" : Str)) = False := eq_false (by decide)
theorem fl_selector_29 : ((PySem.Str.ofString "selector" : Str) = S [32]) = False := eq_false (by decide)
theorem lf_selector_29 : (S [32] = (PySem.Str.ofString "selector" : Str)) = False := eq_false (by decide)
theorem fl_selector_30 : ((PySem.Str.ofString "selector" : Str) = S [109, 101, 116, 104, 111, 100]) = False := eq_false (by decide)
theorem lf_selector_30 : (S [109, 101, 116, 104, 111, 100] = (PySem.Str.ofString "selector" : Str)) = False := eq_false (by decide)
theorem fl_selector_31 : ((PySem.Str.ofString "selector" : Str) = S [99, 111, 100, 101]) = False := eq_false (by decide)
theorem lf_selector_31 : (S [99, 111, 100, 101] = (PySem.Str.ofString "selector" : Str)) = False := eq_false (by decide)
theorem fl_selector_32 : ((PySem.Str.ofString "selector" : Str) = S [45]) = False := eq_false (by decide)
theorem lf_selector_32 : (S [45] = (PySem.Str.ofString "selector" : Str)) = False := eq_false (by decide)
theorem fl_selector_33 : ((PySem.Str.ofString "selector" : Str) = S [48]) = False := eq_false (by decide)
theorem lf_selector_33 : (S [48] = (PySem.Str.ofString "selector" : Str)) = False := eq_false (by decide)
theorem fl_selector_34 : ((PySem.Str.ofString "selector" : Str) = S []) = False := eq_false (by decide)
theorem lf_selector_34 : (S [] = (PySem.Str.ofString "selector" : Str)) = False := eq_false (by decide)
theorem fl_selector_35 : ((PySem.Str.ofString "selector" : Str) = S [110]) = False := eq_false (by decide)
theorem lf_selector_35 : (S [110] = (PySem.Str.ofString "selector" : Str)) = False := eq_false (by decide)
theorem fl_selector_36 : ((PySem.Str.ofString "selector" : Str) = S [105, 110, 116]) = False := eq_false (by decide)
theorem lf_selector_36 : (S [105, 110, 116] = (PySem.Str.ofString "selector" : Str)) = False := eq_false (by decide)
theorem fl_selector_37 : ((PySem.Str.ofString "selector" : Str) = S [97]) = False := eq_false (by decide)
theorem lf_selector_37 : (S [97] = (PySem.Str.ofString "selector" : Str)) = False := eq_false (by decide)
theorem fl_selector_38 : ((PySem.Str.ofString "selector" : Str) = S [66, 55]) = False := eq_false (by decide)
theorem lf_selector_38 : (S [66, 55] = (PySem.Str.ofString "selector" : Str)) = False := eq_false (by decide)
theorem fl_selector_39 : ((PySem.Str.ofString "selector" : Str) = S str_39) = False := eq_false (by decide)
theorem lf_selector_39 : (S str_39 = (PySem.Str.ofString "selector" : Str)) = False := eq_false (by decide)
theorem fl_selector_40 : ((PySem.Str.ofString "selector" : Str) = S [43]) = False := eq_false (by decide)
theorem lf_selector_40 : (S [43] = (PySem.Str.ofString "selector" : Str)) = False := eq_false (by decide)
theorem fl_selector_41 : ((PySem.Str.ofString "selector" : Str) = S [39]) = False := eq_false (by decide)
theorem lf_selector_41 : (S [39] = (PySem.Str.ofString "selector" : Str)) = False := eq_false (by decide)
theorem fl_selector_42 : ((PySem.Str.ofString "selector" : Str) = S [120, 57]) = False := eq_false (by decide)
theorem lf_selector_42 : (S [120, 57] = (PySem.Str.ofString "selector" : Str)) = False := eq_false (by decide)
theorem fl_selector_43 : ((PySem.Str.ofString "selector" : Str) = S [35]) = False := eq_false (by decide)
theorem lf_selector_43 : (S [35] = (PySem.Str.ofString "selector" : Str)) = False := eq_false (by decide)
theorem fl_selector_44 : ((PySem.Str.ofString "selector" : Str) = S [45, 49]) = False := eq_false (by decide)
theorem lf_selector_44 : (S [45, 49] = (PySem.Str.ofString "selector" : Str)) = False := eq_false (by decide)
theorem fl_selector_45 : ((PySem.Str.ofString "selector" : Str) = S [126]) = False := eq_false (by decide)
theorem lf_selector_45 : (S [126] = (PySem.Str.ofString "selector" : Str)) = False := eq_false (by decide)
theorem fl_selector_46 : ((PySem.Str.ofString "selector" : Str) = S [32, 32]) = False := eq_false (by decide)
theorem lf_selector_46 : (S [32, 32] = (PySem.Str.ofString "selector" : Str)) = False := eq_false (by decide)
theorem fl_selector_47 : ((PySem.Str.ofString "selector" : Str) = S [32, 99, 111, 100, 101]) = False := eq_false (by decide)
theorem lf_selector_47 : (S [32, 99, 111, 100, 101] = (PySem.Str.ofString "selector" : Str)) = False := eq_false (by decide)
theorem fl_selector_48 : ((PySem.Str.ofString "selector" : Str) = S [10, 32]) = False := eq_false (by decide)
theorem lf_selector_48 : (S [10, 32] = (PySem.Str.ofString "selector" : Str)) = False := eq_false (by decide)
theorem fl_selector_49 : ((PySem.Str.ofString "selector" : Str) = S [92, 32]) = False := eq_false (by decide)
theorem lf_selector_49 : (S [92, 32] = (PySem.Str.ofString "selector" : Str)) = False := eq_false (by decide)
theorem fl_selector_50 : ((PySem.Str.ofString "selector" : Str) = S str_50) = False := eq_false (by decide)
theorem lf_selector_50 : (S str_50 = (PySem.Str.ofString "selector" : Str)) = False := eq_false (by decide)
theorem fl_selector_51 : ((PySem.Str.ofString "selector" : Str) = S [120]) = False := eq_false (by decide)
theorem lf_selector_51 : (S [120] = (PySem.Str.ofString "selector" : Str)) = False := eq_false (by decide)
theorem Txt.ex {P : Program} {w : World} {K : Frag} {mg : Str → Option Value} {A_KilnwardenError : Addr} {A_Malformed : Addr} {A_Draft : Addr} {A_t_OPS : Addr} {A_t_PLAIN : Addr} {A_t_TEXTS : Addr} (h : Txt P w K mg ⟨A_KilnwardenError, A_Malformed, A_Draft, A_t_OPS, A_t_PLAIN, A_t_TEXTS⟩) : ∃ a, Txt P w K mg a := ⟨_, h⟩
end K25

set_option Elab.async false
set_option linter.all false
set_option maxRecDepth 100000
set_option maxHeartbeats 4000000
/-! Pk1: the law's drawing state [script, place, rest, number] -/
namespace PK
open PySem PySem.Spec PyProof.Rows L2 KW
def Sta (K : Frag) (sc : Addr × List Int) (H : Hp) (st : Addr) : Prop := ∃ (i : Nat) (b s : Int), H st = some (.lst [.ref sc.1, .int i, .int b, .int s]) ∧ SqL K H sc.1 (sc.2.map .int) ∧ i ≤ sc.2.length ∧ sc.2.length ≤ 63 ∧ 0 ≤ b ∧ 0 ≤ s ∧ s < 2147483648
def sp_start (K : Frag) : Sp := fun vs H Q _ => ∃ (sc : Addr) (ns : List Int), vs = [.ref sc] ∧ SqL K H sc (ns.map .int) ∧ ns.length ≤ 63 ∧ ∀ st H', H st = none → KW.Fr [] H H' → Sta K (sc, ns) H' st → Q (.ref st) H'
def sp_pick (K : Frag) : Sp := fun vs H Q _ => ∃ (st : Addr) (sc : Addr × List Int) (n : Int), vs = [.ref st, .int n] ∧ 0 < n ∧ n ≤ 1000000000 ∧ Sta K sc H st ∧ ∀ r H', Sta K sc H' st → KW.Fr [st] H H' → 0 ≤ r → r < n → Q (.int r) H'
theorem fr_int {K : Frag} {H H' : Hp} {st sc : Addr} {a : Addr} {r : List V} {ns : List Int} (h : H st = some (.lst (.ref a :: r))) (b : KW.Fr [st] H H') (hS : SqL K H sc (ns.map .int)) : SqL K H' sc (ns.map .int) := by
  have ne : ∀ u, H sc = some u → (u = .lst (ns.map .int) ∨ ∃ o, u = .frz o (.lst (ns.map .int))) → sc ≠ st := by
    rintro u e hu rfl
    rw [h] at e
    cases e
    rcases hu with hu | ⟨o, hu⟩
    · injection hu with hu
      cases ns <;> cases hu
    · cases hu
  rcases hS with (q | ⟨o, q⟩) | q
  · exact .inl (.inl (b _ _ (by simpa using ne _ q (.inl rfl)) q))
  · exact .inl (.inr ⟨o, b _ _ (by simpa using ne _ q (.inr ⟨o, rfl⟩)) q⟩)
  · exact .inr q
theorem Sta.lst {K : Frag} {sc : Addr × List Int} {H : Hp} {st : Addr} (s : Sta K sc H st) : ∃ xs, H st = some (.lst xs) := by
  obtain ⟨i, b, x, h1, _⟩ := s
  exact ⟨_, h1⟩
theorem Sta.fr {K : Frag} {sc : Addr × List Int} {H H' : Hp} {st : Addr} (s : Sta K sc H st) (f : KW.Fr [] H H') : Sta K sc H' st := by
  obtain ⟨i, b, x, h1, h2, h3⟩ := s
  refine ⟨i, b, x, f _ _ (by simp) h1, ?_, h3⟩
  rcases h2 with (q | ⟨o, q⟩) | q
  · exact .inl (.inl (f _ _ (by simp) q))
  · exact .inl (.inr ⟨o, f _ _ (by simp) q⟩)
  · exact .inr q
theorem Sta.new {K : Frag} {sc : Addr × List Int} {H : Hp} {st p : Addr} {o : HO} (s : Sta K sc H st) (hp : H p = none) : Sta K sc (upd H p o) st := s.fr (KW.Fr.new hp)
theorem Sta.ne {K : Frag} {sc : Addr × List Int} {H : Hp} {st p : Addr} (s : Sta K sc H st) (hp : H p = none) : p ≠ st := by
  rintro rfl
  obtain ⟨xs, e⟩ := s.lst
  rw [hp] at e; cases e
theorem pick_s {K : Frag} {sc : Addr × List Int} {H : Hp} {st : Addr} {n : Int} {Q : VK} {E : XK} (h0 : 0 < n) (h1 : n ≤ 1000000000) (s : Sta K sc H st) (q : ∀ r H', Sta K sc H' st → KW.Fr [st] H H' → 0 ≤ r → r < n → Q (.int r) H') : sp_pick K [.ref st, .int n] H Q E := ⟨st, sc, n, rfl, h0, h1, s, q⟩
theorem Fr1.upd {st : Addr} {H : Hp} {o : HO} : KW.Fr [st] H (upd H st o) := fun b u n e => by rw [upd_ne (by simpa using n)]; exact e
/-- a list that stands beside the state -/
theorem fr_ne {H H' : Hp} {st p : Addr} {o : HO} (f : KW.Fr [st] H H') (n : p ≠ st) (h : H p = some o) : H' p = some o := f _ _ (by simpa using n) h
theorem fr_1 {H H' : Hp} {st : Addr} (f : KW.Fr [] H H') : KW.Fr [st] H H' := fun b u _ e => f b u (by simp) e
theorem ix_all {K : Frag} {H : Hp} {p : Addr} {xs : List V} {i : Int} {Q : VK} (h : H p = some (.lst xs)) (h0 : 0 ≤ i) (h1 : i < (xs.length : Int)) (q : ∀ v ∈ xs, Q v H) : uIx K (.ref p) (.int i) H Q := by
  obtain ⟨k, rfl⟩ := Int.eq_ofNat_of_zero_le h0
  obtain ⟨v, hv⟩ : ∃ v, xs[k]? = some v := ⟨_, List.getElem?_eq_getElem (by omega)⟩
  exact ix_l h (atI_nat hv) (q v (List.mem_of_getElem? hv))
theorem ixs_all {K : Frag} {H : Hp} {p : Addr} {xs : List V} {i : Int} {Q : VK} (h : SqL K H p xs) (h0 : 0 ≤ i) (h1 : i < (xs.length : Int)) (q : ∀ v ∈ xs, Q v H) : uIx K (.ref p) (.int i) H Q := by
  obtain ⟨k, rfl⟩ := Int.eq_ofNat_of_zero_le h0
  obtain ⟨v, hv⟩ : ∃ v, xs[k]? = some v := ⟨_, List.getElem?_eq_getElem (by omega)⟩
  exact ix_sl h (atI_nat hv) (q v (List.mem_of_getElem? hv))
/-- a thing that is newer than the state is stored -/
theorem Sta.upd {K : Frag} {sc : Addr × List Int} {H H' : Hp} {st D : Addr} {o : HO} (s0 : Sta K sc H st) (hD : H D = none) (s : Sta K sc H' st) : Sta K sc (upd H' D o) st := by
  have nD := s0.ne hD
  obtain ⟨_, _, _, _, q0, _⟩ := s0
  obtain ⟨i, b, x, h1, h2, h3⟩ := s
  refine ⟨i, b, x, by rw [upd_ne (Ne.symm nD)]; exact h1, ?_, h3⟩
  rcases q0 with q0 | q0
  · have nsc : sc.1 ≠ D := by
      intro e
      rw [e] at q0
      rcases q0 with q | ⟨o, q⟩ <;> (rw [hD] at q; cases q)
    rcases h2 with (q | ⟨o, q⟩) | q
    · exact .inl (.inl (by rw [upd_ne nsc]; exact q))
    · exact .inl (.inr ⟨o, by rw [upd_ne nsc]; exact q⟩)
    · exact .inr q
  · exact .inr q0
end PK

set_option Elab.async false
set_option linter.all false
set_option maxRecDepth 100000
set_option maxHeartbeats 4000000
namespace K25
open PySem PySem.Spec PyProof.Rows L2 KW PK
local macro_rules | `(tactic| walk_at "kw") => `(tactic| simp only [tSeq, tNext, tIfS, tTest, tAnd, tOr, tNot, tAndV, tOrV, tNotV, tIf, tChain, tOp, tUn, tC, tAsg, gName, gSub, gCons, gNil, tRet, tRetN, tDrop, tCons, tNil, tCB, tAug, tSl, tPart, tNoPart, tLst, tTup, tBM, tBM0, uTest, uFor, iRng1, iRng2, iList, uCall, List.map_cons, List.map_nil, List.length_cons, List.length_nil, List.cons_append, List.nil_append, List.replicate, Nat.zero_add, Nat.reduceAdd, Nat.reduceSub, List.getElem?_cons_zero, List.getElem?_cons_succ, List.set_cons_zero, List.set_cons_succ, V.bl.injEq, V.int.injEq, V.str.injEq, V.ref.injEq, V.ty.injEq, List.cons.injEq, and_true, true_and, exists_eq_left', exists_eq_right, exists_eq_left, exists_and_left, exists_and_right, decide_eq_true_eq, Bool.not_eq_true', decide_eq_false_iff_not, Bool.false_eq_true, if_true, if_false, ite_true, ite_false, Bool.not_true, Bool.not_false, reduceCtorEq, decide_true, decide_false, Bool.not_not, isK_int_int, isK_int_bool, isK_int_str, isK_int_list, isK_int_tuple, isK_bool_int, isK_bool_bool, isK_bool_str, isK_str_str, isK_str_int, isK_str_bool, isK_str_tuple, isK_str_list, isK_list_list, isK_list_tuple, isK_tuple_tuple, isK_tuple_list, isOk_int_int, isOk_int_bool, isOk_int_str, isOk_int_list, isOk_int_tuple, isOk_bool_int, isOk_bool_bool, isOk_bool_str, isOk_str_str, isOk_str_int, isOk_str_bool, isOk_str_tuple, isOk_str_list, isOk_list_list, isOk_list_tuple, isOk_tuple_tuple, isOk_tuple_list, isK_dict_dict, isOk_dict_dict, isK_none_int, isK_none_bool, isOk_none_int, isOk_none_bool, tyV, S_inj, S_cat, L2.start, Nat.reduceSub, List.replicate_succ, List.replicate_zero, and_assoc, List.append_nil, Nat.reduceEqDiff, Option.some.injEq, Int.natCast_inj, upd_upd, Int.reducePow, Int.reduceToNat, Int.reduceMul, Int.reduceAdd, Int.reduceSub, Int.reduceLT, Int.reduceLE, Int.reduceNeg, Int.reduceDiv, Int.reduceMod, Nat.reducePow, Nat.reduceMul, S_len, List.length_append, List.length_map, List.length_range, not_true_eq_false, not_false_eq_true, ne_eq, uAdd_e1, uAdd_e2, uSub_e1, uMod_e1, uDiv_e1, uPow_e1, uShl_e1, uNeg_e1, uIAdd_e1, uIAdd_e2, uIAdd_e3, uISub_e1, uLt_e1, uLt_e2, uLe_e1, uGt_e1, uGe_e1, uEq_e1, uEq_e2, uEq_e3, uEq_e4, uEq_e5, uEq_e6, uEq_e7, uEq_e8, uEq_e9, uEq_e10, uEq_e11, uNe_e1, uNe_e2, uNe_e3, uNe_e4, uNe_e5, uNe_e6, uNe_e7, uNe_e8, uNe_e9, uNe_e10, uNe_e11, uIs_e1, uIs_e2, uIs_e3, uIs_e4, uIs_e5, uIs_e6, uIs_e7, uNotIs_e1, uNotIs_e2, uNotIs_e3, uNotIs_e4, uNotIs_e5, uNotIs_e6, uIn_e1, uIn_e2, uIn_e3, uIn_e4, uNotIn_e1, uNotIn_e2, uNotIn_e3, uNotIn_e4, uTru_e1, uTru_e2, uTru_e3, uTru_e4, uIx_e2, uSl_e2, uLen_e1, uAbs_e1, uInt_e1, uInt_e2, uMin2_e1, uIsi_e1, uIsi_e2, uIsi_e3, uIsi_e4, cx_K, uVar_0, uVar_n, uFld, uSFld, uMet, uMake, tDG, tDI, tDNI, tDP, tDD, uMk, uRaise, uDelSl, tCallS, L2.WE, uStr_e1, uStr_e2, uMul2_e1, uMul2_e2, okS_i, okS_s, List.zip_cons_cons, List.zip_nil_left, List.drop_zero, List.drop_succ_cons, List.drop_nil, putF_nil, putF_cons, eq_self, tDNewK, tB, Option.isSome_some, Option.isSome_none, false_and, false_or, or_false, exists_false, Int.zero_add, uLc, wipe, tYes, isEmpty_app, List.isEmpty_cons, List.isEmpty_nil, List.isEmpty_map, Bool.and_false, Bool.and_true, iRev, K25.lit_0, K25.lit_1, K25.lit_2, K25.lit_3, K25.lit_4, K25.lit_5, K25.lit_6, K25.lit_7, K25.lit_8, K25.lit_9, K25.lit_10, K25.lit_11, K25.lit_12, K25.lit_13, K25.lit_14, K25.lit_15, K25.lit_16, K25.lit_17, K25.lit_18, K25.lit_19, K25.lit_20, K25.lit_21, K25.lit_22, K25.lit_23, K25.lit_25, K25.lit_26, K25.lit_27, K25.lit_28, K25.lit_29, K25.lit_30, K25.lit_32, K25.lit_33, K25.lit_34, K25.lit_35, K25.lit_36, K25.lit_37, K25.lit_38, K25.lit_39, K25.lit_40, K25.lit_41, K25.lit_42, K25.lit_43, K25.lit_44, K25.lit_45, K25.lit_46, K25.lit_47, K25.lit_48, K25.lit_49, K25.lit_50, K25.lit_51, K25.fe_selector_argc, K25.fe_selector_locals, K25.fe_selector_stack, K25.fe_selector_code, K25.fe_selector_literals, K25.fe_argc_selector, K25.fe_argc_locals, K25.fe_argc_stack, K25.fe_argc_code, K25.fe_argc_literals, K25.fe_locals_selector, K25.fe_locals_argc, K25.fe_locals_stack, K25.fe_locals_code, K25.fe_locals_literals, K25.fe_stack_selector, K25.fe_stack_argc, K25.fe_stack_locals, K25.fe_stack_code, K25.fe_stack_literals, K25.fe_code_selector, K25.fe_code_argc, K25.fe_code_locals, K25.fe_code_stack, K25.fe_code_literals, K25.fe_literals_selector, K25.fe_literals_argc, K25.fe_literals_locals, K25.fe_literals_stack, K25.fe_literals_code, K25.fl_code_0, K25.lf_code_0, K25.fl_code_1, K25.lf_code_1, K25.fl_code_2, K25.lf_code_2, K25.fl_code_3, K25.lf_code_3, K25.fl_code_4, K25.lf_code_4, K25.fl_code_5, K25.lf_code_5, K25.fl_code_6, K25.lf_code_6, K25.fl_code_7, K25.lf_code_7, K25.fl_code_8, K25.lf_code_8, K25.fl_code_9, K25.lf_code_9, K25.fl_code_10, K25.lf_code_10, K25.fl_code_11, K25.lf_code_11, K25.fl_code_12, K25.lf_code_12, K25.fl_code_13, K25.lf_code_13, K25.fl_code_14, K25.lf_code_14, K25.fl_code_15, K25.lf_code_15, K25.fl_code_16, K25.lf_code_16, K25.fl_code_17, K25.lf_code_17, K25.fl_code_18, K25.lf_code_18, K25.fl_code_19, K25.lf_code_19, K25.fl_code_20, K25.lf_code_20, K25.fl_code_21, K25.lf_code_21, K25.fl_code_22, K25.lf_code_22, K25.fl_code_23, K25.lf_code_23, K25.fl_code_24, K25.lf_code_24, K25.fl_code_25, K25.lf_code_25, K25.fl_code_26, K25.lf_code_26, K25.fl_code_27, K25.lf_code_27, K25.fl_code_28, K25.lf_code_28, K25.fl_code_29, K25.lf_code_29, K25.fl_code_30, K25.lf_code_30, K25.fl_code_32, K25.lf_code_32, K25.fl_code_33, K25.lf_code_33, K25.fl_code_34, K25.lf_code_34, K25.fl_code_35, K25.lf_code_35, K25.fl_code_36, K25.lf_code_36, K25.fl_code_37, K25.lf_code_37, K25.fl_code_38, K25.lf_code_38, K25.fl_code_39, K25.lf_code_39, K25.fl_code_40, K25.lf_code_40, K25.fl_code_41, K25.lf_code_41, K25.fl_code_42, K25.lf_code_42, K25.fl_code_43, K25.lf_code_43, K25.fl_code_44, K25.lf_code_44, K25.fl_code_45, K25.lf_code_45, K25.fl_code_46, K25.lf_code_46, K25.fl_code_47, K25.lf_code_47, K25.fl_code_48, K25.lf_code_48, K25.fl_code_49, K25.lf_code_49, K25.fl_code_50, K25.lf_code_50, K25.fl_code_51, K25.lf_code_51, K25.fl_selector_0, K25.lf_selector_0, K25.fl_selector_1, K25.lf_selector_1, K25.fl_selector_2, K25.lf_selector_2, K25.fl_selector_3, K25.lf_selector_3, K25.fl_selector_4, K25.lf_selector_4, K25.fl_selector_5, K25.lf_selector_5, K25.fl_selector_6, K25.lf_selector_6, K25.fl_selector_7, K25.lf_selector_7, K25.fl_selector_8, K25.lf_selector_8, K25.fl_selector_9, K25.lf_selector_9, K25.fl_selector_10, K25.lf_selector_10, K25.fl_selector_11, K25.lf_selector_11, K25.fl_selector_12, K25.lf_selector_12, K25.fl_selector_13, K25.lf_selector_13, K25.fl_selector_14, K25.lf_selector_14, K25.fl_selector_15, K25.lf_selector_15, K25.fl_selector_16, K25.lf_selector_16, K25.fl_selector_17, K25.lf_selector_17, K25.fl_selector_18, K25.lf_selector_18, K25.fl_selector_19, K25.lf_selector_19, K25.fl_selector_20, K25.lf_selector_20, K25.fl_selector_21, K25.lf_selector_21, K25.fl_selector_22, K25.lf_selector_22, K25.fl_selector_23, K25.lf_selector_23, K25.fl_selector_25, K25.lf_selector_25, K25.fl_selector_26, K25.lf_selector_26, K25.fl_selector_27, K25.lf_selector_27, K25.fl_selector_28, K25.lf_selector_28, K25.fl_selector_29, K25.lf_selector_29, K25.fl_selector_30, K25.lf_selector_30, K25.fl_selector_31, K25.lf_selector_31, K25.fl_selector_32, K25.lf_selector_32, K25.fl_selector_33, K25.lf_selector_33, K25.fl_selector_34, K25.lf_selector_34, K25.fl_selector_35, K25.lf_selector_35, K25.fl_selector_36, K25.lf_selector_36, K25.fl_selector_37, K25.lf_selector_37, K25.fl_selector_38, K25.lf_selector_38, K25.fl_selector_39, K25.lf_selector_39, K25.fl_selector_40, K25.lf_selector_40, K25.fl_selector_41, K25.lf_selector_41, K25.fl_selector_42, K25.lf_selector_42, K25.fl_selector_43, K25.lf_selector_43, K25.fl_selector_44, K25.lf_selector_44, K25.fl_selector_45, K25.lf_selector_45, K25.fl_selector_46, K25.lf_selector_46, K25.fl_selector_47, K25.lf_selector_47, K25.fl_selector_48, K25.lf_selector_48, K25.fl_selector_49, K25.lf_selector_49, K25.fl_selector_50, K25.lf_selector_50, K25.fl_selector_51, K25.lf_selector_51, uAll_e, iTup_e, CwR.tReplC, uTuple_e, uFm_e1, uFm_e2, uIntS_e1, uIntS_e2, uIntS_e3, uEqO_e, tFm, tJs, iStr, S_e, itxt_S, K25.N_Draft_init, K25.N_Draft_parts, K25.N_Draft___eq__, K25.N_escaped, K25.N_joined, K25.N_literal_line, K25.N_list_draft, K25.N_number_in, K25.N_numbers_in, K25.N_unescaped, K25.N_read_head, K25.N_read_text, K25.N_read_literal, K25.N_read_instruction, K25.N_read_listing, K25.N__law_start, K25.N__law_pick, K25.N__law_text, K25.N__law_count, K25.N__law_literal, K25.N__law_plain, K25.N__law_instruction, K25.N__law_written, K25.N__law_lines, K25.N__law_draft, K25.N__law_parts, K25.N__law_changed, K25.N__law_others, K25.N_law])
local macro_rules | `(tactic| walk_at "nn") => `(tactic| first | assumption | exact ne_un (by assumption) | exact ne_un (ne_un (by assumption)) | exact ne_un (ne_un (ne_un (by assumption))) | exact ne_un (ne_un (ne_un (ne_un (by assumption)))))
local macro_rules | `(tactic| walk_at "ne") => `(tactic| first | assumption | (apply Ne.symm; assumption) | exact ne_ud (by assumption) | exact Ne.symm (ne_ud (by assumption)) | exact ne_ud (ne_un (by assumption)) | exact Ne.symm (ne_ud (ne_un (by assumption))) | exact ne_ud (ne_un (ne_un (by assumption))) | exact Ne.symm (ne_ud (ne_un (ne_un (by assumption)))) | exact ne_m (by assumption) (by assumption) | exact Ne.symm (ne_m (by assumption) (by assumption)) | exact ne_n (by assumption) (by walk_at "nn") | exact Ne.symm (ne_n (by assumption) (by walk_at "nn")))
local macro_rules | `(tactic| walk_at "hp") => `(tactic| first | assumption | exact upd_same | (refine Eq.trans (upd_ne ?_) ?_; (focus walk_at "ne"); walk_at "hp"))
local macro_rules | `(tactic| walk_at "sc") => `(tactic| first | (with_reducible assumption) | omega | exact le_line (by (try simp only [List.length_map, List.length_append, List.length_cons, List.length_nil, S_len]); omega) | exact div_s (by omega) | exact mul_r (by omega) | exact mul_l (by omega) | exact pow_s (by omega) | exact mul2_r (by omega) | exact mul2_l (by omega) | exact small4300 (by omega) | exact lt_line (by (try simp only [List.length_map, List.length_append, List.length_cons, List.length_nil, S_len]); omega) | exact ⟨_, by assumption⟩ | (guard_target =~ Exists _; exact ⟨_, .of (by walk_at "hp")⟩) | (guard_target =~ _ ∨ _; exact .inl ⟨_, by assumption⟩) | (guard_target =~ _ ∨ _; exact .inl ⟨_, .of (by walk_at "hp")⟩) | (guard_target =~ _ ∨ _; exact .inr (.inr (.inl ⟨rfl, .inl ⟨_, by walk_at "hp"⟩⟩))) | decide)
local macro_rules | `(tactic| walk_at "kr") => `(tactic| first | (guard_target =~ _ ∧ _; first | refine And.intro (by walk_at "sc") ?_) | (guard_target =~ KW.uIx _ _ _ _ _; first | refine ix_l (by walk_at "hp") (by first | walk_at "hv" | rfl) ?_ | refine ix_t (by walk_at "hp") (by first | walk_at "hv" | rfl) ?_ | refine ix_sl (by assumption) (by walk_at "hv") ?_) | (guard_target =~ KW.uLen _ _ _ _; first | refine len_l (by walk_at "hp") ?_ | refine len_t (by walk_at "hp") ?_ | refine len_sl (by assumption) ?_) | (guard_target =~ KW.uSet _ _ _ _ _; first | refine set_l (by walk_at "hp") (by first | walk_at "hv" | rfl) ?_) | (guard_target =~ L2.gTup _ _ _ _ _ _ _; first | refine tup_l (by walk_at "hp") (by rfl) ?_) | (guard_target =~ KW.uGet _ _ _ _ _; first | refine get_l (by walk_at "hp") (by walk_at "hc") (by decide) (by rfl) ?_) | (guard_target =~ KW.uPut _ _ _ _ _ _; first | refine put_l (by walk_at "hp") (by walk_at "hc") (by decide) (by simp) ?_) | (guard_target =~ KW.uMet.uMt _ _ _ _ _ _ _ _ _; first | refine met_l (by walk_at "hp") (by rfl) ?_) | (guard_target =~ KW.uMet.uMt _ _ _ _ _ _ _ _ _; first | refine ST.met_s (by assumption) (by decide) ?_) | (guard_target =~ ST.spExists _ _ _ _ _; first | refine ST.exists_s (by assumption) ?_) | (guard_target =~ ST.spUsed _ _ _ _ _; first | refine ST.used_s (by assumption) ?_) | (guard_target =~ KW.uGet _ _ _ _ _; first | refine ST.words_s (by assumption) (by walk_at "hc") (by decide) ?_) | (guard_target =~ KW.uDIn _ _ _ _; first | refine din_i (by walk_at "hp") ?_ | refine din_s (by walk_at "hp") ?_) | (guard_target =~ KW.uDGet _ _ _ _; first | refine dget_i (by walk_at "hp") (by walk_at "hv") ?_ | refine dget_s (by walk_at "hp") (by walk_at "hv") ?_) | (guard_target =~ KW.uDPut _ _ _ _ _; first | refine dput_i (by walk_at "hp") (by walk_at "sc") ?_ | refine dput_s (by walk_at "hp") (by walk_at "sc") ?_) | (guard_target =~ KW.uDDel _ _ _ _; first | refine ddel_i (by walk_at "hp") (by walk_at "hv") ?_ | refine ddel_s (by walk_at "hp") (by walk_at "hv") ?_) | (guard_target =~ KW.uMul2 _ _ _ _; first | refine rep_l (by walk_at "hp") (by walk_at "sc") (by walk_at "sc") (by walk_at "sc") ?_) | (guard_target =~ L2.rAppend _ _ _ _; first | refine app_l (by walk_at "hp") (by walk_at "sc") ?_) | (guard_target =~ L2.rPop _ _ _ _; first | refine pop_l (by walk_at "hp") (by walk_at "hv") ?_ | refine pops_l (by walk_at "hp") ?_) | (guard_target =~ L2.rClear _ _ _ _; first | refine clr_l (by walk_at "hp") ?_) | (guard_target =~ L2.rReverse _ _ _ _; first | refine rev_l (by walk_at "hp") ?_) | (guard_target =~ L2.rExtend _ _ _ _; first | refine ext_l (by walk_at "hp") (by walk_at "hp") (by walk_at "sc") ?_) | (guard_target =~ KW.uAdd _ _ _ _ _; first | refine ucat_l (by walk_at "hp") (by walk_at "hp") (by walk_at "sc") ?_) | (guard_target =~ KW.uSl _ _ _ _ _ _; first | refine usl_l (by walk_at "hp") ?_) | (guard_target =~ KW.uTru _ _ _ _; first | refine tru_l (by walk_at "hp") ?_ | refine tru_t (by walk_at "hp") ?_ | refine tru_d (by walk_at "hp") ?_ | refine tru_sl (by assumption) ?_) | (guard_target =~ L2.rIndex _ _ _ _ _; first | refine idx_s (by walk_at "hp") (by assumption) ?_ | refine idx_i (by walk_at "hp") (by assumption) ?_) | (guard_target =~ L2.rIn _ _ _ _ _ _; first | refine in_s (by walk_at "hp") ?_ | refine nin_s (by walk_at "hp") ?_ | refine in_i (by walk_at "hp") ?_ | refine nin_i (by walk_at "hp") ?_) | (guard_target =~ KW.uIsi _ _ _ _; first | refine isi_l (by walk_at "hp") (by decide +kernel) ?_ | refine isi_t (by walk_at "hp") (by decide +kernel) ?_ | refine isi_d (by walk_at "hp") (by decide +kernel) ?_) | (guard_target =~ KW.uList _ _ _ _; first | refine list_l (by walk_at "hp") ?_ | refine list_t (by walk_at "hp") ?_ | refine list_sl (by assumption) ?_) | (guard_target =~ KW.uDict _ _ _; first | refine dict_d (by walk_at "hp") ?_) | (guard_target =~ KW.uSorted _ _ _ _; first | refine srt_l (by walk_at "hp") ?_) | (guard_target =~ KW.uSum _ _ _ _; first | refine sum_l (by walk_at "hp") ?_) | (guard_target =~ KW.uDelC _ _ _ _; first | refine dels_l (by walk_at "hp") (by walk_at "sc") ?_) | (guard_target =~ L2.wAs _ _ _ _ _ _ _ _ _ _; first | refine as_yes (by walk_at "hx") ?_ | refine as_no (by walk_at "hx") ?_) | (guard_target =~ KW.uEf _ _ _ _ _ _ _ _ _; first | refine ef_l (by walk_at "he") (by decide) (by rfl) (by walk_at "hp") (by rfl) ?_) | (guard_target =~ KW.uIsE _ _ _ _ _ _ _; first | refine isE_r (by walk_at "he") (by walk_at "hp") (by walk_at "hk") ?_ | refine isE_t (by walk_at "he") (by walk_at "hp") (by walk_at "hk") ?_))
local macro_rules | `(tactic| walk_at "hv") => `(tactic| first | assumption)
local macro_rules | `(tactic| walk_at "kk") => `(tactic| repeat (first | walk_at "kw" | walk_at "kr"))
local macro_rules | `(tactic| walk_at "hc") => `(tactic| first | exact K25.Txt.c_Draft (by assumption))
local macro_rules | `(tactic| walk_at "he") => `(tactic| first | exact K25.Txt.e_Malformed (by assumption))
local macro_rules | `(tactic| walk_at "hx") => `(tactic| first | fail)
local macro_rules | `(tactic| walk_at "hk") => `(tactic| first | fail)

section
variable {P : Program} {w : World} {K : Frag} {mg : Str → Option Value} {base : Heap} {a : Ads}
theorem ok__law_start (T : Txt P w K mg a) : Cal P w K mg base 1 "_law_start" (sp_start K) := by
  refine T.d__law_start.ok sc__law_start (fun vs H Q E h => ?_) (fun f cdv A outer s H vs Q E hr h => ⟨_, (pss_one (ps_ret (pe_lst (pa_cons (kv 0) (pa_cons pe_int (pa_cons pe_int (pa_cons pe_int pa_nil))))))), ?_⟩)
  · obtain ⟨l, ns, rfl, _⟩ := h; rfl
  · obtain ⟨sc, ns, rfl, hS, hn, h⟩ := h
    walk_at "kw"
    exact ⟨le_line (by decide), fun p hp => h p _ hp (KW.Fr.new hp) ⟨0, 0, 7, upd_same, KW.SqL.new hp hS, Nat.zero_le _, hn, by omega, by omega, by omega⟩⟩
theorem ok__law_pick (T : Txt P w K mg a) : Cal P w K mg base 1 "_law_pick" (sp_pick K) := by
  refine T.d__law_pick.ok sc__law_pick (fun vs H Q E h => ?_) (fun f cdv A outer s H vs Q E hr h => ⟨_, (C8.pss_cut (ps_if (PW.pt (pw_and (pt_cmpR (o_eq hr.units) (pe_ix o_ix (kv 0) pe_int (fun _ _ => rfl)) pe_int (nomark _)) (pw_and1 (pt_cmpR o_lt (pe_ix o_ix (kv 0) pe_int (fun _ _ => rfl)) (pe_callB c_len (by rfl) T.n_len (by decide +kernel) (pa_cons (pe_ix o_ix (kv 0) pe_int (fun _ _ => rfl)) pa_nil)) (nomark _)))))
      (pss_cons (ps_set (i := 2) sc__law_pick.nd rfl (Or.inl rfl) (pe_callB c_abs (by rfl) T.n_abs (by decide +kernel) (pa_cons (pe_ix o_ix (pe_ix o_ix (kv 0) pe_int (fun _ _ => rfl)) (pe_ix o_ix (kv 0) pe_int (fun _ _ => rfl)) (fun _ _ => rfl)) pa_nil)))
      (pss_cons (ps_asg (pe_op o_add (pe_ix o_ix (kv 0) pe_int (fun _ _ => rfl)) pe_int) (pg_sub (kv 0) pe_int s_set))
      (pss_one (ps_if (pt_cmpR o_ge (kv 2) (pe_op o_pow pe_int pe_int) (nomark _))
      (pss_one (ps_asg (kv 2) (pg_sub (kv 0) pe_int s_set)))
      (pss_one (ps_asg (pe_op o_add (pe_op o_mod (pe_callTy c_intS (by rfl) T.n_int (by decide +kernel) (pa_cons (pe_op o_add (pe_op o_mul2 (pe_ix o_ix (kv 0) pe_int (fun _ _ => rfl)) pe_int) (kv 2)) pa_nil)) pe_int) pe_int) (pg_sub (kv 0) pe_int s_set)))))))
      pss_nil)
      (pss_cons (ps_if (pt_cmpR o_gt (pe_ix o_ix (kv 0) pe_int (fun _ _ => rfl)) pe_int (nomark _))
      (pss_cons (ps_set (i := 3) sc__law_pick.nd rfl (Or.inl rfl) (pe_op o_mod (pe_callTy c_intS (by rfl) T.n_int (by decide +kernel) (pa_cons (pe_ix o_ix (kv 0) pe_int (fun _ _ => rfl)) pa_nil)) (kv 1)))
      (pss_cons (ps_asg (pe_op o_fdiv (pe_ix o_ix (kv 0) pe_int (fun _ _ => rfl)) (kv 1)) (pg_sub (kv 0) pe_int s_set))
      (pss_one (ps_ret (kv 3)))))
      pss_nil)
      (pss_cons (ps_asg (pe_op o_mod (pe_callTy c_intS (by rfl) T.n_int (by decide +kernel) (pa_cons (pe_op o_mul2 (pe_ix o_ix (kv 0) pe_int (fun _ _ => rfl)) pe_int) pa_nil)) pe_int) (pg_sub (kv 0) pe_int s_set))
      (pss_one (ps_ret (pe_op o_mod (pe_callTy c_intS (by rfl) T.n_int (by decide +kernel) (pa_cons (pe_op o_add (pe_op o_fdiv (pe_ix o_ix (kv 0) pe_int (fun _ _ => rfl)) pe_int) (pe_op o_mod (pe_callTy c_intS (by rfl) T.n_int (by decide +kernel) (pa_cons (pe_op o_mul2 (pe_ix o_ix (kv 0) pe_int (fun _ _ => rfl)) (pe_ix o_ix (kv 0) pe_int (fun _ _ => rfl))) pa_nil)) pe_int)) pa_nil)) (kv 1))))))), ?_⟩)
  · obtain ⟨l, c, n, rfl, _⟩ := h; rfl
  · obtain ⟨st, ⟨sc, ns⟩, n, rfl, hn0, hn1, ⟨i, b, s, hst, hS, hi, hl, hb, hs0, hs1⟩, h⟩ := h
    dsimp only at hst hS hi hl
    walk_at "kk"
    refine ⟨fun σ H' => ∃ (i : Nat) (b s : Int) (c : Option V), σ = [some (.ref st), some (.int n), c, none] ∧ H' st = some (.lst [.ref sc, .int i, .int b, .int s]) ∧ KW.Fr [st] H H' ∧ i ≤ ns.length ∧ 0 ≤ b ∧ 0 ≤ s ∧ s < 2147483648, ?_, ?_⟩
    · have hbut : KW.Fr [st] H H := fun b o _ e => e
      walk_at "kk"
      split
      · walk_at "kk"
        split
        · walk_at "kk"
          obtain ⟨c, hc⟩ : ∃ c, ns[i]? = some c := ⟨_, List.getElem?_eq_getElem (by omega)⟩
          refine ix_sl hS (atI_nat (v := .int c) (by rw [List.getElem?_map, hc]; rfl)) ?_
          walk_at "kk"
          have hd : 0 ≤ (if c < 0 then -c else c) := by split <;> omega
          generalize (if c < 0 then -c else c) = d at hd ⊢
          split
          · walk_at "kk"
            exact ⟨i + 1, _, _, upd_same, Fr1.upd, by omega, by omega, by omega, by omega⟩
          · walk_at "kk"
            exact ⟨i + 1, _, _, upd_same, Fr1.upd, by omega, by omega, by omega, by omega⟩
        · exact ⟨i, b, s, hst, hbut, hi, hb, hs0, hs1⟩
      · exact ⟨i, b, s, hst, hbut, hi, hb, hs0, hs1⟩
    · rintro σ H' ⟨i, b, s, c, rfl, hst', hbut, hi, hb, hs0, hs1⟩
      walk_at "kk"
      split
      · walk_at "kk"
        exact h _ _ ⟨i, _, _, upd_same, fr_int hst (hbut.trans Fr1.upd) hS, hi, hl, Int.ediv_nonneg hb (by omega), hs0, hs1⟩ (hbut.trans Fr1.upd) (Int.emod_nonneg _ (by omega)) (Int.emod_lt_of_pos _ hn0)
      · walk_at "kk"
        exact h _ _ ⟨i, _, _, upd_same, fr_int hst (hbut.trans Fr1.upd) hS, hi, hl, hb, by omega, by omega⟩ (hbut.trans Fr1.upd) (Int.emod_nonneg _ (by omega)) (Int.emod_lt_of_pos _ hn0)
end
end K25

set_option Elab.async false
set_option linter.all false
set_option maxRecDepth 100000
set_option maxHeartbeats 4000000
/-! Ls1: listings of code: what reading a line gives; promises -/
namespace LS
open PySem PySem.Spec PyProof.Rows L2 KW
abbrev tMETHOD : List Nat := [109, 101, 116, 104, 111, 100]
abbrev tCODE : List Nat := [99, 111, 100, 101]
abbrev tINT : List Nat := [105, 110, 116]
abbrev tBLOCK : List Nat := [98, 108, 111, 99, 107]
abbrev tSYMBOL : List Nat := [115, 121, 109, 98, 111, 108]
def tTEXTS : List (List Nat) := [tSYMBOL, [103, 108, 111, 98, 97, 108], [115, 101, 108, 101, 99, 116, 111, 114]]
def DIG : List Nat := [48, 49, 50, 51, 52, 53, 54, 55, 56, 57]
def tPLAIN : List (List Nat) := [[115, 101, 108, 102], [110, 105, 108], [116, 114, 117, 101], [102, 97, 108, 115, 101], [112, 111, 112], [100, 117, 112], [114, 101, 116, 117, 114, 110], [108, 101, 97, 118, 101]]
def tOTHER : List (List Nat) := [[108, 111, 99, 97, 108], [115, 101, 116, 95, 108, 111, 99, 97, 108], [111, 117, 116, 101, 114], [115, 101, 116, 95, 111, 117, 116, 101, 114], [102, 105, 101, 108, 100], [115, 101, 116, 95, 102, 105, 101, 108, 100],
  [108, 105, 116, 101, 114, 97, 108], [103, 108, 111, 98, 97, 108], [115, 101, 116, 95, 103, 108, 111, 98, 97, 108], [115, 101, 110, 100], [115, 117, 112, 101, 114, 95, 115, 101, 110, 100], [98, 108, 111, 99, 107], [106, 117, 109, 112], [106, 117, 109, 112, 95, 102, 97, 108, 115, 101]]
/-! ### numbers -/
def dgs (w : List Nat) : List Nat := if w.take 1 = [45] then w.drop 1 else w
/-- the number that a word writes -/
def numIn (w : List Nat) : Option Int :=
  if (dgs w).length < 1 ∨ 9 < (dgs w).length ∨ ¬ ∀ c ∈ dgs w, c ∈ DIG then none
  else if (dgs w)[0]? = some 48 ∧ w ≠ [48] then none
  else some (if w.take 1 = [45] then -((PySem.NumText.digitsVal (dgs w) : Nat) : Int) else (PySem.NumText.digitsVal (dgs w) : Nat))
def numsIn (ws : List (List Nat)) (n : Nat) : Option (List Int) := if ws.length ≠ n then none else ws.mapM numIn
/-! ### texts -/
/-- the text that is written: what was found, whether a backslash waits -/
def unSt : List Nat → Bool → List Nat → Option (List Nat)
  | acc, w, [] => if w = true then none else some acc
  | acc, w, c :: r => if w = true then (if c = 110 then unSt (acc ++ [10]) false r else if c = 92 then unSt (acc ++ [92]) false r else none) else if c = 92 then unSt acc true r else unSt (acc ++ [c]) false r
def rdText (k l : List Nat) : Option (List V) := match unSt [] false (l.drop (k.length + 1)) with
  | none => none
  | some t => if k ≠ tSYMBOL ∧ (t = [] ∨ 32 ∈ t ∨ 10 ∈ t) then none else some [.str (S k), .str (S t)]
/-! ### lines -/
def fst (l : List Nat) : List Nat := (wds l).headD []
def rst (l : List Nat) : List (List Nat) := (wds l).tail
def rdHead (l : List Nat) : Option (List Nat × List Int) :=
  if fst l ≠ tMETHOD ∨ (wds l).length ≠ 5 ∨ (rst l).headD [] = [] then none else (numsIn (rst l).tail 3).map fun is => ((rst l).headD [], is)
def rdLit (l : List Nat) : Option (List V) :=
  if fst l ∈ tTEXTS ∧ 1 < (wds l).length then rdText (fst l) l
  else if fst l = tINT then (numsIn (rst l) 1).map fun is => .str (S tINT) :: is.map .int
  else if fst l = tBLOCK then (numsIn (rst l) 4).map fun is => .str (S tBLOCK) :: is.map .int
  else none
def rdIns (l : List Nat) : Option (List V) :=
  if fst l ∈ tPLAIN then (if (rst l).length ≠ 0 then none else some [.str (S (fst l)), .int 0])
  else if fst l ∉ tOTHER then none
  else match numsIn (rst l) 1 with
    | some [n] => if n < 0 ∨ 65535 < n then none else some [.str (S (fst l)), .int n]
    | _ => none
def goC : Nat → List (List V) → List (List Nat) → Nat ⊕ List (List V)
  | _, code, [] => .inr code
  | k, code, l :: r => match rdIns l with
    | none => .inl k
    | some i => goC (k + 1) (code ++ [i]) r
def goL : Nat → List (List V) → List (List Nat) → Nat ⊕ (List (List V) × List (List V))
  | k, _, [] => .inl k
  | k, lits, l :: r => if l = tCODE then (match goC (k + 1) [] r with
      | .inl e => .inl e
      | .inr c => .inr (c, lits))
    else match rdLit l with
      | none => .inl k
      | some x => goL (k + 1) (lits ++ [x]) r
/-- a draft's parts -/
structure Dra where
  sel : List Nat
  is : List Int
  code : List (List V)
  lits : List (List V)
def rdAll : List (List Nat) → Nat ⊕ Dra
  | [] => .inl 0
  | h :: r => match rdHead h with
    | none => .inl 0
    | some (b, is) => match goL 1 [] r with
      | .inl e => .inl e
      | .inr (c, t) => .inr ⟨b, is, c, t⟩
/-! ### in the heap -/
def sV (w : List Nat) : V := .str (S w)
/-- an error with the place at_ -/
def Bad (MF : Addr) (E : XK) (H : Hp) (i : Nat) : Prop := ∀ H' d, KW.Fr [] H H' → H' d = none → E (.ref MF) (some d) (upd H' d (.xd [("at", .int i)]))
/-- a list of tuples -/
def TLs (H : Hp) (p : Addr) (xs : List (List V)) : Prop := ∃ as : List Addr, H p = some (.lst (as.map V.ref)) ∧ as.length = xs.length ∧ ∀ (i : Nat) (a : Addr) (x : List V), as[i]? = some a → xs[i]? = some x → H a = some (.tup x)
theorem TLs.fr {H H' : Hp} {p : Addr} {xs : List (List V)} (h : TLs H p xs) (f : KW.Fr [] H H') : TLs H' p xs := by
  obtain ⟨as, h1, h2, h3⟩ := h
  exact ⟨as, f _ _ (by simp) h1, h2, fun i a x e1 e2 => f _ _ (by simp) (h3 i a x e1 e2)⟩
theorem Bad.fr {MF : Addr} {E : XK} {H H1 : Hp} {i : Nat} (b : Bad MF E H i) (f : KW.Fr [] H H1) : Bad MF E H1 i := fun H' d f' hd => b H' d (f.trans f') hd
theorem Bad.here {MF : Addr} {E : XK} {H : Hp} {i : Nat} (b : Bad MF E H i) {d : Addr} (hd : H d = none) : E (.ref MF) (some d) (upd H d (.xd [("at", .int i)])) := b H d (KW.Fr.refl H) hd
/-! ### promises -/
def Line (l : List Nat) : Prop := l.length ≤ 100000 ∧ ∀ c ∈ l, c < 1114112
def spNumIn (MF : Addr) : Sp := fun vs H Q E => ∃ (w : List Nat) (i : Nat), vs = [.str (S w), .int i] ∧ Line w ∧ i ≤ 100000 ∧ (numIn w = none → Bad MF E H i) ∧ ∀ n, numIn w = some n → ∀ H', KW.Fr [] H H' → Q (.int n) H'
def spNumsIn (MF : Addr) : Sp := fun vs H Q E => ∃ (p : Addr) (ws : List (List Nat)) (n i : Nat), vs = [.ref p, .int n, .int i] ∧ H p = some (.lst (ws.map sV)) ∧ (∀ w ∈ ws, Line w) ∧ ws.length ≤ 100001 ∧ i ≤ 100000 ∧ (numsIn ws n = none → Bad MF E H i) ∧
  ∀ is, numsIn ws n = some is → ∀ H' D, KW.Fr [] H H' → H D = none → H' D = some (.lst (is.map V.int)) → Q (.ref D) H'
def spUnesc (MF : Addr) : Sp := fun vs H Q E => ∃ (l : List Nat) (i : Nat), vs = [.str (S l), .int i] ∧ Line l ∧ i ≤ 100000 ∧ (unSt [] false l = none → Bad MF E H i) ∧ ∀ t, unSt [] false l = some t → Q (.str (S t)) H
def spRdHead (MF : Addr) : Sp := fun vs H Q E => ∃ l, vs = [.str (S l)] ∧ Line l ∧ (rdHead l = none → Bad MF E H 0) ∧ ∀ b is, rdHead l = some (b, is) → ∀ H' D, KW.Fr [] H H' → H D = none → H' D = some (.lst (sV b :: is.map V.int)) → Q (.ref D) H'
def spRdText (MF : Addr) : Sp := fun vs H Q E => ∃ (k l : List Nat) (i : Nat), vs = [.str (S k), .str (S l), .int i] ∧ Line k ∧ Line l ∧ i ≤ 100000 ∧ (rdText k l = none → Bad MF E H i) ∧ ∀ x, rdText k l = some x → ∀ H' D, KW.Fr [] H H' → H D = none → H' D = some (.tup x) → Q (.ref D) H'
def spRdLine (rd : List Nat → Option (List V)) (MF : Addr) : Sp := fun vs H Q E => ∃ (l : List Nat) (i : Nat), vs = [.str (S l), .int i] ∧ Line l ∧ i ≤ 100000 ∧ (rd l = none → Bad MF E H i) ∧ ∀ x, rd l = some x → ∀ H' D, KW.Fr [] H H' → H D = none → H' D = some (.tup x) → Q (.ref D) H'
/-- a draft that stands -/
def Drf (CD : Addr) (H : Hp) (d : Addr) (x : Dra) : Prop := ∃ (dx pc pl : Addr) (n1 n2 n3 : Int), x.is = [n1, n2, n3] ∧
  H d = some (.ins CD dx [("selector", .str (S x.sel)), ("argc", .int n1), ("locals", .int n2), ("stack", .int n3), ("code", .ref pc), ("literals", .ref pl)]) ∧ TLs H pc x.code ∧ TLs H pl x.lits
theorem Drf.fr {CD : Addr} {H H' : Hp} {d : Addr} {x : Dra} (h : Drf CD H d x) (f : KW.Fr [] H H') : Drf CD H' d x := by
  obtain ⟨dx, pc, pl, n1, n2, n3, h0, h1, h2, h3⟩ := h
  exact ⟨dx, pc, pl, n1, n2, n3, h0, f _ _ (by simp) h1, h2.fr f, h3.fr f⟩
def spReadL (MF CD : Addr) : Sp := fun vs H Q E => ∃ (p : Addr) (ls : List (List Nat)), vs = [.ref p] ∧ H p = some (.lst (ls.map sV)) ∧ (∀ l ∈ ls, Line l) ∧ ls.length ≤ 1000 ∧ (∀ e, rdAll ls = .inl e → Bad MF E H e) ∧
  ∀ x, rdAll ls = .inr x → ∀ H' d, KW.Fr [] H H' → H d = none → Drf CD H' d x → Q (.ref d) H'
/-! ### signs -/
theorem cut_to (l : List Nat) (j : Nat) {x : Int} (e : x = j) : cutS (S l) none (some x) = S (l.take j) := by
  subst e
  exact cutS_S l 0 j
theorem cut_from (l : List Nat) {i : Nat} {x : Int} (e : x = i) : cutS (S l) (some x) none = S (l.drop i) := by
  subst e
  unfold cutS
  rw [HT.sIx_nat]
  refine congrArg S ?_
  show ((S l).cps.toList.drop (min i (S l).length)).take ((S l).length - min i (S l).length) = l.drop i
  rw [S_len, cps_S]
  by_cases h : i ≤ l.length
  · rw [Nat.min_eq_left h, List.take_of_length_le (by rw [List.length_drop]; omega)]
  · rw [Nat.min_eq_right (by omega), List.drop_length, List.drop_eq_nil_of_le (by omega)]
    simp
theorem mem_S {x : List Nat} {xs : List (List Nat)} : (S x ∈ xs.map S) = (x ∈ xs) := by
  rw [List.mem_map]
  exact propext ⟨fun ⟨y, h, e⟩ => S_inj.mp e ▸ h, fun h => ⟨x, h, rfl⟩⟩
/-! ### numbers -/
theorem dig_iff {c : Nat} : c ∈ DIG ↔ 48 ≤ c ∧ c ≤ 57 := by
  simp only [DIG, List.mem_cons, List.not_mem_nil, or_false]
  omega
open PySem.NumText in
theorem int_of_num {w : List Nat} {n : Int} (h : numIn w = some n) : PySem.intText? (S w) = some n ∧ w.length ≤ 640 := by
  unfold numIn at h
  by_cases c1 : (dgs w).length < 1 ∨ 9 < (dgs w).length ∨ ¬ ∀ c ∈ dgs w, c ∈ DIG
  · rw [if_pos c1] at h; cases h
  rw [if_neg c1] at h
  by_cases c2 : (dgs w)[0]? = some 48 ∧ w ≠ [48]
  · rw [if_pos c2] at h; cases h
  rw [if_neg c2] at h
  have h1 : ¬ (dgs w).length < 1 := fun z => c1 (.inl z)
  have h2 : ¬ 9 < (dgs w).length := fun z => c1 (.inr (.inl z))
  have h3 : ∀ c ∈ dgs w, c ∈ DIG := Classical.byContradiction fun z => c1 (.inr (.inr z))
  have al : PySem.NumText.AllDigits (dgs w) := fun c hc => dig_iff.mp (h3 c hc)
  have ne : dgs w ≠ [] := fun z => h1 (by rw [z]; decide)
  by_cases c3 : w.take 1 = [45]
  · rw [if_pos c3] at h
    have ed : dgs w = w.drop 1 := by unfold dgs; rw [if_pos c3]
    have ew : w = 45 :: w.drop 1 := by
      have := List.take_append_drop 1 w
      rw [c3] at this
      exact this.symm
    have lw : w.length ≤ 640 := by
      rw [ew, List.length_cons, ← ed]; omega
    refine ⟨?_, lw⟩
    rw [← Option.some.inj h, ed]
    rw [ed] at al ne
    exact intText_neg (x := S w) (cs := w.drop 1) ew al ne (by rw [S_len]; omega)
  · rw [if_neg c3] at h
    have ed : dgs w = w := by unfold dgs; rw [if_neg c3]
    rw [ed] at al ne h h2
    refine ⟨?_, by omega⟩
    rw [← Option.some.inj h]
    exact intText_digits (x := S w) al ne (by rw [S_len]; omega)
theorem nat4300 {i : Nat} (h : i ≤ 100000) : ((i : Nat) : Int).natAbs < 10 ^ 4300 := by
  rw [Int.natAbs_natCast]
  refine Nat.lt_of_lt_of_le (show i < 10 ^ 6 by omega) (Nat.pow_le_pow_right (by decide) (by decide))
/-! ### rows of words -/
theorem mapM_cons' {α β : Type} {f : α → Option β} {x : α} {r : List α} : (x :: r).mapM f = match f x with
    | none => none
    | some b => (r.mapM f).map (b :: ·) := by
  rw [List.mapM_cons]
  cases f x with
  | none => rfl
  | some b => cases r.mapM f <;> rfl
theorem mapM_snoc {α β : Type} {f : α → Option β} : ∀ {l : List α} {a : List β} {x : α} {b : β}, l.mapM f = some a → f x = some b → (l ++ [x]).mapM f = some (a ++ [b])
  | [], a, x, b, h, e => by
    have : a = [] := by simpa using h.symm
    subst this
    simp [mapM_cons', e]
  | y :: r, a, x, b, h, e => by
    rw [mapM_cons'] at h
    rw [List.cons_append, mapM_cons']
    cases e1 : f y with
    | none => rw [e1] at h; cases h
    | some c =>
      rw [e1] at h
      cases e2 : r.mapM f with
      | none => rw [e2] at h; cases h
      | some a' =>
        rw [e2] at h
        cases h
        rw [mapM_snoc e2 e]
        rfl
theorem mapM_bad {α β : Type} {f : α → Option β} : ∀ {l : List α} {x : α}, x ∈ l → f x = none → l.mapM f = none
  | y :: r, x, h, e => by
    rw [mapM_cons']
    rcases List.mem_cons.mp h with rfl | h
    · rw [e]
    · cases f y with
      | none => rfl
      | some b => rw [mapM_bad h e]; rfl
theorem mapM_len {α β : Type} {f : α → Option β} : ∀ {l : List α} {a : List β}, l.mapM f = some a → a.length = l.length
  | [], a, h => by
    have : a = [] := by simpa using h.symm
    rw [this]; rfl
  | y :: r, a, h => by
    rw [mapM_cons'] at h
    cases e1 : f y with
    | none => rw [e1] at h; cases h
    | some c =>
      rw [e1] at h
      cases e2 : r.mapM f with
      | none => rw [e2] at h; cases h
      | some a' =>
        rw [e2] at h
        cases h
        rw [List.length_cons, List.length_cons, mapM_len e2]
theorem fr_at {H H' : Hp} {D : Addr} {o : HO} (hD : H D = none) (f : KW.Fr [] H H') : KW.Fr [] H (upd H' D o) := fun b u n e => by
  rw [upd_ne (ne_of_none e hD)]
  exact f b u n e
theorem wdsGo_mem : ∀ (l acc : List Nat) {w : List Nat} {c : Nat}, w ∈ wdsGo acc l → c ∈ w → c ∈ acc ∨ c ∈ l
  | [], acc, w, c, h, hc => by
    have : w = acc := by simpa [wdsGo] using h
    subst this
    exact .inl hc
  | x :: r, acc, w, c, h, hc => by
    unfold wdsGo at h
    split at h
    · rcases List.mem_cons.mp h with rfl | h
      · exact .inl hc
      · rcases wdsGo_mem r [] h hc with z | z
        · cases z
        · exact .inr (List.mem_cons_of_mem _ z)
    · rcases wdsGo_mem r (acc ++ [x]) h hc with z | z
      · rcases List.mem_append.mp z with z | z
        · exact .inl z
        · have : c = x := by simpa using z
          exact .inr (by rw [this]; exact List.mem_cons_self)
      · exact .inr (List.mem_cons_of_mem _ z)
theorem wds_line {l w : List Nat} (hl : Line l) (h : w ∈ wds l) : Line w := by
  refine ⟨Nat.le_trans (wds_le h) hl.1, fun c hc => ?_⟩
  rcases wdsGo_mem l [] h hc with z | z
  · cases z
  · exact hl.2 c z
theorem split_v {l : List Nat} {H : Hp} {Q : VK} (q : ∀ p, H p = none → ∀ w0 ws, wds l = w0 :: ws → fst l = w0 → rst l = ws → Q (.ref p) (upd H p (.lst (sV w0 :: ws.map sV)))) : rNewStrs (Txt.split (S l) (S [32])) H Q := by
  refine split_w fun p hp => ?_
  cases e : wds l with
  | nil => exact absurd e (wds_ne l)
  | cons w0 ws => exact q p hp w0 ws e (by unfold fst; rw [e]; rfl) (by unfold rst; rw [e]; rfl)
theorem line_drop {l : List Nat} (h : Line l) (n : Nat) : Line (l.drop n) := ⟨by have := h.1; rw [List.length_drop]; omega, fun c hc => h.2 c (List.mem_of_mem_drop hc)⟩
theorem fr_no {H H' : Hp} {p : Addr} (f : KW.Fr [] H H') (h : H' p = none) : H p = none := by
  cases e : H p with
  | none => rfl
  | some o => rw [f p o (by simp) e] at h; cases h
def tOPS : List (List Nat) := [[108, 111, 99, 97, 108], [115, 101, 116, 95, 108, 111, 99, 97, 108], [111, 117, 116, 101, 114], [115, 101, 116, 95, 111, 117, 116, 101, 114], [102, 105, 101, 108, 100], [115, 101, 116, 95, 102, 105, 101, 108, 100],
  [108, 105, 116, 101, 114, 97, 108], [103, 108, 111, 98, 97, 108], [115, 101, 116, 95, 103, 108, 111, 98, 97, 108], [115, 101, 108, 102], [110, 105, 108], [116, 114, 117, 101], [102, 97, 108, 115, 101], [112, 111, 112], [100, 117, 112], [115, 101, 110, 100], [115, 117, 112, 101, 114, 95, 115, 101, 110, 100], [98, 108, 111, 99, 107],
  [106, 117, 109, 112], [106, 117, 109, 112, 95, 102, 97, 108, 115, 101], [114, 101, 116, 117, 114, 110], [108, 101, 97, 118, 101]]
theorem mem_ops {w : List Nat} : w ∈ tOPS ↔ w ∈ tPLAIN ∨ w ∈ tOTHER := by
  have h : tOPS.Perm (tPLAIN ++ tOTHER) := by decide
  rw [h.mem_iff, List.mem_append]
theorem plain_other {w : List Nat} (h : w ∈ tPLAIN) : w ∉ tOTHER := by
  have : ∀ w ∈ tPLAIN, w ∉ tOTHER := by decide
  exact this w h
section
variable {K : Frag} {H : Hp} {l : Addr} {Q : VK} {x : List Nat} {xs : List (List Nat)}
theorem mem_dec : decide (S x ∈ xs.map S) = decide (x ∈ xs) := decide_eq_decide.mpr (by rw [mem_S])
theorem in_g (h : SqT K H l (xs.map sV)) (q : Q (.bl (decide (x ∈ xs))) H) : rIn K false (.str (S x)) (.ref l) H Q := ⟨l, _, rfl, .inr h, rfl, by rw [show xs.map sV = (xs.map S).map V.str by rw [List.map_map]; rfl]; exact flat_strs _, by rw [show xs.map sV = (xs.map S).map V.str by rw [List.map_map]; rfl, inV_strs, mem_dec]; exact q⟩
theorem nin_g (h : SqT K H l (xs.map sV)) (q : Q (.bl (!decide (x ∈ xs))) H) : rIn K true (.str (S x)) (.ref l) H Q := ⟨l, _, rfl, .inr h, rfl, by rw [show xs.map sV = (xs.map S).map V.str by rw [List.map_map]; rfl]; exact flat_strs _, by rw [show xs.map sV = (xs.map S).map V.str by rw [List.map_map]; rfl, inV_strs, mem_dec]; exact q⟩
end
end LS

set_option Elab.async false
set_option linter.all false
set_option maxRecDepth 100000
set_option maxHeartbeats 4000000
/-! Ls2: drafts in the heap -/
namespace LS
open PySem PySem.Spec PyProof.Rows L2 KW
/-! ### drafts made -/
def spDraftI (CD : Addr) : Sp := fun vs H Q _ => ∃ (x dx pc pl : Addr) (sel : List Nat) (n1 n2 n3 : Int) (code lits : List (List V)), vs = [.ref x, .str (S sel), .int n1, .int n2, .int n3, .ref pc, .ref pl] ∧ H x = some (.ins CD dx []) ∧ TLs H pc code ∧ TLs H pl lits ∧
  ∀ H', KW.Fr [x] H H' → Drf CD H' x ⟨sel, [n1, n2, n3], code, lits⟩ → Q .non H'
theorem TLs.ex {H : Hp} {p : Addr} {xs : List (List V)} (h : TLs H p xs) {i : Nat} {x : List V} (e : xs[i]? = some x) : ∃ (as : List Addr) (a : Addr), H p = some (.lst (as.map V.ref)) ∧ as[i]? = some a ∧ H a = some (.tup x) ∧ as.length = xs.length := by
  obtain ⟨as, h1, h2, h3⟩ := h
  have hi := (List.getElem?_eq_some_iff.mp e).1
  have hi' : i < as.length := by omega
  exact ⟨as, as[i], h1, List.getElem?_eq_getElem hi', h3 i _ x (List.getElem?_eq_getElem hi') e, h2⟩
theorem TLs.nil {H : Hp} {p : Addr} (h : H p = some (.lst [])) : TLs H p [] := ⟨[], h, rfl, fun i a x e => by simp at e⟩
theorem TLs.add {H H' : Hp} {p D : Addr} {xs : List (List V)} {x : List V} {acc : List V} (h : TLs H p xs) (f : KW.Fr [] H H') (hp : H' p = some (.lst acc)) (hD : H' D = some (.tup x)) : TLs (upd H' p (.lst (acc ++ [.ref D]))) p (xs ++ [x]) := by
  obtain ⟨as, h1, h2, h3⟩ := h.fr f
  rw [hp] at h1
  cases h1
  refine ⟨as ++ [D], by rw [upd_same]; simp, by simp [h2], fun i a y e1 e2 => ?_⟩
  have ne : ∀ {b : Addr} {z : List V}, H' b = some (.tup z) → b ≠ p := fun e z => by rw [z, hp] at e; cases e
  by_cases hi : i < as.length
  · rw [List.getElem?_append_left hi] at e1
    rw [List.getElem?_append_left (by omega)] at e2
    have := h3 i a y e1 e2
    rw [upd_ne (ne this)]
    exact this
  · rw [List.getElem?_append_right (by omega)] at e1
    rw [List.getElem?_append_right (by omega)] at e2
    have i0 : i - as.length = 0 := by
      have := (List.getElem?_eq_some_iff.mp e1).1
      simp only [List.length_cons, List.length_nil] at this
      omega
    rw [i0] at e1
    rw [show i - xs.length = 0 by omega] at e2
    cases e1; cases e2
    rw [upd_ne (ne hD)]
    exact hD
theorem lit_code : PySem.Str.ofString "code" = S tCODE := by decide +kernel
theorem lit_selector : PySem.Str.ofString "selector" = S [115, 101, 108, 101, 99, 116, 111, 114] := by decide +kernel
/-! ### joined -/
theorem sum_le {B : Nat} : ∀ {W : List (List Nat)}, (∀ w ∈ W, w.length ≤ B) → (W.map List.length).sum ≤ W.length * B
  | [], _ => by simp
  | a :: r, h => by
    have h1 := sum_le (W := r) fun w hw => h w (List.mem_cons_of_mem _ hw)
    have h2 := h a List.mem_cons_self
    simp only [List.map_cons, List.sum_cons, List.length_cons, Nat.add_mul, Nat.one_mul]
    omega
theorem joinL_len : ∀ W : List (List Nat), (TL.joinL [32] W).length ≤ (W.map List.length).sum + W.length
  | [] => by simp [TL.joinL]
  | [p] => by simp [TL.joinL]
  | p :: q :: r => by
    have h := joinL_len (q :: r)
    show (p ++ ([32] ++ TL.joinL [32] (q :: r))).length ≤ _
    simp only [List.length_append, List.map_cons, List.sum_cons, List.length_cons, List.length_nil] at h ⊢
    omega
theorem joinL_cps {W : List (List Nat)} (h : ∀ w ∈ W, ∀ c ∈ w, c < 1114112) : ∀ c ∈ TL.joinL [32] W, c < 1114112 := by
  induction W with
  | nil => simp [TL.joinL]
  | cons p r ih =>
    have ih := ih fun w hw => h w (List.mem_cons_of_mem _ hw)
    cases r with
    | nil => exact fun c hc => h p List.mem_cons_self c hc
    | cons q r =>
      intro c hc
      have hc : c ∈ p ++ ([32] ++ TL.joinL [32] (q :: r)) := hc
      rcases List.mem_append.mp hc with z | z
      · exact h p List.mem_cons_self c z
      · rcases List.mem_append.mp z with z | z
        · have : c = 32 := by simpa using z
          rw [this]; decide
        · exact ih c z
theorem join_S (W : List (List Nat)) : Txt.join (S [32]) (W.map S) = S (TL.joinL [32] W) := by
  rw [TL.join_eq, ← S_tl (Str.join (S [32]) (W.map S))]
  refine congrArg S ?_
  have h := TL.tl_join (S [32]) (W.map S)
  rw [List.map_map] at h
  have e : (TL.tl ∘ S : List Nat → List Nat) = id := rfl
  rw [e, List.map_id] at h
  exact h
theorem TLs.off {H : Hp} {p q : Addr} {xs : List (List V)} {o : List V} {ys : List V} (h : TLs H p xs) (n : p ≠ q) (hq : H q = some (.lst o)) : TLs (upd H q (.lst ys)) p xs := by
  obtain ⟨as, h1, h2, h3⟩ := h
  refine ⟨as, by rw [upd_ne n]; exact h1, h2, fun i a x e1 e2 => ?_⟩
  have h4 := h3 i a x e1 e2
  rw [upd_ne (show a ≠ q from fun z => by rw [z, hq] at h4; cases h4)]
  exact h4
theorem last_at {as : List Addr} {v : V} : atI (as.map V.ref ++ [v]) (((as.length + 1 : Nat) : Int) - 1) = some v := by
  have : (((as.length + 1 : Nat) : Int) - 1) = ((as.map V.ref).length : Nat) := by rw [List.length_map]; omega
  rw [this]
  exact atI_nat (by rw [List.getElem?_append_right (Nat.le_refl _), Nat.sub_self]; rfl)
/-! ### drafts as data -/
/-- a value of a tuple of a draft: an int, or a text of signs -/
def VOk : V → Prop
  | .int _ => True
  | .str x => ∀ c ∈ x.cps.toList, c < 1114112
  | _ => False
structure Dra.ok (x : Dra) : Prop where
  sel : ∀ c ∈ x.sel, c < 1114112
  code : ∀ t ∈ x.code, ∀ v ∈ t, VOk v
  lits : ∀ t ∈ x.lits, ∀ v ∈ t, VOk v
def dV : V → PyData
  | .int i => .int i
  | .str x => .str x
  | _ => .none
theorem dp_V {K : Frag} {H : Hp} {v : V} (h : VOk v) : Dp K H v (dV v) := by
  cases v <;> simp only [VOk] at h <;> constructor
theorem dpAll_V {K : Frag} {H : Hp} : ∀ {vs : List V}, (∀ v ∈ vs, VOk v) → DpAll K H vs (vs.map dV)
  | [], _ => .nil
  | v :: vs, h => .cons (dp_V (h v List.mem_cons_self)) (dpAll_V fun u hu => h u (List.mem_cons_of_mem _ hu))
theorem lay_V {v : V} (h : VOk v) : PyData.canLay0 (dV v) = true ∧ (dV v).depth = 0 := by
  cases v with
  | int i => exact ⟨rfl, rfl⟩
  | str x =>
    refine ⟨?_, rfl⟩
    show x.cps.all (· < 0x110000) = true
    rw [← Array.all_toList, List.all_eq_true]
    exact fun c hc => decide_eq_true (h c hc)
  | _ => exact h.elim
theorem layAll_V : ∀ {vs : List V}, (∀ v ∈ vs, VOk v) → PyData.canLayAll0 (vs.map dV) = true ∧ PyData.depthAll (vs.map dV) = 0
  | [], _ => ⟨rfl, rfl⟩
  | v :: vs, h => by
    obtain ⟨a1, a2⟩ := lay_V (h v List.mem_cons_self)
    obtain ⟨b1, b2⟩ := layAll_V fun u hu => h u (List.mem_cons_of_mem _ hu)
    exact ⟨by simp [PyData.canLayAll0, a1, b1], by simp [PyData.depthAll, a2, b2]⟩
/-- tuples as data -/
def dT (t : List V) : PyData := .tuple (t.map dV)
theorem layAll_T : ∀ {xs : List (List V)}, (∀ t ∈ xs, ∀ v ∈ t, VOk v) → PyData.canLayAll0 (xs.map dT) = true ∧ PyData.depthAll (xs.map dT) ≤ 1
  | [], _ => ⟨rfl, Nat.zero_le _⟩
  | t :: xs, h => by
    obtain ⟨a1, a2⟩ := layAll_V (h t List.mem_cons_self)
    obtain ⟨b1, b2⟩ := layAll_T (xs := xs) fun u hu => h u (List.mem_cons_of_mem _ hu)
    exact ⟨by simp [PyData.canLayAll0, dT, PyData.canLay0, a1, b1], by simp [PyData.depthAll, dT, PyData.depth, a2]; omega⟩
theorem dp_TLs {K : Frag} {H : Hp} {p : Addr} {xs : List (List V)} (h : TLs H p xs) (ok : ∀ t ∈ xs, ∀ v ∈ t, VOk v) : Dp K H (.ref p) (.list (xs.map dT)) := by
  obtain ⟨as, h1, h2, h3⟩ := h
  refine .lst (.of h1) ?_
  clear h1
  induction xs generalizing as with
  | nil =>
    cases as with
    | nil => exact .nil
    | cons _ _ => cases h2
  | cons t xs ih =>
    cases as with
    | nil => cases h2
    | cons a as =>
      refine .cons (.tup (.of (h3 0 a t rfl rfl)) (dpAll_V (ok t List.mem_cons_self))) (ih (fun u hu => ok u (List.mem_cons_of_mem _ hu)) as (by simpa using h2) fun i b x e1 e2 => h3 (i + 1) b x e1 e2)
/-- the six parts -/
def dP (b : List Nat) (n1 n2 n3 : Int) (code lits : List (List V)) : List PyData := [.str (S b), .int n1, .int n2, .int n3, .list (code.map dT), .list (lits.map dT)]
theorem dp_P {K : Frag} {H : Hp} {pc pl : Addr} {b : List Nat} {n1 n2 n3 : Int} {x : Dra} (hc : TLs H pc x.code) (hl : TLs H pl x.lits) (ok : x.ok) : DpAll K H [.str (S b), .int n1, .int n2, .int n3, .ref pc, .ref pl] (dP b n1 n2 n3 x.code x.lits) :=
  .cons (.str _) (.cons (.int _) (.cons (.int _) (.cons (.int _) (.cons (dp_TLs hc ok.code) (.cons (dp_TLs hl ok.lits) .nil)))))
theorem sh_P {n1 n2 n3 : Int} {x : Dra} (ok : x.ok) : SeqAt.shaped (.tuple (dP x.sel n1 n2 n3 x.code x.lits)) = true ∧ SeqAt.shaped (.list (dP x.sel n1 n2 n3 x.code x.lits)) = true := by
  obtain ⟨c1, c2⟩ := layAll_T ok.code
  obtain ⟨l1, l2⟩ := layAll_T ok.lits
  have s1 : PyData.canLay0 (.str (S x.sel)) = true := (lay_V (v := .str (S x.sel)) ok.sel).1
  have e1 : PyData.canLayAll0 (dP x.sel n1 n2 n3 x.code x.lits) = true := by simp [dP, PyData.canLayAll0, PyData.canLay0, c1, l1, show PyData.canLay0 (.str (S x.sel)) = true from s1] <;> exact s1
  have e2 : PyData.depthAll (dP x.sel n1 n2 n3 x.code x.lits) ≤ 2 := by simp [dP, PyData.depthAll, PyData.depth]; omega
  refine ⟨?_, ?_⟩
  · show (PyData.canLay0 (.tuple _) && decide (PyData.depth (.tuple _) ≤ 64)) = true
    simp [PyData.canLay0, PyData.depth, e1]; omega
  · show (PyData.canLay0 (.list _) && decide (PyData.depth (.list _) ≤ 64)) = true
    simp [PyData.canLay0, PyData.depth, e1]; omega
end LS

set_option Elab.async false
set_option linter.all false
set_option maxRecDepth 100000
set_option maxHeartbeats 4000000
/-! Ls3: what is read is data -/
namespace LS
open PySem PySem.Spec PyProof.Rows L2 KW
theorem unSt_ok : ∀ {l acc : List Nat} {w : Bool} {t : List Nat}, (∀ c ∈ l, c < 1114112) → (∀ c ∈ acc, c < 1114112) → unSt acc w l = some t → ∀ c ∈ t, c < 1114112
  | [], acc, w, t, _, ha, h => by
    unfold unSt at h
    cases w with
    | true => cases h
    | false => cases h; exact ha
  | x :: r, acc, w, t, hl, ha, h => by
    have hr : ∀ c ∈ r, c < 1114112 := fun c hc => hl c (List.mem_cons_of_mem _ hc)
    have hx := hl x List.mem_cons_self
    have ap (y : Nat) (hy : y < 1114112) : ∀ c ∈ acc ++ [y], c < 1114112 := fun c hc => by
      rcases List.mem_append.mp hc with z | z
      · exact ha c z
      · have : c = y := by simpa using z
        rw [this]; exact hy
    unfold unSt at h
    cases w with
    | true =>
      rw [if_pos rfl] at h
      split at h
      · exact unSt_ok hr (ap 10 (by decide)) h
      · split at h
        · exact unSt_ok hr (ap 92 (by decide)) h
        · cases h
    | false =>
      rw [if_neg (by simp)] at h
      split at h
      · exact unSt_ok hr ha h
      · exact unSt_ok hr (ap x hx) h
theorem fst_line {l : List Nat} (h : Line l) : Line (fst l) := by
  unfold fst
  cases e : wds l with
  | nil => exact absurd e (wds_ne l)
  | cons w ws => exact wds_line h (by rw [e]; exact List.mem_cons_self)
theorem rst_line {l : List Nat} (h : Line l) : ∀ w ∈ rst l, Line w := fun w hw => wds_line h (by unfold rst at hw; exact List.mem_of_mem_tail hw)
theorem rdText_ok {k l : List Nat} {t : List V} (hk : Line k) (hl : Line l) (h : rdText k l = some t) : ∀ v ∈ t, VOk v := by
  unfold rdText at h
  cases e : unSt [] false (l.drop (k.length + 1)) with
  | none => rw [e] at h; cases h
  | some u =>
    rw [e] at h
    dsimp only at h
    split at h
    · cases h
    · cases h
      intro v hv
      simp only [List.mem_cons, List.not_mem_nil, or_false] at hv
      rcases hv with rfl | rfl
      · exact hk.2
      · exact unSt_ok (line_drop hl _).2 (by simp) e
theorem map_ok {k : List Nat} {o : Option (List Int)} {t : List V} (hk : ∀ c ∈ k, c < 1114112) (h : (o.map fun is => V.str (S k) :: is.map .int) = some t) : ∀ v ∈ t, VOk v := by
  cases o with
  | none => cases h
  | some is =>
    cases h
    intro v hv
    rcases List.mem_cons.mp hv with rfl | hv
    · exact hk
    · obtain ⟨i, _, rfl⟩ := List.mem_map.mp hv
      trivial
theorem rdLit_ok {l : List Nat} {t : List V} (hl : Line l) (h : rdLit l = some t) : ∀ v ∈ t, VOk v := by
  unfold rdLit at h
  split at h
  · exact rdText_ok (fst_line hl) hl h
  · split at h
    · exact map_ok (by decide) h
    · split at h
      · exact map_ok (by decide) h
      · cases h
theorem rdIns_ok {l : List Nat} {t : List V} (hl : Line l) (h : rdIns l = some t) : ∀ v ∈ t, VOk v := by
  have two {n : Int} : ∀ v ∈ [V.str (S (fst l)), .int n], VOk v := by
    intro v hv
    simp only [List.mem_cons, List.not_mem_nil, or_false] at hv
    rcases hv with rfl | rfl
    · exact (fst_line hl).2
    · trivial
  unfold rdIns at h
  split at h
  · split at h
    · cases h
    · cases h; exact two
  · split at h
    · cases h
    · split at h
      · split at h
        · cases h
        · cases h; exact two
      · cases h
theorem goC_ok : ∀ {ls : List (List Nat)} {k : Nat} {code c : List (List V)}, (∀ l ∈ ls, Line l) → (∀ t ∈ code, ∀ v ∈ t, VOk v) → goC k code ls = .inr c → ∀ t ∈ c, ∀ v ∈ t, VOk v
  | [], k, code, c, _, hc, h => by
    unfold goC at h
    cases h; exact hc
  | l :: r, k, code, c, hl, hc, h => by
    unfold goC at h
    cases e : rdIns l with
    | none => rw [e] at h; cases h
    | some i =>
      rw [e] at h
      refine goC_ok (fun x hx => hl x (List.mem_cons_of_mem _ hx)) (fun t ht => ?_) h
      rcases List.mem_append.mp ht with z | z
      · exact hc t z
      · have : t = i := by simpa using z
        rw [this]
        exact rdIns_ok (hl l List.mem_cons_self) e
theorem goL_ok : ∀ {ls : List (List Nat)} {k : Nat} {lits : List (List V)} {c t : List (List V)}, (∀ l ∈ ls, Line l) → (∀ t ∈ lits, ∀ v ∈ t, VOk v) → goL k lits ls = .inr (c, t) → (∀ x ∈ c, ∀ v ∈ x, VOk v) ∧ ∀ x ∈ t, ∀ v ∈ x, VOk v
  | [], k, lits, c, t, _, _, h => by unfold goL at h; cases h
  | l :: r, k, lits, c, t, hl, hc, h => by
    have hr : ∀ x ∈ r, Line x := fun x hx => hl x (List.mem_cons_of_mem _ hx)
    unfold goL at h
    split at h
    · cases e : goC (k + 1) [] r with
      | inl e' => rw [e] at h; cases h
      | inr c' =>
        rw [e] at h
        cases h
        exact ⟨goC_ok hr (by simp) e, hc⟩
    · cases e : rdLit l with
      | none => rw [e] at h; cases h
      | some x =>
        rw [e] at h
        refine goL_ok hr (fun u hu => ?_) h
        rcases List.mem_append.mp hu with z | z
        · exact hc u z
        · have : u = x := by simpa using z
          rw [this]
          exact rdLit_ok (hl l List.mem_cons_self) e
theorem rdAll_ok {ls : List (List Nat)} {x : Dra} (hl : ∀ l ∈ ls, Line l) (h : rdAll ls = .inr x) : x.ok := by
  cases ls with
  | nil => cases h
  | cons l0 r =>
    unfold rdAll at h
    dsimp only at h
    cases e : rdHead l0 with
    | none => rw [e] at h; cases h
    | some bi =>
      obtain ⟨b, is⟩ := bi
      rw [e] at h
      dsimp only at h
      cases e2 : goL 1 [] r with
      | inl e' => rw [e2] at h; cases h
      | inr ct =>
        obtain ⟨c, t⟩ := ct
        rw [e2] at h
        cases h
        obtain ⟨k1, k2⟩ := goL_ok (fun x hx => hl x (List.mem_cons_of_mem _ hx)) (by simp) e2
        refine ⟨?_, k1, k2⟩
        have hl0 := hl l0 List.mem_cons_self
        unfold rdHead at e
        split at e
        · cases e
        · cases e3 : numsIn (rst l0).tail 3 with
          | none => rw [e3] at e; cases e
          | some js =>
            rw [e3] at e
            cases e
            cases e4 : rst l0 with
            | nil => simp
            | cons w ws => exact (rst_line hl0 w (by rw [e4]; exact List.mem_cons_self)).2
theorem rdAll_is {ls : List (List Nat)} {x : Dra} (h : rdAll ls = .inr x) : x.is.length = 3 := by
  cases ls with
  | nil => cases h
  | cons l0 r =>
    unfold rdAll at h
    dsimp only at h
    cases e : rdHead l0 with
    | none => rw [e] at h; cases h
    | some bi =>
      obtain ⟨b, is⟩ := bi
      rw [e] at h
      dsimp only at h
      cases e2 : goL 1 [] r with
      | inl e' => rw [e2] at h; cases h
      | inr ct =>
        obtain ⟨c, t⟩ := ct
        rw [e2] at h
        cases h
        unfold rdHead at e
        split at e
        · cases e
        · cases e3 : numsIn (rst l0).tail 3 with
          | none => rw [e3] at e; cases e
          | some js =>
            rw [e3] at e
            cases e
            unfold numsIn at e3
            split at e3
            · cases e3
            · rename_i z
              exact (mapM_len e3).trans (Classical.not_not.mp z)
theorem goC_le : ∀ {ls : List (List Nat)} {k : Nat} {code : List (List V)} {e : Nat}, goC k code ls = .inl e → e ≤ k + ls.length
  | [], k, code, e, h => by unfold goC at h; cases h
  | l :: r, k, code, e, h => by
    unfold goC at h
    cases q : rdIns l with
    | none => rw [q] at h; cases h; simp
    | some i =>
      rw [q] at h
      have := goC_le h
      simp only [List.length_cons]; omega
/-- are two drafts equal, as == tells -/
def eqvD (x y : Dra) : Bool := match x.is, y.is with
  | [a, b, c], [a', b', c'] => PyData.eqvAll (dP x.sel a b c x.code x.lits) (dP y.sel a' b' c' y.code y.lits)
  | _, _ => false
theorem eqvD_self {x : Dra} (ok : x.ok) (h : x.is.length = 3) : eqvD x x = true := by
  obtain ⟨a, b, c, e⟩ : ∃ a b c, x.is = [a, b, c] := by
    match x.is, h with
    | [a, b, c], _ => exact ⟨a, b, c, rfl⟩
  unfold eqvD
  rw [e]
  have := eqv_sh (sh_P (n1 := a) (n2 := b) (n3 := c) ok).1
  rw [PyData.eqv] at this
  exact this
theorem dpAll_lines {K : Frag} {H : Hp} : ∀ {L : List (List Nat)}, (∀ l ∈ L, Line l) → DpAll K H (L.map sV) (L.map fun l => .str (S l))
  | [], _ => .nil
  | l :: r, h => .cons (.str _) (dpAll_lines fun x hx => h x (List.mem_cons_of_mem _ hx))
theorem sh_lines {L : List (List Nat)} (h : ∀ l ∈ L, Line l) : SeqAt.shaped (.list (L.map fun l => .str (S l))) = true := by
  have key : ∀ {L : List (List Nat)}, (∀ l ∈ L, Line l) → PyData.canLayAll0 (L.map fun l => PyData.str (S l)) = true ∧ PyData.depthAll (L.map fun l => PyData.str (S l)) = 0 := by
    intro L h
    induction L with
    | nil => exact ⟨rfl, rfl⟩
    | cons l r ih =>
      obtain ⟨b1, b2⟩ := ih fun x hx => h x (List.mem_cons_of_mem _ hx)
      have a1 := (lay_V (v := .str (S l)) (h l List.mem_cons_self).2).1
      refine ⟨?_, ?_⟩
      · show (PyData.canLay0 (.str (S l)) && PyData.canLayAll0 (r.map fun l => PyData.str (S l))) = true
        rw [b1, show PyData.canLay0 (.str (S l)) = true from a1]; rfl
      · simp [PyData.depthAll, PyData.depth, b2]
  obtain ⟨c1, c2⟩ := key h
  show (PyData.canLay0 (.list _) && decide (PyData.depth (.list _) ≤ 64)) = true
  simp [PyData.canLay0, PyData.depth, c1, c2]
end LS

set_option Elab.async false
set_option linter.all false
set_option maxRecDepth 100000
set_option maxHeartbeats 4000000
/-! Ls4: listings written, and read back -/
namespace LS
open PySem PySem.Spec PyProof.Rows L2 KW
/-! ### decimal digits -/
def decs (n : Nat) : List Nat := if h : n < 10 then [48 + n] else decs (n / 10) ++ [48 + n % 10]
theorem decs_all : ∀ (k n : Nat), n ≤ k → ∀ c ∈ decs n, 48 ≤ c ∧ c ≤ 57 := by
  intro k
  induction k with
  | zero =>
    intro n h c hc
    unfold decs at hc
    rw [dif_pos (by omega)] at hc
    have : c = 48 + n := by simpa using hc
    omega
  | succ k ih =>
    intro n h c hc
    unfold decs at hc
    split at hc
    · have : c = 48 + n := by simpa using hc
      omega
    · rcases List.mem_append.mp hc with z | z
      · exact ih (n / 10) (by omega) c z
      · have : c = 48 + n % 10 := by simpa using z
        omega
theorem dval_snoc' (l : List Nat) (c : Nat) : PySem.NumText.digitsVal (l ++ [c]) = 10 * PySem.NumText.digitsVal l + (c - 48) := by
  unfold PySem.NumText.digitsVal
  rw [List.foldl_append]
  simp only [List.foldl_cons, List.foldl_nil]
  omega
theorem decs_val : ∀ (k n : Nat), n ≤ k → PySem.NumText.digitsVal (decs n) = n := by
  intro k
  induction k with
  | zero =>
    intro n h
    unfold decs
    rw [dif_pos (by omega)]
    show 0 * 10 + (48 + n - 48) = n
    omega
  | succ k ih =>
    intro n h
    unfold decs
    split
    · show 0 * 10 + (48 + n - 48) = n
      omega
    · rw [dval_snoc', ih (n / 10) (by omega)]
      omega
theorem decs_head : ∀ (k n : Nat), n ≤ k → 0 < n → ∃ c r, decs n = c :: r ∧ 49 ≤ c := by
  intro k
  induction k with
  | zero => intro n h h0; omega
  | succ k ih =>
    intro n h h0
    unfold decs
    split
    · exact ⟨48 + n, [], rfl, by omega⟩
    · obtain ⟨c, r, e, hc⟩ := ih (n / 10) (by omega) (by omega)
      exact ⟨c, r ++ [48 + n % 10], by rw [e]; rfl, hc⟩
theorem decs_len : ∀ (m n : Nat), n < 10 ^ (m + 1) → (decs n).length ≤ m + 1 := by
  intro m
  induction m with
  | zero =>
    intro n h
    unfold decs
    rw [dif_pos (by omega)]
    simp
  | succ m ih =>
    intro n h
    unfold decs
    split
    · simp
    · have : n / 10 < 10 ^ (m + 1) := by
        rw [Nat.pow_succ] at h
        omega
      have := ih _ this
      rw [List.length_append]
      simp only [List.length_cons, List.length_nil]
      omega
theorem decs_zero : decs 0 = [48] := by unfold decs; rfl
theorem decs_pos (n : Nat) : decs n ≠ [] := by
  unfold decs
  split <;> simp
open PySem.NumText in
theorem decs_chars (n : Nat) : (Nat.toDigits 10 n).map Char.toNat = decs n := by
  have al : ∀ c ∈ decs n, 48 ≤ c ∧ c ≤ 57 := decs_all n n (Nat.le_refl _)
  have hv := decs_val n n (Nat.le_refl _)
  obtain ⟨k, hk⟩ : ∃ k, (decs n).length = k + 1 := by
    cases e : decs n with
    | nil => exact absurd e (decs_pos n)
    | cons c r => exact ⟨r.length, rfl⟩
  have h := toDigits_digitsVal k (decs n) hk al (by
    rcases Nat.eq_zero_or_pos n with z | z
    · subst z
      rw [decs_zero] at hk
      exact .inl (by simp at hk; exact hk)
    · exact .inr (decs_head n n (Nat.le_refl _) z))
  rw [hv] at h
  rw [h, List.map_map]
  have : ∀ ys : List Nat, (∀ c ∈ ys, 48 ≤ c ∧ c ≤ 57) → ys.map (Char.toNat ∘ Char.ofNat) = ys := by
    intro ys
    induction ys with
    | nil => intro _; rfl
    | cons y ys ih =>
      intro hy
      rw [List.map_cons, ih fun c hc => hy c (List.mem_cons_of_mem _ hc)]
      have hb := hy y List.mem_cons_self
      have hh : ∀ d, d < 10 → (Char.ofNat (48 + d)).toNat = 48 + d := by decide
      have h2 := hh (y - 48) (by omega)
      rw [show 48 + (y - 48) = y by omega] at h2
      show (Char.ofNat y).toNat :: ys = y :: ys
      rw [h2]
  exact this _ al
theorem itxt_nat (n : Nat) : itxt (n : Int) = decs n := by
  unfold itxt
  rw [Str.ofString_eq_toList]
  show ((toString (n : Int)).toList.map Char.toNat).toArray.toList = decs n
  rw [List.toList_toArray]
  rw [show (toString (n : Int)).toList = Nat.toDigits 10 n from ?_]
  · exact decs_chars n
  · show (Nat.repr n).toList = _
    simp [Nat.repr]
theorem itxt_neg (m : Nat) : itxt (Int.negSucc m) = 45 :: decs (m + 1) := by
  unfold itxt
  rw [Str.ofString_eq_toList]
  show ((toString (Int.negSucc m)).toList.map Char.toNat).toArray.toList = _
  rw [List.toList_toArray]
  have e : toString (Int.negSucc m) = "-" ++ Nat.repr (m + 1) := rfl
  rw [e, String.toList_append, List.map_append]
  have e2 : (Nat.repr (m + 1)).toList = Nat.toDigits 10 (m + 1) := by simp [Nat.repr]
  rw [e2, decs_chars]
  rfl
theorem decs_num (n : Nat) (h : n < 10 ^ 9) : ¬ ((decs n).length < 1 ∨ 9 < (decs n).length ∨ ¬ ∀ c ∈ decs n, c ∈ DIG) := by
  rintro (z | z | z)
  · have := decs_pos n
    cases e : decs n with
    | nil => exact this e
    | cons c r => rw [e] at z; simp at z
  · have := decs_len 8 n (by simpa using h)
    omega
  · exact z fun c hc => dig_iff.mpr (decs_all n n (Nat.le_refl _) c hc)
theorem num_itxt {n : Int} (h1 : -1000000000 < n) (h2 : n < 1000000000) : numIn (itxt n) = some n := by
  cases n with
  | ofNat m =>
    have hm : m < 10 ^ 9 := by
      have : (m : Int) < 1000000000 := h2
      omega
    rw [show Int.ofNat m = (m : Int) from rfl, itxt_nat]
    have al := decs_all m m (Nat.le_refl _)
    have t1 : ¬ (decs m).take 1 = [45] := by
      cases e : decs m with
      | nil => simp
      | cons c r =>
        have := al c (by rw [e]; exact List.mem_cons_self)
        simp only [List.take_succ_cons, List.take_zero, List.cons.injEq, and_true]
        omega
    have dg : dgs (decs m) = decs m := by unfold dgs; rw [if_neg t1]
    unfold numIn
    rw [dg, if_neg (decs_num m hm), if_neg, if_neg t1, decs_val m m (Nat.le_refl _)]
    rintro ⟨z1, z2⟩
    rcases Nat.eq_zero_or_pos m with z | z
    · exact z2 (by rw [z, decs_zero])
    · obtain ⟨c, r, e, hc⟩ := decs_head m m (Nat.le_refl _) z
      rw [e] at z1
      have : c = 48 := by simpa using z1
      omega
  | negSucc m =>
    have hm : m + 1 < 10 ^ 9 := by
      have : -1000000000 < -((m : Int) + 1) := by
        have e : Int.negSucc m = -((m : Int) + 1) := rfl
        rw [← e]; exact h1
      omega
    rw [itxt_neg]
    have t1 : (45 :: decs (m + 1)).take 1 = [45] := rfl
    have dg : dgs (45 :: decs (m + 1)) = decs (m + 1) := by unfold dgs; rw [if_pos t1]; rfl
    unfold numIn
    rw [dg, if_neg (decs_num (m + 1) hm), if_neg, if_pos t1, decs_val (m + 1) (m + 1) (Nat.le_refl _)]
    · rfl
    · rintro ⟨z1, z2⟩
      obtain ⟨c, r, e, hc⟩ := decs_head (m + 1) (m + 1) (Nat.le_refl _) (by omega)
      rw [e] at z1
      have : c = 48 := by simpa using z1
      omega
theorem itxt_no {n : Int} {c : Nat} (h : c < 45 ∨ 57 < c) : c ∉ itxt n := by
  intro hc
  cases n with
  | ofNat m =>
    rw [show Int.ofNat m = (m : Int) from rfl, itxt_nat] at hc
    have := decs_all m m (Nat.le_refl _) c hc
    omega
  | negSucc m =>
    rw [itxt_neg] at hc
    rcases List.mem_cons.mp hc with z | z
    · omega
    · have := decs_all (m + 1) (m + 1) (Nat.le_refl _) c z
      omega
end LS

set_option Elab.async false
set_option linter.all false
set_option maxRecDepth 100000
set_option maxHeartbeats 4000000
/-! Ls5: a draft's listing, read back -/
namespace LS
open PySem PySem.Spec PyProof.Rows L2 KW
/-! ### signs escaped -/
def esc1 (c : Nat) : List Nat := if c = 10 then [92, 110] else if c = 92 then [92, 92] else [c]
def esc (t : List Nat) : List Nat := t.flatMap esc1
theorem esc_cons (c : Nat) (r : List Nat) : esc (c :: r) = esc1 c ++ esc r := by unfold esc; rw [List.flatMap_cons]
theorem repl1 {c : Nat} {z : List Nat} : ∀ l : List Nat, PySem.StrLaws.replL [c] z l = l.flatMap fun x => if x = c then z else [x]
  | [] => PySem.StrLaws.replL_nil
  | x :: r => by
    rw [List.flatMap_cons]
    by_cases h : x = c
    · subst h
      rw [PySem.StrLaws.replL_hit (by simp) (by simp), if_pos rfl]
      show z ++ PySem.StrLaws.replL [x] z r = _
      rw [repl1 r]
    · rw [PySem.StrLaws.replL_miss (by simpa using h), if_neg h, repl1 r]
      rfl
theorem replace1 {c : Nat} {z : List Nat} (t : List Nat) : Txt.replace (S t) (S [c]) (S z) = S (t.flatMap fun x => if x = c then z else [x]) := by
  have h := PySem.StrLaws.replace_list (x := S t) (y := S [c]) (z := S z) (by show 1 ≤ (S [c]).length; rw [S_len]; simp)
  rw [← S_tl (Txt.replace (S t) (S [c]) (S z)), h]
  exact congrArg S (repl1 t)
theorem replace2 (t : List Nat) : Txt.replace (Txt.replace (S t) (S [92]) (S [92, 92])) (S [10]) (S [92, 110]) = S (esc t) := by
  rw [replace1, replace1]
  refine congrArg S ?_
  unfold esc
  induction t with
  | nil => rfl
  | cons c r ih =>
    rw [List.flatMap_cons, List.flatMap_append, ih, List.flatMap_cons]
    congr 1
    unfold esc1
    by_cases h : c = 92
    · subst h; rfl
    · rw [if_neg h]
      by_cases h2 : c = 10
      · subst h2; rfl
      · rw [if_neg h2]
        show ([c].flatMap fun x => if x = 10 then [92, 110] else [x]) = [c]
        simp [h2]
theorem unSt_app : ∀ (t acc r : List Nat), unSt acc false (esc t ++ r) = unSt (acc ++ t) false r
  | [], acc, r => by simp [esc]
  | c :: t, acc, r => by
    rw [esc_cons, List.append_assoc]
    have ih := unSt_app t (acc ++ [c]) r
    rw [List.append_assoc] at ih
    unfold esc1
    split
    · rename_i h
      subst h
      show unSt acc false (92 :: 110 :: (esc t ++ r)) = _
      rw [unSt, if_neg (by simp), if_pos rfl, unSt, if_pos rfl, if_pos rfl]
      exact ih
    · split
      · rename_i h
        subst h
        show unSt acc false (92 :: 92 :: (esc t ++ r)) = _
        rw [unSt, if_neg (by simp), if_pos rfl, unSt, if_pos rfl, if_neg (by decide), if_pos rfl]
        exact ih
      · rename_i h1 h2
        show unSt acc false (c :: (esc t ++ r)) = _
        rw [unSt, if_neg (by simp), if_neg h2]
        exact ih
theorem unSt_esc (t : List Nat) : unSt [] false (esc t) = some t := by
  have h := unSt_app t [] []
  rw [List.append_nil] at h
  rw [h, unSt]
  rfl
theorem esc_len (t : List Nat) : (esc t).length ≤ 2 * t.length := by
  induction t with
  | nil => simp [esc]
  | cons c r ih =>
    rw [esc_cons, List.length_append, List.length_cons]
    have : (esc1 c).length ≤ 2 := by
      unfold esc1
      split
      · simp
      · split <;> simp
    omega
theorem esc_cps {t : List Nat} (h : ∀ c ∈ t, c < 1114112) : ∀ c ∈ esc t, c < 1114112 := by
  intro c hc
  obtain ⟨x, hx, hm⟩ := List.mem_flatMap.mp hc
  unfold esc1 at hm
  split at hm
  · simp only [List.mem_cons, List.not_mem_nil, or_false] at hm; omega
  · split at hm
    · simp only [List.mem_cons, List.not_mem_nil, or_false] at hm; omega
    · simp only [List.mem_cons, List.not_mem_nil, or_false] at hm
      rw [hm]; exact h x hx
/-! ### words joined -/
theorem wdsGo_app : ∀ (k acc r : List Nat), 32 ∉ k → wdsGo acc (k ++ 32 :: r) = (acc ++ k) :: wds r
  | [], acc, r, _ => by
    show wdsGo acc (32 :: r) = _
    rw [wdsGo, if_pos rfl, List.append_nil]; rfl
  | c :: k, acc, r, h => by
    have hc : c ≠ 32 := fun z => h (by rw [z]; exact List.mem_cons_self)
    show wdsGo acc (c :: (k ++ 32 :: r)) = _
    rw [wdsGo, if_neg hc, wdsGo_app k (acc ++ [c]) r (fun z => h (List.mem_cons_of_mem _ z)), List.append_assoc]
    rfl
theorem wds_app (k r : List Nat) (h : 32 ∉ k) : wds (k ++ 32 :: r) = k :: wds r := wdsGo_app k [] r h
theorem wdsGo_one : ∀ (k acc : List Nat), 32 ∉ k → wdsGo acc k = [acc ++ k]
  | [], acc, _ => by rw [wdsGo, List.append_nil]
  | c :: k, acc, h => by
    have hc : c ≠ 32 := fun z => h (by rw [z]; exact List.mem_cons_self)
    rw [wdsGo, if_neg hc, wdsGo_one k (acc ++ [c]) (fun z => h (List.mem_cons_of_mem _ z)), List.append_assoc]
    rfl
theorem wds_one (k : List Nat) (h : 32 ∉ k) : wds k = [k] := wdsGo_one k [] h
theorem wds_join : ∀ {W : List (List Nat)}, W ≠ [] → (∀ w ∈ W, 32 ∉ w) → wds (TL.joinL [32] W) = W
  | [], h, _ => absurd rfl h
  | [k], _, h => wds_one k (h k List.mem_cons_self)
  | k :: q :: r, _, h => by
    show wds (k ++ (32 :: TL.joinL [32] (q :: r))) = _
    rw [wds_app k _ (h k List.mem_cons_self), wds_join (by simp) fun w hw => h w (List.mem_cons_of_mem _ hw)]
/-! ### lines of parts -/
def sOf : V → List Nat
  | .int i => itxt i
  | .str x => x.cps.toList
  | _ => []
def litLine : List V → List Nat
  | [.str k, .str t] => k.cps.toList ++ (32 :: esc t.cps.toList)
  | x => TL.joinL [32] (x.map sOf)
def insLine : List V → List Nat
  | [.str op, .int n] => if op.cps.toList ∈ tPLAIN then op.cps.toList else TL.joinL [32] [op.cps.toList, itxt n]
  | _ => []
def Cnt (n : Int) : Prop := -1000000000 < n ∧ n < 1000000000
def LitOk (x : List V) : Prop := (∃ n, x = [.str (S tINT), .int n] ∧ Cnt n) ∨ (∃ a b c d, x = [.str (S tBLOCK), .int a, .int b, .int c, .int d] ∧ Cnt a ∧ Cnt b ∧ Cnt c ∧ Cnt d) ∨
  (∃ k t, x = [.str (S k), .str (S t)] ∧ k ∈ tTEXTS ∧ Sm 64 t ∧ (k ≠ tSYMBOL → t ≠ [] ∧ 32 ∉ t ∧ 10 ∉ t))
def InsOk (x : List V) : Prop := ∃ op n, x = [.str (S op), .int n] ∧ ((op ∈ tPLAIN ∧ n = 0) ∨ (op ∈ tOTHER ∧ 0 ≤ n ∧ n ≤ 65535))
structure DraWf (d : Dra) : Prop where
  sel : Sm 64 d.sel ∧ d.sel ≠ [] ∧ 32 ∉ d.sel
  is : ∃ a b c, d.is = [a, b, c] ∧ Cnt a ∧ Cnt b ∧ Cnt c
  code : ∀ x ∈ d.code, InsOk x
  lits : ∀ x ∈ d.lits, LitOk x
def headLine (d : Dra) : List Nat := TL.joinL [32] (tMETHOD :: d.sel :: d.is.map itxt)
def linesOf (d : Dra) : List (List Nat) := headLine d :: (d.lits.map litLine ++ tCODE :: d.code.map insLine)
theorem numsIn_itxt {is : List Int} (h : ∀ n ∈ is, Cnt n) : numsIn (is.map itxt) is.length = some is := by
  unfold numsIn
  rw [if_neg (by simp)]
  induction is with
  | nil => rfl
  | cons n r ih =>
    rw [List.map_cons, mapM_cons', num_itxt (h n List.mem_cons_self).1 (h n List.mem_cons_self).2]
    dsimp only
    rw [ih fun x hx => h x (List.mem_cons_of_mem _ hx)]
    rfl
theorem itxt_32 (n : Int) : 32 ∉ itxt n := itxt_no (.inl (by decide))
theorem rdLit_line {x : List V} (h : LitOk x) : rdLit (litLine x) = some x := by
  rcases h with ⟨n, rfl, hn⟩ | ⟨a, b, c, d, rfl, ha, hb, hc, hd⟩ | ⟨k, t, rfl, hk, ht, hn⟩
  · have e : wds (litLine [.str (S tINT), .int n]) = [tINT, itxt n] := wds_join (W := [tINT, itxt n]) (by simp) (by
      intro w hw
      simp only [List.mem_cons, List.not_mem_nil, or_false] at hw
      rcases hw with rfl | rfl
      · decide
      · exact itxt_32 n)
    have ef : fst (litLine [.str (S tINT), .int n]) = tINT := by unfold fst; rw [e]; rfl
    have er : rst (litLine [.str (S tINT), .int n]) = [n].map itxt := by unfold rst; rw [e]; rfl
    have nn : numsIn ([n].map itxt) 1 = some [n] := numsIn_itxt (is := [n]) (by intro m hm; have : m = n := by simpa using hm
                                                                                rw [this]; exact hn)
    unfold rdLit
    rw [ef, er, if_neg (fun z => absurd z.1 (by decide)), if_pos rfl, nn]
    rfl
  · have e : wds (litLine [.str (S tBLOCK), .int a, .int b, .int c, .int d]) = [tBLOCK, itxt a, itxt b, itxt c, itxt d] := wds_join (W := [tBLOCK, itxt a, itxt b, itxt c, itxt d]) (by simp) (by
      intro w hw
      simp only [List.mem_cons, List.not_mem_nil, or_false] at hw
      rcases hw with rfl | rfl | rfl | rfl | rfl
      · decide
      all_goals exact itxt_32 _)
    have ef : fst (litLine [.str (S tBLOCK), .int a, .int b, .int c, .int d]) = tBLOCK := by unfold fst; rw [e]; rfl
    have er : rst (litLine [.str (S tBLOCK), .int a, .int b, .int c, .int d]) = [a, b, c, d].map itxt := by unfold rst; rw [e]; rfl
    have nn : numsIn ([a, b, c, d].map itxt) 4 = some [a, b, c, d] := numsIn_itxt (is := [a, b, c, d]) (by
      intro m hm
      simp only [List.mem_cons, List.not_mem_nil, or_false] at hm
      rcases hm with rfl | rfl | rfl | rfl <;> assumption)
    unfold rdLit
    rw [ef, er, if_neg (fun z => absurd z.1 (by decide)), if_neg (by decide), if_pos rfl, nn]
    rfl
  · have h32 : 32 ∉ k := by
      have : ∀ k ∈ tTEXTS, 32 ∉ k := by decide
      exact this k hk
    have el : litLine [.str (S k), .str (S t)] = k ++ 32 :: esc t := rfl
    have e : wds (litLine [.str (S k), .str (S t)]) = k :: wds (esc t) := by rw [el, wds_app k _ h32]
    have ef : fst (litLine [.str (S k), .str (S t)]) = k := by unfold fst; rw [e]; rfl
    unfold rdLit
    rw [ef, if_pos ⟨hk, by rw [e, List.length_cons]; have := wds_pos (esc t); omega⟩]
    unfold rdText
    have ed : (litLine [.str (S k), .str (S t)]).drop (k.length + 1) = esc t := by
      rw [el, show k.length + 1 = (k ++ [32]).length by simp, show k ++ 32 :: esc t = (k ++ [32]) ++ esc t by simp, List.drop_left]
    rw [ed, unSt_esc]
    dsimp only
    rw [if_neg]
    rintro ⟨z1, z | z | z⟩
    · exact (hn z1).1 z
    · exact (hn z1).2.1 z
    · exact (hn z1).2.2 z
theorem litLine_code {x : List V} (h : LitOk x) : litLine x ≠ tCODE := by
  intro z
  have : (32 : Nat) ∈ litLine x := by
    rcases h with ⟨n, rfl, hn⟩ | ⟨a, b, c, d, rfl, _⟩ | ⟨k, t, rfl, _⟩
    · show 32 ∈ tINT ++ ([32] ++ itxt n)
      simp
    · show 32 ∈ tBLOCK ++ ([32] ++ TL.joinL [32] [itxt a, itxt b, itxt c, itxt d])
      simp
    · show 32 ∈ k ++ 32 :: esc t
      simp
  rw [z] at this
  exact absurd this (by decide)
theorem rdIns_line {x : List V} (h : InsOk x) : rdIns (insLine x) = some x := by
  obtain ⟨op, n, rfl, h⟩ := h
  rcases h with ⟨ho, rfl⟩ | ⟨ho, h0, h1⟩
  · have h32 : 32 ∉ op := by
      have : ∀ k ∈ tPLAIN, 32 ∉ k := by decide
      exact this op ho
    have el : insLine [.str (S op), .int 0] = op := by show (if op ∈ tPLAIN then op else _) = op; rw [if_pos ho]
    have e : wds op = [op] := wds_one op h32
    have ef : fst op = op := by unfold fst; rw [e]; rfl
    have er : rst op = [] := by unfold rst; rw [e]; rfl
    rw [el]
    unfold rdIns
    rw [ef, er, if_pos ho, if_neg (by simp)]
  · have h32 : 32 ∉ op := by
      have : ∀ k ∈ tOTHER, 32 ∉ k := by decide
      exact this op ho
    have hp : op ∉ tPLAIN := fun z => plain_other z ho
    have el : insLine [.str (S op), .int n] = TL.joinL [32] [op, itxt n] := by show (if op ∈ tPLAIN then op else _) = _; rw [if_neg hp]
    have e : wds (insLine [.str (S op), .int n]) = [op, itxt n] := by
      rw [el]
      refine wds_join (by simp) ?_
      intro w hw
      simp only [List.mem_cons, List.not_mem_nil, or_false] at hw
      rcases hw with rfl | rfl
      · exact h32
      · exact itxt_32 n
    have ef : fst (insLine [.str (S op), .int n]) = op := by unfold fst; rw [e]; rfl
    have er : rst (insLine [.str (S op), .int n]) = [n].map itxt := by unfold rst; rw [e]; rfl
    have nn : numsIn ([n].map itxt) 1 = some [n] := numsIn_itxt (is := [n]) (by intro m hm; have : m = n := by simpa using hm
                                                                                rw [this]; exact ⟨by omega, by omega⟩)
    unfold rdIns
    rw [ef, er, if_neg hp, if_neg (fun z => z ho), nn]
    dsimp only
    rw [if_neg (by omega)]
theorem goC_lines : ∀ {code : List (List V)} {k : Nat} {acc : List (List V)}, (∀ x ∈ code, InsOk x) → goC k acc (code.map insLine) = .inr (acc ++ code)
  | [], k, acc, _ => by rw [List.map_nil, goC, List.append_nil]
  | x :: r, k, acc, h => by
    rw [List.map_cons, goC, rdIns_line (h x List.mem_cons_self)]
    dsimp only
    rw [goC_lines fun y hy => h y (List.mem_cons_of_mem _ hy), List.append_assoc]
    rfl
theorem goL_lines : ∀ {lits : List (List V)} {k : Nat} {acc code : List (List V)}, (∀ x ∈ lits, LitOk x) → (∀ x ∈ code, InsOk x) → goL k acc (lits.map litLine ++ tCODE :: code.map insLine) = .inr (code, acc ++ lits)
  | [], k, acc, code, _, hc => by
    rw [List.map_nil, List.nil_append, goL, if_pos rfl, goC_lines hc, List.append_nil]
    rfl
  | x :: r, k, acc, code, h, hc => by
    rw [List.map_cons, List.cons_append, goL, if_neg (litLine_code (h x List.mem_cons_self)), rdLit_line (h x List.mem_cons_self)]
    dsimp only
    rw [goL_lines (fun y hy => h y (List.mem_cons_of_mem _ hy)) hc, List.append_assoc]
    rfl
theorem rdAll_lines {d : Dra} (h : DraWf d) : rdAll (linesOf d) = .inr d := by
  obtain ⟨⟨s1, s2, s3⟩, ⟨a, b, c, ei, ha, hb, hc⟩, h3, h4⟩ := h
  have e : wds (headLine d) = tMETHOD :: d.sel :: d.is.map itxt := by
    refine wds_join (by simp) ?_
    intro w hw
    rcases List.mem_cons.mp hw with rfl | hw
    · decide
    rcases List.mem_cons.mp hw with rfl | hw
    · exact s3
    · obtain ⟨n, _, rfl⟩ := List.mem_map.mp hw
      exact itxt_32 n
  have ef : fst (headLine d) = tMETHOD := by unfold fst; rw [e]; rfl
  have er : rst (headLine d) = d.sel :: d.is.map itxt := by unfold rst; rw [e]; rfl
  have nn : numsIn (d.is.map itxt) 3 = some d.is := by
    have := numsIn_itxt (is := d.is) (by
      rw [ei]
      intro m hm
      simp only [List.mem_cons, List.not_mem_nil, or_false] at hm
      rcases hm with rfl | rfl | rfl <;> assumption)
    rw [ei] at this ⊢
    exact this
  have eh : rdHead (headLine d) = some (d.sel, d.is) := by
    unfold rdHead
    rw [ef, er, e, if_neg]
    · show (numsIn (d.is.map itxt) 3).map _ = _
      rw [nn]; rfl
    · rintro (z | z | z)
      · exact z rfl
      · exact z (by rw [ei]; rfl)
      · exact s2 z
  unfold rdAll linesOf
  dsimp only
  rw [eh]
  dsimp only
  rw [goL_lines h4 h3]
  rfl
end LS

set_option Elab.async false
set_option linter.all false
set_option maxRecDepth 100000
set_option maxHeartbeats 4000000
/-! Ls6: promises of the side that writes listings (k25) -/
namespace LS
open PySem PySem.Spec PyProof.Rows L2 KW PK
/-- a word: a short text or a small int -/
def WOk (v : V) : Prop := (∃ l, v = .str (S l) ∧ Sm 400 l) ∨ ∃ i : Int, v = .int i ∧ -1000000000 < i ∧ i < 1000000000
theorem WOk.sm {v : V} (h : WOk v) : Sm 400 (sOf v) := by
  rcases h with ⟨l, rfl, h⟩ | ⟨i, rfl, h1, h2⟩
  · exact h
  · exact (Sm.int (by omega) (by omega)).mono (by omega)
def spEsc : Sp := fun vs H Q _ => ∃ t, vs = [.str (S t)] ∧ Sm 1000 t ∧ Q (.str (S (esc t))) H
def spJoin : Sp := fun vs H Q _ => ∃ (p : Addr) (ws : List V), vs = [.ref p] ∧ (H p = some (.lst ws) ∨ H p = some (.tup ws)) ∧ ws.length ≤ 10 ∧ (∀ v ∈ ws, WOk v) ∧ ∀ H', KW.Fr [] H H' → Q (.str (S (TL.joinL [32] (ws.map sOf)))) H'
def spLitL : Sp := fun vs H Q _ => ∃ (p : Addr) (x : List V), vs = [.ref p] ∧ H p = some (.tup x) ∧ LitOk x ∧ ∀ H', KW.Fr [] H H' → Q (.str (S (litLine x))) H'
def spListD (CD : Addr) : Sp := fun vs H Q _ => ∃ (d : Addr) (x : Dra), vs = [.ref d] ∧ Drf CD H d x ∧ DraWf x ∧ x.code.length ≤ 1000 ∧ x.lits.length ≤ 1000 ∧ ∀ D H', H D = none → KW.Fr [] H H' → H' D = some (.lst ((linesOf x).map sV)) → Q (.ref D) H'
theorem texts_sm : ∀ k ∈ tTEXTS, Sm 8 k := by
  have : ∀ k ∈ tTEXTS, k.length ≤ 8 ∧ k.all (· < 1114112) = true := by decide
  intro k hk
  obtain ⟨h1, h2⟩ := this k hk
  exact ⟨h1, fun c hc => by simpa using List.all_eq_true.mp h2 c hc⟩
theorem ops_sm : ∀ k ∈ tPLAIN ++ tOTHER, Sm 12 k := by
  have : ∀ k ∈ tPLAIN ++ tOTHER, k.length ≤ 12 ∧ k.all (· < 1114112) = true := by decide
  intro k hk
  obtain ⟨h1, h2⟩ := this k hk
  exact ⟨h1, fun c hc => by simpa using List.all_eq_true.mp h2 c hc⟩
theorem esc_sm {n : Nat} {t : List Nat} (h : Sm n t) : Sm (2 * n) (esc t) := ⟨by have := esc_len t; have := h.len; omega, esc_cps h.cps⟩
theorem joinL_sm {W : List (List Nat)} {n B : Nat} (hl : W.length ≤ n) (h : ∀ w ∈ W, Sm B w) : Sm (n * B + n) (TL.joinL [32] W) := by
  refine ⟨?_, joinL_cps fun w hw => (h w hw).cps⟩
  have h1 := sum_le (B := B) fun w hw => (h w hw).len
  have h2 := joinL_len W
  have h3 := Nat.mul_le_mul_right B hl
  omega
theorem litLine_sm {x : List V} (h : LitOk x) : Sm 3000 (litLine x) := by
  rcases h with ⟨n, rfl, hn⟩ | ⟨a, b, c, d, rfl, ha, hb, hc, hd⟩ | ⟨k, t, rfl, hk, ht, _⟩
  · refine (joinL_sm (n := 2) (B := 400) (by simp) ?_).mono (by omega)
    intro w hw
    simp only [List.map_cons, List.map_nil, List.mem_cons, List.not_mem_nil, or_false] at hw
    rcases hw with rfl | rfl
    · exact Sm.mono (Sm.lit (l := tINT) (by decide)) (by decide)
    · exact WOk.sm (.inr ⟨_, rfl, hn.1, hn.2⟩)
  · refine (joinL_sm (n := 5) (B := 400) (by simp) ?_).mono (by omega)
    intro w hw
    simp only [List.map_cons, List.map_nil, List.mem_cons, List.not_mem_nil, or_false] at hw
    rcases hw with rfl | rfl | rfl | rfl | rfl
    · exact Sm.mono (Sm.lit (l := tBLOCK) (by decide)) (by decide)
    · exact WOk.sm (.inr ⟨_, rfl, ha.1, ha.2⟩)
    · exact WOk.sm (.inr ⟨_, rfl, hb.1, hb.2⟩)
    · exact WOk.sm (.inr ⟨_, rfl, hc.1, hc.2⟩)
    · exact WOk.sm (.inr ⟨_, rfl, hd.1, hd.2⟩)
  · have h1 := (texts_sm k hk).app ((Sm.lit (l := [32]) (by decide)).app (esc_sm ht))
    exact h1.mono (by decide)
theorem insLine_sm {x : List V} (h : InsOk x) : Sm 3000 (insLine x) := by
  obtain ⟨op, n, rfl, h⟩ := h
  have hop : Sm 12 op := ops_sm op (List.mem_append.mpr (h.imp (fun z => z.1) fun z => z.1))
  show Sm 3000 (if op ∈ tPLAIN then op else TL.joinL [32] [op, itxt n])
  split
  · exact hop.mono (by omega)
  · rcases h with z | ⟨_, h0, h1⟩
    · exact absurd z.1 ‹_›
    refine (joinL_sm (n := 2) (B := 400) (by simp) ?_).mono (by omega)
    intro w hw
    simp only [List.mem_cons, List.not_mem_nil, or_false] at hw
    rcases hw with rfl | rfl
    · exact hop.mono (by omega)
    · exact (Sm.int (by omega) (by omega)).mono (by omega)
theorem LitOk.two {y : List V} (h : LitOk y) : (∃ (kd : List Nat) (is : List Int), y = .str (S kd) :: is.map V.int ∧ (kd = tINT ∨ kd = tBLOCK) ∧ 1 ≤ is.length ∧ is.length ≤ 4 ∧ (∀ n ∈ is, Cnt n) ∧ litLine y = TL.joinL [32] (y.map sOf)) ∨ ∃ k t, y = [.str (S k), .str (S t)] ∧ k ∈ tTEXTS ∧ Sm 64 t := by
  rcases h with ⟨n, rfl, hn⟩ | ⟨a, b, c, d, rfl, ha, hb, hc, hd⟩ | ⟨k, t, rfl, hk, ht, _⟩
  · exact .inl ⟨tINT, [n], rfl, .inl rfl, by simp, by simp, fun m hm => by have : m = n := by simpa using hm
                                                                           rw [this]; exact hn, rfl⟩
  · refine .inl ⟨tBLOCK, [a, b, c, d], rfl, .inr rfl, by simp, by simp, fun m hm => ?_, rfl⟩
    simp only [List.mem_cons, List.not_mem_nil, or_false] at hm
    rcases hm with rfl | rfl | rfl | rfl <;> assumption
  · exact .inr ⟨k, t, rfl, hk, ht⟩
theorem code_ref {H : Hp} {p : Addr} {xs : List (List V)} (h : TLs H p xs) : ∃ as : List Addr, H p = some (.lst (as.map V.ref)) ∧ as.length = xs.length := by
  obtain ⟨as, h1, h2, _⟩ := h
  exact ⟨as, h1, h2⟩
theorem TLs.fr1 {H H' : Hp} {st p : Addr} {xs : List (List V)} {ys : List V} (h : TLs H p xs) (f : KW.Fr [st] H H') (hs : H st = some (.lst ys)) (n : p ≠ st) : TLs H' p xs := by
  obtain ⟨as, h1, h2, h3⟩ := h
  refine ⟨as, fr_ne f n h1, h2, fun i a x e1 e2 => fr_ne f ?_ (h3 i a x e1 e2)⟩
  rintro rfl
  have := h3 i a x e1 e2
  rw [hs] at this
  cases this
theorem in_gl {K : Frag} {x : List Nat} {xs : List (List Nat)} {l : Addr} {H : Hp} {Q : VK} (h : SqL K H l (xs.map sV)) (q : Q (.bl (decide (x ∈ xs))) H) : rIn K false (.str (S x)) (.ref l) H Q := ⟨l, _, rfl, .inl h, rfl, by rw [show xs.map sV = (xs.map S).map V.str by rw [List.map_map]; rfl]; exact flat_strs _, by rw [show xs.map sV = (xs.map S).map V.str by rw [List.map_map]; rfl, inV_strs, mem_dec]; exact q⟩
end LS

set_option Elab.async false
set_option linter.all false
set_option maxRecDepth 100000
set_option maxHeartbeats 4000000
namespace K25
open PySem PySem.Spec PyProof.Rows L2 KW LS PK
local macro_rules | `(tactic| walk_at "kw") => `(tactic| simp only [tSeq, tNext, tIfS, tTest, tAnd, tOr, tNot, tAndV, tOrV, tNotV, tIf, tChain, tOp, tUn, tC, tAsg, gName, gSub, gCons, gNil, tRet, tRetN, tDrop, tCons, tNil, tCB, tAug, tSl, tPart, tNoPart, tLst, tTup, tBM, tBM0, uTest, uFor, iRng1, iRng2, iList, uCall, List.map_cons, List.map_nil, List.length_cons, List.length_nil, List.cons_append, List.nil_append, List.replicate, Nat.zero_add, Nat.reduceAdd, Nat.reduceSub, List.getElem?_cons_zero, List.getElem?_cons_succ, List.set_cons_zero, List.set_cons_succ, V.bl.injEq, V.int.injEq, V.str.injEq, V.ref.injEq, V.ty.injEq, List.cons.injEq, and_true, true_and, exists_eq_left', exists_eq_right, exists_eq_left, exists_and_left, exists_and_right, decide_eq_true_eq, Bool.not_eq_true', decide_eq_false_iff_not, Bool.false_eq_true, if_true, if_false, ite_true, ite_false, Bool.not_true, Bool.not_false, reduceCtorEq, decide_true, decide_false, Bool.not_not, isK_int_int, isK_int_bool, isK_int_str, isK_int_list, isK_int_tuple, isK_bool_int, isK_bool_bool, isK_bool_str, isK_str_str, isK_str_int, isK_str_bool, isK_str_tuple, isK_str_list, isK_list_list, isK_list_tuple, isK_tuple_tuple, isK_tuple_list, isOk_int_int, isOk_int_bool, isOk_int_str, isOk_int_list, isOk_int_tuple, isOk_bool_int, isOk_bool_bool, isOk_bool_str, isOk_str_str, isOk_str_int, isOk_str_bool, isOk_str_tuple, isOk_str_list, isOk_list_list, isOk_list_tuple, isOk_tuple_tuple, isOk_tuple_list, isK_dict_dict, isOk_dict_dict, isK_none_int, isK_none_bool, isOk_none_int, isOk_none_bool, tyV, S_inj, S_cat, L2.start, Nat.reduceSub, List.replicate_succ, List.replicate_zero, and_assoc, List.append_nil, Nat.reduceEqDiff, Option.some.injEq, Int.natCast_inj, upd_upd, Int.reducePow, Int.reduceToNat, Int.reduceMul, Int.reduceAdd, Int.reduceSub, Int.reduceLT, Int.reduceLE, Int.reduceNeg, Int.reduceDiv, Int.reduceMod, Nat.reducePow, Nat.reduceMul, S_len, List.length_append, List.length_map, List.length_range, not_true_eq_false, not_false_eq_true, ne_eq, uAdd_e1, uAdd_e2, uSub_e1, uMod_e1, uDiv_e1, uPow_e1, uShl_e1, uNeg_e1, uIAdd_e1, uIAdd_e2, uIAdd_e3, uISub_e1, uLt_e1, uLt_e2, uLe_e1, uGt_e1, uGe_e1, uEq_e1, uEq_e2, uEq_e3, uEq_e4, uEq_e5, uEq_e6, uEq_e7, uEq_e8, uEq_e9, uEq_e10, uEq_e11, uNe_e1, uNe_e2, uNe_e3, uNe_e4, uNe_e5, uNe_e6, uNe_e7, uNe_e8, uNe_e9, uNe_e10, uNe_e11, uIs_e1, uIs_e2, uIs_e3, uIs_e4, uIs_e5, uIs_e6, uIs_e7, uNotIs_e1, uNotIs_e2, uNotIs_e3, uNotIs_e4, uNotIs_e5, uNotIs_e6, uIn_e1, uIn_e2, uIn_e3, uIn_e4, uNotIn_e1, uNotIn_e2, uNotIn_e3, uNotIn_e4, uTru_e1, uTru_e2, uTru_e3, uTru_e4, uIx_e2, uSl_e2, uLen_e1, uAbs_e1, uInt_e1, uInt_e2, uMin2_e1, uIsi_e1, uIsi_e2, uIsi_e3, uIsi_e4, cx_K, uVar_0, uVar_n, uFld, uSFld, uMet, uMake, tDG, tDI, tDNI, tDP, tDD, uMk, uRaise, uDelSl, tCallS, L2.WE, uStr_e1, uStr_e2, uMul2_e1, uMul2_e2, okS_i, okS_s, List.zip_cons_cons, List.zip_nil_left, List.drop_zero, List.drop_succ_cons, List.drop_nil, putF_nil, putF_cons, eq_self, tDNewK, tB, Option.isSome_some, Option.isSome_none, false_and, false_or, or_false, exists_false, Int.zero_add, uLc, wipe, tYes, isEmpty_app, List.isEmpty_cons, List.isEmpty_nil, List.isEmpty_map, Bool.and_false, Bool.and_true, iRev, K25.lit_0, K25.lit_1, K25.lit_2, K25.lit_3, K25.lit_4, K25.lit_5, K25.lit_6, K25.lit_7, K25.lit_8, K25.lit_9, K25.lit_10, K25.lit_11, K25.lit_12, K25.lit_13, K25.lit_14, K25.lit_15, K25.lit_16, K25.lit_17, K25.lit_18, K25.lit_19, K25.lit_20, K25.lit_21, K25.lit_22, K25.lit_23, K25.lit_25, K25.lit_26, K25.lit_27, K25.lit_28, K25.lit_29, K25.lit_30, K25.lit_32, K25.lit_33, K25.lit_34, K25.lit_35, K25.lit_36, K25.lit_37, K25.lit_38, K25.lit_39, K25.lit_40, K25.lit_41, K25.lit_42, K25.lit_43, K25.lit_44, K25.lit_45, K25.lit_46, K25.lit_47, K25.lit_48, K25.lit_49, K25.lit_50, K25.lit_51, K25.fe_selector_argc, K25.fe_selector_locals, K25.fe_selector_stack, K25.fe_selector_code, K25.fe_selector_literals, K25.fe_argc_selector, K25.fe_argc_locals, K25.fe_argc_stack, K25.fe_argc_code, K25.fe_argc_literals, K25.fe_locals_selector, K25.fe_locals_argc, K25.fe_locals_stack, K25.fe_locals_code, K25.fe_locals_literals, K25.fe_stack_selector, K25.fe_stack_argc, K25.fe_stack_locals, K25.fe_stack_code, K25.fe_stack_literals, K25.fe_code_selector, K25.fe_code_argc, K25.fe_code_locals, K25.fe_code_stack, K25.fe_code_literals, K25.fe_literals_selector, K25.fe_literals_argc, K25.fe_literals_locals, K25.fe_literals_stack, K25.fe_literals_code, K25.fl_code_0, K25.lf_code_0, K25.fl_code_1, K25.lf_code_1, K25.fl_code_2, K25.lf_code_2, K25.fl_code_3, K25.lf_code_3, K25.fl_code_4, K25.lf_code_4, K25.fl_code_5, K25.lf_code_5, K25.fl_code_6, K25.lf_code_6, K25.fl_code_7, K25.lf_code_7, K25.fl_code_8, K25.lf_code_8, K25.fl_code_9, K25.lf_code_9, K25.fl_code_10, K25.lf_code_10, K25.fl_code_11, K25.lf_code_11, K25.fl_code_12, K25.lf_code_12, K25.fl_code_13, K25.lf_code_13, K25.fl_code_14, K25.lf_code_14, K25.fl_code_15, K25.lf_code_15, K25.fl_code_16, K25.lf_code_16, K25.fl_code_17, K25.lf_code_17, K25.fl_code_18, K25.lf_code_18, K25.fl_code_19, K25.lf_code_19, K25.fl_code_20, K25.lf_code_20, K25.fl_code_21, K25.lf_code_21, K25.fl_code_22, K25.lf_code_22, K25.fl_code_23, K25.lf_code_23, K25.fl_code_24, K25.lf_code_24, K25.fl_code_25, K25.lf_code_25, K25.fl_code_26, K25.lf_code_26, K25.fl_code_27, K25.lf_code_27, K25.fl_code_28, K25.lf_code_28, K25.fl_code_29, K25.lf_code_29, K25.fl_code_30, K25.lf_code_30, K25.fl_code_32, K25.lf_code_32, K25.fl_code_33, K25.lf_code_33, K25.fl_code_34, K25.lf_code_34, K25.fl_code_35, K25.lf_code_35, K25.fl_code_36, K25.lf_code_36, K25.fl_code_37, K25.lf_code_37, K25.fl_code_38, K25.lf_code_38, K25.fl_code_39, K25.lf_code_39, K25.fl_code_40, K25.lf_code_40, K25.fl_code_41, K25.lf_code_41, K25.fl_code_42, K25.lf_code_42, K25.fl_code_43, K25.lf_code_43, K25.fl_code_44, K25.lf_code_44, K25.fl_code_45, K25.lf_code_45, K25.fl_code_46, K25.lf_code_46, K25.fl_code_47, K25.lf_code_47, K25.fl_code_48, K25.lf_code_48, K25.fl_code_49, K25.lf_code_49, K25.fl_code_50, K25.lf_code_50, K25.fl_code_51, K25.lf_code_51, K25.fl_selector_0, K25.lf_selector_0, K25.fl_selector_1, K25.lf_selector_1, K25.fl_selector_2, K25.lf_selector_2, K25.fl_selector_3, K25.lf_selector_3, K25.fl_selector_4, K25.lf_selector_4, K25.fl_selector_5, K25.lf_selector_5, K25.fl_selector_6, K25.lf_selector_6, K25.fl_selector_7, K25.lf_selector_7, K25.fl_selector_8, K25.lf_selector_8, K25.fl_selector_9, K25.lf_selector_9, K25.fl_selector_10, K25.lf_selector_10, K25.fl_selector_11, K25.lf_selector_11, K25.fl_selector_12, K25.lf_selector_12, K25.fl_selector_13, K25.lf_selector_13, K25.fl_selector_14, K25.lf_selector_14, K25.fl_selector_15, K25.lf_selector_15, K25.fl_selector_16, K25.lf_selector_16, K25.fl_selector_17, K25.lf_selector_17, K25.fl_selector_18, K25.lf_selector_18, K25.fl_selector_19, K25.lf_selector_19, K25.fl_selector_20, K25.lf_selector_20, K25.fl_selector_21, K25.lf_selector_21, K25.fl_selector_22, K25.lf_selector_22, K25.fl_selector_23, K25.lf_selector_23, K25.fl_selector_25, K25.lf_selector_25, K25.fl_selector_26, K25.lf_selector_26, K25.fl_selector_27, K25.lf_selector_27, K25.fl_selector_28, K25.lf_selector_28, K25.fl_selector_29, K25.lf_selector_29, K25.fl_selector_30, K25.lf_selector_30, K25.fl_selector_31, K25.lf_selector_31, K25.fl_selector_32, K25.lf_selector_32, K25.fl_selector_33, K25.lf_selector_33, K25.fl_selector_34, K25.lf_selector_34, K25.fl_selector_35, K25.lf_selector_35, K25.fl_selector_36, K25.lf_selector_36, K25.fl_selector_37, K25.lf_selector_37, K25.fl_selector_38, K25.lf_selector_38, K25.fl_selector_39, K25.lf_selector_39, K25.fl_selector_40, K25.lf_selector_40, K25.fl_selector_41, K25.lf_selector_41, K25.fl_selector_42, K25.lf_selector_42, K25.fl_selector_43, K25.lf_selector_43, K25.fl_selector_44, K25.lf_selector_44, K25.fl_selector_45, K25.lf_selector_45, K25.fl_selector_46, K25.lf_selector_46, K25.fl_selector_47, K25.lf_selector_47, K25.fl_selector_48, K25.lf_selector_48, K25.fl_selector_49, K25.lf_selector_49, K25.fl_selector_50, K25.lf_selector_50, K25.fl_selector_51, K25.lf_selector_51, uAll_e, iTup_e, CwR.tReplC, uTuple_e, uFm_e1, uFm_e2, uIntS_e1, uIntS_e2, uIntS_e3, uEqO_e, tFm, tJs, iStr, S_e, itxt_S, K25.N_Draft_init, K25.N_Draft_parts, K25.N_Draft___eq__, K25.N_escaped, K25.N_joined, K25.N_literal_line, K25.N_list_draft, K25.N_number_in, K25.N_numbers_in, K25.N_unescaped, K25.N_read_head, K25.N_read_text, K25.N_read_literal, K25.N_read_instruction, K25.N_read_listing, K25.N__law_start, K25.N__law_pick, K25.N__law_text, K25.N__law_count, K25.N__law_literal, K25.N__law_plain, K25.N__law_instruction, K25.N__law_written, K25.N__law_lines, K25.N__law_draft, K25.N__law_parts, K25.N__law_changed, K25.N__law_others, K25.N_law])
local macro_rules | `(tactic| walk_at "nn") => `(tactic| first | assumption | exact ne_un (by assumption) | exact ne_un (ne_un (by assumption)) | exact ne_un (ne_un (ne_un (by assumption))) | exact ne_un (ne_un (ne_un (ne_un (by assumption)))))
local macro_rules | `(tactic| walk_at "ne") => `(tactic| first | assumption | (apply Ne.symm; assumption) | exact ne_ud (by assumption) | exact Ne.symm (ne_ud (by assumption)) | exact ne_ud (ne_un (by assumption)) | exact Ne.symm (ne_ud (ne_un (by assumption))) | exact ne_ud (ne_un (ne_un (by assumption))) | exact Ne.symm (ne_ud (ne_un (ne_un (by assumption)))) | exact ne_m (by assumption) (by assumption) | exact Ne.symm (ne_m (by assumption) (by assumption)) | exact ne_n (by assumption) (by walk_at "nn") | exact Ne.symm (ne_n (by assumption) (by walk_at "nn")))
local macro_rules | `(tactic| walk_at "hp") => `(tactic| first | assumption | exact upd_same | (refine Eq.trans (upd_ne ?_) ?_; (focus walk_at "ne"); walk_at "hp"))
local macro_rules | `(tactic| walk_at "sc") => `(tactic| first | (with_reducible assumption) | omega | exact le_line (by (try simp only [List.length_map, List.length_append, List.length_cons, List.length_nil, S_len]); omega) | exact div_s (by omega) | exact mul_r (by omega) | exact mul_l (by omega) | exact pow_s (by omega) | exact mul2_r (by omega) | exact mul2_l (by omega) | exact small4300 (by omega) | exact lt_line (by (try simp only [List.length_map, List.length_append, List.length_cons, List.length_nil, S_len]); omega) | exact ⟨_, by assumption⟩ | (guard_target =~ Exists _; exact ⟨_, .of (by walk_at "hp")⟩) | (guard_target =~ _ ∨ _; exact .inl ⟨_, by assumption⟩) | (guard_target =~ _ ∨ _; exact .inl ⟨_, .of (by walk_at "hp")⟩) | (guard_target =~ _ ∨ _; exact .inr (.inr (.inl ⟨rfl, .inl ⟨_, by walk_at "hp"⟩⟩))) | decide)
local macro_rules | `(tactic| walk_at "kr") => `(tactic| first | (guard_target =~ _ ∧ _; first | refine And.intro (by walk_at "sc") ?_) | (guard_target =~ KW.uIx _ _ _ _ _; first | refine ix_l (by walk_at "hp") (by first | walk_at "hv" | rfl) ?_ | refine ix_t (by walk_at "hp") (by first | walk_at "hv" | rfl) ?_ | refine ix_sl (by assumption) (by walk_at "hv") ?_) | (guard_target =~ KW.uLen _ _ _ _; first | refine len_l (by walk_at "hp") ?_ | refine len_t (by walk_at "hp") ?_ | refine len_sl (by assumption) ?_) | (guard_target =~ KW.uSet _ _ _ _ _; first | refine set_l (by walk_at "hp") (by first | walk_at "hv" | rfl) ?_) | (guard_target =~ L2.gTup _ _ _ _ _ _ _; first | refine tup_l (by walk_at "hp") (by rfl) ?_) | (guard_target =~ KW.uGet _ _ _ _ _; first | refine get_l (by walk_at "hp") (by walk_at "hc") (by decide) (by rfl) ?_) | (guard_target =~ KW.uPut _ _ _ _ _ _; first | refine put_l (by walk_at "hp") (by walk_at "hc") (by decide) (by simp) ?_) | (guard_target =~ KW.uMet.uMt _ _ _ _ _ _ _ _ _; first | refine met_l (by walk_at "hp") (by rfl) ?_) | (guard_target =~ KW.uMet.uMt _ _ _ _ _ _ _ _ _; first | refine ST.met_s (by assumption) (by decide) ?_) | (guard_target =~ ST.spExists _ _ _ _ _; first | refine ST.exists_s (by assumption) ?_) | (guard_target =~ ST.spUsed _ _ _ _ _; first | refine ST.used_s (by assumption) ?_) | (guard_target =~ KW.uGet _ _ _ _ _; first | refine ST.words_s (by assumption) (by walk_at "hc") (by decide) ?_) | (guard_target =~ KW.uDIn _ _ _ _; first | refine din_i (by walk_at "hp") ?_ | refine din_s (by walk_at "hp") ?_) | (guard_target =~ KW.uDGet _ _ _ _; first | refine dget_i (by walk_at "hp") (by walk_at "hv") ?_ | refine dget_s (by walk_at "hp") (by walk_at "hv") ?_) | (guard_target =~ KW.uDPut _ _ _ _ _; first | refine dput_i (by walk_at "hp") (by walk_at "sc") ?_ | refine dput_s (by walk_at "hp") (by walk_at "sc") ?_) | (guard_target =~ KW.uDDel _ _ _ _; first | refine ddel_i (by walk_at "hp") (by walk_at "hv") ?_ | refine ddel_s (by walk_at "hp") (by walk_at "hv") ?_) | (guard_target =~ KW.uMul2 _ _ _ _; first | refine rep_l (by walk_at "hp") (by walk_at "sc") (by walk_at "sc") (by walk_at "sc") ?_) | (guard_target =~ L2.rAppend _ _ _ _; first | refine app_l (by walk_at "hp") (by walk_at "sc") ?_) | (guard_target =~ L2.rPop _ _ _ _; first | refine pop_l (by walk_at "hp") (by walk_at "hv") ?_ | refine pops_l (by walk_at "hp") ?_) | (guard_target =~ L2.rClear _ _ _ _; first | refine clr_l (by walk_at "hp") ?_) | (guard_target =~ L2.rReverse _ _ _ _; first | refine rev_l (by walk_at "hp") ?_) | (guard_target =~ L2.rExtend _ _ _ _; first | refine ext_l (by walk_at "hp") (by walk_at "hp") (by walk_at "sc") ?_) | (guard_target =~ KW.uAdd _ _ _ _ _; first | refine ucat_l (by walk_at "hp") (by walk_at "hp") (by walk_at "sc") ?_) | (guard_target =~ KW.uSl _ _ _ _ _ _; first | refine usl_l (by walk_at "hp") ?_) | (guard_target =~ KW.uTru _ _ _ _; first | refine tru_l (by walk_at "hp") ?_ | refine tru_t (by walk_at "hp") ?_ | refine tru_d (by walk_at "hp") ?_ | refine tru_sl (by assumption) ?_) | (guard_target =~ L2.rIndex _ _ _ _ _; first | refine idx_s (by walk_at "hp") (by assumption) ?_ | refine idx_i (by walk_at "hp") (by assumption) ?_) | (guard_target =~ L2.rIn _ _ _ _ _ _; first | refine in_s (by walk_at "hp") ?_ | refine nin_s (by walk_at "hp") ?_ | refine in_i (by walk_at "hp") ?_ | refine nin_i (by walk_at "hp") ?_) | (guard_target =~ KW.uIsi _ _ _ _; first | refine isi_l (by walk_at "hp") (by decide +kernel) ?_ | refine isi_t (by walk_at "hp") (by decide +kernel) ?_ | refine isi_d (by walk_at "hp") (by decide +kernel) ?_) | (guard_target =~ KW.uList _ _ _ _; first | refine list_l (by walk_at "hp") ?_ | refine list_t (by walk_at "hp") ?_ | refine list_sl (by assumption) ?_) | (guard_target =~ KW.uDict _ _ _; first | refine dict_d (by walk_at "hp") ?_) | (guard_target =~ KW.uSorted _ _ _ _; first | refine srt_l (by walk_at "hp") ?_) | (guard_target =~ KW.uSum _ _ _ _; first | refine sum_l (by walk_at "hp") ?_) | (guard_target =~ KW.uDelC _ _ _ _; first | refine dels_l (by walk_at "hp") (by walk_at "sc") ?_) | (guard_target =~ L2.wAs _ _ _ _ _ _ _ _ _ _; first | refine as_yes (by walk_at "hx") ?_ | refine as_no (by walk_at "hx") ?_) | (guard_target =~ KW.uEf _ _ _ _ _ _ _ _ _; first | refine ef_l (by walk_at "he") (by decide) (by rfl) (by walk_at "hp") (by rfl) ?_) | (guard_target =~ KW.uIsE _ _ _ _ _ _ _; first | refine isE_r (by walk_at "he") (by walk_at "hp") (by walk_at "hk") ?_ | refine isE_t (by walk_at "he") (by walk_at "hp") (by walk_at "hk") ?_))
local macro_rules | `(tactic| walk_at "hv") => `(tactic| first | assumption)
local macro_rules | `(tactic| walk_at "kk") => `(tactic| repeat (first | walk_at "kw" | walk_at "kr"))
local macro_rules | `(tactic| walk_at "hc") => `(tactic| first | exact K25.Txt.c_Draft (by assumption))
local macro_rules | `(tactic| walk_at "he") => `(tactic| first | exact K25.Txt.e_Malformed (by assumption))
local macro_rules | `(tactic| walk_at "hx") => `(tactic| first | fail)
local macro_rules | `(tactic| walk_at "hk") => `(tactic| first | fail)

section
variable {P : Program} {w : World} {K : Frag} {mg : Str → Option Value} {base : Heap} {a : Ads}
def spCnt (K : Frag) : Sp := fun vs H Q _ => ∃ st sc, vs = [.ref st] ∧ Sta K sc H st ∧ ∀ n H', Sta K sc H' st → KW.Fr [st] H H' → Cnt n → Q (.int n) H'
theorem ok__law_count (T : Txt P w K mg a) : Cal P w K mg base 2 "_law_count" (spCnt K) := by
  have C__law_pick := ok__law_pick (P := P) (w := w) (base := base) T
  refine T.d__law_count.ok sc__law_count (fun vs H Q E h => ?_) (fun f cdv A outer s H vs Q E hr h => ⟨_, (pss_cons (ps_set (i := 1) sc__law_count.nd rfl (Or.inl rfl) (pe_ix o_ix (pe_lst (pa_cons (kc C__law_pick (hr.mono (by decide)) (pa_cons (kv 0) (pa_cons pe_int pa_nil))) (pa_cons (kc C__law_pick (hr.mono (by decide)) (pa_cons (kv 0) (pa_cons pe_int pa_nil))) (pa_cons pe_int (pa_cons (kc C__law_pick (hr.mono (by decide)) (pa_cons (kv 0) (pa_cons (pe_op o_pow pe_int pe_int) pa_nil))) pa_nil))))) (kc C__law_pick (hr.mono (by decide)) (pa_cons (kv 0) (pa_cons pe_int pa_nil))) (fun _ _ => rfl)))
      (pss_cons (ps_if (pt_cmpR (o_eq hr.units) (kc C__law_pick (hr.mono (by decide)) (pa_cons (kv 0) (pa_cons pe_int pa_nil))) pe_int (nomark _))
      (pss_one (ps_ret (pe_un o_neg (kv 1))))
      pss_nil)
      (pss_one (ps_ret (kv 1))))), ?_⟩)
  · obtain ⟨st, sc, rfl, _⟩ := h; rfl
  · obtain ⟨st, sc, rfl, hs, h⟩ := h
    walk_at "kk"
    refine pick_s (by decide) (by decide) hs fun r1 H1 s1 f1 a1 b1 => ?_
    walk_at "kk"
    refine pick_s (by decide) (by decide) s1 fun r2 H2 s2 f2 a2 b2 => ?_
    walk_at "kk"
    refine pick_s (by decide) (by decide) s2 fun r3 H3 s3 f3 a3 b3 => ?_
    walk_at "kk"
    intro p hp
    have np := s3.ne hp
    refine pick_s (by decide) (by decide) (s3.new hp) fun r4 H4 s4 f4 a4 b4 => ?_
    have f04 := (((f1.trans f2).trans f3).trans (KW.Fr.new (l := [st]) hp)).trans f4
    walk_at "kk"
    refine ix_all (fr_ne f4 np upd_same) a4 (by simpa using b4) fun v hv => ?_
    have hv' : ∃ n : Int, v = .int n ∧ 0 ≤ n ∧ n < 1000000000 := by
      simp only [List.mem_cons, List.not_mem_nil, or_false] at hv
      rcases hv with rfl | rfl | rfl | rfl
      · exact ⟨_, rfl, a1, by omega⟩
      · exact ⟨_, rfl, a2, by omega⟩
      · exact ⟨_, rfl, by omega, by omega⟩
      · exact ⟨_, rfl, a3, b3⟩
    obtain ⟨n, rfl, n1, n2⟩ := hv'
    walk_at "kk"
    refine pick_s (by decide) (by decide) s4 fun r5 H5 s5 f5 a5 b5 => ?_
    walk_at "kk"
    split
    · exact h _ _ s5 (f04.trans f5) ⟨by omega, by omega⟩
    · exact h _ _ s5 (f04.trans f5) ⟨by omega, by omega⟩
def spPlain : Sp := fun vs H Q _ => vs = [] ∧ ∀ D, H D = none → Q (.ref D) (upd H D (.lst (tPLAIN.map sV)))
theorem ok__law_plain (T : Txt P w K mg a) : Cal P w K mg base 1 "_law_plain" spPlain := by
  refine T.d__law_plain.ok sc__law_plain (fun vs H Q E h => ?_) (fun f cdv A outer s H vs Q E hr h => ⟨_, (pss_one (ps_ret (pe_lst (pa_cons pe_str (pa_cons pe_str (pa_cons pe_str (pa_cons pe_str (pa_cons pe_str (pa_cons pe_str (pa_cons pe_str (pa_cons pe_str pa_nil))))))))))), ?_⟩)
  · obtain ⟨rfl, _⟩ := h; rfl
  · obtain ⟨rfl, h⟩ := h
    walk_at "kk"
    exact h
def spWrit : Sp := fun vs H Q _ => ∃ t, vs = [.str (S t)] ∧ Sm 1000 t ∧ Q (.str (S (esc t))) H
theorem ok__law_written (T : Txt P w K mg a) : Cal P w K mg base 1 "_law_written" spWrit := by
  refine T.d__law_written.ok sc__law_written (fun vs H Q E h => ?_) (fun f cdv A outer s H vs Q E hr h => ⟨_, (pss_cons (ps_set (i := 1) sc__law_written.nd rfl (Or.inl rfl) pe_str)
      (pss_cons (k_for (passes_of rfl) rfl (pi_str (kv 0)) (pg_name (i := 2) sc__law_written.nd rfl (Or.inl rfl))
      (pss_one (ps_if (pt_cmpR (o_eq hr.units) (kv 2) pe_str (nomark _))
      (pss_one (ps_set (i := 1) sc__law_written.nd rfl (Or.inl rfl) (pe_op o_add (kv 1) pe_str)))
      (pss_one (ps_if (pt_cmpR (o_eq hr.units) (kv 2) pe_str (nomark _))
      (pss_one (ps_set (i := 1) sc__law_written.nd rfl (Or.inl rfl) (pe_op o_add (kv 1) pe_str)))
      (pss_one (ps_set (i := 1) sc__law_written.nd rfl (Or.inl rfl) (pe_op o_add (kv 1) (kv 2)))))))))
      (pss_one (ps_ret (kv 1))))), ?_⟩)
  · obtain ⟨l, rfl, _⟩ := h; rfl
  · obtain ⟨l, rfl, hl, h⟩ := h
    have hl1 := hl.len
    walk_at "kk"
    refine for_s (fun i σ H' => ∃ v : Option V, σ = [some (.str (S l)), some (.str (S (esc (l.take i)))), v] ∧ H' = H) ⟨none, rfl, rfl⟩ ?_ ?_
    · rintro i c σ H' hc ⟨v, rfl, rfl⟩
      have et : esc (l.take (i + 1)) = esc (l.take i) ++ esc1 c := by
        rw [List.take_add_one, hc]
        unfold esc
        rw [List.flatMap_append]
        simp
      have e1 := esc_len (l.take i)
      have e2 : (l.take i).length ≤ l.length := by rw [List.length_take]; omega
      walk_at "kk"
      rw [et]
      unfold esc1
      split
      · exact ⟨le_line (by omega), rfl⟩
      · split
        · exact ⟨le_line (by omega), rfl⟩
        · exact ⟨le_line (by omega), rfl⟩
    · rintro σ H' ⟨v, rfl, rfl⟩
      rw [List.take_length]
      walk_at "kk"
      exact h
def BASE : List (List Nat) := [[97], [66, 55], str_39, [43], [92], [92, 110], [110], [92, 92], [39], [120, 57], [35], [98, 108, 111, 99, 107], [99, 111, 100, 101], [45, 49], [48], [126]]
def MORE : List (List Nat) := [[32], [10], [32, 32], [32, 99, 111, 100, 101], [10, 32], [92, 32]]
theorem pieces_ok : (∀ w ∈ BASE, 0 < w.length ∧ w.length ≤ 8 ∧ w.all (· < 1114112) = true ∧ 32 ∉ w ∧ 10 ∉ w) ∧ ∀ w ∈ MORE, 0 < w.length ∧ w.length ≤ 8 ∧ w.all (· < 1114112) = true := by decide
def spLTxt (K : Frag) : Sp := fun vs H Q _ => ∃ (st : Addr) (sc : Addr × List Int) (sp : Bool), vs = [.ref st, .bl sp] ∧ Sta K sc H st ∧ ∀ t H', Sta K sc H' st → KW.Fr [st] H H' → Sm 64 t → t ≠ [] → (sp = false → 32 ∉ t ∧ 10 ∉ t) → Q (.str (S t)) H'
theorem ok__law_text (T : Txt P w K mg a) : Cal P w K mg base 2 "_law_text" (spLTxt K) := by
  have C__law_pick := ok__law_pick (P := P) (w := w) (base := base) T
  refine T.d__law_text.ok sc__law_text (fun vs H Q E h => ?_) (fun f cdv A outer s H vs Q E hr h => ⟨_, (pss_cons (ps_set (i := 2) sc__law_text.nd rfl (Or.inl rfl) (pe_lst (pa_cons pe_str (pa_cons pe_str (pa_cons pe_str (pa_cons pe_str (pa_cons pe_str (pa_cons pe_str (pa_cons pe_str (pa_cons pe_str (pa_cons pe_str (pa_cons pe_str (pa_cons pe_str (pa_cons pe_str (pa_cons pe_str (pa_cons pe_str (pa_cons pe_str (pa_cons pe_str pa_nil))))))))))))))))))
      (C8.pss_cut (ps_if (kt (kv 1))
      (pss_one (ps_set (i := 2) sc__law_text.nd rfl (Or.inl rfl) (pe_op o_add (kv 2) (pe_lst (pa_cons pe_str (pa_cons pe_str (pa_cons pe_str (pa_cons pe_str (pa_cons pe_str (pa_cons pe_str pa_nil))))))))))
      pss_nil)
      (pss_cons (ps_set (i := 3) sc__law_text.nd rfl (Or.inl rfl) pe_str)
      (pss_cons (k_for (passes_of rfl) rfl (pi_range1 (by rfl) T.n_range (pa_cons (pe_op o_add pe_int (kc C__law_pick (hr.mono (by decide)) (pa_cons (kv 0) (pa_cons pe_int pa_nil)))) pa_nil)) (pg_name (i := 4) sc__law_text.nd rfl (Or.inl rfl))
      (pss_one (ps_set (i := 3) sc__law_text.nd rfl (Or.inl rfl) (pe_op o_add (kv 3) (pe_ix o_ix (kv 2) (kc C__law_pick (hr.mono (by decide)) (pa_cons (kv 0) (pa_cons (pe_callB c_len (by rfl) T.n_len (by decide +kernel) (pa_cons (kv 2) pa_nil)) pa_nil))) (fun _ _ => rfl))))))
      (pss_one (ps_ret (kv 3))))))), ?_⟩)
  · obtain ⟨st, sc, sp, rfl, _⟩ := h; rfl
  · obtain ⟨st, sc, sp, rfl, hs, h⟩ := h
    walk_at "kk"
    intro p hp
    walk_at "kk"
    refine ⟨fun σ H' => ∃ (p : Addr) (W : List (List Nat)), σ = [some (.ref st), some (.bl sp), some (.ref p), none, none] ∧ Sta K sc H' st ∧ KW.Fr [st] H H' ∧ p ≠ st ∧ H' p = some (.lst (W.map sV)) ∧ 0 < W.length ∧ W.length ≤ 30 ∧ ∀ w ∈ W, 0 < w.length ∧ w.length ≤ 8 ∧ w.all (· < 1114112) = true ∧ (sp = false → 32 ∉ w ∧ 10 ∉ w), ?_, ?_⟩
    · walk_at "kk"
      rw [lit_code]
      have np := hs.ne hp
      have f1 : KW.Fr [st] H (upd H p (.lst (BASE.map sV))) := KW.Fr.new hp
      have s1 : Sta K sc (upd H p (.lst (BASE.map sV))) st := hs.new hp
      have p1 : (upd H p (.lst (BASE.map sV))) p = some (.lst (BASE.map sV)) := upd_same
      change if sp = true then 6 ≤ sizeLine ∧ ∀ q, (upd H p (.lst (BASE.map sV))) q = none → uAdd K (.ref p) (.ref q) (upd (upd H p (.lst (BASE.map sV))) q (.lst (MORE.map sV))) _ else Sta K sc (upd H p (.lst (BASE.map sV))) st ∧ KW.Fr [st] H (upd H p (.lst (BASE.map sV))) ∧ ¬ p = st ∧ ∃ x : List (List Nat), (upd H p (.lst (BASE.map sV))) p = some (.lst (x.map sV)) ∧ _
      generalize (upd H p (.lst (BASE.map sV))) = H1 at f1 s1 p1 ⊢
      cases sp with
      | true =>
        rw [if_pos rfl]
        refine ⟨by decide, fun q hq => ?_⟩
        have nq := s1.ne hq
        have f2 := f1.trans (KW.Fr.new (l := [st]) (o := .lst (MORE.map sV)) hq)
        have s2 := s1.new (o := .lst (MORE.map sV)) hq
        refine ucat_l ((upd_ne (ne_of_none p1 hq)).trans p1) upd_same (le_line (by simp only [List.length_map]; decide)) fun u hu => ?_
        refine ⟨u, rfl, s2.new hu, f2.trans (KW.Fr.new hu), s2.ne hu, BASE ++ MORE, by rw [upd_same, List.map_append], by decide, by decide, fun w hw => ?_⟩
        rcases List.mem_append.mp hw with z | z
        · obtain ⟨z1, z2, z3, _⟩ := pieces_ok.1 w z
          exact ⟨z1, z2, z3, fun e => by cases e⟩
        · obtain ⟨z1, z2, z3⟩ := pieces_ok.2 w z
          exact ⟨z1, z2, z3, fun e => by cases e⟩
      | false =>
        rw [if_neg (by simp)]
        refine ⟨s1, f1, np, BASE, p1, by decide, by decide, fun w hw => ?_⟩
        obtain ⟨z1, z2, z3, z4, z5⟩ := pieces_ok.1 w hw
        exact ⟨z1, z2, z3, fun _ => ⟨z4, z5⟩⟩
    · rintro σ H' ⟨p, W, rfl, s1, f1, np, hp, l0, l1, hW⟩
      walk_at "kk"
      refine pick_s (by decide) (by decide) s1 fun r2 H2 s2 f2 a2 b2 => ?_
      walk_at "kk"
      have hp2 := fr_ne f2 np hp
      refine for_rng (fun i σ H' => ∃ (t : List Nat) (v : Option V), σ = [some (.ref st), some (.bl sp), some (.ref p), some (.str (S t)), v] ∧ Sta K sc H' st ∧ KW.Fr [st] H H' ∧ H' p = some (.lst (W.map sV)) ∧ t.length ≤ 8 * i ∧ i ≤ t.length ∧ (∀ c ∈ t, c < 1114112) ∧ (sp = false → 32 ∉ t ∧ 10 ∉ t)) ⟨[], _, rfl, s2, f1.trans f2, hp2, by simp, by simp, by simp, by simp⟩ ?_ ?_
      · rintro i σ H3 hi ⟨t, v, rfl, s3, f3, hp3, t1, t2, t3, t4⟩
        walk_at "kk"
        refine pick_s (by omega) (by omega) s3 fun r4 H4 s4 f4 a4 b4 => ?_
        walk_at "kk"
        refine ix_all (fr_ne f4 np hp3) a4 (by rw [List.length_map]; omega) fun x hx => ?_
        obtain ⟨w, hw, rfl⟩ := List.mem_map.mp hx
        obtain ⟨w1, w2, w3, w4⟩ := hW w hw
        unfold sV
        walk_at "kk"
        refine ⟨f3.trans f4, fr_ne f4 np hp3, by omega, by omega, fun c hc => ?_, fun e => ?_⟩
        · rcases List.mem_append.mp hc with z | z
          · exact t3 c z
          · simpa using List.all_eq_true.mp w3 c z
        · have z1 := t4 e
          have z2 := w4 e
          simp only [List.mem_append]
          exact ⟨fun z => z.elim z1.1 z2.1, fun z => z.elim z1.2 z2.2⟩
      · rintro σ H3 ⟨t, v, rfl, s3, f3, hp3, t1, t2, t3, t4⟩
        walk_at "kk"
        refine h t H3 s3 f3 ⟨by omega, t3⟩ ?_ t4
        rintro rfl
        simp only [List.length_nil] at t2
        omega
def spLLit (K : Frag) : Sp := fun vs H Q _ => ∃ (st : Addr) (sc : Addr × List Int), vs = [.ref st] ∧ Sta K sc H st ∧ ∀ q x H', Sta K sc H' st → KW.Fr [st] H H' → H q = none → H' q = some (.tup x) → LitOk x → Q (.ref q) H'
def spLIns (K : Frag) : Sp := fun vs H Q _ => ∃ (st : Addr) (sc : Addr × List Int), vs = [.ref st] ∧ Sta K sc H st ∧ ∀ q x H', Sta K sc H' st → KW.Fr [st] H H' → H q = none → H' q = some (.tup x) → InsOk x → Q (.ref q) H'
theorem fr1_no {H H' : Hp} {st p : Addr} {xs : List V} (hs : H st = some (.lst xs)) (hs' : ∃ ys, H' st = some (.lst ys)) (f : KW.Fr [st] H H') (h : H' p = none) : H p = none := by
  by_cases e : p = st
  · rw [e] at h
    obtain ⟨ys, h'⟩ := hs'
    rw [h'] at h; cases h
  · cases c : H p with
    | none => rfl
    | some o => rw [fr_ne f e c] at h; cases h
theorem ok__law_literal (T : Txt P w K mg a) : Cal P w K mg base 3 "_law_literal" (spLLit K) := by
  have C__law_pick := ok__law_pick (P := P) (w := w) (base := base) T
  have C__law_text := ok__law_text (P := P) (w := w) (base := base) T
  have C__law_count := ok__law_count (P := P) (w := w) (base := base) T
  refine T.d__law_literal.ok sc__law_literal (fun vs H Q E h => ?_) (fun f cdv A outer s H vs Q E hr h => ⟨_, (pss_cons (ps_set (i := 1) sc__law_literal.nd rfl (Or.inl rfl) (kc C__law_pick (hr.mono (by decide)) (pa_cons (kv 0) (pa_cons pe_int pa_nil))))
      (pss_cons (ps_if (pt_cmpR (o_eq hr.units) (kv 1) pe_int (nomark _))
      (pss_one (ps_ret (pe_tup (pa_cons pe_str (pa_cons (kc C__law_count (hr.mono (by decide)) (pa_cons (kv 0) pa_nil)) pa_nil)))))
      pss_nil)
      (pss_cons (ps_if (pt_cmpR (o_eq hr.units) (kv 1) pe_int (nomark _))
      (pss_one (ps_ret (pe_tup (pa_cons pe_str (pa_cons (kc C__law_count (hr.mono (by decide)) (pa_cons (kv 0) pa_nil)) (pa_cons (kc C__law_count (hr.mono (by decide)) (pa_cons (kv 0) pa_nil)) (pa_cons (kc C__law_count (hr.mono (by decide)) (pa_cons (kv 0) pa_nil)) (pa_cons (kc C__law_count (hr.mono (by decide)) (pa_cons (kv 0) pa_nil)) pa_nil))))))))
      pss_nil)
      (pss_cons (ps_if (pt_cmpR (o_eq hr.units) (kv 1) pe_int (nomark _))
      (pss_one (ps_ret (pe_tup (pa_cons pe_str (pa_cons (pe_ix o_ix (pe_lst (pa_cons pe_str (pa_cons (kc C__law_text (hr.mono (by decide)) (pa_cons (kv 0) (pa_cons pe_bl pa_nil))) pa_nil))) (kc C__law_pick (hr.mono (by decide)) (pa_cons (kv 0) (pa_cons pe_int pa_nil))) (fun _ _ => rfl)) pa_nil)))))
      pss_nil)
      (pss_cons (ps_if (pt_cmpR (o_eq hr.units) (kv 1) pe_int (nomark _))
      (pss_one (ps_ret (pe_tup (pa_cons pe_str (pa_cons (kc C__law_text (hr.mono (by decide)) (pa_cons (kv 0) (pa_cons pe_bl pa_nil))) pa_nil)))))
      pss_nil)
      (pss_one (ps_ret (pe_tup (pa_cons (pe_ix o_ix (pe_lst (pa_cons pe_str (pa_cons pe_str pa_nil))) (pe_op o_sub (kv 1) pe_int) (fun _ _ => rfl)) (pa_cons (kc C__law_text (hr.mono (by decide)) (pa_cons (kv 0) (pa_cons pe_bl pa_nil))) pa_nil)))))))))), ?_⟩)
  · obtain ⟨st, sc, rfl, _⟩ := h; rfl
  · obtain ⟨st, sc, rfl, hs, h⟩ := h
    obtain ⟨xs0, hs0⟩ := hs.lst
    walk_at "kk"
    refine pick_s (by decide) (by decide) hs fun r1 H1 s1 f1 a1 b1 => ?_
    have fin : ∀ (q : Addr) (x : List V) (H5 : Hp), Sta K sc H5 st → KW.Fr [st] H H5 → LitOk x → H5 q = none → Q (.ref q) (upd H5 q (.tup x)) := fun q x H5 s5 f5 ok hq => h q x _ (s5.new hq) (f5.trans (KW.Fr.new hq)) (fr1_no hs0 s5.lst f5 hq) upd_same ok
    walk_at "kk"
    split
    · refine ⟨st, sc, rfl, s1, fun n H2 s2 f2 hn => ?_⟩
      walk_at "kk"
      exact fun q hq => fin q _ H2 s2 (f1.trans f2) (.inl ⟨n, rfl, hn⟩) hq
    rename_i c0
    split
    · refine ⟨st, sc, rfl, s1, fun n1 H2 s2 f2 h1 => ?_⟩
      walk_at "kk"
      refine ⟨st, sc, rfl, s2, fun n2 H3 s3 f3 h2 => ?_⟩
      walk_at "kk"
      refine ⟨st, sc, rfl, s3, fun n3 H4 s4 f4 h3 => ?_⟩
      walk_at "kk"
      refine ⟨st, sc, rfl, s4, fun n4 H5 s5 f5 h4 => ?_⟩
      walk_at "kk"
      exact fun q hq => fin q _ H5 s5 ((((f1.trans f2).trans f3).trans f4).trans f5) (.inr (.inl ⟨n1, n2, n3, n4, rfl, h1, h2, h3, h4⟩)) hq
    rename_i c1
    split
    · refine ⟨st, sc, true, rfl, s1, fun t H2 s2 f2 t1 t2 t3 => ?_⟩
      walk_at "kk"
      intro p hp
      have np := s2.ne hp
      refine pick_s (by decide) (by decide) (s2.new hp) fun r3 H3 s3 f3 a3 b3 => ?_
      walk_at "kk"
      refine ix_all (fr_ne f3 np upd_same) a3 (by simpa using b3) fun v hv => ?_
      have hv' : ∃ t : List Nat, v = .str (S t) ∧ Sm 64 t := by
        simp only [List.mem_cons, List.not_mem_nil, or_false] at hv
        rcases hv with rfl | rfl
        · exact ⟨[], rfl, by simp, by simp⟩
        · exact ⟨t, rfl, t1⟩
      obtain ⟨t', rfl, t4⟩ := hv'
      walk_at "kk"
      exact fun q hq => fin q _ H3 s3 (((f1.trans f2).trans (KW.Fr.new (l := [st]) hp)).trans f3) (.inr (.inr ⟨tSYMBOL, t', rfl, by decide, t4, fun z => absurd rfl z⟩)) hq
    rename_i c2
    split
    · refine ⟨st, sc, true, rfl, s1, fun t H2 s2 f2 t1 t2 t3 => ?_⟩
      walk_at "kk"
      exact fun q hq => fin q _ H2 s2 (f1.trans f2) (.inr (.inr ⟨tSYMBOL, t, rfl, by decide, t1, fun z => absurd rfl z⟩)) hq
    rename_i c3
    rw [lit_selector]
    refine ⟨by decide, fun p hp => ?_⟩
    have np := s1.ne hp
    refine ix_all upd_same (by omega) (by simp only [List.length_cons, List.length_nil]; omega) fun v hv => ?_
    have hv' : ∃ k : List Nat, v = .str (S k) ∧ k ∈ tTEXTS := by
      simp only [List.mem_cons, List.not_mem_nil, or_false] at hv
      rcases hv with rfl | rfl
      · exact ⟨_, rfl, by decide⟩
      · exact ⟨_, rfl, by decide⟩
    obtain ⟨k, rfl, hk⟩ := hv'
    refine ⟨st, sc, false, rfl, s1.new hp, fun t H2 s2 f2 t1 t2 t3 => ?_⟩
    walk_at "kk"
    refine fun q hq => fin q _ H2 s2 ((f1.trans (KW.Fr.new (l := [st]) hp)).trans f2) (.inr (.inr ⟨k, t, rfl, hk, t1, fun _ => ⟨t2, t3 rfl⟩⟩)) hq
theorem ok__law_instruction (T : Txt P w K mg a) : Cal P w K mg base 2 "_law_instruction" (spLIns K) := by
  have C__law_pick := ok__law_pick (P := P) (w := w) (base := base) T
  have C__law_plain := ok__law_plain (P := P) (w := w) (base := base) T
  refine T.d__law_instruction.ok sc__law_instruction (fun vs H Q E h => ?_) (fun f cdv A outer s H vs Q E hr h => ⟨_, (pss_cons (ps_set (i := 1) sc__law_instruction.nd rfl (Or.inl rfl) (pe_lst (pa_cons pe_str (pa_cons pe_str (pa_cons pe_str (pa_cons pe_str (pa_cons pe_str (pa_cons pe_str (pa_cons pe_str (pa_cons pe_str (pa_cons pe_str (pa_cons pe_str (pa_cons pe_str pa_nil)))))))))))))
      (pss_cons (ps_set (i := 1) sc__law_instruction.nd rfl (Or.inl rfl) (pe_op o_add (kv 1) (pe_lst (pa_cons pe_str (pa_cons pe_str (pa_cons pe_str (pa_cons pe_str (pa_cons pe_str (pa_cons pe_str (pa_cons pe_str (pa_cons pe_str (pa_cons pe_str (pa_cons pe_str (pa_cons pe_str pa_nil))))))))))))))
      (pss_cons (ps_set (i := 2) sc__law_instruction.nd rfl (Or.inl rfl) (pe_ix o_ix (kv 1) (kc C__law_pick (hr.mono (by decide)) (pa_cons (kv 0) (pa_cons pe_int pa_nil))) (fun _ _ => rfl)))
      (pss_cons (ps_if (pt_cmpR o_in (kv 2) (kc0 C__law_plain (hr.mono (by decide))) (by rfl))
      (pss_one (ps_ret (pe_tup (pa_cons (kv 2) (pa_cons pe_int pa_nil)))))
      pss_nil)
      (pss_one (ps_ret (pe_tup (pa_cons (kv 2) (pa_cons (pe_ix o_ix (pe_lst (pa_cons (kc C__law_pick (hr.mono (by decide)) (pa_cons (kv 0) (pa_cons pe_int pa_nil))) (pa_cons (kc C__law_pick (hr.mono (by decide)) (pa_cons (kv 0) (pa_cons pe_int pa_nil))) (pa_cons pe_int (pa_cons pe_int pa_nil))))) (kc C__law_pick (hr.mono (by decide)) (pa_cons (kv 0) (pa_cons pe_int pa_nil))) (fun _ _ => rfl)) pa_nil))))))))), ?_⟩)
  · obtain ⟨st, sc, rfl, _⟩ := h; rfl
  · obtain ⟨st, sc, rfl, hs, h⟩ := h
    obtain ⟨xs0, hs0⟩ := hs.lst
    walk_at "kk"
    intro p hp
    have p1 : (upd H p (.lst ((tOPS.take 11).map sV))) p = some (.lst ((tOPS.take 11).map sV)) := upd_same
    have f1 : KW.Fr [st] H (upd H p (.lst ((tOPS.take 11).map sV))) := KW.Fr.new hp
    have s1 := hs.new (o := .lst ((tOPS.take 11).map sV)) hp
    refine ⟨by decide, fun q hq => ?_⟩
    change (upd H p (.lst ((tOPS.take 11).map sV))) q = none at hq
    change uAdd K (.ref p) (.ref q) (upd (upd H p (.lst ((tOPS.take 11).map sV))) q (.lst ((tOPS.drop 11).map sV))) _
    generalize (upd H p (.lst ((tOPS.take 11).map sV))) = H1 at p1 f1 s1 hq ⊢
    have f2 := f1.trans (KW.Fr.new (l := [st]) (o := .lst ((tOPS.drop 11).map sV)) hq)
    have s2 := s1.new (o := .lst ((tOPS.drop 11).map sV)) hq
    refine ucat_l ((upd_ne (ne_of_none p1 hq)).trans p1) upd_same (le_line (by simp only [List.length_map]; decide)) fun u hu => ?_
    have nu := s2.ne hu
    have f3 := f2.trans (KW.Fr.new (l := [st]) (o := .lst (tOPS.map sV)) hu)
    have s3 := s2.new (o := .lst (tOPS.map sV)) hu
    rw [← List.map_append, List.take_append_drop]
    refine pick_s (by decide) (by decide) s3 fun r4 H4 s4 f4 a4 b4 => ?_
    refine ix_all (fr_ne f4 nu upd_same) a4 (by rw [List.length_map]; exact b4) fun v hv => ?_
    obtain ⟨op, hop, rfl⟩ := List.mem_map.mp hv
    have f04 := f3.trans f4
    refine ⟨rfl, fun D hD => ?_⟩
    have s5 := s4.new (o := .lst (tPLAIN.map sV)) hD
    have f05 := f04.trans (KW.Fr.new (l := [st]) (o := .lst (tPLAIN.map sV)) hD)
    have hD5 : (upd H4 D (.lst (tPLAIN.map sV))) D = some (.lst (tPLAIN.map sV)) := upd_same
    generalize (upd H4 D (.lst (tPLAIN.map sV))) = H5 at s5 f05 hD5 ⊢
    unfold sV
    walk_at "kk"
    refine in_gl (xs := tPLAIN) (.of hD5) ?_
    walk_at "kk"
    have fin : ∀ (q : Addr) (x : List V) (H5 : Hp), Sta K sc H5 st → KW.Fr [st] H H5 → InsOk x → H5 q = none → Q (.ref q) (upd H5 q (.tup x)) := fun q x H5 s5 f5 ok hq => h q x _ (s5.new hq) (f5.trans (KW.Fr.new hq)) (fr1_no hs0 s5.lst f5 hq) upd_same ok
    by_cases c : op ∈ tPLAIN
    · rw [if_pos c]
      exact ⟨by decide, fun q hq => fin q _ H5 s5 f05 ⟨op, 0, rfl, .inl ⟨c, rfl⟩⟩ hq⟩
    · rw [if_neg c]
      have c' : op ∈ tOTHER := (mem_ops.mp hop).resolve_left c
      refine pick_s (by decide) (by decide) s5 fun r6 H6 s6 f6 a6 b6 => ?_
      refine pick_s (by decide) (by decide) s6 fun r7 H7 s7 f7 a7 b7 => ?_
      refine ⟨by decide, fun q hq => ?_⟩
      have nq := s7.ne hq
      refine pick_s (by decide) (by decide) (s7.new hq) fun r8 H8 s8 f8 a8 b8 => ?_
      refine ix_all (fr_ne f8 nq upd_same) a8 (by simpa using b8) fun v hv => ?_
      have hv' : ∃ n : Int, v = .int n ∧ 0 ≤ n ∧ n ≤ 65535 := by
        simp only [List.mem_cons, List.not_mem_nil, or_false] at hv
        rcases hv with rfl | rfl | rfl | rfl
        · exact ⟨_, rfl, a6, by omega⟩
        · exact ⟨_, rfl, a7, by omega⟩
        · exact ⟨_, rfl, by omega, by omega⟩
        · exact ⟨_, rfl, by omega, by omega⟩
      obtain ⟨n, rfl, n1, n2⟩ := hv'
      exact ⟨by decide, fun q' hq' => fin q' _ H8 s8 (((f05.trans f6).trans f7).trans ((KW.Fr.new (l := [st]) hq).trans f8)) ⟨op, n, rfl, .inr ⟨c', n1, n2⟩⟩ hq'⟩
end
end K25

set_option Elab.async false
set_option linter.all false
set_option maxRecDepth 100000
set_option maxHeartbeats 4000000
namespace K25
open PySem PySem.Spec PyProof.Rows L2 KW LS
local macro_rules | `(tactic| walk_at "kw") => `(tactic| simp only [tSeq, tNext, tIfS, tTest, tAnd, tOr, tNot, tAndV, tOrV, tNotV, tIf, tChain, tOp, tUn, tC, tAsg, gName, gSub, gCons, gNil, tRet, tRetN, tDrop, tCons, tNil, tCB, tAug, tSl, tPart, tNoPart, tLst, tTup, tBM, tBM0, uTest, uFor, iRng1, iRng2, iList, uCall, List.map_cons, List.map_nil, List.length_cons, List.length_nil, List.cons_append, List.nil_append, List.replicate, Nat.zero_add, Nat.reduceAdd, Nat.reduceSub, List.getElem?_cons_zero, List.getElem?_cons_succ, List.set_cons_zero, List.set_cons_succ, V.bl.injEq, V.int.injEq, V.str.injEq, V.ref.injEq, V.ty.injEq, List.cons.injEq, and_true, true_and, exists_eq_left', exists_eq_right, exists_eq_left, exists_and_left, exists_and_right, decide_eq_true_eq, Bool.not_eq_true', decide_eq_false_iff_not, Bool.false_eq_true, if_true, if_false, ite_true, ite_false, Bool.not_true, Bool.not_false, reduceCtorEq, decide_true, decide_false, Bool.not_not, isK_int_int, isK_int_bool, isK_int_str, isK_int_list, isK_int_tuple, isK_bool_int, isK_bool_bool, isK_bool_str, isK_str_str, isK_str_int, isK_str_bool, isK_str_tuple, isK_str_list, isK_list_list, isK_list_tuple, isK_tuple_tuple, isK_tuple_list, isOk_int_int, isOk_int_bool, isOk_int_str, isOk_int_list, isOk_int_tuple, isOk_bool_int, isOk_bool_bool, isOk_bool_str, isOk_str_str, isOk_str_int, isOk_str_bool, isOk_str_tuple, isOk_str_list, isOk_list_list, isOk_list_tuple, isOk_tuple_tuple, isOk_tuple_list, isK_dict_dict, isOk_dict_dict, isK_none_int, isK_none_bool, isOk_none_int, isOk_none_bool, tyV, S_inj, S_cat, L2.start, Nat.reduceSub, List.replicate_succ, List.replicate_zero, and_assoc, List.append_nil, Nat.reduceEqDiff, Option.some.injEq, Int.natCast_inj, upd_upd, Int.reducePow, Int.reduceToNat, Int.reduceMul, Int.reduceAdd, Int.reduceSub, Int.reduceLT, Int.reduceLE, Int.reduceNeg, Int.reduceDiv, Int.reduceMod, Nat.reducePow, Nat.reduceMul, S_len, List.length_append, List.length_map, List.length_range, not_true_eq_false, not_false_eq_true, ne_eq, uAdd_e1, uAdd_e2, uSub_e1, uMod_e1, uDiv_e1, uPow_e1, uShl_e1, uNeg_e1, uIAdd_e1, uIAdd_e2, uIAdd_e3, uISub_e1, uLt_e1, uLt_e2, uLe_e1, uGt_e1, uGe_e1, uEq_e1, uEq_e2, uEq_e3, uEq_e4, uEq_e5, uEq_e6, uEq_e7, uEq_e8, uEq_e9, uEq_e10, uEq_e11, uNe_e1, uNe_e2, uNe_e3, uNe_e4, uNe_e5, uNe_e6, uNe_e7, uNe_e8, uNe_e9, uNe_e10, uNe_e11, uIs_e1, uIs_e2, uIs_e3, uIs_e4, uIs_e5, uIs_e6, uIs_e7, uNotIs_e1, uNotIs_e2, uNotIs_e3, uNotIs_e4, uNotIs_e5, uNotIs_e6, uIn_e1, uIn_e2, uIn_e3, uIn_e4, uNotIn_e1, uNotIn_e2, uNotIn_e3, uNotIn_e4, uTru_e1, uTru_e2, uTru_e3, uTru_e4, uIx_e2, uSl_e2, uLen_e1, uAbs_e1, uInt_e1, uInt_e2, uMin2_e1, uIsi_e1, uIsi_e2, uIsi_e3, uIsi_e4, cx_K, uVar_0, uVar_n, uFld, uSFld, uMet, uMake, tDG, tDI, tDNI, tDP, tDD, uMk, uRaise, uDelSl, tCallS, L2.WE, uStr_e1, uStr_e2, uMul2_e1, uMul2_e2, okS_i, okS_s, List.zip_cons_cons, List.zip_nil_left, List.drop_zero, List.drop_succ_cons, List.drop_nil, putF_nil, putF_cons, eq_self, tDNewK, tB, Option.isSome_some, Option.isSome_none, false_and, false_or, or_false, exists_false, Int.zero_add, uLc, wipe, tYes, isEmpty_app, List.isEmpty_cons, List.isEmpty_nil, List.isEmpty_map, Bool.and_false, Bool.and_true, iRev, K25.lit_0, K25.lit_1, K25.lit_2, K25.lit_3, K25.lit_4, K25.lit_5, K25.lit_6, K25.lit_7, K25.lit_8, K25.lit_9, K25.lit_10, K25.lit_11, K25.lit_12, K25.lit_13, K25.lit_14, K25.lit_15, K25.lit_16, K25.lit_17, K25.lit_18, K25.lit_19, K25.lit_20, K25.lit_21, K25.lit_22, K25.lit_23, K25.lit_25, K25.lit_26, K25.lit_27, K25.lit_28, K25.lit_29, K25.lit_30, K25.lit_32, K25.lit_33, K25.lit_34, K25.lit_35, K25.lit_36, K25.lit_37, K25.lit_38, K25.lit_39, K25.lit_40, K25.lit_41, K25.lit_42, K25.lit_43, K25.lit_44, K25.lit_45, K25.lit_46, K25.lit_47, K25.lit_48, K25.lit_49, K25.lit_50, K25.lit_51, K25.fe_selector_argc, K25.fe_selector_locals, K25.fe_selector_stack, K25.fe_selector_code, K25.fe_selector_literals, K25.fe_argc_selector, K25.fe_argc_locals, K25.fe_argc_stack, K25.fe_argc_code, K25.fe_argc_literals, K25.fe_locals_selector, K25.fe_locals_argc, K25.fe_locals_stack, K25.fe_locals_code, K25.fe_locals_literals, K25.fe_stack_selector, K25.fe_stack_argc, K25.fe_stack_locals, K25.fe_stack_code, K25.fe_stack_literals, K25.fe_code_selector, K25.fe_code_argc, K25.fe_code_locals, K25.fe_code_stack, K25.fe_code_literals, K25.fe_literals_selector, K25.fe_literals_argc, K25.fe_literals_locals, K25.fe_literals_stack, K25.fe_literals_code, K25.fl_code_0, K25.lf_code_0, K25.fl_code_1, K25.lf_code_1, K25.fl_code_2, K25.lf_code_2, K25.fl_code_3, K25.lf_code_3, K25.fl_code_4, K25.lf_code_4, K25.fl_code_5, K25.lf_code_5, K25.fl_code_6, K25.lf_code_6, K25.fl_code_7, K25.lf_code_7, K25.fl_code_8, K25.lf_code_8, K25.fl_code_9, K25.lf_code_9, K25.fl_code_10, K25.lf_code_10, K25.fl_code_11, K25.lf_code_11, K25.fl_code_12, K25.lf_code_12, K25.fl_code_13, K25.lf_code_13, K25.fl_code_14, K25.lf_code_14, K25.fl_code_15, K25.lf_code_15, K25.fl_code_16, K25.lf_code_16, K25.fl_code_17, K25.lf_code_17, K25.fl_code_18, K25.lf_code_18, K25.fl_code_19, K25.lf_code_19, K25.fl_code_20, K25.lf_code_20, K25.fl_code_21, K25.lf_code_21, K25.fl_code_22, K25.lf_code_22, K25.fl_code_23, K25.lf_code_23, K25.fl_code_24, K25.lf_code_24, K25.fl_code_25, K25.lf_code_25, K25.fl_code_26, K25.lf_code_26, K25.fl_code_27, K25.lf_code_27, K25.fl_code_28, K25.lf_code_28, K25.fl_code_29, K25.lf_code_29, K25.fl_code_30, K25.lf_code_30, K25.fl_code_32, K25.lf_code_32, K25.fl_code_33, K25.lf_code_33, K25.fl_code_34, K25.lf_code_34, K25.fl_code_35, K25.lf_code_35, K25.fl_code_36, K25.lf_code_36, K25.fl_code_37, K25.lf_code_37, K25.fl_code_38, K25.lf_code_38, K25.fl_code_39, K25.lf_code_39, K25.fl_code_40, K25.lf_code_40, K25.fl_code_41, K25.lf_code_41, K25.fl_code_42, K25.lf_code_42, K25.fl_code_43, K25.lf_code_43, K25.fl_code_44, K25.lf_code_44, K25.fl_code_45, K25.lf_code_45, K25.fl_code_46, K25.lf_code_46, K25.fl_code_47, K25.lf_code_47, K25.fl_code_48, K25.lf_code_48, K25.fl_code_49, K25.lf_code_49, K25.fl_code_50, K25.lf_code_50, K25.fl_code_51, K25.lf_code_51, K25.fl_selector_0, K25.lf_selector_0, K25.fl_selector_1, K25.lf_selector_1, K25.fl_selector_2, K25.lf_selector_2, K25.fl_selector_3, K25.lf_selector_3, K25.fl_selector_4, K25.lf_selector_4, K25.fl_selector_5, K25.lf_selector_5, K25.fl_selector_6, K25.lf_selector_6, K25.fl_selector_7, K25.lf_selector_7, K25.fl_selector_8, K25.lf_selector_8, K25.fl_selector_9, K25.lf_selector_9, K25.fl_selector_10, K25.lf_selector_10, K25.fl_selector_11, K25.lf_selector_11, K25.fl_selector_12, K25.lf_selector_12, K25.fl_selector_13, K25.lf_selector_13, K25.fl_selector_14, K25.lf_selector_14, K25.fl_selector_15, K25.lf_selector_15, K25.fl_selector_16, K25.lf_selector_16, K25.fl_selector_17, K25.lf_selector_17, K25.fl_selector_18, K25.lf_selector_18, K25.fl_selector_19, K25.lf_selector_19, K25.fl_selector_20, K25.lf_selector_20, K25.fl_selector_21, K25.lf_selector_21, K25.fl_selector_22, K25.lf_selector_22, K25.fl_selector_23, K25.lf_selector_23, K25.fl_selector_25, K25.lf_selector_25, K25.fl_selector_26, K25.lf_selector_26, K25.fl_selector_27, K25.lf_selector_27, K25.fl_selector_28, K25.lf_selector_28, K25.fl_selector_29, K25.lf_selector_29, K25.fl_selector_30, K25.lf_selector_30, K25.fl_selector_31, K25.lf_selector_31, K25.fl_selector_32, K25.lf_selector_32, K25.fl_selector_33, K25.lf_selector_33, K25.fl_selector_34, K25.lf_selector_34, K25.fl_selector_35, K25.lf_selector_35, K25.fl_selector_36, K25.lf_selector_36, K25.fl_selector_37, K25.lf_selector_37, K25.fl_selector_38, K25.lf_selector_38, K25.fl_selector_39, K25.lf_selector_39, K25.fl_selector_40, K25.lf_selector_40, K25.fl_selector_41, K25.lf_selector_41, K25.fl_selector_42, K25.lf_selector_42, K25.fl_selector_43, K25.lf_selector_43, K25.fl_selector_44, K25.lf_selector_44, K25.fl_selector_45, K25.lf_selector_45, K25.fl_selector_46, K25.lf_selector_46, K25.fl_selector_47, K25.lf_selector_47, K25.fl_selector_48, K25.lf_selector_48, K25.fl_selector_49, K25.lf_selector_49, K25.fl_selector_50, K25.lf_selector_50, K25.fl_selector_51, K25.lf_selector_51, uAll_e, uTuple_e, uFm_e1, uFm_e2, uIntS_e1, uIntS_e2, uIntS_e3, uEqO_e, tFm, tJs, iStr, S_e, itxt_S, K25.N_Draft_init, K25.N_Draft_parts, K25.N_Draft___eq__, K25.N_escaped, K25.N_joined, K25.N_literal_line, K25.N_list_draft, K25.N_number_in, K25.N_numbers_in, K25.N_unescaped, K25.N_read_head, K25.N_read_text, K25.N_read_literal, K25.N_read_instruction, K25.N_read_listing, K25.N__law_start, K25.N__law_pick, K25.N__law_text, K25.N__law_count, K25.N__law_literal, K25.N__law_plain, K25.N__law_instruction, K25.N__law_written, K25.N__law_lines, K25.N__law_draft, K25.N__law_parts, K25.N__law_changed, K25.N__law_others, K25.N_law])
local macro_rules | `(tactic| walk_at "nn") => `(tactic| first | assumption | exact ne_un (by assumption) | exact ne_un (ne_un (by assumption)) | exact ne_un (ne_un (ne_un (by assumption))) | exact ne_un (ne_un (ne_un (ne_un (by assumption)))))
local macro_rules | `(tactic| walk_at "ne") => `(tactic| first | assumption | (apply Ne.symm; assumption) | exact ne_ud (by assumption) | exact Ne.symm (ne_ud (by assumption)) | exact ne_ud (ne_un (by assumption)) | exact Ne.symm (ne_ud (ne_un (by assumption))) | exact ne_ud (ne_un (ne_un (by assumption))) | exact Ne.symm (ne_ud (ne_un (ne_un (by assumption)))) | exact ne_m (by assumption) (by assumption) | exact Ne.symm (ne_m (by assumption) (by assumption)) | exact ne_n (by assumption) (by walk_at "nn") | exact Ne.symm (ne_n (by assumption) (by walk_at "nn")))
local macro_rules | `(tactic| walk_at "hp") => `(tactic| first | assumption | exact upd_same | (refine Eq.trans (upd_ne ?_) ?_; (focus walk_at "ne"); walk_at "hp"))
local macro_rules | `(tactic| walk_at "sc") => `(tactic| first | (with_reducible assumption) | omega | exact le_line (by (try simp only [List.length_map, List.length_append, List.length_cons, List.length_nil, S_len]); omega) | exact div_s (by omega) | exact mul_r (by omega) | exact mul_l (by omega) | exact pow_s (by omega) | exact mul2_r (by omega) | exact mul2_l (by omega) | exact small4300 (by omega) | exact lt_line (by (try simp only [List.length_map, List.length_append, List.length_cons, List.length_nil, S_len]); omega) | exact ⟨_, by assumption⟩ | (guard_target =~ Exists _; exact ⟨_, .of (by walk_at "hp")⟩) | (guard_target =~ _ ∨ _; exact .inl ⟨_, by assumption⟩) | (guard_target =~ _ ∨ _; exact .inl ⟨_, .of (by walk_at "hp")⟩) | (guard_target =~ _ ∨ _; exact .inr (.inr (.inl ⟨rfl, .inl ⟨_, by walk_at "hp"⟩⟩))) | decide)
local macro_rules | `(tactic| walk_at "kr") => `(tactic| first | (guard_target =~ _ ∧ _; first | refine And.intro (by walk_at "sc") ?_) | (guard_target =~ KW.uIx _ _ _ _ _; first | refine ix_l (by walk_at "hp") (by first | walk_at "hv" | rfl) ?_ | refine ix_t (by walk_at "hp") (by first | walk_at "hv" | rfl) ?_ | refine ix_sl (by assumption) (by walk_at "hv") ?_) | (guard_target =~ KW.uLen _ _ _ _; first | refine len_l (by walk_at "hp") ?_ | refine len_t (by walk_at "hp") ?_ | refine len_sl (by assumption) ?_) | (guard_target =~ KW.uSet _ _ _ _ _; first | refine set_l (by walk_at "hp") (by first | walk_at "hv" | rfl) ?_) | (guard_target =~ L2.gTup _ _ _ _ _ _ _; first | refine tup_l (by walk_at "hp") (by rfl) ?_) | (guard_target =~ KW.uGet _ _ _ _ _; first | refine get_l (by walk_at "hp") (by walk_at "hc") (by decide) (by rfl) ?_) | (guard_target =~ KW.uPut _ _ _ _ _ _; first | refine put_l (by walk_at "hp") (by walk_at "hc") (by decide) (by simp) ?_) | (guard_target =~ KW.uMet.uMt _ _ _ _ _ _ _ _ _; first | refine met_l (by walk_at "hp") (by rfl) ?_) | (guard_target =~ KW.uMet.uMt _ _ _ _ _ _ _ _ _; first | refine ST.met_s (by assumption) (by decide) ?_) | (guard_target =~ ST.spExists _ _ _ _ _; first | refine ST.exists_s (by assumption) ?_) | (guard_target =~ ST.spUsed _ _ _ _ _; first | refine ST.used_s (by assumption) ?_) | (guard_target =~ KW.uGet _ _ _ _ _; first | refine ST.words_s (by assumption) (by walk_at "hc") (by decide) ?_) | (guard_target =~ KW.uDIn _ _ _ _; first | refine din_i (by walk_at "hp") ?_ | refine din_s (by walk_at "hp") ?_) | (guard_target =~ KW.uDGet _ _ _ _; first | refine dget_i (by walk_at "hp") (by walk_at "hv") ?_ | refine dget_s (by walk_at "hp") (by walk_at "hv") ?_) | (guard_target =~ KW.uDPut _ _ _ _ _; first | refine dput_i (by walk_at "hp") (by walk_at "sc") ?_ | refine dput_s (by walk_at "hp") (by walk_at "sc") ?_) | (guard_target =~ KW.uDDel _ _ _ _; first | refine ddel_i (by walk_at "hp") (by walk_at "hv") ?_ | refine ddel_s (by walk_at "hp") (by walk_at "hv") ?_) | (guard_target =~ KW.uMul2 _ _ _ _; first | refine rep_l (by walk_at "hp") (by walk_at "sc") (by walk_at "sc") (by walk_at "sc") ?_) | (guard_target =~ L2.rAppend _ _ _ _; first | refine app_l (by walk_at "hp") (by walk_at "sc") ?_) | (guard_target =~ L2.rPop _ _ _ _; first | refine pop_l (by walk_at "hp") (by walk_at "hv") ?_ | refine pops_l (by walk_at "hp") ?_) | (guard_target =~ L2.rClear _ _ _ _; first | refine clr_l (by walk_at "hp") ?_) | (guard_target =~ L2.rReverse _ _ _ _; first | refine rev_l (by walk_at "hp") ?_) | (guard_target =~ L2.rExtend _ _ _ _; first | refine ext_l (by walk_at "hp") (by walk_at "hp") (by walk_at "sc") ?_) | (guard_target =~ KW.uAdd _ _ _ _ _; first | refine ucat_l (by walk_at "hp") (by walk_at "hp") (by walk_at "sc") ?_) | (guard_target =~ KW.uSl _ _ _ _ _ _; first | refine usl_l (by walk_at "hp") ?_) | (guard_target =~ KW.uTru _ _ _ _; first | refine tru_l (by walk_at "hp") ?_ | refine tru_t (by walk_at "hp") ?_ | refine tru_d (by walk_at "hp") ?_ | refine tru_sl (by assumption) ?_) | (guard_target =~ L2.rIndex _ _ _ _ _; first | refine idx_s (by walk_at "hp") (by assumption) ?_ | refine idx_i (by walk_at "hp") (by assumption) ?_) | (guard_target =~ L2.rIn _ _ _ _ _ _; first | refine in_s (by walk_at "hp") ?_ | refine nin_s (by walk_at "hp") ?_ | refine in_i (by walk_at "hp") ?_ | refine nin_i (by walk_at "hp") ?_) | (guard_target =~ KW.uIsi _ _ _ _; first | refine isi_l (by walk_at "hp") (by decide +kernel) ?_ | refine isi_t (by walk_at "hp") (by decide +kernel) ?_ | refine isi_d (by walk_at "hp") (by decide +kernel) ?_) | (guard_target =~ KW.uList _ _ _ _; first | refine list_l (by walk_at "hp") ?_ | refine list_t (by walk_at "hp") ?_ | refine list_sl (by assumption) ?_) | (guard_target =~ KW.uDict _ _ _; first | refine dict_d (by walk_at "hp") ?_) | (guard_target =~ KW.uSorted _ _ _ _; first | refine srt_l (by walk_at "hp") ?_) | (guard_target =~ KW.uSum _ _ _ _; first | refine sum_l (by walk_at "hp") ?_) | (guard_target =~ KW.uDelC _ _ _ _; first | refine dels_l (by walk_at "hp") (by walk_at "sc") ?_) | (guard_target =~ L2.wAs _ _ _ _ _ _ _ _ _ _; first | refine as_yes (by walk_at "hx") ?_ | refine as_no (by walk_at "hx") ?_) | (guard_target =~ KW.uEf _ _ _ _ _ _ _ _ _; first | refine ef_l (by walk_at "he") (by decide) (by rfl) (by walk_at "hp") (by rfl) ?_) | (guard_target =~ KW.uIsE _ _ _ _ _ _ _; first | refine isE_r (by walk_at "he") (by walk_at "hp") (by walk_at "hk") ?_ | refine isE_t (by walk_at "he") (by walk_at "hp") (by walk_at "hk") ?_))
local macro_rules | `(tactic| walk_at "hv") => `(tactic| first | assumption)
local macro_rules | `(tactic| walk_at "kk") => `(tactic| repeat (first | walk_at "kw" | walk_at "kr"))
local macro_rules | `(tactic| walk_at "hc") => `(tactic| first | exact K25.Txt.c_Draft (by assumption))
local macro_rules | `(tactic| walk_at "he") => `(tactic| first | exact K25.Txt.e_Malformed (by assumption))
local macro_rules | `(tactic| walk_at "hx") => `(tactic| first | fail)
local macro_rules | `(tactic| walk_at "hk") => `(tactic| first | fail)

section
variable {P : Program} {w : World} {K : Frag} {mg : Str → Option Value} {base : Heap} {a : Ads}
theorem ok_number_in (T : Txt P w K mg a) : Cal P w K mg base 1 "number_in" (spNumIn a.Malformed) := by
  refine T.d_number_in.ok sc_number_in (fun vs H Q E h => ?_) (fun f cdv A outer s H vs Q E hr h => ⟨_, (C8.pss_cut (ps_set (i := 2) sc_number_in.nd rfl (Or.inl rfl) (pe_ifExp (pt_cmpR (o_eq hr.units) (pe_slice o_sl (kv 0) po_none (po_some pe_int)) pe_str (nomark _)) (pe_slice o_sl (kv 0) (po_some pe_int) po_none) (kv 0)))
      (pss_cons (ps_if (PW.pt (pw_or (pt_cmpR o_lt (pe_callB c_len (by rfl) T.n_len (by decide +kernel) (pa_cons (kv 2) pa_nil)) pe_int (nomark _)) (pw_or (pt_cmpR o_gt (pe_callB c_len (by rfl) T.n_len (by decide +kernel) (pa_cons (kv 2) pa_nil)) pe_int (nomark _)) (pw_or1 (pt_not (kt (pe_callB (c_all rfl) (by rfl) T.n_all (by decide +kernel) (pa_cons (k_lc (own := [("char", 3)]) (g := gName 3) (by rfl) sc_number_in.nd (pi_str (kv 2)) (blkOk_by (own := [("char", 3)]) (N := ["word", "at", "digits", "char"]) (sc := defScope s_number_in) (by decide +kernel)) (fun _ _ _ _ _ => pg_name (i := 3) sc_number_in.nd rfl (Or.inl rfl)) (fun _ _ _ _ _ => pts_nil) (fun _ _ _ _ _ => by exact (pe_cmpR (o_inK K) (kv 3) (k_g T.g_DIGITS) (by rfl)))) pa_nil))))))))
      (pss_one (k_raise (L2N.takes_of rfl rfl rfl rfl) (k_mk T.e_Malformed hr (pa_cons (kv 1) pa_nil))))
      pss_nil)
      (pss_cons (ps_if (PW.pt (pw_and (pt_cmpR (o_eq hr.units) (pe_ix o_ix (kv 2) pe_int (fun _ _ => rfl)) pe_str (nomark _)) (pw_and1 (pt_cmpR (o_ne hr.units) (kv 0) pe_str (nomark _)))))
      (pss_one (k_raise (L2N.takes_of rfl rfl rfl rfl) (k_mk T.e_Malformed hr (pa_cons (kv 1) pa_nil))))
      pss_nil)
      (pss_one (ps_ret (pe_callTy c_intS (by rfl) T.n_int (by decide +kernel) (pa_cons (kv 0) pa_nil))))))), ?_⟩)
  · obtain ⟨l, i, rfl, _⟩ := h; rfl
  · obtain ⟨l, i, rfl, hl, hi, hb, h⟩ := h
    have hs := le_line (n := l.length) (by have := hl.1; omega)
    have hs1 := le_line (n := (l.drop 1).length) (by have := hl.1; simp only [List.length_drop]; omega)
    have e1 : cutS (S l) none (some 1) = S (l.take 1) := cut_to l 1 rfl
    have e2 : cutS (S l) (some 1) none = S (l.drop 1) := cut_from l (i := 1) rfl
    refine ⟨fun σ H' => σ = [some (.str (S l)), some (.int i), some (.str (S (dgs l))), none] ∧ H' = H, ?_, ?_⟩
    · walk_at "kk"
      rw [e1, e2]
      by_cases c : l.take 1 = [45]
      · have ed : dgs l = l.drop 1 := by unfold dgs; rw [if_pos c]
        rw [if_pos (S_inj.mpr c), ed]
        exact ⟨hs, rfl⟩
      · have ed : dgs l = l := by unfold dgs; rw [if_neg c]
        rw [if_neg (fun z => c (S_inj.mp z)), ed]
    · rintro σ H' ⟨rfl, rfl⟩
      walk_at "kk"
      have hd : (dgs l).length ≤ l.length := by unfold dgs; split <;> simp
      have hs2 := le_line (n := (dgs l).length) (by have := hl.1; omega)
      have nb := nat4300 hi
      have n0 : numIn l = if (dgs l).length < 1 ∨ 9 < (dgs l).length ∨ ¬ ∀ c ∈ dgs l, c ∈ DIG then none
        else if (dgs l)[0]? = some 48 ∧ l ≠ [48] then none
        else some (if l.take 1 = [45] then -((PySem.NumText.digitsVal (dgs l) : Nat) : Int) else (PySem.NumText.digitsVal (dgs l) : Nat)) := rfl
      refine ⟨hs2, ?_⟩
      split
      · rename_i c
        exact ⟨nb, fun d hd => (hb (by rw [n0, if_pos (.inl (by omega))])).here hd⟩
      rename_i c1
      refine ⟨hs2, ?_⟩
      split
      · rename_i c
        exact ⟨nb, fun d hd => (hb (by rw [n0, if_pos (.inr (.inl (by omega)))])).here hd⟩
      rename_i c2
      refine lc_sp (fun c => some (.bl (decide (c ∈ DIG)))) (lt_line (by have := hl.1; omega)) (fun j c D acc Cy Cn hc hD h1 h2 => ?_) fun D hD => ?_
      · walk_at "kk"
        rw [show str_22 = DIG from rfl, subStr_one]
        exact h1 _ rfl
      have fD : KW.Fr [] H' (upd H' D (.lst ((dgs l).filterMap fun c => some (.bl (decide (c ∈ DIG)))))) := KW.Fr.new hD
      have eL : ((dgs l).filterMap fun c => some (V.bl (decide (c ∈ DIG)))) = ((dgs l).map fun c => decide (c ∈ DIG)).map V.bl := by
        rw [List.map_map, ← List.filterMap_eq_map]; rfl
      rw [eL] at fD ⊢
      walk_at "kk"
      refine ⟨_, .of upd_same, ?_⟩
      walk_at "kk"
      by_cases c3 : ∀ c ∈ dgs l, c ∈ DIG
      · have e : ((dgs l).map fun c => decide (c ∈ DIG)).all id = true := by
          rw [List.all_map, List.all_eq_true]
          intro c hc
          exact decide_eq_true (c3 c hc)
        rw [e, if_neg (by simp)]
        obtain ⟨c, r, ed⟩ : ∃ c r, dgs l = c :: r := by
          cases e : dgs l with
          | nil => rw [e] at c1; exact absurd (by simp) c1
          | cons c r => exact ⟨c, r, rfl⟩
        have n1 : numIn l = if (dgs l)[0]? = some 48 ∧ l ≠ [48] then none else some (if l.take 1 = [45] then -((PySem.NumText.digitsVal (dgs l) : Nat) : Int) else (PySem.NumText.digitsVal (dgs l) : Nat)) := by
          rw [n0, if_neg]
          rintro (z | z | z)
          · omega
          · omega
          · exact z c3
        have h0 : (dgs l)[0]? = some c := by rw [ed]; rfl
        have fin : ¬ ((dgs l)[0]? = some 48 ∧ l ≠ [48]) → ∃ n, PySem.intText? (S l) = some n ∧ l.length ≤ 640 ∧ Q (.int n) (upd H' D (.lst (((dgs l).map fun c => decide (c ∈ DIG)).map V.bl))) := fun z => by
          rw [if_neg z] at n1
          obtain ⟨g1, g2⟩ := int_of_num n1
          exact ⟨_, g1, g2, h _ n1 _ fD⟩
        refine ⟨hs2, c, atI_nat (j := 0) h0, ?_⟩
        split
        · rename_i c4
          subst c4
          split
          · rename_i c5
            exact ⟨nb, fun d hd => (hb (by rw [n1, if_pos ⟨h0, c5⟩])) _ _ fD hd⟩
          · rename_i c5
            exact fin fun z => c5 z.2
        · rename_i c4
          exact fin fun z => c4 (by rw [h0] at z; exact Option.some.inj z.1)
      · have e : ((dgs l).map fun c => decide (c ∈ DIG)).all id = false := by
          rw [← Bool.not_eq_true, List.all_map, List.all_eq_true]
          intro z
          refine c3 fun c hc => ?_
          have := z c hc
          simpa using this
        rw [e, if_pos rfl]
        exact ⟨nb, fun d hd => (hb (by rw [n0, if_pos (.inr (.inr c3))])) _ _ fD hd⟩
end
end K25

set_option Elab.async false
set_option linter.all false
set_option maxRecDepth 100000
set_option maxHeartbeats 4000000
namespace K25
open PySem PySem.Spec PyProof.Rows L2 KW LS
local macro_rules | `(tactic| walk_at "kw") => `(tactic| simp only [tSeq, tNext, tIfS, tTest, tAnd, tOr, tNot, tAndV, tOrV, tNotV, tIf, tChain, tOp, tUn, tC, tAsg, gName, gSub, gCons, gNil, tRet, tRetN, tDrop, tCons, tNil, tCB, tAug, tSl, tPart, tNoPart, tLst, tTup, tBM, tBM0, uTest, uFor, iRng1, iRng2, iList, uCall, List.map_cons, List.map_nil, List.length_cons, List.length_nil, List.cons_append, List.nil_append, List.replicate, Nat.zero_add, Nat.reduceAdd, Nat.reduceSub, List.getElem?_cons_zero, List.getElem?_cons_succ, List.set_cons_zero, List.set_cons_succ, V.bl.injEq, V.int.injEq, V.str.injEq, V.ref.injEq, V.ty.injEq, List.cons.injEq, and_true, true_and, exists_eq_left', exists_eq_right, exists_eq_left, exists_and_left, exists_and_right, decide_eq_true_eq, Bool.not_eq_true', decide_eq_false_iff_not, Bool.false_eq_true, if_true, if_false, ite_true, ite_false, Bool.not_true, Bool.not_false, reduceCtorEq, decide_true, decide_false, Bool.not_not, isK_int_int, isK_int_bool, isK_int_str, isK_int_list, isK_int_tuple, isK_bool_int, isK_bool_bool, isK_bool_str, isK_str_str, isK_str_int, isK_str_bool, isK_str_tuple, isK_str_list, isK_list_list, isK_list_tuple, isK_tuple_tuple, isK_tuple_list, isOk_int_int, isOk_int_bool, isOk_int_str, isOk_int_list, isOk_int_tuple, isOk_bool_int, isOk_bool_bool, isOk_bool_str, isOk_str_str, isOk_str_int, isOk_str_bool, isOk_str_tuple, isOk_str_list, isOk_list_list, isOk_list_tuple, isOk_tuple_tuple, isOk_tuple_list, isK_dict_dict, isOk_dict_dict, isK_none_int, isK_none_bool, isOk_none_int, isOk_none_bool, tyV, S_inj, S_cat, L2.start, Nat.reduceSub, List.replicate_succ, List.replicate_zero, and_assoc, List.append_nil, Nat.reduceEqDiff, Option.some.injEq, Int.natCast_inj, upd_upd, Int.reducePow, Int.reduceToNat, Int.reduceMul, Int.reduceAdd, Int.reduceSub, Int.reduceLT, Int.reduceLE, Int.reduceNeg, Int.reduceDiv, Int.reduceMod, Nat.reducePow, Nat.reduceMul, S_len, List.length_append, List.length_map, List.length_range, not_true_eq_false, not_false_eq_true, ne_eq, uAdd_e1, uAdd_e2, uSub_e1, uMod_e1, uDiv_e1, uPow_e1, uShl_e1, uNeg_e1, uIAdd_e1, uIAdd_e2, uIAdd_e3, uISub_e1, uLt_e1, uLt_e2, uLe_e1, uGt_e1, uGe_e1, uEq_e1, uEq_e2, uEq_e3, uEq_e4, uEq_e5, uEq_e6, uEq_e7, uEq_e8, uEq_e9, uEq_e10, uEq_e11, uNe_e1, uNe_e2, uNe_e3, uNe_e4, uNe_e5, uNe_e6, uNe_e7, uNe_e8, uNe_e9, uNe_e10, uNe_e11, uIs_e1, uIs_e2, uIs_e3, uIs_e4, uIs_e5, uIs_e6, uIs_e7, uNotIs_e1, uNotIs_e2, uNotIs_e3, uNotIs_e4, uNotIs_e5, uNotIs_e6, uIn_e1, uIn_e2, uIn_e3, uIn_e4, uNotIn_e1, uNotIn_e2, uNotIn_e3, uNotIn_e4, uTru_e1, uTru_e2, uTru_e3, uTru_e4, uIx_e2, uSl_e2, uLen_e1, uAbs_e1, uInt_e1, uInt_e2, uMin2_e1, uIsi_e1, uIsi_e2, uIsi_e3, uIsi_e4, cx_K, uVar_0, uVar_n, uFld, uSFld, uMet, uMake, tDG, tDI, tDNI, tDP, tDD, uMk, uRaise, uDelSl, tCallS, L2.WE, uStr_e1, uStr_e2, uMul2_e1, uMul2_e2, okS_i, okS_s, List.zip_cons_cons, List.zip_nil_left, List.drop_zero, List.drop_succ_cons, List.drop_nil, putF_nil, putF_cons, eq_self, tDNewK, tB, Option.isSome_some, Option.isSome_none, false_and, false_or, or_false, exists_false, Int.zero_add, uLc, wipe, tYes, isEmpty_app, List.isEmpty_cons, List.isEmpty_nil, List.isEmpty_map, Bool.and_false, Bool.and_true, iRev, K25.lit_0, K25.lit_1, K25.lit_2, K25.lit_3, K25.lit_4, K25.lit_5, K25.lit_6, K25.lit_7, K25.lit_8, K25.lit_9, K25.lit_10, K25.lit_11, K25.lit_12, K25.lit_13, K25.lit_14, K25.lit_15, K25.lit_16, K25.lit_17, K25.lit_18, K25.lit_19, K25.lit_20, K25.lit_21, K25.lit_22, K25.lit_23, K25.lit_25, K25.lit_26, K25.lit_27, K25.lit_28, K25.lit_29, K25.lit_30, K25.lit_32, K25.lit_33, K25.lit_34, K25.lit_35, K25.lit_36, K25.lit_37, K25.lit_38, K25.lit_39, K25.lit_40, K25.lit_41, K25.lit_42, K25.lit_43, K25.lit_44, K25.lit_45, K25.lit_46, K25.lit_47, K25.lit_48, K25.lit_49, K25.lit_50, K25.lit_51, K25.fe_selector_argc, K25.fe_selector_locals, K25.fe_selector_stack, K25.fe_selector_code, K25.fe_selector_literals, K25.fe_argc_selector, K25.fe_argc_locals, K25.fe_argc_stack, K25.fe_argc_code, K25.fe_argc_literals, K25.fe_locals_selector, K25.fe_locals_argc, K25.fe_locals_stack, K25.fe_locals_code, K25.fe_locals_literals, K25.fe_stack_selector, K25.fe_stack_argc, K25.fe_stack_locals, K25.fe_stack_code, K25.fe_stack_literals, K25.fe_code_selector, K25.fe_code_argc, K25.fe_code_locals, K25.fe_code_stack, K25.fe_code_literals, K25.fe_literals_selector, K25.fe_literals_argc, K25.fe_literals_locals, K25.fe_literals_stack, K25.fe_literals_code, K25.fl_code_0, K25.lf_code_0, K25.fl_code_1, K25.lf_code_1, K25.fl_code_2, K25.lf_code_2, K25.fl_code_3, K25.lf_code_3, K25.fl_code_4, K25.lf_code_4, K25.fl_code_5, K25.lf_code_5, K25.fl_code_6, K25.lf_code_6, K25.fl_code_7, K25.lf_code_7, K25.fl_code_8, K25.lf_code_8, K25.fl_code_9, K25.lf_code_9, K25.fl_code_10, K25.lf_code_10, K25.fl_code_11, K25.lf_code_11, K25.fl_code_12, K25.lf_code_12, K25.fl_code_13, K25.lf_code_13, K25.fl_code_14, K25.lf_code_14, K25.fl_code_15, K25.lf_code_15, K25.fl_code_16, K25.lf_code_16, K25.fl_code_17, K25.lf_code_17, K25.fl_code_18, K25.lf_code_18, K25.fl_code_19, K25.lf_code_19, K25.fl_code_20, K25.lf_code_20, K25.fl_code_21, K25.lf_code_21, K25.fl_code_22, K25.lf_code_22, K25.fl_code_23, K25.lf_code_23, K25.fl_code_24, K25.lf_code_24, K25.fl_code_25, K25.lf_code_25, K25.fl_code_26, K25.lf_code_26, K25.fl_code_27, K25.lf_code_27, K25.fl_code_28, K25.lf_code_28, K25.fl_code_29, K25.lf_code_29, K25.fl_code_30, K25.lf_code_30, K25.fl_code_32, K25.lf_code_32, K25.fl_code_33, K25.lf_code_33, K25.fl_code_34, K25.lf_code_34, K25.fl_code_35, K25.lf_code_35, K25.fl_code_36, K25.lf_code_36, K25.fl_code_37, K25.lf_code_37, K25.fl_code_38, K25.lf_code_38, K25.fl_code_39, K25.lf_code_39, K25.fl_code_40, K25.lf_code_40, K25.fl_code_41, K25.lf_code_41, K25.fl_code_42, K25.lf_code_42, K25.fl_code_43, K25.lf_code_43, K25.fl_code_44, K25.lf_code_44, K25.fl_code_45, K25.lf_code_45, K25.fl_code_46, K25.lf_code_46, K25.fl_code_47, K25.lf_code_47, K25.fl_code_48, K25.lf_code_48, K25.fl_code_49, K25.lf_code_49, K25.fl_code_50, K25.lf_code_50, K25.fl_code_51, K25.lf_code_51, K25.fl_selector_0, K25.lf_selector_0, K25.fl_selector_1, K25.lf_selector_1, K25.fl_selector_2, K25.lf_selector_2, K25.fl_selector_3, K25.lf_selector_3, K25.fl_selector_4, K25.lf_selector_4, K25.fl_selector_5, K25.lf_selector_5, K25.fl_selector_6, K25.lf_selector_6, K25.fl_selector_7, K25.lf_selector_7, K25.fl_selector_8, K25.lf_selector_8, K25.fl_selector_9, K25.lf_selector_9, K25.fl_selector_10, K25.lf_selector_10, K25.fl_selector_11, K25.lf_selector_11, K25.fl_selector_12, K25.lf_selector_12, K25.fl_selector_13, K25.lf_selector_13, K25.fl_selector_14, K25.lf_selector_14, K25.fl_selector_15, K25.lf_selector_15, K25.fl_selector_16, K25.lf_selector_16, K25.fl_selector_17, K25.lf_selector_17, K25.fl_selector_18, K25.lf_selector_18, K25.fl_selector_19, K25.lf_selector_19, K25.fl_selector_20, K25.lf_selector_20, K25.fl_selector_21, K25.lf_selector_21, K25.fl_selector_22, K25.lf_selector_22, K25.fl_selector_23, K25.lf_selector_23, K25.fl_selector_25, K25.lf_selector_25, K25.fl_selector_26, K25.lf_selector_26, K25.fl_selector_27, K25.lf_selector_27, K25.fl_selector_28, K25.lf_selector_28, K25.fl_selector_29, K25.lf_selector_29, K25.fl_selector_30, K25.lf_selector_30, K25.fl_selector_31, K25.lf_selector_31, K25.fl_selector_32, K25.lf_selector_32, K25.fl_selector_33, K25.lf_selector_33, K25.fl_selector_34, K25.lf_selector_34, K25.fl_selector_35, K25.lf_selector_35, K25.fl_selector_36, K25.lf_selector_36, K25.fl_selector_37, K25.lf_selector_37, K25.fl_selector_38, K25.lf_selector_38, K25.fl_selector_39, K25.lf_selector_39, K25.fl_selector_40, K25.lf_selector_40, K25.fl_selector_41, K25.lf_selector_41, K25.fl_selector_42, K25.lf_selector_42, K25.fl_selector_43, K25.lf_selector_43, K25.fl_selector_44, K25.lf_selector_44, K25.fl_selector_45, K25.lf_selector_45, K25.fl_selector_46, K25.lf_selector_46, K25.fl_selector_47, K25.lf_selector_47, K25.fl_selector_48, K25.lf_selector_48, K25.fl_selector_49, K25.lf_selector_49, K25.fl_selector_50, K25.lf_selector_50, K25.fl_selector_51, K25.lf_selector_51, uAll_e, uTuple_e, uFm_e1, uFm_e2, uIntS_e1, uIntS_e2, uIntS_e3, uEqO_e, tFm, tJs, iStr, S_e, itxt_S, K25.N_Draft_init, K25.N_Draft_parts, K25.N_Draft___eq__, K25.N_escaped, K25.N_joined, K25.N_literal_line, K25.N_list_draft, K25.N_number_in, K25.N_numbers_in, K25.N_unescaped, K25.N_read_head, K25.N_read_text, K25.N_read_literal, K25.N_read_instruction, K25.N_read_listing, K25.N__law_start, K25.N__law_pick, K25.N__law_text, K25.N__law_count, K25.N__law_literal, K25.N__law_plain, K25.N__law_instruction, K25.N__law_written, K25.N__law_lines, K25.N__law_draft, K25.N__law_parts, K25.N__law_changed, K25.N__law_others, K25.N_law])
local macro_rules | `(tactic| walk_at "nn") => `(tactic| first | assumption | exact ne_un (by assumption) | exact ne_un (ne_un (by assumption)) | exact ne_un (ne_un (ne_un (by assumption))) | exact ne_un (ne_un (ne_un (ne_un (by assumption)))))
local macro_rules | `(tactic| walk_at "ne") => `(tactic| first | assumption | (apply Ne.symm; assumption) | exact ne_ud (by assumption) | exact Ne.symm (ne_ud (by assumption)) | exact ne_ud (ne_un (by assumption)) | exact Ne.symm (ne_ud (ne_un (by assumption))) | exact ne_ud (ne_un (ne_un (by assumption))) | exact Ne.symm (ne_ud (ne_un (ne_un (by assumption)))) | exact ne_m (by assumption) (by assumption) | exact Ne.symm (ne_m (by assumption) (by assumption)) | exact ne_n (by assumption) (by walk_at "nn") | exact Ne.symm (ne_n (by assumption) (by walk_at "nn")))
local macro_rules | `(tactic| walk_at "hp") => `(tactic| first | assumption | exact upd_same | (refine Eq.trans (upd_ne ?_) ?_; (focus walk_at "ne"); walk_at "hp"))
local macro_rules | `(tactic| walk_at "sc") => `(tactic| first | (with_reducible assumption) | omega | exact le_line (by (try simp only [List.length_map, List.length_append, List.length_cons, List.length_nil, S_len]); omega) | exact div_s (by omega) | exact mul_r (by omega) | exact mul_l (by omega) | exact pow_s (by omega) | exact mul2_r (by omega) | exact mul2_l (by omega) | exact small4300 (by omega) | exact lt_line (by (try simp only [List.length_map, List.length_append, List.length_cons, List.length_nil, S_len]); omega) | exact ⟨_, by assumption⟩ | (guard_target =~ Exists _; exact ⟨_, .of (by walk_at "hp")⟩) | (guard_target =~ _ ∨ _; exact .inl ⟨_, by assumption⟩) | (guard_target =~ _ ∨ _; exact .inl ⟨_, .of (by walk_at "hp")⟩) | (guard_target =~ _ ∨ _; exact .inr (.inr (.inl ⟨rfl, .inl ⟨_, by walk_at "hp"⟩⟩))) | decide)
local macro_rules | `(tactic| walk_at "kr") => `(tactic| first | (guard_target =~ _ ∧ _; first | refine And.intro (by walk_at "sc") ?_) | (guard_target =~ KW.uIx _ _ _ _ _; first | refine ix_l (by walk_at "hp") (by first | walk_at "hv" | rfl) ?_ | refine ix_t (by walk_at "hp") (by first | walk_at "hv" | rfl) ?_ | refine ix_sl (by assumption) (by walk_at "hv") ?_) | (guard_target =~ KW.uLen _ _ _ _; first | refine len_l (by walk_at "hp") ?_ | refine len_t (by walk_at "hp") ?_ | refine len_sl (by assumption) ?_) | (guard_target =~ KW.uSet _ _ _ _ _; first | refine set_l (by walk_at "hp") (by first | walk_at "hv" | rfl) ?_) | (guard_target =~ L2.gTup _ _ _ _ _ _ _; first | refine tup_l (by walk_at "hp") (by rfl) ?_) | (guard_target =~ KW.uGet _ _ _ _ _; first | refine get_l (by walk_at "hp") (by walk_at "hc") (by decide) (by rfl) ?_) | (guard_target =~ KW.uPut _ _ _ _ _ _; first | refine put_l (by walk_at "hp") (by walk_at "hc") (by decide) (by simp) ?_) | (guard_target =~ KW.uMet.uMt _ _ _ _ _ _ _ _ _; first | refine met_l (by walk_at "hp") (by rfl) ?_) | (guard_target =~ KW.uMet.uMt _ _ _ _ _ _ _ _ _; first | refine ST.met_s (by assumption) (by decide) ?_) | (guard_target =~ ST.spExists _ _ _ _ _; first | refine ST.exists_s (by assumption) ?_) | (guard_target =~ ST.spUsed _ _ _ _ _; first | refine ST.used_s (by assumption) ?_) | (guard_target =~ KW.uGet _ _ _ _ _; first | refine ST.words_s (by assumption) (by walk_at "hc") (by decide) ?_) | (guard_target =~ KW.uDIn _ _ _ _; first | refine din_i (by walk_at "hp") ?_ | refine din_s (by walk_at "hp") ?_) | (guard_target =~ KW.uDGet _ _ _ _; first | refine dget_i (by walk_at "hp") (by walk_at "hv") ?_ | refine dget_s (by walk_at "hp") (by walk_at "hv") ?_) | (guard_target =~ KW.uDPut _ _ _ _ _; first | refine dput_i (by walk_at "hp") (by walk_at "sc") ?_ | refine dput_s (by walk_at "hp") (by walk_at "sc") ?_) | (guard_target =~ KW.uDDel _ _ _ _; first | refine ddel_i (by walk_at "hp") (by walk_at "hv") ?_ | refine ddel_s (by walk_at "hp") (by walk_at "hv") ?_) | (guard_target =~ KW.uMul2 _ _ _ _; first | refine rep_l (by walk_at "hp") (by walk_at "sc") (by walk_at "sc") (by walk_at "sc") ?_) | (guard_target =~ L2.rAppend _ _ _ _; first | refine app_l (by walk_at "hp") (by walk_at "sc") ?_) | (guard_target =~ L2.rPop _ _ _ _; first | refine pop_l (by walk_at "hp") (by walk_at "hv") ?_ | refine pops_l (by walk_at "hp") ?_) | (guard_target =~ L2.rClear _ _ _ _; first | refine clr_l (by walk_at "hp") ?_) | (guard_target =~ L2.rReverse _ _ _ _; first | refine rev_l (by walk_at "hp") ?_) | (guard_target =~ L2.rExtend _ _ _ _; first | refine ext_l (by walk_at "hp") (by walk_at "hp") (by walk_at "sc") ?_) | (guard_target =~ KW.uAdd _ _ _ _ _; first | refine ucat_l (by walk_at "hp") (by walk_at "hp") (by walk_at "sc") ?_) | (guard_target =~ KW.uSl _ _ _ _ _ _; first | refine usl_l (by walk_at "hp") ?_) | (guard_target =~ KW.uTru _ _ _ _; first | refine tru_l (by walk_at "hp") ?_ | refine tru_t (by walk_at "hp") ?_ | refine tru_d (by walk_at "hp") ?_ | refine tru_sl (by assumption) ?_) | (guard_target =~ L2.rIndex _ _ _ _ _; first | refine idx_s (by walk_at "hp") (by assumption) ?_ | refine idx_i (by walk_at "hp") (by assumption) ?_) | (guard_target =~ L2.rIn _ _ _ _ _ _; first | refine in_s (by walk_at "hp") ?_ | refine nin_s (by walk_at "hp") ?_ | refine in_i (by walk_at "hp") ?_ | refine nin_i (by walk_at "hp") ?_) | (guard_target =~ KW.uIsi _ _ _ _; first | refine isi_l (by walk_at "hp") (by decide +kernel) ?_ | refine isi_t (by walk_at "hp") (by decide +kernel) ?_ | refine isi_d (by walk_at "hp") (by decide +kernel) ?_) | (guard_target =~ KW.uList _ _ _ _; first | refine list_l (by walk_at "hp") ?_ | refine list_t (by walk_at "hp") ?_ | refine list_sl (by assumption) ?_) | (guard_target =~ KW.uDict _ _ _; first | refine dict_d (by walk_at "hp") ?_) | (guard_target =~ KW.uSorted _ _ _ _; first | refine srt_l (by walk_at "hp") ?_) | (guard_target =~ KW.uSum _ _ _ _; first | refine sum_l (by walk_at "hp") ?_) | (guard_target =~ KW.uDelC _ _ _ _; first | refine dels_l (by walk_at "hp") (by walk_at "sc") ?_) | (guard_target =~ L2.wAs _ _ _ _ _ _ _ _ _ _; first | refine as_yes (by walk_at "hx") ?_ | refine as_no (by walk_at "hx") ?_) | (guard_target =~ KW.uEf _ _ _ _ _ _ _ _ _; first | refine ef_l (by walk_at "he") (by decide) (by rfl) (by walk_at "hp") (by rfl) ?_) | (guard_target =~ KW.uIsE _ _ _ _ _ _ _; first | refine isE_r (by walk_at "he") (by walk_at "hp") (by walk_at "hk") ?_ | refine isE_t (by walk_at "he") (by walk_at "hp") (by walk_at "hk") ?_))
local macro_rules | `(tactic| walk_at "hv") => `(tactic| first | assumption)
local macro_rules | `(tactic| walk_at "kk") => `(tactic| repeat (first | walk_at "kw" | walk_at "kr"))
local macro_rules | `(tactic| walk_at "hc") => `(tactic| first | exact K25.Txt.c_Draft (by assumption))
local macro_rules | `(tactic| walk_at "he") => `(tactic| first | exact K25.Txt.e_Malformed (by assumption))
local macro_rules | `(tactic| walk_at "hx") => `(tactic| first | fail)
local macro_rules | `(tactic| walk_at "hk") => `(tactic| first | fail)

section
variable {P : Program} {w : World} {K : Frag} {mg : Str → Option Value} {base : Heap} {a : Ads}
theorem ok_numbers_in (T : Txt P w K mg a) : Cal P w K mg base 2 "numbers_in" (spNumsIn a.Malformed) := by
  have C_number_in := ok_number_in (P := P) (w := w) (base := base) T
  refine T.d_numbers_in.ok sc_numbers_in (fun vs H Q E h => ?_) (fun f cdv A outer s H vs Q E hr h => ⟨_, (pss_cons (ps_if (pt_cmpR (o_ne hr.units) (pe_callB c_len (by rfl) T.n_len (by decide +kernel) (pa_cons (kv 0) pa_nil)) (kv 1) (nomark _))
      (pss_one (k_raise (L2N.takes_of rfl rfl rfl rfl) (k_mk T.e_Malformed hr (pa_cons (kv 2) pa_nil))))
      pss_nil)
      (pss_one (ps_ret (k_lcE (own := [("word", 3)]) (g := gName 3) (L2N.takes_of rfl rfl rfl rfl) rfl rfl (by rfl) sc_numbers_in.nd (pi_list (kv 0)) (blkOk_by (own := [("word", 3)]) (N := ["words", "count", "at", "word"]) (sc := defScope s_numbers_in) (by decide +kernel)) (fun _ _ _ _ _ => pg_name (i := 3) sc_numbers_in.nd rfl (Or.inl rfl)) (fun _ _ _ _ _ => pts_nil) (fun _ _ _ _ _ => by exact (kcB C_number_in (hr.mono (by decide)) (pa_cons (kv 3) (pa_cons (kv 2) pa_nil)))))))), ?_⟩)
  · obtain ⟨p, ws, n, i, rfl, _⟩ := h; rfl
  · obtain ⟨p, ws, n, i, rfl, hp, hl, hw, hi, hb, h⟩ := h
    walk_at "kk"
    split
    · rename_i c
      exact ⟨nat4300 hi, fun d hd => (hb (by unfold numsIn; rw [if_pos c])).here hd⟩
    rename_i c
    have c : ws.length = n := by simpa using c
    have n0 : numsIn ws n = ws.mapM numIn := by unfold numsIn; rw [if_neg (by simp [c])]
    simp only [n0] at hb h
    refine ⟨⟨_, .of hp⟩, ?_⟩
    refine lc_lG (xs := ws) (F := sV) (fun i D acc H' => H' D = some (.lst acc) ∧ KW.Fr [] H H' ∧ ∃ is : List Int, acc = is.map V.int ∧ (ws.take i).mapM numIn = some is) (fun D hD => ⟨upd_same, KW.Fr.new hD, [], rfl, by simp⟩) (fun i D acc H' z => .of (z.2.1 _ _ (by simp) hp)) (fun j x D acc H' Nx hx hD hP hN => ?_) fun D acc H' hD hP => ?_
    · obtain ⟨h1, h2, is, rfl, h4⟩ := hP
      have hm := List.mem_of_getElem? hx
      have hj := (List.getElem?_eq_some_iff.mp hx).1
      have li := mapM_len h4
      rw [List.length_take] at li
      walk_at "kk"
      refine ⟨x, i, rfl, hl x hm, hi, fun z => (hb (mapM_bad hm z)).fr h2, fun n hn H'' f => ⟨_, f _ _ (by simp) h1, lt_line (by rw [List.length_map]; omega), hN _ _ ⟨upd_same, fr_at hD (h2.trans f), is ++ [n], by simp, ?_⟩⟩⟩
      rw [List.take_add_one, hx]
      exact mapM_snoc h4 hn
    · obtain ⟨h1, h2, is, rfl, h4⟩ := hP
      rw [List.take_length] at h4
      exact h is h4 H' D h2 hD h1
theorem ok_unescaped (T : Txt P w K mg a) : Cal P w K mg base 1 "unescaped" (spUnesc a.Malformed) := by
  refine T.d_unescaped.ok sc_unescaped (fun vs H Q E h => ?_) (fun f cdv A outer s H vs Q E hr h => ⟨_, (pss_cons (ps_set (i := 2) sc_unescaped.nd rfl (Or.inl rfl) pe_str)
      (pss_cons (ps_set (i := 3) sc_unescaped.nd rfl (Or.inl rfl) pe_int)
      (pss_cons (k_while (passes_of rfl) (pt_cmpR o_lt (kv 3) (pe_callB c_len (by rfl) T.n_len (by decide +kernel) (pa_cons (kv 0) pa_nil)) (nomark _))
      (pss_cons (ps_set (i := 4) sc_unescaped.nd rfl (Or.inl rfl) (pe_ix o_ix (kv 0) (kv 3) (fun _ _ => rfl)))
      (pss_cons (ps_if (pt_cmpR (o_eq hr.units) (kv 4) pe_str (nomark _))
      (pss_cons (ps_aug (i := 3) sc_unescaped.nd rfl (Or.inl rfl) pe_int o_iadd)
      (pss_cons (ps_set (i := 5) sc_unescaped.nd rfl (Or.inl rfl) (pe_slice o_sl (kv 0) (po_some (kv 3)) (po_some (pe_op o_add (kv 3) pe_int))))
      (pss_cons (ps_if (PW.pt (pw_and (pt_cmpR (o_ne hr.units) (kv 5) pe_str (nomark _)) (pw_and1 (pt_cmpR (o_ne hr.units) (kv 5) pe_str (nomark _)))))
      (pss_one (k_raise (L2N.takes_of rfl rfl rfl rfl) (k_mk T.e_Malformed hr (pa_cons (kv 1) pa_nil))))
      pss_nil)
      (pss_one (ps_set (i := 4) sc_unescaped.nd rfl (Or.inl rfl) (pe_ifExp (pt_cmpR (o_eq hr.units) (kv 5) pe_str (nomark _)) pe_str pe_str))))))
      pss_nil)
      (pss_cons (ps_aug (i := 2) sc_unescaped.nd rfl (Or.inl rfl) (kv 4) o_iadd)
      (pss_one (ps_aug (i := 3) sc_unescaped.nd rfl (Or.inl rfl) pe_int o_iadd))))))
      (pss_one (ps_ret (kv 2)))))), ?_⟩)
  · obtain ⟨l, i, rfl, _⟩ := h; rfl
  · obtain ⟨l, i, rfl, hl, hi, hb, h⟩ := h
    walk_at "kk"
    refine ⟨fun m σ H' => ∃ (t : List Nat) (j : Nat) (v4 v5 : Option V), σ = [some (.str (S l)), some (.int i), some (.str (S t)), some (.int j), v4, v5] ∧ H' = H ∧ m = l.length - j ∧ j ≤ l.length ∧ t.length ≤ j ∧ unSt t false (l.drop j) = unSt [] false l, ⟨_, [], 0, _, _, rfl, rfl, rfl, by omega, by simp, rfl⟩, ?_⟩
    rintro m σ _ ⟨t, j, v4, v5, rfl, rfl, rfl, hj, ht, hu⟩
    walk_at "kk"
    have hl1 := hl.1
    have hs := le_line (n := l.length) (by omega)
    refine ⟨hs, ?_⟩
    split
    · rename_i c0
      have hj' : j < l.length := by omega
      obtain ⟨c, hc⟩ : ∃ c, l[j]? = some c := ⟨_, List.getElem?_eq_getElem hj'⟩
      have ed : l.drop j = c :: l.drop (j + 1) := by
        rw [List.drop_eq_getElem_cons hj']
        rw [List.getElem?_eq_getElem hj'] at hc
        rw [Option.some.inj hc]
      have ec : cutS (S l) (some ((j : Int) + 1)) (some ((j : Int) + 1 + 1)) = S ((l.drop (j + 1)).take 1) := by
        have := cutS_S l (j + 1) (j + 2)
        rw [show j + 2 - (j + 1) = 1 by omega] at this
        exact this
      rw [ec]
      rw [ed] at hu
      have ls : (S t).length ≤ 100000 := by rw [S_len]; omega
      refine ⟨hs, c, atI_nat hc, ?_⟩
      split
      · rename_i c1
        subst c1
        have hu : unSt t true (l.drop (j + 1)) = unSt [] false l := by rw [← hu]; simp [unSt]
        refine ⟨hs, ?_⟩
        cases e : l.drop (j + 1) with
        | nil =>
          rw [e] at hu
          have hn : unSt [] false l = none := by rw [← hu]; simp [unSt]
          rw [if_pos (by simp [S_inj]), if_pos (by simp [S_inj])]
          exact ⟨nat4300 hi, fun d hd => (hb hn).here hd⟩
        | cons d r =>
          have hj2 : j + 1 < l.length := by
            have := congrArg List.length e
            rw [List.length_drop, List.length_cons] at this
            omega
          have er : r = l.drop (j + 2) := by
            have := congrArg List.tail e
            rw [List.tail_drop] at this
            exact this.symm
          rw [e] at hu
          simp only [List.take_succ_cons, List.take_zero, S_inj, List.cons.injEq, and_true]
          have hn (x : Nat) (hx : unSt t true (d :: r) = unSt (t ++ [x]) false r) : ∃ m', m' < l.length - j ∧ ∃ y : Nat, (j : Int) + 1 + 1 = y ∧ m' = l.length - y ∧ y ≤ l.length ∧ t.length + 1 ≤ y ∧ unSt (t ++ [x]) false (l.drop y) = unSt [] false l :=
            ⟨l.length - (j + 2), by omega, j + 2, rfl, rfl, by omega, by omega, by rw [← er, ← hx]; exact hu⟩
          have lt' := le_line (n := t.length + 1) (by omega)
          by_cases d1 : d = 110
          · subst d1
            rw [if_neg (by simp), if_pos rfl]
            exact ⟨lt', hn 10 (by simp [unSt])⟩
          · rw [if_pos d1]
            by_cases d2 : d = 92
            · subst d2
              rw [if_neg (by simp), if_neg d1]
              exact ⟨lt', hn 92 (by simp [unSt])⟩
            · rw [if_pos d2]
              exact ⟨nat4300 hi, fun dd hd => (hb (by rw [← hu]; simp [unSt, d1, d2])).here hd⟩
      · rename_i c1
        have hu : unSt (t ++ [c]) false (l.drop (j + 1)) = unSt [] false l := by rw [← hu]; simp [unSt, c1]
        exact ⟨le_line (by omega), l.length - (j + 1), by omega, j + 1, rfl, rfl, by omega, by omega, hu⟩
    · rename_i c0
      have : l.drop j = [] := List.drop_eq_nil_of_le (by omega)
      rw [this] at hu
      exact h t (by rw [← hu]; simp [unSt])
theorem ok_read_text (T : Txt P w K mg a) : Cal P w K mg base 2 "read_text" (spRdText a.Malformed) := by
  have C_unescaped := ok_unescaped (P := P) (w := w) (base := base) T
  refine T.d_read_text.ok sc_read_text (fun vs H Q E h => ?_) (fun f cdv A outer s H vs Q E hr h => ⟨_, (pss_cons (ps_set (i := 3) sc_read_text.nd rfl (Or.inl rfl) (kcX (L2N.takes_of rfl rfl rfl rfl) C_unescaped (hr.mono (by decide)) (pa_cons (pe_slice o_sl (kv 1) (po_some (pe_op o_add (pe_callB c_len (by rfl) T.n_len (by decide +kernel) (pa_cons (kv 0) pa_nil)) pe_int)) po_none) (pa_cons (kv 2) pa_nil))))
      (pss_cons (ps_if (PW.pt (pw_and (pt_cmpR (o_ne hr.units) (kv 0) pe_str (nomark _)) (pw_and1 (PW.pt (pw_or (pt_cmpR (o_eq hr.units) (kv 3) pe_str (nomark _)) (pw_or (pt_cmpR o_in pe_str (kv 3) (by rfl)) (pw_or1 (pt_cmpR o_in pe_str (kv 3) (by rfl)))))))))
      (pss_one (k_raise (L2N.takes_of rfl rfl rfl rfl) (k_mk T.e_Malformed hr (pa_cons (kv 2) pa_nil))))
      pss_nil)
      (pss_one (ps_ret (pe_tup (pa_cons (kv 0) (pa_cons (kv 3) pa_nil))))))), ?_⟩)
  · obtain ⟨k, l, i, rfl, _⟩ := h; rfl
  · obtain ⟨k, l, i, rfl, hk, hl, hi, hb, h⟩ := h
    have hs := le_line (n := k.length) (by have := hk.1; omega)
    have hs2 := le_line (n := l.length) (by have := hl.1; omega)
    walk_at "kk"
    rw [cut_from l (i := k.length + 1) (x := (k.length : Int) + 1) rfl]
    have r0 : rdText k l = match unSt [] false (l.drop (k.length + 1)) with
      | none => none
      | some t => if k ≠ tSYMBOL ∧ (t = [] ∨ 32 ∈ t ∨ 10 ∈ t) then none else some [.str (S k), .str (S t)] := rfl
    refine ⟨_, i, rfl, line_drop hl _, hi, fun z => hb (by rw [r0, z]), fun t ht => ?_⟩
    rw [ht] at r0
    dsimp only at r0
    walk_at "kk"
    have bad : (k ≠ tSYMBOL ∧ (t = [] ∨ 32 ∈ t ∨ 10 ∈ t)) → ((i : Nat) : Int).natAbs < 10 ^ 4300 ∧ ∀ d, H d = none → E (.ref a.Malformed) (some d) (upd H d (.xd [("at", .int i)])) := fun z => ⟨nat4300 hi, fun d hd => (hb (by rw [r0, if_pos z])).here hd⟩
    have fin : ¬ (k ≠ tSYMBOL ∧ (t = [] ∨ 32 ∈ t ∨ 10 ∈ t)) → ∀ p, H p = none → Q (.ref p) (upd H p (.tup [.str (S k), .str (S t)])) := fun z p hp => h _ (by rw [r0, if_neg z]) _ p (KW.Fr.new hp) hp upd_same
    split
    · rename_i c1
      split
      · rename_i c2
        exact bad ⟨c1, .inl (by simpa [S_inj] using c2)⟩
      rename_i c2
      rw [subStr_one, subStr_one]
      split
      · rename_i c3
        exact bad ⟨c1, .inr (.inl (by simpa using c3))⟩
      rename_i c3
      split
      · rename_i c4
        exact bad ⟨c1, .inr (.inr (by simpa using c4))⟩
      rename_i c4
      refine ⟨by decide, fin ?_⟩
      rintro ⟨_, z | z | z⟩
      · exact c2 (by rw [z])
      · exact c3 (by simpa using z)
      · exact c4 (by simpa using z)
    · rename_i c1
      exact ⟨by decide, fin fun z => z.1 (Classical.not_not.mp c1)⟩
theorem ok_read_head (T : Txt P w K mg a) : Cal P w K mg base 3 "read_head" (spRdHead a.Malformed) := by
  have C_numbers_in := ok_numbers_in (P := P) (w := w) (base := base) T
  refine T.d_read_head.ok sc_read_head (fun vs H Q E h => ?_) (fun f cdv A outer s H vs Q E hr h => ⟨_, (pss_cons (ps_set (i := 1) sc_read_head.nd rfl (Or.inl rfl) (pe_bm PySem.F.plainAttrs_str PySem.F.slot_str_split PySem.F.type_str_split mt_split (kv 0) (pa_cons pe_str pa_nil)))
      (pss_cons (ps_if (PW.pt (pw_or (pt_cmpR (o_ne hr.units) (pe_ix o_ix (kv 1) pe_int (fun _ _ => rfl)) pe_str (nomark _)) (pw_or (pt_cmpR (o_ne hr.units) (pe_callB c_len (by rfl) T.n_len (by decide +kernel) (pa_cons (kv 1) pa_nil)) pe_int (nomark _)) (pw_or1 (pt_cmpR (o_eq hr.units) (pe_ix o_ix (kv 1) pe_int (fun _ _ => rfl)) pe_str (nomark _))))))
      (pss_one (k_raise (L2N.takes_of rfl rfl rfl rfl) (k_mk T.e_Malformed hr (pa_cons pe_int pa_nil))))
      pss_nil)
      (pss_one (ps_ret (pe_op o_add (pe_lst (pa_cons (pe_ix o_ix (kv 1) pe_int (fun _ _ => rfl)) pa_nil)) (kcX (L2N.takes_of rfl rfl rfl rfl) C_numbers_in (hr.mono (by decide)) (pa_cons (pe_slice o_sl (kv 1) (po_some pe_int) po_none) (pa_cons pe_int (pa_cons pe_int pa_nil))))))))), ?_⟩)
  · obtain ⟨l, rfl, _⟩ := h; rfl
  · obtain ⟨l, rfl, hl, hb, h⟩ := h
    have hs := le_line (n := l.length) (by have := hl.1; omega)
    walk_at "kk"
    refine ⟨le_line (by have := hl.1; omega), split_v fun p hp w0 ws ew e0 e1 => ?_⟩
    have hw : ∀ x ∈ ws, Line x := fun x hx => wds_line hl (by rw [ew]; exact List.mem_cons_of_mem _ hx)
    have lw := wds_len l
    rw [ew, List.length_cons] at lw
    have hl1 := hl.1
    have n0 : ((0 : Nat) : Int).natAbs < 10 ^ 4300 := nat4300 (Nat.zero_le _)
    have hd0 : rdHead l = if fst l ≠ tMETHOD ∨ (wds l).length ≠ 5 ∨ (rst l).headD [] = [] then none else (numsIn (rst l).tail 3).map fun is => ((rst l).headD [], is) := rfl
    rw [e0, e1, ew] at hd0
    have f1 : KW.Fr [] H (upd H p (.lst (sV w0 :: ws.map sV))) := KW.Fr.new hp
    refine ix_l upd_same (atI_nat (j := 0) rfl) ?_
    unfold sV
    walk_at "kk"
    split
    · rename_i c
      exact ⟨n0, fun d hd => hb (by rw [hd0, if_pos (.inl fun z => c z)]) _ _ f1 hd⟩
    rename_i c1
    refine len_l upd_same ?_
    walk_at "kk"
    split
    · rename_i c
      exact ⟨n0, fun d hd => hb (by rw [hd0, if_pos (.inr (.inl (by simp only [List.length_map, List.length_cons] at c ⊢; omega)))]) _ _ f1 hd⟩
    rename_i c2
    have c2 : ws.length = 4 := by omega
    obtain ⟨b, x, y, z, rfl⟩ : ∃ b x y z, ws = [b, x, y, z] := by
      match ws, c2 with
      | [b, x, y, z], _ => exact ⟨b, x, y, z, rfl⟩
    refine ix_l upd_same (atI_nat (j := 1) rfl) ?_
    walk_at "kk"
    split
    · rename_i c
      exact ⟨n0, fun d hd => hb (by rw [hd0, if_pos (.inr (.inr c))]) _ _ f1 hd⟩
    rename_i c3
    refine ix_l upd_same (atI_nat (j := 1) rfl) ?_
    walk_at "kk"
    intro q hq
    walk_at "kk"
    intro r hr'
    have hs2 : numsIn [x, y, z] 3 = numsIn ([b, x, y, z] : List (List Nat)).tail 3 := rfl
    rw [if_neg (by rintro (z | z | z); exact z (Classical.not_not.mp c1); exact z rfl; exact c3 z), ← hs2] at hd0
    have f2 := f1.trans (KW.Fr.new (l := []) (o := .lst [.str (S b)]) hq)
    have f3 := f2.trans (KW.Fr.new (l := []) (o := .lst [sV x, sV y, sV z]) hr')
    refine ⟨r, [x, y, z], 3, 0, rfl, upd_same, fun w hm => hw w (List.mem_cons_of_mem _ hm), by simp, by omega, fun e => (hb (by rw [hd0, e]; rfl)).fr f3, fun is e H' D f' hD hD2 => ?_⟩
    rw [e] at hd0
    have hq3 := f' q _ (by simp) ((upd_ne (ne_of_none upd_same hr')).trans upd_same)
    have l3 := mapM_len (f := numIn) (l := [x, y, z]) (a := is) (by unfold numsIn at e; rwa [if_neg (by simp)] at e)
    refine ucat_l hq3 hD2 (le_line (by simp only [List.length_map, l3, List.length_cons, List.length_nil]; omega)) fun u hu => ?_
    have f4 := f3.trans f'
    exact h b is (by rw [hd0]; rfl) _ u (f4.trans (KW.Fr.new hu)) (fr_no f4 hu) upd_same
end
end K25

set_option Elab.async false
set_option linter.all false
set_option maxRecDepth 100000
set_option maxHeartbeats 4000000
namespace K25
open PySem PySem.Spec PyProof.Rows L2 KW LS
local macro_rules | `(tactic| walk_at "kw") => `(tactic| simp only [tSeq, tNext, tIfS, tTest, tAnd, tOr, tNot, tAndV, tOrV, tNotV, tIf, tChain, tOp, tUn, tC, tAsg, gName, gSub, gCons, gNil, tRet, tRetN, tDrop, tCons, tNil, tCB, tAug, tSl, tPart, tNoPart, tLst, tTup, tBM, tBM0, uTest, uFor, iRng1, iRng2, iList, uCall, List.map_cons, List.map_nil, List.length_cons, List.length_nil, List.cons_append, List.nil_append, List.replicate, Nat.zero_add, Nat.reduceAdd, Nat.reduceSub, List.getElem?_cons_zero, List.getElem?_cons_succ, List.set_cons_zero, List.set_cons_succ, V.bl.injEq, V.int.injEq, V.str.injEq, V.ref.injEq, V.ty.injEq, List.cons.injEq, and_true, true_and, exists_eq_left', exists_eq_right, exists_eq_left, exists_and_left, exists_and_right, decide_eq_true_eq, Bool.not_eq_true', decide_eq_false_iff_not, Bool.false_eq_true, if_true, if_false, ite_true, ite_false, Bool.not_true, Bool.not_false, reduceCtorEq, decide_true, decide_false, Bool.not_not, isK_int_int, isK_int_bool, isK_int_str, isK_int_list, isK_int_tuple, isK_bool_int, isK_bool_bool, isK_bool_str, isK_str_str, isK_str_int, isK_str_bool, isK_str_tuple, isK_str_list, isK_list_list, isK_list_tuple, isK_tuple_tuple, isK_tuple_list, isOk_int_int, isOk_int_bool, isOk_int_str, isOk_int_list, isOk_int_tuple, isOk_bool_int, isOk_bool_bool, isOk_bool_str, isOk_str_str, isOk_str_int, isOk_str_bool, isOk_str_tuple, isOk_str_list, isOk_list_list, isOk_list_tuple, isOk_tuple_tuple, isOk_tuple_list, isK_dict_dict, isOk_dict_dict, isK_none_int, isK_none_bool, isOk_none_int, isOk_none_bool, tyV, S_inj, S_cat, L2.start, Nat.reduceSub, List.replicate_succ, List.replicate_zero, and_assoc, List.append_nil, Nat.reduceEqDiff, Option.some.injEq, Int.natCast_inj, upd_upd, Int.reducePow, Int.reduceToNat, Int.reduceMul, Int.reduceAdd, Int.reduceSub, Int.reduceLT, Int.reduceLE, Int.reduceNeg, Int.reduceDiv, Int.reduceMod, Nat.reducePow, Nat.reduceMul, S_len, List.length_append, List.length_map, List.length_range, not_true_eq_false, not_false_eq_true, ne_eq, uAdd_e1, uAdd_e2, uSub_e1, uMod_e1, uDiv_e1, uPow_e1, uShl_e1, uNeg_e1, uIAdd_e1, uIAdd_e2, uIAdd_e3, uISub_e1, uLt_e1, uLt_e2, uLe_e1, uGt_e1, uGe_e1, uEq_e1, uEq_e2, uEq_e3, uEq_e4, uEq_e5, uEq_e6, uEq_e7, uEq_e8, uEq_e9, uEq_e10, uEq_e11, uNe_e1, uNe_e2, uNe_e3, uNe_e4, uNe_e5, uNe_e6, uNe_e7, uNe_e8, uNe_e9, uNe_e10, uNe_e11, uIs_e1, uIs_e2, uIs_e3, uIs_e4, uIs_e5, uIs_e6, uIs_e7, uNotIs_e1, uNotIs_e2, uNotIs_e3, uNotIs_e4, uNotIs_e5, uNotIs_e6, uIn_e1, uIn_e2, uIn_e3, uIn_e4, uNotIn_e1, uNotIn_e2, uNotIn_e3, uNotIn_e4, uTru_e1, uTru_e2, uTru_e3, uTru_e4, uIx_e2, uSl_e2, uLen_e1, uAbs_e1, uInt_e1, uInt_e2, uMin2_e1, uIsi_e1, uIsi_e2, uIsi_e3, uIsi_e4, cx_K, uVar_0, uVar_n, uFld, uSFld, uMet, uMake, tDG, tDI, tDNI, tDP, tDD, uMk, uRaise, uDelSl, tCallS, L2.WE, uStr_e1, uStr_e2, uMul2_e1, uMul2_e2, okS_i, okS_s, List.zip_cons_cons, List.zip_nil_left, List.drop_zero, List.drop_succ_cons, List.drop_nil, putF_nil, putF_cons, eq_self, tDNewK, tB, Option.isSome_some, Option.isSome_none, false_and, false_or, or_false, exists_false, Int.zero_add, uLc, wipe, tYes, isEmpty_app, List.isEmpty_cons, List.isEmpty_nil, List.isEmpty_map, Bool.and_false, Bool.and_true, iRev, K25.lit_0, K25.lit_1, K25.lit_2, K25.lit_3, K25.lit_4, K25.lit_5, K25.lit_6, K25.lit_7, K25.lit_8, K25.lit_9, K25.lit_10, K25.lit_11, K25.lit_12, K25.lit_13, K25.lit_14, K25.lit_15, K25.lit_16, K25.lit_17, K25.lit_18, K25.lit_19, K25.lit_20, K25.lit_21, K25.lit_22, K25.lit_23, K25.lit_25, K25.lit_26, K25.lit_27, K25.lit_28, K25.lit_29, K25.lit_30, K25.lit_32, K25.lit_33, K25.lit_34, K25.lit_35, K25.lit_36, K25.lit_37, K25.lit_38, K25.lit_39, K25.lit_40, K25.lit_41, K25.lit_42, K25.lit_43, K25.lit_44, K25.lit_45, K25.lit_46, K25.lit_47, K25.lit_48, K25.lit_49, K25.lit_50, K25.lit_51, K25.fe_selector_argc, K25.fe_selector_locals, K25.fe_selector_stack, K25.fe_selector_code, K25.fe_selector_literals, K25.fe_argc_selector, K25.fe_argc_locals, K25.fe_argc_stack, K25.fe_argc_code, K25.fe_argc_literals, K25.fe_locals_selector, K25.fe_locals_argc, K25.fe_locals_stack, K25.fe_locals_code, K25.fe_locals_literals, K25.fe_stack_selector, K25.fe_stack_argc, K25.fe_stack_locals, K25.fe_stack_code, K25.fe_stack_literals, K25.fe_code_selector, K25.fe_code_argc, K25.fe_code_locals, K25.fe_code_stack, K25.fe_code_literals, K25.fe_literals_selector, K25.fe_literals_argc, K25.fe_literals_locals, K25.fe_literals_stack, K25.fe_literals_code, K25.fl_code_0, K25.lf_code_0, K25.fl_code_1, K25.lf_code_1, K25.fl_code_2, K25.lf_code_2, K25.fl_code_3, K25.lf_code_3, K25.fl_code_4, K25.lf_code_4, K25.fl_code_5, K25.lf_code_5, K25.fl_code_6, K25.lf_code_6, K25.fl_code_7, K25.lf_code_7, K25.fl_code_8, K25.lf_code_8, K25.fl_code_9, K25.lf_code_9, K25.fl_code_10, K25.lf_code_10, K25.fl_code_11, K25.lf_code_11, K25.fl_code_12, K25.lf_code_12, K25.fl_code_13, K25.lf_code_13, K25.fl_code_14, K25.lf_code_14, K25.fl_code_15, K25.lf_code_15, K25.fl_code_16, K25.lf_code_16, K25.fl_code_17, K25.lf_code_17, K25.fl_code_18, K25.lf_code_18, K25.fl_code_19, K25.lf_code_19, K25.fl_code_20, K25.lf_code_20, K25.fl_code_21, K25.lf_code_21, K25.fl_code_22, K25.lf_code_22, K25.fl_code_23, K25.lf_code_23, K25.fl_code_24, K25.lf_code_24, K25.fl_code_25, K25.lf_code_25, K25.fl_code_26, K25.lf_code_26, K25.fl_code_27, K25.lf_code_27, K25.fl_code_28, K25.lf_code_28, K25.fl_code_29, K25.lf_code_29, K25.fl_code_30, K25.lf_code_30, K25.fl_code_32, K25.lf_code_32, K25.fl_code_33, K25.lf_code_33, K25.fl_code_34, K25.lf_code_34, K25.fl_code_35, K25.lf_code_35, K25.fl_code_36, K25.lf_code_36, K25.fl_code_37, K25.lf_code_37, K25.fl_code_38, K25.lf_code_38, K25.fl_code_39, K25.lf_code_39, K25.fl_code_40, K25.lf_code_40, K25.fl_code_41, K25.lf_code_41, K25.fl_code_42, K25.lf_code_42, K25.fl_code_43, K25.lf_code_43, K25.fl_code_44, K25.lf_code_44, K25.fl_code_45, K25.lf_code_45, K25.fl_code_46, K25.lf_code_46, K25.fl_code_47, K25.lf_code_47, K25.fl_code_48, K25.lf_code_48, K25.fl_code_49, K25.lf_code_49, K25.fl_code_50, K25.lf_code_50, K25.fl_code_51, K25.lf_code_51, K25.fl_selector_0, K25.lf_selector_0, K25.fl_selector_1, K25.lf_selector_1, K25.fl_selector_2, K25.lf_selector_2, K25.fl_selector_3, K25.lf_selector_3, K25.fl_selector_4, K25.lf_selector_4, K25.fl_selector_5, K25.lf_selector_5, K25.fl_selector_6, K25.lf_selector_6, K25.fl_selector_7, K25.lf_selector_7, K25.fl_selector_8, K25.lf_selector_8, K25.fl_selector_9, K25.lf_selector_9, K25.fl_selector_10, K25.lf_selector_10, K25.fl_selector_11, K25.lf_selector_11, K25.fl_selector_12, K25.lf_selector_12, K25.fl_selector_13, K25.lf_selector_13, K25.fl_selector_14, K25.lf_selector_14, K25.fl_selector_15, K25.lf_selector_15, K25.fl_selector_16, K25.lf_selector_16, K25.fl_selector_17, K25.lf_selector_17, K25.fl_selector_18, K25.lf_selector_18, K25.fl_selector_19, K25.lf_selector_19, K25.fl_selector_20, K25.lf_selector_20, K25.fl_selector_21, K25.lf_selector_21, K25.fl_selector_22, K25.lf_selector_22, K25.fl_selector_23, K25.lf_selector_23, K25.fl_selector_25, K25.lf_selector_25, K25.fl_selector_26, K25.lf_selector_26, K25.fl_selector_27, K25.lf_selector_27, K25.fl_selector_28, K25.lf_selector_28, K25.fl_selector_29, K25.lf_selector_29, K25.fl_selector_30, K25.lf_selector_30, K25.fl_selector_31, K25.lf_selector_31, K25.fl_selector_32, K25.lf_selector_32, K25.fl_selector_33, K25.lf_selector_33, K25.fl_selector_34, K25.lf_selector_34, K25.fl_selector_35, K25.lf_selector_35, K25.fl_selector_36, K25.lf_selector_36, K25.fl_selector_37, K25.lf_selector_37, K25.fl_selector_38, K25.lf_selector_38, K25.fl_selector_39, K25.lf_selector_39, K25.fl_selector_40, K25.lf_selector_40, K25.fl_selector_41, K25.lf_selector_41, K25.fl_selector_42, K25.lf_selector_42, K25.fl_selector_43, K25.lf_selector_43, K25.fl_selector_44, K25.lf_selector_44, K25.fl_selector_45, K25.lf_selector_45, K25.fl_selector_46, K25.lf_selector_46, K25.fl_selector_47, K25.lf_selector_47, K25.fl_selector_48, K25.lf_selector_48, K25.fl_selector_49, K25.lf_selector_49, K25.fl_selector_50, K25.lf_selector_50, K25.fl_selector_51, K25.lf_selector_51, uAll_e, uTuple_e, uFm_e1, uFm_e2, uIntS_e1, uIntS_e2, uIntS_e3, uEqO_e, tFm, tJs, iStr, S_e, itxt_S, K25.N_Draft_init, K25.N_Draft_parts, K25.N_Draft___eq__, K25.N_escaped, K25.N_joined, K25.N_literal_line, K25.N_list_draft, K25.N_number_in, K25.N_numbers_in, K25.N_unescaped, K25.N_read_head, K25.N_read_text, K25.N_read_literal, K25.N_read_instruction, K25.N_read_listing, K25.N__law_start, K25.N__law_pick, K25.N__law_text, K25.N__law_count, K25.N__law_literal, K25.N__law_plain, K25.N__law_instruction, K25.N__law_written, K25.N__law_lines, K25.N__law_draft, K25.N__law_parts, K25.N__law_changed, K25.N__law_others, K25.N_law])
local macro_rules | `(tactic| walk_at "nn") => `(tactic| first | assumption | exact ne_un (by assumption) | exact ne_un (ne_un (by assumption)) | exact ne_un (ne_un (ne_un (by assumption))) | exact ne_un (ne_un (ne_un (ne_un (by assumption)))))
local macro_rules | `(tactic| walk_at "ne") => `(tactic| first | assumption | (apply Ne.symm; assumption) | exact ne_ud (by assumption) | exact Ne.symm (ne_ud (by assumption)) | exact ne_ud (ne_un (by assumption)) | exact Ne.symm (ne_ud (ne_un (by assumption))) | exact ne_ud (ne_un (ne_un (by assumption))) | exact Ne.symm (ne_ud (ne_un (ne_un (by assumption)))) | exact ne_m (by assumption) (by assumption) | exact Ne.symm (ne_m (by assumption) (by assumption)) | exact ne_n (by assumption) (by walk_at "nn") | exact Ne.symm (ne_n (by assumption) (by walk_at "nn")))
local macro_rules | `(tactic| walk_at "hp") => `(tactic| first | assumption | exact upd_same | (refine Eq.trans (upd_ne ?_) ?_; (focus walk_at "ne"); walk_at "hp"))
local macro_rules | `(tactic| walk_at "sc") => `(tactic| first | (with_reducible assumption) | omega | exact le_line (by (try simp only [List.length_map, List.length_append, List.length_cons, List.length_nil, S_len]); omega) | exact div_s (by omega) | exact mul_r (by omega) | exact mul_l (by omega) | exact pow_s (by omega) | exact mul2_r (by omega) | exact mul2_l (by omega) | exact small4300 (by omega) | exact lt_line (by (try simp only [List.length_map, List.length_append, List.length_cons, List.length_nil, S_len]); omega) | exact ⟨_, by assumption⟩ | (guard_target =~ Exists _; exact ⟨_, .of (by walk_at "hp")⟩) | (guard_target =~ _ ∨ _; exact .inl ⟨_, by assumption⟩) | (guard_target =~ _ ∨ _; exact .inl ⟨_, .of (by walk_at "hp")⟩) | (guard_target =~ _ ∨ _; exact .inr (.inr (.inl ⟨rfl, .inl ⟨_, by walk_at "hp"⟩⟩))) | decide)
local macro_rules | `(tactic| walk_at "kr") => `(tactic| first | (guard_target =~ _ ∧ _; first | refine And.intro (by walk_at "sc") ?_) | (guard_target =~ KW.uIx _ _ _ _ _; first | refine ix_l (by walk_at "hp") (by first | walk_at "hv" | rfl) ?_ | refine ix_t (by walk_at "hp") (by first | walk_at "hv" | rfl) ?_ | refine ix_sl (by assumption) (by walk_at "hv") ?_) | (guard_target =~ KW.uLen _ _ _ _; first | refine len_l (by walk_at "hp") ?_ | refine len_t (by walk_at "hp") ?_ | refine len_sl (by assumption) ?_) | (guard_target =~ KW.uSet _ _ _ _ _; first | refine set_l (by walk_at "hp") (by first | walk_at "hv" | rfl) ?_) | (guard_target =~ L2.gTup _ _ _ _ _ _ _; first | refine tup_l (by walk_at "hp") (by rfl) ?_) | (guard_target =~ KW.uGet _ _ _ _ _; first | refine get_l (by walk_at "hp") (by walk_at "hc") (by decide) (by rfl) ?_) | (guard_target =~ KW.uPut _ _ _ _ _ _; first | refine put_l (by walk_at "hp") (by walk_at "hc") (by decide) (by simp) ?_) | (guard_target =~ KW.uMet.uMt _ _ _ _ _ _ _ _ _; first | refine met_l (by walk_at "hp") (by rfl) ?_) | (guard_target =~ KW.uMet.uMt _ _ _ _ _ _ _ _ _; first | refine ST.met_s (by assumption) (by decide) ?_) | (guard_target =~ ST.spExists _ _ _ _ _; first | refine ST.exists_s (by assumption) ?_) | (guard_target =~ ST.spUsed _ _ _ _ _; first | refine ST.used_s (by assumption) ?_) | (guard_target =~ KW.uGet _ _ _ _ _; first | refine ST.words_s (by assumption) (by walk_at "hc") (by decide) ?_) | (guard_target =~ KW.uDIn _ _ _ _; first | refine din_i (by walk_at "hp") ?_ | refine din_s (by walk_at "hp") ?_) | (guard_target =~ KW.uDGet _ _ _ _; first | refine dget_i (by walk_at "hp") (by walk_at "hv") ?_ | refine dget_s (by walk_at "hp") (by walk_at "hv") ?_) | (guard_target =~ KW.uDPut _ _ _ _ _; first | refine dput_i (by walk_at "hp") (by walk_at "sc") ?_ | refine dput_s (by walk_at "hp") (by walk_at "sc") ?_) | (guard_target =~ KW.uDDel _ _ _ _; first | refine ddel_i (by walk_at "hp") (by walk_at "hv") ?_ | refine ddel_s (by walk_at "hp") (by walk_at "hv") ?_) | (guard_target =~ KW.uMul2 _ _ _ _; first | refine rep_l (by walk_at "hp") (by walk_at "sc") (by walk_at "sc") (by walk_at "sc") ?_) | (guard_target =~ L2.rAppend _ _ _ _; first | refine app_l (by walk_at "hp") (by walk_at "sc") ?_) | (guard_target =~ L2.rPop _ _ _ _; first | refine pop_l (by walk_at "hp") (by walk_at "hv") ?_ | refine pops_l (by walk_at "hp") ?_) | (guard_target =~ L2.rClear _ _ _ _; first | refine clr_l (by walk_at "hp") ?_) | (guard_target =~ L2.rReverse _ _ _ _; first | refine rev_l (by walk_at "hp") ?_) | (guard_target =~ L2.rExtend _ _ _ _; first | refine ext_l (by walk_at "hp") (by walk_at "hp") (by walk_at "sc") ?_) | (guard_target =~ KW.uAdd _ _ _ _ _; first | refine ucat_l (by walk_at "hp") (by walk_at "hp") (by walk_at "sc") ?_) | (guard_target =~ KW.uSl _ _ _ _ _ _; first | refine usl_l (by walk_at "hp") ?_) | (guard_target =~ KW.uTru _ _ _ _; first | refine tru_l (by walk_at "hp") ?_ | refine tru_t (by walk_at "hp") ?_ | refine tru_d (by walk_at "hp") ?_ | refine tru_sl (by assumption) ?_) | (guard_target =~ L2.rIndex _ _ _ _ _; first | refine idx_s (by walk_at "hp") (by assumption) ?_ | refine idx_i (by walk_at "hp") (by assumption) ?_) | (guard_target =~ L2.rIn _ _ _ _ _ _; first | refine in_s (by walk_at "hp") ?_ | refine nin_s (by walk_at "hp") ?_ | refine in_i (by walk_at "hp") ?_ | refine nin_i (by walk_at "hp") ?_) | (guard_target =~ KW.uIsi _ _ _ _; first | refine isi_l (by walk_at "hp") (by decide +kernel) ?_ | refine isi_t (by walk_at "hp") (by decide +kernel) ?_ | refine isi_d (by walk_at "hp") (by decide +kernel) ?_) | (guard_target =~ KW.uList _ _ _ _; first | refine list_l (by walk_at "hp") ?_ | refine list_t (by walk_at "hp") ?_ | refine list_sl (by assumption) ?_) | (guard_target =~ KW.uDict _ _ _; first | refine dict_d (by walk_at "hp") ?_) | (guard_target =~ KW.uSorted _ _ _ _; first | refine srt_l (by walk_at "hp") ?_) | (guard_target =~ KW.uSum _ _ _ _; first | refine sum_l (by walk_at "hp") ?_) | (guard_target =~ KW.uDelC _ _ _ _; first | refine dels_l (by walk_at "hp") (by walk_at "sc") ?_) | (guard_target =~ L2.wAs _ _ _ _ _ _ _ _ _ _; first | refine as_yes (by walk_at "hx") ?_ | refine as_no (by walk_at "hx") ?_) | (guard_target =~ KW.uEf _ _ _ _ _ _ _ _ _; first | refine ef_l (by walk_at "he") (by decide) (by rfl) (by walk_at "hp") (by rfl) ?_) | (guard_target =~ KW.uIsE _ _ _ _ _ _ _; first | refine isE_r (by walk_at "he") (by walk_at "hp") (by walk_at "hk") ?_ | refine isE_t (by walk_at "he") (by walk_at "hp") (by walk_at "hk") ?_))
local macro_rules | `(tactic| walk_at "hv") => `(tactic| first | assumption)
local macro_rules | `(tactic| walk_at "kk") => `(tactic| repeat (first | walk_at "kw" | walk_at "kr"))
local macro_rules | `(tactic| walk_at "hc") => `(tactic| first | exact K25.Txt.c_Draft (by assumption))
local macro_rules | `(tactic| walk_at "he") => `(tactic| first | exact K25.Txt.e_Malformed (by assumption))
local macro_rules | `(tactic| walk_at "hx") => `(tactic| first | fail)
local macro_rules | `(tactic| walk_at "hk") => `(tactic| first | fail)

section
variable {P : Program} {w : World} {K : Frag} {mg : Str → Option Value} {base : Heap} {a : Ads}
theorem ok_read_literal (T : Txt P w K mg a) : Cal P w K mg base 3 "read_literal" (spRdLine rdLit a.Malformed) := by
  have C_numbers_in := ok_numbers_in (P := P) (w := w) (base := base) T
  have C_read_text := ok_read_text (P := P) (w := w) (base := base) T
  refine T.d_read_literal.ok sc_read_literal (fun vs H Q E h => ?_) (fun f cdv A outer s H vs Q E hr h => ⟨_, (pss_cons (ps_set (i := 2) sc_read_literal.nd rfl (Or.inl rfl) (pe_bm PySem.F.plainAttrs_str PySem.F.slot_str_split PySem.F.type_str_split mt_split (kv 0) (pa_cons pe_str pa_nil)))
      (C8.pss_cut (ps_if (PW.pt (pw_and (pt_cmpR o_in (pe_ix o_ix (kv 2) pe_int (fun _ _ => rfl)) (pe_glob (v := .ref a.t_TEXTS) (by rfl) T.gt_TEXTS.g rfl) (by rfl)) (pw_and1 (pt_cmpR o_gt (pe_callB c_len (by rfl) T.n_len (by decide +kernel) (pa_cons (kv 2) pa_nil)) pe_int (nomark _)))))
      (pss_one (ps_ret (kcX (L2N.takes_of rfl rfl rfl rfl) C_read_text (hr.mono (by decide)) (pa_cons (pe_ix o_ix (kv 2) pe_int (fun _ _ => rfl)) (pa_cons (kv 0) (pa_cons (kv 1) pa_nil))))))
      pss_nil)
      (C8.pss_cut (ps_if (pt_cmpR (o_eq hr.units) (pe_ix o_ix (kv 2) pe_int (fun _ _ => rfl)) pe_str (nomark _))
      (pss_one (ps_ret (pe_callTy c_tuple (by rfl) T.n_tuple (by decide +kernel) (pa_cons (pe_op o_add (pe_lst (pa_cons pe_str pa_nil)) (kcX (L2N.takes_of rfl rfl rfl rfl) C_numbers_in (hr.mono (by decide)) (pa_cons (pe_slice o_sl (kv 2) (po_some pe_int) po_none) (pa_cons pe_int (pa_cons (kv 1) pa_nil))))) pa_nil))))
      pss_nil)
      (pss_cons (ps_if (pt_cmpR (o_eq hr.units) (pe_ix o_ix (kv 2) pe_int (fun _ _ => rfl)) pe_str (nomark _))
      (pss_one (ps_ret (pe_callTy c_tuple (by rfl) T.n_tuple (by decide +kernel) (pa_cons (pe_op o_add (pe_lst (pa_cons pe_str pa_nil)) (kcX (L2N.takes_of rfl rfl rfl rfl) C_numbers_in (hr.mono (by decide)) (pa_cons (pe_slice o_sl (kv 2) (po_some pe_int) po_none) (pa_cons pe_int (pa_cons (kv 1) pa_nil))))) pa_nil))))
      pss_nil)
      (pss_one (k_raise (L2N.takes_of rfl rfl rfl rfl) (k_mk T.e_Malformed hr (pa_cons (kv 1) pa_nil)))))))), ?_⟩)
  · obtain ⟨l, i, rfl, _⟩ := h; rfl
  · obtain ⟨l, i, rfl, hl, hi, hb, h⟩ := h
    have hl1 := hl.1
    have hs := le_line (n := l.length) (by omega)
    walk_at "kk"
    refine split_v fun p hp w0 ws ew e0 e1 => ?_
    have hw : ∀ x ∈ ws, Line x := fun x hx => wds_line hl (by rw [ew]; exact List.mem_cons_of_mem _ hx)
    have hw0 : Line w0 := wds_line hl (by rw [ew]; exact List.mem_cons_self)
    have lw := wds_len l
    rw [ew, List.length_cons] at lw
    have hd0 : rdLit l = if fst l ∈ tTEXTS ∧ 1 < (wds l).length then rdText (fst l) l
      else if fst l = tINT then (numsIn (rst l) 1).map fun is => .str (S tINT) :: is.map .int
      else if fst l = tBLOCK then (numsIn (rst l) 4).map fun is => .str (S tBLOCK) :: is.map .int
      else none := rfl
    rw [e0, e1, ew] at hd0
    have f1 : KW.Fr [] H (upd H p (.lst (sV w0 :: ws.map sV))) := KW.Fr.new hp
    refine ⟨fun σ H' => ¬ (w0 ∈ tTEXTS ∧ 1 < (w0 :: ws).length) ∧ σ = [some (.str (S l)), some (.int i), some (.ref p)] ∧ H' = upd H p (.lst (sV w0 :: ws.map sV)), ?_, ?_⟩
    · walk_at "kk"
      refine ix_l upd_same (atI_nat (j := 0) rfl) ?_
      unfold sV
      walk_at "kk"
      refine in_g (xs := tTEXTS) (T.gt_TEXTS.sq _) ?_
      walk_at "kk"
      split
      · rename_i c
        refine len_l upd_same ?_
        walk_at "kk"
        split
        · rename_i c'
          rw [if_pos ⟨c, by simp only [List.length_cons]; omega⟩] at hd0
          refine ix_l upd_same (atI_nat (j := 0) rfl) ?_
          exact ⟨w0, l, i, rfl, hw0, hl, hi, fun z => (hb (hd0.trans z)).fr f1, fun x hx H' D f' hD hD2 => h x (hd0.trans hx) H' D (f1.trans f') (fr_no f1 hD) hD2⟩
        · rename_i c'
          intro z
          have := z.2
          omega
      · rename_i c
        exact fun z => c z.1
    rintro σ _ ⟨c1, rfl, rfl⟩
    rw [if_neg c1] at hd0
    have num (k : List Nat) (n : Nat) (hk : Line k) (hd : rdLit l = (numsIn ws n).map fun is => .str (S k) :: is.map .int) : ∀ q, upd H p (.lst (sV w0 :: ws.map sV)) q = none → uSl K (.ref p) (some 1) none (upd (upd H p (.lst (sV w0 :: ws.map sV))) q (.lst [sV k])) fun x H1 =>
        spNumsIn a.Malformed [x, .int n, .int i] H1 (fun y H2 => uAdd K (.ref q) y H2 fun x H1 => uTuple K [x] H1 Q) E := by
      intro q hq
      have hp' : upd (upd H p (.lst (sV w0 :: ws.map sV))) q (.lst [sV k]) p = some (.lst (sV w0 :: ws.map sV)) := (upd_ne (ne_of_none upd_same hq)).trans upd_same
      have f2 := f1.trans (KW.Fr.new (l := []) (o := .lst [sV k]) hq)
      refine usl_l hp' fun r hr' => ?_
      rw [show cutV (sV w0 :: ws.map sV) (some 1) none = ws.map sV from cutV_from _ 1]
      have f3 := f2.trans (KW.Fr.new (l := []) (o := .lst (ws.map sV)) hr')
      refine ⟨r, ws, n, i, rfl, upd_same, hw, by omega, hi, fun z => (hb (by rw [hd, z]; rfl)).fr f3, fun is e H' D f' hD hD2 => ?_⟩
      have e' : numsIn ws n = some is := e
      have l3 : is.length ≤ 100001 := by
        unfold numsIn at e'
        split at e'
        · cases e'
        · have := mapM_len e'; omega
      have hq3 := f' q _ (by simp) ((upd_ne (ne_of_none upd_same hr')).trans upd_same)
      refine ucat_l hq3 hD2 (le_line (by simp only [List.length_map, List.length_cons, List.length_nil]; omega)) fun u hu => ?_
      have f4 := f3.trans f'
      refine uTuple_e ▸ ⟨_, .inl ⟨.of upd_same, fun t ht => ?_⟩⟩
      have f5 := f4.trans (KW.Fr.new (l := []) (o := .lst ([sV k] ++ is.map V.int)) hu)
      exact h _ (by rw [hd, e]; rfl) _ t (f5.trans (KW.Fr.new ht)) (fr_no f5 ht) upd_same
    refine ⟨fun σ H' => w0 ≠ tINT ∧ σ = [some (.str (S l)), some (.int i), some (.ref p)] ∧ H' = upd H p (.lst (sV w0 :: ws.map sV)), ?_, ?_⟩
    · walk_at "kk"
      refine ix_l upd_same (atI_nat (j := 0) rfl) ?_
      unfold sV
      walk_at "kk"
      split
      · rename_i c
        rw [if_pos c] at hd0
        exact ⟨by decide, num tINT 1 ⟨by decide, by decide⟩ hd0⟩
      · rename_i c
        exact c
    rintro σ _ ⟨c2, rfl, rfl⟩
    rw [if_neg c2] at hd0
    walk_at "kk"
    refine ix_l upd_same (atI_nat (j := 0) rfl) ?_
    unfold sV
    walk_at "kk"
    split
    · rename_i c
      rw [if_pos c] at hd0
      exact ⟨by decide, num tBLOCK 4 ⟨by decide, by decide⟩ hd0⟩
    · rename_i c
      exact ⟨nat4300 hi, fun d hd => hb (by rw [hd0, if_neg c]) _ _ f1 hd⟩
theorem ok_read_instruction (T : Txt P w K mg a) : Cal P w K mg base 3 "read_instruction" (spRdLine rdIns a.Malformed) := by
  have C_numbers_in := ok_numbers_in (P := P) (w := w) (base := base) T
  refine T.d_read_instruction.ok sc_read_instruction (fun vs H Q E h => ?_) (fun f cdv A outer s H vs Q E hr h => ⟨_, (pss_cons (ps_set (i := 2) sc_read_instruction.nd rfl (Or.inl rfl) (pe_bm PySem.F.plainAttrs_str PySem.F.slot_str_split PySem.F.type_str_split mt_split (kv 0) (pa_cons pe_str pa_nil)))
      (C8.pss_cut (ps_if (pt_cmpR o_notin (pe_ix o_ix (kv 2) pe_int (fun _ _ => rfl)) (pe_glob (v := .ref a.t_OPS) (by rfl) T.gt_OPS.g rfl) (by rfl))
      (pss_one (k_raise (L2N.takes_of rfl rfl rfl rfl) (k_mk T.e_Malformed hr (pa_cons (kv 1) pa_nil))))
      pss_nil)
      (C8.pss_cut (ps_if (pt_cmpR o_in (pe_ix o_ix (kv 2) pe_int (fun _ _ => rfl)) (pe_glob (v := .ref a.t_PLAIN) (by rfl) T.gt_PLAIN.g rfl) (by rfl))
      (pss_cons (ps_expr (kcX (L2N.takes_of rfl rfl rfl rfl) C_numbers_in (hr.mono (by decide)) (pa_cons (pe_slice o_sl (kv 2) (po_some pe_int) po_none) (pa_cons pe_int (pa_cons (kv 1) pa_nil)))))
      (pss_one (ps_ret (pe_tup (pa_cons (pe_ix o_ix (kv 2) pe_int (fun _ _ => rfl)) (pa_cons pe_int pa_nil))))))
      pss_nil)
      (pss_cons (ps_set (i := 3) sc_read_instruction.nd rfl (Or.inl rfl) (pe_ix o_ix (kcX (L2N.takes_of rfl rfl rfl rfl) C_numbers_in (hr.mono (by decide)) (pa_cons (pe_slice o_sl (kv 2) (po_some pe_int) po_none) (pa_cons pe_int (pa_cons (kv 1) pa_nil)))) pe_int (fun _ _ => rfl)))
      (pss_cons (ps_if (PW.pt (pw_or (pt_cmpR o_lt (kv 3) pe_int (nomark _)) (pw_or1 (pt_cmpR o_gt (kv 3) (k_g T.g_MOST_ARG) (nomark _)))))
      (pss_one (k_raise (L2N.takes_of rfl rfl rfl rfl) (k_mk T.e_Malformed hr (pa_cons (kv 1) pa_nil))))
      pss_nil)
      (pss_one (ps_ret (pe_tup (pa_cons (pe_ix o_ix (kv 2) pe_int (fun _ _ => rfl)) (pa_cons (kv 3) pa_nil)))))))))), ?_⟩)
  · obtain ⟨l, i, rfl, _⟩ := h; rfl
  · obtain ⟨l, i, rfl, hl, hi, hb, h⟩ := h
    have hl1 := hl.1
    have hs := le_line (n := l.length) (by omega)
    walk_at "kk"
    refine split_v fun p hp w0 ws ew e0 e1 => ?_
    have hw : ∀ x ∈ ws, Line x := fun x hx => wds_line hl (by rw [ew]; exact List.mem_cons_of_mem _ hx)
    have lw := wds_len l
    rw [ew, List.length_cons] at lw
    have hd0 : rdIns l = if fst l ∈ tPLAIN then (if (rst l).length ≠ 0 then none else some [.str (S (fst l)), .int 0])
      else if fst l ∉ tOTHER then none
      else match numsIn (rst l) 1 with
        | some [n] => if n < 0 ∨ 65535 < n then none else some [.str (S (fst l)), .int n]
        | _ => none := rfl
    rw [e0, e1] at hd0
    have f1 : KW.Fr [] H (upd H p (.lst (sV w0 :: ws.map sV))) := KW.Fr.new hp
    have num (n : Nat) (Qs : VK) (h0 : numsIn ws n = none → Bad a.Malformed E H i) (h1 : ∀ is, numsIn ws n = some is → ∀ H' D, KW.Fr [] H H' → H' D = some (.lst (is.map V.int)) → H' p = some (.lst (sV w0 :: ws.map sV)) → Qs (.ref D) H') : ∀ r, upd H p (.lst (sV w0 :: ws.map sV)) r = none → spNumsIn a.Malformed [.ref r, .int n, .int i] (upd (upd H p (.lst (sV w0 :: ws.map sV))) r (.lst (cutV (sV w0 :: ws.map sV) (some 1) none))) Qs E := by
      intro r hr'
      rw [show cutV (sV w0 :: ws.map sV) (some 1) none = ws.map sV from cutV_from _ 1]
      have f3 := f1.trans (KW.Fr.new (l := []) (o := .lst (ws.map sV)) hr')
      refine ⟨r, ws, n, i, rfl, upd_same, hw, by omega, hi, fun z => (h0 z).fr f3, fun is e H' D f' hD hD2 => h1 is e H' D (f3.trans f') hD2 (f' p _ (by simp) ((upd_ne (ne_of_none upd_same hr')).trans upd_same))⟩
    refine ⟨fun σ H' => w0 ∈ tOPS ∧ σ = [some (.str (S l)), some (.int i), some (.ref p), none] ∧ H' = upd H p (.lst (sV w0 :: ws.map sV)), ?_, ?_⟩
    · walk_at "kk"
      refine ix_l upd_same (atI_nat (j := 0) rfl) ?_
      unfold sV
      walk_at "kk"
      refine nin_g (xs := tOPS) (T.gt_OPS.sq _) ?_
      walk_at "kk"
      split
      · rename_i c
        refine ⟨nat4300 hi, fun d hd => hb ?_ _ _ f1 hd⟩
        rw [hd0, if_neg (fun z => c (mem_ops.mpr (.inl z))), if_pos (fun z => c (mem_ops.mpr (.inr z)))]
      · rename_i c
        exact Classical.not_not.mp c
    rintro σ _ ⟨c1, rfl, rfl⟩
    refine ⟨fun σ H' => w0 ∉ tPLAIN ∧ σ = [some (.str (S l)), some (.int i), some (.ref p), none] ∧ H' = upd H p (.lst (sV w0 :: ws.map sV)), ?_, ?_⟩
    · walk_at "kk"
      refine ix_l upd_same (atI_nat (j := 0) rfl) ?_
      unfold sV
      walk_at "kk"
      refine in_g (xs := tPLAIN) (T.gt_PLAIN.sq _) ?_
      walk_at "kk"
      split
      · rename_i c
        rw [if_pos c] at hd0
        refine usl_l upd_same (num 0 _ (fun z => hb ?_) fun is e H' D f' hD2 hp' => ?_)
        · rw [hd0]
          unfold numsIn at z
          split at z
          · rename_i z'; rw [if_pos z']
          · rename_i z'
            have : ws = [] := List.length_eq_zero_iff.mp (Classical.not_not.mp z')
            rw [this] at z; cases z
        · refine ix_l hp' (atI_nat (j := 0) rfl) ?_
          refine ⟨by decide, fun q hq => h _ ?_ _ q (f'.trans (KW.Fr.new hq)) (fr_no f' hq) upd_same⟩
          rw [hd0, if_neg]
          · rfl
          · intro z
            unfold numsIn at e
            rw [if_pos z] at e; cases e
      · rename_i c
        exact c
    rintro σ _ ⟨c2, rfl, rfl⟩
    have c3 : w0 ∈ tOTHER := (mem_ops.mp c1).resolve_left c2
    rw [if_neg c2, if_neg (fun z => z c3)] at hd0
    walk_at "kk"
    refine num 1 _ (fun z => hb (by rw [hd0, z])) fun is e H' D f' hD2 hp' => ?_
    obtain ⟨n, rfl⟩ : ∃ n, is = [n] := by
      unfold numsIn at e
      split at e
      · cases e
      · rename_i z'
        have := mapM_len e
        match is, this with
        | [n], _ => exact ⟨n, rfl⟩
        | [], t => simp only [List.length_nil] at t; omega
        | _ :: _ :: _, t => simp only [List.length_cons] at t; omega
    rw [e] at hd0
    dsimp only at hd0
    refine ix_l hD2 (atI_nat (j := 0) rfl) ?_
    walk_at "kk"
    split
    · rename_i c
      exact ⟨nat4300 hi, fun d hd => hb (by rw [hd0, if_pos (.inl c)]) _ _ f' hd⟩
    rename_i c4
    split
    · rename_i c
      exact ⟨nat4300 hi, fun d hd => hb (by rw [hd0, if_pos (.inr c)]) _ _ f' hd⟩
    rename_i c5
    refine ix_l hp' (atI_nat (j := 0) rfl) ?_
    exact ⟨by decide, fun q hq => h _ (by rw [hd0, if_neg (fun z => z.elim c4 c5)]; rfl) _ q (f'.trans (KW.Fr.new hq)) (fr_no f' hq) upd_same⟩
end
end K25

set_option Elab.async false
set_option linter.all false
set_option maxRecDepth 100000
set_option maxHeartbeats 4000000
namespace K25
open PySem PySem.Spec PyProof.Rows L2 KW LS
local macro_rules | `(tactic| walk_at "kw") => `(tactic| simp only [tSeq, tNext, tIfS, tTest, tAnd, tOr, tNot, tAndV, tOrV, tNotV, tIf, tChain, tOp, tUn, tC, tAsg, gName, gSub, gCons, gNil, tRet, tRetN, tDrop, tCons, tNil, tCB, tAug, tSl, tPart, tNoPart, tLst, tTup, tBM, tBM0, uTest, uFor, iRng1, iRng2, iList, uCall, List.map_cons, List.map_nil, List.length_cons, List.length_nil, List.cons_append, List.nil_append, List.replicate, Nat.zero_add, Nat.reduceAdd, Nat.reduceSub, List.getElem?_cons_zero, List.getElem?_cons_succ, List.set_cons_zero, List.set_cons_succ, V.bl.injEq, V.int.injEq, V.str.injEq, V.ref.injEq, V.ty.injEq, List.cons.injEq, and_true, true_and, exists_eq_left', exists_eq_right, exists_eq_left, exists_and_left, exists_and_right, decide_eq_true_eq, Bool.not_eq_true', decide_eq_false_iff_not, Bool.false_eq_true, if_true, if_false, ite_true, ite_false, Bool.not_true, Bool.not_false, reduceCtorEq, decide_true, decide_false, Bool.not_not, isK_int_int, isK_int_bool, isK_int_str, isK_int_list, isK_int_tuple, isK_bool_int, isK_bool_bool, isK_bool_str, isK_str_str, isK_str_int, isK_str_bool, isK_str_tuple, isK_str_list, isK_list_list, isK_list_tuple, isK_tuple_tuple, isK_tuple_list, isOk_int_int, isOk_int_bool, isOk_int_str, isOk_int_list, isOk_int_tuple, isOk_bool_int, isOk_bool_bool, isOk_bool_str, isOk_str_str, isOk_str_int, isOk_str_bool, isOk_str_tuple, isOk_str_list, isOk_list_list, isOk_list_tuple, isOk_tuple_tuple, isOk_tuple_list, isK_dict_dict, isOk_dict_dict, isK_none_int, isK_none_bool, isOk_none_int, isOk_none_bool, tyV, S_inj, S_cat, L2.start, Nat.reduceSub, List.replicate_succ, List.replicate_zero, and_assoc, List.append_nil, Nat.reduceEqDiff, Option.some.injEq, Int.natCast_inj, upd_upd, Int.reducePow, Int.reduceToNat, Int.reduceMul, Int.reduceAdd, Int.reduceSub, Int.reduceLT, Int.reduceLE, Int.reduceNeg, Int.reduceDiv, Int.reduceMod, Nat.reducePow, Nat.reduceMul, S_len, List.length_append, List.length_map, List.length_range, not_true_eq_false, not_false_eq_true, ne_eq, uAdd_e1, uAdd_e2, uSub_e1, uMod_e1, uDiv_e1, uPow_e1, uShl_e1, uNeg_e1, uIAdd_e1, uIAdd_e2, uIAdd_e3, uISub_e1, uLt_e1, uLt_e2, uLe_e1, uGt_e1, uGe_e1, uEq_e1, uEq_e2, uEq_e3, uEq_e4, uEq_e5, uEq_e6, uEq_e7, uEq_e8, uEq_e9, uEq_e10, uEq_e11, uNe_e1, uNe_e2, uNe_e3, uNe_e4, uNe_e5, uNe_e6, uNe_e7, uNe_e8, uNe_e9, uNe_e10, uNe_e11, uIs_e1, uIs_e2, uIs_e3, uIs_e4, uIs_e5, uIs_e6, uIs_e7, uNotIs_e1, uNotIs_e2, uNotIs_e3, uNotIs_e4, uNotIs_e5, uNotIs_e6, uIn_e1, uIn_e2, uIn_e3, uIn_e4, uNotIn_e1, uNotIn_e2, uNotIn_e3, uNotIn_e4, uTru_e1, uTru_e2, uTru_e3, uTru_e4, uIx_e2, uSl_e2, uLen_e1, uAbs_e1, uInt_e1, uInt_e2, uMin2_e1, uIsi_e1, uIsi_e2, uIsi_e3, uIsi_e4, cx_K, uVar_0, uVar_n, uFld, uSFld, uMet, uMake, tDG, tDI, tDNI, tDP, tDD, uMk, uRaise, uDelSl, tCallS, L2.WE, uStr_e1, uStr_e2, uMul2_e1, uMul2_e2, okS_i, okS_s, List.zip_cons_cons, List.zip_nil_left, List.drop_zero, List.drop_succ_cons, List.drop_nil, putF_nil, putF_cons, eq_self, tDNewK, tB, Option.isSome_some, Option.isSome_none, false_and, false_or, or_false, exists_false, Int.zero_add, uLc, wipe, tYes, isEmpty_app, List.isEmpty_cons, List.isEmpty_nil, List.isEmpty_map, Bool.and_false, Bool.and_true, iRev, K25.lit_0, K25.lit_1, K25.lit_2, K25.lit_3, K25.lit_4, K25.lit_5, K25.lit_6, K25.lit_7, K25.lit_8, K25.lit_9, K25.lit_10, K25.lit_11, K25.lit_12, K25.lit_13, K25.lit_14, K25.lit_15, K25.lit_16, K25.lit_17, K25.lit_18, K25.lit_19, K25.lit_20, K25.lit_21, K25.lit_22, K25.lit_23, K25.lit_25, K25.lit_26, K25.lit_27, K25.lit_28, K25.lit_29, K25.lit_30, K25.lit_32, K25.lit_33, K25.lit_34, K25.lit_35, K25.lit_36, K25.lit_37, K25.lit_38, K25.lit_39, K25.lit_40, K25.lit_41, K25.lit_42, K25.lit_43, K25.lit_44, K25.lit_45, K25.lit_46, K25.lit_47, K25.lit_48, K25.lit_49, K25.lit_50, K25.lit_51, K25.fe_selector_argc, K25.fe_selector_locals, K25.fe_selector_stack, K25.fe_selector_code, K25.fe_selector_literals, K25.fe_argc_selector, K25.fe_argc_locals, K25.fe_argc_stack, K25.fe_argc_code, K25.fe_argc_literals, K25.fe_locals_selector, K25.fe_locals_argc, K25.fe_locals_stack, K25.fe_locals_code, K25.fe_locals_literals, K25.fe_stack_selector, K25.fe_stack_argc, K25.fe_stack_locals, K25.fe_stack_code, K25.fe_stack_literals, K25.fe_code_selector, K25.fe_code_argc, K25.fe_code_locals, K25.fe_code_stack, K25.fe_code_literals, K25.fe_literals_selector, K25.fe_literals_argc, K25.fe_literals_locals, K25.fe_literals_stack, K25.fe_literals_code, K25.fl_code_0, K25.lf_code_0, K25.fl_code_1, K25.lf_code_1, K25.fl_code_2, K25.lf_code_2, K25.fl_code_3, K25.lf_code_3, K25.fl_code_4, K25.lf_code_4, K25.fl_code_5, K25.lf_code_5, K25.fl_code_6, K25.lf_code_6, K25.fl_code_7, K25.lf_code_7, K25.fl_code_8, K25.lf_code_8, K25.fl_code_9, K25.lf_code_9, K25.fl_code_10, K25.lf_code_10, K25.fl_code_11, K25.lf_code_11, K25.fl_code_12, K25.lf_code_12, K25.fl_code_13, K25.lf_code_13, K25.fl_code_14, K25.lf_code_14, K25.fl_code_15, K25.lf_code_15, K25.fl_code_16, K25.lf_code_16, K25.fl_code_17, K25.lf_code_17, K25.fl_code_18, K25.lf_code_18, K25.fl_code_19, K25.lf_code_19, K25.fl_code_20, K25.lf_code_20, K25.fl_code_21, K25.lf_code_21, K25.fl_code_22, K25.lf_code_22, K25.fl_code_23, K25.lf_code_23, K25.fl_code_24, K25.lf_code_24, K25.fl_code_25, K25.lf_code_25, K25.fl_code_26, K25.lf_code_26, K25.fl_code_27, K25.lf_code_27, K25.fl_code_28, K25.lf_code_28, K25.fl_code_29, K25.lf_code_29, K25.fl_code_30, K25.lf_code_30, K25.fl_code_32, K25.lf_code_32, K25.fl_code_33, K25.lf_code_33, K25.fl_code_34, K25.lf_code_34, K25.fl_code_35, K25.lf_code_35, K25.fl_code_36, K25.lf_code_36, K25.fl_code_37, K25.lf_code_37, K25.fl_code_38, K25.lf_code_38, K25.fl_code_39, K25.lf_code_39, K25.fl_code_40, K25.lf_code_40, K25.fl_code_41, K25.lf_code_41, K25.fl_code_42, K25.lf_code_42, K25.fl_code_43, K25.lf_code_43, K25.fl_code_44, K25.lf_code_44, K25.fl_code_45, K25.lf_code_45, K25.fl_code_46, K25.lf_code_46, K25.fl_code_47, K25.lf_code_47, K25.fl_code_48, K25.lf_code_48, K25.fl_code_49, K25.lf_code_49, K25.fl_code_50, K25.lf_code_50, K25.fl_code_51, K25.lf_code_51, K25.fl_selector_0, K25.lf_selector_0, K25.fl_selector_1, K25.lf_selector_1, K25.fl_selector_2, K25.lf_selector_2, K25.fl_selector_3, K25.lf_selector_3, K25.fl_selector_4, K25.lf_selector_4, K25.fl_selector_5, K25.lf_selector_5, K25.fl_selector_6, K25.lf_selector_6, K25.fl_selector_7, K25.lf_selector_7, K25.fl_selector_8, K25.lf_selector_8, K25.fl_selector_9, K25.lf_selector_9, K25.fl_selector_10, K25.lf_selector_10, K25.fl_selector_11, K25.lf_selector_11, K25.fl_selector_12, K25.lf_selector_12, K25.fl_selector_13, K25.lf_selector_13, K25.fl_selector_14, K25.lf_selector_14, K25.fl_selector_15, K25.lf_selector_15, K25.fl_selector_16, K25.lf_selector_16, K25.fl_selector_17, K25.lf_selector_17, K25.fl_selector_18, K25.lf_selector_18, K25.fl_selector_19, K25.lf_selector_19, K25.fl_selector_20, K25.lf_selector_20, K25.fl_selector_21, K25.lf_selector_21, K25.fl_selector_22, K25.lf_selector_22, K25.fl_selector_23, K25.lf_selector_23, K25.fl_selector_25, K25.lf_selector_25, K25.fl_selector_26, K25.lf_selector_26, K25.fl_selector_27, K25.lf_selector_27, K25.fl_selector_28, K25.lf_selector_28, K25.fl_selector_29, K25.lf_selector_29, K25.fl_selector_30, K25.lf_selector_30, K25.fl_selector_31, K25.lf_selector_31, K25.fl_selector_32, K25.lf_selector_32, K25.fl_selector_33, K25.lf_selector_33, K25.fl_selector_34, K25.lf_selector_34, K25.fl_selector_35, K25.lf_selector_35, K25.fl_selector_36, K25.lf_selector_36, K25.fl_selector_37, K25.lf_selector_37, K25.fl_selector_38, K25.lf_selector_38, K25.fl_selector_39, K25.lf_selector_39, K25.fl_selector_40, K25.lf_selector_40, K25.fl_selector_41, K25.lf_selector_41, K25.fl_selector_42, K25.lf_selector_42, K25.fl_selector_43, K25.lf_selector_43, K25.fl_selector_44, K25.lf_selector_44, K25.fl_selector_45, K25.lf_selector_45, K25.fl_selector_46, K25.lf_selector_46, K25.fl_selector_47, K25.lf_selector_47, K25.fl_selector_48, K25.lf_selector_48, K25.fl_selector_49, K25.lf_selector_49, K25.fl_selector_50, K25.lf_selector_50, K25.fl_selector_51, K25.lf_selector_51, uAll_e, uTuple_e, uFm_e1, uFm_e2, uIntS_e1, uIntS_e2, uIntS_e3, uEqO_e, tFm, tJs, iStr, S_e, itxt_S, K25.N_Draft_init, K25.N_Draft_parts, K25.N_Draft___eq__, K25.N_escaped, K25.N_joined, K25.N_literal_line, K25.N_list_draft, K25.N_number_in, K25.N_numbers_in, K25.N_unescaped, K25.N_read_head, K25.N_read_text, K25.N_read_literal, K25.N_read_instruction, K25.N_read_listing, K25.N__law_start, K25.N__law_pick, K25.N__law_text, K25.N__law_count, K25.N__law_literal, K25.N__law_plain, K25.N__law_instruction, K25.N__law_written, K25.N__law_lines, K25.N__law_draft, K25.N__law_parts, K25.N__law_changed, K25.N__law_others, K25.N_law])
local macro_rules | `(tactic| walk_at "nn") => `(tactic| first | assumption | exact ne_un (by assumption) | exact ne_un (ne_un (by assumption)) | exact ne_un (ne_un (ne_un (by assumption))) | exact ne_un (ne_un (ne_un (ne_un (by assumption)))))
local macro_rules | `(tactic| walk_at "ne") => `(tactic| first | assumption | (apply Ne.symm; assumption) | exact ne_ud (by assumption) | exact Ne.symm (ne_ud (by assumption)) | exact ne_ud (ne_un (by assumption)) | exact Ne.symm (ne_ud (ne_un (by assumption))) | exact ne_ud (ne_un (ne_un (by assumption))) | exact Ne.symm (ne_ud (ne_un (ne_un (by assumption)))) | exact ne_m (by assumption) (by assumption) | exact Ne.symm (ne_m (by assumption) (by assumption)) | exact ne_n (by assumption) (by walk_at "nn") | exact Ne.symm (ne_n (by assumption) (by walk_at "nn")))
local macro_rules | `(tactic| walk_at "hp") => `(tactic| first | assumption | exact upd_same | (refine Eq.trans (upd_ne ?_) ?_; (focus walk_at "ne"); walk_at "hp"))
local macro_rules | `(tactic| walk_at "sc") => `(tactic| first | (with_reducible assumption) | omega | exact le_line (by (try simp only [List.length_map, List.length_append, List.length_cons, List.length_nil, S_len]); omega) | exact div_s (by omega) | exact mul_r (by omega) | exact mul_l (by omega) | exact pow_s (by omega) | exact mul2_r (by omega) | exact mul2_l (by omega) | exact small4300 (by omega) | exact lt_line (by (try simp only [List.length_map, List.length_append, List.length_cons, List.length_nil, S_len]); omega) | exact ⟨_, by assumption⟩ | (guard_target =~ Exists _; exact ⟨_, .of (by walk_at "hp")⟩) | (guard_target =~ _ ∨ _; exact .inl ⟨_, by assumption⟩) | (guard_target =~ _ ∨ _; exact .inl ⟨_, .of (by walk_at "hp")⟩) | (guard_target =~ _ ∨ _; exact .inr (.inr (.inl ⟨rfl, .inl ⟨_, by walk_at "hp"⟩⟩))) | decide)
local macro_rules | `(tactic| walk_at "kr") => `(tactic| first | (guard_target =~ _ ∧ _; first | refine And.intro (by walk_at "sc") ?_) | (guard_target =~ KW.uIx _ _ _ _ _; first | refine ix_l (by walk_at "hp") (by first | walk_at "hv" | rfl) ?_ | refine ix_t (by walk_at "hp") (by first | walk_at "hv" | rfl) ?_ | refine ix_sl (by assumption) (by walk_at "hv") ?_) | (guard_target =~ KW.uLen _ _ _ _; first | refine len_l (by walk_at "hp") ?_ | refine len_t (by walk_at "hp") ?_ | refine len_sl (by assumption) ?_) | (guard_target =~ KW.uSet _ _ _ _ _; first | refine set_l (by walk_at "hp") (by first | walk_at "hv" | rfl) ?_) | (guard_target =~ L2.gTup _ _ _ _ _ _ _; first | refine tup_l (by walk_at "hp") (by rfl) ?_) | (guard_target =~ KW.uGet _ _ _ _ _; first | refine get_l (by walk_at "hp") (by walk_at "hc") (by decide) (by rfl) ?_) | (guard_target =~ KW.uPut _ _ _ _ _ _; first | refine put_l (by walk_at "hp") (by walk_at "hc") (by decide) (by simp) ?_) | (guard_target =~ KW.uMet.uMt _ _ _ _ _ _ _ _ _; first | refine met_l (by walk_at "hp") (by rfl) ?_) | (guard_target =~ KW.uMet.uMt _ _ _ _ _ _ _ _ _; first | refine ST.met_s (by assumption) (by decide) ?_) | (guard_target =~ ST.spExists _ _ _ _ _; first | refine ST.exists_s (by assumption) ?_) | (guard_target =~ ST.spUsed _ _ _ _ _; first | refine ST.used_s (by assumption) ?_) | (guard_target =~ KW.uGet _ _ _ _ _; first | refine ST.words_s (by assumption) (by walk_at "hc") (by decide) ?_) | (guard_target =~ KW.uDIn _ _ _ _; first | refine din_i (by walk_at "hp") ?_ | refine din_s (by walk_at "hp") ?_) | (guard_target =~ KW.uDGet _ _ _ _; first | refine dget_i (by walk_at "hp") (by walk_at "hv") ?_ | refine dget_s (by walk_at "hp") (by walk_at "hv") ?_) | (guard_target =~ KW.uDPut _ _ _ _ _; first | refine dput_i (by walk_at "hp") (by walk_at "sc") ?_ | refine dput_s (by walk_at "hp") (by walk_at "sc") ?_) | (guard_target =~ KW.uDDel _ _ _ _; first | refine ddel_i (by walk_at "hp") (by walk_at "hv") ?_ | refine ddel_s (by walk_at "hp") (by walk_at "hv") ?_) | (guard_target =~ KW.uMul2 _ _ _ _; first | refine rep_l (by walk_at "hp") (by walk_at "sc") (by walk_at "sc") (by walk_at "sc") ?_) | (guard_target =~ L2.rAppend _ _ _ _; first | refine app_l (by walk_at "hp") (by walk_at "sc") ?_) | (guard_target =~ L2.rPop _ _ _ _; first | refine pop_l (by walk_at "hp") (by walk_at "hv") ?_ | refine pops_l (by walk_at "hp") ?_) | (guard_target =~ L2.rClear _ _ _ _; first | refine clr_l (by walk_at "hp") ?_) | (guard_target =~ L2.rReverse _ _ _ _; first | refine rev_l (by walk_at "hp") ?_) | (guard_target =~ L2.rExtend _ _ _ _; first | refine ext_l (by walk_at "hp") (by walk_at "hp") (by walk_at "sc") ?_) | (guard_target =~ KW.uAdd _ _ _ _ _; first | refine ucat_l (by walk_at "hp") (by walk_at "hp") (by walk_at "sc") ?_) | (guard_target =~ KW.uSl _ _ _ _ _ _; first | refine usl_l (by walk_at "hp") ?_) | (guard_target =~ KW.uTru _ _ _ _; first | refine tru_l (by walk_at "hp") ?_ | refine tru_t (by walk_at "hp") ?_ | refine tru_d (by walk_at "hp") ?_ | refine tru_sl (by assumption) ?_) | (guard_target =~ L2.rIndex _ _ _ _ _; first | refine idx_s (by walk_at "hp") (by assumption) ?_ | refine idx_i (by walk_at "hp") (by assumption) ?_) | (guard_target =~ L2.rIn _ _ _ _ _ _; first | refine in_s (by walk_at "hp") ?_ | refine nin_s (by walk_at "hp") ?_ | refine in_i (by walk_at "hp") ?_ | refine nin_i (by walk_at "hp") ?_) | (guard_target =~ KW.uIsi _ _ _ _; first | refine isi_l (by walk_at "hp") (by decide +kernel) ?_ | refine isi_t (by walk_at "hp") (by decide +kernel) ?_ | refine isi_d (by walk_at "hp") (by decide +kernel) ?_) | (guard_target =~ KW.uList _ _ _ _; first | refine list_l (by walk_at "hp") ?_ | refine list_t (by walk_at "hp") ?_ | refine list_sl (by assumption) ?_) | (guard_target =~ KW.uDict _ _ _; first | refine dict_d (by walk_at "hp") ?_) | (guard_target =~ KW.uSorted _ _ _ _; first | refine srt_l (by walk_at "hp") ?_) | (guard_target =~ KW.uSum _ _ _ _; first | refine sum_l (by walk_at "hp") ?_) | (guard_target =~ KW.uDelC _ _ _ _; first | refine dels_l (by walk_at "hp") (by walk_at "sc") ?_) | (guard_target =~ L2.wAs _ _ _ _ _ _ _ _ _ _; first | refine as_yes (by walk_at "hx") ?_ | refine as_no (by walk_at "hx") ?_) | (guard_target =~ KW.uEf _ _ _ _ _ _ _ _ _; first | refine ef_l (by walk_at "he") (by decide) (by rfl) (by walk_at "hp") (by rfl) ?_) | (guard_target =~ KW.uIsE _ _ _ _ _ _ _; first | refine isE_r (by walk_at "he") (by walk_at "hp") (by walk_at "hk") ?_ | refine isE_t (by walk_at "he") (by walk_at "hp") (by walk_at "hk") ?_))
local macro_rules | `(tactic| walk_at "hv") => `(tactic| first | assumption)
local macro_rules | `(tactic| walk_at "kk") => `(tactic| repeat (first | walk_at "kw" | walk_at "kr"))
local macro_rules | `(tactic| walk_at "hc") => `(tactic| first | exact K25.Txt.c_Draft (by assumption))
local macro_rules | `(tactic| walk_at "he") => `(tactic| first | exact K25.Txt.e_Malformed (by assumption))
local macro_rules | `(tactic| walk_at "hx") => `(tactic| first | fail)
local macro_rules | `(tactic| walk_at "hk") => `(tactic| first | fail)

section
variable {P : Program} {w : World} {K : Frag} {mg : Str → Option Value} {base : Heap} {a : Ads}
theorem ok_Draft_init (T : Txt P w K mg a) : CalI P w K mg base 1 "Draft" a.Draft [] (spDraftI a.Draft) := by
  refine T.ini_Draft.ok T.c_Draft.gC sc_Draft_init (fun vs H Q E h => ?_) (fun f cdv A outer s H vs Q E hr h => ⟨_, (pss_cons (k_sfld (kv 0) (kv 1) rfl)
      (pss_cons (k_sfld (kv 0) (kv 2) rfl)
      (pss_cons (k_sfld (kv 0) (kv 3) rfl)
      (pss_cons (k_sfld (kv 0) (kv 4) rfl)
      (pss_cons (k_sfld (kv 0) (pe_callTy c_list (by rfl) T.n_list (by decide +kernel) (pa_cons (kv 5) pa_nil)) rfl)
      (pss_one (k_sfld (kv 0) (pe_callTy c_list (by rfl) T.n_list (by decide +kernel) (pa_cons (kv 6) pa_nil)) rfl))))))), ?_⟩)
  · obtain ⟨x, dx, pc, pl, sel, n1, n2, n3, code, lits, rfl, _⟩ := h; rfl
  · obtain ⟨x, dx, pc, pl, sel, n1, n2, n3, code, lits, rfl, hx, ⟨ac, c1, c2, c3⟩, ⟨al, l1, l2, l3⟩, h⟩ := h
    have xc : pc ≠ x := ne_of c1 hx (by intro z; cases z)
    have xl : pl ≠ x := ne_of l1 hx (by intro z; cases z)
    walk_at "kk"
    intro q hq
    have xq : x ≠ q := ne_of_none upd_same hq
    have lq : pl ≠ q := ne_of_none ((upd_ne xl).trans l1) hq
    have cq : pc ≠ q := ne_of_none ((upd_ne xc).trans c1) hq
    walk_at "kk"
    intro l hl'
    have xl' : x ≠ l := ne_of_none upd_same hl'
    have ql : q ≠ l := ne_of_none ((upd_ne (Ne.symm xq)).trans upd_same) hl'
    walk_at "kk"
    have nt : ∀ {b : Addr} {z : List V}, H b = some (.tup z) → b ≠ x := fun e z => by rw [z, hx] at e; cases e
    have F1 := (KW.Fr.refl H).trans (KW.Fr.upd (l := [x]) (a := x) (H := H) (o := .ins a.Draft dx [("selector", .str (S sel)), ("argc", .int n1), ("locals", .int n2), ("stack", .int n3)]) (by simp))
    have F2 := F1.trans (KW.Fr.new (l := [x]) (o := .lst (ac.map .ref)) hq)
    have F3 := F2.trans (KW.Fr.upd (l := [x]) (a := x) (o := .ins a.Draft dx [("selector", .str (S sel)), ("argc", .int n1), ("locals", .int n2), ("stack", .int n3), ("code", .ref q)]) (by simp))
    have F4 := F3.trans (KW.Fr.new (l := [x]) (o := .lst (al.map .ref)) hl')
    have F5 := F4.trans (KW.Fr.upd (l := [x]) (a := x) (o := .ins a.Draft dx [("selector", .str (S sel)), ("argc", .int n1), ("locals", .int n2), ("stack", .int n3), ("code", .ref q), ("literals", .ref l)]) (by simp))
    refine h _ F5 ⟨dx, q, l, n1, n2, n3, rfl, upd_same, ⟨ac, ?_, c2, fun i b y e1 e2 => F5 _ _ (by simpa using nt (c3 i b y e1 e2)) (c3 i b y e1 e2)⟩, ⟨al, ?_, l2, fun i b y e1 e2 => F5 _ _ (by simpa using nt (l3 i b y e1 e2)) (l3 i b y e1 e2)⟩⟩
    · rw [upd_ne (Ne.symm xq), upd_ne ql, upd_ne (Ne.symm xq)]; exact upd_same
    · rw [upd_ne (Ne.symm xl')]; exact upd_same
theorem ok_read_listing (T : Txt P w K mg a) : Cal P w K mg base 4 "read_listing" (spReadL a.Malformed a.Draft) := by
  have I_Draft := ok_Draft_init (P := P) (w := w) (base := base) T
  have C_read_head := ok_read_head (P := P) (w := w) (base := base) T
  have C_read_literal := ok_read_literal (P := P) (w := w) (base := base) T
  have C_read_instruction := ok_read_instruction (P := P) (w := w) (base := base) T
  refine T.d_read_listing.ok sc_read_listing (fun vs H Q E h => ?_) (fun f cdv A outer s H vs Q E hr h => ⟨_, (pss_cons (ps_if (pt_cmpR (o_eq hr.units) (pe_callB c_len (by rfl) T.n_len (by decide +kernel) (pa_cons (kv 0) pa_nil)) pe_int (nomark _))
      (pss_one (k_raise (L2N.takes_of rfl rfl rfl rfl) (k_mk T.e_Malformed hr (pa_cons pe_int pa_nil))))
      pss_nil)
      (pss_cons (ps_asg (kcX (L2N.takes_of rfl rfl rfl rfl) C_read_head (hr.mono (by decide)) (pa_cons (pe_ix o_ix (kv 0) pe_int (fun _ _ => rfl)) pa_nil)) (pg_unl (n := 4) rfl (pgs_cons (pg_name (i := 1) sc_read_listing.nd rfl (Or.inl rfl)) (pgs_cons (pg_name (i := 2) sc_read_listing.nd rfl (Or.inl rfl)) (pgs_cons (pg_name (i := 3) sc_read_listing.nd rfl (Or.inl rfl)) (pgs_cons (pg_name (i := 4) sc_read_listing.nd rfl (Or.inl rfl)) pgs_nil))))))
      (pss_cons (ps_set (i := 5) sc_read_listing.nd rfl (Or.inl rfl) (pe_lst pa_nil))
      (pss_cons (ps_set (i := 6) sc_read_listing.nd rfl (Or.inl rfl) pe_int)
      (C8.pss_cut (k_while (passes_of rfl) (PW.pt (pw_and (pt_cmpR o_lt (kv 6) (pe_callB c_len (by rfl) T.n_len (by decide +kernel) (pa_cons (kv 0) pa_nil)) (nomark _)) (pw_and1 (pt_cmpR (o_ne hr.units) (pe_ix o_ix (kv 0) (kv 6) (fun _ _ => rfl)) pe_str (nomark _)))))
      (pss_cons (ps_expr (pe_bm PySem.F.plainAttrs_list PySem.F.slot_list_append PySem.F.type_list_append mt_append (kv 5) (pa_cons (kcX (L2N.takes_of rfl rfl rfl rfl) C_read_literal (hr.mono (by decide)) (pa_cons (pe_ix o_ix (kv 0) (kv 6) (fun _ _ => rfl)) (pa_cons (kv 6) pa_nil))) pa_nil)))
      (pss_one (ps_aug (i := 6) sc_read_listing.nd rfl (Or.inl rfl) pe_int o_iadd))))
      (pss_cons (ps_if (pt_cmpR (o_eq hr.units) (kv 6) (pe_callB c_len (by rfl) T.n_len (by decide +kernel) (pa_cons (kv 0) pa_nil)) (nomark _))
      (pss_one (k_raise (L2N.takes_of rfl rfl rfl rfl) (k_mk T.e_Malformed hr (pa_cons (kv 6) pa_nil))))
      pss_nil)
      (pss_cons (k_setLcE (i := 7) (own := [("k", 8)]) (g := gName 8) (L2N.takes_of rfl rfl rfl rfl) rfl rfl (by rfl) sc_read_listing.nd rfl rfl (sw_true rfl rfl rfl (by decide +kernel)) (pi_range2 (by rfl) T.n_range (pa_cons (pe_op o_add (kv 6) pe_int) (pa_cons (pe_callB c_len (by rfl) T.n_len (by decide +kernel) (pa_cons (kv 0) pa_nil)) pa_nil))) (blkOk_by (own := [("k", 8)]) (N := ["lines", "selector", "argc", "count", "stack", "literals", "at", "code", "k"]) (sc := defScope s_read_listing) (by decide +kernel)) (fun _ _ _ _ _ => pg_name (i := 8) sc_read_listing.nd rfl (Or.inl rfl)) (fun _ _ _ _ _ => pts_nil) (fun _ _ _ _ _ => by exact (kcB C_read_instruction (hr.mono (by decide)) (pa_cons (pe_ix (o_ixK K) (kv 0) (kv 8) (fun _ _ => rfl)) (pa_cons (kv 8) pa_nil)))))
      (pss_one (ps_ret (kmk 0 I_Draft (hr.mono (by decide)) (pa_cons (kv 1) (pa_cons (kv 2) (pa_cons (kv 3) (pa_cons (kv 4) (pa_cons (kv 7) (pa_cons (kv 5) pa_nil)))))))))))))))), ?_⟩)
  · obtain ⟨p, ls, rfl, _⟩ := h; rfl
  · obtain ⟨p, ls, rfl, hp, hl, hn, hb, h⟩ := h
    walk_at "kk"
    cases ls with
    | nil =>
      rw [if_pos (show ((([] : List (List Nat)).length : Nat) : Int) = 0 from rfl)]
      exact ⟨nat4300 (i := 0) (Nat.zero_le _), fun d hd => (hb 0 rfl).here hd⟩
    | cons l0 r =>
      rw [if_neg (by simp; omega)]
      refine ix_l hp (atI_nat (j := 0) rfl) ?_
      have e0 : rdAll (l0 :: r) = match rdHead l0 with
        | none => .inl 0
        | some (b, is) => match goL 1 [] r with
          | .inl e => .inl e
          | .inr (c, t) => .inr ⟨b, is, c, t⟩ := rfl
      refine ⟨l0, rfl, hl l0 List.mem_cons_self, fun z => hb 0 (by rw [e0, z]), fun b is hbi H1 D1 f1 hD1 hD2 => ?_⟩
      rw [hbi] at e0
      dsimp only at e0
      obtain ⟨n1, n2, n3, rfl⟩ : ∃ n1 n2 n3, is = [n1, n2, n3] := by
        have : is.length = 3 := by
          unfold rdHead at hbi
          split at hbi
          · cases hbi
          · cases e : numsIn (rst l0).tail 3 with
            | none => rw [e] at hbi; cases hbi
            | some js =>
              rw [e] at hbi
              cases hbi
              unfold numsIn at e
              split at e
              · cases e
              · rename_i z
                rw [mapM_len e]
                exact Classical.not_not.mp z
        match is, this with
        | [x, y, z], _ => exact ⟨x, y, z, rfl⟩
      refine unl_l hD2 rfl ?_
      walk_at "kk"
      intro lp hlp
      have hlp0 : H lp = none := fr_no f1 hlp
      have hlen : (l0 :: r).length = r.length + 1 := rfl
      obtain ⟨ls, els⟩ : ∃ ls, ls = l0 :: r := ⟨_, rfl⟩
      rw [← els] at hp hl hn hb h e0
      have dr (t : Nat) (ht : 1 ≤ t) : ls.drop t = r.drop (t - 1) := by
        rw [els, show t = (t - 1) + 1 by omega, List.drop_succ_cons]; rfl
      have hn' : ls.length = r.length + 1 := by rw [els]; rfl
      refine ⟨fun σ H' => ∃ (t : Nat) (lits : List (List V)), σ = [some (V.ref p), some (sV b), some (V.int n1), some (V.int n2), some (V.int n3), some (V.ref lp), some (V.int t), none, none] ∧ t ≤ ls.length ∧ KW.Fr [] H H' ∧ TLs H' lp lits ∧ lits.length ≤ t ∧
        goL t lits (ls.drop t) = goL 1 [] r ∧ (t < ls.length → ls[t]? = some tCODE), ?_, ?_⟩
      · walk_at "kk"
        refine ⟨fun m σ H' => ∃ (t : Nat) (lits : List (List V)), σ = [some (V.ref p), some (sV b), some (V.int n1), some (V.int n2), some (V.int n3), some (V.ref lp), some (V.int t), none, none] ∧ m = ls.length - t ∧ 1 ≤ t ∧ t ≤ ls.length ∧
          KW.Fr [] H H' ∧ TLs H' lp lits ∧ lits.length ≤ t ∧ goL t lits (ls.drop t) = goL 1 [] r, ⟨_, 1, [], rfl, rfl, by omega, by omega, fr_at hlp0 f1, TLs.nil upd_same, by simp, by rw [dr 1 (by omega)]; rfl⟩, ?_⟩
        rintro m σ H' ⟨t, lits, rfl, rfl, ht1, ht2, fH, tl, ll, hg⟩
        have hp' := fH p _ (by simp) hp
        walk_at "kk"
        split
        · rename_i c
          have ht3 : t < ls.length := by omega
          obtain ⟨x, hx⟩ : ∃ x, ls[t]? = some x := ⟨_, List.getElem?_eq_getElem ht3⟩
          have ed : ls.drop t = x :: ls.drop (t + 1) := by
            rw [List.drop_eq_getElem_cons ht3]
            rw [List.getElem?_eq_getElem ht3] at hx
            rw [Option.some.inj hx]
          refine ix_l hp' (atI_map hx) ?_
          unfold sV
          walk_at "kk"
          rw [lit_code]
          split
          · rename_i c2
            have c2' : ¬ x = tCODE := fun z => c2 (by rw [z])
            obtain ⟨as, a1, a2, a3⟩ := tl
            refine ⟨.inl ⟨_, .of a1⟩, ?_⟩
            refine ix_l hp' (atI_map hx) ?_
            refine ⟨x, t, rfl, hl x (List.mem_of_getElem? hx), by omega, fun z => (hb t ?_).fr fH, fun y hy H'' D f' hD hD2 => ?_⟩
            · rw [e0, ← hg, ed, goL, if_neg c2', z]
            · have a1' := f' lp _ (by simp) a1
              refine app_l a1' (lt_line (by rw [List.length_map]; omega)) ?_
              refine ⟨ls.length - (t + 1), by omega, t + 1, rfl, rfl, by omega, by omega, fr_at hlp0 (fH.trans f'), lits ++ [y], TLs.add ⟨as, a1, a2, a3⟩ f' a1' hD2, by simp only [List.length_append, List.length_cons, List.length_nil]; omega, ?_⟩
              rw [← hg, ed, goL, if_neg c2', hy]
          · rename_i c2
            have c2' : x = tCODE := S_inj.mp (Classical.not_not.mp c2)
            exact ⟨ht2, fH, lits, tl, ll, hg, fun _ => by rw [hx, c2']⟩
        · rename_i c
          exact ⟨ht2, fH, lits, tl, ll, hg, fun z => absurd z (by omega)⟩
      · rintro σ H' ⟨t, lits, rfl, ht2, fH, tl, ll, hg, hc⟩
        have hp' := fH p _ (by simp) hp
        walk_at "kk"
        split
        · rename_i c
          have ed : ls.drop t = [] := List.drop_eq_nil_of_le (by omega)
          refine ⟨nat4300 (by omega), fun d hd => hb t ?_ _ _ fH hd⟩
          rw [e0, ← hg, ed, goL]
        · rename_i c
          have ht3 : t < ls.length := by omega
          have hx := hc ht3
          have ed : ls.drop t = tCODE :: ls.drop (t + 1) := by
            rw [List.drop_eq_getElem_cons ht3]
            rw [List.getElem?_eq_getElem ht3] at hx
            rw [Option.some.inj hx]
          have e1 : goL 1 [] r = match goC (t + 1) [] (ls.drop (t + 1)) with
            | .inl e => .inl e
            | .inr c => .inr (c, lits) := by
            rw [← hg, ed, goL, if_pos rfl]
            try (cases goC (t + 1) [] (ls.drop (t + 1)) <;> rfl)
          rw [e1] at e0
          refine len_l hp' ⟨_, rfl, by omega, by omega, by rw [List.length_map]; omega, by rw [List.length_map]; omega, ?_⟩
          have en : (((ls.map sV).length : Int) - ((t : Int) + 1)).toNat = ls.length - (t + 1) := by rw [List.length_map]; omega
          rw [en]
          refine lc_rG (fun i D acc H2 => H2 D = some (.lst acc) ∧ KW.Fr [] H' H2 ∧ ∃ code, TLs H2 D code ∧ code.length ≤ i ∧ goC (t + 1 + i) code (ls.drop (t + 1 + i)) = goC (t + 1) [] (ls.drop (t + 1))) (fun D hD => ⟨upd_same, KW.Fr.new hD, [], TLs.nil upd_same, by simp, rfl⟩) (fun i D acc H2 Nx hi hD hP hN => ?_) fun D acc H2 hD hP => ?_
          · obtain ⟨g1, g2, code, g3, g4, g5⟩ := hP
            have ht4 : t + 1 + i < ls.length := by omega
            obtain ⟨x, hx⟩ : ∃ x, ls[t + 1 + i]? = some x := ⟨_, List.getElem?_eq_getElem ht4⟩
            have ed : ls.drop (t + 1 + i) = x :: ls.drop (t + 1 + (i + 1)) := by
              rw [List.drop_eq_getElem_cons ht4]
              rw [List.getElem?_eq_getElem ht4] at hx
              rw [Option.some.inj hx]
              rfl
            have fH2 := fH.trans g2
            have hp2 := fH2 p _ (by simp) hp
            walk_at "kk"
            refine ix_l (i := ((t + 1 + i : Nat) : Int)) hp2 (atI_map hx) ?_
            refine ⟨x, t + 1 + i, rfl, hl x (List.mem_of_getElem? hx), by omega, fun z => (hb (t + 1 + i) ?_).fr fH2, fun y hy H3 D2 f' hD2 hD3 => ?_⟩
            · rw [e0, ← g5, ed, goC, z]
            · obtain ⟨as, a1, a2, a3⟩ := g3
              have a1' := f' D _ (by simp) a1
              refine ⟨_, a1', lt_line (by rw [List.length_map]; omega), hN _ _ ⟨upd_same, fr_at hD (g2.trans f'), code ++ [y], TLs.add ⟨as, a1, a2, a3⟩ f' a1' hD3, by simp only [List.length_append, List.length_cons, List.length_nil]; omega, ?_⟩⟩
              rw [← g5, ed, goC, hy]
              rfl
          · obtain ⟨g1, g2, code, g3, g4, g5⟩ := hP
            have ed : ls.drop (t + 1 + (ls.length - (t + 1))) = [] := List.drop_eq_nil_of_le (by omega)
            rw [ed, goC] at g5
            rw [← g5] at e0
            dsimp only at e0
            intro x dx hx hdx hne
            have fH2 := fH.trans g2
            have F1 := KW.Fr.new (l := []) (H := H2) (o := .own x) hdx
            have hx' : upd H2 dx (.own x) x = none := by rw [upd_ne (Ne.symm hne)]; exact hx
            have F2 := F1.trans (KW.Fr.new (l := []) (o := .ins a.Draft dx []) hx')
            refine ⟨x, dx, D, lp, b, n1, n2, n3, code, lits, rfl, upd_same, g3.fr F2, (tl.fr g2).fr F2, fun H3 f3 d3 => ⟨rfl, h _ e0 H3 x ?_ (fr_no fH2 hx) d3⟩⟩
            intro c o _ e
            have e2 := fH2 c o (by simp) e
            have ne : c ≠ x := fun z => by rw [z, hx] at e2; cases e2
            exact f3 c o (by simpa using ne) (F2 c o (by simp) e2)
end
end K25

set_option Elab.async false
set_option linter.all false
set_option maxRecDepth 100000
set_option maxHeartbeats 4000000
/-! Ls7: when drafts are equal as data; other drafts -/
namespace LS
open PySem PySem.Spec PyProof.Rows L2 KW PK
theorem eqv_dV {a b : V} (ha : VOk a) (hb : VOk b) (h : PyData.eqv (dV a) (dV b) = true) : a = b := by
  cases a <;> simp only [VOk] at ha <;> cases b <;> simp only [VOk] at hb <;> simp_all [PyData.eqv, dV]
theorem eqvAll_dV : ∀ {xs ys : List V}, (∀ v ∈ xs, VOk v) → (∀ v ∈ ys, VOk v) → PyData.eqvAll (xs.map dV) (ys.map dV) = true → xs = ys
  | [], [], _, _, _ => rfl
  | [], y :: ys, _, _, h => by simp [PyData.eqvAll] at h
  | x :: xs, [], _, _, h => by simp [PyData.eqvAll] at h
  | x :: xs, y :: ys, h1, h2, h => by
    simp only [List.map_cons, PyData.eqvAll, Bool.and_eq_true] at h
    rw [eqv_dV (h1 x List.mem_cons_self) (h2 y List.mem_cons_self) h.1, eqvAll_dV (fun v hv => h1 v (List.mem_cons_of_mem _ hv)) (fun v hv => h2 v (List.mem_cons_of_mem _ hv)) h.2]
theorem eqvAll_dT : ∀ {xs ys : List (List V)}, (∀ t ∈ xs, ∀ v ∈ t, VOk v) → (∀ t ∈ ys, ∀ v ∈ t, VOk v) → PyData.eqvAll (xs.map dT) (ys.map dT) = true → xs = ys
  | [], [], _, _, _ => rfl
  | [], y :: ys, _, _, h => by simp [PyData.eqvAll] at h
  | x :: xs, [], _, _, h => by simp [PyData.eqvAll] at h
  | x :: xs, y :: ys, h1, h2, h => by
    simp only [List.map_cons, PyData.eqvAll, Bool.and_eq_true] at h
    have e : PyData.eqvAll (x.map dV) (y.map dV) = true := by
      have := h.1
      unfold dT at this
      simpa [PyData.eqv] using this
    rw [eqvAll_dV (h1 x List.mem_cons_self) (h2 y List.mem_cons_self) e, eqvAll_dT (fun v hv => h1 v (List.mem_cons_of_mem _ hv)) (fun v hv => h2 v (List.mem_cons_of_mem _ hv)) h.2]
theorem eqvD_eq {x y : Dra} (h1 : x.ok) (h2 : y.ok) (l1 : x.is.length = 3) (l2 : y.is.length = 3) (h : eqvD x y = true) : x.sel = y.sel ∧ x.is = y.is ∧ x.code = y.code ∧ x.lits = y.lits := by
  obtain ⟨a, b, c, e1⟩ : ∃ a b c, x.is = [a, b, c] := by
    match x.is, l1 with
    | [a, b, c], _ => exact ⟨a, b, c, rfl⟩
  obtain ⟨a', b', c', e2⟩ : ∃ a b c, y.is = [a, b, c] := by
    match y.is, l2 with
    | [a, b, c], _ => exact ⟨a, b, c, rfl⟩
  unfold eqvD at h
  rw [e1, e2] at h
  simp only [dP, PyData.eqvAll, PyData.eqv, Bool.and_eq_true, beq_iff_eq, S_inj, Bool.and_true] at h
  obtain ⟨g1, g2, g3, g4, g5, g6⟩ := h
  rw [e1, e2, g2, g3, g4]
  exact ⟨g1, rfl, eqvAll_dT h1.code h2.code g5, eqvAll_dT h1.lits h2.lits g6⟩
theorem eqvD_ne {x y : Dra} (h1 : x.ok) (h2 : y.ok) (l1 : x.is.length = 3) (l2 : y.is.length = 3) (h : x.sel ≠ y.sel ∨ x.is ≠ y.is ∨ x.code ≠ y.code ∨ x.lits ≠ y.lits) : eqvD x y = false := by
  rw [← Bool.not_eq_true]
  intro z
  obtain ⟨g1, g2, g3, g4⟩ := eqvD_eq h1 h2 l1 l2 z
  rcases h with h | h | h | h
  · exact h g1
  · exact h g2
  · exact h g3
  · exact h g4
theorem LitOk.v {x : List V} (h : LitOk x) : ∀ v ∈ x, VOk v := by
  have I : ∀ i : Int, VOk (.int i) := fun _ => trivial
  have T : ∀ t : List Nat, (∀ c ∈ t, c < 1114112) → VOk (.str (S t)) := fun t ht => ht
  rcases h with ⟨n, rfl, hn⟩ | ⟨a, b, c, d, rfl, _⟩ | ⟨k, t, rfl, hk, ht, _⟩ <;> intro v hv <;> simp only [List.mem_cons, List.not_mem_nil, or_false] at hv
  · rcases hv with rfl | rfl
    · exact T _ (by decide)
    · exact I _
  · rcases hv with rfl | rfl | rfl | rfl | rfl
    · exact T _ (by decide)
    all_goals exact I _
  · rcases hv with rfl | rfl
    · exact T _ (texts_sm k hk).cps
    · exact T _ ht.cps
theorem InsOk.v {x : List V} (h : InsOk x) : ∀ v ∈ x, VOk v := by
  obtain ⟨op, n, rfl, h⟩ := h
  intro v hv
  simp only [List.mem_cons, List.not_mem_nil, or_false] at hv
  rcases hv with rfl | rfl
  · exact (ops_sm op (List.mem_append.mpr (h.imp (fun z => z.1) fun z => z.1))).cps
  · trivial
theorem DraWf.ok {x : Dra} (h : DraWf x) : x.ok := ⟨h.sel.1.cps, fun t ht => (h.code t ht).v, fun t ht => (h.lits t ht).v⟩
theorem DraWf.l3 {x : Dra} (h : DraWf x) : x.is.length = 3 := by
  obtain ⟨a, b, c, e, _⟩ := h.is
  rw [e]; rfl
/-- the parts of a draft in a list -/
def PAt (H : Hp) (o : Addr) (x : Dra) : Prop := ∃ (pc pl : Addr) (n1 n2 n3 : Int), x.is = [n1, n2, n3] ∧ H o = some (.lst [.str (S x.sel), .int n1, .int n2, .int n3, .ref pc, .ref pl]) ∧ TLs H pc x.code ∧ TLs H pl x.lits
theorem PAt.fr {H H' : Hp} {o : Addr} {x : Dra} (h : PAt H o x) (f : KW.Fr [] H H') : PAt H' o x := by
  obtain ⟨pc, pl, n1, n2, n3, h1, h2, h3, h4⟩ := h
  exact ⟨pc, pl, n1, n2, n3, h1, f _ _ (by simp) h2, h3.fr f, h4.fr f⟩
theorem TLs.ne {K : Frag} {sc : Addr × List Int} {H : Hp} {st p : Addr} {xs : List (List V)} (h : TLs H p xs) (s : Sta K sc H st) : p ≠ st := by
  rintro rfl
  obtain ⟨as, h1, _⟩ := h
  obtain ⟨i, b, x, h2, _⟩ := s
  rw [h1] at h2
  injection h2 with h2
  injection h2 with h2
  match as, h2 with
  | a :: b :: r, h2 => simp at h2
theorem TLs.st {K : Frag} {sc : Addr × List Int} {H H' : Hp} {st p : Addr} {xs : List (List V)} (h : TLs H p xs) (s : Sta K sc H st) (f : KW.Fr [st] H H') : TLs H' p xs := by
  obtain ⟨ys, hy⟩ := s.lst
  exact h.fr1 f hy (h.ne s)
theorem PAt.ne {K : Frag} {sc : Addr × List Int} {H : Hp} {o st : Addr} {x : Dra} (h : PAt H o x) (s : Sta K sc H st) : o ≠ st := by
  rintro rfl
  obtain ⟨pc, pl, n1, n2, n3, h1, h2, h3, h4⟩ := h
  obtain ⟨i, b, x, h2', _⟩ := s
  rw [h2] at h2'
  injection h2' with h2'
  injection h2' with h2'
  simp at h2'
theorem PAt.st {K : Frag} {sc : Addr × List Int} {H H' : Hp} {o st : Addr} {x : Dra} (h : PAt H o x) (s : Sta K sc H st) (f : KW.Fr [st] H H') : PAt H' o x := by
  have n := h.ne s
  obtain ⟨pc, pl, n1, n2, n3, h1, h2, h3, h4⟩ := h
  exact ⟨pc, pl, n1, n2, n3, h1, fr_ne f n h2, h3.st s f, h4.st s f⟩
theorem Drf.st {K : Frag} {sc : Addr × List Int} {CD : Addr} {H H' : Hp} {d st : Addr} {x : Dra} (h : Drf CD H d x) (s : Sta K sc H st) (f : KW.Fr [st] H H') : Drf CD H' d x := by
  obtain ⟨dx, pc, pl, n1, n2, n3, h0, h1, h2, h3⟩ := h
  refine ⟨dx, pc, pl, n1, n2, n3, h0, fr_ne f ?_ h1, h2.st s f, h3.st s f⟩
  rintro rfl
  obtain ⟨ys, hy⟩ := s.lst
  rw [h1] at hy; cases hy
/-- a list of its own with the same tuples -/
theorem TLs.copy {H : Hp} {p q : Addr} {xs : List (List V)} {as : List Addr} (h1 : H p = some (.lst (as.map V.ref))) (h2 : as.length = xs.length) (h3 : ∀ (i : Nat) (a : Addr) (x : List V), as[i]? = some a → xs[i]? = some x → H a = some (.tup x)) (hq : H q = none) : TLs (upd H q (.lst (as.map V.ref))) q xs :=
  ⟨as, upd_same, h2, fun i a x e1 e2 => by
    have := h3 i a x e1 e2
    rw [upd_ne (ne_of_none this hq)]; exact this⟩
def spLParts2 (CD : Addr) : Sp := fun vs H Q _ => ∃ (d : Addr) (x : Dra), vs = [.ref d] ∧ Drf CD H d x ∧ ∀ t H', H t = none → KW.Fr [] H H' → PAt H' t x → Q (.ref t) H'
def spLDraft (CD : Addr) : Sp := fun vs H Q _ => ∃ (o : Addr) (y : Dra), vs = [.ref o] ∧ PAt H o y ∧ ∀ d H', KW.Fr [] H H' → Drf CD H' d y → Q (.ref d) H'
def spLChg (K : Frag) : Sp := fun vs H Q _ => ∃ (st r t : Addr) (sc : Addr × List Int) (xs : List (List V)) (y : List V), vs = [.ref st, .ref r, .ref t] ∧ Sta K sc H st ∧ TLs H r xs ∧ H t = some (.tup y) ∧ xs.length ≤ 1000 ∧ (∀ z ∈ y :: xs, ∀ v ∈ z, VOk v) ∧
  ∀ D ys H', Sta K sc H' st → KW.Fr [st] H H' → H D = none → TLs H' D ys → ys ≠ xs → (∀ z ∈ ys, z ∈ y :: xs) → ys.length ≤ xs.length + 1 → Q (.ref D) H'
def spLOth (K : Frag) : Sp := fun vs H Q _ => ∃ (st q : Addr) (sc : Addr × List Int) (x : Dra), vs = [.ref st, .ref q] ∧ Sta K sc H st ∧ PAt H q x ∧ DraWf x ∧ x.code.length ≤ 1000 ∧ x.lits.length ≤ 1000 ∧
  ∀ D (os : List (Addr × Dra)) H', Sta K sc H' st → KW.Fr [st] H H' → H' D = some (.lst (os.map fun o => V.ref o.1)) → os.length ≤ 10 → (∀ o ∈ os, PAt H' o.1 o.2 ∧ o.2.ok ∧ o.2.is.length = 3 ∧ eqvD x o.2 = false ∧ eqvD o.2 x = false) → Q (.ref D) H'
def spLLines : Sp := fun vs H Q _ => ∃ (q : Addr) (x : Dra), vs = [.ref q] ∧ PAt H q x ∧ DraWf x ∧ x.code.length ≤ 1000 ∧ x.lits.length ≤ 1000 ∧ ∀ D H', H D = none → KW.Fr [] H H' → H' D = some (.lst ((LS.linesOf x).map sV)) → Q (.ref D) H'
theorem sh_T {xs : List (List V)} (h : ∀ t ∈ xs, ∀ v ∈ t, VOk v) : SeqAt.shaped (.list (xs.map dT)) = true := by
  obtain ⟨c1, c2⟩ := layAll_T h
  show (PyData.canLay0 (.list _) && decide (PyData.depth (.list _) ≤ 64)) = true
  simp only [PyData.canLay0, PyData.depth, c1, Bool.true_and]
  exact decide_eq_true (by omega)
theorem fr_atL {l : List Addr} {H H' : Hp} {D : Addr} {o : HO} (hD : H D = none) (f : KW.Fr l H H') : KW.Fr l H (upd H' D o) := fun b u n e => by
  rw [upd_ne (ne_of_none e hD)]
  exact f b u n e
def PAtN (p : Addr) (H : Hp) (o : Addr) (x : Dra) : Prop := ∃ (pc pl : Addr) (n1 n2 n3 : Int), pc ≠ p ∧ pl ≠ p ∧ o ≠ p ∧ x.is = [n1, n2, n3] ∧ H o = some (.lst [.str (S x.sel), .int n1, .int n2, .int n3, .ref pc, .ref pl]) ∧ TLs H pc x.code ∧ TLs H pl x.lits
theorem PAtN.p {p : Addr} {H : Hp} {o : Addr} {x : Dra} (h : PAtN p H o x) : PAt H o x := by
  obtain ⟨pc, pl, n1, n2, n3, _, _, _, h⟩ := h
  exact ⟨pc, pl, n1, n2, n3, h⟩
theorem PAtN.st {K : Frag} {sc : Addr × List Int} {p : Addr} {H H' : Hp} {o st : Addr} {x : Dra} (h : PAtN p H o x) (s : Sta K sc H st) (f : KW.Fr [st] H H') : PAtN p H' o x := by
  have n := h.p.ne s
  obtain ⟨pc, pl, n1, n2, n3, g1, g2, g3, h1, h2, h3, h4⟩ := h
  exact ⟨pc, pl, n1, n2, n3, g1, g2, g3, h1, fr_ne f n h2, h3.st s f, h4.st s f⟩
theorem PAtN.upd {p : Addr} {H : Hp} {o : Addr} {x : Dra} {ys zs : List V} (h : PAtN p H o x) (hp : H p = some (.lst ys)) : PAtN p (upd H p (.lst zs)) o x := by
  obtain ⟨pc, pl, n1, n2, n3, g1, g2, g3, h1, h2, h3, h4⟩ := h
  exact ⟨pc, pl, n1, n2, n3, g1, g2, g3, h1, by rw [upd_ne g3]; exact h2, h3.off g1 hp, h4.off g2 hp⟩
def Dne (x y : Dra) : Prop := x.sel ≠ y.sel ∨ x.is ≠ y.is ∨ x.code ≠ y.code ∨ x.lits ≠ y.lits
theorem Dne.symm {x y : Dra} (h : Dne x y) : Dne y x := h.imp Ne.symm fun h => h.imp Ne.symm fun h => h.imp Ne.symm Ne.symm
end LS

set_option Elab.async false
set_option linter.all false
set_option maxRecDepth 100000
set_option maxHeartbeats 4000000
namespace K25
open PySem PySem.Spec PyProof.Rows L2 KW LS PK
local macro_rules | `(tactic| walk_at "kw") => `(tactic| simp only [tSeq, tNext, tIfS, tTest, tAnd, tOr, tNot, tAndV, tOrV, tNotV, tIf, tChain, tOp, tUn, tC, tAsg, gName, gSub, gCons, gNil, tRet, tRetN, tDrop, tCons, tNil, tCB, tAug, tSl, tPart, tNoPart, tLst, tTup, tBM, tBM0, uTest, uFor, iRng1, iRng2, iList, uCall, List.map_cons, List.map_nil, List.length_cons, List.length_nil, List.cons_append, List.nil_append, List.replicate, Nat.zero_add, Nat.reduceAdd, Nat.reduceSub, List.getElem?_cons_zero, List.getElem?_cons_succ, List.set_cons_zero, List.set_cons_succ, V.bl.injEq, V.int.injEq, V.str.injEq, V.ref.injEq, V.ty.injEq, List.cons.injEq, and_true, true_and, exists_eq_left', exists_eq_right, exists_eq_left, exists_and_left, exists_and_right, decide_eq_true_eq, Bool.not_eq_true', decide_eq_false_iff_not, Bool.false_eq_true, if_true, if_false, ite_true, ite_false, Bool.not_true, Bool.not_false, reduceCtorEq, decide_true, decide_false, Bool.not_not, isK_int_int, isK_int_bool, isK_int_str, isK_int_list, isK_int_tuple, isK_bool_int, isK_bool_bool, isK_bool_str, isK_str_str, isK_str_int, isK_str_bool, isK_str_tuple, isK_str_list, isK_list_list, isK_list_tuple, isK_tuple_tuple, isK_tuple_list, isOk_int_int, isOk_int_bool, isOk_int_str, isOk_int_list, isOk_int_tuple, isOk_bool_int, isOk_bool_bool, isOk_bool_str, isOk_str_str, isOk_str_int, isOk_str_bool, isOk_str_tuple, isOk_str_list, isOk_list_list, isOk_list_tuple, isOk_tuple_tuple, isOk_tuple_list, isK_dict_dict, isOk_dict_dict, isK_none_int, isK_none_bool, isOk_none_int, isOk_none_bool, tyV, S_inj, S_cat, L2.start, Nat.reduceSub, List.replicate_succ, List.replicate_zero, and_assoc, List.append_nil, Nat.reduceEqDiff, Option.some.injEq, Int.natCast_inj, upd_upd, Int.reducePow, Int.reduceToNat, Int.reduceMul, Int.reduceAdd, Int.reduceSub, Int.reduceLT, Int.reduceLE, Int.reduceNeg, Int.reduceDiv, Int.reduceMod, Nat.reducePow, Nat.reduceMul, S_len, List.length_append, List.length_map, List.length_range, not_true_eq_false, not_false_eq_true, ne_eq, uAdd_e1, uAdd_e2, uSub_e1, uMod_e1, uDiv_e1, uPow_e1, uShl_e1, uNeg_e1, uIAdd_e1, uIAdd_e2, uIAdd_e3, uISub_e1, uLt_e1, uLt_e2, uLe_e1, uGt_e1, uGe_e1, uEq_e1, uEq_e2, uEq_e3, uEq_e4, uEq_e5, uEq_e6, uEq_e7, uEq_e8, uEq_e9, uEq_e10, uEq_e11, uNe_e1, uNe_e2, uNe_e3, uNe_e4, uNe_e5, uNe_e6, uNe_e7, uNe_e8, uNe_e9, uNe_e10, uNe_e11, uIs_e1, uIs_e2, uIs_e3, uIs_e4, uIs_e5, uIs_e6, uIs_e7, uNotIs_e1, uNotIs_e2, uNotIs_e3, uNotIs_e4, uNotIs_e5, uNotIs_e6, uIn_e1, uIn_e2, uIn_e3, uIn_e4, uNotIn_e1, uNotIn_e2, uNotIn_e3, uNotIn_e4, uTru_e1, uTru_e2, uTru_e3, uTru_e4, uIx_e2, uSl_e2, uLen_e1, uAbs_e1, uInt_e1, uInt_e2, uMin2_e1, uIsi_e1, uIsi_e2, uIsi_e3, uIsi_e4, cx_K, uVar_0, uVar_n, uFld, uSFld, uMet, uMake, tDG, tDI, tDNI, tDP, tDD, uMk, uRaise, uDelSl, tCallS, L2.WE, uStr_e1, uStr_e2, uMul2_e1, uMul2_e2, okS_i, okS_s, List.zip_cons_cons, List.zip_nil_left, List.drop_zero, List.drop_succ_cons, List.drop_nil, putF_nil, putF_cons, eq_self, tDNewK, tB, Option.isSome_some, Option.isSome_none, false_and, false_or, or_false, exists_false, Int.zero_add, uLc, wipe, tYes, isEmpty_app, List.isEmpty_cons, List.isEmpty_nil, List.isEmpty_map, Bool.and_false, Bool.and_true, iRev, K25.lit_0, K25.lit_1, K25.lit_2, K25.lit_3, K25.lit_4, K25.lit_5, K25.lit_6, K25.lit_7, K25.lit_8, K25.lit_9, K25.lit_10, K25.lit_11, K25.lit_12, K25.lit_13, K25.lit_14, K25.lit_15, K25.lit_16, K25.lit_17, K25.lit_18, K25.lit_19, K25.lit_20, K25.lit_21, K25.lit_22, K25.lit_23, K25.lit_25, K25.lit_26, K25.lit_27, K25.lit_28, K25.lit_29, K25.lit_30, K25.lit_32, K25.lit_33, K25.lit_34, K25.lit_35, K25.lit_36, K25.lit_37, K25.lit_38, K25.lit_39, K25.lit_40, K25.lit_41, K25.lit_42, K25.lit_43, K25.lit_44, K25.lit_45, K25.lit_46, K25.lit_47, K25.lit_48, K25.lit_49, K25.lit_50, K25.lit_51, K25.fe_selector_argc, K25.fe_selector_locals, K25.fe_selector_stack, K25.fe_selector_code, K25.fe_selector_literals, K25.fe_argc_selector, K25.fe_argc_locals, K25.fe_argc_stack, K25.fe_argc_code, K25.fe_argc_literals, K25.fe_locals_selector, K25.fe_locals_argc, K25.fe_locals_stack, K25.fe_locals_code, K25.fe_locals_literals, K25.fe_stack_selector, K25.fe_stack_argc, K25.fe_stack_locals, K25.fe_stack_code, K25.fe_stack_literals, K25.fe_code_selector, K25.fe_code_argc, K25.fe_code_locals, K25.fe_code_stack, K25.fe_code_literals, K25.fe_literals_selector, K25.fe_literals_argc, K25.fe_literals_locals, K25.fe_literals_stack, K25.fe_literals_code, K25.fl_code_0, K25.lf_code_0, K25.fl_code_1, K25.lf_code_1, K25.fl_code_2, K25.lf_code_2, K25.fl_code_3, K25.lf_code_3, K25.fl_code_4, K25.lf_code_4, K25.fl_code_5, K25.lf_code_5, K25.fl_code_6, K25.lf_code_6, K25.fl_code_7, K25.lf_code_7, K25.fl_code_8, K25.lf_code_8, K25.fl_code_9, K25.lf_code_9, K25.fl_code_10, K25.lf_code_10, K25.fl_code_11, K25.lf_code_11, K25.fl_code_12, K25.lf_code_12, K25.fl_code_13, K25.lf_code_13, K25.fl_code_14, K25.lf_code_14, K25.fl_code_15, K25.lf_code_15, K25.fl_code_16, K25.lf_code_16, K25.fl_code_17, K25.lf_code_17, K25.fl_code_18, K25.lf_code_18, K25.fl_code_19, K25.lf_code_19, K25.fl_code_20, K25.lf_code_20, K25.fl_code_21, K25.lf_code_21, K25.fl_code_22, K25.lf_code_22, K25.fl_code_23, K25.lf_code_23, K25.fl_code_24, K25.lf_code_24, K25.fl_code_25, K25.lf_code_25, K25.fl_code_26, K25.lf_code_26, K25.fl_code_27, K25.lf_code_27, K25.fl_code_28, K25.lf_code_28, K25.fl_code_29, K25.lf_code_29, K25.fl_code_30, K25.lf_code_30, K25.fl_code_32, K25.lf_code_32, K25.fl_code_33, K25.lf_code_33, K25.fl_code_34, K25.lf_code_34, K25.fl_code_35, K25.lf_code_35, K25.fl_code_36, K25.lf_code_36, K25.fl_code_37, K25.lf_code_37, K25.fl_code_38, K25.lf_code_38, K25.fl_code_39, K25.lf_code_39, K25.fl_code_40, K25.lf_code_40, K25.fl_code_41, K25.lf_code_41, K25.fl_code_42, K25.lf_code_42, K25.fl_code_43, K25.lf_code_43, K25.fl_code_44, K25.lf_code_44, K25.fl_code_45, K25.lf_code_45, K25.fl_code_46, K25.lf_code_46, K25.fl_code_47, K25.lf_code_47, K25.fl_code_48, K25.lf_code_48, K25.fl_code_49, K25.lf_code_49, K25.fl_code_50, K25.lf_code_50, K25.fl_code_51, K25.lf_code_51, K25.fl_selector_0, K25.lf_selector_0, K25.fl_selector_1, K25.lf_selector_1, K25.fl_selector_2, K25.lf_selector_2, K25.fl_selector_3, K25.lf_selector_3, K25.fl_selector_4, K25.lf_selector_4, K25.fl_selector_5, K25.lf_selector_5, K25.fl_selector_6, K25.lf_selector_6, K25.fl_selector_7, K25.lf_selector_7, K25.fl_selector_8, K25.lf_selector_8, K25.fl_selector_9, K25.lf_selector_9, K25.fl_selector_10, K25.lf_selector_10, K25.fl_selector_11, K25.lf_selector_11, K25.fl_selector_12, K25.lf_selector_12, K25.fl_selector_13, K25.lf_selector_13, K25.fl_selector_14, K25.lf_selector_14, K25.fl_selector_15, K25.lf_selector_15, K25.fl_selector_16, K25.lf_selector_16, K25.fl_selector_17, K25.lf_selector_17, K25.fl_selector_18, K25.lf_selector_18, K25.fl_selector_19, K25.lf_selector_19, K25.fl_selector_20, K25.lf_selector_20, K25.fl_selector_21, K25.lf_selector_21, K25.fl_selector_22, K25.lf_selector_22, K25.fl_selector_23, K25.lf_selector_23, K25.fl_selector_25, K25.lf_selector_25, K25.fl_selector_26, K25.lf_selector_26, K25.fl_selector_27, K25.lf_selector_27, K25.fl_selector_28, K25.lf_selector_28, K25.fl_selector_29, K25.lf_selector_29, K25.fl_selector_30, K25.lf_selector_30, K25.fl_selector_31, K25.lf_selector_31, K25.fl_selector_32, K25.lf_selector_32, K25.fl_selector_33, K25.lf_selector_33, K25.fl_selector_34, K25.lf_selector_34, K25.fl_selector_35, K25.lf_selector_35, K25.fl_selector_36, K25.lf_selector_36, K25.fl_selector_37, K25.lf_selector_37, K25.fl_selector_38, K25.lf_selector_38, K25.fl_selector_39, K25.lf_selector_39, K25.fl_selector_40, K25.lf_selector_40, K25.fl_selector_41, K25.lf_selector_41, K25.fl_selector_42, K25.lf_selector_42, K25.fl_selector_43, K25.lf_selector_43, K25.fl_selector_44, K25.lf_selector_44, K25.fl_selector_45, K25.lf_selector_45, K25.fl_selector_46, K25.lf_selector_46, K25.fl_selector_47, K25.lf_selector_47, K25.fl_selector_48, K25.lf_selector_48, K25.fl_selector_49, K25.lf_selector_49, K25.fl_selector_50, K25.lf_selector_50, K25.fl_selector_51, K25.lf_selector_51, uAll_e, iTup_e, CwR.tReplC, uTuple_e, uFm_e1, uFm_e2, uIntS_e1, uIntS_e2, uIntS_e3, uEqO_e, tFm, tJs, iStr, S_e, itxt_S, K25.N_Draft_init, K25.N_Draft_parts, K25.N_Draft___eq__, K25.N_escaped, K25.N_joined, K25.N_literal_line, K25.N_list_draft, K25.N_number_in, K25.N_numbers_in, K25.N_unescaped, K25.N_read_head, K25.N_read_text, K25.N_read_literal, K25.N_read_instruction, K25.N_read_listing, K25.N__law_start, K25.N__law_pick, K25.N__law_text, K25.N__law_count, K25.N__law_literal, K25.N__law_plain, K25.N__law_instruction, K25.N__law_written, K25.N__law_lines, K25.N__law_draft, K25.N__law_parts, K25.N__law_changed, K25.N__law_others, K25.N_law])
local macro_rules | `(tactic| walk_at "nn") => `(tactic| first | assumption | exact ne_un (by assumption) | exact ne_un (ne_un (by assumption)) | exact ne_un (ne_un (ne_un (by assumption))) | exact ne_un (ne_un (ne_un (ne_un (by assumption)))))
local macro_rules | `(tactic| walk_at "ne") => `(tactic| first | assumption | (apply Ne.symm; assumption) | exact ne_ud (by assumption) | exact Ne.symm (ne_ud (by assumption)) | exact ne_ud (ne_un (by assumption)) | exact Ne.symm (ne_ud (ne_un (by assumption))) | exact ne_ud (ne_un (ne_un (by assumption))) | exact Ne.symm (ne_ud (ne_un (ne_un (by assumption)))) | exact ne_m (by assumption) (by assumption) | exact Ne.symm (ne_m (by assumption) (by assumption)) | exact ne_n (by assumption) (by walk_at "nn") | exact Ne.symm (ne_n (by assumption) (by walk_at "nn")))
local macro_rules | `(tactic| walk_at "hp") => `(tactic| first | assumption | exact upd_same | (refine Eq.trans (upd_ne ?_) ?_; (focus walk_at "ne"); walk_at "hp"))
local macro_rules | `(tactic| walk_at "sc") => `(tactic| first | (with_reducible assumption) | omega | exact le_line (by (try simp only [List.length_map, List.length_append, List.length_cons, List.length_nil, S_len]); omega) | exact div_s (by omega) | exact mul_r (by omega) | exact mul_l (by omega) | exact pow_s (by omega) | exact mul2_r (by omega) | exact mul2_l (by omega) | exact small4300 (by omega) | exact lt_line (by (try simp only [List.length_map, List.length_append, List.length_cons, List.length_nil, S_len]); omega) | exact ⟨_, by assumption⟩ | (guard_target =~ Exists _; exact ⟨_, .of (by walk_at "hp")⟩) | (guard_target =~ _ ∨ _; exact .inl ⟨_, by assumption⟩) | (guard_target =~ _ ∨ _; exact .inl ⟨_, .of (by walk_at "hp")⟩) | (guard_target =~ _ ∨ _; exact .inr (.inr (.inl ⟨rfl, .inl ⟨_, by walk_at "hp"⟩⟩))) | decide)
local macro_rules | `(tactic| walk_at "kr") => `(tactic| first | (guard_target =~ _ ∧ _; first | refine And.intro (by walk_at "sc") ?_) | (guard_target =~ KW.uIx _ _ _ _ _; first | refine ix_l (by walk_at "hp") (by first | walk_at "hv" | rfl) ?_ | refine ix_t (by walk_at "hp") (by first | walk_at "hv" | rfl) ?_ | refine ix_sl (by assumption) (by walk_at "hv") ?_) | (guard_target =~ KW.uLen _ _ _ _; first | refine len_l (by walk_at "hp") ?_ | refine len_t (by walk_at "hp") ?_ | refine len_sl (by assumption) ?_) | (guard_target =~ KW.uSet _ _ _ _ _; first | refine set_l (by walk_at "hp") (by first | walk_at "hv" | rfl) ?_) | (guard_target =~ L2.gTup _ _ _ _ _ _ _; first | refine tup_l (by walk_at "hp") (by rfl) ?_) | (guard_target =~ KW.uGet _ _ _ _ _; first | refine get_l (by walk_at "hp") (by walk_at "hc") (by decide) (by rfl) ?_) | (guard_target =~ KW.uPut _ _ _ _ _ _; first | refine put_l (by walk_at "hp") (by walk_at "hc") (by decide) (by simp) ?_) | (guard_target =~ KW.uMet.uMt _ _ _ _ _ _ _ _ _; first | refine met_l (by walk_at "hp") (by rfl) ?_) | (guard_target =~ KW.uMet.uMt _ _ _ _ _ _ _ _ _; first | refine ST.met_s (by assumption) (by decide) ?_) | (guard_target =~ ST.spExists _ _ _ _ _; first | refine ST.exists_s (by assumption) ?_) | (guard_target =~ ST.spUsed _ _ _ _ _; first | refine ST.used_s (by assumption) ?_) | (guard_target =~ KW.uGet _ _ _ _ _; first | refine ST.words_s (by assumption) (by walk_at "hc") (by decide) ?_) | (guard_target =~ KW.uDIn _ _ _ _; first | refine din_i (by walk_at "hp") ?_ | refine din_s (by walk_at "hp") ?_) | (guard_target =~ KW.uDGet _ _ _ _; first | refine dget_i (by walk_at "hp") (by walk_at "hv") ?_ | refine dget_s (by walk_at "hp") (by walk_at "hv") ?_) | (guard_target =~ KW.uDPut _ _ _ _ _; first | refine dput_i (by walk_at "hp") (by walk_at "sc") ?_ | refine dput_s (by walk_at "hp") (by walk_at "sc") ?_) | (guard_target =~ KW.uDDel _ _ _ _; first | refine ddel_i (by walk_at "hp") (by walk_at "hv") ?_ | refine ddel_s (by walk_at "hp") (by walk_at "hv") ?_) | (guard_target =~ KW.uMul2 _ _ _ _; first | refine rep_l (by walk_at "hp") (by walk_at "sc") (by walk_at "sc") (by walk_at "sc") ?_) | (guard_target =~ L2.rAppend _ _ _ _; first | refine app_l (by walk_at "hp") (by walk_at "sc") ?_) | (guard_target =~ L2.rPop _ _ _ _; first | refine pop_l (by walk_at "hp") (by walk_at "hv") ?_ | refine pops_l (by walk_at "hp") ?_) | (guard_target =~ L2.rClear _ _ _ _; first | refine clr_l (by walk_at "hp") ?_) | (guard_target =~ L2.rReverse _ _ _ _; first | refine rev_l (by walk_at "hp") ?_) | (guard_target =~ L2.rExtend _ _ _ _; first | refine ext_l (by walk_at "hp") (by walk_at "hp") (by walk_at "sc") ?_) | (guard_target =~ KW.uAdd _ _ _ _ _; first | refine ucat_l (by walk_at "hp") (by walk_at "hp") (by walk_at "sc") ?_) | (guard_target =~ KW.uSl _ _ _ _ _ _; first | refine usl_l (by walk_at "hp") ?_) | (guard_target =~ KW.uTru _ _ _ _; first | refine tru_l (by walk_at "hp") ?_ | refine tru_t (by walk_at "hp") ?_ | refine tru_d (by walk_at "hp") ?_ | refine tru_sl (by assumption) ?_) | (guard_target =~ L2.rIndex _ _ _ _ _; first | refine idx_s (by walk_at "hp") (by assumption) ?_ | refine idx_i (by walk_at "hp") (by assumption) ?_) | (guard_target =~ L2.rIn _ _ _ _ _ _; first | refine in_s (by walk_at "hp") ?_ | refine nin_s (by walk_at "hp") ?_ | refine in_i (by walk_at "hp") ?_ | refine nin_i (by walk_at "hp") ?_) | (guard_target =~ KW.uIsi _ _ _ _; first | refine isi_l (by walk_at "hp") (by decide +kernel) ?_ | refine isi_t (by walk_at "hp") (by decide +kernel) ?_ | refine isi_d (by walk_at "hp") (by decide +kernel) ?_) | (guard_target =~ KW.uList _ _ _ _; first | refine list_l (by walk_at "hp") ?_ | refine list_t (by walk_at "hp") ?_ | refine list_sl (by assumption) ?_) | (guard_target =~ KW.uDict _ _ _; first | refine dict_d (by walk_at "hp") ?_) | (guard_target =~ KW.uSorted _ _ _ _; first | refine srt_l (by walk_at "hp") ?_) | (guard_target =~ KW.uSum _ _ _ _; first | refine sum_l (by walk_at "hp") ?_) | (guard_target =~ KW.uDelC _ _ _ _; first | refine dels_l (by walk_at "hp") (by walk_at "sc") ?_) | (guard_target =~ L2.wAs _ _ _ _ _ _ _ _ _ _; first | refine as_yes (by walk_at "hx") ?_ | refine as_no (by walk_at "hx") ?_) | (guard_target =~ KW.uEf _ _ _ _ _ _ _ _ _; first | refine ef_l (by walk_at "he") (by decide) (by rfl) (by walk_at "hp") (by rfl) ?_) | (guard_target =~ KW.uIsE _ _ _ _ _ _ _; first | refine isE_r (by walk_at "he") (by walk_at "hp") (by walk_at "hk") ?_ | refine isE_t (by walk_at "he") (by walk_at "hp") (by walk_at "hk") ?_))
local macro_rules | `(tactic| walk_at "hv") => `(tactic| first | assumption)
local macro_rules | `(tactic| walk_at "kk") => `(tactic| repeat (first | walk_at "kw" | walk_at "kr"))
local macro_rules | `(tactic| walk_at "hc") => `(tactic| first | exact K25.Txt.c_Draft (by assumption))
local macro_rules | `(tactic| walk_at "he") => `(tactic| first | exact K25.Txt.e_Malformed (by assumption))
local macro_rules | `(tactic| walk_at "hx") => `(tactic| first | fail)
local macro_rules | `(tactic| walk_at "hk") => `(tactic| first | fail)

section
variable {P : Program} {w : World} {K : Frag} {mg : Str → Option Value} {base : Heap} {a : Ads}
def spParts (CD : Addr) : Sp := fun vs H Q _ => ∃ (d dx : Addr) (x1 x2 x3 x4 x5 x6 : V), vs = [.ref d] ∧ H d = some (.ins CD dx [("selector", x1), ("argc", x2), ("locals", x3), ("stack", x4), ("code", x5), ("literals", x6)]) ∧ ∀ t, H t = none → Q (.ref t) (upd H t (.tup [x1, x2, x3, x4, x5, x6]))
theorem ok_Draft_parts (T : Txt P w K mg a) : CalM P w K mg base 1 a.Draft "parts" (spParts a.Draft) := by
  refine T.m_Draft_parts.ok T.c_Draft.cls sc_Draft_parts (fun vs H Q E h => ?_) (fun f cdv A outer s H vs Q E hr h => ⟨_, (pss_one (ps_ret (pe_tup (pa_cons (k_fld (kv 0) rfl) (pa_cons (k_fld (kv 0) rfl) (pa_cons (k_fld (kv 0) rfl) (pa_cons (k_fld (kv 0) rfl) (pa_cons (k_fld (kv 0) rfl) (pa_cons (k_fld (kv 0) rfl) pa_nil))))))))), ?_⟩)
  · obtain ⟨d, dx, x1, x2, x3, x4, x5, x6, rfl, _⟩ := h; rfl
  · obtain ⟨d, dx, x1, x2, x3, x4, x5, x6, rfl, hd, h⟩ := h
    walk_at "kk"
    exact h
def spDEq (CD : Addr) : Sp := fun vs H Q _ => ∃ (d e : Addr) (x y : Dra), vs = [.ref d, .ref e] ∧ Drf CD H d x ∧ Drf CD H e y ∧ x.ok ∧ y.ok ∧ ∀ H', KW.Fr [] H H' → Q (.bl (eqvD x y)) H'
theorem ok_Draft_eq (T : Txt P w K mg a) : CalM P w K mg base 2 a.Draft "__eq__" (spDEq a.Draft) := by
  have M_Draft_parts := ok_Draft_parts (P := P) (w := w) (base := base) T
  refine T.m_Draft___eq__.ok T.c_Draft.cls sc_Draft___eq__ (fun vs H Q E h => ?_) (fun f cdv A outer s H vs Q E hr h => ⟨_, (pss_cons (ps_if (pt_not (kt (pe_callB (c_isO T.q_Draft T.c_Draft.cls) (by rfl) T.n_isinstance (by decide +kernel) (pa_cons (kv 1) (pa_cons (pe_glob (v := .ref a.Draft) (by rfl) T.g_Draft rfl) pa_nil)))))
      (pss_one (ps_ret pe_bl))
      pss_nil)
      (pss_one (ps_ret (pe_cmpR (o_eq hr.units) (km0 M_Draft_parts (hr.mono (by decide)) (kv 0)) (km0 M_Draft_parts (hr.mono (by decide)) (kv 1)) (nomark _))))), ?_⟩)
  · obtain ⟨d, e, x, y, rfl, _⟩ := h; rfl
  · obtain ⟨d, e, x, y, rfl, ⟨dx, pc, pl, n1, n2, n3, i1, d1, d2, d3⟩, ⟨dx', pc', pl', n1', n2', n3', i1', d1', d2', d3'⟩, okx, oky, h⟩ := h
    walk_at "kk"
    refine ⟨⟨_, _, d1'⟩, ?_⟩
    walk_at "kk"
    refine ⟨d, dx, _, _, _, _, _, _, rfl, d1, fun t ht => ?_⟩
    have f1 := KW.Fr.new (l := []) (o := .tup [V.str (S x.sel), .int n1, .int n2, .int n3, .ref pc, .ref pl]) ht
    have d1b := f1 e _ (by simp) d1'
    walk_at "kk"
    refine ⟨e, dx', _, _, _, _, _, _, rfl, d1b, fun u hu => ?_⟩
    have f2 := KW.Fr.new (l := []) (o := .tup [V.str (S y.sel), .int n1', .int n2', .int n3', .ref pc', .ref pl']) hu
    have ht2 := f2 t _ (by simp) upd_same
    walk_at "kk"
    refine ⟨.tuple (dP x.sel n1 n2 n3 x.code x.lits), .tuple (dP y.sel n1' n2' n3' y.code y.lits), .tup (.of ht2) (dp_P (d2.fr (f1.trans f2)) (d3.fr (f1.trans f2)) okx), .tup (.of upd_same) (dp_P (d2'.fr (f1.trans f2)) (d3'.fr (f1.trans f2)) oky), (sh_P okx).1, (sh_P oky).1, ?_⟩
    have e0 : eqvD x y = PyData.eqvAll (dP x.sel n1 n2 n3 x.code x.lits) (dP y.sel n1' n2' n3' y.code y.lits) := by unfold eqvD; rw [i1, i1']
    rw [PyData.eqv, ← e0]
    exact h _ (f1.trans f2)
theorem ok__law_parts (T : Txt P w K mg a) : Cal P w K mg base 1 "_law_parts" (spLParts2 a.Draft) := by
  refine T.d__law_parts.ok sc__law_parts (fun vs H Q E h => ?_) (fun f cdv A outer s H vs Q E hr h => ⟨_, (pss_one (ps_ret (pe_lst (pa_cons (k_fld (kv 0) rfl) (pa_cons (k_fld (kv 0) rfl) (pa_cons (k_fld (kv 0) rfl) (pa_cons (k_fld (kv 0) rfl) (pa_cons (pe_callTy c_list (by rfl) T.n_list (by decide +kernel) (pa_cons (k_fld (kv 0) rfl) pa_nil)) (pa_cons (pe_callTy c_list (by rfl) T.n_list (by decide +kernel) (pa_cons (k_fld (kv 0) rfl) pa_nil)) pa_nil))))))))), ?_⟩)
  · obtain ⟨d, x, rfl, _⟩ := h; rfl
  · obtain ⟨d, x, rfl, ⟨dx, pc, pl, n1, n2, n3, i1, d1, ⟨ac, c1, c2, c3⟩, ⟨al, l1, l2, l3⟩⟩, h⟩ := h
    walk_at "kk"
    intro q hq
    have f1 := KW.Fr.new (l := []) (o := .lst (ac.map V.ref)) hq
    have t1 := TLs.copy c1 c2 c3 hq
    have d1' := f1 _ _ (by simp) d1
    have l1' := f1 _ _ (by simp) l1
    walk_at "kk"
    intro q2 hq2
    have f2 := KW.Fr.new (l := []) (o := .lst (al.map V.ref)) hq2
    have t2 := TLs.copy l1' l2 (fun i b y e1 e2 => f1 _ _ (by simp) (l3 i b y e1 e2)) hq2
    walk_at "kk"
    intro t ht
    have f3 := KW.Fr.new (l := []) (o := .lst [V.str (S x.sel), .int n1, .int n2, .int n3, .ref q, .ref q2]) ht
    exact h t _ (fr_no (f1.trans f2) ht) ((f1.trans f2).trans f3) ⟨q, q2, n1, n2, n3, i1, upd_same, (t1.fr f2).fr f3, t2.fr f3⟩
theorem ok__law_draft (T : Txt P w K mg a) : Cal P w K mg base 3 "_law_draft" (spLDraft a.Draft) := by
  have I_Draft := ok_Draft_init (P := P) (w := w) (base := base) T
  refine T.d__law_draft.ok sc__law_draft (fun vs H Q E h => ?_) (fun f cdv A outer s H vs Q E hr h => ⟨_, (pss_one (ps_ret (kmk 0 I_Draft (hr.mono (by decide)) (pa_cons (pe_ix o_ix (kv 0) pe_int (fun _ _ => rfl)) (pa_cons (pe_ix o_ix (kv 0) pe_int (fun _ _ => rfl)) (pa_cons (pe_ix o_ix (kv 0) pe_int (fun _ _ => rfl)) (pa_cons (pe_ix o_ix (kv 0) pe_int (fun _ _ => rfl)) (pa_cons (pe_ix o_ix (kv 0) pe_int (fun _ _ => rfl)) (pa_cons (pe_ix o_ix (kv 0) pe_int (fun _ _ => rfl)) pa_nil))))))))), ?_⟩)
  · obtain ⟨d, x, rfl, _⟩ := h; rfl
  · obtain ⟨o, x, rfl, ⟨pc, pl, n1, n2, n3, i1, o1, tc, tl⟩, h⟩ := h
    walk_at "kk"
    intro y dy hy hdy hne
    have F1 := KW.Fr.new (l := []) (H := H) (o := .own y) hdy
    have hy' : upd H dy (.own y) y = none := by rw [upd_ne (Ne.symm hne)]; exact hy
    have F2 := F1.trans (KW.Fr.new (l := []) (o := .ins a.Draft dy []) hy')
    refine ⟨y, dy, pc, pl, x.sel, n1, n2, n3, x.code, x.lits, rfl, upd_same, tc.fr F2, tl.fr F2, fun H3 f3 d3 => ⟨rfl, ?_⟩⟩
    have f4 : KW.Fr [] H H3 := fun c o _ e => by
      have ne : c ≠ y := fun z => by rw [z, hy] at e; cases e
      exact f3 c o (by simpa using ne) (F2 c o (by simp) e)
    have hxx : (⟨x.sel, [n1, n2, n3], x.code, x.lits⟩ : Dra) = x := by rw [← i1]
    rw [hxx] at d3
    exact h y H3 f4 d3
theorem ok__law_changed (T : Txt P w K mg a) : Cal P w K mg base 2 "_law_changed" (spLChg K) := by
  have C__law_pick := ok__law_pick (P := P) (w := w) (base := base) T
  refine T.d__law_changed.ok sc__law_changed (fun vs H Q E h => ?_) (fun f cdv A outer s H vs Q E hr h => ⟨_, (pss_cons (ps_set (i := 3) sc__law_changed.nd rfl (Or.inl rfl) (pe_callTy c_list (by rfl) T.n_list (by decide +kernel) (pa_cons (kv 1) pa_nil)))
      (pss_cons (ps_set (i := 4) sc__law_changed.nd rfl (Or.inl rfl) (kc C__law_pick (hr.mono (by decide)) (pa_cons (kv 0) (pa_cons pe_int pa_nil))))
      (pss_cons (ps_if (PW.pt (pw_or (pt_cmpR (o_eq hr.units) (kv 4) pe_int (nomark _)) (pw_or1 (pt_cmpR (o_eq hr.units) (pe_callB c_len (by rfl) T.n_len (by decide +kernel) (pa_cons (kv 3) pa_nil)) pe_int (nomark _)))))
      (pss_one (ps_expr (pe_bm PySem.F.plainAttrs_list PySem.F.slot_list_append PySem.F.type_list_append mt_append (kv 3) (pa_cons (kv 2) pa_nil))))
      (pss_one (ps_if (pt_cmpR (o_eq hr.units) (kv 4) pe_int (nomark _))
      (pss_one (ps_expr (pe_bm0 PySem.F.plainAttrs_list PySem.F.slot_list_pop PySem.F.type_list_pop mt_pop (kv 3))))
      (pss_cons (ps_set (i := 5) sc__law_changed.nd rfl (Or.inl rfl) (kc C__law_pick (hr.mono (by decide)) (pa_cons (kv 0) (pa_cons (pe_callB c_len (by rfl) T.n_len (by decide +kernel) (pa_cons (kv 3) pa_nil)) pa_nil))))
      (pss_cons (ps_asg (kv 2) (pg_sub (kv 3) (kv 5) s_set))
      (pss_one (ps_if (pt_cmpR (o_eq hr.units) (kv 3) (kv 1) (nomark _))
      (pss_one (ps_expr (pe_bm PySem.F.plainAttrs_list PySem.F.slot_list_append PySem.F.type_list_append mt_append (kv 3) (pa_cons (kv 2) pa_nil))))
      pss_nil)))))))
      (pss_one (ps_ret (kv 3)))))), ?_⟩)
  · obtain ⟨st, r, t, sc, xs, y, rfl, _⟩ := h; rfl
  · obtain ⟨st, r, t, sc, xs, y, rfl, hs, hr1, ht, hn, ok, h⟩ := h
    have nr := hr1.ne hs
    obtain ⟨as, r1, r2, r3⟩ := hr1
    walk_at "kk"
    intro D hD
    have nD := hs.ne hD
    have f1 := KW.Fr.new (l := [st]) (o := .lst (as.map V.ref)) hD
    have fz := KW.Fr.new (l := []) (o := .lst (as.map V.ref)) hD
    refine pick_s (by decide) (by decide) (hs.new hD) fun k H2 s2 f2 a2 b2 => ?_
    have hD2 := fr_ne f2 nD (show (upd H D (.lst (as.map V.ref))) D = some (.lst (as.map V.ref)) from upd_same)
    have f12 := f1.trans f2
    have nt : ∀ {b : Addr} {z : List V}, H b = some (.tup z) → b ≠ st := by
      rintro b z e rfl
      obtain ⟨ys, hy⟩ := hs.lst; rw [e] at hy; cases hy
    -- a list of tuples told by the first heap
    have fin : ∀ (bs : List Addr) (ys : List (List V)) (H5 : Hp), Sta K sc H5 st → KW.Fr [st] H H5 → H5 D = some (.lst (bs.map V.ref)) → bs.length = ys.length → (∀ (i : Nat) (b : Addr) (z : List V), bs[i]? = some b → ys[i]? = some z → H b = some (.tup z)) → ys ≠ xs → (∀ z ∈ ys, z ∈ y :: xs) → ys.length ≤ xs.length + 1 → Q (.ref D) H5 := fun bs ys H5 s5 f5 h5 e1 e2 e3 e4 e5 =>
      h D ys H5 s5 f5 hD ⟨bs, h5, e1, fun i b z z1 z2 => fr_ne f5 (nt (e2 i b z z1 z2)) (e2 i b z z1 z2)⟩ e3 e4 e5
    have app : ∀ (bs : List Addr) (ys : List (List V)) (H5 : Hp), Sta K sc H5 st → KW.Fr [st] H H5 → H5 D = some (.lst (bs.map V.ref)) → bs.length = ys.length → (∀ (i : Nat) (b : Addr) (z : List V), bs[i]? = some b → ys[i]? = some z → H b = some (.tup z)) → (∀ z ∈ ys, z ∈ y :: xs) → ys.length = xs.length → rAppend (.ref D) [.ref t] H5 fun _ H1 => Q (.ref D) H1 := fun bs ys H5 s5 f5 h5 e1 e2 e4 e5 => by
      refine app_l h5 (lt_line (by rw [List.length_map]; omega)) ?_
      refine fin (bs ++ [t]) (ys ++ [y]) _ (hs.upd hD s5) (fr_atL hD f5) (by rw [upd_same, List.map_append]; rfl) (by simp [e1]) ?_ ?_ ?_ (by simp [e5])
      · intro i b z z1 z2
        by_cases c : i < bs.length
        · rw [List.getElem?_append_left c] at z1
          rw [List.getElem?_append_left (by omega)] at z2
          exact e2 i b z z1 z2
        · rw [List.getElem?_append_right (by omega)] at z1
          rw [List.getElem?_append_right (by omega), ← e1] at z2
          have i0 : i - bs.length = 0 := by
            by_cases c0 : i - bs.length = 0
            · exact c0
            · rw [List.getElem?_eq_none (by simp; omega)] at z1; cases z1
          rw [i0] at z1 z2
          cases z1; cases z2
          exact ht
      · intro e
        have := congrArg List.length e
        simp only [List.length_append, List.length_cons, List.length_nil] at this
        omega
      · intro z hz
        rcases List.mem_append.mp hz with z1 | z1
        · exact e4 z z1
        · have : z = y := by simpa using z1
          rw [this]; exact List.mem_cons_self
    walk_at "kk"
    split
    · exact ⟨.inl ⟨_, .of hD2⟩, app as xs H2 s2 f12 hD2 r2 r3 (fun z hz => List.mem_cons_of_mem _ hz) rfl⟩
    rename_i c0
    refine len_l hD2 ?_
    walk_at "kk"
    split
    · exact ⟨.inl ⟨_, .of hD2⟩, app as xs H2 s2 f12 hD2 r2 r3 (fun z hz => List.mem_cons_of_mem _ hz) rfl⟩
    rename_i c1
    have c1 : 0 < as.length := by
      rcases Nat.eq_zero_or_pos as.length with z | z
      · exact absurd (by simp [z]) c1
      · exact z
    split
    · obtain ⟨as', la, rfl⟩ : ∃ as' la, as = as' ++ [la] := ⟨as.dropLast, as.getLast (by intro z; rw [z] at c1; simp at c1), (List.dropLast_concat_getLast _).symm⟩
      refine ⟨.inl ⟨_, .of hD2⟩, ?_⟩
      rw [List.map_append] at hD2
      refine pops_l hD2 ?_
      obtain ⟨xs', lx, rfl⟩ : ∃ xs' lx, xs = xs' ++ [lx] := ⟨xs.dropLast, xs.getLast (by intro z; rw [z] at r2; simp at r2), (List.dropLast_concat_getLast _).symm⟩
      simp only [List.length_append, List.length_cons, List.length_nil] at r2
      refine fin as' xs' _ (hs.upd hD s2) (fr_atL hD f12) upd_same (by omega) (fun i b z z1 z2 => ?_) (fun e => by have := congrArg List.length e; simp at this) (fun z hz => List.mem_cons_of_mem _ (List.mem_append_left _ hz)) (by simp only [List.length_append, List.length_cons, List.length_nil]; omega)
      refine r3 i b z ?_ ?_
      · rw [List.getElem?_append_left (List.getElem?_eq_some_iff.mp z1).1]; exact z1
      · rw [List.getElem?_append_left (List.getElem?_eq_some_iff.mp z2).1]; exact z2
    rename_i c2
    refine len_l hD2 ?_
    refine pick_s (by rw [List.length_map]; omega) (by rw [List.length_map]; omega) s2 fun j H3 s3 f3 a3 b3 => ?_
    rw [List.length_map] at b3
    obtain ⟨j, rfl⟩ := Int.eq_ofNat_of_zero_le a3
    have hD3 := fr_ne f3 nD hD2
    have f13 := f12.trans f3
    refine set_l (j := j) hD3 (ixI rfl (by rw [List.length_map]; omega)) ?_
    have nrD : r ≠ D := ne_of_none r1 hD
    have em : (as.map V.ref).set j (.ref t) = (as.set j t).map V.ref := by rw [List.map_set]
    rw [em]
    have s4 : Sta K sc (upd H3 D (.lst ((as.set j t).map V.ref))) st := hs.upd hD s3
    have f4 : KW.Fr [st] H (upd H3 D (.lst ((as.set j t).map V.ref))) := fr_atL hD f13
    have hD4 : (upd H3 D (.lst ((as.set j t).map V.ref))) D = some (.lst ((as.set j t).map V.ref)) := upd_same
    generalize (upd H3 D (.lst ((as.set j t).map V.ref))) = H4 at s4 f4 hD4 ⊢
    have hr4 := fr_ne f4 nr r1
    have g2 : ∀ (i : Nat) (b : Addr) (z : List V), (as.set j t)[i]? = some b → (xs.set j y)[i]? = some z → H b = some (.tup z) := by
      intro i b z z1 z2
      by_cases c : j = i
      · subst c
        rw [List.getElem?_set_self (by omega)] at z1
        rw [List.getElem?_set_self (by omega)] at z2
        cases z1; cases z2
        exact ht
      · rw [List.getElem?_set_ne c] at z1 z2
        exact r3 i b z z1 z2
    have g4 : ∀ z ∈ xs.set j y, z ∈ y :: xs := fun z hz => by
      rcases List.mem_or_eq_of_mem_set hz with q | q
      · exact List.mem_cons_of_mem _ q
      · rw [q]; exact List.mem_cons_self
    have T1 : TLs H4 D (xs.set j y) := ⟨_, hD4, by simp [r2], fun i b z z1 z2 => fr_ne f4 (nt (g2 i b z z1 z2)) (g2 i b z z1 z2)⟩
    have T2 : TLs H4 r xs := ⟨_, hr4, r2, fun i b z z1 z2 => fr_ne f4 (nt (r3 i b z z1 z2)) (r3 i b z z1 z2)⟩
    have ok1 : ∀ t ∈ xs.set j y, ∀ v ∈ t, VOk v := fun z hz => ok z (g4 z hz)
    have ok2 : ∀ t ∈ xs, ∀ v ∈ t, VOk v := fun z hz => ok z (List.mem_cons_of_mem _ hz)
    refine ⟨.list ((xs.set j y).map dT), .list (xs.map dT), dp_TLs T1 ok1, dp_TLs T2 ok2, sh_T ok1, sh_T ok2, ?_⟩
    walk_at "kk"
    cases e : PyData.eqv (.list ((xs.set j y).map dT)) (.list (xs.map dT)) with
    | true =>
      rw [if_pos rfl]
      exact ⟨.inl ⟨_, .of hD4⟩, app (as.set j t) (xs.set j y) H4 s4 f4 hD4 (by simp [r2]) g2 g4 (by simp)⟩
    | false =>
      rw [if_neg (by simp)]
      refine fin (as.set j t) (xs.set j y) H4 s4 f4 hD4 (by simp [r2]) g2 ?_ g4 (by simp)
      intro z
      rw [z, eqv_sh (sh_T ok2)] at e
      cases e
end
end K25

set_option Elab.async false
set_option linter.all false
set_option maxRecDepth 100000
set_option maxHeartbeats 4000000
namespace K25
open PySem PySem.Spec PyProof.Rows L2 KW LS PK
local macro_rules | `(tactic| walk_at "kw") => `(tactic| simp only [tSeq, tNext, tIfS, tTest, tAnd, tOr, tNot, tAndV, tOrV, tNotV, tIf, tChain, tOp, tUn, tC, tAsg, gName, gSub, gCons, gNil, tRet, tRetN, tDrop, tCons, tNil, tCB, tAug, tSl, tPart, tNoPart, tLst, tTup, tBM, tBM0, uTest, uFor, iRng1, iRng2, iList, uCall, List.map_cons, List.map_nil, List.length_cons, List.length_nil, List.cons_append, List.nil_append, List.replicate, Nat.zero_add, Nat.reduceAdd, Nat.reduceSub, List.getElem?_cons_zero, List.getElem?_cons_succ, List.set_cons_zero, List.set_cons_succ, V.bl.injEq, V.int.injEq, V.str.injEq, V.ref.injEq, V.ty.injEq, List.cons.injEq, and_true, true_and, exists_eq_left', exists_eq_right, exists_eq_left, exists_and_left, exists_and_right, decide_eq_true_eq, Bool.not_eq_true', decide_eq_false_iff_not, Bool.false_eq_true, if_true, if_false, ite_true, ite_false, Bool.not_true, Bool.not_false, reduceCtorEq, decide_true, decide_false, Bool.not_not, isK_int_int, isK_int_bool, isK_int_str, isK_int_list, isK_int_tuple, isK_bool_int, isK_bool_bool, isK_bool_str, isK_str_str, isK_str_int, isK_str_bool, isK_str_tuple, isK_str_list, isK_list_list, isK_list_tuple, isK_tuple_tuple, isK_tuple_list, isOk_int_int, isOk_int_bool, isOk_int_str, isOk_int_list, isOk_int_tuple, isOk_bool_int, isOk_bool_bool, isOk_bool_str, isOk_str_str, isOk_str_int, isOk_str_bool, isOk_str_tuple, isOk_str_list, isOk_list_list, isOk_list_tuple, isOk_tuple_tuple, isOk_tuple_list, isK_dict_dict, isOk_dict_dict, isK_none_int, isK_none_bool, isOk_none_int, isOk_none_bool, tyV, S_inj, S_cat, L2.start, Nat.reduceSub, List.replicate_succ, List.replicate_zero, and_assoc, List.append_nil, Nat.reduceEqDiff, Option.some.injEq, Int.natCast_inj, upd_upd, Int.reducePow, Int.reduceToNat, Int.reduceMul, Int.reduceAdd, Int.reduceSub, Int.reduceLT, Int.reduceLE, Int.reduceNeg, Int.reduceDiv, Int.reduceMod, Nat.reducePow, Nat.reduceMul, S_len, List.length_append, List.length_map, List.length_range, not_true_eq_false, not_false_eq_true, ne_eq, uAdd_e1, uAdd_e2, uSub_e1, uMod_e1, uDiv_e1, uPow_e1, uShl_e1, uNeg_e1, uIAdd_e1, uIAdd_e2, uIAdd_e3, uISub_e1, uLt_e1, uLt_e2, uLe_e1, uGt_e1, uGe_e1, uEq_e1, uEq_e2, uEq_e3, uEq_e4, uEq_e5, uEq_e6, uEq_e7, uEq_e8, uEq_e9, uEq_e10, uEq_e11, uNe_e1, uNe_e2, uNe_e3, uNe_e4, uNe_e5, uNe_e6, uNe_e7, uNe_e8, uNe_e9, uNe_e10, uNe_e11, uIs_e1, uIs_e2, uIs_e3, uIs_e4, uIs_e5, uIs_e6, uIs_e7, uNotIs_e1, uNotIs_e2, uNotIs_e3, uNotIs_e4, uNotIs_e5, uNotIs_e6, uIn_e1, uIn_e2, uIn_e3, uIn_e4, uNotIn_e1, uNotIn_e2, uNotIn_e3, uNotIn_e4, uTru_e1, uTru_e2, uTru_e3, uTru_e4, uIx_e2, uSl_e2, uLen_e1, uAbs_e1, uInt_e1, uInt_e2, uMin2_e1, uIsi_e1, uIsi_e2, uIsi_e3, uIsi_e4, cx_K, uVar_0, uVar_n, uFld, uSFld, uMet, uMake, tDG, tDI, tDNI, tDP, tDD, uMk, uRaise, uDelSl, tCallS, L2.WE, uStr_e1, uStr_e2, uMul2_e1, uMul2_e2, okS_i, okS_s, List.zip_cons_cons, List.zip_nil_left, List.drop_zero, List.drop_succ_cons, List.drop_nil, putF_nil, putF_cons, eq_self, tDNewK, tB, Option.isSome_some, Option.isSome_none, false_and, false_or, or_false, exists_false, Int.zero_add, uLc, wipe, tYes, isEmpty_app, List.isEmpty_cons, List.isEmpty_nil, List.isEmpty_map, Bool.and_false, Bool.and_true, iRev, K25.lit_0, K25.lit_1, K25.lit_2, K25.lit_3, K25.lit_4, K25.lit_5, K25.lit_6, K25.lit_7, K25.lit_8, K25.lit_9, K25.lit_10, K25.lit_11, K25.lit_12, K25.lit_13, K25.lit_14, K25.lit_15, K25.lit_16, K25.lit_17, K25.lit_18, K25.lit_19, K25.lit_20, K25.lit_21, K25.lit_22, K25.lit_23, K25.lit_25, K25.lit_26, K25.lit_27, K25.lit_28, K25.lit_29, K25.lit_30, K25.lit_32, K25.lit_33, K25.lit_34, K25.lit_35, K25.lit_36, K25.lit_37, K25.lit_38, K25.lit_39, K25.lit_40, K25.lit_41, K25.lit_42, K25.lit_43, K25.lit_44, K25.lit_45, K25.lit_46, K25.lit_47, K25.lit_48, K25.lit_49, K25.lit_50, K25.lit_51, K25.fe_selector_argc, K25.fe_selector_locals, K25.fe_selector_stack, K25.fe_selector_code, K25.fe_selector_literals, K25.fe_argc_selector, K25.fe_argc_locals, K25.fe_argc_stack, K25.fe_argc_code, K25.fe_argc_literals, K25.fe_locals_selector, K25.fe_locals_argc, K25.fe_locals_stack, K25.fe_locals_code, K25.fe_locals_literals, K25.fe_stack_selector, K25.fe_stack_argc, K25.fe_stack_locals, K25.fe_stack_code, K25.fe_stack_literals, K25.fe_code_selector, K25.fe_code_argc, K25.fe_code_locals, K25.fe_code_stack, K25.fe_code_literals, K25.fe_literals_selector, K25.fe_literals_argc, K25.fe_literals_locals, K25.fe_literals_stack, K25.fe_literals_code, K25.fl_code_0, K25.lf_code_0, K25.fl_code_1, K25.lf_code_1, K25.fl_code_2, K25.lf_code_2, K25.fl_code_3, K25.lf_code_3, K25.fl_code_4, K25.lf_code_4, K25.fl_code_5, K25.lf_code_5, K25.fl_code_6, K25.lf_code_6, K25.fl_code_7, K25.lf_code_7, K25.fl_code_8, K25.lf_code_8, K25.fl_code_9, K25.lf_code_9, K25.fl_code_10, K25.lf_code_10, K25.fl_code_11, K25.lf_code_11, K25.fl_code_12, K25.lf_code_12, K25.fl_code_13, K25.lf_code_13, K25.fl_code_14, K25.lf_code_14, K25.fl_code_15, K25.lf_code_15, K25.fl_code_16, K25.lf_code_16, K25.fl_code_17, K25.lf_code_17, K25.fl_code_18, K25.lf_code_18, K25.fl_code_19, K25.lf_code_19, K25.fl_code_20, K25.lf_code_20, K25.fl_code_21, K25.lf_code_21, K25.fl_code_22, K25.lf_code_22, K25.fl_code_23, K25.lf_code_23, K25.fl_code_24, K25.lf_code_24, K25.fl_code_25, K25.lf_code_25, K25.fl_code_26, K25.lf_code_26, K25.fl_code_27, K25.lf_code_27, K25.fl_code_28, K25.lf_code_28, K25.fl_code_29, K25.lf_code_29, K25.fl_code_30, K25.lf_code_30, K25.fl_code_32, K25.lf_code_32, K25.fl_code_33, K25.lf_code_33, K25.fl_code_34, K25.lf_code_34, K25.fl_code_35, K25.lf_code_35, K25.fl_code_36, K25.lf_code_36, K25.fl_code_37, K25.lf_code_37, K25.fl_code_38, K25.lf_code_38, K25.fl_code_39, K25.lf_code_39, K25.fl_code_40, K25.lf_code_40, K25.fl_code_41, K25.lf_code_41, K25.fl_code_42, K25.lf_code_42, K25.fl_code_43, K25.lf_code_43, K25.fl_code_44, K25.lf_code_44, K25.fl_code_45, K25.lf_code_45, K25.fl_code_46, K25.lf_code_46, K25.fl_code_47, K25.lf_code_47, K25.fl_code_48, K25.lf_code_48, K25.fl_code_49, K25.lf_code_49, K25.fl_code_50, K25.lf_code_50, K25.fl_code_51, K25.lf_code_51, K25.fl_selector_0, K25.lf_selector_0, K25.fl_selector_1, K25.lf_selector_1, K25.fl_selector_2, K25.lf_selector_2, K25.fl_selector_3, K25.lf_selector_3, K25.fl_selector_4, K25.lf_selector_4, K25.fl_selector_5, K25.lf_selector_5, K25.fl_selector_6, K25.lf_selector_6, K25.fl_selector_7, K25.lf_selector_7, K25.fl_selector_8, K25.lf_selector_8, K25.fl_selector_9, K25.lf_selector_9, K25.fl_selector_10, K25.lf_selector_10, K25.fl_selector_11, K25.lf_selector_11, K25.fl_selector_12, K25.lf_selector_12, K25.fl_selector_13, K25.lf_selector_13, K25.fl_selector_14, K25.lf_selector_14, K25.fl_selector_15, K25.lf_selector_15, K25.fl_selector_16, K25.lf_selector_16, K25.fl_selector_17, K25.lf_selector_17, K25.fl_selector_18, K25.lf_selector_18, K25.fl_selector_19, K25.lf_selector_19, K25.fl_selector_20, K25.lf_selector_20, K25.fl_selector_21, K25.lf_selector_21, K25.fl_selector_22, K25.lf_selector_22, K25.fl_selector_23, K25.lf_selector_23, K25.fl_selector_25, K25.lf_selector_25, K25.fl_selector_26, K25.lf_selector_26, K25.fl_selector_27, K25.lf_selector_27, K25.fl_selector_28, K25.lf_selector_28, K25.fl_selector_29, K25.lf_selector_29, K25.fl_selector_30, K25.lf_selector_30, K25.fl_selector_31, K25.lf_selector_31, K25.fl_selector_32, K25.lf_selector_32, K25.fl_selector_33, K25.lf_selector_33, K25.fl_selector_34, K25.lf_selector_34, K25.fl_selector_35, K25.lf_selector_35, K25.fl_selector_36, K25.lf_selector_36, K25.fl_selector_37, K25.lf_selector_37, K25.fl_selector_38, K25.lf_selector_38, K25.fl_selector_39, K25.lf_selector_39, K25.fl_selector_40, K25.lf_selector_40, K25.fl_selector_41, K25.lf_selector_41, K25.fl_selector_42, K25.lf_selector_42, K25.fl_selector_43, K25.lf_selector_43, K25.fl_selector_44, K25.lf_selector_44, K25.fl_selector_45, K25.lf_selector_45, K25.fl_selector_46, K25.lf_selector_46, K25.fl_selector_47, K25.lf_selector_47, K25.fl_selector_48, K25.lf_selector_48, K25.fl_selector_49, K25.lf_selector_49, K25.fl_selector_50, K25.lf_selector_50, K25.fl_selector_51, K25.lf_selector_51, uAll_e, iTup_e, CwR.tReplC, uTuple_e, uFm_e1, uFm_e2, uIntS_e1, uIntS_e2, uIntS_e3, uEqO_e, tFm, tJs, iStr, S_e, itxt_S, K25.N_Draft_init, K25.N_Draft_parts, K25.N_Draft___eq__, K25.N_escaped, K25.N_joined, K25.N_literal_line, K25.N_list_draft, K25.N_number_in, K25.N_numbers_in, K25.N_unescaped, K25.N_read_head, K25.N_read_text, K25.N_read_literal, K25.N_read_instruction, K25.N_read_listing, K25.N__law_start, K25.N__law_pick, K25.N__law_text, K25.N__law_count, K25.N__law_literal, K25.N__law_plain, K25.N__law_instruction, K25.N__law_written, K25.N__law_lines, K25.N__law_draft, K25.N__law_parts, K25.N__law_changed, K25.N__law_others, K25.N_law])
local macro_rules | `(tactic| walk_at "nn") => `(tactic| first | assumption | exact ne_un (by assumption) | exact ne_un (ne_un (by assumption)) | exact ne_un (ne_un (ne_un (by assumption))) | exact ne_un (ne_un (ne_un (ne_un (by assumption)))))
local macro_rules | `(tactic| walk_at "ne") => `(tactic| first | assumption | (apply Ne.symm; assumption) | exact ne_ud (by assumption) | exact Ne.symm (ne_ud (by assumption)) | exact ne_ud (ne_un (by assumption)) | exact Ne.symm (ne_ud (ne_un (by assumption))) | exact ne_ud (ne_un (ne_un (by assumption))) | exact Ne.symm (ne_ud (ne_un (ne_un (by assumption)))) | exact ne_m (by assumption) (by assumption) | exact Ne.symm (ne_m (by assumption) (by assumption)) | exact ne_n (by assumption) (by walk_at "nn") | exact Ne.symm (ne_n (by assumption) (by walk_at "nn")))
local macro_rules | `(tactic| walk_at "hp") => `(tactic| first | assumption | exact upd_same | (refine Eq.trans (upd_ne ?_) ?_; (focus walk_at "ne"); walk_at "hp"))
local macro_rules | `(tactic| walk_at "sc") => `(tactic| first | (with_reducible assumption) | omega | exact le_line (by (try simp only [List.length_map, List.length_append, List.length_cons, List.length_nil, S_len]); omega) | exact div_s (by omega) | exact mul_r (by omega) | exact mul_l (by omega) | exact pow_s (by omega) | exact mul2_r (by omega) | exact mul2_l (by omega) | exact small4300 (by omega) | exact lt_line (by (try simp only [List.length_map, List.length_append, List.length_cons, List.length_nil, S_len]); omega) | exact ⟨_, by assumption⟩ | (guard_target =~ Exists _; exact ⟨_, .of (by walk_at "hp")⟩) | (guard_target =~ _ ∨ _; exact .inl ⟨_, by assumption⟩) | (guard_target =~ _ ∨ _; exact .inl ⟨_, .of (by walk_at "hp")⟩) | (guard_target =~ _ ∨ _; exact .inr (.inr (.inl ⟨rfl, .inl ⟨_, by walk_at "hp"⟩⟩))) | decide)
local macro_rules | `(tactic| walk_at "kr") => `(tactic| first | (guard_target =~ _ ∧ _; first | refine And.intro (by walk_at "sc") ?_) | (guard_target =~ KW.uIx _ _ _ _ _; first | refine ix_l (by walk_at "hp") (by first | walk_at "hv" | rfl) ?_ | refine ix_t (by walk_at "hp") (by first | walk_at "hv" | rfl) ?_ | refine ix_sl (by assumption) (by walk_at "hv") ?_) | (guard_target =~ KW.uLen _ _ _ _; first | refine len_l (by walk_at "hp") ?_ | refine len_t (by walk_at "hp") ?_ | refine len_sl (by assumption) ?_) | (guard_target =~ KW.uSet _ _ _ _ _; first | refine set_l (by walk_at "hp") (by first | walk_at "hv" | rfl) ?_) | (guard_target =~ L2.gTup _ _ _ _ _ _ _; first | refine tup_l (by walk_at "hp") (by rfl) ?_) | (guard_target =~ KW.uGet _ _ _ _ _; first | refine get_l (by walk_at "hp") (by walk_at "hc") (by decide) (by rfl) ?_) | (guard_target =~ KW.uPut _ _ _ _ _ _; first | refine put_l (by walk_at "hp") (by walk_at "hc") (by decide) (by simp) ?_) | (guard_target =~ KW.uMet.uMt _ _ _ _ _ _ _ _ _; first | refine met_l (by walk_at "hp") (by rfl) ?_) | (guard_target =~ KW.uMet.uMt _ _ _ _ _ _ _ _ _; first | refine ST.met_s (by assumption) (by decide) ?_) | (guard_target =~ ST.spExists _ _ _ _ _; first | refine ST.exists_s (by assumption) ?_) | (guard_target =~ ST.spUsed _ _ _ _ _; first | refine ST.used_s (by assumption) ?_) | (guard_target =~ KW.uGet _ _ _ _ _; first | refine ST.words_s (by assumption) (by walk_at "hc") (by decide) ?_) | (guard_target =~ KW.uDIn _ _ _ _; first | refine din_i (by walk_at "hp") ?_ | refine din_s (by walk_at "hp") ?_) | (guard_target =~ KW.uDGet _ _ _ _; first | refine dget_i (by walk_at "hp") (by walk_at "hv") ?_ | refine dget_s (by walk_at "hp") (by walk_at "hv") ?_) | (guard_target =~ KW.uDPut _ _ _ _ _; first | refine dput_i (by walk_at "hp") (by walk_at "sc") ?_ | refine dput_s (by walk_at "hp") (by walk_at "sc") ?_) | (guard_target =~ KW.uDDel _ _ _ _; first | refine ddel_i (by walk_at "hp") (by walk_at "hv") ?_ | refine ddel_s (by walk_at "hp") (by walk_at "hv") ?_) | (guard_target =~ KW.uMul2 _ _ _ _; first | refine rep_l (by walk_at "hp") (by walk_at "sc") (by walk_at "sc") (by walk_at "sc") ?_) | (guard_target =~ L2.rAppend _ _ _ _; first | refine app_l (by walk_at "hp") (by walk_at "sc") ?_) | (guard_target =~ L2.rPop _ _ _ _; first | refine pop_l (by walk_at "hp") (by walk_at "hv") ?_ | refine pops_l (by walk_at "hp") ?_) | (guard_target =~ L2.rClear _ _ _ _; first | refine clr_l (by walk_at "hp") ?_) | (guard_target =~ L2.rReverse _ _ _ _; first | refine rev_l (by walk_at "hp") ?_) | (guard_target =~ L2.rExtend _ _ _ _; first | refine ext_l (by walk_at "hp") (by walk_at "hp") (by walk_at "sc") ?_) | (guard_target =~ KW.uAdd _ _ _ _ _; first | refine ucat_l (by walk_at "hp") (by walk_at "hp") (by walk_at "sc") ?_) | (guard_target =~ KW.uSl _ _ _ _ _ _; first | refine usl_l (by walk_at "hp") ?_) | (guard_target =~ KW.uTru _ _ _ _; first | refine tru_l (by walk_at "hp") ?_ | refine tru_t (by walk_at "hp") ?_ | refine tru_d (by walk_at "hp") ?_ | refine tru_sl (by assumption) ?_) | (guard_target =~ L2.rIndex _ _ _ _ _; first | refine idx_s (by walk_at "hp") (by assumption) ?_ | refine idx_i (by walk_at "hp") (by assumption) ?_) | (guard_target =~ L2.rIn _ _ _ _ _ _; first | refine in_s (by walk_at "hp") ?_ | refine nin_s (by walk_at "hp") ?_ | refine in_i (by walk_at "hp") ?_ | refine nin_i (by walk_at "hp") ?_) | (guard_target =~ KW.uIsi _ _ _ _; first | refine isi_l (by walk_at "hp") (by decide +kernel) ?_ | refine isi_t (by walk_at "hp") (by decide +kernel) ?_ | refine isi_d (by walk_at "hp") (by decide +kernel) ?_) | (guard_target =~ KW.uList _ _ _ _; first | refine list_l (by walk_at "hp") ?_ | refine list_t (by walk_at "hp") ?_ | refine list_sl (by assumption) ?_) | (guard_target =~ KW.uDict _ _ _; first | refine dict_d (by walk_at "hp") ?_) | (guard_target =~ KW.uSorted _ _ _ _; first | refine srt_l (by walk_at "hp") ?_) | (guard_target =~ KW.uSum _ _ _ _; first | refine sum_l (by walk_at "hp") ?_) | (guard_target =~ KW.uDelC _ _ _ _; first | refine dels_l (by walk_at "hp") (by walk_at "sc") ?_) | (guard_target =~ L2.wAs _ _ _ _ _ _ _ _ _ _; first | refine as_yes (by walk_at "hx") ?_ | refine as_no (by walk_at "hx") ?_) | (guard_target =~ KW.uEf _ _ _ _ _ _ _ _ _; first | refine ef_l (by walk_at "he") (by decide) (by rfl) (by walk_at "hp") (by rfl) ?_) | (guard_target =~ KW.uIsE _ _ _ _ _ _ _; first | refine isE_r (by walk_at "he") (by walk_at "hp") (by walk_at "hk") ?_ | refine isE_t (by walk_at "he") (by walk_at "hp") (by walk_at "hk") ?_))
local macro_rules | `(tactic| walk_at "hv") => `(tactic| first | assumption)
local macro_rules | `(tactic| walk_at "kk") => `(tactic| repeat (first | walk_at "kw" | walk_at "kr"))
local macro_rules | `(tactic| walk_at "hc") => `(tactic| first | exact K25.Txt.c_Draft (by assumption))
local macro_rules | `(tactic| walk_at "he") => `(tactic| first | exact K25.Txt.e_Malformed (by assumption))
local macro_rules | `(tactic| walk_at "hx") => `(tactic| first | fail)
local macro_rules | `(tactic| walk_at "hk") => `(tactic| first | fail)

section
variable {P : Program} {w : World} {K : Frag} {mg : Str → Option Value} {base : Heap} {a : Ads}
theorem ok__law_others (T : Txt P w K mg a) : Cal P w K mg base 4 "_law_others" (spLOth K) := by
  have C__law_pick := ok__law_pick (P := P) (w := w) (base := base) T
  have C__law_changed := ok__law_changed (P := P) (w := w) (base := base) T
  have C__law_instruction := ok__law_instruction (P := P) (w := w) (base := base) T
  have C__law_literal := ok__law_literal (P := P) (w := w) (base := base) T
  refine T.d__law_others.ok sc__law_others (fun vs H Q E h => ?_) (fun f cdv A outer s H vs Q E hr h => ⟨_, (pss_cons (ps_set (i := 2) sc__law_others.nd rfl (Or.inl rfl) (pe_lst pa_nil))
      (pss_cons (k_for (passes_of rfl) rfl (pi_range1 (by rfl) T.n_range (pa_cons pe_int pa_nil)) (pg_name (i := 3) sc__law_others.nd rfl (Or.inl rfl))
      (pss_cons (ps_set (i := 4) sc__law_others.nd rfl (Or.inl rfl) (pe_callTy c_list (by rfl) T.n_list (by decide +kernel) (pa_cons (kv 1) pa_nil)))
      (C8.pss_cut (ps_if (pt_cmpR (o_eq hr.units) (kv 3) pe_int (nomark _))
      (pss_one (ps_asg (pe_op o_add (pe_ix o_ix (kv 1) pe_int (fun _ _ => rfl)) pe_str) (pg_sub (kv 4) pe_int s_set)))
      (pss_one (ps_if (pt_cmpR o_lt (kv 3) pe_int (nomark _))
      (pss_one (ps_asg (pe_op o_add (pe_ix o_ix (kv 1) (kv 3) (fun _ _ => rfl)) (pe_ix o_ix (pe_lst (pa_cons pe_int (pa_cons (pe_un o_neg pe_int) pa_nil))) (kc C__law_pick (hr.mono (by decide)) (pa_cons (kv 0) (pa_cons pe_int pa_nil))) (fun _ _ => rfl))) (pg_sub (kv 4) (kv 3) s_set)))
      (pss_one (ps_if (pt_cmpR (o_eq hr.units) (kv 3) pe_int (nomark _))
      (pss_one (ps_asg (kc C__law_changed (hr.mono (by decide)) (pa_cons (kv 0) (pa_cons (pe_ix o_ix (kv 1) pe_int (fun _ _ => rfl)) (pa_cons (kc C__law_instruction (hr.mono (by decide)) (pa_cons (kv 0) pa_nil)) pa_nil)))) (pg_sub (kv 4) pe_int s_set)))
      (pss_one (ps_asg (kc C__law_changed (hr.mono (by decide)) (pa_cons (kv 0) (pa_cons (pe_ix o_ix (kv 1) pe_int (fun _ _ => rfl)) (pa_cons (kc C__law_literal (hr.mono (by decide)) (pa_cons (kv 0) pa_nil)) pa_nil)))) (pg_sub (kv 4) pe_int s_set))))))))
      (pss_one (ps_expr (pe_bm PySem.F.plainAttrs_list PySem.F.slot_list_append PySem.F.type_list_append mt_append (kv 2) (pa_cons (kv 4) pa_nil)))))))
      (pss_one (ps_ret (kv 2))))), ?_⟩)
  · obtain ⟨st, q, sc, x, rfl, _⟩ := h; rfl
  · obtain ⟨st, q, sc, x, rfl, hs, hq, wf, hc, hl, h⟩ := h
    have okx := wf.ok
    walk_at "kk"
    intro p hp
    have np := hs.ne hp
    have hqp : PAtN p H q x := by
      obtain ⟨pc, pl, n1, n2, n3, h1, h2, h3, h4⟩ := hq
      exact ⟨pc, pl, n1, n2, n3, ne_of_none (code_ref h3).choose_spec.1 hp, ne_of_none (code_ref h4).choose_spec.1 hp, ne_of_none h2 hp, h1, h2, h3, h4⟩
    have hqp1 : PAtN p (upd H p (.lst [])) q x := hqp.st hs (KW.Fr.new hp)
    refine for_rng (fun i σ H' => ∃ (os : List (Addr × Dra)) (v3 v4 : Option V), σ = [some (.ref st), some (.ref q), some (.ref p), v3, v4] ∧ Sta K sc H' st ∧ KW.Fr [st] H H' ∧ H' p = some (.lst (os.map fun o => V.ref o.1)) ∧ os.length = i ∧ PAtN p H' q x ∧ ∀ o ∈ os, PAtN p H' o.1 o.2 ∧ o.2.ok ∧ o.2.is.length = 3 ∧ Dne x o.2) ⟨[], none, none, rfl, hs.new hp, KW.Fr.new hp, upd_same, rfl, hqp1, by simp⟩ ?_ ?_
    · rintro i σ H1 hi ⟨os, v3, v4, rfl, s1, f1, hp1, rfl, hq1, hos⟩
      have hq1' := hq1
      obtain ⟨pc, pl, n1, n2, n3, g1, g2, g3, ei, q1, tc, tl⟩ := hq1'
      have qst := hq1.p.ne s1
      walk_at "kk"
      intro o ho
      have no := s1.ne ho
      have f2 : KW.Fr [st] H1 (upd H1 o (.lst [.str (S x.sel), .int n1, .int n2, .int n3, .ref pc, .ref pl])) := KW.Fr.new ho
      have s2 := s1.new (o := .lst [.str (S x.sel), .int n1, .int n2, .int n3, .ref pc, .ref pl]) ho
      have nop : o ≠ p := Ne.symm (ne_of_none hp1 ho)
      have noq : q ≠ o := ne_of_none q1 ho
      have ho2 : (upd H1 o (.lst [.str (S x.sel), .int n1, .int n2, .int n3, .ref pc, .ref pl])) o = some (.lst [.str (S x.sel), .int n1, .int n2, .int n3, .ref pc, .ref pl]) := upd_same
      generalize (upd H1 o (.lst [.str (S x.sel), .int n1, .int n2, .int n3, .ref pc, .ref pl])) = H2 at f2 s2 ho2 ⊢
      have q2 := fr_ne f2 qst q1
      refine ⟨fun σ H5 => ∃ y : Dra, σ = [some (.ref st), some (.ref q), some (.ref p), some (.int os.length), some (.ref o)] ∧ Sta K sc H5 st ∧ KW.Fr [st] H1 H5 ∧ PAtN p H5 o y ∧ y.ok ∧ y.is.length = 3 ∧ Dne x y, ?_, ?_⟩
      · have fin : ∀ (y : Dra) (m1 m2 m3 : Int) (c l : Addr) (L : List V) (H5 : Hp), Sta K sc H5 st → KW.Fr [st] H1 H5 → H5 o = some (.lst L) → y.is = [m1, m2, m3] → c ≠ p → l ≠ p → c ≠ o → l ≠ o → TLs H5 c y.code → TLs H5 l y.lits → y.ok → Dne x y →
            Sta K sc (upd H5 o (.lst [.str (S y.sel), .int m1, .int m2, .int m3, .ref c, .ref l])) st ∧ KW.Fr [st] H1 (upd H5 o (.lst [.str (S y.sel), .int m1, .int m2, .int m3, .ref c, .ref l])) ∧ ∃ y', PAtN p (upd H5 o (.lst [.str (S y.sel), .int m1, .int m2, .int m3, .ref c, .ref l])) o y' ∧ y'.ok ∧ y'.is.length = 3 ∧ Dne x y' := fun y m1 m2 m3 c l L H5 s5 f5 h5 e1 e2 e3 e4 e5 t1 t2 oky dn =>
          ⟨s1.upd ho s5, fr_atL ho f5, y, ⟨c, l, m1, m2, m3, e2, e3, nop, e1, upd_same, t1.off e4 h5, t2.off e5 h5⟩, oky, by rw [e1]; rfl, dn⟩
        obtain ⟨ac, tc1⟩ := code_ref tc
        obtain ⟨al, tl1⟩ := code_ref tl
        have nc : pc ≠ o := ne_of_none tc1.1 ho
        have nl : pl ≠ o := ne_of_none tl1.1 ho
        have qf : ∀ {H5 : Hp}, KW.Fr [st] H2 H5 → H5 q = some (.lst [.str (S x.sel), .int n1, .int n2, .int n3, .ref pc, .ref pl]) := fun f => fr_ne f qst q2
        have of : ∀ {H5 : Hp}, KW.Fr [st] H2 H5 → H5 o = some (.lst [.str (S x.sel), .int n1, .int n2, .int n3, .ref pc, .ref pl]) := fun f => fr_ne f no ho2
        have tcf : ∀ {H5 : Hp}, KW.Fr [st] H2 H5 → TLs H5 pc x.code := fun f => tc.st s1 (f2.trans f)
        have tlf : ∀ {H5 : Hp}, KW.Fr [st] H2 H5 → TLs H5 pl x.lits := fun f => tl.st s1 (f2.trans f)
        have rf2 : KW.Fr [st] H2 H2 := fun _ _ _ e => e
        walk_at "kk"
        have c6 : os.length = 0 ∨ os.length = 1 ∨ os.length = 2 ∨ os.length = 3 ∨ os.length = 4 ∨ os.length = 5 := by omega
        rcases c6 with e | e | e | e | e | e <;> rw [e]
        · rw [if_pos (by decide)]
          refine ix_l q2 (atI_nat (j := 0) rfl) ?_
          walk_at "kk"
          refine ⟨le_line (by have := wf.sel.1.len; omega), ?_⟩
          refine set_l (j := 0) (of rf2) (ixI rfl (by simp)) ?_
          exact fin ⟨x.sel ++ [120], x.is, x.code, x.lits⟩ n1 n2 n3 pc pl _ H2 s2 f2 (of rf2) ei g1 g2 nc nl (tcf rf2) (tlf rf2) ⟨fun c hc => by
            rcases List.mem_append.mp hc with z | z
            · exact okx.sel c z
            · have : c = 120 := by simpa using z
              omega, okx.code, okx.lits⟩ (.inl fun z => by have := congrArg List.length z; simp at this)
        · rw [if_neg (by decide), if_pos (by decide)]
          refine ix_l q2 (atI_nat (j := 1) rfl) ?_
          refine ⟨by decide, fun p1 hp1 => ?_⟩
          refine pick_s (by decide) (by decide) (s2.new hp1) fun r H4 s4 f4 a4 b4 => ?_
          have f24 := (KW.Fr.new (l := [st]) hp1).trans f4
          refine ix_all (fr_ne f4 (s2.ne hp1) upd_same) a4 (by simpa using b4) fun v hv => ?_
          obtain ⟨d, rfl, hd⟩ : ∃ d : Int, v = .int d ∧ d ≠ 0 := by
            simp only [List.mem_cons, List.not_mem_nil, or_false] at hv
            rcases hv with rfl | rfl
            · exact ⟨_, rfl, by decide⟩
            · exact ⟨_, rfl, by decide⟩
          walk_at "kk"
          refine set_l (j := 1) (of f24) (ixI rfl (by simp)) ?_
          exact fin ⟨x.sel, [n1 + d, n2, n3], x.code, x.lits⟩ (n1 + d) (n2) (n3) pc pl _ H4 s4 (f2.trans f24) (of f24) rfl g1 g2 nc nl (tcf f24) (tlf f24) ⟨okx.sel, okx.code, okx.lits⟩ (.inr (.inl (by rw [ei]; intro z; simp only [List.cons.injEq, and_true] at z; omega)))
        · rw [if_neg (by decide), if_pos (by decide)]
          refine ix_l q2 (atI_nat (j := 2) rfl) ?_
          refine ⟨by decide, fun p1 hp1 => ?_⟩
          refine pick_s (by decide) (by decide) (s2.new hp1) fun r H4 s4 f4 a4 b4 => ?_
          have f24 := (KW.Fr.new (l := [st]) hp1).trans f4
          refine ix_all (fr_ne f4 (s2.ne hp1) upd_same) a4 (by simpa using b4) fun v hv => ?_
          obtain ⟨d, rfl, hd⟩ : ∃ d : Int, v = .int d ∧ d ≠ 0 := by
            simp only [List.mem_cons, List.not_mem_nil, or_false] at hv
            rcases hv with rfl | rfl
            · exact ⟨_, rfl, by decide⟩
            · exact ⟨_, rfl, by decide⟩
          walk_at "kk"
          refine set_l (j := 2) (of f24) (ixI rfl (by simp)) ?_
          exact fin ⟨x.sel, [n1, n2 + d, n3], x.code, x.lits⟩ (n1) (n2 + d) (n3) pc pl _ H4 s4 (f2.trans f24) (of f24) rfl g1 g2 nc nl (tcf f24) (tlf f24) ⟨okx.sel, okx.code, okx.lits⟩ (.inr (.inl (by rw [ei]; intro z; simp only [List.cons.injEq, and_true] at z; omega)))
        · rw [if_neg (by decide), if_pos (by decide)]
          refine ix_l q2 (atI_nat (j := 3) rfl) ?_
          refine ⟨by decide, fun p1 hp1 => ?_⟩
          refine pick_s (by decide) (by decide) (s2.new hp1) fun r H4 s4 f4 a4 b4 => ?_
          have f24 := (KW.Fr.new (l := [st]) hp1).trans f4
          refine ix_all (fr_ne f4 (s2.ne hp1) upd_same) a4 (by simpa using b4) fun v hv => ?_
          obtain ⟨d, rfl, hd⟩ : ∃ d : Int, v = .int d ∧ d ≠ 0 := by
            simp only [List.mem_cons, List.not_mem_nil, or_false] at hv
            rcases hv with rfl | rfl
            · exact ⟨_, rfl, by decide⟩
            · exact ⟨_, rfl, by decide⟩
          walk_at "kk"
          refine set_l (j := 3) (of f24) (ixI rfl (by simp)) ?_
          exact fin ⟨x.sel, [n1, n2, n3 + d], x.code, x.lits⟩ (n1) (n2) (n3 + d) pc pl _ H4 s4 (f2.trans f24) (of f24) rfl g1 g2 nc nl (tcf f24) (tlf f24) ⟨okx.sel, okx.code, okx.lits⟩ (.inr (.inl (by rw [ei]; intro z; simp only [List.cons.injEq, and_true] at z; omega)))
        · rw [if_neg (by decide), if_neg (by decide), if_pos (by decide)]
          refine ix_l q2 (atI_nat (j := 4) rfl) ?_
          refine ⟨st, sc, rfl, s2, fun t y H3 s3 f3 ht3 ht oky => ?_⟩
          refine ⟨st, pc, t, sc, x.code, y, rfl, s3, tcf f3, ht, hc, ?_, fun D ys H4 s4 f4 hD tD ne mem len => ?_⟩
          · intro z hz
            rcases List.mem_cons.mp hz with rfl | hz
            · exact oky.v
            · exact okx.code z hz
          · have f24 := f3.trans f4
            have nDo : D ≠ o := fun z => by rw [z, of f3] at hD; cases hD
            have nDp : D ≠ p := fun z => by rw [z, fr_ne (f2.trans f3) np hp1] at hD; cases hD
            have okn : ∀ z ∈ ys, ∀ v ∈ z, VOk v := fun z hz => by
              rcases List.mem_cons.mp (mem z hz) with rfl | hz
              · exact oky.v
              · exact okx.code z hz
            refine set_l (j := 4) (of f24) (ixI rfl (by simp)) ?_
            exact fin ⟨x.sel, x.is, ys, x.lits⟩ n1 n2 n3 D pl _ H4 s4 (f2.trans f24) (of f24) ei nDp g2 nDo nl tD (tlf f24) ⟨okx.sel, okn, okx.lits⟩ (.inr (.inr (.inl ne.symm)))
        · rw [if_neg (by decide), if_neg (by decide), if_neg (by decide)]
          refine ix_l q2 (atI_nat (j := 5) rfl) ?_
          refine ⟨st, sc, rfl, s2, fun t y H3 s3 f3 ht3 ht oky => ?_⟩
          refine ⟨st, pl, t, sc, x.lits, y, rfl, s3, tlf f3, ht, hl, ?_, fun D ys H4 s4 f4 hD tD ne mem len => ?_⟩
          · intro z hz
            rcases List.mem_cons.mp hz with rfl | hz
            · exact oky.v
            · exact okx.lits z hz
          · have f24 := f3.trans f4
            have nDo : D ≠ o := fun z => by rw [z, of f3] at hD; cases hD
            have nDp : D ≠ p := fun z => by rw [z, fr_ne (f2.trans f3) np hp1] at hD; cases hD
            have okn : ∀ z ∈ ys, ∀ v ∈ z, VOk v := fun z hz => by
              rcases List.mem_cons.mp (mem z hz) with rfl | hz
              · exact oky.v
              · exact okx.lits z hz
            refine set_l (j := 5) (of f24) (ixI rfl (by simp)) ?_
            exact fin ⟨x.sel, x.is, x.code, ys⟩ n1 n2 n3 pc D _ H4 s4 (f2.trans f24) (of f24) ei g1 nDp nc nDo (tcf f24) tD ⟨okx.sel, okx.code, okn⟩ (.inr (.inr (.inr ne.symm)))
      · rintro σ H5 ⟨y, rfl, s5, f5, hy, oky, l3, dn⟩
        have hp5 := fr_ne f5 np hp1
        walk_at "kk"
        refine ⟨⟨_, rfl⟩, hs.upd hp s5, fr_atL hp (f1.trans f5), os ++ [(o, y)], by rw [upd_same, List.map_append]; rfl, by simp, (hq1.st s1 f5).upd hp5, fun z hz => ?_⟩
        rcases List.mem_append.mp hz with z1 | z1
        · obtain ⟨a1, a2, a3, a4⟩ := hos z z1
          exact ⟨(a1.st s1 f5).upd hp5, a2, a3, a4⟩
        · have : z = (o, y) := by simpa using z1
          rw [this]
          exact ⟨hy.upd hp5, oky, l3, dn⟩
    · rintro σ H1 ⟨os, v3, v4, rfl, s1, f1, hp1, l6, hq1, hos⟩
      walk_at "kk"
      refine h p os H1 s1 f1 hp1 (by omega) fun z hz => ?_
      obtain ⟨a1, a2, a3, a4⟩ := hos z hz
      exact ⟨a1.p, a2, a3, eqvD_ne okx a2 wf.l3 a3 a4, eqvD_ne a2 okx a3 wf.l3 a4.symm⟩
end
end K25

set_option Elab.async false
set_option linter.all false
set_option maxRecDepth 100000
set_option maxHeartbeats 4000000
namespace K25
open PySem PySem.Spec PyProof.Rows L2 KW LS PK
local macro_rules | `(tactic| walk_at "kw") => `(tactic| simp only [tSeq, tNext, tIfS, tTest, tAnd, tOr, tNot, tAndV, tOrV, tNotV, tIf, tChain, tOp, tUn, tC, tAsg, gName, gSub, gCons, gNil, tRet, tRetN, tDrop, tCons, tNil, tCB, tAug, tSl, tPart, tNoPart, tLst, tTup, tBM, tBM0, uTest, uFor, iRng1, iRng2, iList, uCall, List.map_cons, List.map_nil, List.length_cons, List.length_nil, List.cons_append, List.nil_append, List.replicate, Nat.zero_add, Nat.reduceAdd, Nat.reduceSub, List.getElem?_cons_zero, List.getElem?_cons_succ, List.set_cons_zero, List.set_cons_succ, V.bl.injEq, V.int.injEq, V.str.injEq, V.ref.injEq, V.ty.injEq, List.cons.injEq, and_true, true_and, exists_eq_left', exists_eq_right, exists_eq_left, exists_and_left, exists_and_right, decide_eq_true_eq, Bool.not_eq_true', decide_eq_false_iff_not, Bool.false_eq_true, if_true, if_false, ite_true, ite_false, Bool.not_true, Bool.not_false, reduceCtorEq, decide_true, decide_false, Bool.not_not, isK_int_int, isK_int_bool, isK_int_str, isK_int_list, isK_int_tuple, isK_bool_int, isK_bool_bool, isK_bool_str, isK_str_str, isK_str_int, isK_str_bool, isK_str_tuple, isK_str_list, isK_list_list, isK_list_tuple, isK_tuple_tuple, isK_tuple_list, isOk_int_int, isOk_int_bool, isOk_int_str, isOk_int_list, isOk_int_tuple, isOk_bool_int, isOk_bool_bool, isOk_bool_str, isOk_str_str, isOk_str_int, isOk_str_bool, isOk_str_tuple, isOk_str_list, isOk_list_list, isOk_list_tuple, isOk_tuple_tuple, isOk_tuple_list, isK_dict_dict, isOk_dict_dict, isK_none_int, isK_none_bool, isOk_none_int, isOk_none_bool, tyV, S_inj, S_cat, L2.start, Nat.reduceSub, List.replicate_succ, List.replicate_zero, and_assoc, List.append_nil, Nat.reduceEqDiff, Option.some.injEq, Int.natCast_inj, upd_upd, Int.reducePow, Int.reduceToNat, Int.reduceMul, Int.reduceAdd, Int.reduceSub, Int.reduceLT, Int.reduceLE, Int.reduceNeg, Int.reduceDiv, Int.reduceMod, Nat.reducePow, Nat.reduceMul, S_len, List.length_append, List.length_map, List.length_range, not_true_eq_false, not_false_eq_true, ne_eq, uAdd_e1, uAdd_e2, uSub_e1, uMod_e1, uDiv_e1, uPow_e1, uShl_e1, uNeg_e1, uIAdd_e1, uIAdd_e2, uIAdd_e3, uISub_e1, uLt_e1, uLt_e2, uLe_e1, uGt_e1, uGe_e1, uEq_e1, uEq_e2, uEq_e3, uEq_e4, uEq_e5, uEq_e6, uEq_e7, uEq_e8, uEq_e9, uEq_e10, uEq_e11, uNe_e1, uNe_e2, uNe_e3, uNe_e4, uNe_e5, uNe_e6, uNe_e7, uNe_e8, uNe_e9, uNe_e10, uNe_e11, uIs_e1, uIs_e2, uIs_e3, uIs_e4, uIs_e5, uIs_e6, uIs_e7, uNotIs_e1, uNotIs_e2, uNotIs_e3, uNotIs_e4, uNotIs_e5, uNotIs_e6, uIn_e1, uIn_e2, uIn_e3, uIn_e4, uNotIn_e1, uNotIn_e2, uNotIn_e3, uNotIn_e4, uTru_e1, uTru_e2, uTru_e3, uTru_e4, uIx_e2, uSl_e2, uLen_e1, uAbs_e1, uInt_e1, uInt_e2, uMin2_e1, uIsi_e1, uIsi_e2, uIsi_e3, uIsi_e4, cx_K, uVar_0, uVar_n, uFld, uSFld, uMet, uMake, tDG, tDI, tDNI, tDP, tDD, uMk, uRaise, uDelSl, tCallS, L2.WE, uStr_e1, uStr_e2, uMul2_e1, uMul2_e2, okS_i, okS_s, List.zip_cons_cons, List.zip_nil_left, List.drop_zero, List.drop_succ_cons, List.drop_nil, putF_nil, putF_cons, eq_self, tDNewK, tB, Option.isSome_some, Option.isSome_none, false_and, false_or, or_false, exists_false, Int.zero_add, uLc, wipe, tYes, isEmpty_app, List.isEmpty_cons, List.isEmpty_nil, List.isEmpty_map, Bool.and_false, Bool.and_true, iRev, K25.lit_0, K25.lit_1, K25.lit_2, K25.lit_3, K25.lit_4, K25.lit_5, K25.lit_6, K25.lit_7, K25.lit_8, K25.lit_9, K25.lit_10, K25.lit_11, K25.lit_12, K25.lit_13, K25.lit_14, K25.lit_15, K25.lit_16, K25.lit_17, K25.lit_18, K25.lit_19, K25.lit_20, K25.lit_21, K25.lit_22, K25.lit_23, K25.lit_25, K25.lit_26, K25.lit_27, K25.lit_28, K25.lit_29, K25.lit_30, K25.lit_32, K25.lit_33, K25.lit_34, K25.lit_35, K25.lit_36, K25.lit_37, K25.lit_38, K25.lit_39, K25.lit_40, K25.lit_41, K25.lit_42, K25.lit_43, K25.lit_44, K25.lit_45, K25.lit_46, K25.lit_47, K25.lit_48, K25.lit_49, K25.lit_50, K25.lit_51, K25.fe_selector_argc, K25.fe_selector_locals, K25.fe_selector_stack, K25.fe_selector_code, K25.fe_selector_literals, K25.fe_argc_selector, K25.fe_argc_locals, K25.fe_argc_stack, K25.fe_argc_code, K25.fe_argc_literals, K25.fe_locals_selector, K25.fe_locals_argc, K25.fe_locals_stack, K25.fe_locals_code, K25.fe_locals_literals, K25.fe_stack_selector, K25.fe_stack_argc, K25.fe_stack_locals, K25.fe_stack_code, K25.fe_stack_literals, K25.fe_code_selector, K25.fe_code_argc, K25.fe_code_locals, K25.fe_code_stack, K25.fe_code_literals, K25.fe_literals_selector, K25.fe_literals_argc, K25.fe_literals_locals, K25.fe_literals_stack, K25.fe_literals_code, K25.fl_code_0, K25.lf_code_0, K25.fl_code_1, K25.lf_code_1, K25.fl_code_2, K25.lf_code_2, K25.fl_code_3, K25.lf_code_3, K25.fl_code_4, K25.lf_code_4, K25.fl_code_5, K25.lf_code_5, K25.fl_code_6, K25.lf_code_6, K25.fl_code_7, K25.lf_code_7, K25.fl_code_8, K25.lf_code_8, K25.fl_code_9, K25.lf_code_9, K25.fl_code_10, K25.lf_code_10, K25.fl_code_11, K25.lf_code_11, K25.fl_code_12, K25.lf_code_12, K25.fl_code_13, K25.lf_code_13, K25.fl_code_14, K25.lf_code_14, K25.fl_code_15, K25.lf_code_15, K25.fl_code_16, K25.lf_code_16, K25.fl_code_17, K25.lf_code_17, K25.fl_code_18, K25.lf_code_18, K25.fl_code_19, K25.lf_code_19, K25.fl_code_20, K25.lf_code_20, K25.fl_code_21, K25.lf_code_21, K25.fl_code_22, K25.lf_code_22, K25.fl_code_23, K25.lf_code_23, K25.fl_code_24, K25.lf_code_24, K25.fl_code_25, K25.lf_code_25, K25.fl_code_26, K25.lf_code_26, K25.fl_code_27, K25.lf_code_27, K25.fl_code_28, K25.lf_code_28, K25.fl_code_29, K25.lf_code_29, K25.fl_code_30, K25.lf_code_30, K25.fl_code_32, K25.lf_code_32, K25.fl_code_33, K25.lf_code_33, K25.fl_code_34, K25.lf_code_34, K25.fl_code_35, K25.lf_code_35, K25.fl_code_36, K25.lf_code_36, K25.fl_code_37, K25.lf_code_37, K25.fl_code_38, K25.lf_code_38, K25.fl_code_39, K25.lf_code_39, K25.fl_code_40, K25.lf_code_40, K25.fl_code_41, K25.lf_code_41, K25.fl_code_42, K25.lf_code_42, K25.fl_code_43, K25.lf_code_43, K25.fl_code_44, K25.lf_code_44, K25.fl_code_45, K25.lf_code_45, K25.fl_code_46, K25.lf_code_46, K25.fl_code_47, K25.lf_code_47, K25.fl_code_48, K25.lf_code_48, K25.fl_code_49, K25.lf_code_49, K25.fl_code_50, K25.lf_code_50, K25.fl_code_51, K25.lf_code_51, K25.fl_selector_0, K25.lf_selector_0, K25.fl_selector_1, K25.lf_selector_1, K25.fl_selector_2, K25.lf_selector_2, K25.fl_selector_3, K25.lf_selector_3, K25.fl_selector_4, K25.lf_selector_4, K25.fl_selector_5, K25.lf_selector_5, K25.fl_selector_6, K25.lf_selector_6, K25.fl_selector_7, K25.lf_selector_7, K25.fl_selector_8, K25.lf_selector_8, K25.fl_selector_9, K25.lf_selector_9, K25.fl_selector_10, K25.lf_selector_10, K25.fl_selector_11, K25.lf_selector_11, K25.fl_selector_12, K25.lf_selector_12, K25.fl_selector_13, K25.lf_selector_13, K25.fl_selector_14, K25.lf_selector_14, K25.fl_selector_15, K25.lf_selector_15, K25.fl_selector_16, K25.lf_selector_16, K25.fl_selector_17, K25.lf_selector_17, K25.fl_selector_18, K25.lf_selector_18, K25.fl_selector_19, K25.lf_selector_19, K25.fl_selector_20, K25.lf_selector_20, K25.fl_selector_21, K25.lf_selector_21, K25.fl_selector_22, K25.lf_selector_22, K25.fl_selector_23, K25.lf_selector_23, K25.fl_selector_25, K25.lf_selector_25, K25.fl_selector_26, K25.lf_selector_26, K25.fl_selector_27, K25.lf_selector_27, K25.fl_selector_28, K25.lf_selector_28, K25.fl_selector_29, K25.lf_selector_29, K25.fl_selector_30, K25.lf_selector_30, K25.fl_selector_31, K25.lf_selector_31, K25.fl_selector_32, K25.lf_selector_32, K25.fl_selector_33, K25.lf_selector_33, K25.fl_selector_34, K25.lf_selector_34, K25.fl_selector_35, K25.lf_selector_35, K25.fl_selector_36, K25.lf_selector_36, K25.fl_selector_37, K25.lf_selector_37, K25.fl_selector_38, K25.lf_selector_38, K25.fl_selector_39, K25.lf_selector_39, K25.fl_selector_40, K25.lf_selector_40, K25.fl_selector_41, K25.lf_selector_41, K25.fl_selector_42, K25.lf_selector_42, K25.fl_selector_43, K25.lf_selector_43, K25.fl_selector_44, K25.lf_selector_44, K25.fl_selector_45, K25.lf_selector_45, K25.fl_selector_46, K25.lf_selector_46, K25.fl_selector_47, K25.lf_selector_47, K25.fl_selector_48, K25.lf_selector_48, K25.fl_selector_49, K25.lf_selector_49, K25.fl_selector_50, K25.lf_selector_50, K25.fl_selector_51, K25.lf_selector_51, uAll_e, iTup_e, CwR.tReplC, uTuple_e, uFm_e1, uFm_e2, uIntS_e1, uIntS_e2, uIntS_e3, uEqO_e, tFm, tJs, iStr, S_e, itxt_S, K25.N_Draft_init, K25.N_Draft_parts, K25.N_Draft___eq__, K25.N_escaped, K25.N_joined, K25.N_literal_line, K25.N_list_draft, K25.N_number_in, K25.N_numbers_in, K25.N_unescaped, K25.N_read_head, K25.N_read_text, K25.N_read_literal, K25.N_read_instruction, K25.N_read_listing, K25.N__law_start, K25.N__law_pick, K25.N__law_text, K25.N__law_count, K25.N__law_literal, K25.N__law_plain, K25.N__law_instruction, K25.N__law_written, K25.N__law_lines, K25.N__law_draft, K25.N__law_parts, K25.N__law_changed, K25.N__law_others, K25.N_law])
local macro_rules | `(tactic| walk_at "nn") => `(tactic| first | assumption | exact ne_un (by assumption) | exact ne_un (ne_un (by assumption)) | exact ne_un (ne_un (ne_un (by assumption))) | exact ne_un (ne_un (ne_un (ne_un (by assumption)))))
local macro_rules | `(tactic| walk_at "ne") => `(tactic| first | assumption | (apply Ne.symm; assumption) | exact ne_ud (by assumption) | exact Ne.symm (ne_ud (by assumption)) | exact ne_ud (ne_un (by assumption)) | exact Ne.symm (ne_ud (ne_un (by assumption))) | exact ne_ud (ne_un (ne_un (by assumption))) | exact Ne.symm (ne_ud (ne_un (ne_un (by assumption)))) | exact ne_m (by assumption) (by assumption) | exact Ne.symm (ne_m (by assumption) (by assumption)) | exact ne_n (by assumption) (by walk_at "nn") | exact Ne.symm (ne_n (by assumption) (by walk_at "nn")))
local macro_rules | `(tactic| walk_at "hp") => `(tactic| first | assumption | exact upd_same | (refine Eq.trans (upd_ne ?_) ?_; (focus walk_at "ne"); walk_at "hp"))
local macro_rules | `(tactic| walk_at "sc") => `(tactic| first | (with_reducible assumption) | omega | exact le_line (by (try simp only [List.length_map, List.length_append, List.length_cons, List.length_nil, S_len]); omega) | exact div_s (by omega) | exact mul_r (by omega) | exact mul_l (by omega) | exact pow_s (by omega) | exact mul2_r (by omega) | exact mul2_l (by omega) | exact small4300 (by omega) | exact lt_line (by (try simp only [List.length_map, List.length_append, List.length_cons, List.length_nil, S_len]); omega) | exact ⟨_, by assumption⟩ | (guard_target =~ Exists _; exact ⟨_, .of (by walk_at "hp")⟩) | (guard_target =~ _ ∨ _; exact .inl ⟨_, by assumption⟩) | (guard_target =~ _ ∨ _; exact .inl ⟨_, .of (by walk_at "hp")⟩) | (guard_target =~ _ ∨ _; exact .inr (.inr (.inl ⟨rfl, .inl ⟨_, by walk_at "hp"⟩⟩))) | decide)
local macro_rules | `(tactic| walk_at "kr") => `(tactic| first | (guard_target =~ _ ∧ _; first | refine And.intro (by walk_at "sc") ?_) | (guard_target =~ KW.uIx _ _ _ _ _; first | refine ix_l (by walk_at "hp") (by first | walk_at "hv" | rfl) ?_ | refine ix_t (by walk_at "hp") (by first | walk_at "hv" | rfl) ?_ | refine ix_sl (by assumption) (by walk_at "hv") ?_) | (guard_target =~ KW.uLen _ _ _ _; first | refine len_l (by walk_at "hp") ?_ | refine len_t (by walk_at "hp") ?_ | refine len_sl (by assumption) ?_) | (guard_target =~ KW.uSet _ _ _ _ _; first | refine set_l (by walk_at "hp") (by first | walk_at "hv" | rfl) ?_) | (guard_target =~ L2.gTup _ _ _ _ _ _ _; first | refine tup_l (by walk_at "hp") (by rfl) ?_) | (guard_target =~ KW.uGet _ _ _ _ _; first | refine get_l (by walk_at "hp") (by walk_at "hc") (by decide) (by rfl) ?_) | (guard_target =~ KW.uPut _ _ _ _ _ _; first | refine put_l (by walk_at "hp") (by walk_at "hc") (by decide) (by simp) ?_) | (guard_target =~ KW.uMet.uMt _ _ _ _ _ _ _ _ _; first | refine met_l (by walk_at "hp") (by rfl) ?_) | (guard_target =~ KW.uMet.uMt _ _ _ _ _ _ _ _ _; first | refine ST.met_s (by assumption) (by decide) ?_) | (guard_target =~ ST.spExists _ _ _ _ _; first | refine ST.exists_s (by assumption) ?_) | (guard_target =~ ST.spUsed _ _ _ _ _; first | refine ST.used_s (by assumption) ?_) | (guard_target =~ KW.uGet _ _ _ _ _; first | refine ST.words_s (by assumption) (by walk_at "hc") (by decide) ?_) | (guard_target =~ KW.uDIn _ _ _ _; first | refine din_i (by walk_at "hp") ?_ | refine din_s (by walk_at "hp") ?_) | (guard_target =~ KW.uDGet _ _ _ _; first | refine dget_i (by walk_at "hp") (by walk_at "hv") ?_ | refine dget_s (by walk_at "hp") (by walk_at "hv") ?_) | (guard_target =~ KW.uDPut _ _ _ _ _; first | refine dput_i (by walk_at "hp") (by walk_at "sc") ?_ | refine dput_s (by walk_at "hp") (by walk_at "sc") ?_) | (guard_target =~ KW.uDDel _ _ _ _; first | refine ddel_i (by walk_at "hp") (by walk_at "hv") ?_ | refine ddel_s (by walk_at "hp") (by walk_at "hv") ?_) | (guard_target =~ KW.uMul2 _ _ _ _; first | refine rep_l (by walk_at "hp") (by walk_at "sc") (by walk_at "sc") (by walk_at "sc") ?_) | (guard_target =~ L2.rAppend _ _ _ _; first | refine app_l (by walk_at "hp") (by walk_at "sc") ?_) | (guard_target =~ L2.rPop _ _ _ _; first | refine pop_l (by walk_at "hp") (by walk_at "hv") ?_ | refine pops_l (by walk_at "hp") ?_) | (guard_target =~ L2.rClear _ _ _ _; first | refine clr_l (by walk_at "hp") ?_) | (guard_target =~ L2.rReverse _ _ _ _; first | refine rev_l (by walk_at "hp") ?_) | (guard_target =~ L2.rExtend _ _ _ _; first | refine ext_l (by walk_at "hp") (by walk_at "hp") (by walk_at "sc") ?_) | (guard_target =~ KW.uAdd _ _ _ _ _; first | refine ucat_l (by walk_at "hp") (by walk_at "hp") (by walk_at "sc") ?_) | (guard_target =~ KW.uSl _ _ _ _ _ _; first | refine usl_l (by walk_at "hp") ?_) | (guard_target =~ KW.uTru _ _ _ _; first | refine tru_l (by walk_at "hp") ?_ | refine tru_t (by walk_at "hp") ?_ | refine tru_d (by walk_at "hp") ?_ | refine tru_sl (by assumption) ?_) | (guard_target =~ L2.rIndex _ _ _ _ _; first | refine idx_s (by walk_at "hp") (by assumption) ?_ | refine idx_i (by walk_at "hp") (by assumption) ?_) | (guard_target =~ L2.rIn _ _ _ _ _ _; first | refine in_s (by walk_at "hp") ?_ | refine nin_s (by walk_at "hp") ?_ | refine in_i (by walk_at "hp") ?_ | refine nin_i (by walk_at "hp") ?_) | (guard_target =~ KW.uIsi _ _ _ _; first | refine isi_l (by walk_at "hp") (by decide +kernel) ?_ | refine isi_t (by walk_at "hp") (by decide +kernel) ?_ | refine isi_d (by walk_at "hp") (by decide +kernel) ?_) | (guard_target =~ KW.uList _ _ _ _; first | refine list_l (by walk_at "hp") ?_ | refine list_t (by walk_at "hp") ?_ | refine list_sl (by assumption) ?_) | (guard_target =~ KW.uDict _ _ _; first | refine dict_d (by walk_at "hp") ?_) | (guard_target =~ KW.uSorted _ _ _ _; first | refine srt_l (by walk_at "hp") ?_) | (guard_target =~ KW.uSum _ _ _ _; first | refine sum_l (by walk_at "hp") ?_) | (guard_target =~ KW.uDelC _ _ _ _; first | refine dels_l (by walk_at "hp") (by walk_at "sc") ?_) | (guard_target =~ L2.wAs _ _ _ _ _ _ _ _ _ _; first | refine as_yes (by walk_at "hx") ?_ | refine as_no (by walk_at "hx") ?_) | (guard_target =~ KW.uEf _ _ _ _ _ _ _ _ _; first | refine ef_l (by walk_at "he") (by decide) (by rfl) (by walk_at "hp") (by rfl) ?_) | (guard_target =~ KW.uIsE _ _ _ _ _ _ _; first | refine isE_r (by walk_at "he") (by walk_at "hp") (by walk_at "hk") ?_ | refine isE_t (by walk_at "he") (by walk_at "hp") (by walk_at "hk") ?_))
local macro_rules | `(tactic| walk_at "hv") => `(tactic| first | assumption)
local macro_rules | `(tactic| walk_at "kk") => `(tactic| repeat (first | walk_at "kw" | walk_at "kr"))
local macro_rules | `(tactic| walk_at "hc") => `(tactic| first | exact K25.Txt.c_Draft (by assumption))
local macro_rules | `(tactic| walk_at "he") => `(tactic| first | exact K25.Txt.e_Malformed (by assumption))
local macro_rules | `(tactic| walk_at "hx") => `(tactic| first | fail)
local macro_rules | `(tactic| walk_at "hk") => `(tactic| first | fail)

section
variable {P : Program} {w : World} {K : Frag} {mg : Str → Option Value} {base : Heap} {a : Ads}
theorem ok__law_lines (T : Txt P w K mg a) : Cal P w K mg base 2 "_law_lines" spLLines := by
  have C__law_written := ok__law_written (P := P) (w := w) (base := base) T
  have C__law_plain := ok__law_plain (P := P) (w := w) (base := base) T
  refine T.d__law_lines.ok sc__law_lines (fun vs H Q E h => ?_) (fun f cdv A outer s H vs Q E hr h => ⟨_, (pss_cons (ps_set (i := 1) sc__law_lines.nd rfl (Or.inl rfl) (pe_lst (pa_cons (pe_op o_add (pe_op o_add (pe_op o_add (pe_op o_add (pe_op o_add (pe_op o_add (pe_op o_add pe_str (pe_ix o_ix (kv 0) pe_int (fun _ _ => rfl))) pe_str) (pe_callTy c_str (by rfl) T.n_str (by decide +kernel) (pa_cons (pe_ix o_ix (kv 0) pe_int (fun _ _ => rfl)) pa_nil))) pe_str) (pe_callTy c_str (by rfl) T.n_str (by decide +kernel) (pa_cons (pe_ix o_ix (kv 0) pe_int (fun _ _ => rfl)) pa_nil))) pe_str) (pe_callTy c_str (by rfl) T.n_str (by decide +kernel) (pa_cons (pe_ix o_ix (kv 0) pe_int (fun _ _ => rfl)) pa_nil))) pa_nil)))
      (pss_cons (k_for (passes_of rfl) rfl (pi_list (pe_ix o_ix (kv 0) pe_int (fun _ _ => rfl))) (pg_name (i := 2) sc__law_lines.nd rfl (Or.inl rfl))
      (pss_one (ps_if (pt_cmpR o_in (pe_ix o_ix (kv 2) pe_int (fun _ _ => rfl)) (pe_tup (pa_cons pe_str (pa_cons pe_str pa_nil))) (by rfl))
      (pss_one (ps_expr (pe_bm PySem.F.plainAttrs_list PySem.F.slot_list_append PySem.F.type_list_append mt_append (kv 1) (pa_cons (pe_bm PySem.F.plainAttrs_str PySem.F.slot_str_join PySem.F.type_str_join mt_join pe_str (pa_cons (pe_op o_add (pe_lst (pa_cons (pe_ix o_ix (kv 2) pe_int (fun _ _ => rfl)) pa_nil)) (k_lc (own := [("number", 3)]) (g := gName 3) (by rfl) sc__law_lines.nd (pi_tup (pe_slice o_sl (kv 2) (po_some pe_int) po_none)) (blkOk_by (own := [("number", 3)]) (N := ["parts", "lines", "literal", "number", "op", "arg"]) (sc := defScope s__law_lines) (by decide +kernel)) (fun _ _ _ _ _ => pg_name (i := 3) sc__law_lines.nd rfl (Or.inl rfl)) (fun _ _ _ _ _ => pts_nil) (fun _ _ _ _ _ => by exact (pe_callTy c_str (by rfl) T.n_str (by decide +kernel) (pa_cons (kv 3) pa_nil))))) pa_nil)) pa_nil))))
      (pss_one (ps_expr (pe_bm PySem.F.plainAttrs_list PySem.F.slot_list_append PySem.F.type_list_append mt_append (kv 1) (pa_cons (pe_op o_add (pe_op o_add (pe_ix o_ix (kv 2) pe_int (fun _ _ => rfl)) pe_str) (kc C__law_written (hr.mono (by decide)) (pa_cons (pe_ix o_ix (kv 2) pe_int (fun _ _ => rfl)) pa_nil))) pa_nil)))))))
      (pss_cons (ps_expr (pe_bm PySem.F.plainAttrs_list PySem.F.slot_list_append PySem.F.type_list_append mt_append (kv 1) (pa_cons pe_str pa_nil)))
      (pss_cons (k_for (passes_of rfl) rfl (pi_list (pe_ix o_ix (kv 0) pe_int (fun _ _ => rfl))) (pg_tup (n := 2) (by rfl) (pgs_cons (pg_name (i := 4) sc__law_lines.nd rfl (Or.inl rfl)) (pgs_cons (pg_name (i := 5) sc__law_lines.nd rfl (Or.inl rfl)) pgs_nil)))
      (pss_one (ps_if (pt_cmpR o_in (kv 4) (kc0 C__law_plain (hr.mono (by decide))) (by rfl))
      (pss_one (ps_expr (pe_bm PySem.F.plainAttrs_list PySem.F.slot_list_append PySem.F.type_list_append mt_append (kv 1) (pa_cons (kv 4) pa_nil))))
      (pss_one (ps_expr (pe_bm PySem.F.plainAttrs_list PySem.F.slot_list_append PySem.F.type_list_append mt_append (kv 1) (pa_cons (pe_op o_add (pe_op o_add (kv 4) pe_str) (pe_callTy c_str (by rfl) T.n_str (by decide +kernel) (pa_cons (kv 5) pa_nil))) pa_nil)))))))
      (pss_one (ps_ret (kv 1))))))), ?_⟩)
  · obtain ⟨q, x, rfl, _⟩ := h; rfl
  · obtain ⟨q, x, rfl, ⟨pc, pl, n1, n2, n3, i1, hq, d2, d3⟩, hx, hnc, hnl, h⟩ := h
    obtain ⟨b1, b2, b3, ei, hb1, hb2, hb3⟩ := hx.is
    rw [i1] at ei
    obtain ⟨rfl, rfl, rfl⟩ : n1 = b1 ∧ n2 = b2 ∧ n3 = b3 := by simpa using ei
    obtain ⟨al, l1, l2, l3⟩ := d3
    obtain ⟨ac, c1, c2, c3⟩ := d2
    have sl := hx.sel.1.len
    have t1 := (Sm.int (i := n1) (by have := hb1.1; omega) (by have := hb1.2; omega)).len
    have t2 := (Sm.int (i := n2) (by have := hb2.1; omega) (by have := hb2.2; omega)).len
    have t3 := (Sm.int (i := n3) (by have := hb3.1; omega) (by have := hb3.2; omega)).len
    have g1 : n1.natAbs.log2 < 1920 := log_smI (by have := hb1.1; omega) (by have := hb1.2; omega)
    have g2 : n2.natAbs.log2 < 1920 := log_smI (by have := hb2.1; omega) (by have := hb2.2; omega)
    have g3 : n3.natAbs.log2 < 1920 := log_smI (by have := hb3.1; omega) (by have := hb3.2; omega)
    have e50 : str_50.length = 7 := rfl
    walk_at "kk"
    intro p hp
    have eh : S (str_50 ++ x.sel ++ [32] ++ itxt n1 ++ [32] ++ itxt n2 ++ [32] ++ itxt n3) = S (headLine x) := by
      unfold headLine; rw [i1]
      refine congrArg S ?_
      show [109, 101, 116, 104, 111, 100, 32] ++ x.sel ++ [32] ++ itxt n1 ++ [32] ++ itxt n2 ++ [32] ++ itxt n3 = [109, 101, 116, 104, 111, 100] ++ ([32] ++ (x.sel ++ ([32] ++ (itxt n1 ++ ([32] ++ (itxt n2 ++ ([32] ++ itxt n3)))))))
      simp
    rw [eh]
    have f1 : KW.Fr [] H (upd H p (.lst [V.str (S (headLine x))])) := KW.Fr.new hp
    have p1 : (upd H p (.lst [V.str (S (headLine x))])) p = some (.lst [V.str (S (headLine x))]) := upd_same
    generalize (upd H p (.lst [V.str (S (headLine x))])) = H1 at f1 p1 ⊢
    have hq1 := f1 _ _ (by simp) hq
    have l11 := f1 _ _ (by simp) l1
    walk_at "kk"
    refine for_lst (xs := al.map V.ref) (fun i σ H' => ∃ v2 v3 : Option V, σ = [some (.ref q), some (.ref p), v2, v3, none, none] ∧ KW.Fr [] H H' ∧ H' p = some (.lst (V.str (S (headLine x)) :: (x.lits.take i).map fun y => sV (litLine y)))) ⟨none, none, rfl, f1, by rw [p1]; rfl⟩ ?_ ?_ ?_
    · rintro i σ H' _ ⟨_, _, _, g, _⟩
      exact .of (g _ _ (by simp) l1)
    · rintro i v σ H2 hv ⟨v2, v3, rfl, f2, p2⟩
      rw [List.getElem?_map] at hv
      obtain ⟨b, hb, rfl⟩ := Option.map_eq_some_iff.mp hv
      have hj := (List.getElem?_eq_some_iff.mp hb).1
      obtain ⟨y, hy⟩ : ∃ y, x.lits[i]? = some y := ⟨_, List.getElem?_eq_getElem (by omega)⟩
      have ht := f2 _ _ (by simp) (l3 i b y hb hy)
      have et : (x.lits.take (i + 1)).map (fun y => sV (litLine y)) = (x.lits.take i).map (fun y => sV (litLine y)) ++ [sV (litLine y)] := by
        rw [List.take_add_one, hy, List.map_append]; rfl
      have tk : (x.lits.take i).length ≤ 1000 := by rw [List.length_take]; omega
      have lz : (V.str (S (headLine x)) :: (x.lits.take i).map fun y => sV (litLine y)).length < sizeLine := lt_line (by simp only [List.length_map, List.length_cons]; omega)
      rcases (hx.lits y (List.mem_of_getElem? hy)).two with ⟨kd, is, rfl, hkd, hi1, hi4, his, eL⟩ | ⟨k, t, rfl, hk, htt⟩
      · have lk : kd.length ≤ 5 := by rcases hkd with rfl | rfl <;> decide
        have em : decide (S kd ∈ [S tINT, S tBLOCK]) = true := by rcases hkd with rfl | rfl <;> decide
        walk_at "kk"
        refine ix_t ht (atI_nat (j := 0) rfl) ?_
        walk_at "kk"
        intro r hr1
        refine in_ts (xs := [S tINT, S tBLOCK]) upd_same ?_
        have f3 := f2.trans (KW.Fr.new (l := []) (o := .tup [V.str (S tINT), .str (S tBLOCK)]) hr1)
        have p3 := (KW.Fr.new (l := []) (o := .tup [V.str (S tINT), .str (S tBLOCK)]) hr1) _ _ (by simp) p2
        have ht3 := (KW.Fr.new (l := []) (o := .tup [V.str (S tINT), .str (S tBLOCK)]) hr1) _ _ (by simp) ht
        rw [em]
        change ∃ k, V.bl true = .bl k ∧ _
        refine ⟨true, rfl, ?_⟩
        rw [if_pos rfl]
        generalize (upd H2 r (.tup [V.str (S tINT), .str (S tBLOCK)])) = H3 at f3 p3 ht3 ⊢
        refine ⟨.inl ⟨_, .of p3⟩, ?_⟩
        refine ix_t ht3 (atI_nat (j := 0) rfl) ?_
        refine ⟨by decide, fun r2 hr2 => ?_⟩
        have g4 := KW.Fr.new (l := []) (o := .lst [V.str (S kd)]) hr2
        have q4 : (upd H3 r2 (.lst [V.str (S kd)])) r2 = some (.lst [V.str (S kd)]) := upd_same
        have f4 := f3.trans g4
        have p4 := g4 _ _ (by simp) p3
        have ht4 := g4 _ _ (by simp) ht3
        generalize (upd H3 r2 (.lst [V.str (S kd)])) = H4 at f4 p4 ht4 q4 ⊢
        refine .inr ⟨b, _, rfl, .of ht4, ?_, fun u hu => ?_⟩
        · intro z
          have := z.1
          simp [HT.sIx] at this
          try omega
        rw [show cutV (V.str (S kd) :: is.map V.int) (some 1) none = (V.str (S kd) :: is.map V.int).drop 1 from cutV_from _ 1]
        have g5 := KW.Fr.new (l := []) (o := .tup (is.map V.int)) hu
        have f5 := f4.trans g5
        have q5 := g5 _ _ (by simp) q4
        have p5 := g5 _ _ (by simp) p4
        have u5 : (upd H4 u (.tup (is.map V.int))) u = some (.tup (is.map V.int)) := upd_same
        change ∃ a, V.ref u = .ref a ∧ _
        refine ⟨u, rfl, ⟨_, .of u5⟩, ?_⟩
        change lcK _ _ _ _ _ _ (upd H4 u (.tup (is.map V.int))) _
        generalize (upd H4 u (.tup (is.map V.int))) = H5 at f5 p5 q5 u5 ⊢
        refine lc_ft (xs := is) (F := V.int) (fun n => some (.str (S (itxt n)))) u5 (lt_line (by omega)) (fun j n D acc Cy Cn hn hD h1 h2 => ?_) fun D hD => ?_
        · have hc := his n (List.mem_of_getElem? hn)
          have lg : n.natAbs.log2 < 1920 := log_smI (by have := hc.1; omega) (by have := hc.2; omega)
          have := h1 _ rfl
          walk_at "kk"
          exact this
        have eM : (is.filterMap fun n => some (V.str (S (itxt n)))) = (is.map itxt).map sV := by
          rw [List.map_map, ← List.filterMap_eq_map]; rfl
        rw [eM]
        have g6 := KW.Fr.new (l := []) (o := .lst ((is.map itxt).map sV)) hD
        have f6 := f5.trans g6
        have p6 := g6 _ _ (by simp) p5
        have q6 := g6 _ _ (by simp) q5
        refine ucat_l q6 upd_same (le_line (by simp only [List.length_map, List.length_cons, List.length_nil]; omega)) fun v hv => ?_
        have g7 := KW.Fr.new (l := []) (o := .lst ([V.str (S kd)] ++ (is.map itxt).map sV)) hv
        have f7 := f6.trans g7
        have p7 := g7 _ _ (by simp) p6
        have sm : ∀ w ∈ kd :: is.map itxt, w.length ≤ 20 := by
          intro w hw
          rcases List.mem_cons.mp hw with rfl | hw
          · omega
          · obtain ⟨n, hn, rfl⟩ := List.mem_map.mp hw
            have hc := his n hn
            have := (Sm.int (i := n) (by have := hc.1; omega) (by have := hc.2; omega)).len
            omega
        change ∃ x5, V.ref v = .ref x5 ∧ _
        refine ⟨v, rfl, (kd :: is.map itxt).map S, .inl ?_, ?_, ?_⟩
        · have e : ((kd :: is.map itxt).map S).map V.str = [V.str (S kd)] ++ (is.map itxt).map sV := by rw [List.map_map]; rfl
          rw [e]
          exact .of upd_same
        · have h1 := sum_le sm
          have h2 : ((kd :: is.map itxt).map S).map (fun x : Str => x.length) = (kd :: is.map itxt).map List.length := by
            rw [List.map_map]
            exact List.map_congr_left fun w _ => S_len w
          rw [h2, List.length_map]
          have h3 : (kd :: is.map itxt).length = is.length + 1 := by simp
          omega
        · rw [join_S]
          refine app_l p7 lz ?_
          refine ⟨fr_at hp f7, ?_⟩
          rw [upd_same, et, eL]
          have : (V.str (S kd) :: is.map V.int).map sOf = kd :: is.map itxt := by
            rw [List.map_cons, List.map_map]; rfl
          rw [this]
          rfl
      · have lk := (texts_sm k hk).len
        have el := esc_len t
        have tl := htt.len
        have em : decide (S k ∈ [S tINT, S tBLOCK]) = false := by
          have : ∀ k ∈ tTEXTS, decide (S k ∈ [S tINT, S tBLOCK]) = false := by decide
          exact this k hk
        walk_at "kk"
        intro r hr1
        refine in_ts (xs := [S tINT, S tBLOCK]) upd_same ?_
        have f3 := f2.trans (KW.Fr.new (l := []) (o := .tup [V.str (S tINT), .str (S tBLOCK)]) hr1)
        have p3 := (KW.Fr.new (l := []) (o := .tup [V.str (S tINT), .str (S tBLOCK)]) hr1) _ _ (by simp) p2
        have ht3 := (KW.Fr.new (l := []) (o := .tup [V.str (S tINT), .str (S tBLOCK)]) hr1) _ _ (by simp) ht
        rw [em]
        change ∃ k, V.bl false = .bl k ∧ _
        refine ⟨false, rfl, ?_⟩
        rw [if_neg (by simp)]
        generalize (upd H2 r (.tup [V.str (S tINT), .str (S tBLOCK)])) = H3 at f3 p3 ht3 ⊢
        walk_at "kk"
        refine ⟨t, rfl, htt.mono (by omega), ?_⟩
        walk_at "kk"
        refine ⟨fr_at hp f3, ?_⟩
        have e : sV (litLine [V.str (S k), .str (S t)]) = V.str (S (k ++ [32] ++ esc t)) := congrArg (fun z => V.str (S z)) (by show k ++ 32 :: esc t = _; simp)
        rw [upd_same, et, e]
    · rintro σ H2 ⟨v2, v3, rfl, f2, p2⟩
      rw [List.length_map, l2, List.take_length] at p2
      have hq2 := f2 _ _ (by simp) hq
      walk_at "kk"
      rw [lit_code]
      have f3 := fr_at (o := .lst (V.str (S (headLine x)) :: (x.lits.map (fun y => sV (litLine y)) ++ [V.str (S tCODE)]))) hp f2
      have p3 : (upd H2 p (.lst (V.str (S (headLine x)) :: (x.lits.map (fun y => sV (litLine y)) ++ [V.str (S tCODE)])))) p = some (.lst (V.str (S (headLine x)) :: (x.lits.map (fun y => sV (litLine y)) ++ [V.str (S tCODE)]))) := upd_same
      generalize (upd H2 p (.lst (V.str (S (headLine x)) :: (x.lits.map (fun y => sV (litLine y)) ++ [V.str (S tCODE)])))) = H3 at f3 p3 ⊢
      have cp3 := f3 _ _ (by simp) c1
      refine ⟨⟨_, .of cp3⟩, ?_⟩
      refine for_lst (xs := ac.map V.ref) (fun i σ H' => ∃ v2 v3 v4 v5 : Option V, σ = [some (.ref q), some (.ref p), v2, v3, v4, v5] ∧ KW.Fr [] H H' ∧ H' p = some (.lst (V.str (S (headLine x)) :: (x.lits.map (fun y => sV (litLine y)) ++ [V.str (S tCODE)]) ++ (x.code.take i).map fun y => sV (insLine y)))) ⟨_, _, _, _, rfl, f3, by rw [p3]; simp⟩ ?_ ?_ ?_
      · rintro i σ H' _ ⟨_, _, _, _, _, g, _⟩
        exact .of (g _ _ (by simp) c1)
      · rintro i v σ H' hv ⟨v2, v3, v4, v5, rfl, f6, hL6⟩
        rw [List.getElem?_map] at hv
        obtain ⟨b, hb, rfl⟩ := Option.map_eq_some_iff.mp hv
        have hj := (List.getElem?_eq_some_iff.mp hb).1
        obtain ⟨y, hy⟩ : ∃ y, x.code[i]? = some y := ⟨_, List.getElem?_eq_getElem (by omega)⟩
        have ht := f6 _ _ (by simp) (c3 i b y hb hy)
        have hok := hx.code y (List.mem_of_getElem? hy)
        obtain ⟨op, n, rfl, hon⟩ := hok
        have et : (x.code.take (i + 1)).map (fun y => sV (insLine y)) = (x.code.take i).map (fun y => sV (insLine y)) ++ [sV (insLine [V.str (S op), .int n])] := by
          rw [List.take_add_one, hy, List.map_append]; rfl
        have tk : (x.code.take i).length ≤ 1000 := by rw [List.length_take]; omega
        have lz : (V.str (S (headLine x)) :: ((x.lits.map fun y => sV (litLine y)) ++ [V.str (S tCODE)]) ++ (x.code.take i).map fun y => sV (insLine y)).length < sizeLine := lt_line (by simp only [List.length_append, List.length_map, List.length_cons, List.length_nil]; omega)
        have os := (ops_sm op (List.mem_append.mpr (hon.imp (fun z => z.1) fun z => z.1))).len
        walk_at "kk"
        intro D hD
        have g7 := KW.Fr.new (l := []) (o := .lst (tPLAIN.map sV)) hD
        have f7 := f6.trans g7
        have p7 := g7 _ _ (by simp) hL6
        refine in_gl (xs := tPLAIN) (.of upd_same) ?_
        generalize (upd H' D (.lst (tPLAIN.map sV))) = H7 at f7 p7 ⊢
        walk_at "kk"
        by_cases c : op ∈ tPLAIN
        · rw [if_pos c]
          have ei : insLine [V.str (S op), .int n] = op := by show (if op ∈ tPLAIN then op else _) = op; rw [if_pos c]
          rw [ei] at et
          refine ⟨.inl ⟨_, .of p7⟩, ?_⟩
          refine app_l p7 lz ?_
          refine ⟨⟨_, rfl⟩, fr_at hp f7, ?_⟩
          rw [upd_same, et, List.append_assoc]
          rfl
        · rw [if_neg c]
          have ei : sV (insLine [V.str (S op), .int n]) = V.str (S (op ++ [32] ++ itxt n)) := by
            show sV (if op ∈ tPLAIN then op else _) = _
            rw [if_neg c]
            exact congrArg (fun z => V.str (S z)) (by show op ++ ([32] ++ itxt n) = _; simp)
          rw [ei] at et
          have n0 : 0 ≤ n ∧ n ≤ 65535 := by omega
          have sn := (Sm.int (i := n) (by omega) (by omega)).len
          refine ⟨.inl ⟨_, .of p7⟩, le_line (by omega), log_smI (by omega) (by omega), le_line (by omega), ?_⟩
          refine app_l p7 lz ?_
          refine ⟨⟨_, rfl⟩, fr_at hp f7, ?_⟩
          rw [upd_same, et, List.append_assoc]
          rfl
      · rintro σ H' ⟨v2, v3, v4, v5, rfl, f6, hL6⟩
        rw [List.length_map, c2, List.take_length] at hL6
        walk_at "kk"
        refine h p H' hp f6 ?_
        rw [hL6]
        unfold LS.linesOf
        simp only [List.map_cons, List.map_append, List.map_map]
        rw [List.cons_append, List.append_assoc]
        rfl
end
end K25

set_option Elab.async false
set_option linter.all false
set_option maxRecDepth 100000
set_option maxHeartbeats 4000000
namespace K25
open PySem PySem.Spec PyProof.Rows L2 KW LS PK
local macro_rules | `(tactic| walk_at "kw") => `(tactic| simp only [tSeq, tNext, tIfS, tTest, tAnd, tOr, tNot, tAndV, tOrV, tNotV, tIf, tChain, tOp, tUn, tC, tAsg, gName, gSub, gCons, gNil, tRet, tRetN, tDrop, tCons, tNil, tCB, tAug, tSl, tPart, tNoPart, tLst, tTup, tBM, tBM0, uTest, uFor, iRng1, iRng2, iList, uCall, List.map_cons, List.map_nil, List.length_cons, List.length_nil, List.cons_append, List.nil_append, List.replicate, Nat.zero_add, Nat.reduceAdd, Nat.reduceSub, List.getElem?_cons_zero, List.getElem?_cons_succ, List.set_cons_zero, List.set_cons_succ, V.bl.injEq, V.int.injEq, V.str.injEq, V.ref.injEq, V.ty.injEq, List.cons.injEq, and_true, true_and, exists_eq_left', exists_eq_right, exists_eq_left, exists_and_left, exists_and_right, decide_eq_true_eq, Bool.not_eq_true', decide_eq_false_iff_not, Bool.false_eq_true, if_true, if_false, ite_true, ite_false, Bool.not_true, Bool.not_false, reduceCtorEq, decide_true, decide_false, Bool.not_not, isK_int_int, isK_int_bool, isK_int_str, isK_int_list, isK_int_tuple, isK_bool_int, isK_bool_bool, isK_bool_str, isK_str_str, isK_str_int, isK_str_bool, isK_str_tuple, isK_str_list, isK_list_list, isK_list_tuple, isK_tuple_tuple, isK_tuple_list, isOk_int_int, isOk_int_bool, isOk_int_str, isOk_int_list, isOk_int_tuple, isOk_bool_int, isOk_bool_bool, isOk_bool_str, isOk_str_str, isOk_str_int, isOk_str_bool, isOk_str_tuple, isOk_str_list, isOk_list_list, isOk_list_tuple, isOk_tuple_tuple, isOk_tuple_list, isK_dict_dict, isOk_dict_dict, isK_none_int, isK_none_bool, isOk_none_int, isOk_none_bool, tyV, S_inj, S_cat, L2.start, Nat.reduceSub, List.replicate_succ, List.replicate_zero, and_assoc, List.append_nil, Nat.reduceEqDiff, Option.some.injEq, Int.natCast_inj, upd_upd, Int.reducePow, Int.reduceToNat, Int.reduceMul, Int.reduceAdd, Int.reduceSub, Int.reduceLT, Int.reduceLE, Int.reduceNeg, Int.reduceDiv, Int.reduceMod, Nat.reducePow, Nat.reduceMul, S_len, List.length_append, List.length_map, List.length_range, not_true_eq_false, not_false_eq_true, ne_eq, uAdd_e1, uAdd_e2, uSub_e1, uMod_e1, uDiv_e1, uPow_e1, uShl_e1, uNeg_e1, uIAdd_e1, uIAdd_e2, uIAdd_e3, uISub_e1, uLt_e1, uLt_e2, uLe_e1, uGt_e1, uGe_e1, uEq_e1, uEq_e2, uEq_e3, uEq_e4, uEq_e5, uEq_e6, uEq_e7, uEq_e8, uEq_e9, uEq_e10, uEq_e11, uNe_e1, uNe_e2, uNe_e3, uNe_e4, uNe_e5, uNe_e6, uNe_e7, uNe_e8, uNe_e9, uNe_e10, uNe_e11, uIs_e1, uIs_e2, uIs_e3, uIs_e4, uIs_e5, uIs_e6, uIs_e7, uNotIs_e1, uNotIs_e2, uNotIs_e3, uNotIs_e4, uNotIs_e5, uNotIs_e6, uIn_e1, uIn_e2, uIn_e3, uIn_e4, uNotIn_e1, uNotIn_e2, uNotIn_e3, uNotIn_e4, uTru_e1, uTru_e2, uTru_e3, uTru_e4, uIx_e2, uSl_e2, uLen_e1, uAbs_e1, uInt_e1, uInt_e2, uMin2_e1, uIsi_e1, uIsi_e2, uIsi_e3, uIsi_e4, cx_K, uVar_0, uVar_n, uFld, uSFld, uMet, uMake, tDG, tDI, tDNI, tDP, tDD, uMk, uRaise, uDelSl, tCallS, L2.WE, uStr_e1, uStr_e2, uMul2_e1, uMul2_e2, okS_i, okS_s, List.zip_cons_cons, List.zip_nil_left, List.drop_zero, List.drop_succ_cons, List.drop_nil, putF_nil, putF_cons, eq_self, tDNewK, tB, Option.isSome_some, Option.isSome_none, false_and, false_or, or_false, exists_false, Int.zero_add, uLc, wipe, tYes, isEmpty_app, List.isEmpty_cons, List.isEmpty_nil, List.isEmpty_map, Bool.and_false, Bool.and_true, iRev, K25.lit_0, K25.lit_1, K25.lit_2, K25.lit_3, K25.lit_4, K25.lit_5, K25.lit_6, K25.lit_7, K25.lit_8, K25.lit_9, K25.lit_10, K25.lit_11, K25.lit_12, K25.lit_13, K25.lit_14, K25.lit_15, K25.lit_16, K25.lit_17, K25.lit_18, K25.lit_19, K25.lit_20, K25.lit_21, K25.lit_22, K25.lit_23, K25.lit_25, K25.lit_26, K25.lit_27, K25.lit_28, K25.lit_29, K25.lit_30, K25.lit_32, K25.lit_33, K25.lit_34, K25.lit_35, K25.lit_36, K25.lit_37, K25.lit_38, K25.lit_39, K25.lit_40, K25.lit_41, K25.lit_42, K25.lit_43, K25.lit_44, K25.lit_45, K25.lit_46, K25.lit_47, K25.lit_48, K25.lit_49, K25.lit_50, K25.lit_51, K25.fe_selector_argc, K25.fe_selector_locals, K25.fe_selector_stack, K25.fe_selector_code, K25.fe_selector_literals, K25.fe_argc_selector, K25.fe_argc_locals, K25.fe_argc_stack, K25.fe_argc_code, K25.fe_argc_literals, K25.fe_locals_selector, K25.fe_locals_argc, K25.fe_locals_stack, K25.fe_locals_code, K25.fe_locals_literals, K25.fe_stack_selector, K25.fe_stack_argc, K25.fe_stack_locals, K25.fe_stack_code, K25.fe_stack_literals, K25.fe_code_selector, K25.fe_code_argc, K25.fe_code_locals, K25.fe_code_stack, K25.fe_code_literals, K25.fe_literals_selector, K25.fe_literals_argc, K25.fe_literals_locals, K25.fe_literals_stack, K25.fe_literals_code, K25.fl_code_0, K25.lf_code_0, K25.fl_code_1, K25.lf_code_1, K25.fl_code_2, K25.lf_code_2, K25.fl_code_3, K25.lf_code_3, K25.fl_code_4, K25.lf_code_4, K25.fl_code_5, K25.lf_code_5, K25.fl_code_6, K25.lf_code_6, K25.fl_code_7, K25.lf_code_7, K25.fl_code_8, K25.lf_code_8, K25.fl_code_9, K25.lf_code_9, K25.fl_code_10, K25.lf_code_10, K25.fl_code_11, K25.lf_code_11, K25.fl_code_12, K25.lf_code_12, K25.fl_code_13, K25.lf_code_13, K25.fl_code_14, K25.lf_code_14, K25.fl_code_15, K25.lf_code_15, K25.fl_code_16, K25.lf_code_16, K25.fl_code_17, K25.lf_code_17, K25.fl_code_18, K25.lf_code_18, K25.fl_code_19, K25.lf_code_19, K25.fl_code_20, K25.lf_code_20, K25.fl_code_21, K25.lf_code_21, K25.fl_code_22, K25.lf_code_22, K25.fl_code_23, K25.lf_code_23, K25.fl_code_24, K25.lf_code_24, K25.fl_code_25, K25.lf_code_25, K25.fl_code_26, K25.lf_code_26, K25.fl_code_27, K25.lf_code_27, K25.fl_code_28, K25.lf_code_28, K25.fl_code_29, K25.lf_code_29, K25.fl_code_30, K25.lf_code_30, K25.fl_code_32, K25.lf_code_32, K25.fl_code_33, K25.lf_code_33, K25.fl_code_34, K25.lf_code_34, K25.fl_code_35, K25.lf_code_35, K25.fl_code_36, K25.lf_code_36, K25.fl_code_37, K25.lf_code_37, K25.fl_code_38, K25.lf_code_38, K25.fl_code_39, K25.lf_code_39, K25.fl_code_40, K25.lf_code_40, K25.fl_code_41, K25.lf_code_41, K25.fl_code_42, K25.lf_code_42, K25.fl_code_43, K25.lf_code_43, K25.fl_code_44, K25.lf_code_44, K25.fl_code_45, K25.lf_code_45, K25.fl_code_46, K25.lf_code_46, K25.fl_code_47, K25.lf_code_47, K25.fl_code_48, K25.lf_code_48, K25.fl_code_49, K25.lf_code_49, K25.fl_code_50, K25.lf_code_50, K25.fl_code_51, K25.lf_code_51, K25.fl_selector_0, K25.lf_selector_0, K25.fl_selector_1, K25.lf_selector_1, K25.fl_selector_2, K25.lf_selector_2, K25.fl_selector_3, K25.lf_selector_3, K25.fl_selector_4, K25.lf_selector_4, K25.fl_selector_5, K25.lf_selector_5, K25.fl_selector_6, K25.lf_selector_6, K25.fl_selector_7, K25.lf_selector_7, K25.fl_selector_8, K25.lf_selector_8, K25.fl_selector_9, K25.lf_selector_9, K25.fl_selector_10, K25.lf_selector_10, K25.fl_selector_11, K25.lf_selector_11, K25.fl_selector_12, K25.lf_selector_12, K25.fl_selector_13, K25.lf_selector_13, K25.fl_selector_14, K25.lf_selector_14, K25.fl_selector_15, K25.lf_selector_15, K25.fl_selector_16, K25.lf_selector_16, K25.fl_selector_17, K25.lf_selector_17, K25.fl_selector_18, K25.lf_selector_18, K25.fl_selector_19, K25.lf_selector_19, K25.fl_selector_20, K25.lf_selector_20, K25.fl_selector_21, K25.lf_selector_21, K25.fl_selector_22, K25.lf_selector_22, K25.fl_selector_23, K25.lf_selector_23, K25.fl_selector_25, K25.lf_selector_25, K25.fl_selector_26, K25.lf_selector_26, K25.fl_selector_27, K25.lf_selector_27, K25.fl_selector_28, K25.lf_selector_28, K25.fl_selector_29, K25.lf_selector_29, K25.fl_selector_30, K25.lf_selector_30, K25.fl_selector_31, K25.lf_selector_31, K25.fl_selector_32, K25.lf_selector_32, K25.fl_selector_33, K25.lf_selector_33, K25.fl_selector_34, K25.lf_selector_34, K25.fl_selector_35, K25.lf_selector_35, K25.fl_selector_36, K25.lf_selector_36, K25.fl_selector_37, K25.lf_selector_37, K25.fl_selector_38, K25.lf_selector_38, K25.fl_selector_39, K25.lf_selector_39, K25.fl_selector_40, K25.lf_selector_40, K25.fl_selector_41, K25.lf_selector_41, K25.fl_selector_42, K25.lf_selector_42, K25.fl_selector_43, K25.lf_selector_43, K25.fl_selector_44, K25.lf_selector_44, K25.fl_selector_45, K25.lf_selector_45, K25.fl_selector_46, K25.lf_selector_46, K25.fl_selector_47, K25.lf_selector_47, K25.fl_selector_48, K25.lf_selector_48, K25.fl_selector_49, K25.lf_selector_49, K25.fl_selector_50, K25.lf_selector_50, K25.fl_selector_51, K25.lf_selector_51, uAll_e, iTup_e, CwR.tReplC, uTuple_e, uFm_e1, uFm_e2, uIntS_e1, uIntS_e2, uIntS_e3, uEqO_e, tFm, tJs, iStr, S_e, itxt_S, K25.N_Draft_init, K25.N_Draft_parts, K25.N_Draft___eq__, K25.N_escaped, K25.N_joined, K25.N_literal_line, K25.N_list_draft, K25.N_number_in, K25.N_numbers_in, K25.N_unescaped, K25.N_read_head, K25.N_read_text, K25.N_read_literal, K25.N_read_instruction, K25.N_read_listing, K25.N__law_start, K25.N__law_pick, K25.N__law_text, K25.N__law_count, K25.N__law_literal, K25.N__law_plain, K25.N__law_instruction, K25.N__law_written, K25.N__law_lines, K25.N__law_draft, K25.N__law_parts, K25.N__law_changed, K25.N__law_others, K25.N_law])
local macro_rules | `(tactic| walk_at "nn") => `(tactic| first | assumption | exact ne_un (by assumption) | exact ne_un (ne_un (by assumption)) | exact ne_un (ne_un (ne_un (by assumption))) | exact ne_un (ne_un (ne_un (ne_un (by assumption)))))
local macro_rules | `(tactic| walk_at "ne") => `(tactic| first | assumption | (apply Ne.symm; assumption) | exact ne_ud (by assumption) | exact Ne.symm (ne_ud (by assumption)) | exact ne_ud (ne_un (by assumption)) | exact Ne.symm (ne_ud (ne_un (by assumption))) | exact ne_ud (ne_un (ne_un (by assumption))) | exact Ne.symm (ne_ud (ne_un (ne_un (by assumption)))) | exact ne_m (by assumption) (by assumption) | exact Ne.symm (ne_m (by assumption) (by assumption)) | exact ne_n (by assumption) (by walk_at "nn") | exact Ne.symm (ne_n (by assumption) (by walk_at "nn")))
local macro_rules | `(tactic| walk_at "hp") => `(tactic| first | assumption | exact upd_same | (refine Eq.trans (upd_ne ?_) ?_; (focus walk_at "ne"); walk_at "hp"))
local macro_rules | `(tactic| walk_at "sc") => `(tactic| first | (with_reducible assumption) | omega | exact le_line (by (try simp only [List.length_map, List.length_append, List.length_cons, List.length_nil, S_len]); omega) | exact div_s (by omega) | exact mul_r (by omega) | exact mul_l (by omega) | exact pow_s (by omega) | exact mul2_r (by omega) | exact mul2_l (by omega) | exact small4300 (by omega) | exact lt_line (by (try simp only [List.length_map, List.length_append, List.length_cons, List.length_nil, S_len]); omega) | exact ⟨_, by assumption⟩ | (guard_target =~ Exists _; exact ⟨_, .of (by walk_at "hp")⟩) | (guard_target =~ _ ∨ _; exact .inl ⟨_, by assumption⟩) | (guard_target =~ _ ∨ _; exact .inl ⟨_, .of (by walk_at "hp")⟩) | (guard_target =~ _ ∨ _; exact .inr (.inr (.inl ⟨rfl, .inl ⟨_, by walk_at "hp"⟩⟩))) | decide)
local macro_rules | `(tactic| walk_at "kr") => `(tactic| first | (guard_target =~ _ ∧ _; first | refine And.intro (by walk_at "sc") ?_) | (guard_target =~ KW.uIx _ _ _ _ _; first | refine ix_l (by walk_at "hp") (by first | walk_at "hv" | rfl) ?_ | refine ix_t (by walk_at "hp") (by first | walk_at "hv" | rfl) ?_ | refine ix_sl (by assumption) (by walk_at "hv") ?_) | (guard_target =~ KW.uLen _ _ _ _; first | refine len_l (by walk_at "hp") ?_ | refine len_t (by walk_at "hp") ?_ | refine len_sl (by assumption) ?_) | (guard_target =~ KW.uSet _ _ _ _ _; first | refine set_l (by walk_at "hp") (by first | walk_at "hv" | rfl) ?_) | (guard_target =~ L2.gTup _ _ _ _ _ _ _; first | refine tup_l (by walk_at "hp") (by rfl) ?_) | (guard_target =~ KW.uGet _ _ _ _ _; first | refine get_l (by walk_at "hp") (by walk_at "hc") (by decide) (by rfl) ?_) | (guard_target =~ KW.uPut _ _ _ _ _ _; first | refine put_l (by walk_at "hp") (by walk_at "hc") (by decide) (by simp) ?_) | (guard_target =~ KW.uMet.uMt _ _ _ _ _ _ _ _ _; first | refine met_l (by walk_at "hp") (by rfl) ?_) | (guard_target =~ KW.uMet.uMt _ _ _ _ _ _ _ _ _; first | refine ST.met_s (by assumption) (by decide) ?_) | (guard_target =~ ST.spExists _ _ _ _ _; first | refine ST.exists_s (by assumption) ?_) | (guard_target =~ ST.spUsed _ _ _ _ _; first | refine ST.used_s (by assumption) ?_) | (guard_target =~ KW.uGet _ _ _ _ _; first | refine ST.words_s (by assumption) (by walk_at "hc") (by decide) ?_) | (guard_target =~ KW.uDIn _ _ _ _; first | refine din_i (by walk_at "hp") ?_ | refine din_s (by walk_at "hp") ?_) | (guard_target =~ KW.uDGet _ _ _ _; first | refine dget_i (by walk_at "hp") (by walk_at "hv") ?_ | refine dget_s (by walk_at "hp") (by walk_at "hv") ?_) | (guard_target =~ KW.uDPut _ _ _ _ _; first | refine dput_i (by walk_at "hp") (by walk_at "sc") ?_ | refine dput_s (by walk_at "hp") (by walk_at "sc") ?_) | (guard_target =~ KW.uDDel _ _ _ _; first | refine ddel_i (by walk_at "hp") (by walk_at "hv") ?_ | refine ddel_s (by walk_at "hp") (by walk_at "hv") ?_) | (guard_target =~ KW.uMul2 _ _ _ _; first | refine rep_l (by walk_at "hp") (by walk_at "sc") (by walk_at "sc") (by walk_at "sc") ?_) | (guard_target =~ L2.rAppend _ _ _ _; first | refine app_l (by walk_at "hp") (by walk_at "sc") ?_) | (guard_target =~ L2.rPop _ _ _ _; first | refine pop_l (by walk_at "hp") (by walk_at "hv") ?_ | refine pops_l (by walk_at "hp") ?_) | (guard_target =~ L2.rClear _ _ _ _; first | refine clr_l (by walk_at "hp") ?_) | (guard_target =~ L2.rReverse _ _ _ _; first | refine rev_l (by walk_at "hp") ?_) | (guard_target =~ L2.rExtend _ _ _ _; first | refine ext_l (by walk_at "hp") (by walk_at "hp") (by walk_at "sc") ?_) | (guard_target =~ KW.uAdd _ _ _ _ _; first | refine ucat_l (by walk_at "hp") (by walk_at "hp") (by walk_at "sc") ?_) | (guard_target =~ KW.uSl _ _ _ _ _ _; first | refine usl_l (by walk_at "hp") ?_) | (guard_target =~ KW.uTru _ _ _ _; first | refine tru_l (by walk_at "hp") ?_ | refine tru_t (by walk_at "hp") ?_ | refine tru_d (by walk_at "hp") ?_ | refine tru_sl (by assumption) ?_) | (guard_target =~ L2.rIndex _ _ _ _ _; first | refine idx_s (by walk_at "hp") (by assumption) ?_ | refine idx_i (by walk_at "hp") (by assumption) ?_) | (guard_target =~ L2.rIn _ _ _ _ _ _; first | refine in_s (by walk_at "hp") ?_ | refine nin_s (by walk_at "hp") ?_ | refine in_i (by walk_at "hp") ?_ | refine nin_i (by walk_at "hp") ?_) | (guard_target =~ KW.uIsi _ _ _ _; first | refine isi_l (by walk_at "hp") (by decide +kernel) ?_ | refine isi_t (by walk_at "hp") (by decide +kernel) ?_ | refine isi_d (by walk_at "hp") (by decide +kernel) ?_) | (guard_target =~ KW.uList _ _ _ _; first | refine list_l (by walk_at "hp") ?_ | refine list_t (by walk_at "hp") ?_ | refine list_sl (by assumption) ?_) | (guard_target =~ KW.uDict _ _ _; first | refine dict_d (by walk_at "hp") ?_) | (guard_target =~ KW.uSorted _ _ _ _; first | refine srt_l (by walk_at "hp") ?_) | (guard_target =~ KW.uSum _ _ _ _; first | refine sum_l (by walk_at "hp") ?_) | (guard_target =~ KW.uDelC _ _ _ _; first | refine dels_l (by walk_at "hp") (by walk_at "sc") ?_) | (guard_target =~ L2.wAs _ _ _ _ _ _ _ _ _ _; first | refine as_yes (by walk_at "hx") ?_ | refine as_no (by walk_at "hx") ?_) | (guard_target =~ KW.uEf _ _ _ _ _ _ _ _ _; first | refine ef_l (by walk_at "he") (by decide) (by rfl) (by walk_at "hp") (by rfl) ?_) | (guard_target =~ KW.uIsE _ _ _ _ _ _ _; first | refine isE_r (by walk_at "he") (by walk_at "hp") (by walk_at "hk") ?_ | refine isE_t (by walk_at "he") (by walk_at "hp") (by walk_at "hk") ?_))
local macro_rules | `(tactic| walk_at "hv") => `(tactic| first | assumption)
local macro_rules | `(tactic| walk_at "kk") => `(tactic| repeat (first | walk_at "kw" | walk_at "kr"))
local macro_rules | `(tactic| walk_at "hc") => `(tactic| first | exact K25.Txt.c_Draft (by assumption))
local macro_rules | `(tactic| walk_at "he") => `(tactic| first | exact K25.Txt.e_Malformed (by assumption))
local macro_rules | `(tactic| walk_at "hx") => `(tactic| first | fail)
local macro_rules | `(tactic| walk_at "hk") => `(tactic| first | fail)

section
variable {P : Program} {w : World} {K : Frag} {mg : Str → Option Value} {base : Heap} {a : Ads}
theorem ok_escaped (T : Txt P w K mg a) : Cal P w K mg base 1 "escaped" spEsc := by
  refine T.d_escaped.okT sc_escaped (by decide) (by decide) (fun vs H Q E h => ?_) (fun f cdv A outer s H vs Q E hr h => ⟨_, CwR.psst_one (CwR.pst_ret (CwR.pet_replT (CwR.pet_replC (kv 0)))), ?_⟩)
  · obtain ⟨t, rfl, _⟩ := h; rfl
  · obtain ⟨t, rfl, ht, h⟩ := h
    walk_at "kk"
    have h1 := ht.len
    have e1 : (S t).length = t.length := S_len t
    refine ⟨?_, ?_⟩
    · show (S t).length + ((S t).length + 1) * (S [92, 92]).length ≤ 16777216
      rw [e1]
      show t.length + (t.length + 1) * 2 ≤ _
      omega
    have e2 : Txt.replace (S t) (S [92]) (S [92, 92]) = S (t.flatMap fun x => if x = 92 then [92, 92] else [x]) := replace1 t
    have l2 : (t.flatMap fun x => if x = 92 then [92, 92] else [x]).length ≤ 2 * t.length := by
      clear h h1 e1 e2 ht
      induction t with
      | nil => simp
      | cons c r ih =>
        rw [List.flatMap_cons, List.length_append, List.length_cons]
        have : (if c = 92 then [92, 92] else [c]).length ≤ 2 := by split <;> simp
        omega
    have e3 := replace2 t
    refine ⟨?_, ?_⟩
    · rw [e2]
      show (S _).length + ((S _).length + 1) * (S [92, 110]).length ≤ 16777216
      rw [S_len]
      show _ + (_ + 1) * 2 ≤ _
      omega
    · rw [e3]; exact h
theorem ok_joined (T : Txt P w K mg a) : Cal P w K mg base 1 "joined" spJoin := by
  refine T.d_joined.ok sc_joined (fun vs H Q E h => ?_) (fun f cdv A outer s H vs Q E hr h => ⟨_, (pss_one (ps_ret (pe_bm PySem.F.plainAttrs_str PySem.F.slot_str_join PySem.F.type_str_join mt_join pe_str (pa_cons (pe_or (k_lc (own := [("word", 1)]) (g := gName 1) (by rfl) sc_joined.nd (pi_list (kv 0)) (blkOk_by (own := [("word", 1)]) (N := ["words", "word"]) (sc := defScope s_joined) (by decide +kernel)) (fun _ _ _ _ _ => pg_name (i := 1) sc_joined.nd rfl (Or.inl rfl)) (fun _ _ _ _ _ => pts_nil) (fun _ _ _ _ _ => by exact (pe_callTy c_str (by rfl) T.n_str (by decide +kernel) (pa_cons (kv 1) pa_nil))))
        (k_lc (own := [("word", 1)]) (g := gName 1) (by rfl) sc_joined.nd (pi_tup (kv 0)) (blkOk_by (own := [("word", 1)]) (N := ["words", "word"]) (sc := defScope s_joined) (by decide +kernel)) (fun _ _ _ _ _ => pg_name (i := 1) sc_joined.nd rfl (Or.inl rfl)) (fun _ _ _ _ _ => pts_nil) (fun _ _ _ _ _ => by exact (pe_callTy c_str (by rfl) T.n_str (by decide +kernel) (pa_cons (kv 1) pa_nil))))) pa_nil)))), ?_⟩)
  · obtain ⟨p, ws, rfl, _⟩ := h; rfl
  · obtain ⟨p, ws, rfl, hp, hn, hw, h⟩ := h
    have sm : ∀ w ∈ ws.map sOf, Sm 400 w := by
      intro w hw'
      obtain ⟨v, hv, rfl⟩ := List.mem_map.mp hw'
      exact (hw v hv).sm
    have fin : ∀ D, H D = none → (∃ ys : List Str, (SqL K (upd H D (.lst (ws.filterMap fun v => some (V.str (S (sOf v)))))) D (ys.map V.str) ∨ SqT K (upd H D (.lst (ws.filterMap fun v => some (V.str (S (sOf v)))))) D (ys.map V.str)) ∧ (ys.map (fun x : Str => x.length)).sum + ys.length * (S [32]).length ≤ 16777216 ∧ Q (.str (Txt.join (S [32]) ys)) (upd H D (.lst (ws.filterMap fun v => some (V.str (S (sOf v))))))) := fun D hD => by
      have eL : (ws.filterMap fun v => some (V.str (S (sOf v)))) = ((ws.map sOf).map S).map V.str := by
        rw [List.map_map, List.map_map, ← List.filterMap_eq_map]; rfl
      refine ⟨(ws.map sOf).map S, .inl ?_, ?_, ?_⟩
      · rw [eL]; exact .of upd_same
      · have h1 := sum_le (B := 400) fun w hw => (sm w hw).len
        have h2 : ((ws.map sOf).map ((fun x : Str => x.length) ∘ S)) = (ws.map sOf).map List.length := List.map_congr_left fun w _ => S_len w
        rw [List.map_map, h2, List.length_map]
        rw [List.length_map] at h1 ⊢
        have h3 : (S [32]).length = 1 := rfl
        rw [h3]
        omega
      · rw [join_S]
        exact h _ (KW.Fr.new hD)
    have step : ∀ (v : V) (D : Addr) (acc : List V) (Cy : V → Hp → Prop), v ∈ ws → (∀ y, some (V.str (S (sOf v))) = some y → Cy y (upd H D (.lst acc))) → (uStr [v] (upd H D (.lst acc)) Cy) := fun v D acc Cy hv q => by
      rcases hw v hv with ⟨l, rfl, hl⟩ | ⟨i, rfl, h1, h2⟩
      · exact q _ rfl
      · refine ⟨log_smI (by omega) (by omega), ?_⟩
        rw [itxt_S]
        exact q _ rfl
    walk_at "kk"
    rcases hp with hp | hp
    · refine .inl ⟨⟨_, .of hp⟩, ?_⟩
      walk_at "kk"
      refine lc_f (xs := ws) (F := id) (fun v => some (V.str (S (sOf v)))) (.of (by rw [List.map_id]; exact hp)) (lt_line (by omega)) (fun j v D acc Cy Cn hv hD h1 h2 => ?_) fun D hD => ?_
      · have := step v D acc Cy (List.mem_of_getElem? hv) h1
        walk_at "kk"
        exact this
      · walk_at "kk"
        exact fin D hD
    · refine .inr ⟨⟨_, .of hp⟩, ?_⟩
      walk_at "kk"
      refine lc_ft (xs := ws) (F := id) (fun v => some (V.str (S (sOf v)))) (by rw [List.map_id]; exact hp) (lt_line (by omega)) (fun j v D acc Cy Cn hv hD h1 h2 => ?_) fun D hD => ?_
      · have := step v D acc Cy (List.mem_of_getElem? hv) h1
        walk_at "kk"
        exact this
      · walk_at "kk"
        exact fin D hD
theorem tint_no : tINT ∉ tTEXTS := by decide
theorem tblock_no : tBLOCK ∉ tTEXTS := by decide
theorem ok_literal_line (T : Txt P w K mg a) : Cal P w K mg base 2 "literal_line" spLitL := by
  have C_escaped := ok_escaped (P := P) (w := w) (base := base) T
  have C_joined := ok_joined (P := P) (w := w) (base := base) T
  refine T.d_literal_line.ok sc_literal_line (fun vs H Q E h => ?_) (fun f cdv A outer s H vs Q E hr h => ⟨_, (pss_cons (ps_if (pt_cmpR o_in (pe_ix o_ix (kv 0) pe_int (fun _ _ => rfl)) (pe_glob (v := .ref a.t_TEXTS) (by rfl) T.gt_TEXTS.g rfl) (by rfl))
      (pss_one (ps_ret (pe_op o_add (pe_op o_add (pe_ix o_ix (kv 0) pe_int (fun _ _ => rfl)) pe_str) (kc C_escaped (hr.mono (by decide)) (pa_cons (pe_ix o_ix (kv 0) pe_int (fun _ _ => rfl)) pa_nil)))))
      pss_nil)
      (pss_one (ps_ret (kc C_joined (hr.mono (by decide)) (pa_cons (kv 0) pa_nil))))), ?_⟩)
  · obtain ⟨p, x, rfl, _⟩ := h; rfl
  · obtain ⟨p, x, rfl, hp, hx, h⟩ := h
    walk_at "kk"
    rcases hx with ⟨n, rfl, hn⟩ | ⟨b, c, d, e, rfl, hb, hc, hd, he⟩ | ⟨k, t, rfl, hk, ht, _⟩
    · refine ix_t hp (atI_nat (j := 0) rfl) ?_
      walk_at "kk"
      refine in_g (xs := tTEXTS) (T.gt_TEXTS.sq _) ?_
      walk_at "kk"
      rw [if_neg tint_no]
      refine ⟨p, _, rfl, .inr hp, by simp, ?_, h⟩
      intro v hv
      simp only [List.mem_cons, List.not_mem_nil, or_false] at hv
      rcases hv with rfl | rfl
      · exact .inl ⟨_, rfl, Sm.mono (Sm.lit (l := tINT) (by decide)) (by decide)⟩
      · exact .inr ⟨_, rfl, hn⟩
    · refine ix_t hp (atI_nat (j := 0) rfl) ?_
      walk_at "kk"
      refine in_g (xs := tTEXTS) (T.gt_TEXTS.sq _) ?_
      walk_at "kk"
      rw [if_neg tblock_no]
      refine ⟨p, _, rfl, .inr hp, by simp, ?_, h⟩
      intro v hv
      simp only [List.mem_cons, List.not_mem_nil, or_false] at hv
      rcases hv with rfl | rfl | rfl | rfl | rfl
      · exact .inl ⟨_, rfl, Sm.mono (Sm.lit (l := tBLOCK) (by decide)) (by decide)⟩
      · exact .inr ⟨_, rfl, hb⟩
      · exact .inr ⟨_, rfl, hc⟩
      · exact .inr ⟨_, rfl, hd⟩
      · exact .inr ⟨_, rfl, he⟩
    · have k8 := texts_sm k hk
      have hk1 := k8.len
      have he := esc_sm ht
      have he1 := he.len
      refine ix_t hp (atI_nat (j := 0) rfl) ?_
      walk_at "kk"
      refine in_g (xs := tTEXTS) (T.gt_TEXTS.sq _) ?_
      walk_at "kk"
      rw [if_pos hk]
      refine ix_t hp (atI_nat (j := 0) rfl) ?_
      walk_at "kk"
      refine ⟨t, rfl, ht.mono (by omega), ?_⟩
      walk_at "kk"
      have e : S (k ++ [32] ++ esc t) = S (litLine [V.str (S k), .str (S t)]) := congrArg S (by show _ = k ++ 32 :: esc t; simp)
      rw [e]
      exact h H (KW.Fr.refl H)
theorem ok_list_draft (T : Txt P w K mg a) : Cal P w K mg base 3 "list_draft" (spListD a.Draft) := by
  have C_joined := ok_joined (P := P) (w := w) (base := base) T
  have C_literal_line := ok_literal_line (P := P) (w := w) (base := base) T
  refine T.d_list_draft.ok sc_list_draft (fun vs H Q E h => ?_) (fun f cdv A outer s H vs Q E hr h => ⟨_, (pss_cons (ps_set (i := 1) sc_list_draft.nd rfl (Or.inl rfl) (pe_lst (pa_cons (kc C_joined (hr.mono (by decide)) (pa_cons (pe_lst (pa_cons pe_str (pa_cons (k_fld (kv 0) rfl) (pa_cons (k_fld (kv 0) rfl) (pa_cons (k_fld (kv 0) rfl) (pa_cons (k_fld (kv 0) rfl) pa_nil)))))) pa_nil)) pa_nil)))
      (pss_cons (ps_expr (pe_bm PySem.F.plainAttrs_list PySem.F.slot_list_extend PySem.F.type_list_extend mt_extend (kv 1) (pa_cons (k_lc (own := [("literal", 2)]) (g := gName 2) (by rfl) sc_list_draft.nd (pi_list (k_fld (kv 0) rfl)) (blkOk_by (own := [("literal", 2)]) (N := ["draft", "lines", "literal", "op", "arg"]) (sc := defScope s_list_draft) (by decide +kernel)) (fun _ _ _ _ _ => pg_name (i := 2) sc_list_draft.nd rfl (Or.inl rfl)) (fun _ _ _ _ _ => pts_nil) (fun _ _ _ _ _ => by exact (kc C_literal_line (hr.mono (by decide)) (pa_cons (kv 2) pa_nil)))) pa_nil)))
      (pss_cons (ps_expr (pe_bm PySem.F.plainAttrs_list PySem.F.slot_list_append PySem.F.type_list_append mt_append (kv 1) (pa_cons pe_str pa_nil)))
      (pss_cons (k_for (passes_of rfl) rfl (pi_list (k_fld (kv 0) rfl)) (pg_tup (n := 2) (by rfl) (pgs_cons (pg_name (i := 3) sc_list_draft.nd rfl (Or.inl rfl)) (pgs_cons (pg_name (i := 4) sc_list_draft.nd rfl (Or.inl rfl)) pgs_nil)))
      (pss_one (ps_expr (pe_bm PySem.F.plainAttrs_list PySem.F.slot_list_append PySem.F.type_list_append mt_append (kv 1) (pa_cons (pe_ifExp (pt_cmpR o_in (kv 3) (pe_glob (v := .ref a.t_PLAIN) (by rfl) T.gt_PLAIN.g rfl) (by rfl)) (kv 3) (kc C_joined (hr.mono (by decide)) (pa_cons (pe_lst (pa_cons (kv 3) (pa_cons (kv 4) pa_nil))) pa_nil))) pa_nil)))))
      (pss_one (ps_ret (kv 1))))))), ?_⟩)
  · obtain ⟨d, x, rfl, _⟩ := h; rfl
  · obtain ⟨d, x, rfl, ⟨dx, pc, pl, n1, n2, n3, i1, d1, d2, d3⟩, hx, hnc, hnl, h⟩ := h
    obtain ⟨b1, b2, b3, ei, hb1, hb2, hb3⟩ := hx.is
    rw [i1] at ei
    obtain ⟨rfl, rfl, rfl⟩ : n1 = b1 ∧ n2 = b2 ∧ n3 = b3 := by simpa using ei
    walk_at "kk"
    intro p hp
    have f1 := KW.Fr.new (l := []) (o := .lst [V.str (S tMETHOD), .str (S x.sel), .int n1, .int n2, .int n3]) hp
    refine ⟨p, _, rfl, .inl upd_same, by simp, ?_, fun H1 f2 => ?_⟩
    · intro v hv
      simp only [List.mem_cons, List.not_mem_nil, or_false] at hv
      rcases hv with rfl | rfl | rfl | rfl | rfl
      · exact .inl ⟨_, rfl, Sm.mono (Sm.lit (l := tMETHOD) (by decide)) (by decide)⟩
      · exact .inl ⟨_, rfl, hx.sel.1.mono (by omega)⟩
      · exact .inr ⟨_, rfl, hb1⟩
      · exact .inr ⟨_, rfl, hb2⟩
      · exact .inr ⟨_, rfl, hb3⟩
    have eh : S (TL.joinL [32] (List.map sOf [V.str (S [109, 101, 116, 104, 111, 100]), .str (S x.sel), .int n1, .int n2, .int n3])) = S (headLine x) := by
      unfold headLine; rw [i1]; rfl
    have f12 := f1.trans f2
    rw [eh]
    walk_at "kk"
    intro L hL
    have f3 := f12.trans (KW.Fr.new (l := []) (o := .lst [sV (headLine x)]) hL)
    have hL0 := fr_no f12 hL
    change KW.Fr [] H (upd H1 L (.lst [V.str (S (headLine x))])) at f3
    have Ls0 : (upd H1 L (.lst [V.str (S (headLine x))])) L = some (.lst [V.str (S (headLine x))]) := upd_same
    generalize (upd H1 L (.lst [V.str (S (headLine x))])) = H2 at f3 Ls0 ⊢
    have dd := f3 _ _ (by simp) d1
    obtain ⟨al, l1, l2, l3⟩ := d3
    obtain ⟨ac, c1, c2, c3⟩ := d2
    have lp := f3 _ _ (by simp) l1
    have cp := f3 _ _ (by simp) c1
    walk_at "kk"
    refine lc_lG (xs := al) (F := V.ref) (fun i D acc H' => H' D = some (.lst acc) ∧ KW.Fr [] H2 H' ∧ acc = (x.lits.take i).map fun y => sV (litLine y)) (fun D hD => ⟨upd_same, KW.Fr.new hD, rfl⟩) (fun i D acc H' z => .of (z.2.1 _ _ (by simp) lp)) (fun j b D acc H' Nx hb hD hP hN => ?_) fun D acc H' hD hP => ?_
    · obtain ⟨g1, g2, rfl⟩ := hP
      have hj := (List.getElem?_eq_some_iff.mp hb).1
      obtain ⟨y, hy⟩ : ∃ y, x.lits[j]? = some y := ⟨_, List.getElem?_eq_getElem (by omega)⟩
      have ht := g2 _ _ (by simp) (f3 _ _ (by simp) (l3 j b y hb hy))
      walk_at "kk"
      refine ⟨b, y, rfl, ht, hx.lits y (List.mem_of_getElem? hy), fun H'' g3 => ⟨_, g3 _ _ (by simp) g1, lt_line (by rw [List.length_map, List.length_take]; omega), hN _ _ ⟨upd_same, fr_at hD (g2.trans g3), ?_⟩⟩⟩
      rw [List.take_add_one, hy, List.map_append]
      rfl
    · obtain ⟨g1, g2, rfl⟩ := hP
      rw [l2, List.take_length] at g1
      have Ls1 := g2 _ _ (by simp) Ls0
      have LD : L ≠ D := by rintro rfl; rw [Ls0] at hD; cases hD
      refine ext_l Ls1 g1 (le_line (by simp only [List.length_append, List.length_map, List.length_cons, List.length_nil]; omega)) ?_
      have dd2 := g2 _ _ (by simp) dd
      have cp2 := g2 _ _ (by simp) cp
      have nL : ∀ {q : Addr} {o : HO}, H q = some o → q ≠ L := fun e z => by rw [z, hL0] at e; cases e
      have f4 : KW.Fr [] H (upd H' L (.lst ([V.str (S (headLine x))] ++ x.lits.map fun y => sV (litLine y)))) := fr_at hL0 (f3.trans g2)
      have Ls2 : (upd H' L (.lst ([V.str (S (headLine x))] ++ x.lits.map fun y => sV (litLine y)))) L = some (.lst ([V.str (S (headLine x))] ++ x.lits.map fun y => sV (litLine y))) := upd_same
      generalize (upd H' L (.lst ([V.str (S (headLine x))] ++ x.lits.map fun y => sV (litLine y)))) = H3 at f4 Ls2 ⊢
      walk_at "kk"
      rw [lit_code]
      have f5 : KW.Fr [] H (upd H3 L (.lst (V.str (S (headLine x)) :: ((x.lits.map fun y => sV (litLine y)) ++ [V.str (S tCODE)])))) := fr_at hL0 f4
      have Ls3 : (upd H3 L (.lst (V.str (S (headLine x)) :: ((x.lits.map fun y => sV (litLine y)) ++ [V.str (S tCODE)])))) L = some (.lst (V.str (S (headLine x)) :: ((x.lits.map fun y => sV (litLine y)) ++ [V.str (S tCODE)]))) := upd_same
      generalize (upd H3 L (.lst (V.str (S (headLine x)) :: ((x.lits.map fun y => sV (litLine y)) ++ [V.str (S tCODE)])))) = H4 at f5 Ls3 ⊢
      have dd3 := f5 _ _ (by simp) d1
      have cp3 := f5 _ _ (by simp) c1
      walk_at "kk"
      refine for_lst (xs := ac.map V.ref) (fun i σ H' => ∃ v3 v4 : Option V, σ = [some (.ref d), some (.ref L), none, v3, v4] ∧ KW.Fr [] H H' ∧ H' L = some (.lst ((V.str (S (headLine x)) :: ((x.lits.map fun y => sV (litLine y)) ++ [V.str (S tCODE)])) ++ (x.code.take i).map fun y => sV (insLine y)))) ⟨none, none, rfl, f5, by rw [Ls3]; simp⟩ ?_ ?_ ?_
      · rintro i σ H' _ ⟨_, _, _, g, _⟩
        exact .of (g _ _ (by simp) c1)
      · rintro i v σ H' hv ⟨v3, v4, rfl, f6, hL6⟩
        rw [List.getElem?_map] at hv
        obtain ⟨b, hb, rfl⟩ := Option.map_eq_some_iff.mp hv
        have hj := (List.getElem?_eq_some_iff.mp hb).1
        obtain ⟨y, hy⟩ : ∃ y, x.code[i]? = some y := ⟨_, List.getElem?_eq_getElem (by omega)⟩
        have ht := f6 _ _ (by simp) (c3 i b y hb hy)
        have hok := hx.code y (List.mem_of_getElem? hy)
        obtain ⟨op, n, rfl, hon⟩ := hok
        walk_at "kk"
        have et : (x.code.take (i + 1)).map (fun y => sV (insLine y)) = (x.code.take i).map (fun y => sV (insLine y)) ++ [sV (insLine [V.str (S op), .int n])] := by
          rw [List.take_add_one, hy, List.map_append]; rfl
        have tk : (x.code.take i).length ≤ 1000 := by rw [List.length_take]; omega
        have lz : (V.str (S (headLine x)) :: ((x.lits.map fun y => sV (litLine y)) ++ [V.str (S tCODE)]) ++ (x.code.take i).map fun y => sV (insLine y)).length < sizeLine := lt_line (by simp only [List.length_append, List.length_map, List.length_cons, List.length_nil]; omega)
        refine in_g (xs := tPLAIN) (T.gt_PLAIN.sq _) ?_
        walk_at "kk"
        by_cases c : op ∈ tPLAIN
        · rw [if_pos c]
          have ei : insLine [V.str (S op), .int n] = op := by show (if op ∈ tPLAIN then op else _) = op; rw [if_pos c]
          rw [ei] at et
          refine app_l hL6 lz ?_
          refine ⟨⟨_, rfl⟩, fr_at hL0 f6, ?_⟩
          rw [upd_same, et, List.append_assoc]
          rfl
        · rw [if_neg c]
          have ei : insLine [V.str (S op), .int n] = TL.joinL [32] ([V.str (S op), .int n].map sOf) := by show (if op ∈ tPLAIN then op else _) = _; rw [if_neg c]; rfl
          rw [ei] at et
          refine ⟨by decide, fun q hq => ?_⟩
          refine ⟨q, _, rfl, .inl upd_same, by simp, ?_, fun H7 f7 => ?_⟩
          · intro v hv
            simp only [List.mem_cons, List.not_mem_nil, or_false] at hv
            rcases hv with rfl | rfl
            · exact .inl ⟨op, rfl, (ops_sm op (List.mem_append.mpr (hon.imp (fun z => z.1) fun z => z.1))).mono (by omega)⟩
            · exact .inr ⟨n, rfl, by omega⟩
          · have f67 := f6.trans ((KW.Fr.new (l := []) (o := .lst [V.str (S op), .int n]) hq).trans f7)
            have hL7 := ((KW.Fr.new (l := []) (o := .lst [V.str (S op), .int n]) hq).trans f7) _ _ (by simp) hL6
            refine app_l hL7 lz ?_
            refine ⟨⟨_, rfl⟩, fr_at hL0 f67, ?_⟩
            rw [upd_same, et, List.append_assoc]
            rfl
      · rintro σ H' ⟨v3, v4, rfl, f6, hL6⟩
        rw [List.length_map, c2, List.take_length] at hL6
        walk_at "kk"
        refine h L H' hL0 f6 ?_
        rw [hL6]
        unfold LS.linesOf
        simp only [List.map_cons, List.map_append, List.map_map]
        rw [List.cons_append, List.append_assoc]
        rfl
end
end K25

set_option Elab.async false
set_option linter.all false
set_option maxRecDepth 100000
set_option maxHeartbeats 4000000
/-! Ls8: lines are lines; rows of tuples under way -/
namespace LS
open PySem PySem.Spec PyProof.Rows L2 KW PK
theorem headLine_sm {x : Dra} (h : DraWf x) : Sm 3000 (headLine x) := by
  obtain ⟨a, b, c, e, ha, hb, hc⟩ := h.is
  unfold headLine
  rw [e]
  refine (joinL_sm (n := 5) (B := 400) (by simp) ?_).mono (by omega)
  intro w hw
  simp only [List.map_cons, List.map_nil, List.mem_cons, List.not_mem_nil, or_false] at hw
  rcases hw with rfl | rfl | rfl | rfl | rfl
  · exact Sm.mono (Sm.lit (l := tMETHOD) (by decide)) (by decide)
  · exact h.sel.1.mono (by omega)
  · exact WOk.sm (.inr ⟨_, rfl, ha⟩)
  · exact WOk.sm (.inr ⟨_, rfl, hb⟩)
  · exact WOk.sm (.inr ⟨_, rfl, hc⟩)
theorem lines_ok {x : Dra} (h : DraWf x) : ∀ l ∈ LS.linesOf x, Line l := by
  have key : ∀ l, Sm 3000 l → Line l := fun l h => ⟨Nat.le_trans h.len (by decide), h.cps⟩
  intro l hl
  rcases List.mem_cons.mp hl with rfl | hl
  · exact key _ (headLine_sm h)
  · rcases List.mem_append.mp hl with hl | hl
    · obtain ⟨y, hy, rfl⟩ := List.mem_map.mp hl
      exact key _ (litLine_sm (h.lits y hy))
    · rcases List.mem_cons.mp hl with rfl | hl
      · exact ⟨by decide, by decide⟩
      · obtain ⟨y, hy, rfl⟩ := List.mem_map.mp hl
        exact key _ (insLine_sm (h.code y hy))
theorem lines_len (x : Dra) : (LS.linesOf x).length = x.lits.length + x.code.length + 2 := by
  unfold LS.linesOf
  simp only [List.length_cons, List.length_append, List.length_map]
  omega
/-- a row of tuples that grows -/
theorem TLs.snoc {H' : Hp} {q : Addr} {xs : List (List V)} {x : List V} {as : List Addr} (h1 : as.length = xs.length) (h2 : ∀ (i : Nat) (a : Addr) (x : List V), as[i]? = some a → xs[i]? = some x → H' a = some (.tup x)) (hq : H' q = some (.tup x)) :
    (as ++ [q]).length = (xs ++ [x]).length ∧ ∀ (i : Nat) (a : Addr) (y : List V), (as ++ [q])[i]? = some a → (xs ++ [x])[i]? = some y → H' a = some (.tup y) := by
  refine ⟨by simp [h1], fun i b z z1 z2 => ?_⟩
  by_cases c : i < as.length
  · rw [List.getElem?_append_left c] at z1
    rw [List.getElem?_append_left (by omega)] at z2
    exact h2 i b z z1 z2
  · rw [List.getElem?_append_right (by omega)] at z1
    rw [List.getElem?_append_right (by omega), ← h1] at z2
    have i0 : i - as.length = 0 := by
      by_cases c0 : i - as.length = 0
      · exact c0
      · rw [List.getElem?_eq_none (by simp; omega)] at z1; cases z1
    rw [i0] at z1 z2
    cases z1; cases z2
    exact hq
theorem tup_upd {H : Hp} {b D : Addr} {x ys : List V} {o : HO} (h : H b = some (.tup x)) (hD : H D = some (.lst ys)) : (upd H D o) b = some (.tup x) := by
  rw [upd_ne]
  · exact h
  · rintro rfl
    rw [h] at hD; cases hD
theorem tup_st {K : Frag} {sc : Addr × List Int} {H H' : Hp} {st b : Addr} {x : List V} (s : Sta K sc H st) (f : KW.Fr [st] H H') (h : H b = some (.tup x)) : H' b = some (.tup x) := by
  refine fr_ne f ?_ h
  rintro rfl
  obtain ⟨ys, hy⟩ := s.lst
  rw [h] at hy; cases hy
/-- a row of tuples under way -/
def Rw (R : List V → Prop) (K : Frag) (sc : Addr × List Int) (st : Addr) (H0 : Hp) (i : Nat) (D : Addr) (acc : List V) (H' : Hp) : Prop := D ≠ st ∧ Sta K sc H' st ∧ KW.Fr [st] H0 H' ∧ ∃ (as : List Addr) (xs : List (List V)), acc = as.map V.ref ∧ H' D = some (.lst acc) ∧
  (as.length = xs.length ∧ ∀ (i : Nat) (a : Addr) (x : List V), as[i]? = some a → xs[i]? = some x → H' a = some (.tup x)) ∧ xs.length = i ∧ ∀ x ∈ xs, R x
theorem Rw.z {R : List V → Prop} {K : Frag} {sc : Addr × List Int} {st D : Addr} {H0 : Hp} (s : Sta K sc H0 st) (hD : H0 D = none) : Rw R K sc st H0 0 D [] (upd H0 D (.lst [])) := ⟨s.ne hD, s.new hD, KW.Fr.new hD, [], [], rfl, upd_same, ⟨rfl, by simp⟩, rfl, by simp⟩
theorem Rw.step {R : List V → Prop} {K : Frag} {sc : Addr × List Int} {st D q : Addr} {H0 H5 H6 : Hp} {i : Nat} {acc x : List V} (s : Sta K sc H0 st) (hD : H0 D = none) (h : Rw R K sc st H0 i D acc H5) (s6 : Sta K sc H6 st) (f6 : KW.Fr [st] H5 H6) (hq : H6 q = some (.tup x)) (ok : R x) : H6 D = some (.lst acc) ∧ acc.length = i ∧ Rw R K sc st H0 (i + 1) D (acc ++ [.ref q]) (upd H6 D (.lst (acc ++ [.ref q]))) := by
  obtain ⟨nD, s5, f5, as, xs, rfl, hD5, ⟨e1, e2⟩, e3, e4⟩ := h
  have h6 := fr_ne f6 nD hD5
  refine ⟨h6, by rw [List.length_map]; omega, nD, s.upd hD s6, fr_atL hD (f5.trans f6), as ++ [q], xs ++ [x], by rw [List.map_append]; rfl, upd_same, TLs.snoc e1 (fun i a x z1 z2 => tup_upd (tup_st s5 f6 (e2 i a x z1 z2)) h6) (tup_upd hq h6), by simp [e3], fun z hz => ?_⟩
  rcases List.mem_append.mp hz with z1 | z1
  · exact e4 z z1
  · have : z = x := by simpa using z1
    rw [this]; exact ok
/-- a draft whose lists are none of those -/
def DrfN (l : List Addr) (CD : Addr) (H : Hp) (d : Addr) (x : Dra) : Prop := ∃ (dx pc pl : Addr) (n1 n2 n3 : Int), pc ∉ l ∧ pl ∉ l ∧ x.is = [n1, n2, n3] ∧
  H d = some (.ins CD dx [("selector", .str (S x.sel)), ("argc", .int n1), ("locals", .int n2), ("stack", .int n3), ("code", .ref pc), ("literals", .ref pl)]) ∧ TLs H pc x.code ∧ TLs H pl x.lits
theorem DrfN.d {l : List Addr} {CD : Addr} {H : Hp} {d : Addr} {x : Dra} (h : DrfN l CD H d x) : Drf CD H d x := by
  obtain ⟨dx, pc, pl, n1, n2, n3, _, _, h⟩ := h
  exact ⟨dx, pc, pl, n1, n2, n3, h⟩
theorem DrfN.fr {l : List Addr} {CD : Addr} {H H' : Hp} {d : Addr} {x : Dra} (h : DrfN l CD H d x) (f : KW.Fr [] H H') : DrfN l CD H' d x := by
  obtain ⟨dx, pc, pl, n1, n2, n3, g1, g2, h0, h1, h2, h3⟩ := h
  exact ⟨dx, pc, pl, n1, n2, n3, g1, g2, h0, f _ _ (by simp) h1, h2.fr f, h3.fr f⟩
theorem DrfN.upd {l : List Addr} {CD G : Addr} {H : Hp} {d : Addr} {x : Dra} {ys zs : List V} (h : DrfN l CD H d x) (m : G ∈ l) (hG : H G = some (.lst ys)) : DrfN l CD (upd H G (.lst zs)) d x := by
  obtain ⟨dx, pc, pl, n1, n2, n3, g1, g2, h0, h1, h2, h3⟩ := h
  refine ⟨dx, pc, pl, n1, n2, n3, g1, g2, h0, ?_, h2.off (fun z => g1 (z ▸ m)) hG, h3.off (fun z => g2 (z ▸ m)) hG⟩
  rw [upd_ne]
  · exact h1
  · rintro rfl
    rw [h1] at hG; cases hG
def spDraftN (CD : Addr) : Sp := fun vs H Q _ => ∃ (x dx pc pl : Addr) (sel : List Nat) (n1 n2 n3 : Int) (code lits : List (List V)) (l : List Addr), vs = [.ref x, .str (S sel), .int n1, .int n2, .int n3, .ref pc, .ref pl] ∧ H x = some (.ins CD dx []) ∧ TLs H pc code ∧ TLs H pl lits ∧ (∀ y ∈ l, H y ≠ none) ∧
  ∀ H', KW.Fr [x] H H' → DrfN l CD H' x ⟨sel, [n1, n2, n3], code, lits⟩ → Q .non H'
def pD (x : Dra) : PyData := match x.is with
  | [a, b, c] => .list (dP x.sel a b c x.code x.lits)
  | _ => .none
theorem PAt.dp {K : Frag} {H : Hp} {o : Addr} {x : Dra} (h : PAt H o x) (ok : x.ok) : Dp K H (.ref o) (pD x) := by
  obtain ⟨pc, pl, n1, n2, n3, h1, h2, h3, h4⟩ := h
  unfold pD
  rw [h1]
  exact .lst (.of h2) (dp_P h3 h4 ok)
theorem pD_sh {x : Dra} (ok : x.ok) (l : x.is.length = 3) : SeqAt.shaped (pD x) = true := by
  obtain ⟨a, b, c, e⟩ : ∃ a b c, x.is = [a, b, c] := by
    match x.is, l with
    | [a, b, c], _ => exact ⟨a, b, c, rfl⟩
  unfold pD
  rw [e]
  exact (sh_P ok).2
end LS

set_option Elab.async false
set_option linter.all false
set_option maxRecDepth 100000
set_option maxHeartbeats 4000000
namespace K25
open PySem PySem.Spec PyProof.Rows L2 KW LS
local macro_rules | `(tactic| walk_at "kw") => `(tactic| simp only [tSeq, tNext, tIfS, tTest, tAnd, tOr, tNot, tAndV, tOrV, tNotV, tIf, tChain, tOp, tUn, tC, tAsg, gName, gSub, gCons, gNil, tRet, tRetN, tDrop, tCons, tNil, tCB, tAug, tSl, tPart, tNoPart, tLst, tTup, tBM, tBM0, uTest, uFor, iRng1, iRng2, iList, uCall, List.map_cons, List.map_nil, List.length_cons, List.length_nil, List.cons_append, List.nil_append, List.replicate, Nat.zero_add, Nat.reduceAdd, Nat.reduceSub, List.getElem?_cons_zero, List.getElem?_cons_succ, List.set_cons_zero, List.set_cons_succ, V.bl.injEq, V.int.injEq, V.str.injEq, V.ref.injEq, V.ty.injEq, List.cons.injEq, and_true, true_and, exists_eq_left', exists_eq_right, exists_eq_left, exists_and_left, exists_and_right, decide_eq_true_eq, Bool.not_eq_true', decide_eq_false_iff_not, Bool.false_eq_true, if_true, if_false, ite_true, ite_false, Bool.not_true, Bool.not_false, reduceCtorEq, decide_true, decide_false, Bool.not_not, isK_int_int, isK_int_bool, isK_int_str, isK_int_list, isK_int_tuple, isK_bool_int, isK_bool_bool, isK_bool_str, isK_str_str, isK_str_int, isK_str_bool, isK_str_tuple, isK_str_list, isK_list_list, isK_list_tuple, isK_tuple_tuple, isK_tuple_list, isOk_int_int, isOk_int_bool, isOk_int_str, isOk_int_list, isOk_int_tuple, isOk_bool_int, isOk_bool_bool, isOk_bool_str, isOk_str_str, isOk_str_int, isOk_str_bool, isOk_str_tuple, isOk_str_list, isOk_list_list, isOk_list_tuple, isOk_tuple_tuple, isOk_tuple_list, isK_dict_dict, isOk_dict_dict, isK_none_int, isK_none_bool, isOk_none_int, isOk_none_bool, tyV, S_inj, S_cat, L2.start, Nat.reduceSub, List.replicate_succ, List.replicate_zero, and_assoc, List.append_nil, Nat.reduceEqDiff, Option.some.injEq, Int.natCast_inj, upd_upd, Int.reducePow, Int.reduceToNat, Int.reduceMul, Int.reduceAdd, Int.reduceSub, Int.reduceLT, Int.reduceLE, Int.reduceNeg, Int.reduceDiv, Int.reduceMod, Nat.reducePow, Nat.reduceMul, S_len, List.length_append, List.length_map, List.length_range, not_true_eq_false, not_false_eq_true, ne_eq, uAdd_e1, uAdd_e2, uSub_e1, uMod_e1, uDiv_e1, uPow_e1, uShl_e1, uNeg_e1, uIAdd_e1, uIAdd_e2, uIAdd_e3, uISub_e1, uLt_e1, uLt_e2, uLe_e1, uGt_e1, uGe_e1, uEq_e1, uEq_e2, uEq_e3, uEq_e4, uEq_e5, uEq_e6, uEq_e7, uEq_e8, uEq_e9, uEq_e10, uEq_e11, uNe_e1, uNe_e2, uNe_e3, uNe_e4, uNe_e5, uNe_e6, uNe_e7, uNe_e8, uNe_e9, uNe_e10, uNe_e11, uIs_e1, uIs_e2, uIs_e3, uIs_e4, uIs_e5, uIs_e6, uIs_e7, uNotIs_e1, uNotIs_e2, uNotIs_e3, uNotIs_e4, uNotIs_e5, uNotIs_e6, uIn_e1, uIn_e2, uIn_e3, uIn_e4, uNotIn_e1, uNotIn_e2, uNotIn_e3, uNotIn_e4, uTru_e1, uTru_e2, uTru_e3, uTru_e4, uIx_e2, uSl_e2, uLen_e1, uAbs_e1, uInt_e1, uInt_e2, uMin2_e1, uIsi_e1, uIsi_e2, uIsi_e3, uIsi_e4, cx_K, uVar_0, uVar_n, uFld, uSFld, uMet, uMake, tDG, tDI, tDNI, tDP, tDD, uMk, uRaise, uDelSl, tCallS, L2.WE, uStr_e1, uStr_e2, uMul2_e1, uMul2_e2, okS_i, okS_s, List.zip_cons_cons, List.zip_nil_left, List.drop_zero, List.drop_succ_cons, List.drop_nil, putF_nil, putF_cons, eq_self, tDNewK, tB, Option.isSome_some, Option.isSome_none, false_and, false_or, or_false, exists_false, Int.zero_add, uLc, wipe, tYes, isEmpty_app, List.isEmpty_cons, List.isEmpty_nil, List.isEmpty_map, Bool.and_false, Bool.and_true, iRev, K25.lit_0, K25.lit_1, K25.lit_2, K25.lit_3, K25.lit_4, K25.lit_5, K25.lit_6, K25.lit_7, K25.lit_8, K25.lit_9, K25.lit_10, K25.lit_11, K25.lit_12, K25.lit_13, K25.lit_14, K25.lit_15, K25.lit_16, K25.lit_17, K25.lit_18, K25.lit_19, K25.lit_20, K25.lit_21, K25.lit_22, K25.lit_23, K25.lit_25, K25.lit_26, K25.lit_27, K25.lit_28, K25.lit_29, K25.lit_30, K25.lit_32, K25.lit_33, K25.lit_34, K25.lit_35, K25.lit_36, K25.lit_37, K25.lit_38, K25.lit_39, K25.lit_40, K25.lit_41, K25.lit_42, K25.lit_43, K25.lit_44, K25.lit_45, K25.lit_46, K25.lit_47, K25.lit_48, K25.lit_49, K25.lit_50, K25.lit_51, K25.fe_selector_argc, K25.fe_selector_locals, K25.fe_selector_stack, K25.fe_selector_code, K25.fe_selector_literals, K25.fe_argc_selector, K25.fe_argc_locals, K25.fe_argc_stack, K25.fe_argc_code, K25.fe_argc_literals, K25.fe_locals_selector, K25.fe_locals_argc, K25.fe_locals_stack, K25.fe_locals_code, K25.fe_locals_literals, K25.fe_stack_selector, K25.fe_stack_argc, K25.fe_stack_locals, K25.fe_stack_code, K25.fe_stack_literals, K25.fe_code_selector, K25.fe_code_argc, K25.fe_code_locals, K25.fe_code_stack, K25.fe_code_literals, K25.fe_literals_selector, K25.fe_literals_argc, K25.fe_literals_locals, K25.fe_literals_stack, K25.fe_literals_code, K25.fl_code_0, K25.lf_code_0, K25.fl_code_1, K25.lf_code_1, K25.fl_code_2, K25.lf_code_2, K25.fl_code_3, K25.lf_code_3, K25.fl_code_4, K25.lf_code_4, K25.fl_code_5, K25.lf_code_5, K25.fl_code_6, K25.lf_code_6, K25.fl_code_7, K25.lf_code_7, K25.fl_code_8, K25.lf_code_8, K25.fl_code_9, K25.lf_code_9, K25.fl_code_10, K25.lf_code_10, K25.fl_code_11, K25.lf_code_11, K25.fl_code_12, K25.lf_code_12, K25.fl_code_13, K25.lf_code_13, K25.fl_code_14, K25.lf_code_14, K25.fl_code_15, K25.lf_code_15, K25.fl_code_16, K25.lf_code_16, K25.fl_code_17, K25.lf_code_17, K25.fl_code_18, K25.lf_code_18, K25.fl_code_19, K25.lf_code_19, K25.fl_code_20, K25.lf_code_20, K25.fl_code_21, K25.lf_code_21, K25.fl_code_22, K25.lf_code_22, K25.fl_code_23, K25.lf_code_23, K25.fl_code_24, K25.lf_code_24, K25.fl_code_25, K25.lf_code_25, K25.fl_code_26, K25.lf_code_26, K25.fl_code_27, K25.lf_code_27, K25.fl_code_28, K25.lf_code_28, K25.fl_code_29, K25.lf_code_29, K25.fl_code_30, K25.lf_code_30, K25.fl_code_32, K25.lf_code_32, K25.fl_code_33, K25.lf_code_33, K25.fl_code_34, K25.lf_code_34, K25.fl_code_35, K25.lf_code_35, K25.fl_code_36, K25.lf_code_36, K25.fl_code_37, K25.lf_code_37, K25.fl_code_38, K25.lf_code_38, K25.fl_code_39, K25.lf_code_39, K25.fl_code_40, K25.lf_code_40, K25.fl_code_41, K25.lf_code_41, K25.fl_code_42, K25.lf_code_42, K25.fl_code_43, K25.lf_code_43, K25.fl_code_44, K25.lf_code_44, K25.fl_code_45, K25.lf_code_45, K25.fl_code_46, K25.lf_code_46, K25.fl_code_47, K25.lf_code_47, K25.fl_code_48, K25.lf_code_48, K25.fl_code_49, K25.lf_code_49, K25.fl_code_50, K25.lf_code_50, K25.fl_code_51, K25.lf_code_51, K25.fl_selector_0, K25.lf_selector_0, K25.fl_selector_1, K25.lf_selector_1, K25.fl_selector_2, K25.lf_selector_2, K25.fl_selector_3, K25.lf_selector_3, K25.fl_selector_4, K25.lf_selector_4, K25.fl_selector_5, K25.lf_selector_5, K25.fl_selector_6, K25.lf_selector_6, K25.fl_selector_7, K25.lf_selector_7, K25.fl_selector_8, K25.lf_selector_8, K25.fl_selector_9, K25.lf_selector_9, K25.fl_selector_10, K25.lf_selector_10, K25.fl_selector_11, K25.lf_selector_11, K25.fl_selector_12, K25.lf_selector_12, K25.fl_selector_13, K25.lf_selector_13, K25.fl_selector_14, K25.lf_selector_14, K25.fl_selector_15, K25.lf_selector_15, K25.fl_selector_16, K25.lf_selector_16, K25.fl_selector_17, K25.lf_selector_17, K25.fl_selector_18, K25.lf_selector_18, K25.fl_selector_19, K25.lf_selector_19, K25.fl_selector_20, K25.lf_selector_20, K25.fl_selector_21, K25.lf_selector_21, K25.fl_selector_22, K25.lf_selector_22, K25.fl_selector_23, K25.lf_selector_23, K25.fl_selector_25, K25.lf_selector_25, K25.fl_selector_26, K25.lf_selector_26, K25.fl_selector_27, K25.lf_selector_27, K25.fl_selector_28, K25.lf_selector_28, K25.fl_selector_29, K25.lf_selector_29, K25.fl_selector_30, K25.lf_selector_30, K25.fl_selector_31, K25.lf_selector_31, K25.fl_selector_32, K25.lf_selector_32, K25.fl_selector_33, K25.lf_selector_33, K25.fl_selector_34, K25.lf_selector_34, K25.fl_selector_35, K25.lf_selector_35, K25.fl_selector_36, K25.lf_selector_36, K25.fl_selector_37, K25.lf_selector_37, K25.fl_selector_38, K25.lf_selector_38, K25.fl_selector_39, K25.lf_selector_39, K25.fl_selector_40, K25.lf_selector_40, K25.fl_selector_41, K25.lf_selector_41, K25.fl_selector_42, K25.lf_selector_42, K25.fl_selector_43, K25.lf_selector_43, K25.fl_selector_44, K25.lf_selector_44, K25.fl_selector_45, K25.lf_selector_45, K25.fl_selector_46, K25.lf_selector_46, K25.fl_selector_47, K25.lf_selector_47, K25.fl_selector_48, K25.lf_selector_48, K25.fl_selector_49, K25.lf_selector_49, K25.fl_selector_50, K25.lf_selector_50, K25.fl_selector_51, K25.lf_selector_51, uAll_e, iTup_e, CwR.tReplC, uTuple_e, uFm_e1, uFm_e2, uIntS_e1, uIntS_e2, uIntS_e3, uEqO_e, tFm, tJs, iStr, S_e, itxt_S, K25.N_Draft_init, K25.N_Draft_parts, K25.N_Draft___eq__, K25.N_escaped, K25.N_joined, K25.N_literal_line, K25.N_list_draft, K25.N_number_in, K25.N_numbers_in, K25.N_unescaped, K25.N_read_head, K25.N_read_text, K25.N_read_literal, K25.N_read_instruction, K25.N_read_listing, K25.N__law_start, K25.N__law_pick, K25.N__law_text, K25.N__law_count, K25.N__law_literal, K25.N__law_plain, K25.N__law_instruction, K25.N__law_written, K25.N__law_lines, K25.N__law_draft, K25.N__law_parts, K25.N__law_changed, K25.N__law_others, K25.N_law])
local macro_rules | `(tactic| walk_at "nn") => `(tactic| first | assumption | exact ne_un (by assumption) | exact ne_un (ne_un (by assumption)) | exact ne_un (ne_un (ne_un (by assumption))) | exact ne_un (ne_un (ne_un (ne_un (by assumption)))))
local macro_rules | `(tactic| walk_at "ne") => `(tactic| first | assumption | (apply Ne.symm; assumption) | exact ne_ud (by assumption) | exact Ne.symm (ne_ud (by assumption)) | exact ne_ud (ne_un (by assumption)) | exact Ne.symm (ne_ud (ne_un (by assumption))) | exact ne_ud (ne_un (ne_un (by assumption))) | exact Ne.symm (ne_ud (ne_un (ne_un (by assumption)))) | exact ne_m (by assumption) (by assumption) | exact Ne.symm (ne_m (by assumption) (by assumption)) | exact ne_n (by assumption) (by walk_at "nn") | exact Ne.symm (ne_n (by assumption) (by walk_at "nn")))
local macro_rules | `(tactic| walk_at "hp") => `(tactic| first | assumption | exact upd_same | (refine Eq.trans (upd_ne ?_) ?_; (focus walk_at "ne"); walk_at "hp"))
local macro_rules | `(tactic| walk_at "sc") => `(tactic| first | (with_reducible assumption) | omega | exact le_line (by (try simp only [List.length_map, List.length_append, List.length_cons, List.length_nil, S_len]); omega) | exact div_s (by omega) | exact mul_r (by omega) | exact mul_l (by omega) | exact pow_s (by omega) | exact mul2_r (by omega) | exact mul2_l (by omega) | exact small4300 (by omega) | exact lt_line (by (try simp only [List.length_map, List.length_append, List.length_cons, List.length_nil, S_len]); omega) | exact ⟨_, by assumption⟩ | (guard_target =~ Exists _; exact ⟨_, .of (by walk_at "hp")⟩) | (guard_target =~ _ ∨ _; exact .inl ⟨_, by assumption⟩) | (guard_target =~ _ ∨ _; exact .inl ⟨_, .of (by walk_at "hp")⟩) | (guard_target =~ _ ∨ _; exact .inr (.inr (.inl ⟨rfl, .inl ⟨_, by walk_at "hp"⟩⟩))) | decide)
local macro_rules | `(tactic| walk_at "kr") => `(tactic| first | (guard_target =~ _ ∧ _; first | refine And.intro (by walk_at "sc") ?_) | (guard_target =~ KW.uIx _ _ _ _ _; first | refine ix_l (by walk_at "hp") (by first | walk_at "hv" | rfl) ?_ | refine ix_t (by walk_at "hp") (by first | walk_at "hv" | rfl) ?_ | refine ix_sl (by assumption) (by walk_at "hv") ?_) | (guard_target =~ KW.uLen _ _ _ _; first | refine len_l (by walk_at "hp") ?_ | refine len_t (by walk_at "hp") ?_ | refine len_sl (by assumption) ?_) | (guard_target =~ KW.uSet _ _ _ _ _; first | refine set_l (by walk_at "hp") (by first | walk_at "hv" | rfl) ?_) | (guard_target =~ L2.gTup _ _ _ _ _ _ _; first | refine tup_l (by walk_at "hp") (by rfl) ?_) | (guard_target =~ KW.uGet _ _ _ _ _; first | refine get_l (by walk_at "hp") (by walk_at "hc") (by decide) (by rfl) ?_) | (guard_target =~ KW.uPut _ _ _ _ _ _; first | refine put_l (by walk_at "hp") (by walk_at "hc") (by decide) (by simp) ?_) | (guard_target =~ KW.uMet.uMt _ _ _ _ _ _ _ _ _; first | refine met_l (by walk_at "hp") (by rfl) ?_) | (guard_target =~ KW.uMet.uMt _ _ _ _ _ _ _ _ _; first | refine ST.met_s (by assumption) (by decide) ?_) | (guard_target =~ ST.spExists _ _ _ _ _; first | refine ST.exists_s (by assumption) ?_) | (guard_target =~ ST.spUsed _ _ _ _ _; first | refine ST.used_s (by assumption) ?_) | (guard_target =~ KW.uGet _ _ _ _ _; first | refine ST.words_s (by assumption) (by walk_at "hc") (by decide) ?_) | (guard_target =~ KW.uDIn _ _ _ _; first | refine din_i (by walk_at "hp") ?_ | refine din_s (by walk_at "hp") ?_) | (guard_target =~ KW.uDGet _ _ _ _; first | refine dget_i (by walk_at "hp") (by walk_at "hv") ?_ | refine dget_s (by walk_at "hp") (by walk_at "hv") ?_) | (guard_target =~ KW.uDPut _ _ _ _ _; first | refine dput_i (by walk_at "hp") (by walk_at "sc") ?_ | refine dput_s (by walk_at "hp") (by walk_at "sc") ?_) | (guard_target =~ KW.uDDel _ _ _ _; first | refine ddel_i (by walk_at "hp") (by walk_at "hv") ?_ | refine ddel_s (by walk_at "hp") (by walk_at "hv") ?_) | (guard_target =~ KW.uMul2 _ _ _ _; first | refine rep_l (by walk_at "hp") (by walk_at "sc") (by walk_at "sc") (by walk_at "sc") ?_) | (guard_target =~ L2.rAppend _ _ _ _; first | refine app_l (by walk_at "hp") (by walk_at "sc") ?_) | (guard_target =~ L2.rPop _ _ _ _; first | refine pop_l (by walk_at "hp") (by walk_at "hv") ?_ | refine pops_l (by walk_at "hp") ?_) | (guard_target =~ L2.rClear _ _ _ _; first | refine clr_l (by walk_at "hp") ?_) | (guard_target =~ L2.rReverse _ _ _ _; first | refine rev_l (by walk_at "hp") ?_) | (guard_target =~ L2.rExtend _ _ _ _; first | refine ext_l (by walk_at "hp") (by walk_at "hp") (by walk_at "sc") ?_) | (guard_target =~ KW.uAdd _ _ _ _ _; first | refine ucat_l (by walk_at "hp") (by walk_at "hp") (by walk_at "sc") ?_) | (guard_target =~ KW.uSl _ _ _ _ _ _; first | refine usl_l (by walk_at "hp") ?_) | (guard_target =~ KW.uTru _ _ _ _; first | refine tru_l (by walk_at "hp") ?_ | refine tru_t (by walk_at "hp") ?_ | refine tru_d (by walk_at "hp") ?_ | refine tru_sl (by assumption) ?_) | (guard_target =~ L2.rIndex _ _ _ _ _; first | refine idx_s (by walk_at "hp") (by assumption) ?_ | refine idx_i (by walk_at "hp") (by assumption) ?_) | (guard_target =~ L2.rIn _ _ _ _ _ _; first | refine in_s (by walk_at "hp") ?_ | refine nin_s (by walk_at "hp") ?_ | refine in_i (by walk_at "hp") ?_ | refine nin_i (by walk_at "hp") ?_) | (guard_target =~ KW.uIsi _ _ _ _; first | refine isi_l (by walk_at "hp") (by decide +kernel) ?_ | refine isi_t (by walk_at "hp") (by decide +kernel) ?_ | refine isi_d (by walk_at "hp") (by decide +kernel) ?_) | (guard_target =~ KW.uList _ _ _ _; first | refine list_l (by walk_at "hp") ?_ | refine list_t (by walk_at "hp") ?_ | refine list_sl (by assumption) ?_) | (guard_target =~ KW.uDict _ _ _; first | refine dict_d (by walk_at "hp") ?_) | (guard_target =~ KW.uSorted _ _ _ _; first | refine srt_l (by walk_at "hp") ?_) | (guard_target =~ KW.uSum _ _ _ _; first | refine sum_l (by walk_at "hp") ?_) | (guard_target =~ KW.uDelC _ _ _ _; first | refine dels_l (by walk_at "hp") (by walk_at "sc") ?_) | (guard_target =~ L2.wAs _ _ _ _ _ _ _ _ _ _; first | refine as_yes (by walk_at "hx") ?_ | refine as_no (by walk_at "hx") ?_) | (guard_target =~ KW.uEf _ _ _ _ _ _ _ _ _; first | refine ef_l (by walk_at "he") (by decide) (by rfl) (by walk_at "hp") (by rfl) ?_) | (guard_target =~ KW.uIsE _ _ _ _ _ _ _; first | refine isE_r (by walk_at "he") (by walk_at "hp") (by walk_at "hk") ?_ | refine isE_t (by walk_at "he") (by walk_at "hp") (by walk_at "hk") ?_))
local macro_rules | `(tactic| walk_at "hv") => `(tactic| first | assumption)
local macro_rules | `(tactic| walk_at "kk") => `(tactic| repeat (first | walk_at "kw" | walk_at "kr"))
local macro_rules | `(tactic| walk_at "hc") => `(tactic| first | exact K25.Txt.c_Draft (by assumption))
local macro_rules | `(tactic| walk_at "he") => `(tactic| first | exact K25.Txt.e_Malformed (by assumption))
local macro_rules | `(tactic| walk_at "hx") => `(tactic| first | fail)
local macro_rules | `(tactic| walk_at "hk") => `(tactic| first | fail)

section
variable {P : Program} {w : World} {K : Frag} {mg : Str → Option Value} {base : Heap} {a : Ads}
theorem ok_Draft_initN (T : Txt P w K mg a) : CalI P w K mg base 1 "Draft" a.Draft [] (spDraftN a.Draft) := by
  refine T.ini_Draft.ok T.c_Draft.gC sc_Draft_init (fun vs H Q E h => ?_) (fun f cdv A outer s H vs Q E hr h => ⟨_, (pss_cons (k_sfld (kv 0) (kv 1) rfl)
      (pss_cons (k_sfld (kv 0) (kv 2) rfl)
      (pss_cons (k_sfld (kv 0) (kv 3) rfl)
      (pss_cons (k_sfld (kv 0) (kv 4) rfl)
      (pss_cons (k_sfld (kv 0) (pe_callTy c_list (by rfl) T.n_list (by decide +kernel) (pa_cons (kv 5) pa_nil)) rfl)
      (pss_one (k_sfld (kv 0) (pe_callTy c_list (by rfl) T.n_list (by decide +kernel) (pa_cons (kv 6) pa_nil)) rfl))))))), ?_⟩)
  · obtain ⟨x, dx, pc, pl, sel, n1, n2, n3, code, lits, l, rfl, _⟩ := h; rfl
  · obtain ⟨x, dx, pc, pl, sel, n1, n2, n3, code, lits, ex, rfl, hx, ⟨ac, c1, c2, c3⟩, ⟨al, l1, l2, l3⟩, hex, h⟩ := h
    have xc : pc ≠ x := ne_of c1 hx (by intro z; cases z)
    have xl : pl ≠ x := ne_of l1 hx (by intro z; cases z)
    walk_at "kk"
    intro q hq
    have xq : x ≠ q := ne_of_none upd_same hq
    have lq : pl ≠ q := ne_of_none ((upd_ne xl).trans l1) hq
    have cq : pc ≠ q := ne_of_none ((upd_ne xc).trans c1) hq
    walk_at "kk"
    intro l hl'
    have xl' : x ≠ l := ne_of_none upd_same hl'
    have ql : q ≠ l := ne_of_none ((upd_ne (Ne.symm xq)).trans upd_same) hl'
    walk_at "kk"
    have nt : ∀ {b : Addr} {z : List V}, H b = some (.tup z) → b ≠ x := fun e z => by rw [z, hx] at e; cases e
    have F1 := (KW.Fr.refl H).trans (KW.Fr.upd (l := [x]) (a := x) (H := H) (o := .ins a.Draft dx [("selector", .str (S sel)), ("argc", .int n1), ("locals", .int n2), ("stack", .int n3)]) (by simp))
    have F2 := F1.trans (KW.Fr.new (l := [x]) (o := .lst (ac.map .ref)) hq)
    have F3 := F2.trans (KW.Fr.upd (l := [x]) (a := x) (o := .ins a.Draft dx [("selector", .str (S sel)), ("argc", .int n1), ("locals", .int n2), ("stack", .int n3), ("code", .ref q)]) (by simp))
    have F4 := F3.trans (KW.Fr.new (l := [x]) (o := .lst (al.map .ref)) hl')
    have F5 := F4.trans (KW.Fr.upd (l := [x]) (a := x) (o := .ins a.Draft dx [("selector", .str (S sel)), ("argc", .int n1), ("locals", .int n2), ("stack", .int n3), ("code", .ref q), ("literals", .ref l)]) (by simp))
    have hq0 : H q = none := by rw [upd_ne (Ne.symm xq)] at hq; exact hq
    have hl0 : H l = none := by rw [upd_ne (Ne.symm xl'), upd_ne (Ne.symm ql), upd_ne (Ne.symm xl')] at hl'; exact hl'
    have hqe : q ∉ ex := fun z => hex q z hq0
    have hle : l ∉ ex := fun z => hex l z hl0
    refine h _ F5 ⟨dx, q, l, n1, n2, n3, hqe, hle, rfl, upd_same, ⟨ac, ?_, c2, fun i b y e1 e2 => F5 _ _ (by simpa using nt (c3 i b y e1 e2)) (c3 i b y e1 e2)⟩, ⟨al, ?_, l2, fun i b y e1 e2 => F5 _ _ (by simpa using nt (l3 i b y e1 e2)) (l3 i b y e1 e2)⟩⟩
    · rw [upd_ne (Ne.symm xq), upd_ne ql, upd_ne (Ne.symm xq)]; exact upd_same
    · rw [upd_ne (Ne.symm xl')]; exact upd_same
end
end K25

set_option Elab.async false
set_option linter.all false
set_option maxRecDepth 100000
set_option maxHeartbeats 4000000
namespace K25
open PySem PySem.Spec PyProof.Rows L2 KW LS PK
local macro_rules | `(tactic| walk_at "kw") => `(tactic| simp only [tSeq, tNext, tIfS, tTest, tAnd, tOr, tNot, tAndV, tOrV, tNotV, tIf, tChain, tOp, tUn, tC, tAsg, gName, gSub, gCons, gNil, tRet, tRetN, tDrop, tCons, tNil, tCB, tAug, tSl, tPart, tNoPart, tLst, tTup, tBM, tBM0, uTest, uFor, iRng1, iRng2, iList, uCall, List.map_cons, List.map_nil, List.length_cons, List.length_nil, List.cons_append, List.nil_append, List.replicate, Nat.zero_add, Nat.reduceAdd, Nat.reduceSub, List.getElem?_cons_zero, List.getElem?_cons_succ, List.set_cons_zero, List.set_cons_succ, V.bl.injEq, V.int.injEq, V.str.injEq, V.ref.injEq, V.ty.injEq, List.cons.injEq, and_true, true_and, exists_eq_left', exists_eq_right, exists_eq_left, exists_and_left, exists_and_right, decide_eq_true_eq, Bool.not_eq_true', decide_eq_false_iff_not, Bool.false_eq_true, if_true, if_false, ite_true, ite_false, Bool.not_true, Bool.not_false, reduceCtorEq, decide_true, decide_false, Bool.not_not, isK_int_int, isK_int_bool, isK_int_str, isK_int_list, isK_int_tuple, isK_bool_int, isK_bool_bool, isK_bool_str, isK_str_str, isK_str_int, isK_str_bool, isK_str_tuple, isK_str_list, isK_list_list, isK_list_tuple, isK_tuple_tuple, isK_tuple_list, isOk_int_int, isOk_int_bool, isOk_int_str, isOk_int_list, isOk_int_tuple, isOk_bool_int, isOk_bool_bool, isOk_bool_str, isOk_str_str, isOk_str_int, isOk_str_bool, isOk_str_tuple, isOk_str_list, isOk_list_list, isOk_list_tuple, isOk_tuple_tuple, isOk_tuple_list, isK_dict_dict, isOk_dict_dict, isK_none_int, isK_none_bool, isOk_none_int, isOk_none_bool, tyV, S_inj, S_cat, L2.start, Nat.reduceSub, List.replicate_succ, List.replicate_zero, and_assoc, List.append_nil, Nat.reduceEqDiff, Option.some.injEq, Int.natCast_inj, upd_upd, Int.reducePow, Int.reduceToNat, Int.reduceMul, Int.reduceAdd, Int.reduceSub, Int.reduceLT, Int.reduceLE, Int.reduceNeg, Int.reduceDiv, Int.reduceMod, Nat.reducePow, Nat.reduceMul, S_len, List.length_append, List.length_map, List.length_range, not_true_eq_false, not_false_eq_true, ne_eq, uAdd_e1, uAdd_e2, uSub_e1, uMod_e1, uDiv_e1, uPow_e1, uShl_e1, uNeg_e1, uIAdd_e1, uIAdd_e2, uIAdd_e3, uISub_e1, uLt_e1, uLt_e2, uLe_e1, uGt_e1, uGe_e1, uEq_e1, uEq_e2, uEq_e3, uEq_e4, uEq_e5, uEq_e6, uEq_e7, uEq_e8, uEq_e9, uEq_e10, uEq_e11, uNe_e1, uNe_e2, uNe_e3, uNe_e4, uNe_e5, uNe_e6, uNe_e7, uNe_e8, uNe_e9, uNe_e10, uNe_e11, uIs_e1, uIs_e2, uIs_e3, uIs_e4, uIs_e5, uIs_e6, uIs_e7, uNotIs_e1, uNotIs_e2, uNotIs_e3, uNotIs_e4, uNotIs_e5, uNotIs_e6, uIn_e1, uIn_e2, uIn_e3, uIn_e4, uNotIn_e1, uNotIn_e2, uNotIn_e3, uNotIn_e4, uTru_e1, uTru_e2, uTru_e3, uTru_e4, uIx_e2, uSl_e2, uLen_e1, uAbs_e1, uInt_e1, uInt_e2, uMin2_e1, uIsi_e1, uIsi_e2, uIsi_e3, uIsi_e4, cx_K, uVar_0, uVar_n, uFld, uSFld, uMet, uMake, tDG, tDI, tDNI, tDP, tDD, uMk, uRaise, uDelSl, tCallS, L2.WE, uStr_e1, uStr_e2, uMul2_e1, uMul2_e2, okS_i, okS_s, List.zip_cons_cons, List.zip_nil_left, List.drop_zero, List.drop_succ_cons, List.drop_nil, putF_nil, putF_cons, eq_self, tDNewK, tB, Option.isSome_some, Option.isSome_none, false_and, false_or, or_false, exists_false, Int.zero_add, uLc, wipe, tYes, isEmpty_app, List.isEmpty_cons, List.isEmpty_nil, List.isEmpty_map, Bool.and_false, Bool.and_true, iRev, K25.lit_0, K25.lit_1, K25.lit_2, K25.lit_3, K25.lit_4, K25.lit_5, K25.lit_6, K25.lit_7, K25.lit_8, K25.lit_9, K25.lit_10, K25.lit_11, K25.lit_12, K25.lit_13, K25.lit_14, K25.lit_15, K25.lit_16, K25.lit_17, K25.lit_18, K25.lit_19, K25.lit_20, K25.lit_21, K25.lit_22, K25.lit_23, K25.lit_25, K25.lit_26, K25.lit_27, K25.lit_28, K25.lit_29, K25.lit_30, K25.lit_32, K25.lit_33, K25.lit_34, K25.lit_35, K25.lit_36, K25.lit_37, K25.lit_38, K25.lit_39, K25.lit_40, K25.lit_41, K25.lit_42, K25.lit_43, K25.lit_44, K25.lit_45, K25.lit_46, K25.lit_47, K25.lit_48, K25.lit_49, K25.lit_50, K25.lit_51, K25.fe_selector_argc, K25.fe_selector_locals, K25.fe_selector_stack, K25.fe_selector_code, K25.fe_selector_literals, K25.fe_argc_selector, K25.fe_argc_locals, K25.fe_argc_stack, K25.fe_argc_code, K25.fe_argc_literals, K25.fe_locals_selector, K25.fe_locals_argc, K25.fe_locals_stack, K25.fe_locals_code, K25.fe_locals_literals, K25.fe_stack_selector, K25.fe_stack_argc, K25.fe_stack_locals, K25.fe_stack_code, K25.fe_stack_literals, K25.fe_code_selector, K25.fe_code_argc, K25.fe_code_locals, K25.fe_code_stack, K25.fe_code_literals, K25.fe_literals_selector, K25.fe_literals_argc, K25.fe_literals_locals, K25.fe_literals_stack, K25.fe_literals_code, K25.fl_code_0, K25.lf_code_0, K25.fl_code_1, K25.lf_code_1, K25.fl_code_2, K25.lf_code_2, K25.fl_code_3, K25.lf_code_3, K25.fl_code_4, K25.lf_code_4, K25.fl_code_5, K25.lf_code_5, K25.fl_code_6, K25.lf_code_6, K25.fl_code_7, K25.lf_code_7, K25.fl_code_8, K25.lf_code_8, K25.fl_code_9, K25.lf_code_9, K25.fl_code_10, K25.lf_code_10, K25.fl_code_11, K25.lf_code_11, K25.fl_code_12, K25.lf_code_12, K25.fl_code_13, K25.lf_code_13, K25.fl_code_14, K25.lf_code_14, K25.fl_code_15, K25.lf_code_15, K25.fl_code_16, K25.lf_code_16, K25.fl_code_17, K25.lf_code_17, K25.fl_code_18, K25.lf_code_18, K25.fl_code_19, K25.lf_code_19, K25.fl_code_20, K25.lf_code_20, K25.fl_code_21, K25.lf_code_21, K25.fl_code_22, K25.lf_code_22, K25.fl_code_23, K25.lf_code_23, K25.fl_code_24, K25.lf_code_24, K25.fl_code_25, K25.lf_code_25, K25.fl_code_26, K25.lf_code_26, K25.fl_code_27, K25.lf_code_27, K25.fl_code_28, K25.lf_code_28, K25.fl_code_29, K25.lf_code_29, K25.fl_code_30, K25.lf_code_30, K25.fl_code_32, K25.lf_code_32, K25.fl_code_33, K25.lf_code_33, K25.fl_code_34, K25.lf_code_34, K25.fl_code_35, K25.lf_code_35, K25.fl_code_36, K25.lf_code_36, K25.fl_code_37, K25.lf_code_37, K25.fl_code_38, K25.lf_code_38, K25.fl_code_39, K25.lf_code_39, K25.fl_code_40, K25.lf_code_40, K25.fl_code_41, K25.lf_code_41, K25.fl_code_42, K25.lf_code_42, K25.fl_code_43, K25.lf_code_43, K25.fl_code_44, K25.lf_code_44, K25.fl_code_45, K25.lf_code_45, K25.fl_code_46, K25.lf_code_46, K25.fl_code_47, K25.lf_code_47, K25.fl_code_48, K25.lf_code_48, K25.fl_code_49, K25.lf_code_49, K25.fl_code_50, K25.lf_code_50, K25.fl_code_51, K25.lf_code_51, K25.fl_selector_0, K25.lf_selector_0, K25.fl_selector_1, K25.lf_selector_1, K25.fl_selector_2, K25.lf_selector_2, K25.fl_selector_3, K25.lf_selector_3, K25.fl_selector_4, K25.lf_selector_4, K25.fl_selector_5, K25.lf_selector_5, K25.fl_selector_6, K25.lf_selector_6, K25.fl_selector_7, K25.lf_selector_7, K25.fl_selector_8, K25.lf_selector_8, K25.fl_selector_9, K25.lf_selector_9, K25.fl_selector_10, K25.lf_selector_10, K25.fl_selector_11, K25.lf_selector_11, K25.fl_selector_12, K25.lf_selector_12, K25.fl_selector_13, K25.lf_selector_13, K25.fl_selector_14, K25.lf_selector_14, K25.fl_selector_15, K25.lf_selector_15, K25.fl_selector_16, K25.lf_selector_16, K25.fl_selector_17, K25.lf_selector_17, K25.fl_selector_18, K25.lf_selector_18, K25.fl_selector_19, K25.lf_selector_19, K25.fl_selector_20, K25.lf_selector_20, K25.fl_selector_21, K25.lf_selector_21, K25.fl_selector_22, K25.lf_selector_22, K25.fl_selector_23, K25.lf_selector_23, K25.fl_selector_25, K25.lf_selector_25, K25.fl_selector_26, K25.lf_selector_26, K25.fl_selector_27, K25.lf_selector_27, K25.fl_selector_28, K25.lf_selector_28, K25.fl_selector_29, K25.lf_selector_29, K25.fl_selector_30, K25.lf_selector_30, K25.fl_selector_31, K25.lf_selector_31, K25.fl_selector_32, K25.lf_selector_32, K25.fl_selector_33, K25.lf_selector_33, K25.fl_selector_34, K25.lf_selector_34, K25.fl_selector_35, K25.lf_selector_35, K25.fl_selector_36, K25.lf_selector_36, K25.fl_selector_37, K25.lf_selector_37, K25.fl_selector_38, K25.lf_selector_38, K25.fl_selector_39, K25.lf_selector_39, K25.fl_selector_40, K25.lf_selector_40, K25.fl_selector_41, K25.lf_selector_41, K25.fl_selector_42, K25.lf_selector_42, K25.fl_selector_43, K25.lf_selector_43, K25.fl_selector_44, K25.lf_selector_44, K25.fl_selector_45, K25.lf_selector_45, K25.fl_selector_46, K25.lf_selector_46, K25.fl_selector_47, K25.lf_selector_47, K25.fl_selector_48, K25.lf_selector_48, K25.fl_selector_49, K25.lf_selector_49, K25.fl_selector_50, K25.lf_selector_50, K25.fl_selector_51, K25.lf_selector_51, uAll_e, iTup_e, CwR.tReplC, uTuple_e, uFm_e1, uFm_e2, uIntS_e1, uIntS_e2, uIntS_e3, uEqO_e, tFm, tJs, iStr, S_e, itxt_S, K25.N_Draft_init, K25.N_Draft_parts, K25.N_Draft___eq__, K25.N_escaped, K25.N_joined, K25.N_literal_line, K25.N_list_draft, K25.N_number_in, K25.N_numbers_in, K25.N_unescaped, K25.N_read_head, K25.N_read_text, K25.N_read_literal, K25.N_read_instruction, K25.N_read_listing, K25.N__law_start, K25.N__law_pick, K25.N__law_text, K25.N__law_count, K25.N__law_literal, K25.N__law_plain, K25.N__law_instruction, K25.N__law_written, K25.N__law_lines, K25.N__law_draft, K25.N__law_parts, K25.N__law_changed, K25.N__law_others, K25.N_law])
local macro_rules | `(tactic| walk_at "nn") => `(tactic| first | assumption | exact ne_un (by assumption) | exact ne_un (ne_un (by assumption)) | exact ne_un (ne_un (ne_un (by assumption))) | exact ne_un (ne_un (ne_un (ne_un (by assumption)))))
local macro_rules | `(tactic| walk_at "ne") => `(tactic| first | assumption | (apply Ne.symm; assumption) | exact ne_ud (by assumption) | exact Ne.symm (ne_ud (by assumption)) | exact ne_ud (ne_un (by assumption)) | exact Ne.symm (ne_ud (ne_un (by assumption))) | exact ne_ud (ne_un (ne_un (by assumption))) | exact Ne.symm (ne_ud (ne_un (ne_un (by assumption)))) | exact ne_m (by assumption) (by assumption) | exact Ne.symm (ne_m (by assumption) (by assumption)) | exact ne_n (by assumption) (by walk_at "nn") | exact Ne.symm (ne_n (by assumption) (by walk_at "nn")))
local macro_rules | `(tactic| walk_at "hp") => `(tactic| first | assumption | exact upd_same | (refine Eq.trans (upd_ne ?_) ?_; (focus walk_at "ne"); walk_at "hp"))
local macro_rules | `(tactic| walk_at "sc") => `(tactic| first | (with_reducible assumption) | omega | exact le_line (by (try simp only [List.length_map, List.length_append, List.length_cons, List.length_nil, S_len]); omega) | exact div_s (by omega) | exact mul_r (by omega) | exact mul_l (by omega) | exact pow_s (by omega) | exact mul2_r (by omega) | exact mul2_l (by omega) | exact small4300 (by omega) | exact lt_line (by (try simp only [List.length_map, List.length_append, List.length_cons, List.length_nil, S_len]); omega) | exact ⟨_, by assumption⟩ | (guard_target =~ Exists _; exact ⟨_, .of (by walk_at "hp")⟩) | (guard_target =~ _ ∨ _; exact .inl ⟨_, by assumption⟩) | (guard_target =~ _ ∨ _; exact .inl ⟨_, .of (by walk_at "hp")⟩) | (guard_target =~ _ ∨ _; exact .inr (.inr (.inl ⟨rfl, .inl ⟨_, by walk_at "hp"⟩⟩))) | decide)
local macro_rules | `(tactic| walk_at "kr") => `(tactic| first | (guard_target =~ _ ∧ _; first | refine And.intro (by walk_at "sc") ?_) | (guard_target =~ KW.uIx _ _ _ _ _; first | refine ix_l (by walk_at "hp") (by first | walk_at "hv" | rfl) ?_ | refine ix_t (by walk_at "hp") (by first | walk_at "hv" | rfl) ?_ | refine ix_sl (by assumption) (by walk_at "hv") ?_) | (guard_target =~ KW.uLen _ _ _ _; first | refine len_l (by walk_at "hp") ?_ | refine len_t (by walk_at "hp") ?_ | refine len_sl (by assumption) ?_) | (guard_target =~ KW.uSet _ _ _ _ _; first | refine set_l (by walk_at "hp") (by first | walk_at "hv" | rfl) ?_) | (guard_target =~ L2.gTup _ _ _ _ _ _ _; first | refine tup_l (by walk_at "hp") (by rfl) ?_) | (guard_target =~ KW.uGet _ _ _ _ _; first | refine get_l (by walk_at "hp") (by walk_at "hc") (by decide) (by rfl) ?_) | (guard_target =~ KW.uPut _ _ _ _ _ _; first | refine put_l (by walk_at "hp") (by walk_at "hc") (by decide) (by simp) ?_) | (guard_target =~ KW.uMet.uMt _ _ _ _ _ _ _ _ _; first | refine met_l (by walk_at "hp") (by rfl) ?_) | (guard_target =~ KW.uMet.uMt _ _ _ _ _ _ _ _ _; first | refine ST.met_s (by assumption) (by decide) ?_) | (guard_target =~ ST.spExists _ _ _ _ _; first | refine ST.exists_s (by assumption) ?_) | (guard_target =~ ST.spUsed _ _ _ _ _; first | refine ST.used_s (by assumption) ?_) | (guard_target =~ KW.uGet _ _ _ _ _; first | refine ST.words_s (by assumption) (by walk_at "hc") (by decide) ?_) | (guard_target =~ KW.uDIn _ _ _ _; first | refine din_i (by walk_at "hp") ?_ | refine din_s (by walk_at "hp") ?_) | (guard_target =~ KW.uDGet _ _ _ _; first | refine dget_i (by walk_at "hp") (by walk_at "hv") ?_ | refine dget_s (by walk_at "hp") (by walk_at "hv") ?_) | (guard_target =~ KW.uDPut _ _ _ _ _; first | refine dput_i (by walk_at "hp") (by walk_at "sc") ?_ | refine dput_s (by walk_at "hp") (by walk_at "sc") ?_) | (guard_target =~ KW.uDDel _ _ _ _; first | refine ddel_i (by walk_at "hp") (by walk_at "hv") ?_ | refine ddel_s (by walk_at "hp") (by walk_at "hv") ?_) | (guard_target =~ KW.uMul2 _ _ _ _; first | refine rep_l (by walk_at "hp") (by walk_at "sc") (by walk_at "sc") (by walk_at "sc") ?_) | (guard_target =~ L2.rAppend _ _ _ _; first | refine app_l (by walk_at "hp") (by walk_at "sc") ?_) | (guard_target =~ L2.rPop _ _ _ _; first | refine pop_l (by walk_at "hp") (by walk_at "hv") ?_ | refine pops_l (by walk_at "hp") ?_) | (guard_target =~ L2.rClear _ _ _ _; first | refine clr_l (by walk_at "hp") ?_) | (guard_target =~ L2.rReverse _ _ _ _; first | refine rev_l (by walk_at "hp") ?_) | (guard_target =~ L2.rExtend _ _ _ _; first | refine ext_l (by walk_at "hp") (by walk_at "hp") (by walk_at "sc") ?_) | (guard_target =~ KW.uAdd _ _ _ _ _; first | refine ucat_l (by walk_at "hp") (by walk_at "hp") (by walk_at "sc") ?_) | (guard_target =~ KW.uSl _ _ _ _ _ _; first | refine usl_l (by walk_at "hp") ?_) | (guard_target =~ KW.uTru _ _ _ _; first | refine tru_l (by walk_at "hp") ?_ | refine tru_t (by walk_at "hp") ?_ | refine tru_d (by walk_at "hp") ?_ | refine tru_sl (by assumption) ?_) | (guard_target =~ L2.rIndex _ _ _ _ _; first | refine idx_s (by walk_at "hp") (by assumption) ?_ | refine idx_i (by walk_at "hp") (by assumption) ?_) | (guard_target =~ L2.rIn _ _ _ _ _ _; first | refine in_s (by walk_at "hp") ?_ | refine nin_s (by walk_at "hp") ?_ | refine in_i (by walk_at "hp") ?_ | refine nin_i (by walk_at "hp") ?_) | (guard_target =~ KW.uIsi _ _ _ _; first | refine isi_l (by walk_at "hp") (by decide +kernel) ?_ | refine isi_t (by walk_at "hp") (by decide +kernel) ?_ | refine isi_d (by walk_at "hp") (by decide +kernel) ?_) | (guard_target =~ KW.uList _ _ _ _; first | refine list_l (by walk_at "hp") ?_ | refine list_t (by walk_at "hp") ?_ | refine list_sl (by assumption) ?_) | (guard_target =~ KW.uDict _ _ _; first | refine dict_d (by walk_at "hp") ?_) | (guard_target =~ KW.uSorted _ _ _ _; first | refine srt_l (by walk_at "hp") ?_) | (guard_target =~ KW.uSum _ _ _ _; first | refine sum_l (by walk_at "hp") ?_) | (guard_target =~ KW.uDelC _ _ _ _; first | refine dels_l (by walk_at "hp") (by walk_at "sc") ?_) | (guard_target =~ L2.wAs _ _ _ _ _ _ _ _ _ _; first | refine as_yes (by walk_at "hx") ?_ | refine as_no (by walk_at "hx") ?_) | (guard_target =~ KW.uEf _ _ _ _ _ _ _ _ _; first | refine ef_l (by walk_at "he") (by decide) (by rfl) (by walk_at "hp") (by rfl) ?_) | (guard_target =~ KW.uIsE _ _ _ _ _ _ _; first | refine isE_r (by walk_at "he") (by walk_at "hp") (by walk_at "hk") ?_ | refine isE_t (by walk_at "he") (by walk_at "hp") (by walk_at "hk") ?_))
local macro_rules | `(tactic| walk_at "hv") => `(tactic| first | assumption)
local macro_rules | `(tactic| walk_at "kk") => `(tactic| repeat (first | walk_at "kw" | walk_at "kr"))
local macro_rules | `(tactic| walk_at "hc") => `(tactic| first | exact K25.Txt.c_Draft (by assumption))
local macro_rules | `(tactic| walk_at "he") => `(tactic| first | exact K25.Txt.e_Malformed (by assumption))
local macro_rules | `(tactic| walk_at "hx") => `(tactic| first | fail)
local macro_rules | `(tactic| walk_at "hk") => `(tactic| first | fail)

section
variable {P : Program} {w : World} {K : Frag} {mg : Str → Option Value} {base : Heap} {a : Ads}
theorem eqo {C : Addr} {H : Hp} {d e : Addr} {x y : Dra} {Q : VK} {E : XK} (D1 : Drf C H d x) (D2 : Drf C H e y) (k1 : x.ok) (k2 : y.ok) (q : ∀ H', KW.Fr [] H H' → Q (.bl (eqvD x y)) H') : (∃ z u, H d = some (.ins C z u)) ∧ (∃ z u, H e = some (.ins C z u)) ∧ spDEq C [.ref d, .ref e] H Q E := by
  have i1 := D1
  obtain ⟨dx1, _, _, _, _, _, _, i1, _⟩ := i1
  have i2 := D2
  obtain ⟨dx2, _, _, _, _, _, _, i2, _⟩ := i2
  exact ⟨⟨_, _, i1⟩, ⟨_, _, i2⟩, d, e, x, y, rfl, D1, D2, k1, k2, q⟩
theorem ok_law (T : Txt P w K mg a) : ∀ f fd, Fun K "law" "law" s_law f fd → FnOk P w K mg base (L2N.CX P w) 5 f fd ["script"] (sp_law63 K) := by
  have C__law_start := ok__law_start (P := P) (w := w) (base := base) T
  have C__law_pick := ok__law_pick (P := P) (w := w) (base := base) T
  have C__law_literal := ok__law_literal (P := P) (w := w) (base := base) T
  have C__law_instruction := ok__law_instruction (P := P) (w := w) (base := base) T
  have C__law_text := ok__law_text (P := P) (w := w) (base := base) T
  have C__law_count := ok__law_count (P := P) (w := w) (base := base) T
  have C__law_lines := ok__law_lines (P := P) (w := w) (base := base) T
  have C__law_parts := ok__law_parts (P := P) (w := w) (base := base) T
  have C__law_draft := ok__law_draft (P := P) (w := w) (base := base) T
  have C__law_others := ok__law_others (P := P) (w := w) (base := base) T
  have C_list_draft := ok_list_draft (P := P) (w := w) (base := base) T
  have C_read_listing := ok_read_listing (P := P) (w := w) (base := base) T
  have I_Draft := ok_Draft_initN (P := P) (w := w) (base := base) T
  have M_Draft___eq__ := ok_Draft_eq (P := P) (w := w) (base := base) T
  refine DefAt.fn sc_law (fun vs H Q E h => ?_) (fun f cdv A outer s H vs Q E hr h => ⟨_, (pss_cons (ps_set (i := 1) sc_law.nd rfl (Or.inr rfl) (kc C__law_start (hr.mono (by decide)) (pa_cons (kv 0) pa_nil)))
      (pss_cons (k_setLc (i := 2) (own := [("turn", 3)]) (g := gName 3) (by rfl) sc_law.nd rfl rfl (sw_true rfl rfl rfl (by decide +kernel)) (pi_range1 (by rfl) T.n_range (pa_cons (pe_ix o_ix (pe_lst (pa_cons (kc C__law_pick (hr.mono (by decide)) (pa_cons (kv 1) (pa_cons pe_int pa_nil))) (pa_cons (kc C__law_pick (hr.mono (by decide)) (pa_cons (kv 1) (pa_cons pe_int pa_nil))) pa_nil))) (kc C__law_pick (hr.mono (by decide)) (pa_cons (kv 1) (pa_cons pe_int pa_nil))) (fun _ _ => rfl)) pa_nil)) (blkOk_by (own := [("turn", 3)]) (N := ["script", "state", "literals", "turn", "code", "parts", "given", "draft", "lines", "read", "other"]) (sc := defScope s_law) (by decide +kernel)) (fun _ _ _ _ _ => pg_name (i := 3) sc_law.nd rfl (Or.inl rfl)) (fun _ _ _ _ _ => pts_nil) (fun _ _ _ _ _ => by exact (kc C__law_literal (hr.mono (by decide)) (pa_cons (kv 1) pa_nil))))
      (pss_cons (k_setLc (i := 4) (own := [("turn", 3)]) (g := gName 3) (by rfl) sc_law.nd rfl rfl (sw_true rfl rfl rfl (by decide +kernel)) (pi_range1 (by rfl) T.n_range (pa_cons (pe_ix o_ix (pe_lst (pa_cons (kc C__law_pick (hr.mono (by decide)) (pa_cons (kv 1) (pa_cons pe_int pa_nil))) (pa_cons (kc C__law_pick (hr.mono (by decide)) (pa_cons (kv 1) (pa_cons pe_int pa_nil))) pa_nil))) (kc C__law_pick (hr.mono (by decide)) (pa_cons (kv 1) (pa_cons pe_int pa_nil))) (fun _ _ => rfl)) pa_nil)) (blkOk_by (own := [("turn", 3)]) (N := ["script", "state", "literals", "turn", "code", "parts", "given", "draft", "lines", "read", "other"]) (sc := defScope s_law) (by decide +kernel)) (fun _ _ _ _ _ => pg_name (i := 3) sc_law.nd rfl (Or.inl rfl)) (fun _ _ _ _ _ => pts_nil) (fun _ _ _ _ _ => by exact (kc C__law_instruction (hr.mono (by decide)) (pa_cons (kv 1) pa_nil))))
      (pss_cons (ps_set (i := 5) sc_law.nd rfl (Or.inl rfl) (pe_lst (pa_cons (kc C__law_text (hr.mono (by decide)) (pa_cons (kv 1) (pa_cons pe_bl pa_nil))) (pa_cons (kc C__law_count (hr.mono (by decide)) (pa_cons (kv 1) pa_nil)) (pa_cons (kc C__law_count (hr.mono (by decide)) (pa_cons (kv 1) pa_nil)) (pa_cons (kc C__law_count (hr.mono (by decide)) (pa_cons (kv 1) pa_nil)) (pa_cons (kv 4) (pa_cons (kv 2) pa_nil))))))))
      (pss_cons (ps_set (i := 6) sc_law.nd rfl (Or.inl rfl) (pe_lst (pa_cons (pe_callTy c_list (by rfl) T.n_list (by decide +kernel) (pa_cons (kv 4) pa_nil)) (pa_cons (pe_callTy c_list (by rfl) T.n_list (by decide +kernel) (pa_cons (kv 2) pa_nil)) pa_nil))))
      (pss_cons (ps_set (i := 7) sc_law.nd rfl (Or.inl rfl) (kmk 0 I_Draft (hr.mono (by decide)) (pa_cons (pe_ix o_ix (kv 5) pe_int (fun _ _ => rfl)) (pa_cons (pe_ix o_ix (kv 5) pe_int (fun _ _ => rfl)) (pa_cons (pe_ix o_ix (kv 5) pe_int (fun _ _ => rfl)) (pa_cons (pe_ix o_ix (kv 5) pe_int (fun _ _ => rfl)) (pa_cons (pe_ix o_ix (kv 6) pe_int (fun _ _ => rfl)) (pa_cons (pe_ix o_ix (kv 6) pe_int (fun _ _ => rfl)) pa_nil))))))))
      (pss_cons (ps_expr (pe_bm PySem.F.plainAttrs_list PySem.F.slot_list_append PySem.F.type_list_append mt_append (pe_ix o_ix (kv 6) pe_int (fun _ _ => rfl)) (pa_cons (pe_tup (pa_cons pe_str (pa_cons pe_int pa_nil))) pa_nil)))
      (pss_cons (ps_expr (pe_bm PySem.F.plainAttrs_list PySem.F.slot_list_append PySem.F.type_list_append mt_append (pe_ix o_ix (kv 6) pe_int (fun _ _ => rfl)) (pa_cons (pe_tup (pa_cons pe_str (pa_cons pe_int pa_nil))) pa_nil)))
      (pss_cons (ps_set (i := 8) sc_law.nd rfl (Or.inl rfl) (kc C__law_lines (hr.mono (by decide)) (pa_cons (kv 5) pa_nil)))
      (pss_cons (ps_if (PW.pt (pw_or (pt_cmpR (o_ne hr.units) (kc C__law_parts (hr.mono (by decide)) (pa_cons (kv 7) pa_nil)) (kv 5) (nomark _)) (pw_or1 (pt_cmpR (o_ne hr.units) (pe_callTy c_list (by rfl) T.n_list (by decide +kernel) (pa_cons (kc C_list_draft (hr.mono (by decide)) (pa_cons (kv 7) pa_nil)) pa_nil)) (kv 8) (nomark _)))))
      (pss_one (ps_ret pe_bl))
      pss_nil)
      (pss_cons (ps_set (i := 9) sc_law.nd rfl (Or.inl rfl) (kcX (L2N.takes_of rfl rfl rfl rfl) C_read_listing (hr.mono (by decide)) (pa_cons (pe_callTy c_list (by rfl) T.n_list (by decide +kernel) (pa_cons (kv 8) pa_nil)) pa_nil)))
      (pss_cons (ps_if (PW.pt (pw_or (pt_cmpR (o_ne hr.units) (kc C__law_parts (hr.mono (by decide)) (pa_cons (kv 9) pa_nil)) (kv 5) (nomark _)) (pw_or (pt_not (pt_cmpR (o_eqO M_Draft___eq__ (hr.mono (by decide)) (by simp [PySem.W.notFirst])) (kv 9) (kv 7) (nomark _))) (pw_or1 (pt_not (pt_cmpR (o_eqO M_Draft___eq__ (hr.mono (by decide)) (by simp [PySem.W.notFirst])) (kv 7) (kv 9) (nomark _)))))))
      (pss_one (ps_ret pe_bl))
      pss_nil)
      (pss_cons (k_for (passes_of rfl) rfl (pi_list (kc C__law_others (hr.mono (by decide)) (pa_cons (kv 1) (pa_cons (kv 5) pa_nil)))) (pg_name (i := 10) sc_law.nd rfl (Or.inl rfl))
      (pss_one (ps_if (PW.pt (pw_or (pt_cmpR (o_eqO M_Draft___eq__ (hr.mono (by decide)) (by simp [PySem.W.notFirst])) (kv 7) (kc C__law_draft (hr.mono (by decide)) (pa_cons (kv 10) pa_nil)) (nomark _)) (pw_or1 (pt_cmpR (o_eqO M_Draft___eq__ (hr.mono (by decide)) (by simp [PySem.W.notFirst])) (kc C__law_draft (hr.mono (by decide)) (pa_cons (kv 10) pa_nil)) (kv 9) (nomark _)))))
      (pss_one (ps_ret pe_bl))
      pss_nil)))
      (pss_one (ps_ret (pe_and (pe_cmpR (o_eq hr.units) (kc C__law_parts (hr.mono (by decide)) (pa_cons (kv 7) pa_nil)) (kv 5) (nomark _)) (pe_one (pe_cmpR (o_eqO M_Draft___eq__ (hr.mono (by decide)) (by simp [PySem.W.notFirst])) (kv 7) (kc C__law_draft (hr.mono (by decide)) (pa_cons (kv 5) pa_nil)) (nomark _))))))))))))))))))), ?_⟩)
  · obtain ⟨sc, ns, rfl, _⟩ := h; rfl
  · obtain ⟨sc0, ns, rfl, hS, hn, h⟩ := h
    walk_at "kk"
    refine ⟨sc0, ns, rfl, hS, hn, fun st H1 hst f1 s1 => ?_⟩
    obtain ⟨sc, hsc⟩ : ∃ sc : Addr × List Int, sc = (sc0, ns) := ⟨_, rfl⟩
    rw [← hsc] at s1
    walk_at "kk"
    refine pick_s (by decide) (by decide) s1 fun la HA sA fA aA bA => ?_
    refine pick_s (by decide) (by decide) sA fun lb HB sB fB aB bB => ?_
    refine ⟨by decide, fun p hp => ?_⟩
    refine pick_s (by decide) (by decide) (sB.new hp) fun rC HC sC fC aC bC => ?_
    refine ix_all (fr_ne fC (sB.ne hp) upd_same) aC (by simpa using bC) fun v hv => ?_
    obtain ⟨n, rfl, n0, n1⟩ : ∃ n : Int, v = .int n ∧ 0 ≤ n ∧ n < 64 := by
      simp only [List.mem_cons, List.not_mem_nil, or_false] at hv
      rcases hv with rfl | rfl
      · exact ⟨_, rfl, aA, by omega⟩
      · exact ⟨_, rfl, aB, by omega⟩
    have fl := ((fA.trans fB).trans (KW.Fr.new (l := [st]) hp)).trans fC
    clear hv
    refine ⟨n, rfl, by omega, by omega, ?_⟩
    refine lc_rG (Rw LitOk K sc st HC) (fun D hD => Rw.z sC hD) (fun i D acc H5 Nx hi hD hP hN => ?_) fun L acc H2 hD hP => ?_
    · walk_at "kk"
      refine ⟨st, sc, rfl, hP.2.1, fun q x H6 s6 f6 hq hq6 ok => ?_⟩
      obtain ⟨w1, w2, w3⟩ := hP.step sC hD s6 f6 hq6 ok
      exact ⟨_, w1, lt_line (by omega), hN _ _ w3⟩
    obtain ⟨_, sl, gl, as, lits, rfl, h1, ⟨e1, e2⟩, e3, okl⟩ := hP
    have tl : TLs H2 L lits := ⟨as, h1, e1, e2⟩
    have fl := fl.trans gl
    have ll : lits.length ≤ 64 := by omega
    clear sA fA aA bA sB fB aB bB hp sC fC aC bC n0 n1 hD h1 e1 e2 e3 gl
    walk_at "kk"
    refine pick_s (by decide) (by decide) sl fun ca HA sA fA aA bA => ?_
    refine pick_s (by decide) (by decide) sA fun cb HB sB fB aB bB => ?_
    refine ⟨by decide, fun p hp => ?_⟩
    refine pick_s (by decide) (by decide) (sB.new hp) fun rC HC sC fC aC bC => ?_
    refine ix_all (fr_ne fC (sB.ne hp) upd_same) aC (by simpa using bC) fun v hv => ?_
    obtain ⟨n, rfl, n0, n1⟩ : ∃ n : Int, v = .int n ∧ 0 ≤ n ∧ n < 64 := by
      simp only [List.mem_cons, List.not_mem_nil, or_false] at hv
      rcases hv with rfl | rfl
      · exact ⟨_, rfl, aA, by omega⟩
      · exact ⟨_, rfl, aB, by omega⟩
    have fc := ((fA.trans fB).trans (KW.Fr.new (l := [st]) hp)).trans fC
    clear hv
    refine ⟨n, rfl, by omega, by omega, ?_⟩
    refine lc_rG (Rw InsOk K sc st HC) (fun D hD => Rw.z sC hD) (fun i D acc H5 Nx hi hD hP hN => ?_) fun C acc H3 hD hP => ?_
    · walk_at "kk"
      refine ⟨st, sc, rfl, hP.2.1, fun q x H6 s6 f6 hq hq6 ok => ?_⟩
      obtain ⟨w1, w2, w3⟩ := hP.step sC hD s6 f6 hq6 ok
      exact ⟨_, w1, lt_line (by omega), hN _ _ w3⟩
    obtain ⟨_, s_c, gc, as, code, rfl, h1, ⟨e1, e2⟩, e3, okc⟩ := hP
    have tc : TLs H3 C code := ⟨as, h1, e1, e2⟩
    have fc := fc.trans gc
    have lc : code.length ≤ 64 := by omega
    clear sA fA aA bA sB fB aB bB hp sC fC aC bC n0 n1 hD h1 e1 e2 e3 gc
    walk_at "kk"
    refine ⟨st, sc, false, rfl, s_c, fun t H4 s4 f4 t1 t2 t3 => ?_⟩
    walk_at "kk"
    refine ⟨st, sc, rfl, s4, fun n1 H5 s5 f5 c1 => ?_⟩
    walk_at "kk"
    refine ⟨st, sc, rfl, s5, fun n2 H6 s6 f6 c2 => ?_⟩
    walk_at "kk"
    refine ⟨st, sc, rfl, s6, fun n3 H7 s7 f7 c3 => ?_⟩
    walk_at "kk"
    have F7 := ((f4.trans f5).trans f6).trans f7
    have tl7 := tl.st sl (fc.trans F7)
    have tc7 := tc.st s_c F7
    intro q hq
    obtain ⟨x, hx⟩ : ∃ x : Dra, x = ⟨t, [n1, n2, n3], code, lits⟩ := ⟨_, rfl⟩
    have wf : DraWf x := by subst hx; exact ⟨⟨t1, t2, (t3 rfl).1⟩, ⟨n1, n2, n3, rfl, c1, c2, c3⟩, okc, okl⟩
    have f8 : KW.Fr [] H7 (upd H7 q (.lst [.str (S t), .int n1, .int n2, .int n3, .ref C, .ref L])) := KW.Fr.new hq
    have P8 : PAt (upd H7 q (.lst [.str (S t), .int n1, .int n2, .int n3, .ref C, .ref L])) q x := by subst hx; exact ⟨C, L, n1, n2, n3, rfl, upd_same, tc7.fr f8, tl7.fr f8⟩
    have s8 := s7.new (o := .lst [.str (S t), .int n1, .int n2, .int n3, .ref C, .ref L]) hq
    have q8 : (upd H7 q (.lst [.str (S t), .int n1, .int n2, .int n3, .ref C, .ref L])) q = some (.lst [.str (S t), .int n1, .int n2, .int n3, .ref C, .ref L]) := upd_same
    have tl8 := tl7.fr f8
    have tc8 := tc7.fr f8
    generalize (upd H7 q (.lst [.str (S t), .int n1, .int n2, .int n3, .ref C, .ref L])) = H8 at f8 P8 s8 q8 tl8 tc8 ⊢
    obtain ⟨ac, ac1, ac2, ac3⟩ := tc8
    obtain ⟨al, al1, al2, al3⟩ := tl8
    refine list_l ac1 fun G0 hG0 => ?_
    have h9 := KW.Fr.new (l := []) (o := .lst (ac.map V.ref)) hG0
    have T0 := TLs.copy ac1 ac2 ac3 hG0
    have e0 : (upd H8 G0 (.lst (ac.map V.ref))) G0 = some (.lst (ac.map V.ref)) := upd_same
    have al9 := h9 _ _ (by simp) al1
    generalize (upd H8 G0 (.lst (ac.map V.ref))) = H9 at h9 T0 e0 al9 ⊢
    refine list_l al9 fun G1 hG1 => ?_
    have h10 := KW.Fr.new (l := []) (o := .lst (al.map V.ref)) hG1
    have T1 := TLs.copy al9 al2 (fun i b z z1 z2 => h9 _ _ (by simp) (al3 i b z z1 z2)) hG1
    have e1 : (upd H9 G1 (.lst (al.map V.ref))) G1 = some (.lst (al.map V.ref)) := upd_same
    generalize (upd H9 G1 (.lst (al.map V.ref))) = H10 at h10 T1 e1 ⊢
    refine ⟨by decide, fun gv hgv => ?_⟩
    have h11 := KW.Fr.new (l := []) (o := .lst [V.ref G0, .ref G1]) hgv
    have v11 : (upd H10 gv (.lst [V.ref G0, .ref G1])) gv = some (.lst [V.ref G0, .ref G1]) := upd_same
    have nG0 : gv ≠ G0 := Ne.symm (ne_of_none (h10 _ _ (by simp) e0) hgv)
    have nG1 : gv ≠ G1 := Ne.symm (ne_of_none e1 hgv)
    have n01 : G1 ≠ G0 := Ne.symm (ne_of_none e0 hG1)
    have hG1' : H8 G1 = none := fr_no h9 hG1
    generalize (upd H10 gv (.lst [V.ref G0, .ref G1])) = H11 at h11 v11 ⊢
    have q11 := ((h9.trans h10).trans h11) _ _ (by simp) q8
    have G011 := (h10.trans h11) _ _ (by simp) e0
    have G111 := h11 _ _ (by simp) e1
    have T011 := (T0.fr h10).fr h11
    have T111 := T1.fr h11
    have F11 := (h9.trans h10).trans h11
    clear h9 h10 h11 T0 T1 e0 e1 al9
    walk_at "kk"
    intro d dd hd hdd hne
    have F1 := KW.Fr.new (l := []) (H := H11) (o := .own d) hdd
    have hd' : upd H11 dd (.own d) d = none := by rw [upd_ne (Ne.symm hne)]; exact hd
    have F2 := F1.trans (KW.Fr.new (l := []) (o := .ins a.Draft dd []) hd')
    refine ⟨d, dd, G0, G1, t, n1, n2, n3, code, lits, [G0, G1], rfl, upd_same, T011.fr F2, T111.fr F2, ?_, fun H13 f13 D13 => ⟨rfl, ?_⟩⟩
    · intro y hy
      simp only [List.mem_cons, List.not_mem_nil, or_false] at hy
      rcases hy with rfl | rfl
      · rw [F2 _ _ (by simp) G011]; simp
      · rw [F2 _ _ (by simp) G111]; simp
    have F13 : KW.Fr [] H11 H13 := fun c o _ e => by
      have ne : c ≠ d := fun z => by rw [z, hd] at e; cases e
      exact f13 c o (by simpa using ne) (F2 c o (by simp) e)
    rw [← hx] at D13
    have v13 := F13 _ _ (by simp) v11
    have G013 := F13 _ _ (by simp) G011
    have G113 := F13 _ _ (by simp) G111
    have F813 := F11.trans F13
    clear F2 F1 hd' f13 F13 hd hdd hne v11 q11 G011 G111 T011 T111 F11
    walk_at "kk"
    have lac : ac.length ≤ 64 := by omega
    have lal : al.length ≤ 64 := by omega
    intro p2 hp2
    have g2 := KW.Fr.new (l := []) (o := .tup [V.str (S [115, 101, 108, 102]), .int 0]) hp2
    refine app_l (g2 _ _ (by simp) G013) (lt_line (by rw [List.length_map]; omega)) ?_
    have F814 := fr_atL (o := .lst (ac.map V.ref ++ [.ref p2])) hG0 (F813.trans g2)
    have D14 := (D13.fr g2).upd (G := G0) (zs := ac.map V.ref ++ [.ref p2]) (by simp) (g2 _ _ (by simp) G013)
    have v14 := (upd_ne (o := .lst (ac.map V.ref ++ [.ref p2])) nG0).trans (g2 _ _ (by simp) v13)
    have G114 := (upd_ne (o := .lst (ac.map V.ref ++ [.ref p2])) n01).trans (g2 _ _ (by simp) G113)
    generalize (upd (upd H13 p2 (.tup [V.str (S [115, 101, 108, 102]), .int 0])) G0 (.lst (ac.map V.ref ++ [.ref p2]))) = H14 at F814 D14 v14 G114 ⊢
    walk_at "kk"
    intro p3 hp3
    have g3 := KW.Fr.new (l := []) (o := .tup [V.str (S [105, 110, 116]), .int 0]) hp3
    refine app_l (g3 _ _ (by simp) G114) (lt_line (by rw [List.length_map]; omega)) ?_
    have F815 := fr_atL (o := .lst (al.map V.ref ++ [.ref p3])) hG1' (F814.trans g3)
    have D15 := ((D14.fr g3).upd (G := G1) (zs := al.map V.ref ++ [.ref p3]) (by simp) (g3 _ _ (by simp) G114)).d
    generalize (upd (upd H14 p3 (.tup [V.str (S [105, 110, 116]), .int 0])) G1 (.lst (al.map V.ref ++ [.ref p3]))) = H15 at F815 D15 ⊢
    have P15 := P8.fr F815
    have s15 := s8.fr F815
    clear g2 g3 D13 D14 v13 v14 G013 G113 G114 F813 F814 F815 hG0 hG1 hG1' nG0 nG1 n01 hp2 hp3 hgv P8 s8 q8 f8 hq tl7 tc7 tl tc F7
    have okx := wf.ok
    have xc : x.code.length ≤ 64 := by subst hx; exact lc
    have xl : x.lits.length ≤ 64 := by subst hx; exact ll
    have lx := lines_len x
    have lok := lines_ok wf
    have shx := pD_sh okx wf.l3
    have eqx := eqvD_self okx wf.l3
    refine ⟨q, x, rfl, P15, wf, by omega, by omega, fun Ln H16 hLn f16 l16 => ?_⟩
    have D16 := D15.fr f16
    have P16 := P15.fr f16
    have s16 := s15.fr f16
    clear D15 P15 s15 hLn f16
    walk_at "kk"
    refine ⟨d, x, rfl, D16, fun t1 H17 ht1 f17 pt1 => ?_⟩
    have D17 := D16.fr f17
    have P17 := P16.fr f17
    have s17 := s16.fr f17
    have l17 := f17 _ _ (by simp) l16
    clear D16 P16 s16 l16 ht1 f17
    walk_at "kk"
    refine neD_s (pt1.dp okx) (P17.dp okx) shx ?_
    walk_at "kk"
    refine ⟨d, x, rfl, D17, wf, by omega, by omega, fun M H18 hM f18 m18 => ?_⟩
    have D18 := D17.fr f18
    have P18 := P17.fr f18
    have s18 := s17.fr f18
    have l18 := f18 _ _ (by simp) l17
    clear D17 P17 s17 l17 hM f18
    walk_at "kk"
    intro M2 hM2
    have f19 := KW.Fr.new (l := []) (o := .lst ((LS.linesOf x).map sV)) hM2
    have D19 := D18.fr f19
    have P19 := P18.fr f19
    have s19 := s18.fr f19
    have l19 := f19 _ _ (by simp) l18
    have m19 : (upd H18 M2 (.lst ((LS.linesOf x).map sV))) M2 = some (.lst ((LS.linesOf x).map sV)) := upd_same
    generalize (upd H18 M2 (.lst ((LS.linesOf x).map sV))) = H19 at D19 P19 s19 l19 m19 ⊢
    clear D18 P18 s18 l18 hM2 f19 m18
    refine neD_s (d := .list ((LS.linesOf x).map fun l => .str (S l))) (.lst (.of m19) (dpAll_lines lok)) (.lst (.of l19) (dpAll_lines lok)) (sh_lines lok) ?_
    walk_at "kk"
    intro M3 hM3
    have f20 := KW.Fr.new (l := []) (o := .lst ((LS.linesOf x).map sV)) hM3
    have D20 := D19.fr f20
    have P20 := P19.fr f20
    have s20 := s19.fr f20
    have m20 : (upd H19 M3 (.lst ((LS.linesOf x).map sV))) M3 = some (.lst ((LS.linesOf x).map sV)) := upd_same
    generalize (upd H19 M3 (.lst ((LS.linesOf x).map sV))) = H20 at D20 P20 s20 m20 ⊢
    clear D19 P19 s19 l19 hM3 f20 m19
    refine ⟨M3, LS.linesOf x, rfl, m20, lok, by omega, fun e he => (by rw [rdAll_lines wf] at he; cases he), fun x' hx' H21 r f21 hr R21 => ?_⟩
    rw [rdAll_lines wf] at hx'
    obtain rfl : x = x' := Sum.inr.inj hx'
    have D21 := D20.fr f21
    have P21 := P20.fr f21
    have s21 := s20.fr f21
    clear D20 P20 s20 m20 f21 hx' hr
    walk_at "kk"
    refine ⟨r, x, rfl, R21, fun t2 H22 ht2 f22 pt2 => ?_⟩
    have D22 := D21.fr f22
    have P22 := P21.fr f22
    have R22 := R21.fr f22
    have s22 := s21.fr f22
    clear D21 P21 s21 R21 ht2 f22
    walk_at "kk"
    refine neD_s (pt2.dp okx) (P22.dp okx) shx ?_
    walk_at "kk"
    refine eqo R22 D22 okx okx fun H23 f23 => ?_
    rw [eqx]
    have D23 := D22.fr f23
    have P23 := P22.fr f23
    have R23 := R22.fr f23
    have s23 := s22.fr f23
    clear D22 P22 s22 R22 f23 pt2
    walk_at "kk"
    refine eqo D23 R23 okx okx fun H24 f24 => ?_
    rw [eqx]
    have D24 := D23.fr f24
    have P24 := P23.fr f24
    have R24 := R23.fr f24
    have s24 := s23.fr f24
    clear D23 P23 s23 R23 f24
    walk_at "kk"
    refine ⟨st, q, sc, x, rfl, s24, P24, wf, by omega, by omega, fun Dl os H25 s25 f25 hDl lo props => ?_⟩
    have D25 := D24.st s24 f25
    have P25 := P24.st s24 f25
    have R25 := R24.st s24 f25
    clear D24 P24 s24 R24 f25 s25
    walk_at "kk"
    refine for_lst (xs := os.map fun o => V.ref o.1) (fun i σ H' => ∃ v : Option V, σ = [some (.ref sc0), some (.ref st), some (.ref L), none, some (.ref C), some (.ref q), some (.ref gv), some (.ref d), some (.ref Ln), some (.ref r), v] ∧ KW.Fr [] H25 H') ⟨none, rfl, KW.Fr.refl H25⟩ ?_ ?_ ?_
    · rintro i σ H' _ ⟨_, _, g⟩
      exact .of (g _ _ (by simp) hDl)
    · rintro i v σ H26 hv ⟨v10, rfl, g⟩
      rw [List.getElem?_map] at hv
      obtain ⟨o, ho, rfl⟩ := Option.map_eq_some_iff.mp hv
      obtain ⟨po, oko, o3, ne1, ne2⟩ := props o (List.mem_of_getElem? ho)
      walk_at "kk"
      refine ⟨o.1, o.2, rfl, po.fr g, fun d2 H27 f27 D2 => ?_⟩
      have g27 := g.trans f27
      walk_at "kk"
      refine eqo (D25.fr g27) D2 okx oko fun H28 f28 => ?_
      rw [ne1]
      have g28 := g27.trans f28
      walk_at "kk"
      refine ⟨o.1, o.2, rfl, po.fr g28, fun d3 H29 f29 D3 => ?_⟩
      have g29 := g28.trans f29
      walk_at "kk"
      refine eqo D3 (R25.fr g29) oko okx fun H30 f30 => ?_
      rw [ne2]
      have g30 := g29.trans f30
      walk_at "kk"
      exact g30
    · rintro σ H26 ⟨v10, rfl, g⟩
      walk_at "kk"
      refine ⟨d, x, rfl, D25.fr g, fun t3 H27 ht3 f27 pt3 => ?_⟩
      have g27 := g.trans f27
      walk_at "kk"
      refine eqD_s (pt3.dp okx) ((P25.fr g27).dp okx) shx ?_
      walk_at "kk"
      refine ⟨q, x, rfl, P25.fr g27, fun d4 H28 f28 D4 => ?_⟩
      walk_at "kk"
      refine eqo (D25.fr (g27.trans f28)) D4 okx okx fun H29 f29 => ?_
      rw [eqx]
      walk_at "kk"
      exact h _
end
end K25

set_option Elab.async false
set_option linter.all false
set_option maxRecDepth 100000
namespace K25
end K25
open PySem PySem.W PyProof.Rows
set_option maxRecDepth 100000 in
set_option maxHeartbeats 0 in
theorem PySem.Challenge.cw_kilnwarden_k25_listings_by_their_parts_holds : PySem.Challenge.rw_kilnwarden_k25_listings_by_their_parts.Holds := by
  w_on; o_law; k_head; (case hw => w_witness2)
  k_fill
  refine KW.walk63 (k := 5) (l := PySem.Challenge.rw_kilnwarden_k25_listings_by_their_parts) (st := K25.s_law) rfl rfl rfl ⟨rfl, by decide, by decide⟩ (fun w h Y => PySem.W.kIn_of Y) (fun _ _ _ _ _ _ us hl => match us, hl with | [_], _ => rfl) ?F
  case F =>
    intro w mg h KX G
    have T : ∃ a : K25.Ads, K25.Txt PySem.Challenge.rw_kilnwarden_k25_listings_by_their_parts.prog w (L2.KOf KX) mg a := by
      delta L2.KOf
      refine' K25.Txt.ex ?T
      case T =>
        constructor
        all_goals (try dsimp only)
        case g_KilnwardenError => refine' PySem.W.mg_of KX G ?za; (case za => k_is)
        case g_Malformed => refine' PySem.W.mg_of KX G ?za; (case za => k_is)
        case g_Draft => refine' PySem.W.mg_of KX G ?za; (case za => k_is)
        case e_Malformed =>
          refine' PySem.KErr_at.err_mk K25.s_Malformed_init KX G ?zaC ?zxL ?zbmv ?zsup ?zsa ?zno ?za1 ?zt1 ?zkC ?zeC ?zvC ?ztC ?zown ?ztp ?zdg ?znsup ?znstr ?zhst ?zl1 ?zc1 ?zmc ?zac ?zce ?zco ?zcf ?zcg ?ztop ?zhg ?zhk ?zhd ?zha ?zhn ?zht ?zhm
          (case zaC => k_is)
          (case zxL => k_is)
          (case zbmv => first | rfl | decide +kernel)
          (case zsup => ks_is)
          (case zsa => k_is)
          (case zno => k_is)
          (case za1 => k_is)
          (case zt1 => k_is)
          (case zkC => k_is)
          (case zeC => k_is)
          (case zvC => k_is)
          (case ztC => k_is)
          (case zown => k_is)
          (case ztp => k_is)
          (case zdg => k_is)
          (case znsup => k_is)
          (case znstr => k_is)
          (case zhst => exact ⟨rfl, rfl, rfl⟩)
          (case zl1 => k_is)
          (case zc1 => k_is)
          (case zmc => exact fun env => ⟨_, rfl⟩)
          (case zac => exact fun env => rfl)
          (case zce => k_is)
          (case zco => k_is)
          (case zcf => first | rfl | k_is)
          (case zcg => first | decide +kernel | k_is)
          (case ztop => first | decide +kernel | k_is)
          (case zhg => k_is)
          (case zhk => k_is)
          (case zhd => k_is)
          (case zha => k_is)
          (case zhn => k_is)
          (case zht => k_is)
          (case zhm => k_is)
        case q_Draft => refine' KW.InsA.mk ?za ?zb ?zc ?zd ?ze; (case za => k_is); (case zb => k_is); (case zc => k_is); (case zd => k_is); (case ze => first | k_is | kit_is)
        case c_Draft => refine' KW.clsA_mk KX G ?za ?zb ?zc ?zd ?ze ?zf; (case za => k_is); (case zb => k_is); (case zc => k_is); (case zd => k_is); (case ze => k_is); (case zf => (intro f hf; simp only [List.mem_cons, List.not_mem_nil, or_false] at hf; rcases hf with rfl | rfl | rfl | rfl | rfl | rfl <;> k_is))
        case ini_Draft => refine' KW.iniAt_mk ?zkc ?zmk ?za ?zf ?zk ?zl ?zc ?zb; (case zkc => k_is); (case zmk => k_is); (case za => k_is); (case zf => k_is); (case zk => k_is); (case zl => k_is); (case zc => k_is); (case zb => exact fun _ _ _ _ _ _ us hl => match us, hl with | [_, _, _, _, _, _, _], _ => rfl)
        case m_Draft_parts => refine' KW.metAt_mk ?za ?zf ?zk ?zl ?zc ?zb; (case za => k_is); (case zf => k_is); (case zk => k_is); (case zl => k_is); (case zc => k_is); (case zb => exact fun _ _ _ _ _ _ us hl => match us, hl with | [_], _ => rfl)
        case m_Draft___eq__ => refine' KW.metAt_mk ?za ?zf ?zk ?zl ?zc ?zb; (case za => k_is); (case zf => k_is); (case zk => k_is); (case zl => k_is); (case zc => k_is); (case zb => exact fun _ _ _ _ _ _ us hl => match us, hl with | [_, _], _ => rfl)
        case n_abs => exact PySem.W.mg_none_of KX G (by k_is)
        case n_all => exact PySem.W.mg_none_of KX G (by k_is)
        case n_int => exact PySem.W.mg_none_of KX G (by k_is)
        case n_isinstance => exact PySem.W.mg_none_of KX G (by k_is)
        case n_len => exact PySem.W.mg_none_of KX G (by k_is)
        case n_list => exact PySem.W.mg_none_of KX G (by k_is)
        case n_range => exact PySem.W.mg_none_of KX G (by k_is)
        case n_str => exact PySem.W.mg_none_of KX G (by k_is)
        case n_tuple => exact PySem.W.mg_none_of KX G (by k_is)
        case gt_OPS => refine' KW.gt_mk (PySem.W.mg_of KX G ?za) ?zl ?zc ?zd ?zz ?zr; (case za => k_is); (case zl => k_is); (case zc => rfl); (case zd => rfl); (case zz => decide); (case zr => repeat (first | exact .nil | refine .cons ⟨_, rfl⟩ ?_))
        case gt_PLAIN => refine' KW.gt_mk (PySem.W.mg_of KX G ?za) ?zl ?zc ?zd ?zz ?zr; (case za => k_is); (case zl => k_is); (case zc => rfl); (case zd => rfl); (case zz => decide); (case zr => repeat (first | exact .nil | refine .cons ⟨_, rfl⟩ ?_))
        case g_DIGITS => refine' KW.gv_mk KX G ?za ?zr; (case za => k_is); (case zr => exact ⟨_, rfl⟩)
        case g_MOST_ARG => refine' KW.gv_mk KX G ?za ?zr; (case za => k_is); (case zr => exact ⟨_, rfl⟩)
        case gt_TEXTS => refine' KW.gt_mk (PySem.W.mg_of KX G ?za) ?zl ?zc ?zd ?zz ?zr; (case za => k_is); (case zl => k_is); (case zc => rfl); (case zd => rfl); (case zz => decide); (case zr => repeat (first | exact .nil | refine .cons ⟨_, rfl⟩ ?_))
        case d_escaped => refine' KW.defAt_mk KX G ?za ?zl ?zc ?zk ?zb; (case za => k_is); (case zl => k_is); (case zc => k_is); (case zk => k_is); (case zb => exact fun _ _ _ _ _ _ us hl => match us, hl with | [_], _ => rfl)
        case d_joined => refine' KW.defAt_mk KX G ?za ?zl ?zc ?zk ?zb; (case za => k_is); (case zl => k_is); (case zc => k_is); (case zk => k_is); (case zb => exact fun _ _ _ _ _ _ us hl => match us, hl with | [_], _ => rfl)
        case d_literal_line => refine' KW.defAt_mk KX G ?za ?zl ?zc ?zk ?zb; (case za => k_is); (case zl => k_is); (case zc => k_is); (case zk => k_is); (case zb => exact fun _ _ _ _ _ _ us hl => match us, hl with | [_], _ => rfl)
        case d_list_draft => refine' KW.defAt_mk KX G ?za ?zl ?zc ?zk ?zb; (case za => k_is); (case zl => k_is); (case zc => k_is); (case zk => k_is); (case zb => exact fun _ _ _ _ _ _ us hl => match us, hl with | [_], _ => rfl)
        case d_number_in => refine' KW.defAt_mk KX G ?za ?zl ?zc ?zk ?zb; (case za => k_is); (case zl => k_is); (case zc => k_is); (case zk => k_is); (case zb => exact fun _ _ _ _ _ _ us hl => match us, hl with | [_, _], _ => rfl)
        case d_numbers_in => refine' KW.defAt_mk KX G ?za ?zl ?zc ?zk ?zb; (case za => k_is); (case zl => k_is); (case zc => k_is); (case zk => k_is); (case zb => exact fun _ _ _ _ _ _ us hl => match us, hl with | [_, _, _], _ => rfl)
        case d_unescaped => refine' KW.defAt_mk KX G ?za ?zl ?zc ?zk ?zb; (case za => k_is); (case zl => k_is); (case zc => k_is); (case zk => k_is); (case zb => exact fun _ _ _ _ _ _ us hl => match us, hl with | [_, _], _ => rfl)
        case d_read_head => refine' KW.defAt_mk KX G ?za ?zl ?zc ?zk ?zb; (case za => k_is); (case zl => k_is); (case zc => k_is); (case zk => k_is); (case zb => exact fun _ _ _ _ _ _ us hl => match us, hl with | [_], _ => rfl)
        case d_read_text => refine' KW.defAt_mk KX G ?za ?zl ?zc ?zk ?zb; (case za => k_is); (case zl => k_is); (case zc => k_is); (case zk => k_is); (case zb => exact fun _ _ _ _ _ _ us hl => match us, hl with | [_, _, _], _ => rfl)
        case d_read_literal => refine' KW.defAt_mk KX G ?za ?zl ?zc ?zk ?zb; (case za => k_is); (case zl => k_is); (case zc => k_is); (case zk => k_is); (case zb => exact fun _ _ _ _ _ _ us hl => match us, hl with | [_, _], _ => rfl)
        case d_read_instruction => refine' KW.defAt_mk KX G ?za ?zl ?zc ?zk ?zb; (case za => k_is); (case zl => k_is); (case zc => k_is); (case zk => k_is); (case zb => exact fun _ _ _ _ _ _ us hl => match us, hl with | [_, _], _ => rfl)
        case d_read_listing => refine' KW.defAt_mk KX G ?za ?zl ?zc ?zk ?zb; (case za => k_is); (case zl => k_is); (case zc => k_is); (case zk => k_is); (case zb => exact fun _ _ _ _ _ _ us hl => match us, hl with | [_], _ => rfl)
        case d__law_start => refine' KW.defAt_mk KX G ?za ?zl ?zc ?zk ?zb; (case za => k_is); (case zl => k_is); (case zc => k_is); (case zk => k_is); (case zb => exact fun _ _ _ _ _ _ us hl => match us, hl with | [_], _ => rfl)
        case d__law_pick => refine' KW.defAt_mk KX G ?za ?zl ?zc ?zk ?zb; (case za => k_is); (case zl => k_is); (case zc => k_is); (case zk => k_is); (case zb => exact fun _ _ _ _ _ _ us hl => match us, hl with | [_, _], _ => rfl)
        case d__law_text => refine' KW.defAt_mk KX G ?za ?zl ?zc ?zk ?zb; (case za => k_is); (case zl => k_is); (case zc => k_is); (case zk => k_is); (case zb => exact fun _ _ _ _ _ _ us hl => match us, hl with | [_, _], _ => rfl)
        case d__law_count => refine' KW.defAt_mk KX G ?za ?zl ?zc ?zk ?zb; (case za => k_is); (case zl => k_is); (case zc => k_is); (case zk => k_is); (case zb => exact fun _ _ _ _ _ _ us hl => match us, hl with | [_], _ => rfl)
        case d__law_literal => refine' KW.defAt_mk KX G ?za ?zl ?zc ?zk ?zb; (case za => k_is); (case zl => k_is); (case zc => k_is); (case zk => k_is); (case zb => exact fun _ _ _ _ _ _ us hl => match us, hl with | [_], _ => rfl)
        case d__law_plain => refine' KW.defAt_mk KX G ?za ?zl ?zc ?zk ?zb; (case za => k_is); (case zl => k_is); (case zc => k_is); (case zk => k_is); (case zb => exact fun _ _ _ _ _ _ us hl => match us, hl with | [], _ => rfl)
        case d__law_instruction => refine' KW.defAt_mk KX G ?za ?zl ?zc ?zk ?zb; (case za => k_is); (case zl => k_is); (case zc => k_is); (case zk => k_is); (case zb => exact fun _ _ _ _ _ _ us hl => match us, hl with | [_], _ => rfl)
        case d__law_written => refine' KW.defAt_mk KX G ?za ?zl ?zc ?zk ?zb; (case za => k_is); (case zl => k_is); (case zc => k_is); (case zk => k_is); (case zb => exact fun _ _ _ _ _ _ us hl => match us, hl with | [_], _ => rfl)
        case d__law_lines => refine' KW.defAt_mk KX G ?za ?zl ?zc ?zk ?zb; (case za => k_is); (case zl => k_is); (case zc => k_is); (case zk => k_is); (case zb => exact fun _ _ _ _ _ _ us hl => match us, hl with | [_], _ => rfl)
        case d__law_draft => refine' KW.defAt_mk KX G ?za ?zl ?zc ?zk ?zb; (case za => k_is); (case zl => k_is); (case zc => k_is); (case zk => k_is); (case zb => exact fun _ _ _ _ _ _ us hl => match us, hl with | [_], _ => rfl)
        case d__law_parts => refine' KW.defAt_mk KX G ?za ?zl ?zc ?zk ?zb; (case za => k_is); (case zl => k_is); (case zc => k_is); (case zk => k_is); (case zb => exact fun _ _ _ _ _ _ us hl => match us, hl with | [_], _ => rfl)
        case d__law_changed => refine' KW.defAt_mk KX G ?za ?zl ?zc ?zk ?zb; (case za => k_is); (case zl => k_is); (case zc => k_is); (case zk => k_is); (case zb => exact fun _ _ _ _ _ _ us hl => match us, hl with | [_, _, _], _ => rfl)
        case d__law_others => refine' KW.defAt_mk KX G ?za ?zl ?zc ?zk ?zb; (case za => k_is); (case zl => k_is); (case zc => k_is); (case zk => k_is); (case zb => exact fun _ _ _ _ _ _ us hl => match us, hl with | [_, _], _ => rfl)
        case d_law => refine' KW.defAt_mk KX G ?za ?zl ?zc ?zk ?zb; (case za => k_is); (case zl => k_is); (case zc => k_is); (case zk => k_is); (case zb => exact fun _ _ _ _ _ _ us hl => match us, hl with | [_], _ => rfl)
    obtain ⟨a, T⟩ := T
    exact ⟨T.d_law, fun base f fd F => K25.ok_law T f fd F⟩
#print axioms PySem.Challenge.cw_kilnwarden_k25_listings_by_their_parts_holds
