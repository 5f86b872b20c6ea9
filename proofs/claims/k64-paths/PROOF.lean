import PyProof.Rows.All
import Wide.All
import OpenK.AllK
import HandS.ExcCtx
import HandS.HotCalls
import Wide.FinOn
import HandS.Call
import HandS.List
import HandS.Ends
import HandS.Words
import HandS.Exc
import HandS.ExcOwn
import HandS.TryOnly
import HandS.Text
import HandS.Codes
import HandS.Style
import HandS.IsInst
import HandS.Wide
import KE.KExcSuper
import HandS.ExcField
import HandS.ExcIs
import HandS.TryMany
import HandS.Defaults
import HandS.Dict
import HandS.BoundDict
import HandS.NoneIn
import HandS.Flow
import HandS.WideBits
import HandS.Conv
import HandS.SortInts
import HandS.RaiseMore
import KE.RegKIsAll
import HandS.Comp
import HandS.More
import HandS.Iter
import KE.SortKeyHeap
import KE.SortData
import KE.KSortKey
import HandS.Lambda
import HandS.EndTab
import KE.KNestM
import KE.DataEq
import HandS.TupAny
import HandS.Flt
import HandS.WordsDict
import PySem.Challenge.RW_kilnwarden_k64_best_paths
set_option Elab.async false
set_option linter.all false
set_option maxRecDepth 100000
set_option maxHeartbeats 2000000
/-! Kw: universal readings over HandS: one rule a construct, whatever the kinds of its parts are; the readings go by cases of the values and so reduce by simp. -/
namespace KW
open PySem PySem.Spec PyProof.Rows L2
abbrev Frag := PySem.W.Frag
abbrev S (l : List Nat) : Str := SX.S l

section
variable {X : Cx}
theorem PEw {e : Expr} {t t' : TE} (h : PE X e t) (w : ∀ σ H Q, t' σ H Q → t σ H Q) : PE X e t' := ⟨fun pins s σ H Q I q => h.run pins s σ H Q I (w σ H Q q)⟩
theorem PTw {e : Expr} {t t' : TT} (h : PT X e t) (w : ∀ σ H Q, t' σ H Q → t σ H Q) : PT X e t' := ⟨fun pins s σ H Q I q => h.run pins s σ H Q I (w σ H Q q)⟩
theorem PSw {st : Stmt} {t t' : TS} (h : PS X st t) (w : ∀ D σ H, t' D σ H → t D σ H) : PS X st t' := ⟨fun pins s σ H D I q => h.run pins s σ H D I (w D σ H q)⟩
theorem OpRw {f : Value → Value → Sem Value} {r r' : R2} (h : OpR X f r) (w : ∀ x y H Q, r' x y H Q → r x y H Q) : OpR X f r' := fun pins s σ H x y v u Q I rx ry q => h pins s σ H x y v u Q I rx ry (w _ _ _ _ q)
theorem UnRw {f : Value → Sem Value} {r r' : V → Hp → VK → Prop} (h : UnR X f r) (w : ∀ x H Q, r' x H Q → r x H Q) : UnR X f r' := fun pins s σ H x v Q I rx q => h pins s σ H x v Q I rx (w _ _ _ q)
theorem CallRw {f : Value} {r r' : List V → Hp → VK → Prop} (h : CallR X f r) (w : ∀ xs H Q, r' xs H Q → r xs H Q) : CallR X f r' := fun pins s σ H xs us Q I rx q => h pins s σ H xs us Q I rx (w _ _ _ q)
theorem IxRw {r r' : R2} (h : IxR X r) (w : ∀ x y H Q, r' x y H Q → r x y H Q) : IxR X r' := fun a b pins s σ H x y v u Q I rx ry q => h a b pins s σ H x y v u Q I rx ry (w _ _ _ _ q)
theorem SlRw {r r' : V → Option Int → Option Int → Hp → VK → Prop} (h : SlR X r) (w : ∀ x l u H Q, r' x l u H Q → r x l u H Q) : SlR X r' := fun pins s σ H x v vl vu lo hi sl Q I rx a b c q => h pins s σ H x v vl vu lo hi sl Q I rx a b c (w _ _ _ _ _ q)

/-! ### names -/
def uVar (i : Nat) : TE := fun σ H Q => match σ[i]? with
  | some (some v) => Q v H
  | _ => False
theorem kv (i : Nat) {x : Str} {pos : Pos} (hN : X.N[i]? = some x := by rfl) (hv : Vis X.env.scope x := by first | exact Or.inl rfl | exact Or.inr (Or.inl rfl) | exact Or.inr (Or.inr rfl)) (hd : (x == ("__debug__" : Str)) = false := by decide)
    (hcd : (x == ("__classdict__" : Str)) = false := by decide) : PE X (.Name x pos) (uVar i) := PEw (pe_var hN hv hd hcd) fun σ H Q h => by
  unfold uVar at h
  split at h
  · rename_i v e
    exact ⟨v, e, h⟩
  · exact h.elim

/-! ### operators -/
def uAdd (K : Frag) : R2
  | .int i, .int j, H, Q => Q (.int (i + j)) H
  | .str i, .str j, H, Q => i.length + j.length ≤ sizeLine ∧ Q (.str (i ++ j)) H
  | .ref a, .ref b, H, Q => rCat (.ref a) (.ref b) H Q ∨ rCatT K (.ref a) (.ref b) H Q
  | _, _, _, _ => False
theorem o_add : OpR X (binaryOp .Add) (uAdd X.K) := OpRw (op_add.or (op_add_str.or (op_cat.or op_catT))) fun x y H Q h => by
  unfold uAdd at h
  split at h
  · exact .inl ⟨_, _, rfl, rfl, h⟩
  · exact .inr (.inl ⟨_, _, rfl, rfl, h⟩)
  · exact .inr (.inr h)
  · exact h.elim
def uSub : R2
  | .int i, .int j, H, Q => Q (.int (i - j)) H
  | _, _, _, _ => False
theorem o_sub : OpR X (binaryOp .Sub) uSub := OpRw op_sub fun x y H Q h => by
  unfold uSub at h
  split at h
  · exact ⟨_, _, rfl, rfl, h⟩
  · exact h.elim
def uMul : R2
  | .int i, .int j, H, Q => (CMul i j ∨ CMulW i j) ∧ Q (.int (i * j)) H
  | .ref l, .int k, H, Q => rRep (.ref l) (.int k) H Q
  | _, _, _, _ => False
theorem o_mul : OpR X (binaryOp .Mult) uMul := OpRw (op_mul.or (op_mulW.or op_rep)) fun x y H Q h => by
  unfold uMul at h
  split at h
  · obtain ⟨c | c, h⟩ := h
    · exact .inl ⟨_, _, rfl, rfl, c, h⟩
    · exact .inr (.inl ⟨_, _, rfl, rfl, c, h⟩)
  · exact .inr (.inr h)
  · exact h.elim
def uMod : R2
  | .int i, .int j, H, Q => 0 < j ∧ Q (.int (i % j)) H
  | _, _, _, _ => False
theorem o_mod : OpR X (binaryOp .Mod) uMod := OpRw op_mod fun x y H Q h => by
  unfold uMod at h
  split at h
  · exact ⟨_, _, rfl, rfl, h⟩
  · exact h.elim
def uDiv : R2
  | .int i, .int j, H, Q => (CDiv i j ∨ CDivW i j) ∧ Q (.int (i / j)) H
  | _, _, _, _ => False
theorem o_fdiv : OpR X (binaryOp .FloorDiv) uDiv := OpRw (op_fdiv.or op_fdivW) fun x y H Q h => by
  unfold uDiv at h
  split at h
  · obtain ⟨c | c, h⟩ := h
    · exact .inl ⟨_, _, rfl, rfl, c, h⟩
    · exact .inr ⟨_, _, rfl, rfl, c, h⟩
  · exact h.elim
def uPow : R2
  | .int i, .int j, H, Q => CPow i j ∧ Q (.int (i ^ j.toNat)) H
  | _, _, _, _ => False
theorem o_pow : OpR X (binaryOp .Pow) uPow := OpRw op_pow fun x y H Q h => by
  unfold uPow at h
  split at h
  · exact ⟨_, _, rfl, rfl, h⟩
  · exact h.elim
def uShl : R2
  | .int i, .int j, H, Q => CPow i j ∧ Q (.int (i * 2 ^ j.toNat)) H
  | _, _, _, _ => False
theorem o_shl : OpR X (binaryOp .LShift) uShl := OpRw op_shl fun x y H Q h => by
  unfold uShl at h
  split at h
  · exact ⟨_, _, rfl, rfl, h⟩
  · exact h.elim
def uNeg : V → Hp → VK → Prop
  | .int i, H, Q => Q (.int (-i)) H
  | _, _, _ => False
theorem o_neg : UnR X (unaryOp .USub) uNeg := UnRw un_neg fun x H Q h => by
  unfold uNeg at h
  split at h
  · exact ⟨_, rfl, h⟩
  · exact h.elim
/-- in place: ints and texts; a list is lengthened -/
def uIAdd : R2
  | .int i, .int j, H, Q => Q (.int (i + j)) H
  | .str i, .str j, H, Q => i.length + j.length ≤ sizeLine ∧ Q (.str (i ++ j)) H
  | .ref a, .ref b, H, Q => rExt2 (.ref a) (.ref b) H Q
  | _, _, _, _ => False
theorem o_iadd : OpR X (inplaceOp .Add) uIAdd := OpRw (iop_add.or (iop_add_str.or iop_ext)) fun x y H Q h => by
  unfold uIAdd at h
  split at h
  · exact .inl ⟨_, _, rfl, rfl, h⟩
  · exact .inr (.inl ⟨_, _, rfl, rfl, h⟩)
  · exact .inr (.inr h)
  · exact h.elim
def uISub : R2
  | .int i, .int j, H, Q => Q (.int (i - j)) H
  | _, _, _, _ => False
theorem o_isub : OpR X (inplaceOp .Sub) uISub := OpRw iop_sub fun x y H Q h => by
  unfold uISub at h
  split at h
  · exact ⟨_, _, rfl, rfl, h⟩
  · exact h.elim

/-! ### comparisons -/
def uLt : R2
  | .int i, .int j, H, Q => Q (.bl (decide (i < j))) H
  | .str i, .str j, H, Q => Q (.bl (decide (i.cps.toList < j.cps.toList))) H
  | _, _, _, _ => False
theorem o_lt : OpR X (compareOp .Lt) uLt := OpRw (op_lt.or op_lt_str) fun x y H Q h => by
  unfold uLt at h
  split at h
  · exact .inl ⟨_, _, rfl, rfl, h⟩
  · exact .inr ⟨_, _, rfl, rfl, h⟩
  · exact h.elim
def uLe : R2
  | .int i, .int j, H, Q => Q (.bl (decide (i ≤ j))) H
  | _, _, _, _ => False
theorem o_le : OpR X (compareOp .LtE) uLe := OpRw op_le fun x y H Q h => by
  unfold uLe at h
  split at h
  · exact ⟨_, _, rfl, rfl, h⟩
  · exact h.elim
def uGt : R2
  | .int i, .int j, H, Q => Q (.bl (decide (j < i))) H
  | _, _, _, _ => False
theorem o_gt : OpR X (compareOp .Gt) uGt := OpRw op_gt fun x y H Q h => by
  unfold uGt at h
  split at h
  · exact ⟨_, _, rfl, rfl, h⟩
  · exact h.elim
def uGe : R2
  | .int i, .int j, H, Q => Q (.bl (decide (j ≤ i))) H
  | _, _, _, _ => False
theorem o_ge : OpR X (compareOp .GtE) uGe := OpRw op_ge fun x y H Q h => by
  unfold uGe at h
  split at h
  · exact ⟨_, _, rfl, rfl, h⟩
  · exact h.elim
def uEq (K : Frag) : R2
  | .int i, .int j, H, Q => Q (.bl (decide (i = j))) H
  | .str i, .str j, H, Q => Q (.bl (decide (i = j))) H
  | .bl i, .bl j, H, Q => Q (.bl (decide (i = j))) H
  | .non, .non, H, Q => Q (.bl true) H
  | .int _, .str _, H, Q => Q (.bl false) H
  | .str _, .int _, H, Q => Q (.bl false) H
  | .int _, .non, H, Q => Q (.bl false) H
  | .non, .int _, H, Q => Q (.bl false) H
  | .str _, .non, H, Q => Q (.bl false) H
  | .non, .str _, H, Q => Q (.bl false) H
  | .ref a, .ref b, H, Q => rEqD K (.ref a) (.ref b) H Q
  | _, _, _, _ => False
theorem o_eq (hu : X.A.units + 64 < cLine) : OpR X (compareOp .Eq) (uEq X.K) := OpRw (op_eq.or (op_eqD hu)) fun x y H Q h => by
  unfold uEq at h
  split at h <;> first
    | exact .inl ⟨rfl, by simpa using h⟩
    | exact .inr h
    | exact h.elim
def uNe (K : Frag) : R2
  | .int i, .int j, H, Q => Q (.bl (!decide (i = j))) H
  | .str i, .str j, H, Q => Q (.bl (!decide (i = j))) H
  | .bl i, .bl j, H, Q => Q (.bl (!decide (i = j))) H
  | .non, .non, H, Q => Q (.bl false) H
  | .int _, .str _, H, Q => Q (.bl true) H
  | .str _, .int _, H, Q => Q (.bl true) H
  | .int _, .non, H, Q => Q (.bl true) H
  | .non, .int _, H, Q => Q (.bl true) H
  | .str _, .non, H, Q => Q (.bl true) H
  | .non, .str _, H, Q => Q (.bl true) H
  | .ref a, .ref b, H, Q => rNeD K (.ref a) (.ref b) H Q
  | _, _, _, _ => False
theorem o_ne (hu : X.A.units + 64 < cLine) : OpR X (compareOp .NotEq) (uNe X.K) := OpRw (op_ne.or (op_neD hu)) fun x y H Q h => by
  unfold uNe at h
  split at h <;> first
    | exact .inl ⟨rfl, by simpa using h⟩
    | exact .inr h
    | exact h.elim
/-- is, is not: None and bools on the right -/
theorem op_isIB : OpR X (compareOp .Is) (fun x y H Q => (∃ i b, x = V.int i ∧ y = V.bl b) ∧ Q (.bl false) H) := by
  intro pins s σ H x y v u Q I rx ry h
  obtain ⟨⟨i, b, rfl, rfl⟩, q⟩ := h
  obtain ⟨t, rfl⟩ := rx
  cases (show u = Value.bool b from ry)
  exact wpAny_is_other rfl (fun z => nomatch z) ⟨.bl false, H, I, rfl, q⟩
def uIs : R2
  | .non, .non, H, Q => Q (.bl true) H
  | .int _, .non, H, Q => Q (.bl false) H
  | .str _, .non, H, Q => Q (.bl false) H
  | .ref _, .non, H, Q => Q (.bl false) H
  | .bl _, .non, H, Q => Q (.bl false) H
  | .bl a, .bl b, H, Q => Q (.bl (decide (a = b))) H
  | .int _, .bl _, H, Q => Q (.bl false) H
  | _, _, _, _ => False
theorem o_is : OpR X (compareOp .Is) uIs := OpRw (op_isN.or (op_isBl.or op_isIB)) fun x y H Q h => by
  unfold uIs at h
  split at h <;> first
    | exact .inl ⟨rfl, by simpa using h⟩
    | exact .inr (.inl ⟨_, _, rfl, rfl, h⟩)
    | exact .inr (.inr ⟨⟨_, _, rfl, rfl⟩, h⟩)
    | exact h.elim
def uNotIs : R2
  | .non, .non, H, Q => Q (.bl false) H
  | .int _, .non, H, Q => Q (.bl true) H
  | .str _, .non, H, Q => Q (.bl true) H
  | .ref _, .non, H, Q => Q (.bl true) H
  | .bl _, .non, H, Q => Q (.bl true) H
  | .bl a, .bl b, H, Q => Q (.bl (!decide (a = b))) H
  | _, _, _, _ => False
theorem o_isnot : OpR X (compareOp .IsNot) uNotIs := OpRw (op_notN.or op_notBl) fun x y H Q h => by
  unfold uNotIs at h
  split at h <;> first
    | exact .inl ⟨rfl, by simpa using h⟩
    | exact .inr ⟨_, _, rfl, rfl, h⟩
    | exact h.elim
/-- one text within another -/
def subStr (i j : Str) : Bool := !(Builtin.Str.occurrences j i 0 j.length 1).isEmpty
theorem subStr_one (c : Nat) (a : List Nat) : subStr (S [c]) (S a) = decide (c ∈ a) := SX.in_one a c
def uIn (K : Frag) : R2
  | .str i, .str j, H, Q => Q (.bl (subStr i j)) H
  | .int i, .ref p, H, Q => rIn K false (.int i) (.ref p) H Q
  | .str i, .ref p, H, Q => rIn K false (.str i) (.ref p) H Q
  | .non, .ref p, H, Q => rIn K false .non (.ref p) H Q
  | _, _, _, _ => False
theorem o_in : OpR X (compareOp .In) (uIn X.K) := OpRw (op_in_str.or op_in_seq) fun x y H Q h => by
  unfold uIn at h
  split at h <;> first
    | exact .inl ⟨_, _, rfl, rfl, h⟩
    | exact .inr h
    | exact h.elim
def uNotIn (K : Frag) : R2
  | .str i, .str j, H, Q => Q (.bl (!subStr i j)) H
  | .int i, .ref p, H, Q => rIn K true (.int i) (.ref p) H Q
  | .str i, .ref p, H, Q => rIn K true (.str i) (.ref p) H Q
  | .non, .ref p, H, Q => rIn K true .non (.ref p) H Q
  | _, _, _, _ => False
theorem o_notin : OpR X (compareOp .NotIn) (uNotIn X.K) := OpRw (op_notin_str.or op_notIn_seq) fun x y H Q h => by
  unfold uNotIn at h
  split at h <;> first
    | exact .inl ⟨_, _, rfl, rfl, h⟩
    | exact .inr h
    | exact h.elim

/-! ### tests -/
def uTru (K : Frag) : V → Hp → (Bool → Prop) → Prop
  | .non, _, k => k false
  | .bl b, _, k => k b
  | .int i, _, k => k (i != 0)
  | .str y, _, k => y.length ≤ sizeLine ∧ k ((y.length : Int) != 0)
  | .ref p, H, k => ∃ b, TruV K (.ref p) H b ∧ k b
  | _, _, _ => False
def uTest (K : Frag) (t : TE) : TT := fun σ H Q => t σ H fun x H1 => uTru K x H1 fun b => Q b H1
theorem kt {e : Expr} {t : TE} (h : PE X e t) (he : ∀ whole, isTrue e X.env whole = (do let v ← whole; standAt e.pos; holding [v] (truthy v)) := by intro _; rfl) : PT X e (uTest X.K t) := by
  refine ⟨fun pins s σ H Q I hq => ?_⟩
  refine isTrue_plain (thn (h.run pins s σ H _ I hq) fun v s1 ⟨x, H1, I1, r1, q1⟩ => tru_ok pins s1 σ H1 x v Q I1 r1 ?_) (he _)
  cases x with
  | non => exact ⟨false, rfl, q1⟩
  | bl b => exact ⟨b, rfl, q1⟩
  | int i => exact ⟨_, rfl, q1⟩
  | str y => exact ⟨_, ⟨q1.1, rfl⟩, q1.2⟩
  | ref p => exact q1
  | _ => exact False.elim q1

/-! ### subscripts -/
def uIx (K : Frag) : R2
  | .ref p, .int i, H, Q => ∃ xs v, (SqL K H p xs ∨ SqT K H p xs) ∧ atI xs i = some v ∧ Q v H
  | .str z, .int i, H, Q => z.length ≤ sizeLine ∧ ∃ c, atI z.cps.toList i = some c ∧ Q (.str (S [c])) H
  | _, _, _, _ => False
theorem o_ix : IxR X (uIx X.K) := IxRw ix_seq fun x y H Q h => by
  unfold uIx at h
  split at h
  · obtain ⟨xs, v, hs | hs, e, q⟩ := h
    · exact .inl ⟨_, xs, _, v, rfl, rfl, hs, e, q⟩
    · exact .inr (.inl ⟨_, xs, _, v, rfl, rfl, hs, e, q⟩)
  · obtain ⟨hz, c, e, q⟩ := h
    exact .inr (.inr ⟨_, _, c, rfl, rfl, hz, e, q⟩)
  · exact h.elim
def uSl (K : Frag) : V → Option Int → Option Int → Hp → VK → Prop
  | .ref a, lo, hi, H, Q => rSlL K (.ref a) lo hi H Q ∨ rSlT K (.ref a) lo hi H Q
  | .str z, lo, hi, H, Q => z.length ≤ sizeLine ∧ Q (.str (cutS z lo hi)) H
  | _, _, _, _, _ => False
theorem o_sl : SlR X (uSl X.K) := SlRw (sl_list.or (sl_tup.or sl_str)) fun x lo hi H Q h => by
  unfold uSl at h
  split at h
  · exact h.elim .inl fun z => .inr (.inl z)
  · exact .inr (.inr ⟨_, rfl, h.1, h.2⟩)
  · exact h.elim
theorem S_len (a : List Nat) : (S a).length = a.length := SX.S_len a
theorem S_nil : (S []).length = 0 := rfl
theorem S_tl (x : Str) : S x.cps.toList = x := SX.S_tl x
theorem cps_S (a : List Nat) : (S a).cps.toList = a := rfl
theorem S_cat (a b : List Nat) : S a ++ S b = S (a ++ b) := SX.S_cat a b
theorem S_inj {a b : List Nat} : S a = S b ↔ a = b := ⟨SX.S_inj, fun h => congrArg S h⟩
theorem cutS_S (a : List Nat) (i j : Nat) : cutS (S a) (some (i : Int)) (some (j : Int)) = S ((a.drop i).take (j - i)) := by
  unfold cutS
  rw [HT.sIx_nat, HT.sIx_nat, cps_S]
  have e : (S a).length = a.length := S_len a
  rw [e]
  refine congrArg S ?_
  rw [show a.drop (min i a.length) = a.drop i by
    by_cases h : i ≤ a.length
    · rw [Nat.min_eq_left h]
    · rw [Nat.min_eq_right (by omega), List.drop_length, List.drop_eq_nil_of_le (by omega)]]
  refine List.take_eq_take_iff.mpr ?_
  rw [List.length_drop]
  omega

/-! ### calls of built-ins -/
def uLen (K : Frag) : List V → Hp → VK → Prop
  | [.str y], H, Q => y.length ≤ sizeLine ∧ Q (.int y.length) H
  | [.ref p], H, Q => ∃ xs, (SqL K H p xs ∨ SqT K H p xs) ∧ Q (.int xs.length) H
  | _, _, _ => False
theorem c_len : CallR X (.builtin "len") (uLen X.K) := CallRw call_len fun xs H Q h => by
  unfold uLen at h
  split at h
  · exact ⟨_, _, rfl, ⟨h.1, rfl⟩, h.2⟩
  · obtain ⟨xs, hs | hs, q⟩ := h
    · exact ⟨_, _, rfl, .inl ⟨xs, hs, rfl⟩, q⟩
    · exact ⟨_, _, rfl, .inr ⟨xs, hs, rfl⟩, q⟩
  · exact h.elim
def uAbs : List V → Hp → VK → Prop
  | [.int i], H, Q => Q (.int (if i < 0 then -i else i)) H
  | _, _, _ => False
theorem c_abs : CallR X (.builtin "abs") uAbs := CallRw call_abs fun xs H Q h => by
  unfold uAbs at h
  split at h
  · exact ⟨_, rfl, h⟩
  · exact h.elim
def uInt : List V → Hp → VK → Prop
  | [.int i], H, Q => Q (.int i) H
  | [.bl k], H, Q => Q (.int (if k then 1 else 0)) H
  | _, _, _ => False
theorem c_int : CallR X (.type "int") uInt := CallRw call_int1 fun xs H Q h => by
  unfold uInt at h
  split at h
  · exact .inl ⟨_, rfl, h⟩
  · exact .inr ⟨_, rfl, h⟩
  · exact h.elim
def uMin2 : List V → Hp → VK → Prop
  | [.int i, .int j], H, Q => Q (.int (if j < i then j else i)) H
  | _, _, _ => False
theorem c_min2 (hc : X.calm = true) : CallR X (.builtin "min") uMin2 := CallRw (call_min2 hc) fun xs H Q h => by
  unfold uMin2 at h
  split at h
  · exact ⟨_, _, rfl, h⟩
  · exact h.elim
/-- isinstance against a built-in type -/
def isK (a b : String) : Bool := match kitB a b with
  | some r => r
  | none => false
def isOk (a b : String) : Bool := (kitB a b).isSome
theorem isK_of {a b : String} (h : isOk a b = true) {K : Frag} : PySem.W.kitOne K (.type a) (.type b) = some (isK a b) := by
  refine kit_ty ?_
  unfold isOk at h
  unfold isK
  cases e : kitB a b with
  | none => rw [e] at h; cases h
  | some r => rfl
def uIsi (K : Frag) : List V → Hp → VK → Prop
  | [.non, .ty n], H, Q => isOk "NoneType" n = true ∧ Q (.bl (isK "NoneType" n)) H
  | [.bl _, .ty n], H, Q => isOk "bool" n = true ∧ Q (.bl (isK "bool" n)) H
  | [.int _, .ty n], H, Q => isOk "int" n = true ∧ Q (.bl (isK "int" n)) H
  | [.str _, .ty n], H, Q => isOk "str" n = true ∧ Q (.bl (isK "str" n)) H
  | [.ref p, .ty n], H, Q => ∃ T, TyX K H (.ref p) (.type T) ∧ isOk T n = true ∧ Q (.bl (isK T n)) H
  | _, _, _ => False
theorem c_isi : CallR X (.builtin "isinstance") (uIsi X.K) := CallRw call_isi fun xs H Q h => by
  unfold uIsi at h
  split at h
  · exact ⟨_, _, _, _, _, rfl, .ty _, .base .non, isK_of h.1, h.2⟩
  · exact ⟨_, _, _, _, _, rfl, .ty _, .base (.bl _), isK_of h.1, h.2⟩
  · exact ⟨_, _, _, _, _, rfl, .ty _, .base (.int _), isK_of h.1, h.2⟩
  · exact ⟨_, _, _, _, _, rfl, .ty _, .base (.str _), isK_of h.1, h.2⟩
  · obtain ⟨T, ty, o, q⟩ := h
    exact ⟨_, _, _, _, _, rfl, .ty _, ty, isK_of o, q⟩
  · exact h.elim
theorem isK_int_int : isK "int" "int" = true := by decide +kernel
theorem isK_int_bool : isK "int" "bool" = false := by decide +kernel
theorem isK_int_str : isK "int" "str" = false := by decide +kernel
theorem isK_int_list : isK "int" "list" = false := by decide +kernel
theorem isK_int_tuple : isK "int" "tuple" = false := by decide +kernel
theorem isK_bool_int : isK "bool" "int" = true := by decide +kernel
theorem isK_bool_bool : isK "bool" "bool" = true := by decide +kernel
theorem isK_bool_str : isK "bool" "str" = false := by decide +kernel
theorem isK_str_str : isK "str" "str" = true := by decide +kernel
theorem isK_str_int : isK "str" "int" = false := by decide +kernel
theorem isK_str_bool : isK "str" "bool" = false := by decide +kernel
theorem isK_str_tuple : isK "str" "tuple" = false := by decide +kernel
theorem isK_str_list : isK "str" "list" = false := by decide +kernel
theorem isK_list_list : isK "list" "list" = true := by decide +kernel
theorem isK_list_tuple : isK "list" "tuple" = false := by decide +kernel
theorem isK_tuple_tuple : isK "tuple" "tuple" = true := by decide +kernel
theorem isK_tuple_list : isK "tuple" "list" = false := by decide +kernel
theorem isK_dict_dict : isK "dict" "dict" = true := by decide +kernel
theorem isK_none_int : isK "NoneType" "int" = false := by decide +kernel
theorem isK_none_bool : isK "NoneType" "bool" = false := by decide +kernel
theorem isOk_int_int : isOk "int" "int" = true := by decide +kernel
theorem isOk_int_bool : isOk "int" "bool" = true := by decide +kernel
theorem isOk_int_str : isOk "int" "str" = true := by decide +kernel
theorem isOk_int_list : isOk "int" "list" = true := by decide +kernel
theorem isOk_int_tuple : isOk "int" "tuple" = true := by decide +kernel
theorem isOk_bool_int : isOk "bool" "int" = true := by decide +kernel
theorem isOk_bool_bool : isOk "bool" "bool" = true := by decide +kernel
theorem isOk_bool_str : isOk "bool" "str" = true := by decide +kernel
theorem isOk_str_str : isOk "str" "str" = true := by decide +kernel
theorem isOk_str_int : isOk "str" "int" = true := by decide +kernel
theorem isOk_str_bool : isOk "str" "bool" = true := by decide +kernel
theorem isOk_str_tuple : isOk "str" "tuple" = true := by decide +kernel
theorem isOk_str_list : isOk "str" "list" = true := by decide +kernel
theorem isOk_list_list : isOk "list" "list" = true := by decide +kernel
theorem isOk_list_tuple : isOk "list" "tuple" = true := by decide +kernel
theorem isOk_tuple_tuple : isOk "tuple" "tuple" = true := by decide +kernel
theorem isOk_tuple_list : isOk "tuple" "list" = true := by decide +kernel
theorem isOk_dict_dict : isOk "dict" "dict" = true := by decide +kernel
theorem isOk_none_int : isOk "NoneType" "int" = true := by decide +kernel
theorem isOk_none_bool : isOk "NoneType" "bool" = true := by decide +kernel
end

/-! ### loops -/
/-- the loop itself, behind the making of its iterator: not opened by simp -/
def forK (J : It) (g : TG) (tb : TS) (D : Ends) (σ : L2.St) (H : Hp) : Prop :=
  ∃ W : Nat → Nat → L2.St → Hp → Prop, (∃ m, W 0 m σ H) ∧ ∀ i m σ H, W i m σ H →
    (J.stop i H ∧ D.nx σ H) ∨ (J.go i H ∧ ∃ N : L2.St → Hp → Prop, (∀ σ' H', N σ' H' → ∃ m', m' < m ∧ W (i + 1) m' σ' H') ∧ ∀ x H', J.yld i H x H' → g x σ H' fun σ2 H2 => tb { D with nx := N, ct := N, bk := D.nx } σ2 H2)
def uFor (wi : TI) (g : TG) (tb : TS) : TS := fun D σ H => wi σ H fun J H1 => forK J g tb D σ H1
theorem for_rng {lo : Int} {n : Nat} {g : TG} {tb : TS} {D : Ends} {σ : L2.St} {H : Hp} (Pv : Nat → L2.St → Hp → Prop) (h0 : Pv 0 σ H)
    (hs : ∀ i σ H, i < n → Pv i σ H → g (.int (lo + i)) σ H fun σ2 H2 => tb { D with nx := Pv (i + 1), ct := Pv (i + 1), bk := D.nx } σ2 H2) (hd : ∀ σ H, Pv n σ H → D.nx σ H) : forK (Itr lo n) g tb D σ H := for_range Pv h0 hs hd
theorem for_lst {K : Frag} {a : Addr} {xs : List V} {g : TG} {tb : TS} {D : Ends} {σ : L2.St} {H : Hp} (Pv : Nat → L2.St → Hp → Prop) (h0 : Pv 0 σ H) (hl : ∀ i σ H, i ≤ xs.length → Pv i σ H → SqL K H a xs)
    (hs : ∀ i x σ H, xs[i]? = some x → Pv i σ H → g x σ H fun σ2 H2 => tb { D with nx := Pv (i + 1), ct := Pv (i + 1), bk := D.nx } σ2 H2) (hd : ∀ σ H, Pv xs.length σ H → D.nx σ H) : forK (Itl K a) g tb D σ H := for_list Pv h0 hl hs hd
/-- while: what holds, by a measure -/
def uWhile (c : TT) (tb : TS) : TS := fun D σ H => ∃ W : Nat → L2.St → Hp → Prop, (∃ m, W m σ H) ∧ ∀ m σ H, W m σ H →
  c σ H fun b H1 => if b = true then tb { D with nx := fun σ' H' => ∃ m', m' < m ∧ W m' σ' H', ct := fun σ' H' => ∃ m', m' < m ∧ W m' σ' H', bk := D.nx } σ H1 else D.nx σ H1
section
variable {X : Cx}
theorem k_for {tg iter : Expr} {body : List Stmt} {wi : TI} {g : TG} {tb : TS} {pos : Pos} (hp : PassesOwn (model X.prog X.w) X.A X.env X.xe) (hc : X.calm = true) (hi : PI X tg iter wi) (hg : PG X tg g) (hb : PSs X body tb)
    (hs : ∀ x, foldedSetIterable iter X.env x = pure x := by intro _; rfl) : PS X (.For tg iter body [] pos) (uFor wi g tb) := ⟨(ps_for hp hc hi hg hb hs).run⟩
theorem k_while {c : Expr} {body : List Stmt} {tc : TT} {tb : TS} {pos : Pos} (hp : PassesOwn (model X.prog X.w) X.A X.env X.xe) (hc : PT X c tc) (hb : PSs X body tb) : PS X (.While c body [] pos) (uWhile tc tb) := by
  refine ⟨fun pins s σ H D I h => ?_⟩
  obtain ⟨W, ⟨m0, w0⟩, turn⟩ := h
  refine wpAny_While (codeAny_whileLoop (fun n s' => ∃ σ' H', Inv X pins σ' H' s' ∧ W n σ' H') ?_ m0 ⟨σ, H, I, w0⟩)
  rintro n s1 ⟨σ1, H1, I1, w1⟩
  refine wpAny_passesOwn hp (thn (hc.run pins s1 σ1 H1 _ I1 (turn n σ1 H1 w1)) fun b s2 ⟨H2, I2, q2⟩ => ?_)
  cases b with
  | true =>
    rw [if_pos rfl] at q2
    rw [if_pos rfl]
    refine wpAny_passesOwn hp (thn (hb.run pins s2 σ1 H2 _ I2 q2) fun f s3 q3 => ?_)
    cases f with
    | next =>
      obtain ⟨σ3, H3, I3, m', hm, w3⟩ := q3
      exact ⟨m', hm, σ3, H3, I3, w3⟩
    | cont =>
      obtain ⟨σ3, H3, I3, m', hm, w3⟩ := q3
      exact ⟨m', hm, σ3, H3, I3, w3⟩
    | brk => exact q3
    | ret v => exact q3
  | false =>
    rw [if_neg Bool.false_ne_true] at q2
    rw [if_neg Bool.false_ne_true]
    exact wpAny_execs_nil ⟨σ1, H2, I2, q2⟩

/-! ### defs of the text, called by their names -/
/-- the def x of the module keeps the promise sp, at level k; ps its parameters, dvs the defaults that a call leaves open -/
structure Cal (P : Program) (w : World) (K : Frag) (mg : Str → Option Value) (base : Heap) (k : Nat) (x : Str) (sp : Sp) : Prop where
  ex : ∃ (f : Addr) (fd : FuncData) (ps : List Str), mg x = some (.ref f) ∧ PySem.W.keepIn K (.ref f) = true ∧ Binds K fd ps [] ∧ FnOk P w K mg base (L2N.CX P w) k f fd ps sp
def uCall (sp : Sp) (t : TA) : TE := fun σ H Q => t σ H fun vs H1 => sp vs H1 Q E0
theorem passAt0 {σ : L2.St} : PassesAt (L2N.CX X.prog X.w) X σ E0 := fun _ _ _ _ _ _ h => by
  obtain ⟨_, _, _, _, _, _, _, _, _, _, _, _, z⟩ := h
  exact z.elim
section
variable {k : Nat} {x : Str} {sp : Sp} {p pos : Pos} {e : Expr} {es : List Expr} {t : TA}
/-- f(e, ..), f a def that raises nothing here -/
theorem kc (c : Cal X.prog X.w X.K X.mg X.base k x sp) (hr : Room k X.A) (ha : PA X (e :: es) t) (hg : Gl X x := by rfl) (hdb : (x == ("__debug__" : Str)) = false := by decide)
    (he : starEach (e :: es) X.env = (false, eval e X.env) :: starEach es X.env := by rfl) (hpl : (backTo pos (starEach es X.env)).any (·.1) = false := by rfl) : PE X (.Call (.Name x p) (e :: es) [] pos) (uCall sp t) := by
  obtain ⟨f, fd, ps, hm, hk, hb, F⟩ := c.ex
  exact pe_callS F hr hg hm hk hb (fun _ => passAt0) ha hdb he hpl
theorem kc0 (c : Cal X.prog X.w X.K X.mg X.base k x sp) (hr : Room k X.A) (hg : Gl X x := by rfl) (hdb : (x == ("__debug__" : Str)) = false := by decide) : PE X (.Call (.Name x p) [] [] pos) (uCall sp tNil) := by
  obtain ⟨f, fd, ps, hm, hk, hb, F⟩ := c.ex
  refine ⟨fun pins s σ H Q I h => ?_⟩
  refine wpAny_Call_Name_kw (ld_glob I hg hm ?_ hdb)
  exact PySem.W.callWith_K0 I.kIn hk (run_fnS (E := fun _ => E0) F hr hb passAt0 I .nil h)
/-- f(e, ..), f a def that may raise: W is what is wanted of it -/
theorem kcX {W : WX} (tk : L2N.Takes X W) (c : Cal X.prog X.w X.K X.mg X.base k x sp) (hr : Room k X.A) (ha : PA X (e :: es) t) (hg : Gl X x := by rfl) (hdb : (x == ("__debug__" : Str)) = false := by decide)
    (he : starEach (e :: es) X.env = (false, eval e X.env) :: starEach es X.env := by rfl) (hpl : (backTo pos (starEach es X.env)).any (·.1) = false := by rfl) : PE X (.Call (.Name x p) (e :: es) [] pos) (tCallS sp (WE W) t) := by
  obtain ⟨f, fd, ps, hm, hk, hb, F⟩ := c.ex
  exact pe_callS F hr hg hm hk hb (fun σ => L2N.passAt tk σ) ha hdb he hpl
end
end
/-- a def of the text, with what binds its arguments -/
structure DefAt (K : Frag) (mg : Str → Option Value) (x qual : Str) (st : Stmt) (ps : List Str) : Prop where
  ex : ∃ (f : Addr) (fd : FuncData), mg x = some (.ref f) ∧ Fun K x qual st f fd ∧ Binds K fd ps []
section
variable {P : Program} {w : World} {K : Frag} {mg : Str → Option Value} {base : Heap}
theorem DefAt.ok {x qual : Str} {st : Stmt} {N ps : List Str} {k : Nat} {sp : Sp} (D : DefAt K mg x qual st ps) (S : FnScope N ps (defScope st)) (len : ∀ vs H Q E, sp vs H Q E → vs.length = ps.length)
    (hbody : ∀ (f : Addr) (cdv : Value) (A : Around) (outer : List Env) (s : Shared) (H : Hp) (vs : List V) (Q : VK) (E : XK), Room k (A.deeper (envOfC qual (defScope st) s.heap.objs.size f cdv)) → sp vs H Q E →
      ∃ t, PSs (cxOf (L2N.CX P w) P w K mg base N qual (defScope st) f cdv A outer s H E) (defBody st) t ∧ t { nx := fun _ H' => Q .non H', rt := Q } (start N vs) H) : Cal P w K mg base (k + 1) x sp := by
  obtain ⟨f, fd, hm, F, hb⟩ := D.ex
  refine ⟨f, fd, ps, hm, F.kp, hb, ?_⟩
  obtain ⟨oc, od, kV, doc, pm, an, cdv, ct, osl, rfl, lk, hcd⟩ := F.ex
  exact fn_of lk hcd S len fun A outer s H vs Q E hr hsp => hbody f cdv A outer s H vs Q E hr hsp
theorem Cal.mono {j k : Nat} {x : Str} {sp : Sp} (c : Cal P w K mg base j x sp) (h : j ≤ k) : Cal P w K mg base k x sp := by
  obtain ⟨f, fd, ps, hm, hk, hb, F⟩ := c.ex
  exact ⟨f, fd, ps, hm, hk, hb, F.mono h⟩
end
end KW
namespace KW
open PySem PySem.Spec PyProof.Rows L2
/-- the module's name x holds the constant v -/
def GV (mg : Str → Option Value) (x : Str) (v : V) : Prop := ∃ u, mg x = some u ∧ RelV v u
theorem k_g {X : Cx} {x : Str} {v : V} {pos : Pos} (h : GV X.mg x v) (hg : Gl X x := by rfl) (hd : (x == ("__debug__" : Str)) = false := by decide) : PE X (.Name x pos) (tC v) := by
  obtain ⟨u, hm, r⟩ := h
  exact pe_glob hg hm r hd
/-- an object that stands by itself may be changed while all else stands -/
def But (a : Addr) (H H' : Hp) : Prop := ∀ b o, b ≠ a → H b = some o → H' b = some o
theorem But.refl {a : Addr} (H : Hp) : But a H H := fun _ _ _ h => h
theorem But.trans {a : Addr} {H H1 H2 : Hp} (x : But a H H1) (y : But a H1 H2) : But a H H2 := fun b o n h => y b o n (x b o n h)
theorem But.upd {a : Addr} {H : Hp} {o : HO} : But a H (upd H a o) := fun b _ n h => by rw [upd_ne n]; exact h
theorem But.seq {a b : Addr} {K : Frag} {H H' : Hp} {xs : List V} (e : But a H H') (n : b ≠ a) (h : SqL K H b xs) : SqL K H' b xs := by
  rcases h with (h | ⟨o, h⟩) | h
  · exact .inl (.inl (e _ _ n h))
  · exact .inl (.inr ⟨o, e _ _ n h⟩)
  · exact .inr h
end KW
namespace KW
open PySem PySem.Spec PyProof.Rows L2
/-! ### reads and stores of lists and tuples: by lemmas, not by simp -/
section
variable {K : Frag} {H : Hp} {p : Addr} {xs : List V} {i : Int} {v : V} {Q : VK}
theorem ix_l (h : H p = some (.lst xs)) (e : atI xs i = some v) (q : Q v H) : uIx K (.ref p) (.int i) H Q := ⟨xs, v, .inl (.of h), e, q⟩
theorem ix_t (h : H p = some (.tup xs)) (e : atI xs i = some v) (q : Q v H) : uIx K (.ref p) (.int i) H Q := ⟨xs, v, .inr (.of h), e, q⟩
theorem ix_sl (h : SqL K H p xs) (e : atI xs i = some v) (q : Q v H) : uIx K (.ref p) (.int i) H Q := ⟨xs, v, .inl h, e, q⟩
theorem ix_st (h : SqT K H p xs) (e : atI xs i = some v) (q : Q v H) : uIx K (.ref p) (.int i) H Q := ⟨xs, v, .inr h, e, q⟩
theorem len_l (h : H p = some (.lst xs)) (q : Q (.int xs.length) H) : uLen K [.ref p] H Q := ⟨xs, .inl (.of h), q⟩
theorem len_t (h : H p = some (.tup xs)) (q : Q (.int xs.length) H) : uLen K [.ref p] H Q := ⟨xs, .inr (.of h), q⟩
theorem len_sl (h : SqL K H p xs) (q : Q (.int xs.length) H) : uLen K [.ref p] H Q := ⟨xs, .inl h, q⟩
theorem len_st (h : SqT K H p xs) (q : Q (.int xs.length) H) : uLen K [.ref p] H Q := ⟨xs, .inr h, q⟩
end
/-- o[i] = v -/
def uSet : TSet
  | .ref p, .int k, v, H, Q => ∃ xs j, H p = some (.lst xs) ∧ ixN xs.length k = some j ∧ Q (upd H p (.lst (xs.set j v)))
  | _, _, _, _, _ => False
theorem s_set {X : Cx} : PSet X uSet := fun pins s σ H o i v ov iv u Q I ro ri rv h => by
  unfold uSet at h
  split at h
  · obtain ⟨xs, j, h1, h2, q⟩ := h
    exact set_list pins s σ H _ _ _ ov iv u Q I ro ri rv ⟨_, xs, _, j, rfl, rfl, h1, h2, q⟩
  · exact h.elim
theorem set_l {H : Hp} {p : Addr} {xs : List V} {k : Int} {j : Nat} {v : V} {Q : Hp → Prop} (h : H p = some (.lst xs)) (e : ixN xs.length k = some j) (q : Q (upd H p (.lst (xs.set j v)))) : uSet (.ref p) (.int k) v H Q := ⟨xs, j, h, e, q⟩
end KW
namespace KW
open PySem PySem.Spec PyProof.Rows L2
theorem le_line {n : Nat} (h : n ≤ 16000000) : n ≤ sizeLine := by rw [sizeLine_eq]; omega
theorem lt_line {n : Nat} (h : n ≤ 16000000) : n < sizeLine := by rw [sizeLine_eq]; omega
theorem mul_l {i j : Int} (h : -18446744073709551616 < i ∧ i < 18446744073709551616) : CMul i j ∨ CMulW i j := .inl (.inl ⟨by omega, by omega⟩)
theorem mul_r {i j : Int} (h : -18446744073709551616 < j ∧ j < 18446744073709551616) : CMul i j ∨ CMulW i j := .inl (.inr ⟨by omega, by omega⟩)
theorem div_s {i j : Int} (h : 0 < j ∧ j < 1073741824) : CDiv i j ∨ CDivW i j := .inl h
theorem pow_s {i j : Int} (h : 0 ≤ j ∧ j ≤ 1000000 ∧ -18446744073709551616 < i ∧ i < 18446744073709551616) : CPow i j := ⟨h.1, h.2.1, by omega⟩
end KW
namespace KW
open PySem PySem.Spec PyProof.Rows L2
theorem But.new {st p : Addr} {H : Hp} {o : HO} (h : H p = none) : But st H (L2.upd H p o) := fun b u _ e => by rw [upd_ne (ne_of_none e h)]; exact e
theorem SqL.new {K : Frag} {H : Hp} {sc p : Addr} {o : HO} {xs : List V} (h : H p = none) (hS : SqL K H sc xs) : SqL K (upd H p o) sc xs := by
  rcases hS with (q | ⟨o, q⟩) | q
  · exact .inl (.inl (by rw [upd_ne (ne_of_none q h)]; exact q))
  · exact .inl (.inr ⟨o, by rw [upd_ne (ne_of_none q h)]; exact q⟩)
  · exact .inr q
theorem atI_int {α : Type} {xs : List α} {r : Int} (h0 : 0 ≤ r) (h1 : r < xs.length) : ∃ v, xs[r.toNat]? = some v ∧ atI xs r = some v := by
  obtain ⟨j, rfl⟩ := Int.eq_ofNat_of_zero_le h0
  have h : j < xs.length := by omega
  exact ⟨xs[j], List.getElem?_eq_getElem h, atI_nat (List.getElem?_eq_getElem h)⟩
end KW
namespace KW
open PySem PySem.Spec PyProof.Rows L2
theorem tup_l {K : Frag} {n : Nat} {t : TGs} {a : Addr} {xs : List V} {σ : L2.St} {H : Hp} {Q : L2.St → Hp → Prop} (h : H a = some (.tup xs)) (hn : xs.length = n) (q : t xs σ H Q) : gTup K n t (.ref a) σ H Q := ⟨a, xs, rfl, .of h, hn, q⟩
theorem tup_s {K : Frag} {n : Nat} {t : TGs} {a : Addr} {xs : List V} {σ : L2.St} {H : Hp} {Q : L2.St → Hp → Prop} (h : SqT K H a xs) (hn : xs.length = n) (q : t xs σ H Q) : gTup K n t (.ref a) σ H Q := ⟨a, xs, rfl, h, hn, q⟩
end KW
namespace KW
open PySem PySem.Spec PyProof.Rows L2
section
variable {P : Program} {w : World} {K : Frag} {mg : Str → Option Value} {base : Heap}
theorem DefAt.fn {x qual : Str} {st : Stmt} {N ps : List Str} {k : Nat} {sp : Sp} (S : FnScope N ps (defScope st)) (len : ∀ vs H Q E, sp vs H Q E → vs.length = ps.length)
    (hbody : ∀ (f : Addr) (cdv : Value) (A : Around) (outer : List Env) (s : Shared) (H : Hp) (vs : List V) (Q : VK) (E : XK), Room k (A.deeper (envOfC qual (defScope st) s.heap.objs.size f cdv)) → sp vs H Q E →
      ∃ t, PSs (cxOf (L2N.CX P w) P w K mg base N qual (defScope st) f cdv A outer s H E) (defBody st) t ∧ t { nx := fun _ H' => Q .non H', rt := Q } (start N vs) H) :
    ∀ f fd, Fun K x qual st f fd → FnOk P w K mg base (L2N.CX P w) (k + 1) f fd ps sp := by
  intro f fd F
  obtain ⟨oc, od, kV, doc, pm, an, cdv, ct, osl, rfl, lk, hcd⟩ := F.ex
  exact fn_of lk hcd S len fun A outer s H vs Q E hr hsp => hbody f cdv A outer s H vs Q E hr hsp
theorem defAt_mk {x qual : Str} {st : Stmt} {ps : List Str} {h : Heap} {f : Addr} {oc : Value} {od an : Option Addr} {osl : Array (Option Value)} {kV doc pm cdv ct : Value}
    (X : K.In h) (G : h.Ns mainGlobals mg) (a : PySem.W.nsIn K mainGlobals x = some (some (.ref f)))
    (l : K.lookup f = some ⟨oc, od, .func (PySem.W.fnOf x qual (defArgs st) (defBody st) (defScope st) .none kV doc pm an cdv ct), osl⟩) (c : PySem.W.codeIn K cdv qual = true) (k : PySem.W.keepIn K (.ref f) = true)
    (hb : ∀ (kV doc pm : Value) (an : Option Addr) (cdv ct : Value) (us : List Value), us.length = ps.length → bindArgs (PySem.W.fnOf x qual (defArgs st) (defBody st) (defScope st) .none kV doc pm an cdv ct) ⟨us, []⟩ = pure (ps.zip us)) : DefAt K mg x qual st ps := by
  have F := fun_mk (st := st) l c k
  exact ⟨f, _, PySem.W.mg_of X G a, F, F.binds hb⟩
theorem gv_mk {x : Str} {v : V} {u : Value} {h : Heap} (X : K.In h) (G : h.Ns mainGlobals mg) (a : PySem.W.nsIn K mainGlobals x = some (some u)) (r : RelV v u) : GV mg x v := ⟨u, PySem.W.mg_of X G a, r⟩
/-- the law's promise: True for every list of at most 63 ints -/
def sp_law63 (K : Frag) : Sp := fun vs H Q _ => ∃ (sc : Addr) (ns : List Int), vs = [.ref sc] ∧ SqL K H sc (ns.map .int) ∧ ns.length ≤ 63 ∧ ∀ H', Q (.bl true) H'
end
theorem CX_none {P : Program} {w : World} {l : List Env} {H : Hp} {s : Shared} {e : Value} {s' : Shared} (h : L2N.CX P w l H s (fun _ _ _ => False) e s') : False := by
  obtain ⟨_, _, _, _, _, _, _, _, _, _, _, _, z⟩ := h
  exact z.elim
theorem walk63 {l : PySem.W.OpenLaw} {k : Nat} {st : Stmt} {q : Program} {loose : List Str} {XP : (Str → Option Value) → Heap → Prop} {YP : World → Heap → Prop} {d : DefRec} {K : Params → PySem.W.Frag} (hn : l.most = some 63) (hdf : d.params.defaults = []) (hd : d.name = "law") (hr : Room k callerA)
    (hY : ∀ (w : World) (h : Heap), YP w h → (K w.params).In h)
    (hb : ∀ (kV doc pm : Value) (an : Option Addr) (cdv ct : Value) (us : List Value), us.length = ["script"].length → bindArgs (PySem.W.fnOf "law" "law" (defArgs st) (defBody st) (defScope st) .none kV doc pm an cdv ct) ⟨us, []⟩ = pure ((["script"] : List Str).zip us))
    (F : ∀ (w : World) (mg : Str → Option Value) (h : Heap), (K w.params).In h → h.Ns mainGlobals mg →
      DefAt (K w.params) mg "law" "law" st ["script"] ∧ ∀ base f fd, Fun (K w.params) "law" "law" st f fd → FnOk l.prog w (K w.params) mg base (L2N.CX l.prog w) k f fd ["script"] (sp_law63 (K w.params))) :
    PySem.W.WalkO q loose XP YP l.row.toRowW d [] (fun f vs => PySem.call f vs) := by
  refine L2.walk_of (n := 63) (k := k) (x := "script") (CX := fun w => L2N.CX l.prog w) (sp := fun w => sp_law63 (K w.params)) hn (by decide) hdf hr hY ?_ (fun _ _ a ns hl _ hS => ⟨a, ns, rfl, hS, hl, fun _ => rfl⟩) fun _ _ _ _ _ h => CX_none h
  intro w mg fa h KX G hmg
  obtain ⟨D, ok⟩ := F w mg h KX G
  obtain ⟨f, fd, hm, Fu, _⟩ := D.ex
  rw [hd, hm] at hmg
  cases hmg
  have Fu' := Fu
  obtain ⟨oc, od, kV, doc, pm, an, cdv, ct, osl, rfl, lk, hcd⟩ := Fu.ex
  exact ⟨_, fun s u => .of_eq (hb kV doc pm an cdv ct [u] rfl), fun base _ _ => ok base _ _ Fu'⟩
end KW
/-! ### case lemmas -/
namespace KW
open PySem PySem.Spec PyProof.Rows L2
theorem uAdd_e1 {K : Frag} {i : Int} {j : Int} {H : Hp} {Q : VK} : uAdd K (.int i) (.int j) H Q = (Q (.int (i + j)) H) := rfl
theorem uAdd_e2 {K : Frag} {i : Str} {j : Str} {H : Hp} {Q : VK} : uAdd K (.str i) (.str j) H Q = (i.length + j.length ≤ sizeLine ∧ Q (.str (i ++ j)) H) := rfl
theorem uAdd_e3 {K : Frag} {a : Addr} {b : Addr} {H : Hp} {Q : VK} : uAdd K (.ref a) (.ref b) H Q = (rCat (.ref a) (.ref b) H Q ∨ rCatT K (.ref a) (.ref b) H Q) := rfl
theorem uSub_e1 {i : Int} {j : Int} {H : Hp} {Q : VK} : uSub (.int i) (.int j) H Q = (Q (.int (i - j)) H) := rfl
theorem uMul_e1 {i : Int} {j : Int} {H : Hp} {Q : VK} : uMul (.int i) (.int j) H Q = ((CMul i j ∨ CMulW i j) ∧ Q (.int (i * j)) H) := rfl
theorem uMul_e2 {l : Addr} {k : Int} {H : Hp} {Q : VK} : uMul (.ref l) (.int k) H Q = (rRep (.ref l) (.int k) H Q) := rfl
theorem uMod_e1 {i : Int} {j : Int} {H : Hp} {Q : VK} : uMod (.int i) (.int j) H Q = (0 < j ∧ Q (.int (i % j)) H) := rfl
theorem uDiv_e1 {i : Int} {j : Int} {H : Hp} {Q : VK} : uDiv (.int i) (.int j) H Q = ((CDiv i j ∨ CDivW i j) ∧ Q (.int (i / j)) H) := rfl
theorem uPow_e1 {i : Int} {j : Int} {H : Hp} {Q : VK} : uPow (.int i) (.int j) H Q = (CPow i j ∧ Q (.int (i ^ j.toNat)) H) := rfl
theorem uShl_e1 {i : Int} {j : Int} {H : Hp} {Q : VK} : uShl (.int i) (.int j) H Q = (CPow i j ∧ Q (.int (i * 2 ^ j.toNat)) H) := rfl
theorem uNeg_e1 {i : Int} {H : Hp} {Q : VK} : uNeg (.int i) H Q = (Q (.int (-i)) H) := rfl
theorem uIAdd_e1 {i : Int} {j : Int} {H : Hp} {Q : VK} : uIAdd (.int i) (.int j) H Q = (Q (.int (i + j)) H) := rfl
theorem uIAdd_e2 {i : Str} {j : Str} {H : Hp} {Q : VK} : uIAdd (.str i) (.str j) H Q = (i.length + j.length ≤ sizeLine ∧ Q (.str (i ++ j)) H) := rfl
theorem uIAdd_e3 {a : Addr} {b : Addr} {H : Hp} {Q : VK} : uIAdd (.ref a) (.ref b) H Q = (rExt2 (.ref a) (.ref b) H Q) := rfl
theorem uISub_e1 {i : Int} {j : Int} {H : Hp} {Q : VK} : uISub (.int i) (.int j) H Q = (Q (.int (i - j)) H) := rfl
theorem uLt_e1 {i : Int} {j : Int} {H : Hp} {Q : VK} : uLt (.int i) (.int j) H Q = (Q (.bl (decide (i < j))) H) := rfl
theorem uLt_e2 {i : Str} {j : Str} {H : Hp} {Q : VK} : uLt (.str i) (.str j) H Q = (Q (.bl (decide (i.cps.toList < j.cps.toList))) H) := rfl
theorem uLe_e1 {i : Int} {j : Int} {H : Hp} {Q : VK} : uLe (.int i) (.int j) H Q = (Q (.bl (decide (i ≤ j))) H) := rfl
theorem uGt_e1 {i : Int} {j : Int} {H : Hp} {Q : VK} : uGt (.int i) (.int j) H Q = (Q (.bl (decide (j < i))) H) := rfl
theorem uGe_e1 {i : Int} {j : Int} {H : Hp} {Q : VK} : uGe (.int i) (.int j) H Q = (Q (.bl (decide (j ≤ i))) H) := rfl
theorem uEq_e1 {K : Frag} {i : Int} {j : Int} {H : Hp} {Q : VK} : uEq K (.int i) (.int j) H Q = (Q (.bl (decide (i = j))) H) := rfl
theorem uEq_e2 {K : Frag} {i : Str} {j : Str} {H : Hp} {Q : VK} : uEq K (.str i) (.str j) H Q = (Q (.bl (decide (i = j))) H) := rfl
theorem uEq_e3 {K : Frag} {i : Bool} {j : Bool} {H : Hp} {Q : VK} : uEq K (.bl i) (.bl j) H Q = (Q (.bl (decide (i = j))) H) := rfl
theorem uEq_e4 {K : Frag} {H : Hp} {Q : VK} : uEq K (.non) (.non) H Q = (Q (.bl true) H) := rfl
theorem uEq_e5 {K : Frag} {w1 : Int} {w2 : Str} {H : Hp} {Q : VK} : uEq K (.int w1) (.str w2) H Q = (Q (.bl false) H) := rfl
theorem uEq_e6 {K : Frag} {w1 : Str} {w2 : Int} {H : Hp} {Q : VK} : uEq K (.str w1) (.int w2) H Q = (Q (.bl false) H) := rfl
theorem uEq_e7 {K : Frag} {w1 : Int} {H : Hp} {Q : VK} : uEq K (.int w1) (.non) H Q = (Q (.bl false) H) := rfl
theorem uEq_e8 {K : Frag} {w1 : Int} {H : Hp} {Q : VK} : uEq K (.non) (.int w1) H Q = (Q (.bl false) H) := rfl
theorem uEq_e9 {K : Frag} {w1 : Str} {H : Hp} {Q : VK} : uEq K (.str w1) (.non) H Q = (Q (.bl false) H) := rfl
theorem uEq_e10 {K : Frag} {w1 : Str} {H : Hp} {Q : VK} : uEq K (.non) (.str w1) H Q = (Q (.bl false) H) := rfl
theorem uEq_e11 {K : Frag} {a : Addr} {b : Addr} {H : Hp} {Q : VK} : uEq K (.ref a) (.ref b) H Q = (rEqD K (.ref a) (.ref b) H Q) := rfl
theorem uNe_e1 {K : Frag} {i : Int} {j : Int} {H : Hp} {Q : VK} : uNe K (.int i) (.int j) H Q = (Q (.bl (!decide (i = j))) H) := rfl
theorem uNe_e2 {K : Frag} {i : Str} {j : Str} {H : Hp} {Q : VK} : uNe K (.str i) (.str j) H Q = (Q (.bl (!decide (i = j))) H) := rfl
theorem uNe_e3 {K : Frag} {i : Bool} {j : Bool} {H : Hp} {Q : VK} : uNe K (.bl i) (.bl j) H Q = (Q (.bl (!decide (i = j))) H) := rfl
theorem uNe_e4 {K : Frag} {H : Hp} {Q : VK} : uNe K (.non) (.non) H Q = (Q (.bl false) H) := rfl
theorem uNe_e5 {K : Frag} {w1 : Int} {w2 : Str} {H : Hp} {Q : VK} : uNe K (.int w1) (.str w2) H Q = (Q (.bl true) H) := rfl
theorem uNe_e6 {K : Frag} {w1 : Str} {w2 : Int} {H : Hp} {Q : VK} : uNe K (.str w1) (.int w2) H Q = (Q (.bl true) H) := rfl
theorem uNe_e7 {K : Frag} {w1 : Int} {H : Hp} {Q : VK} : uNe K (.int w1) (.non) H Q = (Q (.bl true) H) := rfl
theorem uNe_e8 {K : Frag} {w1 : Int} {H : Hp} {Q : VK} : uNe K (.non) (.int w1) H Q = (Q (.bl true) H) := rfl
theorem uNe_e9 {K : Frag} {w1 : Str} {H : Hp} {Q : VK} : uNe K (.str w1) (.non) H Q = (Q (.bl true) H) := rfl
theorem uNe_e10 {K : Frag} {w1 : Str} {H : Hp} {Q : VK} : uNe K (.non) (.str w1) H Q = (Q (.bl true) H) := rfl
theorem uNe_e11 {K : Frag} {a : Addr} {b : Addr} {H : Hp} {Q : VK} : uNe K (.ref a) (.ref b) H Q = (rNeD K (.ref a) (.ref b) H Q) := rfl
theorem uIs_e1 {H : Hp} {Q : VK} : uIs (.non) (.non) H Q = (Q (.bl true) H) := rfl
theorem uIs_e2 {w1 : Int} {H : Hp} {Q : VK} : uIs (.int w1) (.non) H Q = (Q (.bl false) H) := rfl
theorem uIs_e3 {w1 : Str} {H : Hp} {Q : VK} : uIs (.str w1) (.non) H Q = (Q (.bl false) H) := rfl
theorem uIs_e4 {w1 : Addr} {H : Hp} {Q : VK} : uIs (.ref w1) (.non) H Q = (Q (.bl false) H) := rfl
theorem uIs_e5 {w1 : Bool} {H : Hp} {Q : VK} : uIs (.bl w1) (.non) H Q = (Q (.bl false) H) := rfl
theorem uIs_e6 {a : Bool} {b : Bool} {H : Hp} {Q : VK} : uIs (.bl a) (.bl b) H Q = (Q (.bl (decide (a = b))) H) := rfl
theorem uIs_e7 {a : Int} {b : Bool} {H : Hp} {Q : VK} : uIs (.int a) (.bl b) H Q = (Q (.bl false) H) := rfl
theorem uNotIs_e1 {H : Hp} {Q : VK} : uNotIs (.non) (.non) H Q = (Q (.bl false) H) := rfl
theorem uNotIs_e2 {w1 : Int} {H : Hp} {Q : VK} : uNotIs (.int w1) (.non) H Q = (Q (.bl true) H) := rfl
theorem uNotIs_e3 {w1 : Str} {H : Hp} {Q : VK} : uNotIs (.str w1) (.non) H Q = (Q (.bl true) H) := rfl
theorem uNotIs_e4 {w1 : Addr} {H : Hp} {Q : VK} : uNotIs (.ref w1) (.non) H Q = (Q (.bl true) H) := rfl
theorem uNotIs_e5 {w1 : Bool} {H : Hp} {Q : VK} : uNotIs (.bl w1) (.non) H Q = (Q (.bl true) H) := rfl
theorem uNotIs_e6 {a : Bool} {b : Bool} {H : Hp} {Q : VK} : uNotIs (.bl a) (.bl b) H Q = (Q (.bl (!decide (a = b))) H) := rfl
theorem uIn_e1 {K : Frag} {i : Str} {j : Str} {H : Hp} {Q : VK} : uIn K (.str i) (.str j) H Q = (Q (.bl (subStr i j)) H) := rfl
theorem uIn_e2 {K : Frag} {i : Int} {p : Addr} {H : Hp} {Q : VK} : uIn K (.int i) (.ref p) H Q = (rIn K false (.int i) (.ref p) H Q) := rfl
theorem uIn_e3 {K : Frag} {i : Str} {p : Addr} {H : Hp} {Q : VK} : uIn K (.str i) (.ref p) H Q = (rIn K false (.str i) (.ref p) H Q) := rfl
theorem uIn_e4 {K : Frag} {p : Addr} {H : Hp} {Q : VK} : uIn K (.non) (.ref p) H Q = (rIn K false .non (.ref p) H Q) := rfl
theorem uNotIn_e1 {K : Frag} {i : Str} {j : Str} {H : Hp} {Q : VK} : uNotIn K (.str i) (.str j) H Q = (Q (.bl (!subStr i j)) H) := rfl
theorem uNotIn_e2 {K : Frag} {i : Int} {p : Addr} {H : Hp} {Q : VK} : uNotIn K (.int i) (.ref p) H Q = (rIn K true (.int i) (.ref p) H Q) := rfl
theorem uNotIn_e3 {K : Frag} {i : Str} {p : Addr} {H : Hp} {Q : VK} : uNotIn K (.str i) (.ref p) H Q = (rIn K true (.str i) (.ref p) H Q) := rfl
theorem uNotIn_e4 {K : Frag} {p : Addr} {H : Hp} {Q : VK} : uNotIn K (.non) (.ref p) H Q = (rIn K true .non (.ref p) H Q) := rfl
theorem uTru_e1 {K : Frag} {w1 : Hp} {k : Bool → Prop} : uTru K (.non) w1 k = (k false) := rfl
theorem uTru_e2 {K : Frag} {b : Bool} {w1 : Hp} {k : Bool → Prop} : uTru K (.bl b) w1 k = (k b) := rfl
theorem uTru_e3 {K : Frag} {i : Int} {w1 : Hp} {k : Bool → Prop} : uTru K (.int i) w1 k = (k (i != 0)) := rfl
theorem uTru_e4 {K : Frag} {y : Str} {w1 : Hp} {k : Bool → Prop} : uTru K (.str y) w1 k = (y.length ≤ sizeLine ∧ k ((y.length : Int) != 0)) := rfl
theorem uTru_e5 {K : Frag} {p : Addr} {H : Hp} {k : Bool → Prop} : uTru K (.ref p) H k = (∃ b, TruV K (.ref p) H b ∧ k b) := rfl
theorem uIx_e1 {K : Frag} {p : Addr} {i : Int} {H : Hp} {Q : VK} : uIx K (.ref p) (.int i) H Q = (∃ xs v, (SqL K H p xs ∨ SqT K H p xs) ∧ atI xs i = some v ∧ Q v H) := rfl
theorem uIx_e2 {K : Frag} {z : Str} {i : Int} {H : Hp} {Q : VK} : uIx K (.str z) (.int i) H Q = (z.length ≤ sizeLine ∧ ∃ c, atI z.cps.toList i = some c ∧ Q (.str (S [c])) H) := rfl
theorem uSl_e1 {K : Frag} {a : Addr} {lo : Option Int} {hi : Option Int} {H : Hp} {Q : VK} : uSl K (.ref a) lo hi H Q = (rSlL K (.ref a) lo hi H Q ∨ rSlT K (.ref a) lo hi H Q) := rfl
theorem uSl_e2 {K : Frag} {z : Str} {lo : Option Int} {hi : Option Int} {H : Hp} {Q : VK} : uSl K (.str z) lo hi H Q = (z.length ≤ sizeLine ∧ Q (.str (cutS z lo hi)) H) := rfl
theorem uLen_e1 {K : Frag} {y : Str} {H : Hp} {Q : VK} : uLen K [.str y] H Q = (y.length ≤ sizeLine ∧ Q (.int y.length) H) := rfl
theorem uLen_e2 {K : Frag} {p : Addr} {H : Hp} {Q : VK} : uLen K [.ref p] H Q = (∃ xs, (SqL K H p xs ∨ SqT K H p xs) ∧ Q (.int xs.length) H) := rfl
theorem uAbs_e1 {i : Int} {H : Hp} {Q : VK} : uAbs [.int i] H Q = (Q (.int (if i < 0 then -i else i)) H) := rfl
theorem uInt_e1 {i : Int} {H : Hp} {Q : VK} : uInt [.int i] H Q = (Q (.int i) H) := rfl
theorem uInt_e2 {k : Bool} {H : Hp} {Q : VK} : uInt [.bl k] H Q = (Q (.int (if k then 1 else 0)) H) := rfl
theorem uMin2_e1 {i : Int} {j : Int} {H : Hp} {Q : VK} : uMin2 [.int i, .int j] H Q = (Q (.int (if j < i then j else i)) H) := rfl
theorem uIsi_e1 {K : Frag} {n : String} {H : Hp} {Q : VK} : uIsi K [.non, .ty n] H Q = (isOk "NoneType" n = true ∧ Q (.bl (isK "NoneType" n)) H) := rfl
theorem uIsi_e2 {K : Frag} {w1 : Bool} {n : String} {H : Hp} {Q : VK} : uIsi K [.bl w1, .ty n] H Q = (isOk "bool" n = true ∧ Q (.bl (isK "bool" n)) H) := rfl
theorem uIsi_e3 {K : Frag} {w1 : Int} {n : String} {H : Hp} {Q : VK} : uIsi K [.int w1, .ty n] H Q = (isOk "int" n = true ∧ Q (.bl (isK "int" n)) H) := rfl
theorem uIsi_e4 {K : Frag} {w1 : Str} {n : String} {H : Hp} {Q : VK} : uIsi K [.str w1, .ty n] H Q = (isOk "str" n = true ∧ Q (.bl (isK "str" n)) H) := rfl
theorem uIsi_e5 {K : Frag} {p : Addr} {n : String} {H : Hp} {Q : VK} : uIsi K [.ref p, .ty n] H Q = (∃ T, TyX K H (.ref p) (.type T) ∧ isOk T n = true ∧ Q (.bl (isK T n)) H) := rfl
theorem cx_K {CX : CXT} {P : Program} {w : World} {K : Frag} {mg : Str → Option Value} {base : Heap} {N : List Str} {qual : Str} {scope : Scope} {f : Addr} {cd : Value} {A : Around} {outer : List Env} {s : Shared} {H : Hp} {E : XK} : (cxOf CX P w K mg base N qual scope f cd A outer s H E).K = K := rfl
theorem uVar_s {i : Nat} {σ : L2.St} {H : Hp} {Q : VK} {v : V} (h : σ[i]? = some (some v)) : uVar i σ H Q = Q v H := by unfold uVar; rw [h]
theorem uVar_0 {a : V} {l : L2.St} {H : Hp} {Q : VK} : uVar 0 (some a :: l) H Q = Q a H := rfl
theorem uVar_n {i : Nat} {a : Option V} {l : L2.St} {H : Hp} {Q : VK} : uVar (i + 1) (a :: l) H Q = uVar i l H Q := rfl
end KW

set_option Elab.async false
set_option linter.all false
set_option maxRecDepth 100000
set_option maxHeartbeats 4000000
/-! KErr: own exception classes whose __init__(self, f) says super().__init__(str(f)); self.f = f -/
namespace PySem
namespace KErr
open PySem.W PySem.Calls PyProof.Rows PySem.HandSPX
/-- str(v) is made: some text -/
def StrOk (prog : Program) (w : World) (v : Value) : Prop := ∀ (A : Around) (s : Shared) (Q : Value → Shared → Prop) (E : Value → Shared → Prop), A.handled = none → s.heap.NoDigits → (∀ txt tk k, Q (.str txt tk) { s with toks := k }) → wpAny (model prog w) A (call (.type "str") [v]) Q E s
theorem strOk_int {prog : Program} {w : World} {n : Int} {t : Tok} (h : n.natAbs < 10 ^ 4300) : StrOk prog w (.int n t) := fun A s Q E hh hn q => str_of_int_or hh hn (fun _ => q _ _ _) fun z => absurd h (Nat.not_lt.mpr z)
theorem one_size (v : Value) : [v].length ≤ sizeLine := by
  rw [sizeLine_eq]
  exact (by decide : 1 ≤ 16777216)
theorem kept_but {K : Frag} {h h' : Heap} {x : Addr} (X : K.In h) (hx : K.lookup x = none) (k : ∀ b o, b ≠ x → h.get? b = some o → h'.get? b = some o) : K.In h' := fun a o e =>
  k a o (fun z => by rw [z, hx] at e; cases e) (X a o e)
structure InitEnd (h h' : Heap) (x C dx t1 : Addr) (f : Str) (v : Value) : Prop where
  keep : ∀ b o, b ≠ x → h.get? b = some o → h'.get? b = some o
  obj : h'.get? x = some { cls := .ref C, dict := some dx, data := .fields #[.ref t1, .none, .none, .none, .bool false, .none] }
  dbig : h.objs.size ≤ dx
  dne : dx ≠ x
  ns : h'.Ns1 dx (fun y => if y = f then some v else none)
section
variable {prog : Program} {w : World} {A : Around} {E : Value → Shared → Prop} {h : Heap} {g : Array GenState} {d : Drawn} {t : Nat} {os : OsState}
variable {nm q : Str} {C N : Addr} {bs bm : List Value} {hdct : Bool} {sn : List Str} {sub : List Value} {ab : Bool} {col : Option Bool} {dd : Option Addr} {k0 k1 k2 k3 k5 : Option Value}
theorem init_call {u e t0 : Addr} {rest : List Value} {Q : Value → Shared → Prop}
    (hC : h.get? C = some (excClassObj nm q C N bs bm hdct sn sub ab col dd k0 k1 k2 k3 k5 "ValueError.__new__")) (he : h.get? e = some (excO C t0)) (hu : h.get? u = some (kxs_mw "ValueError.__init__" e)) (hrest : rest.length ≤ sizeLine)
    (hq : ∀ h' t1, (∀ b o, b ≠ e → h.get? b = some o → h'.get? b = some o) → h'.get? e = some (excO C t1) → Q .none ⟨h', g, d, t, os⟩) :
    wpAny (model prog w) A (call (.ref u) rest) Q E ⟨h, g, d, t, os⟩ := by
  have FB := F.excBase_ValueError
  refine wpAny_call (codeAny_of_tree ?_)
  show wpAny _ A.in1 (callAny (.ref u) ⟨rest, []⟩) _ _ _
  simp only [callAny]
  refine wpAny_bind (wpAny_load hu ?_)
  simp only [kxs_mw, show (Value.type "method-wrapper" == Value.type "method" || Value.type "method-wrapper" == Value.type "builtin_function_or_method" || Value.type "method-wrapper" == Value.type "method-wrapper") = true by decide, if_true]
  refine KFB.if_so (by decide) ?_
  refine wpAny_bind (check_bound_init FB.toExcCallFacts hC he rfl ?_)
  refine wpAny_bind (wpAny_pure (wpAny_pure ?_))
  refine ⟨plainId_quiet FB.init.plain _, codeAny_builtin FB.initEntry ?_⟩
  rw [Around.under_plainId FB.init.plain _]
  exact exc_init_tree (cls := .ref C) (t0 := t0) (dv := none) (c2 := .none) (c3 := .none) (b4 := .bool false) he hrest (fun h' k e' _ => hq h' _ k e')
end
/-- a made own error -/
structure OwnMade (h h' : Heap) (e C d : Addr) (fs : List (Str × Value)) : Prop where
  keep : ∀ b o, h.get? b = some o → h'.get? b = some o
  new : h.objs.size ≤ e
  obj : ∃ oe vs, h'.get? e = some oe ∧ oe.cls = .ref C ∧ oe.dict = some d ∧ oe.data = .fields vs ∧ vs[1]? = some .none ∧ vs[2]? = some .none
  dbig : h.objs.size ≤ d
  dne : d ≠ e
  ns : h'.Ns1 d (fun y => fs.lookup y)
/-- C(us): made, where us are the values of vs and ok vs -/
def Mkd (prog : Program) (w : World) (K : Frag) (mg : Str → Option Value) (C : Addr) (ns : List Str) (ok : List L2.V → Prop) : Prop :=
  ∀ {A : Around} {s : Shared} {R : Result → Shared → Prop} {vs : List L2.V} {us : List Value}, L2.Vals vs us → ok vs → K.In s.heap → s.heap.NoLimit → s.heap.Ns mainGlobals mg → (∃ mb, s.heap.Ns builtinsNs mb ∧ ∀ x : Str, x ≠ "__name__" → mb x = bootBuiltins x) → A.handled = none → A.depth + 1 < recursionLimit →
    (∀ h' tk e d, OwnMade s.heap h' e C d (ns.zip us) → R (.ok (.ret (.ref e))) { s with heap := h', toks := tk }) → codeAny (model prog w) A (.call (.ref C) ⟨us, []⟩) R s
/-- str of the value is some text -/
def okS : L2.V → Prop
  | .int n => n.natAbs < 10 ^ 4300
  | .str _ => True
  | _ => False
theorem strOk_str {prog : Program} {w : World} {x : Str} {t : Tok} : StrOk prog w (.str x t) := fun _ _ _ _ _ _ q => PySem.P.str_of_str (q _ _ _)
theorem okS_ok {prog : Program} {w : World} {v : L2.V} {u : Value} (r : L2.RelV v u) (h : okS v) : StrOk prog w u := by
  cases v <;> simp only [okS] at h
  · obtain ⟨t, rfl⟩ := r
    exact strOk_int h
  · obtain ⟨t, rfl⟩ := r
    exact strOk_str
end KErr
end PySem

set_option Elab.async false
set_option linter.all false
set_option maxRecDepth 100000
set_option maxHeartbeats 4000000
/-! Kw2a: errors at the readings' level: made, raised, caught, asked -/
namespace PySem.W
open PySem PySem.Spec PySem.Calls PyProof.Rows
section
variable {prog : Program} {w : World} {A : Around} {E : Value → Shared → Prop} {s : Shared} {K : Frag} {x D : Addr} {ox : Obj} {od : Option Obj}
theorem kw_findCls {C : Addr} {name : Str} {a g : Value} (hc : (clsIn K C).isSome = true) (ha : findIn K (.ref C) name = some (some a)) (hg : specialIn K a "__get__" = some (some g)) (ht : takesIn K a = some true) : findObj K C od name = some (.bind g a) := by
  obtain ⟨cd, hc⟩ := Option.isSome_iff_exists.mp hc
  unfold findObj
  rw [hc, Option.bind_some, ha, Option.bind_some]
  simp [hg, ht]
/-- the class of an own error, asked by __class__, whatever its own dict holds -/
theorem kw_class {Q : Option Value → Shared → Prop} (C : L2.ExcC K D) (X : K.In s.heap) (I : InstAt s.heap x ox D od) (h : Q (some (.ref D)) { s with toks := s.toks + 1 }) : wpAny (model prog w) A (getAttr? (.ref x) "__class__") Q E s := by
  have hf : findObj K D od "__class__" = some (.bind (.builtin "getset_descriptor.__get__") (.builtin "object.__class__")) := kw_findCls (by obtain ⟨cd, hc, _⟩ := any_some C.hd; rw [hc]; rfl) C.ha C.hn C.ht
  obtain ⟨hp, g, d, t, os⟩ := s
  have L0 := I.type (M := model prog w)
  have L1 := looks_findIn (M := model prog w) X C.hg
  have L2 := looks_findIn (M := model prog w) X C.hk
  have L3 := looks_find (M := model prog w) X I hf
  have sub : Looks (model prog w) hp (isInstance (.ref x) (.type "BaseException")) true := L0.andThen (looks_subIn X C.hs)
  have hx2 : (Value.builtin "BaseException.__getattribute__" == Value.builtin "object.__getattribute__") = false := by decide +kernel
  have hx1 : (onTheHeap (Value.ref D) && Value.builtin "BaseException.__getattribute__" == Value.builtin "object.__getattribute__") = false := by rw [hx2]; rfl
  have hx0 : (false && onTheHeap (Value.builtin "BaseException.__getattribute__")) = false := rfl
  unfold getAttr? getAttrBy? getAttrBy
  refine wpAny_bind (wpAny_mkText (wpAny_bind (wpAny_attempt (wpAny_holding (wpAny_bind (L0.at (wpAny_bind (L1.at ?_))))))))
  show wpAny _ _ (if (onTheHeap (Value.ref D) && Value.builtin "BaseException.__getattribute__" == Value.builtin "object.__getattribute__") = true then _ else _) _ _ _
  rw [hx1, if_neg Bool.false_ne_true]
  unfold getAttrByItsOwn hookBefore
  refine wpAny_bind ?_
  rw [if_pos (show onTheHeap (Value.ref D) = true from rfl)]
  refine L2.at ?_
  refine wpAny_bind (wpAny_attempt (wpAny_holding ?_))
  unfold callGetattribute
  rw [hx0, if_neg Bool.false_ne_true]
  unfold boundAndCalled
  rw [PySem.F.excAttr_ValueError.ga.bind (.ref x)]
  refine wpAny_bind (wpAny_pure ?_)
  refine wpAny_call (codeAny_call_builtin PySem.F.excAttr_ValueError.ga.plain PySem.F.entry_bexc_ga ?_)
  refine @check_slot (model prog w) _ _ ⟨hp, g, d, t + 1, os⟩ "BaseException.__getattribute__" "BaseException" "__getattribute__" (.ref x) [.str "__class__" t] [] _ (by decide +kernel) (by decide +kernel) sub (PySem.F.args_bexc_ga (.ref x) (.str "__class__" t)) ?_
  unfold Builtin.«object.__getattribute__»
  refine wpAny_bind (wpAny_of_eq (a := ((Value.ref x : Value), [Value.str "__class__" t])) (by first | rfl | (simp only [slotArgs]; rfl)) ?_)
  refine wpAny_bind (wpAny_pure (wpAny_bind (L0.at (wpAny_bind (L3.at ?_)))))
  refine wpAny_bind (wpAny_holding (wpAny_call (class_get (s := ⟨hp, g, d, t + 1, os⟩) (ox := ox) (od := od) X I C.hm ?_)))
  refine wpAny_pure ?_
  show wpAny _ _ (handedOut (.ref D)) _ _ _
  rw [handedOut_of (v := .ref D) rfl]
  first
    | exact wpAny_pure (wpAny_pure h)
    | exact wpAny_pure h
    | exact wpAny_pure (wpAny_bind (wpAny_pure (wpAny_pure h)))
theorem kw_kitx (C : L2.ExcC K D) : KitX K (.ref x) (.ref D) (fun h => InstAt h x ox D od) where
  ty := fun _ _ _ I => I.type
  it := fun _ _ X _ => by
    obtain ⟨cdD, hcD, _⟩ := any_some C.hd
    unfold clsIn at hcD
    split at hcD
    · rename_i c' d' cd' sl' ho
      intro A' Q' E' s' k q
      unfold isType loadHead
      exact wpAny_bind (wpAny_loadPart (k _ _ (X _ _ ho)) (wpAny_pure q))
    · cases hcD
  ne := fun h tp dd its n sl X htp => by
    obtain ⟨cdD, hcD, _⟩ := any_some C.hd
    refine Bool.eq_false_iff.mpr fun q => ?_
    have e : D = tp := Value.ref.inj (beq_iff_eq.mp q)
    subst e
    unfold clsIn at hcD
    split at hcD
    · rename_i c' d' cd' sl' ho
      have z := (X _ _ ho).symm.trans htp
      cases z
    · cases hcD
  ca := fun X I k => kw_class C X I k
end
end PySem.W
namespace KW
open PySem PySem.Spec PyProof.Rows L2
/-- an own error class of the text: x its name, C its place, ns its fields, ok what its arguments must be -/
structure ErrC (P : Program) (w : World) (K : Frag) (mg : Str → Option Value) (x : Str) (C : Addr) (ns : List Str) (ok : List V → Prop) : Prop where
  gC : mg x = some (.ref C)
  made : PySem.KErr.Mkd P w K mg C ns ok
  kC : PySem.W.keepIn K (.ref C) = true
  exC : PySem.W.subIn K (.ref C) (.type "BaseException") = some true
  tyC : PySem.W.typeIn K (.ref C) = some (.type "type")
  xf : XfC K C
  is : ExcC K C
  no : ∀ f ∈ ns, PySem.W.findIn K (.ref C) f = some none
section
variable {X : Cx} {x : Str} {C : Addr} {ns : List Str} {ok : List V → Prop}
theorem relO_zip : ∀ {ns : List Str} {vs : List V} {us : List Value}, Vals vs us → ∀ f, RelO (List.lookup f (ns.zip vs)) (List.lookup f (ns.zip us))
  | [], _, _, _, f => by simp [List.lookup, RelO]
  | n :: ns, _, _, .nil, f => by simp [List.lookup, RelO]
  | n :: ns, _, _, .cons r rs, f => by
    rw [List.zip_cons_cons, List.zip_cons_cons]
    by_cases h : f = n
    · subst h
      simp only [List.lookup, beq_self_eq_true]
      exact r
    · have q : (f == n) = false := by simpa using h
      simp only [List.lookup, q]
      exact relO_zip rs f
/-- x(args): the error made -/
def uMk (C : Addr) (ns : List Str) (ok : List V → Prop) (t : TA) : L2.St → Hp → XK → Prop := fun σ H Q => t σ H fun vs H1 => ok vs ∧ ∀ d, H1 d = none → Q (.ref C) (some d) (upd H1 d (.xd (ns.zip vs)))
theorem k_mk {e : Expr} {es : List Expr} {t : TA} {p pos : Pos} {k : Nat} (T : ErrC X.prog X.w X.K X.mg x C ns ok) (hr : Room k X.A) (ha : PA X (e :: es) t) (hg : Gl X x := by rfl) (hdb : (x == ("__debug__" : Str)) = false := by decide)
    (he : starEach (e :: es) X.env = (false, eval e X.env) :: starEach es X.env := by rfl) (hpl : (backTo pos (starEach es X.env)).any (·.1) = false := by rfl) : L2N.PMk X (.Call (.Name x p) (e :: es) [] pos) (uMk C ns ok t) := by
  intro pins s σ H Q I h
  refine wpAny_Call_Name_kw (ld_glob I hg T.gC ?_ hdb)
  refine PySem.W.callWith_K (h₀ := X.base) I.ok.mod.kin T.kC (thn (ha.run pos pins s σ H _ I h) fun us s1 hh => ?_) he hpl
  obtain ⟨vs, H1, I1, r1, okv, q1⟩ := hh
  refine ⟨I1.kIn, ?_⟩
  show wpAny _ _ (call (.ref C) us) _ _ _
  have hlim := I1.nolimit
  have G := I1.mod.glob.keeps I1.bk
  have B : ∃ mb, s1.heap.Ns builtinsNs mb ∧ ∀ x : Str, x ≠ "__name__" → mb x = bootBuiltins x := by
    obtain ⟨mb, h1, h2⟩ := I1.mod.blt
    exact ⟨mb, h1.keeps I1.bk, h2⟩
  obtain ⟨hp, g, dr, tk, os⟩ := s1
  refine wpAny_call (T.made r1 okv I1.kIn hlim G B (by exact hr.hd) (by show X.A.depth + 1 < _; have := hr.dp; omega) fun h' tk' e d M => ?_)
  show L2N.MkP X pins σ Q (.ref e) ⟨h', g, dr, tk', os⟩
  obtain ⟨oe, fv, hoe, hc, hd, hdat, h1, h2⟩ := M.obj
  have hns := M.ns
  obtain ⟨G', g1, g2⟩ := restrict h' fun b => decide (b ≠ e)
  have gk : ∀ b, b ≠ e → G'.get? b = h'.get? b := fun b hb => g1 b (decide_eq_true hb)
  have ge : G'.get? e = none := g2 e (by simp)
  have old : ∀ b o, hp.get? b = some o → G'.get? b = some o := fun b o q => (gk b (Nat.ne_of_lt (Nat.lt_of_lt_of_le (Heap.lt_size q) M.new))).trans (M.keep b o q)
  have ob : ObjOk X.prog X.w (upd H1 d (.xd (ns.zip vs))) G' d (.xd (ns.zip vs)) := ⟨_, hns.at (fun o q => (gk d M.dne).trans q), fun f => relO_zip r1 f⟩
  have J : Inv X pins σ (upd H1 d (.xd (ns.zip vs))) ⟨G', g, dr, tk', os⟩ := I1.laid (t' := tk') old M.dbig ob
  refine ⟨e, oe, fv, ⟨G', g, dr, tk', os⟩, _, .ref C, some d, rfl, J, fun b o q => ?_, ge, hoe, ⟨hc, hd, fun vs' e' => by rw [hdat] at e'; cases e'; exact h2⟩, hdat, h1, ?_, rfl, I1.bare, raises_own T.exC T.tyC, q1 d (I1.hok.fresh M.dbig)⟩
  · by_cases hb : b = e
    · have q' : G'.get? b = some o := q
      rw [hb, ge] at q'; cases q'
    · exact (gk b hb).symm.trans q
  · rw [upd_ne (Ne.symm M.dne)]
    exact I1.hok.fresh M.new
/-- raise x(..) -/
def uRaise (W : WX) (t : L2.St → Hp → XK → Prop) : TS := fun _ σ H => t σ H fun cls d H' => W cls d σ H'
theorem k_raise {W : WX} {e : Expr} {t : L2.St → Hp → XK → Prop} {pos : Pos} (tk : L2N.Takes X W) (he : L2N.PMk X e t) (hc : X.calm = true := by rfl) : PS X (.Raise (some e) none pos) (uRaise W t) := L2N.ps_raise hc tk he
/-- what does not come about -/
def uDead : TE := fun _ _ _ => False
def sDead : TS := fun _ _ _ => False
theorem k_dead {e : Expr} : PE X e uDead := ⟨fun _ _ _ _ _ _ h => h.elim⟩
theorem k_deadS {st : Stmt} : PS X st sDead := ⟨fun _ _ _ _ _ _ h => h.elim⟩
/-- e.f in the suite that holds e -/
def uEf (K : Frag) (a : Addr) (cls : Value) (d : Option Addr) (i : Nat) (f : Str) : TE := fun σ H Q => ∃ (C dd : Addr) (fs : List (Str × V)) (v : V), σ[i]? = some (some (.ref a)) ∧ cls = .ref C ∧ XfC K C ∧ PySem.W.findIn K (.ref C) f = some none ∧ d = some dd ∧ H dd = some (.xd fs) ∧ fs.lookup f = some v ∧ Q v H
theorem k_ef (i : Nat) {a : Addr} {oe : Obj} {cls : Value} {d : Option Addr} {pn : List (Addr × Obj)} {n f : Str} {p pos : Pos} (hz : Zc cls d oe) (hf : ∃ vs, oe.data = .fields vs) (hN : X.N[i]? = some n := by rfl)
    (hv : Vis X.env.scope n := by first | exact Or.inl rfl | exact Or.inr (Or.inl rfl) | exact Or.inr (Or.inr rfl)) (hd : (n == ("__debug__" : Str)) = false := by decide) (hcd : (n == ("__classdict__" : Str)) = false := by decide)
    (hb : attributeBase (.Name n p) f X.env (eval (.Name n p) X.env) = eval (.Name n p) X.env := by rfl) : PE (X.suite a ((a, oe) :: pn)) (.Attribute (.Name n p) f pos) (uEf X.K a cls d i f) := by
  refine ⟨fun pins s σ H Q I h => ?_⟩
  obtain ⟨C, dd, fs, v, e0, e1, xf, no, e2, e3, e4, q⟩ := h
  exact (pe_xf (X := X) xf no hz hf (pe_var (X := X.suite a ((a, oe) :: pn)) hN hv hd hcd) hb).run pins s σ H Q I ⟨.ref a, e0, rfl, e1, dd, fs, v, e2, e3, e4, q⟩
/-- isinstance(e, c) in the suite that holds e -/
def uIsE (K : Frag) (a : Addr) (cls : Value) (d : Option Addr) : List V → Hp → VK → Prop
  | [.ref b, .ref c], H, Q => ∃ (D dd : Addr) (fs : List (Str × V)) (r : Bool), b = a ∧ cls = .ref D ∧ ExcC K D ∧ d = some dd ∧ H dd = some (.xd fs) ∧ PySem.W.kitOne K (.ref D) (.ref c) = some r ∧ Q (.bl r) H
  | [.ref b, .ty T], H, Q => ∃ (D dd : Addr) (fs : List (Str × V)) (r : Bool), b = a ∧ cls = .ref D ∧ ExcC K D ∧ d = some dd ∧ H dd = some (.xd fs) ∧ PySem.W.kitOne K (.ref D) (.type T) = some r ∧ Q (.bl r) H
  | _, _, _ => False
theorem c_isE {a : Addr} {oe : Obj} {cls : Value} {d : Option Addr} {pn : List (Addr × Obj)} (hz : Zc cls d oe) (hf : ∃ vs, oe.data = .fields vs) : CallR (X.suite a ((a, oe) :: pn)) (.builtin "isinstance") (uIsE X.K a cls d) := by
  intro pins s σ H xs us Q I r h
  have key : ∀ {D dd : Addr} {fs : List (Str × V)} {cv : Value} {b : Bool}, cls = .ref D → ExcC X.K D → d = some dd → H dd = some (.xd fs) → PySem.W.kitOne X.K (.ref D) cv = some b → Q (.bl b) H →
      wpAny (model X.prog X.w) (X.A.mark (some (.ref a))) (call (.builtin "isinstance") [.ref a, cv]) (EP (X.suite a ((a, oe) :: pn)) pins σ Q) (fun _ _ => False) s := fun {D dd fs cv b} e1 C e2 e3 e4 q => by
    subst e1 e2
    obtain ⟨hget, _⟩ := I.pin (a, oe) (List.mem_append.mpr (.inl List.mem_cons_self))
    obtain ⟨vs, hv⟩ := hf
    obtain ⟨mA, hns, hr⟩ := (show ObjOk X.prog X.w H s.heap dd (.xd fs) from I.hok dd _ e3)
    obtain ⟨od, ho, hl⟩ := lookIn_ns hns
    have J : PySem.W.InstAt s.heap a oe D (some od) := by
      refine ⟨hget, hz.1, by unfold PySem.W.notCls; rw [hv] <;> rfl, ?_⟩
      rw [hz.2]
      exact ho
    exact PySem.W.kia_one (PySem.W.kw_kitx C) I.kIn J e4 (fun z => nomatch z) fun tk => ⟨.bl b, H, I.kept (t' := tk) fun _ _ z => z, rfl, q⟩
  unfold uIsE at h
  split at h
  · obtain ⟨D, dd, fs, b, rfl, e1, C, e2, e3, e4, q⟩ := h
    cases r with
    | cons rx rr =>
      cases rr with
      | cons rt rr =>
        cases rr
        cases rx
        cases rt
        exact key e1 C e2 e3 e4 q
  · obtain ⟨D, dd, fs, b, rfl, e1, C, e2, e3, e4, q⟩ := h
    cases r with
    | cons rx rr =>
      cases rr with
      | cons rt rr =>
        cases rr
        cases rx
        cases rt
        exact key e1 C e2 e3 e4 q
  · exact h.elim
theorem k_isE {a : Addr} {oe : Obj} {cls : Value} {d : Option Addr} {pn : List (Addr × Obj)} {e : Expr} {es : List Expr} {t : TA} {p pos : Pos} (hz : Zc cls d oe) (hf : ∃ vs, oe.data = .fields vs) (hm : X.mg "isinstance" = none) (ha : PA (X.suite a ((a, oe) :: pn)) (e :: es) t) (hg : Gl X "isinstance" := by rfl)
    (he : starEach (e :: es) X.env = (false, eval e X.env) :: starEach es X.env := by rfl) (hpl : (backTo pos (starEach es X.env)).any (·.1) = false := by rfl) : PE (X.suite a ((a, oe) :: pn)) (.Call (.Name "isinstance" p) (e :: es) [] pos) (tCB (uIsE X.K a cls d) t) :=
  pe_callB (c_isE hz hf) hg hm (by decide +kernel) ha (by decide) (by decide) he hpl
end
end KW

set_option Elab.async false
set_option linter.all false
set_option maxRecDepth 100000
set_option maxHeartbeats 4000000
/-! Kw2b: instances of plain classes: made, their fields and methods -/
namespace KW
open PySem PySem.Spec PyProof.Rows L2
/-- a plain class of the text and the names of its fields -/
structure ClsA (K : Frag) (mg : Str → Option Value) (x : Str) (C : Addr) (ns : List Str) : Prop where
  gC : mg x = some (.ref C)
  cls : Cls K C
  no : ∀ f ∈ ns, NoAttr K C f
/-- e.f -/
def uGet (K : Frag) (f : Str) : V → Hp → VK → Prop
  | .ref a, H, Q => ∃ C dx fs v, H a = some (.ins C dx fs) ∧ Cls K C ∧ NoAttr K C f ∧ fs.lookup f = some v ∧ Q v H
  | _, _, _ => False
def uFld (K : Frag) (t : TE) (f : Str) : TE := fun σ H Q => t σ H fun x H1 => uGet K f x H1 Q
section
variable {X : Cx}
theorem k_fld {e : Expr} {t : TE} {f : Str} {pos : Pos} (he : PE X e t) (hb : attributeBase e f X.env (eval e X.env) = eval e X.env) : PE X (.Attribute e f pos) (uFld X.K t f) := by
  refine PEw (pe_fld (PEw he (t' := fun σ H Q => t σ H Q) fun _ _ _ h => h) hb) fun σ H Q h => ?_
  unfold uFld at h
  unfold tFld
  have e : (fun x H1 => uGet X.K f x H1 Q) = fun x H1 => ∃ a C dx fs v, x = .ref a ∧ H1 a = some (.ins C dx fs) ∧ Cls X.K C ∧ NoAttr X.K C f ∧ fs.lookup f = some v ∧ Q v H1 := by
    funext x H1
    cases x <;> simp only [uGet, eq_iff_iff] <;> first
      | exact ⟨False.elim, fun ⟨_, _, _, _, _, z, _⟩ => nomatch z⟩
      | (rename_i p
         exact ⟨fun ⟨C, dx, fs, v, h⟩ => ⟨p, C, dx, fs, v, rfl, h⟩, fun ⟨a, C, dx, fs, v, z, h⟩ => by cases z; exact ⟨C, dx, fs, v, h⟩⟩)
  rw [e] at h
  exact h
/-- o.f = v -/
def uPut (K : Frag) (f : Str) : V → V → Hp → (Hp → Prop) → Prop
  | .ref a, y, H, Q => ∃ C dx fs, H a = some (.ins C dx fs) ∧ Cls K C ∧ NoAttr K C f ∧ fs.length < 1000 ∧ Q (upd H a (.ins C dx (putF f y fs)))
  | _, _, _, _ => False
def uSFld (K : Frag) (ta tv : TE) (f : Str) : TS := fun D σ H => tv σ H fun y H1 => ta σ H1 fun x H2 => uPut K f x y H2 fun H3 => D.nx σ H3
theorem k_sfld {o value : Expr} {ta tv : TE} {f : Str} {pos' pos : Pos} (ha : PE X o ta) (hv : PE X value tv) (hs : swapsWith value (some (.Attribute o f pos')) pos.line X.env = pure false) : PS X (.Assign [.Attribute o f pos'] value pos) (uSFld X.K ta tv f) := by
  refine PSw (ps_fld ha hv hs) fun D σ H h => ?_
  unfold uSFld at h
  unfold sFld
  have e : (fun (y : V) (H1 : Hp) => ta σ H1 fun x H2 => uPut X.K f x y H2 fun H3 => D.nx σ H3) = fun y H1 => ta σ H1 fun x H2 => ∃ a C dx fs, x = .ref a ∧ H2 a = some (.ins C dx fs) ∧ Cls X.K C ∧ NoAttr X.K C f ∧ fs.length < 1000 ∧ D.nx σ (upd H2 a (.ins C dx (putF f y fs))) := by
    funext y H1
    refine congrArg (ta σ H1) ?_
    funext x H2
    cases x <;> simp only [uPut, eq_iff_iff] <;> first
      | exact ⟨False.elim, fun ⟨_, _, _, _, z, _⟩ => nomatch z⟩
      | (rename_i p
         exact ⟨fun ⟨C, dx, fs, h⟩ => ⟨p, C, dx, fs, rfl, h⟩, fun ⟨a, C, dx, fs, z, h⟩ => by cases z; exact ⟨C, dx, fs, h⟩⟩)
  rw [e] at h
  exact h
end
section
variable {K : Frag} {mg : Str → Option Value} {x f : Str} {C a dx : Addr} {ns : List Str} {fs fs' : List (Str × V)} {v y : V} {H : Hp}
theorem get_l {Q : VK} (h : H a = some (.ins C dx fs)) (c : ClsA K mg x C ns) (m : f ∈ ns) (l : fs.lookup f = some v) (q : Q v H) : uGet K f (.ref a) H Q := ⟨C, dx, fs, v, h, c.cls, c.no f m, l, q⟩
theorem put_l {Q : Hp → Prop} (h : H a = some (.ins C dx fs)) (c : ClsA K mg x C ns) (m : f ∈ ns) (z : fs.length < 1000) (q : Q (upd H a (.ins C dx (putF f y fs)))) : uPut K f (.ref a) y H Q := ⟨C, dx, fs, h, c.cls, c.no f m, z, q⟩
end
/-! ### methods -/
/-- a def at f: ps its parameters, dvs its defaults -/
structure DfnAt (K : Frag) (x qual : Str) (st : Stmt) (ps : List Str) (dvs : List V) (f : Addr) : Prop where
  ex : ∃ fd, FunD K x qual (defArgs st) (defBody st) (defScope st) dvs [] f fd ∧ ∀ j, j ≤ dvs.length → ∃ ds, Vals (dvs.drop j) ds ∧ Binds K fd ps ds
/-- the method m of the class C -/
structure MetAt (K : Frag) (C : Addr) (m qual : Str) (st : Stmt) (ps : List Str) : Prop where
  ex : ∃ f, Meth K C m f ∧ DfnAt K m qual st ps [] f
/-- the __init__ of the class x at C -/
structure IniAt (K : Frag) (C : Addr) (qual : Str) (st : Stmt) (ps : List Str) (dvs : List V) : Prop where
  ex : ∃ f, Mk K C f ∧ DfnAt K "__init__" qual st ps dvs f
structure CalM (P : Program) (w : World) (K : Frag) (mg : Str → Option Value) (base : Heap) (k : Nat) (C : Addr) (m : Str) (sp : Sp) : Prop where
  cls : Cls K C
  ex : ∃ (f : Addr) (fd : FuncData) (ps : List Str), Meth K C m f ∧ Binds K fd ps [] ∧ FnOk P w K mg base (L2N.CX P w) k f fd ps sp
structure CalI (P : Program) (w : World) (K : Frag) (mg : Str → Option Value) (base : Heap) (k : Nat) (x : Str) (C : Addr) (dvs : List V) (sp : Sp) : Prop where
  ex : mg x = some (.ref C) ∧ ∃ (f : Addr) (fd : FuncData) (ps : List Str), Mk K C f ∧ FnOk P w K mg base (L2N.CX P w) k f fd ps sp ∧ ∀ j, j ≤ dvs.length → ∃ ds, Vals (dvs.drop j) ds ∧ Binds K fd ps ds
section
variable {P : Program} {w : World} {K : Frag} {mg : Str → Option Value} {base : Heap}
theorem DfnAt.fn {x qual : Str} {st : Stmt} {N ps : List Str} {dvs : List V} {f : Addr} {k : Nat} {sp : Sp} (D : DfnAt K x qual st ps dvs f) (S : FnScope N ps (defScope st)) (len : ∀ vs H Q E, sp vs H Q E → vs.length = ps.length)
    (hbody : ∀ (f : Addr) (cdv : Value) (A : Around) (outer : List Env) (s : Shared) (H : Hp) (vs : List V) (Q : VK) (E : XK), Room k (A.deeper (envOfC qual (defScope st) s.heap.objs.size f cdv)) → sp vs H Q E →
      ∃ t, PSs (cxOf (L2N.CX P w) P w K mg base N qual (defScope st) f cdv A outer s H E) (defBody st) t ∧ t { nx := fun _ H' => Q .non H', rt := Q } (start N vs) H) :
    ∃ fd, FnOk P w K mg base (L2N.CX P w) (k + 1) f fd ps sp ∧ ∀ j, j ≤ dvs.length → ∃ ds, Vals (dvs.drop j) ds ∧ Binds K fd ps ds := by
  obtain ⟨fd, F, hb⟩ := D.ex
  exact ⟨fd, F.ok S len fun cdv A outer s H vs Q E hr hsp => hbody f cdv A outer s H vs Q E hr hsp, hb⟩
theorem MetAt.ok {C : Addr} {m qual : Str} {st : Stmt} {N ps : List Str} {k : Nat} {sp : Sp} (D : MetAt K C m qual st ps) (c : Cls K C) (S : FnScope N ps (defScope st)) (len : ∀ vs H Q E, sp vs H Q E → vs.length = ps.length)
    (hbody : ∀ (f : Addr) (cdv : Value) (A : Around) (outer : List Env) (s : Shared) (H : Hp) (vs : List V) (Q : VK) (E : XK), Room k (A.deeper (envOfC qual (defScope st) s.heap.objs.size f cdv)) → sp vs H Q E →
      ∃ t, PSs (cxOf (L2N.CX P w) P w K mg base N qual (defScope st) f cdv A outer s H E) (defBody st) t ∧ t { nx := fun _ H' => Q .non H', rt := Q } (start N vs) H) : CalM P w K mg base (k + 1) C m sp := by
  obtain ⟨f, M, D⟩ := D.ex
  obtain ⟨fd, F, hb⟩ := D.fn S len hbody
  obtain ⟨ds, hd, b⟩ := hb 0 (Nat.le_refl _)
  cases hd
  exact ⟨c, f, fd, ps, M, b, F⟩
theorem IniAt.ok {x : Str} {C : Addr} {qual : Str} {st : Stmt} {N ps : List Str} {dvs : List V} {k : Nat} {sp : Sp} (D : IniAt K C qual st ps dvs) (g : mg x = some (.ref C)) (S : FnScope N ps (defScope st)) (len : ∀ vs H Q E, sp vs H Q E → vs.length = ps.length)
    (hbody : ∀ (f : Addr) (cdv : Value) (A : Around) (outer : List Env) (s : Shared) (H : Hp) (vs : List V) (Q : VK) (E : XK), Room k (A.deeper (envOfC qual (defScope st) s.heap.objs.size f cdv)) → sp vs H Q E →
      ∃ t, PSs (cxOf (L2N.CX P w) P w K mg base N qual (defScope st) f cdv A outer s H E) (defBody st) t ∧ t { nx := fun _ H' => Q .non H', rt := Q } (start N vs) H) : CalI P w K mg base (k + 1) x C dvs sp := by
  obtain ⟨f, M, D⟩ := D.ex
  obtain ⟨fd, F, hb⟩ := D.fn S len hbody
  exact ⟨g, f, fd, ps, M, F, hb⟩
end
/-- o.m(args): what it may let out is taken at the slots as they stand -/
def uMet (C : Addr) (m : Str) (sp : Sp) (E : L2.St → XK) (ta : TE) (t : TA) : TE := fun σ H Q => ta σ H fun x H1 => uMt C m sp (E σ) t σ x H1 Q
where uMt (C : Addr) (m : Str) (sp : Sp) (E : XK) (t : TA) (σ : L2.St) : V → Hp → VK → Prop
  | .ref a, H1, Q => ∃ dx fs, H1 a = some (.ins C dx fs) ∧ fs.lookup m = none ∧ t σ H1 fun vs H2 => sp (.ref a :: vs) H2 Q E
  | _, _, _ => False
section
variable {X : Cx} {k : Nat} {C : Addr} {m x : Str} {sp : Sp} {o e : Expr} {es : List Expr} {ta : TE} {t : TA} {apos p pos : Pos} {pl : Sem Bool}
theorem uMt_of {E : XK} {σ : L2.St} {x : V} {H : Hp} {Q : VK} (h : uMet.uMt C m sp E t σ x H Q) : ∃ a dx fs, x = .ref a ∧ H a = some (.ins C dx fs) ∧ fs.lookup m = none ∧ t σ H fun vs H2 => sp (.ref a :: vs) H2 Q E := by
  cases x with
  | ref a => obtain ⟨dx, fs, h⟩ := h; exact ⟨a, dx, fs, rfl, h⟩
  | _ => exact False.elim h
theorem km_of {E : L2.St → XK} (hx : ∀ σ, PassesAt (L2N.CX X.prog X.w) X σ (E σ)) (c : CalM X.prog X.w X.K X.mg X.base k C m sp) (hr : Room k X.A) (he : PE X o ta) (ha : PA X (e :: es) t)
    (hst : starEach (e :: es) X.env = (false, eval e X.env) :: starEach es X.env) (hpl : (backTo pos (starEach es X.env)).any (·.1) = false)
    (ht : eval (.Call (.Attribute o m apos) (e :: es) [] pos) X.env = (do
      let ov ← eval o X.env
      standAt apos.atName
      let (f, first) ← holding [ov] (getMethod ov m pl)
      callWith pos f first (backTo pos (starEach (e :: es) X.env)) (backToKw pos (keywordEach [] X.env)))) :
    PE X (.Call (.Attribute o m apos) (e :: es) [] pos) (uMet C m sp E ta t) := by
  obtain ⟨cl, f, fd, ps, hm, hb, F⟩ := c
  refine ⟨fun pins s σ H Q I h => ?_⟩
  refine PySem.W.methodCall_KW (pl := pl) (thn (he.run pins s σ H _ I h) fun u s1 ⟨x, H1, I1, rx, hu⟩ => ?_) ht
  obtain ⟨a, dx, fs, ex, ea, l, q⟩ := uMt_of hu
  subst ex
  obtain rfl : u = Value.ref a := rx
  refine getmeth_ok I1 ea cl hm l ?_
  refine PySem.W.callWith_K (h₀ := X.base) I.ok.mod.kin hm.kp (thn (ha.run pos pins s1 σ H1 _ I1 q) fun us s2 ⟨vs, H2, I2, r, q2⟩ => ⟨I2.kIn, ?_⟩) hst hpl
  exact run_fnS (us := .ref a :: us) (vs := .ref a :: vs) F hr hb (hx σ) I2 (.cons rfl r) q2
theorem km0_of {E : L2.St → XK} (hx : ∀ σ, PassesAt (L2N.CX X.prog X.w) X σ (E σ)) (c : CalM X.prog X.w X.K X.mg X.base k C m sp) (hr : Room k X.A) (he : PE X o ta)
    (ht : eval (.Call (.Attribute o m apos) [] [] pos) X.env = (do
      let ov ← eval o X.env
      standAt apos.atName
      let (f, first) ← holding [ov] (getMethod ov m pl)
      callWith pos f first (backTo pos (starEach [] X.env)) (backToKw pos (keywordEach [] X.env)))) :
    PE X (.Call (.Attribute o m apos) [] [] pos) (uMet C m sp E ta tNil) := by
  obtain ⟨cl, f, fd, ps, hm, hb, F⟩ := c
  refine ⟨fun pins s σ H Q I h => ?_⟩
  refine PySem.W.methodCall_KW (pl := pl) (thn (he.run pins s σ H _ I h) fun u s1 ⟨x, H1, I1, rx, hu⟩ => ?_) ht
  obtain ⟨a, dx, fs, ex, ea, l, q⟩ := uMt_of hu
  subst ex
  obtain rfl : u = Value.ref a := rx
  refine getmeth_ok I1 ea cl hm l ?_
  exact PySem.W.callWith_K0 (first := [.ref a]) I1.kIn hm.kp (run_fnS (us := [.ref a]) (vs := [.ref a]) F hr hb (hx σ) I1 (.cons rfl .nil) q)
theorem km (c : CalM X.prog X.w X.K X.mg X.base k C m sp) (hr : Room k X.A) (he : PE X o ta) (ha : PA X (e :: es) t)
    (hst : starEach (e :: es) X.env = (false, eval e X.env) :: starEach es X.env := by rfl) (hpl : (backTo pos (starEach es X.env)).any (·.1) = false := by rfl)
    (ht : eval (.Call (.Attribute o m apos) (e :: es) [] pos) X.env = (do
      let ov ← eval o X.env
      standAt apos.atName
      let (f, first) ← holding [ov] (getMethod ov m pl)
      callWith pos f first (backTo pos (starEach (e :: es) X.env)) (backToKw pos (keywordEach [] X.env))) := by rfl) :
    PE X (.Call (.Attribute o m apos) (e :: es) [] pos) (uMet C m sp (fun _ => E0) ta t) := km_of (fun _ => passAt0) c hr he ha hst hpl ht
theorem km0 (c : CalM X.prog X.w X.K X.mg X.base k C m sp) (hr : Room k X.A) (he : PE X o ta)
    (ht : eval (.Call (.Attribute o m apos) [] [] pos) X.env = (do
      let ov ← eval o X.env
      standAt apos.atName
      let (f, first) ← holding [ov] (getMethod ov m pl)
      callWith pos f first (backTo pos (starEach [] X.env)) (backToKw pos (keywordEach [] X.env))) := by rfl) :
    PE X (.Call (.Attribute o m apos) [] [] pos) (uMet C m sp (fun _ => E0) ta tNil) := km0_of (fun _ => passAt0) c hr he ht
theorem kmX {W : WX} (tk : L2N.Takes X W) (c : CalM X.prog X.w X.K X.mg X.base k C m sp) (hr : Room k X.A) (he : PE X o ta) (ha : PA X (e :: es) t)
    (hst : starEach (e :: es) X.env = (false, eval e X.env) :: starEach es X.env := by rfl) (hpl : (backTo pos (starEach es X.env)).any (·.1) = false := by rfl)
    (ht : eval (.Call (.Attribute o m apos) (e :: es) [] pos) X.env = (do
      let ov ← eval o X.env
      standAt apos.atName
      let (f, first) ← holding [ov] (getMethod ov m pl)
      callWith pos f first (backTo pos (starEach (e :: es) X.env)) (backToKw pos (keywordEach [] X.env))) := by rfl) :
    PE X (.Call (.Attribute o m apos) (e :: es) [] pos) (uMet C m sp (WE W) ta t) := km_of (fun σ => L2N.passAt tk σ) c hr he ha hst hpl ht
theorem kmX0 {W : WX} (tk : L2N.Takes X W) (c : CalM X.prog X.w X.K X.mg X.base k C m sp) (hr : Room k X.A) (he : PE X o ta)
    (ht : eval (.Call (.Attribute o m apos) [] [] pos) X.env = (do
      let ov ← eval o X.env
      standAt apos.atName
      let (f, first) ← holding [ov] (getMethod ov m pl)
      callWith pos f first (backTo pos (starEach [] X.env)) (backToKw pos (keywordEach [] X.env))) := by rfl) :
    PE X (.Call (.Attribute o m apos) [] [] pos) (uMet C m sp (WE W) ta tNil) := km0_of (fun σ => L2N.passAt tk σ) c hr he ht
theorem met_l {E : XK} {a dx : Addr} {fs : List (Str × V)} {σ : L2.St} {H : Hp} {Q : VK} (h : H a = some (.ins C dx fs)) (l : fs.lookup m = none) (q : t σ H fun vs H2 => sp (.ref a :: vs) H2 Q E) : uMet.uMt C m sp E t σ (.ref a) H Q := ⟨dx, fs, h, l, q⟩
/-- x(args): an instance made; the last defaults fill up -/
def uMake (C : Addr) (sp : Sp) (dvs : List V) (t : TA) : TE := fun σ H Q => t σ H fun vs H1 => ∀ x dx, H1 x = none → H1 dx = none → dx ≠ x → sp (.ref x :: (vs ++ dvs)) (upd (upd H1 dx (.own x)) x (.ins C dx [])) (fun v H2 => v = .non ∧ Q (.ref x) H2) E0
theorem pass0 : Passes (L2N.CX X.prog X.w) X E0 := fun _ _ _ _ _ _ _ h => by
  obtain ⟨_, _, _, _, _, _, _, _, _, _, _, _, z⟩ := h
  exact z.elim
theorem kmk {dvs : List V} (j : Nat) (c : CalI X.prog X.w X.K X.mg X.base k x C dvs sp) (hr : Room (k + 1) X.A) (ha : PA X (e :: es) t) (hj : j ≤ dvs.length := by decide) (hg : Gl X x := by rfl) (hdb : (x == ("__debug__" : Str)) = false := by decide)
    (he : starEach (e :: es) X.env = (false, eval e X.env) :: starEach es X.env := by rfl) (hpl : (backTo pos (starEach es X.env)).any (·.1) = false := by rfl) : PE X (.Call (.Name x p) (e :: es) [] pos) (uMake C sp (dvs.drop j) t) := by
  obtain ⟨hm, f, fd, ps, M, F, hb⟩ := c
  obtain ⟨ds, hd, b⟩ := hb j hj
  exact pe_make M F hr hg hm b hd pass0 ha hdb he hpl
theorem kmk0 {dvs : List V} (c : CalI X.prog X.w X.K X.mg X.base k x C dvs sp) (hr : Room (k + 1) X.A) (hg : Gl X x := by rfl) (hdb : (x == ("__debug__" : Str)) = false := by decide) : PE X (.Call (.Name x p) [] [] pos) (uMake C sp dvs tNil) := by
  obtain ⟨hm, f, fd, ps, M, F, hb⟩ := c
  obtain ⟨ds, hd, b⟩ := hb 0 (Nat.zero_le _)
  exact pe_make0 M F hr hg hm b hd pass0 hdb
end
end KW

set_option Elab.async false
set_option linter.all false
set_option maxRecDepth 100000
set_option maxHeartbeats 4000000
/-! Kw2c: del xs[a:] of a list -/
namespace KW
open PySem PySem.Spec PyProof.Rows L2
theorem fm_take {α : Type} (p : Nat → Bool) (a : Nat) : ∀ (l : List α) (j : Nat), (∀ k, j ≤ k → k < j + l.length → p k = decide (a ≤ k)) → (l.zipIdx j).filterMap (fun x => if p x.2 = true then none else some x.1) = l.take (a - j)
  | [], j, _ => by simp
  | x :: l, j, h => by
    have h0 := h j (Nat.le_refl _) (by simp)
    have ih := fm_take p a l (j + 1) fun k h1 h2 => h k (by omega) (by simp only [List.length_cons]; omega)
    rw [List.zipIdx_cons, List.filterMap_cons]
    by_cases c : a ≤ j
    · simp only [h0, c, decide_true, if_true]
      rw [ih, show a - j = 0 by omega, show a - (j + 1) = 0 by omega]
      simp
    · simp only [h0, c, decide_false, Bool.false_eq_true, if_false]
      rw [ih, show a - j = (a - (j + 1)) + 1 by omega]
      rfl
section
variable {prog : Program} {w : World} {A : Around} {E : Value → Shared → Prop} {s : Shared}
theorem bounds_from (a n : Nat) : sliceBounds (some (a : Int)) none none n = (((min a n : Nat) : Int), (n : Int), 1) := by
  simp only [sliceBounds, Option.getD_none]
  have h1 : ¬ ((a : Int) < 0) := by omega
  simp only [h1, if_false, show (1 : Int) > 0 by decide, if_true]
  congr 1
  omega
theorem delItem_cut {l sl : Addr} {items : Array Value} {n : Nat} {vl : Value} {a : Nat} {Q : Unit → Shared → Prop}
    (e : s.heap.get? l = some { cls := .type "list", data := .seq items n })
    (hs : s.heap.IsSliceOf sl vl .none .none) (pl : IsPart vl (some (a : Int)))
    (hsz : items.size ≤ sizeLine) (h : ∀ F : Array Value → Array Value, F items = (items.toList.take a).toArray → Q () { s with heap := s.heap.update l (Obj.mapSeq F) }) :
    wpAny (model prog w) A (delItem (.ref l) (.ref sl)) Q E s := by
  have hl : s.heap.IsList l items := PySem.IsL.isList e
  obtain ⟨os, hos, hcs, hds⟩ := id hs
  have hTs : s.TypeIs (.ref sl) "slice" := ⟨os, hos, hcs⟩
  have hstep : ¬ ((rawPart none == rawInt 0) = true) := Bool.false_ne_true
  refine wpAny_delItem_slot hl.typeIs (by decide) PySem.F.slot_list_delitem ?_
  refine wpAny_call_entry PySem.F.slot_list_delitem hl.typeIs PySem.F.entry_list_delitem ?_ (PySem.F.args_list_delitem_2 _ _)
  show wpAny _ _ (Builtin.List.listSubscript? (.ref sl) >>= _) _ _ s
  refine wpAny_bind ?_
  unfold Builtin.List.listSubscript?
  refine wpAny_bind (wpAny_specialOf hTs slice_no_index ?_)
  simp only [Option.isNone_none, if_true]
  refine wpAny_pure ?_
  show wpAny _ _ (typeOf (.ref sl) >>= _) _ _ s
  refine wpAny_bind (wpAny_typeOf hTs ?_)
  first
    | rw [if_neg (by decide)]
    | refine PySem.W.KFB.if_not (by decide) ?_
  rw [listSliceParts_eq]
  refine wpAny_bind (wpAny_bind (wpAny_field hos hds (x := .none) rfl (wpAny_bind (wpAny_listPart .none ?_))))
  rw [if_neg hstep]
  refine wpAny_bind (wpAny_field hos hds (x := vl) rfl (wpAny_bind (wpAny_listPart pl ?_)))
  refine wpAny_bind (wpAny_field hos hds (x := .none) rfl (wpAny_bind (wpAny_listPart .none (wpAny_pure ?_))))
  unfold Builtin.List.listItems
  refine wpAny_bind (wpAny_bind (wpAny_seqItems e rfl (wpAny_pure ?_)))
  refine wpAny_bind (wpAny_of_eq ((sliceIndices_raw (some (a : Int)) none none items.size (by simp)).trans (congrArg (pure : Int × Int × Int → Sem (Int × Int × Int)) (bounds_from a items.size))) ?_)
  refine wpAny_bind (wpAny_rule ?_)
  have key : ∀ (p : Nat → Bool), (∀ k, k < items.size → p k = decide (a ≤ k)) → (List.filterMap (fun x : Value × Nat => if p x.2 = true then none else some x.1) items.toList.zipIdx).toArray = (items.toList.take a).toArray := fun p hp => by
    rw [fm_take p a items.toList 0 fun k _ h2 => hp k (by rw [Array.length_toList] at h2; omega)]
    rfl
  refine wpAny_bind (m := Builtin.List.listUpdate (.ref l) _) ?_
  show wpAny _ _ (updateSeq l _) _ _ _
  have kk : ∀ k, k < items.size → (if (1 : Int) > 0 then decide (((min a items.size : Nat) : Int) ≤ (k : Int)) && decide ((k : Int) < (items.size : Int)) && (((k : Int) - ((min a items.size : Nat) : Int)) % 1 == 0) else false) = decide (a ≤ k) := fun k hk => by
    rw [if_pos (by decide)]
    have e1 : (((k : Int) - ((min a items.size : Nat) : Int)) % 1 == 0) = true := by rw [Int.emod_one]; rfl
    rw [e1, Bool.and_true]
    by_cases c : a ≤ k
    · rw [decide_eq_true c, decide_eq_true (by omega), decide_eq_true (by omega)]
      rfl
    · rw [decide_eq_false c, decide_eq_false (by omega)]
      rfl
  refine wpAny_updateSeq (hz := hsz) (_hz' := ?z) e rfl ?_
  case z =>
    refine Nat.le_trans (Nat.le_of_eq (congrArg Array.size (key _ ?_))) ?_
    · exact fun k hk => (kk k hk)
    · rw [List.size_toArray, List.length_take, Array.length_toList]
      omega
  refine wpAny_bind (wpAny_letGo ?_)
  refine wpAny_pure ⟨.none, rfl, h _ (key _ ?_)⟩
  exact fun k hk => (kk k hk)
end
section
variable {X : Cx}
/-- del xs[a:] -/
def uDelC : V → Option Int → Hp → (Hp → Prop) → Prop
  | .ref l, some a, H, Q => ∃ xs, H l = some (.lst xs) ∧ 0 ≤ a ∧ Q (upd H l (.lst (xs.take a.toNat)))
  | _, _, _, _ => False
def uDelSl (to ti : TE) : TS := fun D σ H => to σ H fun x H1 => tPart ti σ H1 fun l H2 => uDelC x l H2 fun H3 => D.nx σ H3
theorem dels_l {H : Hp} {p : Addr} {xs : List V} {a : Int} {Q : Hp → Prop} (h : H p = some (.lst xs)) (e : 0 ≤ a) (q : Q (upd H p (.lst (xs.take a.toNat)))) : uDelC (.ref p) (some a) H Q := ⟨xs, h, e, q⟩
theorem k_delsl {o i : Expr} {to ti : TE} {p2 tpos pos : Pos} (ho : PE X o to) (hi : PE X i ti) : PS X (.Delete [.Subscript o (.Slice (some i) none none p2) tpos] pos) (uDelSl to ti) := by
  refine ⟨fun pins s σ H D I h => ?_⟩
  refine wpAny_Delete (wpAny_deleteEach_cons (wpAny_delete_Subscript (thn (ho.run pins s σ H _ I h) fun u s1 ⟨x, H1, I1, rx, q1⟩ => ?_)))
  refine wpAny_Slice (thn ((po_some hi).run pins s1 σ H1 _ I1 q1) fun vl s2 ⟨l, H2, I2, pl, q2⟩ => ?_)
  rw [evalPart_none]
  refine wpAny_pure (wpAny_pure ?_)
  have I4 : Inv X pins σ H2 { s2 with heap := s2.heap.push { cls := .type "slice", data := .fields #[vl, .none, .none] } } := I2.kept (t' := s2.toks) fun b ob q => Heap.get?_push_of_some _ q
  unfold uDelC at q2
  split at q2
  · rename_i w1 p a w2
    obtain ⟨xs, hH, h0, q2⟩ := q2
    obtain rfl : u = Value.ref p := rx
    obtain ⟨a', rfl⟩ := Int.eq_ofNat_of_zero_le h0
    obtain ⟨z, its, n, r, hl, e⟩ := I4.lstM hH
    rw [Int.toNat_natCast] at q2
    refine delItem_cut (a := a') e (Heap.IsSliceOf.new ..) pl (by rw [List.size_toArray]; omega) fun F hF => wpAny_deleteEach_nil ⟨σ, _, ?_, q2⟩
    refine I4.lset (its' := its.take a') (t' := s2.toks) hH e hF (r.take _) ?_
    rw [List.length_take]
    omega
  · exact q2.elim
end
end KW

set_option Elab.async false
set_option linter.all false
set_option maxRecDepth 100000
set_option maxHeartbeats 4000000
/-! Kw2d: dicts, texts and built-ins -/
namespace KW
open PySem PySem.Spec PyProof.Rows L2
section
variable {X : Cx} {o i e value : Expr} {pos pos' tpos : Pos} {td ty tv : TE}
/-- d[y] -/
def uDGet : V → V → Hp → VK → Prop
  | .ref a, .int i, H, Q => ∃ kvs v, H a = some (.dK kvs) ∧ valV kvs (.inl i) = some v ∧ Q v H
  | .ref a, .str i, H, Q => ∃ kvs v, H a = some (.dK kvs) ∧ valV kvs (.inr i) = some v ∧ Q v H
  | _, _, _, _ => False
theorem uDGet_of {x y : V} {H2 : Hp} {Q : VK} (q : uDGet x y H2 Q) : ∃ a v, x = .ref a ∧ DGet H2 a y (some v) ∧ Q v H2 := by
  unfold uDGet at q
  split at q
  · obtain ⟨kvs, v, h1, h2, q⟩ := q
    exact ⟨_, v, rfl, by rw [← h2]; exact DGet.k (k := .inl _) h1, q⟩
  · obtain ⟨kvs, v, h1, h2, q⟩ := q
    exact ⟨_, v, rfl, by rw [← h2]; exact DGet.k (k := .inr _) h1, q⟩
  · exact q.elim
def tDG (td ty : TE) : TE := fun σ H Q => td σ H fun x H1 => ty σ H1 fun y H2 => uDGet x y H2 Q
theorem k_dget (hu : X.A.units + 1 < cLine) (ho : PE X o td) (hi : PE X i ty) (hs : NoSl i := by intro _ _; rfl) : PE X (.Subscript o i pos) (tDG td ty) := by
  refine ⟨fun pins s σ H Q I h => ?_⟩
  refine subD_of PySem.F.slot_dict_getitem.lookup hs (thn (ho.run pins s σ H _ I h) fun u s1 ⟨x, H1, I1, rx, q1⟩ => thn (hi.run pins s1 σ H1 _ I1 q1) fun iv s2 ⟨y, H2, I2, ry, q2⟩ => ?_)
  obtain ⟨a, v, ex, g, q5⟩ := uDGet_of q2
  subst ex
  obtain rfl : u = Value.ref a := rx
  exact ⟨dict_typeIs I2 g, d_getItem hu I2 g ry fun w' s3 I3 rw' => ⟨v, H2, I3, rw', q5⟩⟩
/-- y in d -/
def uDIn : V → V → Hp → (Bool → Prop) → Prop
  | .int i, .ref a, H, Q => ∃ kvs, H a = some (.dK kvs) ∧ Q (valV kvs (.inl i)).isSome
  | .str i, .ref a, H, Q => ∃ kvs, H a = some (.dK kvs) ∧ Q (valV kvs (.inr i)).isSome
  | _, _, _, _ => False
theorem uDIn_of {x y : V} {H2 : Hp} {Q : Bool → Prop} (q : uDIn y x H2 Q) : ∃ a o, x = .ref a ∧ DGet H2 a y o ∧ Q o.isSome := by
  unfold uDIn at q
  split at q
  · obtain ⟨kvs, h1, q⟩ := q
    exact ⟨_, _, rfl, DGet.k (k := .inl _) h1, q⟩
  · obtain ⟨kvs, h1, q⟩ := q
    exact ⟨_, _, rfl, DGet.k (k := .inr _) h1, q⟩
  · exact q.elim
def tDI (ty td : TE) : TE := fun σ H Q => ty σ H fun y H1 => td σ H1 fun x H2 => uDIn y x H2 fun b => Q (.bl b) H2
def tDNI (ty td : TE) : TE := fun σ H Q => ty σ H fun y H1 => td σ H1 fun x H2 => uDIn y x H2 fun b => Q (.bl (!b)) H2
theorem k_din (hu : X.A.units + 1 < cLine) (hi : PE X i ty) (ho : PE X o td) : PC X .In i o (tDI ty td) := by
  refine ⟨fun pins s σ H Q I h => ?_⟩
  refine thn (hi.run pins s σ H _ I h) fun iv s1 ⟨y, H1, I1, ry, q1⟩ => thn (ho.run pins s1 σ H1 _ I1 q1) fun u s2 ⟨x, H2, I2, rx, q2⟩ => ?_
  obtain ⟨a, ov, ex, g, q5⟩ := uDIn_of q2
  subst ex
  obtain rfl : u = Value.ref a := rx
  exact d_in hu I2 g ry fun s3 I3 => ⟨.bl ov.isSome, H2, I3, rfl, q5⟩
theorem k_dnotin (hu : X.A.units + 1 < cLine) (hi : PE X i ty) (ho : PE X o td) : PC X .NotIn i o (tDNI ty td) := by
  refine ⟨fun pins s σ H Q I h => ?_⟩
  refine thn (hi.run pins s σ H _ I h) fun iv s1 ⟨y, H1, I1, ry, q1⟩ => thn (ho.run pins s1 σ H1 _ I1 q1) fun u s2 ⟨x, H2, I2, rx, q2⟩ => ?_
  obtain ⟨a, ov, ex, g, q5⟩ := uDIn_of q2
  subst ex
  obtain rfl : u = Value.ref a := rx
  exact d_notIn hu I2 g ry fun s3 I3 => ⟨.bl (!ov.isSome), H2, I3, rfl, q5⟩
/-- d[y] = v -/
def uDPut : V → V → V → Hp → (Hp → Prop) → Prop
  | .ref a, .int i, v, H, Q => ∃ kvs, H a = some (.dK kvs) ∧ kvs.length < sizeLine ∧ Q (upd H a (.dK (putK kvs (.inl i) v)))
  | .ref a, .str i, v, H, Q => ∃ kvs, H a = some (.dK kvs) ∧ kvs.length < sizeLine ∧ Q (upd H a (.dK (putK kvs (.inr i) v)))
  | _, _, _, _, _ => False
theorem uDPut_of {x y v : V} {H : Hp} {Q : Hp → Prop} (q : uDPut x y v H Q) : ∃ a H4, x = .ref a ∧ DPut H a y v H4 ∧ Q H4 := by
  unfold uDPut at q
  split at q
  · obtain ⟨kvs, h1, h2, q⟩ := q
    exact ⟨_, _, rfl, DPut.k (k := .inl _) h1 h2, q⟩
  · obtain ⟨kvs, h1, h2, q⟩ := q
    exact ⟨_, _, rfl, DPut.k (k := .inr _) h1 h2, q⟩
  · exact q.elim
def tDP (td ty tv : TE) : TS := fun D σ H => tv σ H fun v H1 => td σ H1 fun x H2 => ty σ H2 fun y H3 => uDPut x y v H3 fun H4 => D.nx σ H4
theorem k_dput (hu : X.A.units + 1 < cLine) (ho : PE X o td) (hi : PE X i ty) (hv : PE X value tv) (hs : swapsWith value (some (.Subscript o i pos')) pos.line X.env = pure false := by rfl) :
    PS X (.Assign [.Subscript o i pos'] value pos) (tDP td ty tv) := by
  refine ⟨fun pins s σ H D I h => ?_⟩
  refine wpAny_Assign_Subscript (thn (hv.run pins s σ H _ I h) fun r s1 ⟨v, H1, I1, rv, q1⟩ => thn (ho.run pins s1 σ H1 _ I1 q1) fun u s2 ⟨x, H2, I2, rx, q2⟩ => thn (hi.run pins s2 σ H2 _ I2 q2) fun iv s3 ⟨y, H3, I3, ry, q3⟩ => ?_) hs
  obtain ⟨a, H4, ex, g, q5⟩ := uDPut_of q3
  subst ex
  obtain rfl : u = Value.ref a := rx
  exact d_setItem hu I3 g ry rv fun s4 I4 => ⟨σ, H4, I4, q5⟩
/-- del d[y] -/
def uDDel : V → V → Hp → (Hp → Prop) → Prop
  | .ref a, .int i, H, Q => ∃ kvs, H a = some (.dK kvs) ∧ (valV kvs (.inl i)).isSome = true ∧ Q (upd H a (.dK (dropK kvs (.inl i))))
  | .ref a, .str i, H, Q => ∃ kvs, H a = some (.dK kvs) ∧ (valV kvs (.inr i)).isSome = true ∧ Q (upd H a (.dK (dropK kvs (.inr i))))
  | _, _, _, _ => False
theorem uDDel_of {x y : V} {H2 : Hp} {Q : Hp → Prop} (q : uDDel x y H2 Q) : ∃ a kvs k, x = .ref a ∧ H2 a = some (.dK kvs) ∧ y = kV k ∧ (valV kvs k).isSome = true ∧ Q (upd H2 a (.dK (dropK kvs k))) := by
  unfold uDDel at q
  split at q
  · obtain ⟨kvs, h1, h2, q⟩ := q
    exact ⟨_, kvs, .inl _, rfl, h1, rfl, h2, q⟩
  · obtain ⟨kvs, h1, h2, q⟩ := q
    exact ⟨_, kvs, .inr _, rfl, h1, rfl, h2, q⟩
  · exact q.elim
def tDD (td ty : TE) : TS := fun D σ H => td σ H fun x H1 => ty σ H1 fun y H2 => uDDel x y H2 fun H3 => D.nx σ H3
theorem k_ddel (ho : PE X o td) (hi : PE X i ty) : PS X (.Delete [.Subscript o i tpos] pos) (tDD td ty) := by
  refine ⟨fun pins s σ H D I h => ?_⟩
  refine wpAny_Delete (wpAny_deleteEach_cons (wpAny_delete_Subscript (thn (ho.run pins s σ H _ I h) fun u s1 ⟨x, H1, I1, rx, q1⟩ => thn (hi.run pins s1 σ H1 _ I1 q1) fun iv s2 ⟨y, H2, I2, ry, q2⟩ => ?_)))
  obtain ⟨a, kvs, k, ex, e, ey, l, q5⟩ := uDDel_of q2
  subst ex ey
  obtain rfl : u = Value.ref a := rx
  exact d_delItem I2 e ry l fun s3 I3 => wpAny_deleteEach_nil ⟨σ, _, I3, q5⟩
end
section
variable {H : Hp} {a : Addr} {kvs : List (Key × V)} {v : V} {i : Int} {x : Str}
theorem dget_i {Q : VK} (h : H a = some (.dK kvs)) (e : valV kvs (.inl i) = some v) (q : Q v H) : uDGet (.ref a) (.int i) H Q := ⟨kvs, v, h, e, q⟩
theorem dget_s {Q : VK} (h : H a = some (.dK kvs)) (e : valV kvs (.inr x) = some v) (q : Q v H) : uDGet (.ref a) (.str x) H Q := ⟨kvs, v, h, e, q⟩
theorem din_i {Q : Bool → Prop} (h : H a = some (.dK kvs)) (q : Q (valV kvs (.inl i)).isSome) : uDIn (.int i) (.ref a) H Q := ⟨kvs, h, q⟩
theorem din_s {Q : Bool → Prop} (h : H a = some (.dK kvs)) (q : Q (valV kvs (.inr x)).isSome) : uDIn (.str x) (.ref a) H Q := ⟨kvs, h, q⟩
theorem dput_i {Q : Hp → Prop} (h : H a = some (.dK kvs)) (e : kvs.length < sizeLine) (q : Q (upd H a (.dK (putK kvs (.inl i) v)))) : uDPut (.ref a) (.int i) v H Q := ⟨kvs, h, e, q⟩
theorem dput_s {Q : Hp → Prop} (h : H a = some (.dK kvs)) (e : kvs.length < sizeLine) (q : Q (upd H a (.dK (putK kvs (.inr x) v)))) : uDPut (.ref a) (.str x) v H Q := ⟨kvs, h, e, q⟩
theorem ddel_i {Q : Hp → Prop} (h : H a = some (.dK kvs)) (e : (valV kvs (.inl i)).isSome = true) (q : Q (upd H a (.dK (dropK kvs (.inl i))))) : uDDel (.ref a) (.int i) H Q := ⟨kvs, h, e, q⟩
theorem ddel_s {Q : Hp → Prop} (h : H a = some (.dK kvs)) (e : (valV kvs (.inr x)).isSome = true) (q : Q (upd H a (.dK (dropK kvs (.inr x))))) : uDDel (.ref a) (.str x) H Q := ⟨kvs, h, e, q⟩
end
/-! ### built-ins -/
section
variable {X : Cx}
/-- list(xs): of a list or a tuple -/
def uList (K : Frag) : List V → Hp → VK → Prop
  | [.ref p], H, Q => ∃ ys, (SqL K H p ys ∨ SqT K H p ys) ∧ ∀ l, H l = none → Q (.ref l) (upd H l (.lst ys))
  | _, _, _ => False
theorem c_list : CallR X (.type "list") (uList X.K) := CallRw call_list_of fun xs H Q h => by
  unfold uList at h
  split at h
  · obtain ⟨ys, hs, q⟩ := h
    exact ⟨_, ys, rfl, hs, q⟩
  · exact h.elim
theorem list_l {K : Frag} {H : Hp} {p : Addr} {ys : List V} {Q : VK} (h : H p = some (.lst ys)) (q : ∀ l, H l = none → Q (.ref l) (upd H l (.lst ys))) : uList K [.ref p] H Q := ⟨ys, .inl (.of h), q⟩
theorem list_t {K : Frag} {H : Hp} {p : Addr} {ys : List V} {Q : VK} (h : H p = some (.tup ys)) (q : ∀ l, H l = none → Q (.ref l) (upd H l (.lst ys))) : uList K [.ref p] H Q := ⟨ys, .inr (.of h), q⟩
theorem list_sl {K : Frag} {H : Hp} {p : Addr} {ys : List V} {Q : VK} (h : SqL K H p ys) (q : ∀ l, H l = none → Q (.ref l) (upd H l (.lst ys))) : uList K [.ref p] H Q := ⟨ys, .inl h, q⟩
/-- str(x) -/
def uStr : List V → Hp → VK → Prop
  | [.int i], H, Q => i.natAbs.log2 < 1920 ∧ Q (.str (toString i)) H
  | [.str a], H, Q => Q (.str a) H
  | _, _, _ => False
theorem c_str : CallR X (.type "str") uStr := CallRw (r := fun xs H Q => (∃ i, xs = [.int i] ∧ i.natAbs.log2 < 1920 ∧ Q (.str (toString i)) H) ∨ ∃ a, xs = [.str a] ∧ Q (.str a) H) (by
  intro pins s σ H xs us Q I r h
  rcases h with h | h
  · exact call_str_int pins s σ H xs us Q I r h
  · exact SkE.call_str_str pins s σ H xs us Q I r h) fun xs H Q h => by
  unfold uStr at h
  split at h
  · exact .inl ⟨_, rfl, h.1, h.2⟩
  · exact .inr ⟨_, rfl, h⟩
  · exact h.elim
/-- text * k -/
theorem foldl_cps (a : Array Nat) : ∀ (m : Nat) (acc : Array Nat), (List.replicate m a).foldl (· ++ ·) acc = acc ++ (List.replicate m a.toList).flatten.toArray
  | 0, acc => by simp
  | m + 1, acc => by
    rw [List.replicate_succ, List.foldl_cons, foldl_cps a m, List.replicate_succ, List.flatten_cons]
    apply Array.toList_inj.mp
    simp
def repS (a : Str) (k : Nat) : Str := S (List.replicate k a.cps.toList).flatten
theorem repS_len (a : Str) (k : Nat) : (repS a k).length = a.length * k := by
  unfold repS
  rw [S_len]
  have : ∀ k, ((List.replicate k a.cps.toList).flatten).length = a.cps.toList.length * k := fun k => by
    induction k with
    | zero => simp
    | succ k ih => rw [List.replicate_succ, List.flatten_cons, List.length_append, ih, Nat.mul_succ, Nat.add_comm]
  rw [this]
  rfl
theorem op_repS : OpR X (binaryOp .Mult) (fun x y H Q => ∃ a k, x = .str a ∧ y = .int k ∧ 0 ≤ k ∧ k ≤ 1000000 ∧ a.length * k.toNat ≤ sizeLine ∧ Q (.str (repS a k.toNat)) H) := by
  intro pins s σ H x y v u Q I rx ry h
  obtain ⟨a, k, rfl, rfl, h0, h1, hz, q⟩ := h
  obtain ⟨t, rfl⟩ := rx
  obtain ⟨tu, rfl⟩ := ry
  have e1 : (decide (k < -(2 ^ 63 : Int)) || decide (k ≥ 2 ^ 63)) = false := by
    rw [decide_eq_false (by omega), decide_eq_false (by omega)]; rfl
  have hs : sizeLine = 16777216 := sizeLine_eq
  have tl : Builtin.Str.tooLong (a.length * k.toNat) = false := by
    first
      | exact decide_eq_false (by omega)
      | (unfold Builtin.Str.tooLong; exact decide_eq_false (by omega))
      | (unfold Builtin.Str.tooLong; simp; omega)
  refine PySem.P.mul_str e1 (fun h2 h3 => ?_) (fun _ _ => tl) ?_
  · have h4 : (k == 1 || a.length == 0) = false := h3
    have p : 1 ≤ k := by omega
    have hl : (a.length : Int) ≤ 16777216 := by
      have : a.length * 1 ≤ a.length * k.toNat := Nat.mul_le_mul_left _ (by omega)
      omega
    have : (16777216 : Int) ≤ (2 ^ 63 - 1) / k := by
      rw [Int.le_ediv_iff_mul_le (by omega)]
      omega
    omega
  · by_cases c : k < 1
    · rw [if_pos c]
      have e : k = 0 := by omega
      subst e
      exact ⟨by decide, ⟨.str _, H, I.tok _, ⟨_, rfl⟩, q⟩⟩
    · rw [if_neg c]
      by_cases c2 : (k == 1 || a.length == 0) = true
      · rw [if_pos c2]
        have e : repS a k.toNat = a := by
          rcases (by simpa using c2 : k = 1 ∨ a.length = 0) with e | e
          · subst e
            show S (List.replicate 1 a.cps.toList).flatten = a
            rw [show (List.replicate 1 a.cps.toList).flatten = a.cps.toList by simp, S_tl]
          · have l0 : (repS a k.toNat).length = 0 := by rw [repS_len, e, Nat.zero_mul]
            have z : ∀ x : Str, x.length = 0 → x = S [] := fun x hx => by
              rw [← S_tl x]
              have : x.cps.toList = [] := List.eq_nil_of_length_eq_zero (by have : x.cps.toList.length = x.length := rfl; omega)
              rw [this]
            rw [z _ l0, z _ e]
        rw [e] at q
        exact ⟨.str _, H, I, ⟨_, rfl⟩, q⟩
      · rw [if_neg c2]
        have e : (⟨(List.replicate k.toNat a.cps).foldl (· ++ ·) #[]⟩ : Str) = repS a k.toNat := by
          rw [foldl_cps]
          unfold repS
          show _ = Str.mk _
          congr 1
          simp
        rw [e]
        exact ⟨by rw [repS_len]; exact hz, ⟨.str _, H, I.tok _, ⟨_, rfl⟩, q⟩⟩
/-- times: ints, texts, lists -/
def uMul2 : R2
  | .int i, .int j, H, Q => (CMul i j ∨ CMulW i j ∨ CMulX i j) ∧ Q (.int (i * j)) H
  | .str a, .int k, H, Q => 0 ≤ k ∧ k ≤ 1000000 ∧ a.length * k.toNat ≤ sizeLine ∧ Q (.str (repS a k.toNat)) H
  | .ref l, .int k, H, Q => ∃ xs, H l = some (.lst xs) ∧ 0 ≤ k ∧ k ≤ 1000000 ∧ xs.length * k.toNat ≤ sizeLine ∧ ∀ p, H p = none → Q (.ref p) (upd H p (.lst (List.replicate k.toNat xs).flatten))
  | _, _, _, _ => False
theorem o_mul2 : OpR X (binaryOp .Mult) uMul2 := OpRw (op_mul.or (op_mulW.or (op_mulX.or (op_repS.or op_rep)))) fun x y H Q h => by
  unfold uMul2 at h
  split at h
  · obtain ⟨c | c | c, h⟩ := h
    · exact .inl ⟨_, _, rfl, rfl, c, h⟩
    · exact .inr (.inl ⟨_, _, rfl, rfl, c, h⟩)
    · exact .inr (.inr (.inl ⟨_, _, rfl, rfl, c, h⟩))
  · exact .inr (.inr (.inr (.inl ⟨_, _, rfl, rfl, h.1, h.2.1, h.2.2.1, h.2.2.2⟩)))
  · obtain ⟨xs, h1, h2, h3, h4, q⟩ := h
    exact .inr (.inr (.inr (.inr ⟨_, _, xs, rfl, rfl, h1, by omega, by omega, h4, q⟩)))
  · exact h.elim
theorem mul2_l {i j : Int} (h : -18446744073709551616 < i ∧ i < 18446744073709551616) : CMul i j ∨ CMulW i j ∨ CMulX i j := .inl (.inl ⟨by omega, by omega⟩)
theorem mul2_r {i j : Int} (h : -18446744073709551616 < j ∧ j < 18446744073709551616) : CMul i j ∨ CMulW i j ∨ CMulX i j := .inl (.inr ⟨by omega, by omega⟩)
theorem rep_l {H : Hp} {l : Addr} {k : Int} {xs : List V} {Q : VK} (h : H l = some (.lst xs)) (h0 : 0 ≤ k) (h1 : k ≤ 1000000) (h2 : xs.length * k.toNat ≤ sizeLine) (q : ∀ p, H p = none → Q (.ref p) (upd H p (.lst (List.replicate k.toNat xs).flatten))) : uMul2 (.ref l) (.int k) H Q := ⟨xs, h, h0, h1, h2, q⟩
end
end KW

set_option Elab.async false
set_option linter.all false
set_option maxRecDepth 100000
set_option maxHeartbeats 4000000
/-! Kw2e: what the top leaves, made; case lemmas; steps -/
namespace KW
open PySem PySem.Spec PyProof.Rows L2
section
variable {K : Frag} {mg : Str → Option Value} {h : Heap} {x m qual : Str} {C f T : Addr} {st : Stmt} {ns ps : List Str} {oc : Value} {od an : Option Addr} {osl : Array (Option Value)} {kV doc pm cdv ct : Value}
theorem clsA_mk (X : K.In h) (G : h.Ns mainGlobals mg) (a : PySem.W.nsIn K mainGlobals x = some (some (.ref C))) (pg : PySem.W.plainGet K C Str.empty = true) (hd : PySem.W.hasDictIn K C = true) (po : PySem.W.plainOver K C = true)
    (sa : PySem.W.findIn K (.ref C) "__setattr__" = some (some (.builtin "object.__setattr__"))) (no : ∀ f ∈ ns, PySem.W.findIn K (.ref C) f = some none) : ClsA K mg x C ns :=
  ⟨PySem.W.mg_of X G a, ⟨pg, hd, po, sa⟩, no⟩
theorem metAt_mk (a : PySem.W.findIn K (.ref C) m = some (some (.ref f))) (fn : PySem.W.isFn K (.ref f) = true) (kp : PySem.W.keepIn K (.ref f) = true)
    (l : K.lookup f = some ⟨oc, od, .func (PySem.W.fnOf m qual (defArgs st) (defBody st) (defScope st) .none kV doc pm an cdv ct), osl⟩) (c : PySem.W.codeIn K cdv qual = true)
    (hb : ∀ (kV doc pm : Value) (an : Option Addr) (cdv ct : Value) (us : List Value), us.length = ps.length → bindArgs (PySem.W.fnOf m qual (defArgs st) (defBody st) (defScope st) .none kV doc pm an cdv ct) ⟨us, []⟩ = pure (ps.zip us)) : MetAt K C m qual st ps := by
  have F : FunD K m qual (defArgs st) (defBody st) (defScope st) [] [] f _ := ⟨⟨oc, od, .none, kV, doc, pm, an, cdv, ct, osl, rfl, l, c, .inl ⟨rfl, rfl⟩, .inl rfl⟩, kp⟩
  exact ⟨f, ⟨a, fn, kp⟩, _, F, fun j hj => ⟨[], by simpa using Paired.nil, F.bindsN hb⟩⟩
theorem iniAt_mk (kc : PySem.W.keepIn K (.ref C) = true) (mk : PySem.W.makesIn K C = true) (a : PySem.W.findIn K (.ref C) "__init__" = some (some (.ref f))) (fn : PySem.W.isFn K (.ref f) = true) (kp : PySem.W.keepIn K (.ref f) = true)
    (l : K.lookup f = some ⟨oc, od, .func (PySem.W.fnOf "__init__" qual (defArgs st) (defBody st) (defScope st) .none kV doc pm an cdv ct), osl⟩) (c : PySem.W.codeIn K cdv qual = true)
    (hb : ∀ (kV doc pm : Value) (an : Option Addr) (cdv ct : Value) (us : List Value), us.length = ps.length → bindArgs (PySem.W.fnOf "__init__" qual (defArgs st) (defBody st) (defScope st) .none kV doc pm an cdv ct) ⟨us, []⟩ = pure (ps.zip us)) : IniAt K C qual st ps [] := by
  have F : FunD K "__init__" qual (defArgs st) (defBody st) (defScope st) [] [] f _ := ⟨⟨oc, od, .none, kV, doc, pm, an, cdv, ct, osl, rfl, l, c, .inl ⟨rfl, rfl⟩, .inl rfl⟩, kp⟩
  exact ⟨f, ⟨mk, a, fn, kc⟩, _, F, fun j hj => ⟨[], by simpa using Paired.nil, F.bindsN hb⟩⟩
theorem iniAt_mkD {dvs : List V} {its : List Value} {o : Obj} {n : Nat} (kc : PySem.W.keepIn K (.ref C) = true) (mk : PySem.W.makesIn K C = true) (a : PySem.W.findIn K (.ref C) "__init__" = some (some (.ref f))) (fn : PySem.W.isFn K (.ref f) = true) (kp : PySem.W.keepIn K (.ref f) = true)
    (l : K.lookup f = some ⟨oc, od, .func (PySem.W.fnOf "__init__" qual (defArgs st) (defBody st) (defScope st) (.ref T) kV doc pm an cdv ct), osl⟩) (c : PySem.W.codeIn K cdv qual = true)
    (lT : K.lookup T = some o) (oT : o.data = .seq its.toArray n) (r : Vals dvs its) (hd : dvs ≠ []) (hl : dvs.length ≤ ps.length)
    (hb : ∀ j, j ≤ dvs.length → ∀ (T : Addr) (kV doc pm : Value) (an : Option Addr) (cdv ct : Value) (us its : List Value), us.length = ps.length - (dvs.length - j) → its.length = dvs.length →
      ∃ k, bindArgs (PySem.W.fnOf "__init__" qual (defArgs st) (defBody st) (defScope st) (.ref T) kV doc pm an cdv ct) ⟨us, []⟩ = seqItems? (.ref T) >>= k ∧ k (some its.toArray) = pure (ps.zip (us ++ its.drop j))) : IniAt K C qual st ps dvs := by
  have F : FunD K "__init__" qual (defArgs st) (defBody st) (defScope st) dvs [] f _ := ⟨⟨oc, od, .ref T, kV, doc, pm, an, cdv, ct, osl, rfl, l, c, .inr ⟨hd, T, o, its, n, rfl, lT, oT, r⟩, .inl rfl⟩, kp⟩
  exact ⟨f, ⟨mk, a, fn, kc⟩, _, F, fun j hj => F.binds1 (ps.length - (dvs.length - j)) j hd (by omega) (hb j hj)⟩
end
/-! ### case lemmas -/
theorem uStr_e1 {i : Int} {H : Hp} {Q : VK} : uStr [.int i] H Q = (i.natAbs.log2 < 1920 ∧ Q (.str (toString i)) H) := rfl
theorem uStr_e2 {a : Str} {H : Hp} {Q : VK} : uStr [.str a] H Q = Q (.str a) H := rfl
theorem uMul2_e1 {i j : Int} {H : Hp} {Q : VK} : uMul2 (.int i) (.int j) H Q = ((CMul i j ∨ CMulW i j ∨ CMulX i j) ∧ Q (.int (i * j)) H) := rfl
theorem uMul2_e2 {a : Str} {k : Int} {H : Hp} {Q : VK} : uMul2 (.str a) (.int k) H Q = (0 ≤ k ∧ k ≤ 1000000 ∧ a.length * k.toNat ≤ sizeLine ∧ Q (.str (repS a k.toNat)) H) := rfl
theorem okS_i {n : Int} : PySem.KErr.okS (.int n) = (n.natAbs < 10 ^ 4300) := rfl
theorem okS_s {x : Str} : PySem.KErr.okS (.str x) = True := rfl
theorem small4300 {n : Int} (h : -100000000000000000000000000000000000000000000000000000000000000000000000000000000 < n ∧ n < 100000000000000000000000000000000000000000000000000000000000000000000000000000000) : n.natAbs < 10 ^ 4300 := by
  refine Nat.lt_of_lt_of_le (show n.natAbs < 10 ^ 80 by omega) (Nat.pow_le_pow_right (by decide) (by decide))
theorem WE_e {W : WX} {σ : L2.St} {c : Value} {d : Option Addr} {H : Hp} : WE W σ c d H = W c d σ H := rfl
/-! ### errors caught or let through -/
section
variable {K : Frag} {c cls : Value} {d : Option Addr} {i : Nat} {ts : Addr → Value → Option Addr → TS} {W : WX} {D : Ends} {σ : L2.St} {H : Hp}
theorem as_yes (h : PySem.W.exmOne K cls c = some true) (q : ∀ a, H a = none → ts a cls d { nx := fun σ' H' => D.nx (σ'.set i none) H', rt := D.rt, bk := fun σ' H' => D.bk (σ'.set i none) H', ct := fun σ' H' => D.ct (σ'.set i none) H' } (σ.set i (some (.ref a))) H) : wAs K c i ts W D cls d σ H :=
  ⟨true, h, ⟨fun _ => q, fun z => absurd z.symm Bool.false_ne_true⟩⟩
theorem as_no (h : PySem.W.exmOne K cls c = some false) (q : W cls d σ H) : wAs K c i ts W D cls d σ H := ⟨false, h, ⟨fun z => absurd z Bool.false_ne_true, fun _ => q⟩⟩
variable {a C dd : Addr} {fs : List (Str × V)} {v : V} {f : Str} {Q : VK} {P : Program} {w : World} {mg : Str → Option Value} {x : Str} {ns : List Str} {ok : List V → Prop}
theorem ef_l (c : ErrC P w K mg x C ns ok) (m : f ∈ ns) (e : σ[i]? = some (some (.ref a))) (h : H dd = some (.xd fs)) (l : fs.lookup f = some v) (q : Q v H) : uEf K a (.ref C) (some dd) i f σ H Q := ⟨C, dd, fs, v, e, rfl, c.xf, c.no f m, rfl, h, l, q⟩
theorem isE_r {b : Addr} {r : Bool} (c : ErrC P w K mg x C ns ok) (h : H dd = some (.xd fs)) (k : PySem.W.kitOne K (.ref C) (.ref b) = some r) (q : Q (.bl r) H) : uIsE K a (.ref C) (some dd) [.ref a, .ref b] H Q := ⟨C, dd, fs, r, rfl, rfl, c.is, rfl, h, k, q⟩
theorem isE_t {T : String} {r : Bool} (c : ErrC P w K mg x C ns ok) (h : H dd = some (.xd fs)) (k : PySem.W.kitOne K (.ref C) (.type T) = some r) (q : Q (.bl r) H) : uIsE K a (.ref C) (some dd) [.ref a, .ty T] H Q := ⟨C, dd, fs, r, rfl, rfl, c.is, rfl, h, k, q⟩
end
section
variable {H : Hp} {a b p : Addr} {o : HO}
theorem upd_none : upd H a o p = none ↔ p ≠ a ∧ H p = none := by
  by_cases h : p = a
  · subst h; rw [upd_same]; simp
  · rw [upd_ne h]; simp [h]
theorem ne_ud (h : upd H a o p = none) : p ≠ a := (upd_none.mp h).1
theorem ne_un (h : upd H a o p = none) : H p = none := (upd_none.mp h).2
theorem ne_n (h2 : H b = some o) (h : H p = none) : p ≠ b := fun e => by subst e; rw [h] at h2; cases h2
theorem ne_m (h : H p = none) (h2 : H b = some o) : p ≠ b := ne_n h2 h
theorem putF_nil {f : Str} {v : V} : putF f v [] = [(f, v)] := rfl
theorem putF_cons {f g : Str} {v x : V} {r : List (Str × V)} : putF f v ((g, x) :: r) = if g = f then (g, v) :: r else (g, x) :: putF f v r := rfl
end
end KW

set_option Elab.async false
set_option linter.all false
set_option maxRecDepth 100000
set_option maxHeartbeats 4000000
/-! Kw2f: methods of lists, stepwise; lists of texts and of ints -/
namespace KW
open PySem PySem.Spec PyProof.Rows L2
section
variable {K : Frag} {H : Hp} {l b p : Addr} {xs zs : List V} {y v : V} {Q : VK}
theorem app_l (h : H l = some (.lst xs)) (z : xs.length < sizeLine) (q : Q .non (upd H l (.lst (xs ++ [y])))) : rAppend (.ref l) [y] H Q := ⟨l, xs, y, rfl, rfl, h, z, q⟩
theorem ext_l (h : H l = some (.lst xs)) (h2 : H b = some (.lst zs)) (z : xs.length + zs.length ≤ sizeLine) (q : Q .non (upd H l (.lst (xs ++ zs)))) : rExtend (.ref l) [.ref b] H Q := ⟨l, b, xs, zs, rfl, rfl, h, h2, z, q⟩
theorem pop_l (h : H l = some (.lst xs)) (e : xs[xs.length - 1]? = some y) (q : Q y (upd H l (.lst xs.dropLast))) : rPop (.ref l) [] H Q := ⟨l, xs, y, rfl, rfl, h, e, q⟩
theorem pops_l {y : V} (h : H l = some (.lst (xs ++ [y]))) (q : Q y (upd H l (.lst xs))) : rPop (.ref l) [] H Q := ⟨l, _, y, rfl, rfl, h, by simp, by rw [List.dropLast_concat]; exact q⟩
theorem rev_l (h : H l = some (.lst xs)) (q : Q .non (upd H l (.lst xs.reverse))) : rReverse (.ref l) [] H Q := ⟨l, xs, rfl, rfl, h, q⟩
theorem clr_l (h : H l = some (.lst xs)) (q : Q .non (upd H l (.lst []))) : rClear (.ref l) [] H Q := ⟨l, xs, rfl, rfl, h, q⟩
theorem cat_l (h : H l = some (.lst xs)) (h2 : H b = some (.lst zs)) (z : xs.length + zs.length ≤ sizeLine) (q : ∀ p, H p = none → Q (.ref p) (upd H p (.lst (xs ++ zs)))) : rCat (.ref l) (.ref b) H Q := ⟨l, b, xs, zs, rfl, rfl, h, h2, z, q⟩
theorem sll_l {lo hi : Option Int} (h : H l = some (.lst xs)) (q : ∀ p, H p = none → Q (.ref p) (upd H p (.lst (cutV xs lo hi)))) : rSlL K (.ref l) lo hi H Q := ⟨l, xs, rfl, .of h, q⟩
theorem usl_l {lo hi : Option Int} (h : H l = some (.lst xs)) (q : ∀ p, H p = none → Q (.ref p) (upd H p (.lst (cutV xs lo hi)))) : uSl K (.ref l) lo hi H Q := .inl (sll_l h q)
theorem ucat_l (h : H l = some (.lst xs)) (h2 : H b = some (.lst zs)) (z : xs.length + zs.length ≤ sizeLine) (q : ∀ p, H p = none → Q (.ref p) (upd H p (.lst (xs ++ zs)))) : uAdd K (.ref l) (.ref b) H Q := .inl (cat_l h h2 z q)
theorem tru_l {k : Bool → Prop} (h : H l = some (.lst xs)) (q : k (!xs.isEmpty)) : uTru K (.ref l) H k := ⟨_, .inl ⟨xs, .of h, rfl⟩, q⟩
theorem tru_sl {k : Bool → Prop} (h : SqL K H l xs) (q : k (!xs.isEmpty)) : uTru K (.ref l) H k := ⟨_, .inl ⟨xs, h, rfl⟩, q⟩
theorem tru_t {k : Bool → Prop} (h : H l = some (.tup xs)) (q : k (!xs.isEmpty)) : uTru K (.ref l) H k := ⟨_, .inr (.inl ⟨xs, .of h, rfl⟩), q⟩
theorem tru_d {k : Bool → Prop} {kvs : List (Key × V)} (h : H l = some (.dK kvs)) (q : k (!kvs.isEmpty)) : uTru K (.ref l) H k := ⟨_, .inr (.inr ⟨kvs, h, rfl⟩), q⟩
end
section
variable {K : Frag} {H : Hp} {p : Addr} {xs : List V} {Q : VK} {n : String}
theorem isi_l (h : H p = some (.lst xs)) (o : isOk "list" n = true) (q : Q (.bl (isK "list" n)) H) : uIsi K [.ref p, .ty n] H Q := ⟨"list", .base (.lst h), o, q⟩
theorem isi_t (h : H p = some (.tup xs)) (o : isOk "tuple" n = true) (q : Q (.bl (isK "tuple" n)) H) : uIsi K [.ref p, .ty n] H Q := ⟨"tuple", .base (.tup h), o, q⟩
theorem isi_d {kvs : List (Key × V)} (h : H p = some (.dK kvs)) (o : isOk "dict" n = true) (q : Q (.bl (isK "dict" n)) H) : uIsi K [.ref p, .ty n] H Q := ⟨"dict", .base (.dK h), o, q⟩
end
/-! ### lists of texts, of ints -/
section
variable {K : Frag} {H : Hp} {l : Addr} {Q : VK}
theorem flat_strs (xs : List Str) : (xs.map V.str).all flatV = true := by simp [flatV]
theorem flat_ints (xs : List Int) : (xs.map V.int).all flatV = true := by simp [flatV]
theorem inV_strs (x : Str) : ∀ xs : List Str, inV (.str x) (xs.map V.str) = decide (x ∈ xs)
  | [] => rfl
  | a :: r => by
    show ((a == x) || inV (.str x) (r.map V.str)) = decide (x ∈ a :: r)
    rw [inV_strs x r]
    by_cases e : a = x
    · subst e; simp
    · have e2 : ¬ x = a := fun z => e z.symm
      have e3 : (a == x) = false := by simpa using e
      simp [e2, e3]
theorem inV_ints (x : Int) : ∀ xs : List Int, inV (.int x) (xs.map V.int) = decide (x ∈ xs)
  | [] => rfl
  | a :: r => by
    show ((a == x) || inV (.int x) (r.map V.int)) = decide (x ∈ a :: r)
    rw [inV_ints x r]
    by_cases e : a = x
    · subst e; simp
    · have e2 : ¬ x = a := fun z => e z.symm
      have e3 : (a == x) = false := by simpa using e
      simp [e2, e3]
theorem in_s {x : Str} {xs : List Str} (h : H l = some (.lst (xs.map V.str))) (q : Q (.bl (decide (x ∈ xs))) H) : rIn K false (.str x) (.ref l) H Q := ⟨l, _, rfl, .inl (.of h), rfl, flat_strs xs, by rw [inV_strs]; exact q⟩
theorem nin_s {x : Str} {xs : List Str} (h : H l = some (.lst (xs.map V.str))) (q : Q (.bl (!decide (x ∈ xs))) H) : rIn K true (.str x) (.ref l) H Q := ⟨l, _, rfl, .inl (.of h), rfl, flat_strs xs, by rw [inV_strs]; exact q⟩
theorem in_i {x : Int} {xs : List Int} (h : H l = some (.lst (xs.map V.int))) (q : Q (.bl (decide (x ∈ xs))) H) : rIn K false (.int x) (.ref l) H Q := ⟨l, _, rfl, .inl (.of h), rfl, flat_ints xs, by rw [inV_ints]; exact q⟩
theorem nin_i {x : Int} {xs : List Int} (h : H l = some (.lst (xs.map V.int))) (q : Q (.bl (!decide (x ∈ xs))) H) : rIn K true (.int x) (.ref l) H Q := ⟨l, _, rfl, .inl (.of h), rfl, flat_ints xs, by rw [inV_ints]; exact q⟩
theorem idxOf_get {α : Type} [BEq α] [LawfulBEq α] {x : α} : ∀ {xs : List α}, x ∈ xs → xs[xs.idxOf x]? = some x ∧ ∀ m z, m < xs.idxOf x → xs[m]? = some z → z ≠ x
  | [], h => by cases h
  | a :: r, h => by
    by_cases e : a = x
    · subst e
      rw [List.idxOf_cons_self]
      exact ⟨rfl, fun m z hm => absurd hm (Nat.not_lt_zero _)⟩
    · have hm : x ∈ r := by
        rcases List.mem_cons.mp h with q | q
        · exact absurd q.symm e
        · exact q
      obtain ⟨h1, h2⟩ := idxOf_get hm
      have hi : (a :: r).idxOf x = r.idxOf x + 1 := by
        rw [List.idxOf_cons]
        have : (a == x) = false := by simpa using e
        rw [this]
        rfl
      rw [hi]
      refine ⟨h1, fun m z hm hz => ?_⟩
      cases m with
      | zero => simp at hz; rw [← hz]; exact e
      | succ m => exact h2 m z (by omega) hz
theorem idx_s {x : Str} {xs : List Str} (h : H l = some (.lst (xs.map V.str))) (m : x ∈ xs) (q : Q (.int (xs.idxOf x : Nat)) H) : rIndex K (.ref l) [.str x] H Q := by
  obtain ⟨h1, h2⟩ := idxOf_get m
  refine ⟨l, _, .str x, xs.idxOf x, .str x, rfl, rfl, .of h, rfl, flat_strs xs, ?_, by simp [eqV], fun m z hm hz => ?_, q⟩
  · rw [List.getElem?_map, h1]; rfl
  · rw [List.getElem?_map] at hz
    cases e : xs[m]? with
    | none => rw [e] at hz; cases hz
    | some w =>
      rw [e] at hz
      cases hz
      simpa [eqV] using h2 m w hm e
theorem idx_i {x : Int} {xs : List Int} (h : H l = some (.lst (xs.map V.int))) (m : x ∈ xs) (q : Q (.int (xs.idxOf x : Nat)) H) : rIndex K (.ref l) [.int x] H Q := by
  obtain ⟨h1, h2⟩ := idxOf_get m
  refine ⟨l, _, .int x, xs.idxOf x, .int x, rfl, rfl, .of h, rfl, flat_ints xs, ?_, by simp [eqV], fun m z hm hz => ?_, q⟩
  · rw [List.getElem?_map, h1]; rfl
  · rw [List.getElem?_map] at hz
    cases e : xs[m]? with
    | none => rw [e] at hz; cases hz
    | some w =>
      rw [e] at hz
      cases hz
      simpa [eqV] using h2 m w hm e
theorem atI_map {α β : Type} {f : α → β} {xs : List α} {i : Nat} {x : α} (h : xs[i]? = some x) : atI (xs.map f) (i : Int) = some (f x) := atI_nat (by rw [List.getElem?_map, h]; rfl)
end
theorem cutV_from (xs : List V) (n : Nat) : cutV xs (some (n : Int)) none = xs.drop n := by
  unfold cutV
  rw [HT.sIx_nat]
  show (xs.drop (min n xs.length)).take (xs.length - min n xs.length) = xs.drop n
  by_cases h : n ≤ xs.length
  · rw [Nat.min_eq_left h, List.take_of_length_le (by rw [List.length_drop]; omega)]
  · rw [Nat.min_eq_right (by omega), List.drop_length, List.drop_eq_nil_of_le (by omega)]
    simp
theorem cutV_nat (xs : List V) (i j : Nat) : cutV xs (some (i : Int)) (some (j : Int)) = (xs.drop i).take (j - i) := by
  unfold cutV
  rw [HT.sIx_nat, HT.sIx_nat]
  have e : xs.drop (min i xs.length) = xs.drop i := by
    by_cases h : i ≤ xs.length
    · rw [Nat.min_eq_left h]
    · rw [Nat.min_eq_right (by omega), List.drop_length, List.drop_eq_nil_of_le (by omega)]
  rw [e]
  refine List.take_eq_take_iff.mpr ?_
  rw [List.length_drop]
  omega
theorem valV_drop (kvs : List (Key × V)) (k j : Key) : valV (dropK kvs k) j = if j = k then none else valV kvs j := by
  unfold valV dropK
  rw [List.find?_filter]
  by_cases e : j = k
  · subst e
    rw [if_pos rfl]
    have : (kvs.find? fun a => decide (a.1 ≠ j) && decide (a.1 = j)) = none := by
      rw [List.find?_eq_none]
      intro a _
      simp
    simp [this]
  · rw [if_neg e]
    congr 1
    congr 1
    funext a
    by_cases c : a.1 = j
    · have : ¬ a.1 = k := fun z => e (c.symm.trans z)
      simp [c, this, e]
    · simp [c]
/-! ### places in a text -/
def nthS (l : List Stmt) (i : Nat) : Stmt := l.getD i (.Pass ⟨0, 0, 0, 0⟩)
def ifB : Stmt → List Stmt | .If _ b _ _ => b | _ => []
def ifE : Stmt → List Stmt | .If _ _ b _ => b | _ => []
def whB : Stmt → List Stmt | .While _ b _ _ => b | _ => []
def forB : Stmt → List Stmt | .For _ _ b _ _ => b | _ => []
def tryB : Stmt → List Stmt | .Try b _ _ _ _ => b | _ => []
def suB : Stmt → List Stmt | .Try _ [.ExceptHandler _ _ b _] _ _ _ => b | _ => []
/-! ### all but some stands -/
def Fr (l : List Addr) (H H' : Hp) : Prop := ∀ b o, b ∉ l → H b = some o → H' b = some o
theorem Fr.refl {l : List Addr} (H : Hp) : Fr l H H := fun _ _ _ h => h
theorem Fr.trans {l : List Addr} {H H1 H2 : Hp} (x : Fr l H H1) (y : Fr l H1 H2) : Fr l H H2 := fun b o n h => y b o n (x b o n h)
theorem Fr.mono {l m : List Addr} {H H1 : Hp} (x : Fr l H H1) (y : ∀ b, b ∈ l → b ∈ m) : Fr m H H1 := fun b o n h => x b o (fun z => n (y b z)) h
theorem Fr.upd {l : List Addr} {a : Addr} {H : Hp} {o : HO} (h : a ∈ l) : Fr l H (L2.upd H a o) := fun b _ n e => by rw [upd_ne (fun z => n (by rw [z]; exact h))]; exact e
theorem Fr.new {l : List Addr} {p : Addr} {H : Hp} {o : HO} (h : H p = none) : Fr l H (L2.upd H p o) := fun b u _ e => by rw [upd_ne (ne_of_none e h)]; exact e
theorem Fr.lst {l : List Addr} {H H' : Hp} {b : Addr} {o : HO} (x : Fr l H H') (h : H b = some o) (n : b ∉ l) : H' b = some o := x b o n h
theorem Fr.seq {l : List Addr} {b : Addr} {K : Frag} {H H' : Hp} {xs : List V} (e : Fr l H H') (n : b ∉ l) (h : SqL K H b xs) : SqL K H' b xs := by
  rcases h with (h | ⟨o, h⟩) | h
  · exact .inl (.inl (e _ _ n h))
  · exact .inl (.inr ⟨o, e _ _ n h⟩)
  · exact .inr h
end KW

set_option Elab.async false
set_option linter.all false
set_option maxRecDepth 100000
set_option maxHeartbeats 4000000
/-! Kw2g: list comprehensions -/
namespace KW
open PySem PySem.Spec PyProof.Rows L2
/-- the loop of a comprehension, behind the making of its iterator: not opened by simp -/
def lcK (J : It) (g : TG) (tt : TT) (te : TE) (vs : List Nat) (σ : L2.St) (H1 : Hp) (Q : VK) : Prop := ∀ D, H1 D = none → ∃ W : Nat → Nat → Hp → Prop, (∃ m, W 0 m (upd H1 D (.lst []))) ∧ ∀ i m H, W i m H →
  (J.stop i H ∧ Q (.ref D) H) ∨ (J.go i H ∧ ∃ Nx : Hp → Prop, (∀ H', Nx H' → ∃ m', m' < m ∧ W (i + 1) m' H') ∧ ∀ x H', J.yld i H x H' → g x (wipe σ vs) H' fun σ2 H2 => wipe σ2 vs = wipe σ vs ∧ tt σ2 H2 fun b H3 =>
    if b = true then te σ2 H3 fun y H4 => ∃ acc, H4 D = some (.lst acc) ∧ acc.length < sizeLine ∧ Nx (upd H4 D (.lst (acc ++ [y]))) else Nx H3)
def uLc (wi : TI) (g : TG) (tt : TT) (te : TE) (vs : List Nat) : TE := fun σ H Q => wi σ H fun J H1 => lcK J g tt te vs σ H1 Q
section
variable {X : Cx}
theorem k_lc {elt tg iter : Expr} {ifs : List Expr} {scope : Scope} {own : List (Str × Nat)} {pos : Pos} {wi : TI} {g : TG} {tt : TT} {te : TE} (hc : X.calm = true) (hN : X.N.Nodup) (hi : PI X tg iter wi) (ok : BlkOk X.N X.env.scope scope own)
    (hg : ∀ (s : Shared) (H : Hp) (C : Addr) (cl : List (Str × Addr)) (fp : List Addr), PG (X.blk s H scope (compEnvC scope cl C X.env) fp) tg g) (ht : ∀ (s : Shared) (H : Hp) (C : Addr) (cl : List (Str × Addr)) (fp : List Addr), PTs (X.blk s H scope (compEnvC scope cl C X.env) fp) ifs tt)
    (he : ∀ (s : Shared) (H : Hp) (C : Addr) (cl : List (Str × Addr)) (fp : List Addr), PE (X.blk s H scope (compEnvC scope cl C X.env) fp) elt te) (hs : ∀ x, foldedSetIterable iter X.env x = pure x := by intro _; rfl) :
    PE X (.ListComp elt [⟨tg, iter, ifs, 0⟩] scope pos) (uLc wi g tt te (own.map (·.2))) := ⟨(pe_lc hc hN hi ok hg ht he hs).run⟩
theorem k_setLc {i : Nat} {y : Str} {py : Pos} {elt tg iter : Expr} {ifs : List Expr} {scope : Scope} {own : List (Str × Nat)} {pos spos : Pos} {wi : TI} {g : TG} {tt : TT} {te : TE} (hc : X.calm = true) (hN : X.N.Nodup) (hy : X.N[i]? = some y) (hyl : X.env.scope.names.lookup y = some .local)
    (hsw : swapsWith (.ListComp elt [⟨tg, iter, ifs, 0⟩] scope pos) (some (.Name y py)) spos.line X.env = pure true) (hi : PI X tg iter wi) (ok : BlkOk X.N X.env.scope scope own)
    (hg : ∀ (s : Shared) (H : Hp) (C : Addr) (cl : List (Str × Addr)) (fp : List Addr), PG (X.blk s H scope (compEnvC scope cl C X.env) fp) tg g) (ht : ∀ (s : Shared) (H : Hp) (C : Addr) (cl : List (Str × Addr)) (fp : List Addr), PTs (X.blk s H scope (compEnvC scope cl C X.env) fp) ifs tt)
    (he : ∀ (s : Shared) (H : Hp) (C : Addr) (cl : List (Str × Addr)) (fp : List Addr), PE (X.blk s H scope (compEnvC scope cl C X.env) fp) elt te) (hs : ∀ x, foldedSetIterable iter X.env x = pure x := by intro _; rfl) :
    PS X (.Assign [.Name y py] (.ListComp elt [⟨tg, iter, ifs, 0⟩] scope pos) spos) (tAsg (uLc wi g tt te (own.map (·.2))) (gName i)) := ⟨(ps_setLc hc hN hy hyl hsw hi ok hg ht he hs).run⟩
end
/-- over a list, where the items are made without a change of the heap: f tells what each gives -/
theorem lc_pl {K : Frag} {a : Addr} {xs : List V} {g : TG} {tt : TT} {te : TE} {vs : List Nat} {σ : L2.St} {H : Hp} {Q : VK} (f : V → Option V) (hS : SqL K H a xs) (hz : xs.length < sizeLine)
    (hs : ∀ (i : Nat) (x : V) (D : Addr) (acc : List V) (Cy : V → Hp → Prop) (Cn : Hp → Prop), xs[i]? = some x → H D = none → (∀ y, f x = some y → Cy y (upd H D (.lst acc))) → (f x = none → Cn (upd H D (.lst acc))) →
      g x (wipe σ vs) (upd H D (.lst acc)) fun σ2 H2 => wipe σ2 vs = wipe σ vs ∧ tt σ2 H2 fun b H3 => if b = true then te σ2 H3 fun y H4 => Cy y H4 else Cn H3)
    (hq : ∀ D, H D = none → Q (.ref D) (upd H D (.lst (xs.filterMap f)))) : lcK (Itl K a) g tt te vs σ H Q := by
  intro D hD
  refine ⟨fun i m H' => m = xs.length - i ∧ i ≤ xs.length ∧ H' = upd H D (.lst ((xs.take i).filterMap f)), ⟨xs.length, by simp⟩, ?_⟩
  rintro i m H' ⟨rfl, hi, rfl⟩
  have q := SqL.new (o := .lst ((xs.take i).filterMap f)) hD hS
  by_cases hlt : i < xs.length
  · refine .inr ⟨⟨xs, xs[i], q, by simp [hlt]⟩, fun H'' => H'' = upd H D (.lst ((xs.take (i + 1)).filterMap f)), fun H'' e => ⟨xs.length - (i + 1), by omega, rfl, hlt, e⟩, fun x H' y => ?_⟩
    obtain ⟨e, y⟩ := y
    subst e
    have hx := y xs q
    have et : xs.take (i + 1) = xs.take i ++ [x] := by
      rw [List.take_add_one, hx]; rfl
    refine hs i x D _ _ _ hx hD (fun y hy => ⟨_, upd_same, ?_, ?_⟩) fun hn => ?_
    · have h1 : ((xs.take i).filterMap f).length ≤ (xs.take i).length := List.length_filterMap_le _ _
      have h2 : (xs.take i).length ≤ xs.length := by rw [List.length_take]; omega
      omega
    · rw [upd_upd, et, List.filterMap_append]
      simp [hy]
    · rw [et, List.filterMap_append]
      simp [hn]
  · have e : i = xs.length := by omega
    subst e
    refine .inl ⟨⟨xs, q, Nat.le_refl _⟩, ?_⟩
    rw [List.take_length]
    exact hq D hD
theorem lc_pr {lo : Int} {n : Nat} {g : TG} {tt : TT} {te : TE} {vs : List Nat} {σ : L2.St} {H : Hp} {Q : VK} (f : Nat → Option V) (hz : n < sizeLine)
    (hs : ∀ (i : Nat) (D : Addr) (acc : List V) (Cy : V → Hp → Prop) (Cn : Hp → Prop), i < n → H D = none → (∀ y, f i = some y → Cy y (upd H D (.lst acc))) → (f i = none → Cn (upd H D (.lst acc))) →
      g (.int (lo + i)) (wipe σ vs) (upd H D (.lst acc)) fun σ2 H2 => wipe σ2 vs = wipe σ vs ∧ tt σ2 H2 fun b H3 => if b = true then te σ2 H3 fun y H4 => Cy y H4 else Cn H3)
    (hq : ∀ D, H D = none → Q (.ref D) (upd H D (.lst ((List.range n).filterMap f)))) : lcK (Itr lo n) g tt te vs σ H Q := by
  intro D hD
  refine ⟨fun i m H' => m = n - i ∧ i ≤ n ∧ H' = upd H D (.lst ((List.range i).filterMap f)), ⟨n, by simp⟩, ?_⟩
  rintro i m H' ⟨rfl, hi, rfl⟩
  by_cases hlt : i < n
  · refine .inr ⟨hlt, fun H'' => H'' = upd H D (.lst ((List.range (i + 1)).filterMap f)), fun H'' e => ⟨n - (i + 1), by omega, rfl, hlt, e⟩, fun x H' y => ?_⟩
    obtain ⟨e, rfl⟩ := y
    subst e
    refine hs i D _ _ _ hlt hD (fun y hy => ⟨_, upd_same, ?_, ?_⟩) fun hn => ?_
    · have h1 : ((List.range i).filterMap f).length ≤ (List.range i).length := List.length_filterMap_le _ _
      rw [List.length_range] at h1
      omega
    · rw [upd_upd, List.range_succ, List.filterMap_append]
      simp [hy]
    · rw [List.range_succ, List.filterMap_append]
      simp [hn]
  · have e : i = n := by omega
    subst e
    exact .inl ⟨Nat.le_refl _, hq D hD⟩
end KW

set_option Elab.async false
set_option linter.all false
set_option maxRecDepth 100000
set_option maxHeartbeats 4000000
/-! Kw2h: sorted, sum, walks over dicts -/
namespace KW
open PySem PySem.Spec PyProof.Rows L2
section
variable {X : Cx}
theorem pe_or {e : Expr} {t t' : TE} (h : PE X e t) (h' : PE X e t') : PE X e (fun σ H Q => t σ H Q ∨ t' σ H Q) := ⟨fun pins s σ H Q I q => q.elim (h.run pins s σ H Q I) (h'.run pins s σ H Q I)⟩
theorem ps_or {e : Stmt} {t t' : TS} (h : PS X e t) (h' : PS X e t') : PS X e (fun D σ H => t D σ H ∨ t' D σ H) := ⟨fun pins s σ H D I q => q.elim (h.run pins s σ H D I) (h'.run pins s σ H D I)⟩
/-- sorted(d) of a dict whose keys are ints -/
theorem call_sortedDN (hcalm : X.calm = true) : CallR X (.builtin "sorted") (fun xs H Q => ∃ (a : Addr) (kvs : List (Key × V)) (ks : List Int), xs = [.ref a] ∧ Rd H a (.dK kvs) ∧ kvs.map (·.1) = ks.map Sum.inl ∧ ks.length ≤ sizeLine ∧
    ∀ (ys : List Int) (p : Addr), ys.Perm ks → ys.Pairwise (· ≤ ·) → H p = none → Q (.ref p) (upd H p (.lst (ys.map V.int)))) := by
  intro pins s σ H xs us Q I r q
  obtain ⟨a, kvs, ks, ex, hd, hks, h64, q⟩ := q
  subst ex
  obtain ⟨u, eu, rx⟩ := vals1 r
  subst eu
  cases rx
  obtain ⟨z, lo, vs, rel, dd⟩ := dk_rd I.hok hd
  obtain ⟨ep, hat⟩ := dd.dictAt
  have hkeys : vs.map (·.1) = ks.map Sum.inl := rel.keys.symm.trans hks
  have hl : vs.length = ks.length := by
    have e := congrArg List.length hkeys
    rw [List.length_map, List.length_map] at e
    exact e
  have h16 : vs.length ≤ sizeLine := by rw [hl]; exact h64
  refine Calls.call_function_entry PyProof.Rows.kind_sorted PyProof.Rows.plain_sorted PyProof.Rows.entry_sorted (PyProof.Rows.args_sorted1 _) ?_
  unfold Builtin.«sorted»
  refine wpAny_bind (m := checkCount "sorted" 1 1 _) (wpAny_pure ?_)
  refine wpAny_bind (PySem.W.kdu_collect (A := X.A.in1) (PySem.W.kdl_dict (knd := mixKind X.prog X.w) (kvs := vs) (ep := ep) lo) (I.ok.hd hcalm) hat h16 fun h' tk acc hk hacc => ?_)
  have hal : acc.toList.length = ks.length := by rw [Array.length_toList, hacc.1, hl]
  have hS : IntsAre acc.toList ks := ints_each hal fun j v e => by
    obtain ⟨k, x, e1, e2⟩ := hacc.2 j v (by rw [← Array.getElem?_toList]; exact e)
    have e3 : (vs.map (·.1))[j]? = some k := by rw [List.getElem?_map, e1]; rfl
    rw [hkeys, List.getElem?_map] at e3
    cases e4 : ks[j]? with
    | none => rw [e4] at e3; cases e3
    | some y =>
      rw [e4] at e3
      have e5 : Sum.inl y = k := Option.some.inj e3
      subst e5
      rcases keyIs_shape (show keyIs (Sum.inl y) v = true from e2) with ⟨i, t, ek, ev⟩ | ⟨z, t, ek, ev⟩
      · cases ek
        exact ⟨y, t, rfl, ev⟩
      · cases ek
  have I1 : Inv X pins σ H { s with heap := h', toks := tk } := I.kept hk
  refine wpAny_bind (wpAny_newList ?_ (by rw [hal]; exact h64))
  have hoL : (h'.push (seqObj "list" acc.toList.toArray 0)).get? h'.objs.size = some (seqObj "list" acc.toList.toArray 0) := Heap.get?_push_size _ rfl
  show wpAny _ _ _ _ _ { s with heap := h'.push (seqObj "list" acc.toList.toArray 0), toks := tk }
  refine wpAny_bind (wpAny_holding (wpAny_call_entry PyProof.Rows.slot_list_sort ⟨_, hoL, rfl⟩ PyProof.Rows.entry_list_sort
    (SrtO.list_sort_ord (s := { s with heap := h'.push (seqObj "list" acc.toList.toArray 0), toks := tk }) SrtO.swo_int hoL (by rw [hal]; exact h64) (fun h2 => SrtO.ints_sortable hS h2) fun out hs hb => ⟨_, rfl, ?_⟩) (PyProof.Rows.args_list_sort _)))
  obtain ⟨g1, g2, g3⟩ := SrtO.ints_out hS hs hb
  obtain ⟨e', he'⟩ := PyProof.Rows.sortedHeap_at (vs := acc.toList) (out := out.toArray) hoL
  have hlen : ((out.map SrtO.iv).map V.int).length ≤ sizeLine := by
    rw [List.length_map, g2.length_eq]
    exact h64
  refine wpAny_pure ⟨_, rfl, .ref h'.objs.size, upd H h'.objs.size (.lst ((out.map SrtO.iv).map V.int)), I1.laid (t' := tk) (fun b u e => ?_) (Nat.le_refl _)
    (show ObjOk X.prog X.w _ _ _ (.lst ((out.map SrtO.iv).map V.int)) from ⟨hlen, out, e', vals_of_ints g1, he'⟩), rfl, q _ _ g2 g3 (I1.hok.fresh (Nat.le_refl _))⟩
  have hb : b < h'.objs.size := Heap.lt_size e
  rw [PyProof.Rows.sortedHeap_old (Nat.ne_of_lt hb) (by rw [size_push']; exact Nat.lt_succ_of_lt hb)]
  exact Heap.get?_push_of_some _ e
/-- sorted(x): a list of ints, a dict with ints as keys -/
def uSorted (K : Frag) : List V → Hp → VK → Prop := fun xs H Q => (∃ (a : Addr) (ns : List Int), xs = [V.ref a] ∧ SqL K H a (ns.map V.int) ∧ ∀ (ys : List Int) (p : Addr), ys.Perm ns → ys.Pairwise (· ≤ ·) → H p = none → Q (.ref p) (upd H p (.lst (ys.map V.int)))) ∨
  (∃ (a : Addr) (kvs : List (Key × V)) (ks : List Int), xs = [.ref a] ∧ Rd H a (.dK kvs) ∧ kvs.map (·.1) = ks.map Sum.inl ∧ ks.length ≤ sizeLine ∧ ∀ (ys : List Int) (p : Addr), ys.Perm ks → ys.Pairwise (· ≤ ·) → H p = none → Q (.ref p) (upd H p (.lst (ys.map V.int))))
theorem c_sorted (hcalm : X.calm = true) : CallR X (.builtin "sorted") (uSorted X.K) := fun pins s σ H xs us Q I r h => by
  rcases h with h | h
  · exact cr_sortedI pins s σ H xs us Q I r h
  · exact call_sortedDN hcalm pins s σ H xs us Q I r h
theorem srt_l {K : Frag} {H : Hp} {a : Addr} {ns : List Int} {Q : VK} (h : H a = some (.lst (ns.map V.int))) (q : ∀ (ys : List Int) (p : Addr), ys.Perm ns → ys.Pairwise (· ≤ ·) → H p = none → Q (.ref p) (upd H p (.lst (ys.map V.int)))) : uSorted K [.ref a] H Q := .inl ⟨a, ns, rfl, .of h, q⟩
theorem srt_d {K : Frag} {H : Hp} {a : Addr} {kvs : List (Key × V)} {ks : List Int} {Q : VK} (h : H a = some (.dK kvs)) (e : kvs.map (·.1) = ks.map Sum.inl) (z : ks.length ≤ sizeLine) (q : ∀ (ys : List Int) (p : Addr), ys.Perm ks → ys.Pairwise (· ≤ ·) → H p = none → Q (.ref p) (upd H p (.lst (ys.map V.int)))) : uSorted K [.ref a] H Q := .inr ⟨a, kvs, ks, rfl, .inl h, e, z, q⟩
/-- sum(xs), ints -/
def uSum (K : Frag) : List V → Hp → VK → Prop := rSum K
theorem c_sum (hc : X.calm = true) : CallR X (.builtin "sum") (uSum X.K) := cr_sum hc
theorem sum_l {K : Frag} {H : Hp} {a : Addr} {ns : List Int} {Q : VK} (h : H a = some (.lst (ns.map V.int))) (q : Q (.int ns.sum) H) : uSum K [.ref a] H Q := ⟨a, ns, rfl, .of h, q⟩
end
/-- a comprehension over a locked dict's keys (ints), where the items are made without a change of the heap -/
theorem lc_pk {d : Addr} {o : Obj} {kvs : List (Key × V)} {ks : List Int} {g : TG} {tt : TT} {te : TE} {vs : List Nat} {σ : L2.St} {H : Hp} {Q : VK} (f : Int → Option V) (hS : H d = some (.frz o (.dK kvs))) (hk : kvs.map (·.1) = ks.map Sum.inl) (hz : ks.length < sizeLine)
    (hs : ∀ (i : Nat) (x : Int) (D : Addr) (acc : List V) (Cy : V → Hp → Prop) (Cn : Hp → Prop), ks[i]? = some x → H D = none → (∀ y, f x = some y → Cy y (upd H D (.lst acc))) → (f x = none → Cn (upd H D (.lst acc))) →
      g (.int x) (wipe σ vs) (upd H D (.lst acc)) fun σ2 H2 => wipe σ2 vs = wipe σ vs ∧ tt σ2 H2 fun b H3 => if b = true then te σ2 H3 fun y H4 => Cy y H4 else Cn H3)
    (hq : ∀ D, H D = none → Q (.ref D) (upd H D (.lst (ks.filterMap f)))) : lcK (Itk d o kvs) g tt te vs σ H Q := by
  intro D hD
  have hl : kvs.length = ks.length := by
    have := congrArg List.length hk
    rw [List.length_map, List.length_map] at this
    exact this
  refine ⟨fun i m H' => m = ks.length - i ∧ i ≤ ks.length ∧ H' = upd H D (.lst ((ks.take i).filterMap f)), ⟨ks.length, by simp⟩, ?_⟩
  rintro i m H' ⟨rfl, hi, rfl⟩
  have hne : d ≠ D := ne_of_none hS hD
  have q : upd H D (.lst ((ks.take i).filterMap f)) d = some (.frz o (.dK kvs)) := by rw [upd_ne hne]; exact hS
  by_cases hlt : i < ks.length
  · refine .inr ⟨⟨q, by omega⟩, fun H'' => H'' = upd H D (.lst ((ks.take (i + 1)).filterMap f)), fun H'' e => ⟨ks.length - (i + 1), by omega, rfl, hlt, e⟩, fun x H' y => ?_⟩
    obtain ⟨e, k, v, hkv, rfl⟩ := y
    subst e
    have e3 : (kvs.map (·.1))[i]? = some k := by rw [List.getElem?_map, hkv]; rfl
    rw [hk, List.getElem?_map] at e3
    obtain ⟨x, hx⟩ : ∃ x, ks[i]? = some x := ⟨_, List.getElem?_eq_getElem hlt⟩
    rw [hx] at e3
    have e5 : Sum.inl x = k := Option.some.inj e3
    subst e5
    have et : ks.take (i + 1) = ks.take i ++ [x] := by
      rw [List.take_add_one, hx]; rfl
    refine hs i x D _ _ _ hx hD (fun y hy => ⟨_, upd_same, ?_, ?_⟩) fun hn => ?_
    · have h1 : ((ks.take i).filterMap f).length ≤ (ks.take i).length := List.length_filterMap_le _ _
      have h2 : (ks.take i).length ≤ ks.length := by rw [List.length_take]; omega
      omega
    · rw [upd_upd, et, List.filterMap_append]
      simp [hy]
    · rw [et, List.filterMap_append]
      simp [hn]
  · have e : i = ks.length := by omega
    subst e
    refine .inl ⟨⟨q, by omega⟩, ?_⟩
    rw [List.take_length]
    exact hq D hD
end KW

set_option Elab.async false
set_option linter.all false
set_option maxRecDepth 100000
set_option maxHeartbeats 4000000
/-! Kw2i: the rules with the frag told (within comprehensions) -/
namespace KW
theorem isEmpty_app {α : Type} (xs ys : List α) : (xs ++ ys).isEmpty = (xs.isEmpty && ys.isEmpty) := by cases xs <;> simp
open PySem PySem.Spec PyProof.Rows L2
section
variable {X : Cx} (K : Frag)
theorem ktK {e : Expr} {t : TE} (h : PE X e t) (he : ∀ whole, isTrue e X.env whole = (do let v ← whole; standAt e.pos; holding [v] (truthy v)) := by intro _; rfl) (hK : X.K = K := by rfl) : PT X e (uTest K t) := hK ▸ kt h he
theorem o_addK (hK : X.K = K := by rfl) : OpR X (binaryOp .Add) (uAdd K) := hK ▸ o_add
theorem o_eqK (hu : X.A.units + 64 < cLine) (hK : X.K = K := by rfl) : OpR X (compareOp .Eq) (uEq K) := hK ▸ o_eq hu
theorem o_neK (hu : X.A.units + 64 < cLine) (hK : X.K = K := by rfl) : OpR X (compareOp .NotEq) (uNe K) := hK ▸ o_ne hu
theorem o_inK (hK : X.K = K := by rfl) : OpR X (compareOp .In) (uIn K) := hK ▸ o_in
theorem o_notinK (hK : X.K = K := by rfl) : OpR X (compareOp .NotIn) (uNotIn K) := hK ▸ o_notin
theorem o_ixK (hK : X.K = K := by rfl) : IxR X (uIx K) := hK ▸ o_ix
theorem o_slK (hK : X.K = K := by rfl) : SlR X (uSl K) := hK ▸ o_sl
theorem c_lenK (hK : X.K = K := by rfl) : CallR X (.builtin "len") (uLen K) := hK ▸ c_len
theorem c_isiK (hK : X.K = K := by rfl) : CallR X (.builtin "isinstance") (uIsi K) := hK ▸ c_isi
theorem c_listK (hK : X.K = K := by rfl) : CallR X (.type "list") (uList K) := hK ▸ c_list
theorem c_sortedK (hc : X.calm = true) (hK : X.K = K := by rfl) : CallR X (.builtin "sorted") (uSorted K) := hK ▸ c_sorted hc
theorem c_sumK (hc : X.calm = true) (hK : X.K = K := by rfl) : CallR X (.builtin "sum") (uSum K) := hK ▸ c_sum hc
theorem k_fldK {e : Expr} {t : TE} {f : Str} {pos : Pos} (he : PE X e t) (hb : attributeBase e f X.env (eval e X.env) = eval e X.env) (hK : X.K = K := by rfl) : PE X (.Attribute e f pos) (uFld K t f) := hK ▸ k_fld he hb
theorem mt_indexK (hK : X.K = K := by rfl) : MtR X "list.index" (rIndex K) := hK ▸ mt_index
theorem pi_listK {tg l : Expr} {tl : TE} (hl : PE X l tl) (hK : X.K = K := by rfl) : PI X tg l (iList K tl) := hK ▸ pi_list hl
end
/-- of a list of ints, ints again -/
theorem lc_ii {K : Frag} {a : Addr} {xs : List Int} {g : TG} {tt : TT} {te : TE} {vs : List Nat} {σ : L2.St} {H : Hp} {Q : VK} (f : Int → Option Int) (hS : SqL K H a (xs.map V.int)) (hz : xs.length < sizeLine)
    (hs : ∀ (i : Nat) (x : Int) (D : Addr) (acc : List V) (Cy : V → Hp → Prop) (Cn : Hp → Prop), xs[i]? = some x → H D = none → (∀ y, f x = some y → Cy (.int y) (upd H D (.lst acc))) → (f x = none → Cn (upd H D (.lst acc))) →
      g (.int x) (wipe σ vs) (upd H D (.lst acc)) fun σ2 H2 => wipe σ2 vs = wipe σ vs ∧ tt σ2 H2 fun b H3 => if b = true then te σ2 H3 fun y H4 => Cy y H4 else Cn H3)
    (hq : ∀ D, H D = none → Q (.ref D) (upd H D (.lst ((xs.filterMap f).map V.int)))) : lcK (Itl K a) g tt te vs σ H Q := by
  refine lc_pl (fun v => match v with | .int i => (f i).map V.int | _ => none) hS (by rw [List.length_map]; exact hz) (fun i x D acc Cy Cn hx hD h1 h2 => ?_) fun D hD => ?_
  · rw [List.getElem?_map] at hx
    cases e : xs[i]? with
    | none => rw [e] at hx; cases hx
    | some z =>
      rw [e] at hx
      cases hx
      exact hs i z D acc Cy Cn e hD (fun y hy => h1 _ (by simp [hy])) fun hn => h2 (by simp [hn])
  · have e : (xs.map V.int).filterMap (fun v => match v with | .int i => (f i).map V.int | _ => none) = (xs.filterMap f).map V.int := by
      rw [List.filterMap_map, List.map_filterMap]; rfl
    rw [e]
    exact hq D hD
/-- over a list of anything told by F -/
theorem lc_f {α : Type} {K : Frag} {a : Addr} {xs : List α} {F : α → V} {g : TG} {tt : TT} {te : TE} {vs : List Nat} {σ : L2.St} {H : Hp} {Q : VK} (f : α → Option V) (hS : SqL K H a (xs.map F)) (hz : xs.length < sizeLine)
    (hs : ∀ (i : Nat) (x : α) (D : Addr) (acc : List V) (Cy : V → Hp → Prop) (Cn : Hp → Prop), xs[i]? = some x → H D = none → (∀ y, f x = some y → Cy y (upd H D (.lst acc))) → (f x = none → Cn (upd H D (.lst acc))) →
      g (F x) (wipe σ vs) (upd H D (.lst acc)) fun σ2 H2 => wipe σ2 vs = wipe σ vs ∧ tt σ2 H2 fun b H3 => if b = true then te σ2 H3 fun y H4 => Cy y H4 else Cn H3)
    (hq : ∀ D, H D = none → Q (.ref D) (upd H D (.lst (xs.filterMap f)))) : lcK (Itl K a) g tt te vs σ H Q := by
  intro D hD
  refine ⟨fun i m H' => m = xs.length - i ∧ i ≤ xs.length ∧ H' = upd H D (.lst ((xs.take i).filterMap f)), ⟨xs.length, by simp⟩, ?_⟩
  rintro i m H' ⟨rfl, hi, rfl⟩
  have q := SqL.new (o := .lst ((xs.take i).filterMap f)) hD hS
  by_cases hlt : i < xs.length
  · refine .inr ⟨⟨_, F xs[i], q, by simp [hlt]⟩, fun H'' => H'' = upd H D (.lst ((xs.take (i + 1)).filterMap f)), fun H'' e => ⟨xs.length - (i + 1), by omega, rfl, hlt, e⟩, fun x H' y => ?_⟩
    obtain ⟨e, y⟩ := y
    subst e
    have hx := y _ q
    obtain ⟨z, hz1⟩ : ∃ z, xs[i]? = some z := ⟨_, List.getElem?_eq_getElem hlt⟩
    rw [List.getElem?_map, hz1] at hx
    cases hx
    have et : xs.take (i + 1) = xs.take i ++ [z] := by
      rw [List.take_add_one, hz1]; rfl
    refine hs i z D _ _ _ hz1 hD (fun y hy => ⟨_, upd_same, ?_, ?_⟩) fun hn => ?_
    · have h1 : ((xs.take i).filterMap f).length ≤ (xs.take i).length := List.length_filterMap_le _ _
      have h2 : (xs.take i).length ≤ xs.length := by rw [List.length_take]; omega
      omega
    · rw [upd_upd, et, List.filterMap_append]
      simp [hy]
    · rw [et, List.filterMap_append]
      simp [hn]
  · have e : i = xs.length := by omega
    subst e
    refine .inl ⟨⟨_, q, by simp⟩, ?_⟩
    rw [List.take_length]
    exact hq D hD
/-- over a range, any answers, the heap may change: Pv tells the list made so far (at D) and the heap -/
theorem lc_rG {lo : Int} {n : Nat} {g : TG} {tt : TT} {te : TE} {vs : List Nat} {σ : L2.St} {H : Hp} {Q : VK} (Pv : Nat → Addr → List V → Hp → Prop) (h0 : ∀ D, H D = none → Pv 0 D [] (upd H D (.lst [])))
    (hs : ∀ (i : Nat) (D : Addr) (acc : List V) (H' : Hp) (Nx : Hp → Prop), i < n → H D = none → Pv i D acc H' → (∀ acc H'', Pv (i + 1) D acc H'' → Nx H'') → g (.int (lo + i)) (wipe σ vs) H' fun σ2 H2 => wipe σ2 vs = wipe σ vs ∧ tt σ2 H2 fun b H3 => if b = true then te σ2 H3 fun y H4 => ∃ acc, H4 D = some (.lst acc) ∧ acc.length < sizeLine ∧ Nx (upd H4 D (.lst (acc ++ [y]))) else Nx H3)
    (hq : ∀ D acc H', H D = none → Pv n D acc H' → Q (.ref D) H') : lcK (Itr lo n) g tt te vs σ H Q := by
  intro D hD
  refine ⟨fun i m H' => m = n - i ∧ i ≤ n ∧ ∃ acc, Pv i D acc H', ⟨n, rfl, Nat.zero_le _, [], h0 D hD⟩, ?_⟩
  rintro i m H' ⟨rfl, hi, acc, hP⟩
  by_cases hlt : i < n
  · refine .inr ⟨hlt, fun H'' => ∃ acc, Pv (i + 1) D acc H'', fun H'' e => ⟨n - (i + 1), by omega, rfl, hlt, e⟩, fun x H2 y => ?_⟩
    obtain ⟨e, rfl⟩ := y
    subst e
    exact hs i D acc _ _ hlt hD hP fun acc H'' h => ⟨acc, h⟩
  · have e : i = n := by omega
    subst e
    exact .inl ⟨Nat.le_refl _, hq D acc H' hD hP⟩
/-- over a list -/
theorem lc_lG {α : Type} {K : Frag} {a : Addr} {xs : List α} {F : α → V} {g : TG} {tt : TT} {te : TE} {vs : List Nat} {σ : L2.St} {H : Hp} {Q : VK} (Pv : Nat → Addr → List V → Hp → Prop) (h0 : ∀ D, H D = none → Pv 0 D [] (upd H D (.lst [])))
    (hl : ∀ i D acc H', Pv i D acc H' → SqL K H' a (xs.map F))
    (hs : ∀ (i : Nat) (x : α) (D : Addr) (acc : List V) (H' : Hp) (Nx : Hp → Prop), xs[i]? = some x → H D = none → Pv i D acc H' → (∀ acc H'', Pv (i + 1) D acc H'' → Nx H'') → g (F x) (wipe σ vs) H' fun σ2 H2 => wipe σ2 vs = wipe σ vs ∧ tt σ2 H2 fun b H3 => if b = true then te σ2 H3 fun y H4 => ∃ acc, H4 D = some (.lst acc) ∧ acc.length < sizeLine ∧ Nx (upd H4 D (.lst (acc ++ [y]))) else Nx H3)
    (hq : ∀ D acc H', H D = none → Pv xs.length D acc H' → Q (.ref D) H') : lcK (Itl K a) g tt te vs σ H Q := by
  intro D hD
  refine ⟨fun i m H' => m = xs.length - i ∧ i ≤ xs.length ∧ ∃ acc, Pv i D acc H', ⟨xs.length, rfl, Nat.zero_le _, [], h0 D hD⟩, ?_⟩
  rintro i m H' ⟨rfl, hi, acc, hP⟩
  have q := hl i D acc H' hP
  by_cases hlt : i < xs.length
  · refine .inr ⟨⟨_, F xs[i], q, by simp [hlt]⟩, fun H'' => ∃ acc, Pv (i + 1) D acc H'', fun H'' e => ⟨xs.length - (i + 1), by omega, rfl, hlt, e⟩, fun x H2 y => ?_⟩
    obtain ⟨e, y⟩ := y
    subst e
    have hx := y _ q
    obtain ⟨z, hz1⟩ : ∃ z, xs[i]? = some z := ⟨_, List.getElem?_eq_getElem hlt⟩
    rw [List.getElem?_map, hz1] at hx
    cases hx
    exact hs i z D acc _ _ hz1 hD hP fun acc H'' h => ⟨acc, h⟩
  · have e : i = xs.length := by omega
    subst e
    exact .inl ⟨⟨_, q, by simp⟩, hq D acc H' hD hP⟩
/-- over reversed(xs) -/
theorem for_rev {K : Frag} {a : Addr} {xs : List V} {g : TG} {tb : TS} {D : Ends} {σ : L2.St} {H : Hp} (Pv : Nat → L2.St → Hp → Prop) (h0 : Pv 0 σ H) (hl : ∀ i σ H, i ≤ xs.length → Pv i σ H → SqL K H a xs)
    (hs : ∀ i x σ H, i < xs.length → xs[xs.length - 1 - i]? = some x → Pv i σ H → g x σ H fun σ2 H2 => tb { D with nx := Pv (i + 1), ct := Pv (i + 1), bk := D.nx } σ2 H2) (hd : ∀ σ H, Pv xs.length σ H → D.nx σ H) : forK (Itv K a xs.length) g tb D σ H := by
  refine ⟨fun i m σ H => m = xs.length - i ∧ i ≤ xs.length ∧ Pv i σ H, ⟨xs.length, rfl, Nat.zero_le _, h0⟩, ?_⟩
  rintro i m σ H ⟨rfl, hi, p⟩
  have q := hl i σ H hi p
  by_cases hlt : i < xs.length
  · refine .inr ⟨⟨hlt, xs, xs[xs.length - 1 - i], q, by rw [List.getElem?_eq_getElem]⟩, Pv (i + 1), fun σ' H' p' => ⟨xs.length - (i + 1), by omega, rfl, hlt, p'⟩, fun x H' y => ?_⟩
    obtain ⟨e, y⟩ := y
    subst e
    exact hs i x σ _ hlt (y xs q) p
  · have e : i = xs.length := by omega
    subst e
    exact .inl ⟨Nat.le_refl _, hd σ H p⟩
end KW
namespace KW
open PySem PySem.Spec PyProof.Rows L2
/-- dict(d): a copy -/
def uDict : List V → Hp → VK → Prop
  | [.ref a], H, Q => ∃ kvs, H a = some (.dK kvs) ∧ ∀ p, H p = none → Q (.ref p) (upd H p (.dK kvs))
  | _, _, _ => False
theorem c_dict {X : Cx} : CallR X (.type "dict") uDict := CallRw call_dictD fun xs H Q h => by
  unfold uDict at h
  split at h
  · obtain ⟨kvs, hs, q⟩ := h
    exact ⟨_, kvs, rfl, .of hs, q⟩
  · exact h.elim
theorem dict_d {H : Hp} {a : Addr} {kvs : List (Key × V)} {Q : VK} (h : H a = some (.dK kvs)) (q : ∀ p, H p = none → Q (.ref p) (upd H p (.dK kvs))) : uDict [.ref a] H Q := ⟨kvs, h, q⟩
end KW

set_option Elab.async false
set_option linter.all false
set_option maxRecDepth 100000
/-! StT: stores of blocks, in plain Lean -/
namespace ST
structure Blk where
  n : Int
  k : Int
  s : List Int
  al : Bool
def Blk.ws (e : Blk) : List Int := e.n :: (e.s.length : Int) :: e.k :: e.s
theorem Blk.ws_len (e : Blk) : e.ws.length = e.s.length + 3 := by simp [Blk.ws]
def flat (B : List Blk) : List Int := B.flatMap Blk.ws
theorem flat_nil : flat [] = [] := rfl
theorem flat_cons (e : Blk) (B : List Blk) : flat (e :: B) = e.ws ++ flat B := by simp [flat]
theorem flat_app (B C : List Blk) : flat (B ++ C) = flat B ++ flat C := by simp [flat]
def off (B : List Blk) (i : Nat) : Nat := (flat (B.take i)).length
def lv (B : List Blk) (n : Int) : Bool := B.any fun e => e.al && decide (e.n = n)
theorem lv_iff {B : List Blk} {n : Int} : lv B n = true ↔ ∃ (i : Nat) (e : Blk), B[i]? = some e ∧ e.al = true ∧ e.n = n := by
  simp only [lv, List.any_eq_true, Bool.and_eq_true, decide_eq_true_eq]
  constructor
  · rintro ⟨e, he, h1, h2⟩
    obtain ⟨i, hi⟩ := List.getElem?_of_mem he
    exact ⟨i, e, hi, h1, h2⟩
  · rintro ⟨i, e, hi, h1, h2⟩
    exact ⟨e, List.mem_of_getElem? hi, h1, h2⟩
/-- living blocks have different numbers -/
def Nd (B : List Blk) : Prop := ∀ (i j : Nat) (e f : Blk), B[i]? = some e → B[j]? = some f → e.al = true → f.al = true → e.n = f.n → i = j
theorem split_at {B : List Blk} {i : Nat} {e : Blk} (h : B[i]? = some e) : B = B.take i ++ e :: B.drop (i + 1) := by
  obtain ⟨h1, h2⟩ := List.getElem?_eq_some_iff.mp h
  conv => lhs; rw [← List.take_append_drop i B]
  rw [List.drop_eq_getElem_cons h1, h2]
theorem flat_at {B : List Blk} {i : Nat} {e : Blk} (h : B[i]? = some e) : flat B = flat (B.take i) ++ (e.ws ++ flat (B.drop (i + 1))) := by
  conv => lhs; rw [split_at h]
  rw [flat_app, flat_cons]
theorem set_at {B : List Blk} {i : Nat} {e f : Blk} (h : B[i]? = some e) : B.set i f = B.take i ++ f :: B.drop (i + 1) := by
  obtain ⟨h1, h2⟩ := List.getElem?_eq_some_iff.mp h
  rw [List.set_eq_take_append_cons_drop, if_pos h1]
theorem flat_set {B : List Blk} {i : Nat} {e f : Blk} (h : B[i]? = some e) : flat (B.set i f) = flat (B.take i) ++ (f.ws ++ flat (B.drop (i + 1))) := by
  rw [set_at h, flat_app, flat_cons]
theorem off_add {B : List Blk} {i : Nat} {e : Blk} (h : B[i]? = some e) : off B i + (e.s.length + 3) ≤ (flat B).length := by
  rw [flat_at h]
  simp only [List.length_append, Blk.ws_len, off]
  omega
theorem off_get {B : List Blk} {i j : Nat} {e : Blk} (h : B[i]? = some e) (hj : j < e.s.length + 3) : (flat B)[off B i + j]? = e.ws[j]? := by
  rw [flat_at h, List.getElem?_append_right (by simp only [off]; omega), List.getElem?_append_left (by rw [Blk.ws_len]; simp only [off]; omega)]
  simp [off]
theorem get_num {B : List Blk} {i : Nat} {e : Blk} (h : B[i]? = some e) : (flat B)[off B i]? = some e.n := by
  have := off_get (j := 0) h (by omega); simpa [Blk.ws] using this
theorem get_size {B : List Blk} {i : Nat} {e : Blk} (h : B[i]? = some e) : (flat B)[off B i + 1]? = some (e.s.length : Int) := by
  have := off_get (j := 1) h (by omega); simpa [Blk.ws] using this
theorem get_kind {B : List Blk} {i : Nat} {e : Blk} (h : B[i]? = some e) : (flat B)[off B i + 2]? = some e.k := by
  have := off_get (j := 2) h (by omega); simpa [Blk.ws] using this
theorem get_slot {B : List Blk} {i j : Nat} {e : Blk} (h : B[i]? = some e) (hj : j < e.s.length) : (flat B)[off B i + 3 + j]? = e.s[j]? := by
  have := off_get (j := 3 + j) h (by omega)
  rw [Nat.add_assoc, this, Nat.add_comm 3 j]
  simp [Blk.ws]
theorem get_slots {B : List Blk} {i : Nat} {e : Blk} (h : B[i]? = some e) : ((flat B).drop (off B i + 3)).take e.s.length = e.s := by
  rw [flat_at h, List.drop_append, List.drop_eq_nil_of_le (by simp only [off]; omega), List.nil_append]
  have : off B i + 3 - (flat (B.take i)).length = 3 := by simp only [off]; omega
  rw [this]
  simp [Blk.ws]
theorem set_ws {B : List Blk} {i j : Nat} {e f : Blk} {z : Int} (h : B[i]? = some e) (hj : j < e.s.length + 3) (hf : e.ws.set j z = f.ws) : (flat B).set (off B i + j) z = flat (B.set i f) := by
  rw [flat_set h, flat_at h, List.set_append_right _ _ (by simp only [off]; omega)]
  congr 1
  rw [List.set_append_left _ _ (by rw [Blk.ws_len]; simp only [off]; omega)]
  have : off B i + j - (flat (B.take i)).length = j := by simp only [off]; omega
  rw [this, hf]
theorem set_num {B : List Blk} {i : Nat} {e : Blk} {z : Int} (h : B[i]? = some e) : (flat B).set (off B i) z = flat (B.set i { e with n := z }) := set_ws (j := 0) h (by omega) (by simp [Blk.ws])
theorem set_kind {B : List Blk} {i : Nat} {e : Blk} {z : Int} (h : B[i]? = some e) : (flat B).set (off B i + 2) z = flat (B.set i { e with k := z }) := set_ws h (by omega) (by simp [Blk.ws])
theorem set_slot {B : List Blk} {i j : Nat} {e : Blk} {z : Int} (h : B[i]? = some e) (hj : j < e.s.length) : (flat B).set (off B i + 3 + j) z = flat (B.set i { e with s := e.s.set j z }) := by
  rw [Nat.add_assoc]
  exact set_ws h (by omega) (by rw [Nat.add_comm 3 j]; simp [Blk.ws])
theorem flat_al {B : List Blk} {i : Nat} {e : Blk} {b : Bool} (h : B[i]? = some e) : flat (B.set i { e with al := b }) = flat B := by
  rw [flat_set h, flat_at h]; rfl
/-! ### where blocks begin -/
theorem off_set {B : List Blk} {i j : Nat} {e f : Blk} (h : B[i]? = some e) (hl : f.s.length = e.s.length) : off (B.set i f) j = off B j := by
  unfold off
  rw [List.take_set]
  by_cases c : i < j
  · have ht : (B.take j)[i]? = some e := by rw [List.getElem?_take_of_lt c]; exact h
    rw [flat_set ht, flat_at ht]
    simp only [List.length_append, Blk.ws_len, hl]
  · rw [List.set_eq_of_length_le (by rw [List.length_take]; omega)]
theorem off_app {B C : List Blk} {j : Nat} (h : j ≤ B.length) : off (B ++ C) j = off B j := by
  unfold off
  rw [List.take_append_of_le_length h]
theorem off_len (B : List Blk) : off B B.length = (flat B).length := by unfold off; rw [List.take_length]
theorem off_lt {B : List Blk} {i j : Nat} {e : Blk} (h : B[i]? = some e) (hij : i < j) : off B i + 3 ≤ off B j := by
  have ht : (B.take j)[i]? = some e := by rw [List.getElem?_take_of_lt hij]; exact h
  have := off_add ht
  have e1 : off (B.take j) i = off B i := by unfold off; rw [List.take_take, Nat.min_eq_left (Nat.le_of_lt hij)]
  have e2 : (flat (B.take j)).length = off B j := rfl
  omega
theorem off_inj {B : List Blk} {i j : Nat} {e f : Blk} (h : B[i]? = some e) (h2 : B[j]? = some f) (ho : off B i = off B j) : i = j := by
  rcases Nat.lt_trichotomy i j with c | c | c
  · have := off_lt h c; omega
  · exact c
  · have := off_lt h2 c; omega
/-! ### living numbers -/
theorem lv_set {B : List Blk} {i : Nat} {e f : Blk} (h : B[i]? = some e) (h1 : f.al = e.al) (h2 : f.n = e.n) (n : Int) : lv (B.set i f) n = lv B n := by
  unfold lv
  rw [set_at h]
  conv => rhs; rw [split_at h]
  simp [h1, h2]
theorem lv_app (B C : List Blk) (n : Int) : lv (B ++ C) n = (lv B n || lv C n) := by simp [lv]
theorem lv_at {B : List Blk} {i : Nat} {e : Blk} (h : B[i]? = some e) (ha : e.al = true) : lv B e.n = true := lv_iff.mpr ⟨i, e, h, ha, rfl⟩
theorem get_set {B : List Blk} {i j : Nat} {e f : Blk} (h : B[i]? = some e) : (B.set i f)[j]? = if j = i then some f else B[j]? := by
  rw [List.getElem?_set]
  have := (List.getElem?_eq_some_iff.mp h).1
  by_cases c : i = j
  · subst c; simp [this]
  · rw [if_neg c, if_neg (fun z => c z.symm)]
theorem Nd.set {B : List Blk} {i : Nat} {e f : Blk} (nd : Nd B) (h : B[i]? = some e) (h1 : f.al = e.al) (h2 : f.n = e.n) : Nd (B.set i f) := by
  intro a b u v ha hb ua va uv
  rw [get_set h] at ha hb
  split at ha <;> split at hb
  · omega
  · rename_i c1 c2; cases ha; exact c1.trans (nd i b e v h hb (h1 ▸ ua) va (h2 ▸ uv))
  · rename_i c1 c2; cases hb; exact (nd a i u e ha h ua (h1 ▸ va) (h2 ▸ uv)).trans c2.symm
  · exact nd a b u v ha hb ua va uv
theorem Nd.drop {B : List Blk} {i : Nat} {e : Blk} (nd : Nd B) (h : B[i]? = some e) : Nd (B.set i { e with al := false }) := by
  intro a b u v ha hb ua va uv
  rw [get_set h] at ha hb
  split at ha
  · cases ha; cases ua
  · split at hb
    · cases hb; cases va
    · exact nd a b u v ha hb ua va uv
theorem lv_drop {B : List Blk} {i : Nat} {e : Blk} (nd : Nd B) (h : B[i]? = some e) (ha : e.al = true) (n : Int) : lv (B.set i { e with al := false }) n = (lv B n && !decide (n = e.n)) := by
  by_cases c : n = e.n
  · subst c
    rw [decide_eq_true rfl, Bool.not_true, Bool.and_false]
    apply Bool.eq_false_iff.mpr
    intro z
    obtain ⟨j, f, hj, fa, fn⟩ := lv_iff.mp z
    rw [get_set h] at hj
    split at hj
    · cases hj; cases fa
    · rename_i c; exact c (nd j i f e hj h fa ha fn)
  · rw [decide_eq_false c, Bool.not_false, Bool.and_true]
    apply Bool.eq_iff_iff.mpr
    rw [lv_iff, lv_iff]
    constructor
    · rintro ⟨j, f, hj, fa, fn⟩
      rw [get_set h] at hj
      split at hj
      · cases hj; cases fa
      · exact ⟨j, f, hj, fa, fn⟩
    · rintro ⟨j, f, hj, fa, fn⟩
      refine ⟨j, f, ?_, fa, fn⟩
      rw [get_set h, if_neg]
      · exact hj
      · rintro rfl; rw [h] at hj; cases hj; exact c fn.symm
theorem Nd.app {B : List Blk} {e : Blk} (nd : Nd B) (h : e.al = true → lv B e.n = false) : Nd (B ++ [e]) := by
  intro a b u v ha hb ua va uv
  have key : ∀ c w, (B ++ [e])[c]? = some w → (B[c]? = some w ∧ c < B.length) ∨ (c = B.length ∧ w = e) := fun c w hc => by
    rw [List.getElem?_append] at hc
    split at hc
    · rename_i z; exact .inl ⟨hc, z⟩
    · rename_i z
      have hx : c - B.length = 0 := by
        have := (List.getElem?_eq_some_iff.mp hc).1
        simpa using this
      rw [hx] at hc
      exact .inr ⟨by omega, by simpa using hc.symm⟩
  have no : ∀ (c : Nat) (w : Blk), B[c]? = some w → w.al = true → e.al = true → w.n ≠ e.n := fun c w hc wa ea z => by
    have := h ea
    rw [← z, lv_at hc wa] at this
    cases this
  rcases key a u ha with ⟨h1, _⟩ | ⟨h1, rfl⟩ <;> rcases key b v hb with ⟨h2, _⟩ | ⟨h2, rfl⟩
  · exact nd a b u v h1 h2 ua va uv
  · exact absurd uv (no a u h1 ua va)
  · exact absurd uv.symm (no b v h2 va ua)
  · omega
/-- two blocks exchange their numbers -/
def exch (B : List Blk) (i j : Nat) (e f : Blk) : List Blk := (B.set i { e with n := f.n }).set j { f with n := e.n }
theorem get_mid {B : List Blk} {i j : Nat} {e f : Blk} (h : B[i]? = some e) (h2 : B[j]? = some f) : ∃ g, (B.set i { e with n := f.n })[j]? = some g ∧ g.s.length = f.s.length ∧ (i = j → g = { f with n := f.n }) ∧ (i ≠ j → g = f) := by
  rw [get_set h]
  by_cases c : j = i
  · subst c; rw [h] at h2; cases h2
    exact ⟨_, if_pos rfl, rfl, fun _ => rfl, fun z => absurd rfl z⟩
  · rw [if_neg c, h2]
    exact ⟨_, rfl, rfl, fun z => absurd z.symm c, fun _ => rfl⟩
theorem get_exch {B : List Blk} {i j : Nat} {e f : Blk} (h : B[i]? = some e) (h2 : B[j]? = some f) (a : Nat) : (exch B i j e f)[a]? = if a = j then some { f with n := e.n } else if a = i then some { e with n := f.n } else B[a]? := by
  obtain ⟨g, hg, _⟩ := get_mid h h2
  unfold exch
  rw [get_set hg, get_set h]
theorem off_exch {B : List Blk} {i j a : Nat} {e f : Blk} (h : B[i]? = some e) (h2 : B[j]? = some f) : off (exch B i j e f) a = off B a := by
  obtain ⟨g, hg, hl, _⟩ := get_mid h h2
  unfold exch
  rw [off_set (f := { f with n := e.n }) hg hl.symm, off_set (f := { e with n := f.n }) h rfl]
theorem flat_exch {B : List Blk} {i j : Nat} {e f : Blk} (h : B[i]? = some e) (h2 : B[j]? = some f) : flat (exch B i j e f) = ((flat B).set (off B i) f.n).set (off B j) e.n := by
  obtain ⟨g, hg, hl, hg1, hg2⟩ := get_mid h h2
  unfold exch
  rw [set_num h]
  have := set_num (z := e.n) hg
  rw [off_set (f := { e with n := f.n }) h rfl] at this
  rw [this]
  by_cases c : i = j
  · rw [hg1 c]
  · rw [hg2 c]
theorem Nd.exch {B : List Blk} {i j : Nat} {e f : Blk} (nd : Nd B) (h : B[i]? = some e) (h2 : B[j]? = some f) (ea : e.al = true) (fa : f.al = true) : Nd (exch B i j e f) := by
  have key : ∀ a u, (ST.exch B i j e f)[a]? = some u → u.al = true → (a = j ∧ u.n = e.n) ∨ (a ≠ j ∧ a = i ∧ u.n = f.n) ∨ (a ≠ j ∧ a ≠ i ∧ B[a]? = some u) := fun a u ha ua => by
    rw [get_exch h h2] at ha
    split at ha
    · rename_i c; cases ha; exact .inl ⟨c, rfl⟩
    · split at ha
      · rename_i c d; cases ha; exact .inr (.inl ⟨c, d, rfl⟩)
      · rename_i c d; exact .inr (.inr ⟨c, d, ha⟩)
  intro a b u v ha hb ua va uv
  rcases key a u ha ua with ⟨h3, h4⟩ | ⟨h3, h4, h5⟩ | ⟨h3, h4, h5⟩ <;> rcases key b v hb va with ⟨k3, k4⟩ | ⟨k3, k4, k5⟩ | ⟨k3, k4, k5⟩
  · omega
  · have := nd i j e f h h2 ea fa (by omega); omega
  · have := nd i b e v h k5 ea va (by omega); omega
  · have := nd i j e f h h2 ea fa (by omega); omega
  · omega
  · have := nd j b f v h2 k5 fa va (by omega); omega
  · have := nd a i u e h5 h ua ea (by omega); omega
  · have := nd a j u f h5 h2 ua fa (by omega); omega
  · exact nd a b u v h5 k5 ua va uv
theorem lv_exch {B : List Blk} {i j : Nat} {e f : Blk} (h : B[i]? = some e) (h2 : B[j]? = some f) (ea : e.al = true) (fa : f.al = true) (n : Int) : lv (exch B i j e f) n = lv B n := by
  apply Bool.eq_iff_iff.mpr
  rw [lv_iff, lv_iff]
  constructor
  · rintro ⟨a, u, ha, ua, un⟩
    rw [get_exch h h2] at ha
    split at ha
    · cases ha; exact ⟨i, e, h, ea, un⟩
    · split at ha
      · cases ha; exact ⟨j, f, h2, fa, un⟩
      · exact ⟨a, u, ha, ua, un⟩
  · rintro ⟨a, u, ha, ua, un⟩
    by_cases c : a = i
    · subst c; rw [h] at ha; cases ha
      exact ⟨j, { f with n := e.n }, by rw [get_exch h h2, if_pos rfl], fa, un⟩
    · by_cases d : a = j
      · subst d; rw [h2] at ha; cases ha
        exact ⟨i, { e with n := f.n }, by rw [get_exch h h2, if_neg (fun z => c z.symm), if_pos rfl], ea, un⟩
      · exact ⟨a, u, by rw [get_exch h h2, if_neg d, if_neg c]; exact ha, ua, un⟩
theorem flat_len_app (B : List Blk) (e : Blk) : (flat (B ++ [e])).length = (flat B).length + (e.s.length + 3) := by
  rw [flat_app, List.length_append, flat_cons, List.length_append, Blk.ws_len]; rfl
/-! ### the least free number -/
structure Free (B : List Blk) (f : Int) : Prop where
  pos : 0 ≤ f
  no : lv B f = false
  all : ∀ i, 0 ≤ i → i < f → lv B i = true
theorem Free.uniq {B : List Blk} {f g : Int} (a : Free B f) (b : Free B g) : f = g := by
  rcases Int.lt_trichotomy f g with c | c | c
  · have := b.all f a.pos c; rw [a.no] at this; cases this
  · exact c
  · have := a.all g b.pos c; rw [b.no] at this; cases this
/-- the numbers of the living blocks, in the order in which they lie -/
def nums (B : List Blk) : List Int := (B.filter fun e => e.al).map fun e => e.n
theorem mem_nums {B : List Blk} {n : Int} : n ∈ nums B ↔ lv B n = true := by
  simp only [nums, List.mem_map, List.mem_filter, lv, List.any_eq_true, Bool.and_eq_true, decide_eq_true_eq]
  exact ⟨fun ⟨e, ⟨h1, h2⟩, h3⟩ => ⟨e, h1, h2, h3⟩, fun ⟨e, h1, h2, h3⟩ => ⟨e, ⟨h1, h2⟩, h3⟩⟩
theorem nums_len (B : List Blk) : (nums B).length ≤ B.length := by unfold nums; rw [List.length_map]; exact List.length_filter_le _ _
theorem full_len {B : List Blk} {m : Nat} (h : ∀ i : Int, 0 ≤ i → i < m → lv B i = true) : m ≤ (nums B).length := by
  have hn : ((List.range m).map fun i : Nat => (i : Int)).Nodup := by
    rw [List.Nodup, List.pairwise_map]
    exact List.nodup_range.imp fun {a b} h z => h (Int.ofNat.inj z)
  have := List.Nodup.length_le_of_subset hn (l₂ := nums B) fun x hx => by
    obtain ⟨i, hi, rfl⟩ := List.mem_map.mp hx
    exact mem_nums.mpr (h i (by omega) (by have := List.mem_range.mp hi; omega))
  simpa using this
theorem free_ex (B : List Blk) : ∃ f, Free B f ∧ f ≤ (nums B).length := by
  have key : ∀ k : Nat, (∀ i : Int, 0 ≤ i → i < k → lv B i = true) ∨ ∃ f : Int, Free B f ∧ f < k := by
    intro k
    induction k with
    | zero => exact .inl fun i h0 h1 => by omega
    | succ k ih =>
      rcases ih with h | ⟨f, h, l⟩
      · cases c : lv B (k : Int) with
        | false => exact .inr ⟨k, ⟨by omega, c, h⟩, by omega⟩
        | true =>
          refine .inl fun i h0 h1 => ?_
          by_cases d : i = k
          · rw [d]; exact c
          · exact h i h0 (by omega)
      · exact .inr ⟨f, h, by omega⟩
  rcases key ((nums B).length + 1) with h | ⟨f, h, l⟩
  · have := full_len h; omega
  · exact ⟨f, h, by omega⟩
theorem Free.le {B : List Blk} {f : Int} (h : Free B f) : f ≤ (nums B).length := by
  obtain ⟨g, hg, l⟩ := free_ex B
  rw [h.uniq hg]; exact l
theorem nums_nodup {B : List Blk} (nd : Nd B) : (nums B).Nodup := by
  unfold nums
  rw [List.Nodup, List.pairwise_map, List.pairwise_filter]
  rw [List.pairwise_iff_getElem]
  intro i j hi hj hij h1 h2 h3
  exact absurd (nd i j _ _ (List.getElem?_eq_getElem hi) (List.getElem?_eq_getElem hj) h1 h2 h3) (by omega)
end ST
namespace ST
/-! ### what roots reach -/
inductive Rch (B : List Blk) (R : List Int) : Int → Prop
  | root (w : Int) : w ∈ R → w % 2 = 0 → lv B (w / 2) = true → Rch B R (w / 2)
  | step (i : Nat) (e : Blk) (w : Int) : B[i]? = some e → e.al = true → Rch B R e.n → w ∈ e.k :: e.s → w % 2 = 0 → lv B (w / 2) = true → Rch B R (w / 2)
theorem Rch.lv {B : List Blk} {R : List Int} {n : Int} (h : Rch B R n) : ST.lv B n = true := by cases h <;> assumption
/-- the references among some words -/
def refs (l : List Int) : List Int := l.filterMap fun w => if w % 2 = 0 then some (w / 2) else none
theorem mem_refs {l : List Int} {n : Int} : n ∈ refs l ↔ ∃ w, w ∈ l ∧ w % 2 = 0 ∧ w / 2 = n := by
  simp only [refs, List.mem_filterMap]
  constructor
  · rintro ⟨w, h1, h2⟩
    split at h2
    · cases h2; exact ⟨w, h1, by assumption, rfl⟩
    · cases h2
  · rintro ⟨w, h1, h2, h3⟩
    exact ⟨w, h1, by rw [if_pos h2, h3]⟩
theorem refs_len (l : List Int) : (refs l).length ≤ l.length := List.length_filterMap_le _ _
structure DI (B : List Blk) (R F W : List Int) : Prop where
  sF : ∀ n ∈ F, Rch B R n
  sW : ∀ n ∈ W, lv B n = true → Rch B R n
  ro : ∀ w ∈ R, w % 2 = 0 → lv B (w / 2) = true → w / 2 ∈ F ∨ w / 2 ∈ W
  cl : ∀ (i : Nat) (e : Blk), B[i]? = some e → e.al = true → e.n ∈ F → ∀ w ∈ e.k :: e.s, w % 2 = 0 → lv B (w / 2) = true → w / 2 ∈ F ∨ w / 2 ∈ W
  nd : F.Nodup
theorem DI.init (B : List Blk) (R : List Int) : DI B R [] (refs R) where
  sF := fun n h => by cases h
  sW := fun n h l => by
    obtain ⟨w, h1, h2, rfl⟩ := mem_refs.mp h
    exact .root w h1 h2 l
  ro := fun w h1 h2 _ => .inr (mem_refs.mpr ⟨w, h1, h2, rfl⟩)
  cl := fun i e _ _ h => by cases h
  nd := List.nodup_nil
theorem DI.skip {B : List Blk} {R F W : List Int} {n : Int} (d : DI B R F (W ++ [n])) (h : n ∈ F ∨ lv B n = false) : DI B R F W where
  sF := d.sF
  sW := fun m hm l => d.sW m (by simp [hm]) l
  ro := fun w h1 h2 h3 => by
    rcases d.ro w h1 h2 h3 with q | q
    · exact .inl q
    · rcases List.mem_append.mp q with q | q
      · exact .inr q
      · have e : w / 2 = n := by simpa using q
        rcases h with h | h
        · exact .inl (e ▸ h)
        · rw [e, h] at h3; cases h3
  cl := fun i e h1 h2 h3 w h4 h5 h6 => by
    rcases d.cl i e h1 h2 h3 w h4 h5 h6 with q | q
    · exact .inl q
    · rcases List.mem_append.mp q with q | q
      · exact .inr q
      · have e : w / 2 = n := by simpa using q
        rcases h with h | h
        · exact .inl (e ▸ h)
        · rw [e, h] at h6; cases h6
  nd := d.nd
/-- taken: the block i is found; X are its references that are put on the waiting ones, at least all that are not found yet -/
theorem DI.take {B : List Blk} {R F W X : List Int} {i : Nat} {e : Blk} (d : DI B R F (W ++ [e.n])) (N : Nd B) (h : B[i]? = some e) (ha : e.al = true) (hn : e.n ∉ F) (x1 : ∀ m ∈ X, m ∈ refs (e.k :: e.s)) (x2 : ∀ m ∈ refs (e.k :: e.s), m ∈ F ++ [e.n] ∨ m ∈ X) : DI B R (F ++ [e.n]) (W ++ X) := by
  have re : Rch B R e.n := d.sW e.n (by simp) (lv_at h ha)
  refine ⟨fun n hm => ?_, fun n hm l => ?_, fun w h1 h2 h3 => ?_, fun j f h1 h2 h3 w h4 h5 h6 => ?_, ?_⟩
  · rcases List.mem_append.mp hm with q | q
    · exact d.sF n q
    · have : n = e.n := by simpa using q
      rw [this]; exact re
  · rcases List.mem_append.mp hm with q | q
    · exact d.sW n (by simp [q]) l
    · obtain ⟨w, h1, h2, rfl⟩ := mem_refs.mp (x1 n q)
      exact .step i e w h ha re h1 h2 l
  · rcases d.ro w h1 h2 h3 with q | q
    · exact .inl (by simp [q])
    · rcases List.mem_append.mp q with q | q
      · exact .inr (by simp [q])
      · exact .inl (by simp at q; simp [q])
  · by_cases c : f.n ∈ F
    · rcases d.cl j f h1 h2 c w h4 h5 h6 with q | q
      · exact .inl (by simp [q])
      · rcases List.mem_append.mp q with q | q
        · exact .inr (by simp [q])
        · exact .inl (by simp at q; simp [q])
    · have en : f.n = e.n := by
        rcases List.mem_append.mp h3 with q | q
        · exact absurd q c
        · simpa using q
      have := N j i f e h1 h h2 ha en
      subst this
      rw [h] at h1; cases h1
      rcases x2 (w / 2) (mem_refs.mpr ⟨w, h4, h5, rfl⟩) with q | q
      · exact .inl q
      · exact .inr (by simp [q])
  · exact List.nodup_append.mpr ⟨d.nd, by simp, fun a ha b hb => by simp at hb; subst hb; exact fun z => hn (z ▸ ha)⟩
theorem DI.done {B : List Blk} {R F : List Int} (d : DI B R F []) (N : Nd B) : ∀ n, n ∈ F ↔ Rch B R n := fun n => by
  refine ⟨d.sF n, fun h => ?_⟩
  induction h with
  | root w h1 h2 h3 => exact (d.ro w h1 h2 h3).elim id fun z => by cases z
  | step i e w h1 h2 h3 h4 h5 h6 ih => exact (d.cl i e h1 h2 ih w h4 h5 h6).elim id fun z => by cases z
/-- how much may still be found -/
def pot (F : List Int) : List Blk → Nat
  | [] => 0
  | e :: B => (if e.al = true ∧ e.n ∉ F then e.s.length + 2 else 0) + pot F B
theorem pot_le (F : List Int) (n : Int) : ∀ B, pot (F ++ [n]) B ≤ pot F B
  | [] => Nat.le_refl _
  | e :: B => by
    have := pot_le F n B
    unfold pot
    by_cases c : e.al = true ∧ e.n ∉ F ++ [n]
    · rw [if_pos c, if_pos ⟨c.1, fun z => c.2 (by simp [z])⟩]; omega
    · rw [if_neg c]; omega
theorem pot_lt {F : List Int} {e : Blk} : ∀ {B : List Blk} {i : Nat}, B[i]? = some e → e.al = true → e.n ∉ F → pot (F ++ [e.n]) B + (e.s.length + 2) ≤ pot F B
  | [], i, h, _, _ => by simp at h
  | f :: B, 0, h, ha, hn => by
    have := pot_le F e.n B
    have : f = e := by simpa using h
    subst this
    have e1 : pot F (f :: B) = (f.s.length + 2) + pot F B := by conv => lhs; unfold pot; rw [if_pos ⟨ha, hn⟩]
    have e2 : pot (F ++ [f.n]) (f :: B) = 0 + pot (F ++ [f.n]) B := by conv => lhs; unfold pot; rw [if_neg (fun z => z.2 (by simp))]
    omega
  | f :: B, i + 1, h, ha, hn => by
    have ih := pot_lt (F := F) (e := e) (B := B) (i := i) (by simpa using h) ha hn
    unfold pot
    by_cases c : f.al = true ∧ f.n ∉ F ++ [e.n]
    · rw [if_pos c, if_pos ⟨c.1, fun z => c.2 (by simp [z])⟩]; omega
    · rw [if_neg c]; omega
theorem pot_flat (F : List Int) : ∀ B, pot F B ≤ (flat B).length
  | [] => Nat.le_refl _
  | e :: B => by
    have := pot_flat F B
    rw [flat_cons, List.length_append, Blk.ws_len]
    unfold pot
    split <;> omega
/-! ### sorted lists -/
theorem srt_uniq {a b : List Int} (h : ∀ x, x ∈ a ↔ x ∈ b) (na : a.Nodup) (nb : b.Nodup) {a' b' : List Int} (pa : a'.Perm a) (pb : b'.Perm b) (sa : a'.Pairwise (· ≤ ·)) (sb : b'.Pairwise (· ≤ ·)) : a' = b' := by
  have p : a.Perm b := (List.perm_ext_iff_of_nodup na nb).mpr h
  exact List.Perm.eq_of_pairwise (le := (· ≤ ·)) (fun x y _ _ h1 h2 => Int.le_antisymm h1 h2) sa sb (pa.trans (p.trans pb.symm))
theorem perm_sum {a b : List Int} (p : a.Perm b) : a.sum = b.sum := by
  induction p with
  | nil => rfl
  | cons x _ ih => rw [List.sum_cons, List.sum_cons, ih]
  | swap x y l => rw [List.sum_cons, List.sum_cons, List.sum_cons, List.sum_cons]; omega
  | trans _ _ h1 h2 => exact h1.trans h2
theorem fm_if {α β : Type} (p : α → Bool) (f : α → β) : ∀ l : List α, l.filterMap (fun r => if p r = true then some (f r) else none) = (l.filter p).map f
  | [] => rfl
  | x :: l => by
    rw [List.filterMap_cons, List.filter_cons, fm_if p f l]
    cases p x <;> rfl
end ST

set_option Elab.async false
set_option linter.all false
set_option maxRecDepth 100000
set_option maxHeartbeats 4000000
/-! StH: a store in the heap; its promises -/
namespace KW
open PySem PySem.Spec PyProof.Rows L2
/-- from H to H' at most the things of f changed; the things of g are of f or new -/
def Stp (f g : List Addr) (H H' : Hp) : Prop := KW.Fr f H H' ∧ ∀ x ∈ g, x ∈ f ∨ H x = none
theorem Fr.none {l : List Addr} {H H' : Hp} (f : KW.Fr l H H') {b : Addr} (n : b ∉ l) (h : H' b = none) : H b = none := by
  cases e : H b with
  | none => rfl
  | some o => have := f b o n e; rw [h] at this; cases this
theorem Stp.refl {f : List Addr} (H : Hp) : Stp f f H H := ⟨Fr.refl H, fun _ h => .inl h⟩
theorem Stp.of {f : List Addr} {H H' : Hp} (h : KW.Fr f H H') : Stp f f H H' := ⟨h, fun _ h => .inl h⟩
theorem Stp.trans {f g k : List Addr} {H H1 H2 : Hp} (a : Stp f g H H1) (b : Stp g k H1 H2) : Stp f k H H2 := by
  refine ⟨fun x o n h => ?_, fun x hx => ?_⟩
  · have h1 := a.1 x o n h
    refine b.1 x o (fun z => ?_) h1
    rcases a.2 x z with q | q
    · exact n q
    · rw [h] at q; cases q
  · by_cases hf : x ∈ f
    · exact .inl hf
    · rcases b.2 x hx with q | q
      · exact a.2 x q
      · exact .inr (a.1.none hf q)
theorem Stp.out {f g : List Addr} {H H' : Hp} (a : Stp f g H H') {x : Addr} {o : HO} (n : x ∉ f) (h : H x = some o) : H' x = some o ∧ x ∉ g := by
  refine ⟨a.1 x o n h, fun z => ?_⟩
  rcases a.2 x z with q | q
  · exact n q
  · rw [h] at q; cases q
theorem Fr.stp {l f g : List Addr} {H H' H2 : Hp} (a : KW.Fr l H H') (n : ∀ x ∈ l, x ∈ f) (b : Stp f g H' H2) : Stp f g H H2 := (Stp.of (a.mono n)).trans b
/-- a tuple, a list of ints, a thing that stands -/
abbrev IL (H : Hp) (p : Addr) (xs : List Int) : Prop := H p = some (.lst (xs.map V.int))
theorem notin_of {l : List Addr} {H : Hp} {p : Addr} (h : H p = none) (k : ∀ x ∈ l, ∃ o, H x = some o) : p ∉ l := fun z => by
  obtain ⟨o, e⟩ := k p z
  rw [h] at e; cases e
end KW
namespace ST
open PySem PySem.Spec PyProof.Rows L2 KW
abbrev KVs := List (Key × V)
structure PlOk (kvs : KVs) (B : List Blk) : Prop where
  at_ : ∀ (i : Nat) (e : Blk), B[i]? = some e → e.al = true → valV kvs (.inl e.n) = some (.int (off B i : Nat))
  ks : ∃ ns : List Int, kvs.map (·.1) = ns.map Sum.inl ∧ ns.Nodup ∧ ∀ n, n ∈ ns ↔ lv B n = true
theorem valV_some {kvs : KVs} {k : Key} : (valV kvs k).isSome = true ↔ k ∈ kvs.map (·.1) := by
  rw [← valV_any, List.any_eq_true]
  constructor
  · rintro ⟨a, ha, h⟩
    have : a.1 = k := by simpa using h
    exact List.mem_map.mpr ⟨a, ha, this⟩
  · intro h
    obtain ⟨a, ha, rfl⟩ := List.mem_map.mp h
    exact ⟨a, ha, by simp⟩
theorem PlOk.isS {kvs : KVs} {B : List Blk} (h : PlOk kvs B) (n : Int) : (valV kvs (.inl n)).isSome = lv B n := by
  obtain ⟨ns, e, _, m⟩ := h.ks
  apply Bool.eq_iff_iff.mpr
  rw [valV_some, e, ← m n, List.mem_map]
  exact ⟨fun ⟨a, ha, z⟩ => by cases z; exact ha, fun ha => ⟨n, ha, rfl⟩⟩
theorem PlOk.isN {kvs : KVs} {B : List Blk} (h : PlOk kvs B) {n : Int} (l : lv B n = false) : valV kvs (.inl n) = none := by
  have := h.isS n
  rw [l] at this
  cases e : valV kvs (.inl n) with
  | none => rfl
  | some v => rw [e] at this; cases this
theorem PlOk.len {kvs : KVs} {B : List Blk} (h : PlOk kvs B) : kvs.length ≤ B.length := by
  obtain ⟨ns, e, nd, m⟩ := h.ks
  have e1 := congrArg List.length e
  rw [List.length_map, List.length_map] at e1
  have := nd.length_le_of_subset (l₂ := nums B) fun x hx => mem_nums.mpr ((m x).mp hx)
  have := nums_len B
  omega
theorem PlOk.nil : PlOk [] [] := ⟨fun i e h => by simp at h, [], rfl, List.nodup_nil, fun n => by simp [lv]⟩
theorem PlOk.congr {kvs : KVs} {B C : List Blk} (h : PlOk kvs B) (h1 : ∀ (i : Nat) (e : Blk), C[i]? = some e → e.al = true → ∃ (e' : Blk), B[i]? = some e' ∧ e'.al = true ∧ e'.n = e.n ∧ off B i = off C i) (h2 : ∀ n, lv C n = lv B n) : PlOk kvs C := by
  obtain ⟨ns, e, nd, m⟩ := h.ks
  refine ⟨fun i e hi ha => ?_, ns, e, nd, fun n => by rw [h2]; exact m n⟩
  obtain ⟨e', q1, q2, q3, q4⟩ := h1 i e hi ha
  rw [← q3, ← q4]; exact h.at_ i e' q1 q2
theorem PlOk.same {kvs : KVs} {B : List Blk} {i : Nat} {e f : Blk} (h : PlOk kvs B) (hi : B[i]? = some e) (h1 : f.al = e.al) (h2 : f.n = e.n) (h3 : f.s.length = e.s.length) : PlOk kvs (B.set i f) := by
  refine h.congr (fun j u hj ua => ?_) (lv_set hi h1 h2)
  rw [get_set hi] at hj
  rw [off_set hi h3]
  split at hj
  · rename_i c; subst c; cases hj; exact ⟨e, hi, h1 ▸ ua, h2.symm, rfl⟩
  · exact ⟨u, hj, ua, rfl, rfl⟩
theorem putK_new {kvs : KVs} {k : Key} {v : V} (h : valV kvs k = none) : (putK kvs k v).map (·.1) = kvs.map (·.1) ++ [k] := by
  unfold putK
  rw [if_neg (by rw [valV_any, h]; simp), List.map_append]; rfl
theorem putK_old {kvs : KVs} {k : Key} {v : V} (h : (valV kvs k).isSome = true) : (putK kvs k v).map (·.1) = kvs.map (·.1) := by
  unfold putK
  rw [if_pos (by rw [valV_any]; exact h), List.map_map]
  apply List.map_congr_left
  rintro ⟨a, b⟩ _
  simp only [Function.comp]
  split
  · rename_i c; simp_all
  · rfl
theorem valV_putI {kvs : KVs} {n m : Int} {v : V} : valV (putK kvs (.inl n) v) (.inl m) = if m = n then some v else valV kvs (.inl m) := by
  rw [valV_put]
  by_cases c : m = n
  · subst c; rw [if_pos rfl, if_pos rfl]
  · rw [if_neg (fun z => c (by cases z; rfl)), if_neg c]
theorem valV_dropI {kvs : KVs} {n m : Int} : valV (dropK kvs (.inl n)) (.inl m) = if m = n then none else valV kvs (.inl m) := by
  rw [valV_drop]
  by_cases c : m = n
  · subst c; rw [if_pos rfl, if_pos rfl]
  · rw [if_neg (fun z => c (by cases z; rfl)), if_neg c]
theorem inl_eq {u v : Int} : ((Sum.inl u : Key) = .inl v) = (u = v) := propext ⟨fun z => by cases z; rfl, fun z => by rw [z]⟩
theorem PlOk.app {kvs : KVs} {B : List Blk} {e : Blk} (h : PlOk kvs B) (ha : e.al = true) (hn : lv B e.n = false) : PlOk (putK kvs (.inl e.n) (.int ((flat B).length : Nat))) (B ++ [e]) := by
  have nn := h.isN hn
  obtain ⟨ns, ek, nd, m⟩ := h.ks
  refine ⟨fun i u hi ua => ?_, ns ++ [e.n], by rw [putK_new nn, ek]; simp, ?_, fun n => ?_⟩
  · rw [valV_putI]
    rw [List.getElem?_append] at hi
    split at hi
    · rename_i c
      rw [off_app (by omega), if_neg (fun z => ?_)]
      · exact h.at_ i u hi ua
      · rw [← z, lv_at hi ua] at hn; cases hn
    · rename_i c
      have hx : i - B.length = 0 := by
        have := (List.getElem?_eq_some_iff.mp hi).1
        simpa using this
      rw [hx] at hi
      have : u = e := by simpa using hi.symm
      subst this
      have hi2 : i = B.length := by omega
      subst hi2
      rw [if_pos rfl, off_app (Nat.le_refl _), off_len]
  · rw [List.nodup_append]
    refine ⟨nd, by simp, fun a ha b hb => ?_⟩
    simp at hb; subst hb
    intro z; subst z
    rw [(m _).mp ha] at hn; cases hn
  · rw [List.mem_append, m n, lv_app]
    have : lv [e] n = decide (e.n = n) := by simp [lv, ha]
    rw [this, Bool.or_eq_true, decide_eq_true_eq, List.mem_singleton]
    exact ⟨fun z => z.elim .inl fun q => .inr q.symm, fun z => z.elim .inl fun q => .inr q.symm⟩
theorem PlOk.drop {kvs : KVs} {B : List Blk} {i : Nat} {e : Blk} (h : PlOk kvs B) (N : Nd B) (hi : B[i]? = some e) (ha : e.al = true) : PlOk (dropK kvs (.inl e.n)) (B.set i { e with al := false }) := by
  obtain ⟨ns, ek, nd, m⟩ := h.ks
  refine ⟨fun j u hj ua => ?_, ns.filter (fun n => decide (n ≠ e.n)), ?_, nd.sublist List.filter_sublist, fun n => ?_⟩
  · rw [valV_dropI, off_set (f := { e with al := false }) hi rfl]
    rw [get_set hi] at hj
    split at hj
    · cases hj; cases ua
    · rename_i c
      rw [if_neg (fun z => c (N j i u e hj hi ua ha z))]
      exact h.at_ j u hj ua
  · unfold dropK
    have : ∀ (l : KVs) (ns : List Int), l.map (·.1) = ns.map Sum.inl → (l.filter fun a => decide (a.1 ≠ .inl e.n)).map (·.1) = (ns.filter fun n => decide (n ≠ e.n)).map Sum.inl := by
      intro l
      induction l with
      | nil => intro ns h; cases ns with | nil => rfl | cons _ _ => cases h
      | cons a l ih =>
        intro ns h
        cases ns with
        | nil => cases h
        | cons n ns =>
          simp only [List.map_cons, List.cons.injEq] at h
          have e1 := ih ns h.2
          rw [List.filter_cons, List.filter_cons]
          by_cases c : n = e.n
          · rw [if_neg (by simp [h.1, c]), if_neg (by simp [c])]; exact e1
          · rw [if_pos (by simp [h.1, c]), if_pos (by simp [c]), List.map_cons, List.map_cons, e1, h.1]
    exact this kvs ns ek
  · rw [List.mem_filter, m n, lv_drop N hi ha]
    simp
theorem PlOk.exch {kvs : KVs} {B : List Blk} {i j : Nat} {e f : Blk} (h : PlOk kvs B) (N : Nd B) (hi : B[i]? = some e) (hj : B[j]? = some f) (ea : e.al = true) (fa : f.al = true) :
    PlOk (putK (putK kvs (.inl e.n) (.int (off B j : Nat))) (.inl f.n) (.int (off B i : Nat))) (exch B i j e f) := by
  obtain ⟨ns, ek, nd, m⟩ := h.ks
  have l1 : (valV kvs (.inl e.n)).isSome = true := by rw [h.isS]; exact lv_at hi ea
  have l2 : (valV (putK kvs (.inl e.n) (.int (off B j : Nat))) (.inl f.n)).isSome = true := by
    rw [valV_putI]
    split
    · rfl
    · rw [h.isS]; exact lv_at hj fa
  refine ⟨fun a u ha ua => ?_, ns, by rw [putK_old l2, putK_old l1]; exact ek, nd, fun n => by rw [lv_exch hi hj ea fa]; exact m n⟩
  rw [off_exch hi hj, valV_putI, valV_putI]
  rw [get_exch hi hj] at ha
  split at ha
  · rename_i c; subst c; cases ha
    dsimp only
    by_cases d : e.n = f.n
    · have := N i a e f hi hj ea fa d
      subst this
      rw [if_pos d]
    · rw [if_neg d, if_pos rfl]
  · split at ha
    · rename_i c d; subst d; cases ha
      rw [if_pos rfl]
    · rename_i c d
      rw [if_neg (fun z => c (N a j u f ha hj ua fa z)), if_neg (fun z => d (N a i u e ha hi ua ea z))]
      exact h.at_ a u ha ua
/-- a store at st: its words at wd, its places at pl -/
structure Sto (C : Addr) (H : Hp) (st wd pl : Addr) (rm en : Int) (B : List Blk) : Prop where
  ob : ∃ dx lo, H st = some (.ins C dx [("room", .int rm), ("entries", .int en), ("words", .ref wd), ("_places", .ref pl), ("_least", .int lo)]) ∧ 0 ≤ lo ∧ ∀ i, 0 ≤ i → i < lo → lv B i = true
  wo : H wd = some (.lst ((flat B).map V.int))
  pa : ∃ kvs, H pl = some (.dK kvs) ∧ PlOk kvs B
  nd : Nd B
  nn : ∀ (i : Nat) (e : Blk), B[i]? = some e → e.al = true → 0 ≤ e.n
  wp : wd ≠ pl
  sw : st ≠ wd
  sp : st ≠ pl
abbrev fpS (st wd pl : Addr) : List Addr := [st, wd, pl]
theorem Sto.fr {C : Addr} {H H' : Hp} {st wd pl : Addr} {rm en : Int} {B : List Blk} {l : List Addr} (s : Sto C H st wd pl rm en B) (f : KW.Fr l H H') (h1 : st ∉ l) (h2 : wd ∉ l) (h3 : pl ∉ l) : Sto C H' st wd pl rm en B := by
  obtain ⟨⟨dx, lo, ob, l1⟩, wo, ⟨kvs, pa, ok⟩, nd, nn, wp, sw, sp⟩ := s
  exact ⟨⟨dx, lo, f _ _ h1 ob, l1⟩, f _ _ h2 wo, ⟨kvs, f _ _ h3 pa, ok⟩, nd, nn, wp, sw, sp⟩
theorem Sto.new {C : Addr} {H : Hp} {st wd pl t : Addr} {rm en : Int} {B : List Blk} {o : HO} (s : Sto C H st wd pl rm en B) (h : H t = none) : Sto C (upd H t o) st wd pl rm en B := s.fr (l := []) (Fr.new h) (by simp) (by simp) (by simp)
theorem Sto.fr0 {C : Addr} {H H' : Hp} {st wd pl : Addr} {rm en : Int} {B : List Blk} (s : Sto C H st wd pl rm en B) (f : KW.Fr [] H H') : Sto C H' st wd pl rm en B := s.fr f (by simp) (by simp) (by simp)
theorem Sto.there {C : Addr} {H : Hp} {st wd pl : Addr} {rm en : Int} {B : List Blk} (s : Sto C H st wd pl rm en B) : ∀ x ∈ fpS st wd pl, ∃ o, H x = some o := by
  obtain ⟨⟨dx, lo, ob, l1⟩, wo, ⟨kvs, pa, ok⟩, nd, nn, wp, sw, sp⟩ := s
  intro x hx
  simp only [List.mem_cons, List.not_mem_nil, or_false] at hx
  rcases hx with rfl | rfl | rfl
  · exact ⟨_, ob⟩
  · exact ⟨_, wo⟩
  · exact ⟨_, pa⟩
/-! ### promises of its methods -/
def spInit (C : Addr) : Sp := fun vs H Q _ => ∃ (st dx : Addr) (rm en : Int), vs = [.ref st, .int rm, .int en] ∧ H st = some (.ins C dx []) ∧ ∀ H' wd pl, Sto C H' st wd pl rm en [] → KW.Fr [st] H H' → H wd = none → H pl = none → Q .non H'
def spUsed (C : Addr) : Sp := fun vs H Q _ => ∃ (st wd pl : Addr) (rm en : Int) (B : List Blk), vs = [.ref st] ∧ Sto C H st wd pl rm en B ∧ Q (.int (flat B).length) H
def spExists (C : Addr) : Sp := fun vs H Q _ => ∃ (st wd pl : Addr) (rm en : Int) (B : List Blk) (n : Int), vs = [.ref st, .int n] ∧ Sto C H st wd pl rm en B ∧ Q (.bl (lv B n)) H
def spNumbers (C : Addr) : Sp := fun vs H Q _ => ∃ (st wd pl : Addr) (rm en : Int) (B : List Blk), vs = [.ref st] ∧ Sto C H st wd pl rm en B ∧ B.length ≤ 1000000 ∧ ∀ (ys : List Int) (l : Addr), ys.Perm (nums B) → ys.Pairwise (· ≤ ·) → H l = none → Q (.ref l) (upd H l (.lst (ys.map V.int)))
def spSize (C : Addr) : Sp := fun vs H Q _ => ∃ (st wd pl : Addr) (rm en : Int) (B : List Blk) (n : Int) (i : Nat) (e : Blk), vs = [.ref st, .int n] ∧ Sto C H st wd pl rm en B ∧ B[i]? = some e ∧ e.al = true ∧ e.n = n ∧ Q (.int e.s.length) H
def spKind (C : Addr) : Sp := fun vs H Q _ => ∃ (st wd pl : Addr) (rm en : Int) (B : List Blk) (n : Int) (i : Nat) (e : Blk), vs = [.ref st, .int n] ∧ Sto C H st wd pl rm en B ∧ B[i]? = some e ∧ e.al = true ∧ e.n = n ∧ Q (.int e.k) H
def spGet (C : Addr) : Sp := fun vs H Q _ => ∃ (st wd pl : Addr) (rm en : Int) (B : List Blk) (n : Int) (i j : Nat) (e : Blk) (z : Int), vs = [.ref st, .int n, .int j] ∧ Sto C H st wd pl rm en B ∧ B[i]? = some e ∧ e.al = true ∧ e.n = n ∧ e.s[j]? = some z ∧ Q (.int z) H
def spSlots (C : Addr) : Sp := fun vs H Q _ => ∃ (st wd pl : Addr) (rm en : Int) (B : List Blk) (n : Int) (i : Nat) (e : Blk), vs = [.ref st, .int n] ∧ Sto C H st wd pl rm en B ∧ B[i]? = some e ∧ e.al = true ∧ e.n = n ∧ ∀ l, H l = none → Q (.ref l) (upd H l (.lst (e.s.map V.int)))
def spSetKind (C : Addr) : Sp := fun vs H Q _ => ∃ (st wd pl : Addr) (rm en : Int) (B : List Blk) (n z : Int) (i : Nat) (e : Blk), vs = [.ref st, .int n, .int z] ∧ Sto C H st wd pl rm en B ∧ B[i]? = some e ∧ e.al = true ∧ e.n = n ∧ ∀ H', Sto C H' st wd pl rm en (B.set i { e with k := z }) → KW.Fr [wd] H H' → Q .non H'
def spPut (C : Addr) : Sp := fun vs H Q _ => ∃ (st wd pl : Addr) (rm en : Int) (B : List Blk) (n z : Int) (i j : Nat) (e : Blk), vs = [.ref st, .int n, .int j, .int z] ∧ Sto C H st wd pl rm en B ∧ B[i]? = some e ∧ e.al = true ∧ e.n = n ∧ j < e.s.length ∧ ∀ H', Sto C H' st wd pl rm en (B.set i { e with s := e.s.set j z }) → KW.Fr [wd] H H' → Q .non H'
def spDrop (C : Addr) : Sp := fun vs H Q _ => ∃ (st wd pl : Addr) (rm en : Int) (B : List Blk) (n : Int) (i : Nat) (e : Blk), vs = [.ref st, .int n] ∧ Sto C H st wd pl rm en B ∧ B[i]? = some e ∧ e.al = true ∧ e.n = n ∧ ∀ H', Sto C H' st wd pl rm en (B.set i { e with al := false }) → KW.Fr [st, pl] H H' → Q .non H'
def spExchange (C : Addr) : Sp := fun vs H Q _ => ∃ (st wd pl : Addr) (rm en : Int) (B : List Blk) (m n : Int) (i j : Nat) (e f : Blk), vs = [.ref st, .int m, .int n] ∧ Sto C H st wd pl rm en B ∧ B.length ≤ 1000000 ∧ B[i]? = some e ∧ e.al = true ∧ e.n = m ∧ B[j]? = some f ∧ f.al = true ∧ f.n = n ∧
  ∀ H', Sto C H' st wd pl rm en (exch B i j e f) → KW.Fr [wd, pl] H H' → Q .non H'
def spFree (C NN : Addr) : Sp := fun vs H Q E => ∃ (st wd pl : Addr) (rm en : Int) (B : List Blk), vs = [.ref st] ∧ Sto C H st wd pl rm en B ∧ 0 ≤ en ∧ en ≤ 1000000 ∧ ∀ f, Free B f →
  (f < en → ∀ H', Sto C H' st wd pl rm en B → KW.Fr [st] H H' → Q (.int f) H') ∧
  (en ≤ f → ∀ H', Sto C H' st wd pl rm en B → KW.Fr [st] H H' → ∀ d, H' d = none → E (.ref NN) (some d) (upd H' d (.xd [("limit", .int en)])))
def spAllocate (C NR NN : Addr) : Sp := fun vs H Q E => ∃ (st wd pl : Addr) (rm en : Int) (B : List Blk) (kd : Int) (n : Nat), vs = [.ref st, .int kd, .int n] ∧ Sto C H st wd pl rm en B ∧ 0 ≤ en ∧ en ≤ 1000000 ∧ rm ≤ 1000000 ∧ n ≤ 1000000 ∧
  (rm < ((flat B).length : Int) + 3 + n → ∀ d, H d = none → E (.ref NR) (some d) (upd H d (.xd [("need", .int (3 + n))]))) ∧
  (((flat B).length : Int) + 3 + n ≤ rm → ∀ f, Free B f →
    (f < en → ∀ H', Sto C H' st wd pl rm en (B ++ [⟨f, kd, List.replicate n 0, true⟩]) → KW.Fr [st, wd, pl] H H' → Q (.int f) H') ∧
    (en ≤ f → ∀ H', Sto C H' st wd pl rm en B → KW.Fr [st] H H' → ∀ d, H' d = none → E (.ref NN) (some d) (upd H' d (.xd [("limit", .int en)]))))
theorem len_flat (B : List Blk) : 3 * B.length ≤ (flat B).length := by
  induction B with
  | nil => simp
  | cons e B ih => rw [flat_cons, List.length_append, Blk.ws_len, List.length_cons]; omega
end ST
namespace ST
open PySem PySem.Spec PyProof.Rows L2 KW
/-- a dict of found numbers -/
structure Fnd (kvs : KVs) (F : List Int) : Prop where
  ks : kvs.map (·.1) = F.map Sum.inl
  tr : ∀ n ∈ F, valV kvs (.inl n) = some (.bl true)
theorem Fnd.nil : Fnd [] [] := ⟨rfl, fun n h => by cases h⟩
theorem Fnd.mem {kvs : KVs} {F : List Int} (h : Fnd kvs F) (n : Int) : (valV kvs (.inl n)).isSome = decide (n ∈ F) := by
  apply Bool.eq_iff_iff.mpr
  rw [valV_some, h.ks, List.mem_map, decide_eq_true_eq]
  exact ⟨fun ⟨a, ha, z⟩ => by cases z; exact ha, fun ha => ⟨n, ha, rfl⟩⟩
theorem Fnd.put {kvs : KVs} {F : List Int} {n : Int} (h : Fnd kvs F) (hn : n ∉ F) : Fnd (putK kvs (.inl n) (.bl true)) (F ++ [n]) := by
  have e : valV kvs (.inl n) = none := by
    have := h.mem n
    rw [decide_eq_false hn] at this
    cases q : valV kvs (.inl n) with
    | none => rfl
    | some v => rw [q] at this; cases this
  refine ⟨by rw [putK_new e, h.ks, List.map_append]; rfl, fun m hm => ?_⟩
  rw [valV_putI]
  split
  · rfl
  · rename_i c
    refine h.tr m ?_
    rcases List.mem_append.mp hm with q | q
    · exact q
    · exact absurd (by simpa using q) c
theorem Fnd.len {kvs : KVs} {F : List Int} (h : Fnd kvs F) : kvs.length = F.length := by
  have := congrArg List.length h.ks
  rwa [List.length_map, List.length_map] at this
theorem rch_len {B : List Blk} {R F : List Int} (nd : F.Nodup) (h : ∀ n ∈ F, Rch B R n) : F.length ≤ B.length :=
  Nat.le_trans (nd.length_le_of_subset (l₂ := nums B) fun x hx => mem_nums.mpr (h x hx).lv) (nums_len B)
/-- reached(store, roots) -/
def spReached (C : Addr) : Sp := fun vs H Q _ => ∃ (st wd pl rt : Addr) (rm en : Int) (B : List Blk) (R : List Int), vs = [.ref st, .ref rt] ∧ Sto C H st wd pl rm en B ∧ IL H rt R ∧ (flat B).length ≤ 2000000 ∧ R.length ≤ 1000000 ∧
  ∀ (p : Addr) (F : List Int) (kvs : KVs) (H' : Hp), H p = none → KW.Fr [] H H' → H' p = some (.dK kvs) → Fnd kvs F → F.Nodup → (∀ n, n ∈ F ↔ Rch B R n) → Q (.ref p) H'
/-- words_of(store, numbers): a list, or a dict of found ones -/
def blkAt (B : List Blk) (n : Int) : Option Blk := B.find? fun e => e.al && decide (e.n = n)
theorem blkAt_ex {B : List Blk} {n : Int} (h : lv B n = true) : ∃ (i : Nat) (e : Blk), blkAt B n = some e ∧ B[i]? = some e ∧ e.al = true ∧ e.n = n := by
  unfold blkAt
  cases q : B.find? fun e => e.al && decide (e.n = n) with
  | none =>
    rw [List.find?_eq_none] at q
    obtain ⟨i, e, h1, h2, h3⟩ := lv_iff.mp h
    exact absurd (by simp [h2, h3]) (q e (List.mem_of_getElem? h1))
  | some e =>
    have h1 := List.find?_some q
    obtain ⟨i, hi⟩ := List.getElem?_of_mem (List.mem_of_find?_eq_some q)
    simp at h1
    exact ⟨i, e, rfl, hi, h1.1, h1.2⟩
theorem blkAt_eq {B : List Blk} (N : Nd B) {i : Nat} {e : Blk} (h : B[i]? = some e) (ha : e.al = true) : blkAt B e.n = some e := by
  obtain ⟨j, f, h1, h2, h3, h4⟩ := blkAt_ex (lv_at h ha)
  have := N i j e f h h2 ha h3 h4.symm
  subst this
  rw [h] at h2; cases h2; exact h1
/-- the words that the block n takes -/
def wof (B : List Blk) (n : Int) : Int := 3 + ((blkAt B n).map fun e => (e.s.length : Int)).getD 0
theorem wof_eq {B : List Blk} (N : Nd B) {i : Nat} {e : Blk} (h : B[i]? = some e) (ha : e.al = true) : wof B e.n = 3 + (e.s.length : Int) := by unfold wof; rw [blkAt_eq N h ha]; rfl
def spWordsOf (C : Addr) : Sp := fun vs H Q _ => ∃ (st wd pl nu : Addr) (rm en : Int) (B : List Blk) (F : List Int), vs = [.ref st, .ref nu] ∧ Sto C H st wd pl rm en B ∧ (IL H nu F ∨ nu ≠ pl ∧ ∃ kvs, H nu = some (.dK kvs) ∧ Fnd kvs F) ∧ F.length ≤ 1000000 ∧ (∀ n ∈ F, lv B n = true) ∧
  ∀ H', KW.Fr [] H H' → Q (.int (F.map (wof B)).sum) H'
end ST
namespace ST
open PySem PySem.Spec PyProof.Rows L2 KW
section
variable {C : Addr} {H : Hp} {st wd pl : Addr} {rm en : Int} {B : List Blk} {Q : VK} {E : XK} {m : Str} {sp : Sp} {t : TA} {σ : L2.St}
theorem met_s (S : Sto C H st wd pl rm en B) (l : (["room", "entries", "words", "_places", "_least"] : List Str).contains m = false) (q : t σ H fun vs H2 => sp (.ref st :: vs) H2 Q E) : uMet.uMt C m sp E t σ (.ref st) H Q := by
  obtain ⟨dx, lo, ob, _⟩ := S.ob
  refine ⟨dx, _, ob, ?_, q⟩
  simp only [List.contains_cons, List.contains_nil, Bool.or_eq_false_iff, Bool.or_false] at l
  simp only [List.lookup, l]
theorem words_s {Q : VK} {K : Frag} {mg : Str → Option Value} {x : Str} {ns : List Str} (S : Sto C H st wd pl rm en B) (c : ClsA K mg x C ns) (h : (PySem.Str.ofString "words" : Str) ∈ ns) (q : Q (.ref wd) H) : uGet K "words" (.ref st) H Q := by
  obtain ⟨dx, lo, ob, _⟩ := S.ob
  exact get_l ob c h (by rfl) q
theorem exists_s {n : Int} (S : Sto C H st wd pl rm en B) (q : Q (.bl (lv B n)) H) : spExists C [.ref st, .int n] H Q E := ⟨st, wd, pl, rm, en, B, n, rfl, S, q⟩
theorem used_s (S : Sto C H st wd pl rm en B) (q : Q (.int (flat B).length) H) : spUsed C [.ref st] H Q E := ⟨st, wd, pl, rm, en, B, rfl, S, q⟩
theorem numbers_s (S : Sto C H st wd pl rm en B) (hB : B.length ≤ 1000000) (q : ∀ (ys : List Int) (l : Addr), ys.Perm (nums B) → ys.Pairwise (· ≤ ·) → H l = none → Q (.ref l) (upd H l (.lst (ys.map V.int)))) : spNumbers C [.ref st] H Q E := ⟨st, wd, pl, rm, en, B, rfl, S, hB, q⟩
variable {n z : Int} {i j : Nat} {e f : Blk}
theorem size_s (S : Sto C H st wd pl rm en B) (hi : B[i]? = some e) (ha : e.al = true) (hn : e.n = n) (q : Q (.int e.s.length) H) : spSize C [.ref st, .int n] H Q E := ⟨st, wd, pl, rm, en, B, n, i, e, rfl, S, hi, ha, hn, q⟩
theorem kind_s (S : Sto C H st wd pl rm en B) (hi : B[i]? = some e) (ha : e.al = true) (hn : e.n = n) (q : Q (.int e.k) H) : spKind C [.ref st, .int n] H Q E := ⟨st, wd, pl, rm, en, B, n, i, e, rfl, S, hi, ha, hn, q⟩
theorem get_s (S : Sto C H st wd pl rm en B) (hi : B[i]? = some e) (ha : e.al = true) (hn : e.n = n) (hz : e.s[j]? = some z) (q : Q (.int z) H) : spGet C [.ref st, .int n, .int j] H Q E := ⟨st, wd, pl, rm, en, B, n, i, j, e, z, rfl, S, hi, ha, hn, hz, q⟩
theorem slots_s (S : Sto C H st wd pl rm en B) (hi : B[i]? = some e) (ha : e.al = true) (hn : e.n = n) (q : ∀ l, H l = none → Q (.ref l) (upd H l (.lst (e.s.map V.int)))) : spSlots C [.ref st, .int n] H Q E := ⟨st, wd, pl, rm, en, B, n, i, e, rfl, S, hi, ha, hn, q⟩
theorem setKind_s (S : Sto C H st wd pl rm en B) (hi : B[i]? = some e) (ha : e.al = true) (hn : e.n = n) (q : ∀ H', Sto C H' st wd pl rm en (B.set i { e with k := z }) → KW.Fr [wd] H H' → Q .non H') : spSetKind C [.ref st, .int n, .int z] H Q E := ⟨st, wd, pl, rm, en, B, n, z, i, e, rfl, S, hi, ha, hn, q⟩
theorem put_s (S : Sto C H st wd pl rm en B) (hi : B[i]? = some e) (ha : e.al = true) (hn : e.n = n) (hj : j < e.s.length) (q : ∀ H', Sto C H' st wd pl rm en (B.set i { e with s := e.s.set j z }) → KW.Fr [wd] H H' → Q .non H') : spPut C [.ref st, .int n, .int j, .int z] H Q E := ⟨st, wd, pl, rm, en, B, n, z, i, j, e, rfl, S, hi, ha, hn, hj, q⟩
theorem drop_s (S : Sto C H st wd pl rm en B) (hi : B[i]? = some e) (ha : e.al = true) (hn : e.n = n) (q : ∀ H', Sto C H' st wd pl rm en (B.set i { e with al := false }) → KW.Fr [st, pl] H H' → Q .non H') : spDrop C [.ref st, .int n] H Q E := ⟨st, wd, pl, rm, en, B, n, i, e, rfl, S, hi, ha, hn, q⟩
theorem exchange_s {k : Int} (S : Sto C H st wd pl rm en B) (hB : B.length ≤ 1000000) (hi : B[i]? = some e) (ha : e.al = true) (hn : e.n = n) (hj : B[j]? = some f) (fa : f.al = true) (fn : f.n = k) (q : ∀ H', Sto C H' st wd pl rm en (exch B i j e f) → KW.Fr [wd, pl] H H' → Q .non H') : spExchange C [.ref st, .int n, .int k] H Q E := ⟨st, wd, pl, rm, en, B, n, k, i, j, e, f, rfl, S, hB, hi, ha, hn, hj, fa, fn, q⟩
theorem reached_s {rt : Addr} {R : List Int} (S : Sto C H st wd pl rm en B) (hR : IL H rt R) (hB : (flat B).length ≤ 2000000) (hl : R.length ≤ 1000000) (q : ∀ (p : Addr) (F : List Int) (kvs : KVs) (H' : Hp), H p = none → KW.Fr [] H H' → H' p = some (.dK kvs) → Fnd kvs F → F.Nodup → (∀ n, n ∈ F ↔ Rch B R n) → Q (.ref p) H') : spReached C [.ref st, .ref rt] H Q E := ⟨st, wd, pl, rt, rm, en, B, R, rfl, S, hR, hB, hl, q⟩
theorem wordsOf_s {nu : Addr} {F : List Int} (S : Sto C H st wd pl rm en B) (h : IL H nu F ∨ nu ≠ pl ∧ ∃ kvs, H nu = some (.dK kvs) ∧ Fnd kvs F) (hl : F.length ≤ 1000000) (hF : ∀ n ∈ F, lv B n = true) (q : ∀ H', KW.Fr [] H H' → Q (.int (F.map (wof B)).sum) H') : spWordsOf C [.ref st, .ref nu] H Q E := ⟨st, wd, pl, nu, rm, en, B, F, rfl, S, h, hl, hF, q⟩
end
end ST

set_option Elab.async false
set_option linter.all false
set_option maxRecDepth 100000
set_option maxHeartbeats 4000000
/-! Kw3: sorted(d, key=lambda x: d[x]), d a local dict that the lambda captures -/
namespace KW
open PySem PySem.Spec PyProof.Rows L2 LamX PySem.W
theorem ints_eachIs : ∀ {vs : List Value} {ks : List Int}, IntsAre vs ks → EachIs (fun v (n : Int) => ∃ t, v = Value.int n t) vs ks
  | _, _, .nil => .nil
  | _, _, .cons n t r => .cons ⟨t, rfl⟩ (ints_eachIs r)
theorem eachIs_ints : ∀ {vs : List Value} {ks : List Int}, EachIs (fun v (n : Int) => ∃ t, v = Value.int n t) vs ks → IntsAre vs ks
  | _, _, .nil => .nil
  | _, _, .cons ⟨t, e⟩ r => by subst e; exact .cons _ t (eachIs_ints r)
theorem alike_ints (pv : Int → Int) (ks : List Int) : AllAlike (ks.map fun n => PyData.int (pv n)) := by
  intro d hd d' hd'
  obtain ⟨n, _, rfl⟩ := List.mem_map.mp hd
  obtain ⟨m, _, rfl⟩ := List.mem_map.mp hd'
  rfl
theorem sortable_ints (pv : Int → Int) (ks : List Int) : Sortable (ks.map fun n => PyData.int (pv n)) := by
  refine .inr fun d hd => ?_
  obtain ⟨n, _, rfl⟩ := List.mem_map.mp hd
  exact ⟨fun z => (by cases z), fun xs z => (by cases z)⟩
/-- a lambda is made: at most the table at P changes -/
theorem lam_made {X : Cx} {pins : List (Addr × Obj)} {σ : L2.St} {H : Hp} {s : Shared} {c P : Addr} {params : Arguments} {body : Expr} {scope : Scope} {pos : Pos} {E : Value → Shared → Prop} {Q : Value → Shared → Prop} (I : L2.Inv X pins σ H s) (TB : TabB X.base X.mg c P) (hcode : X.env.code = .ref c)
    (hT : TabS H P (X.env.qual ++ "<lambda>")) (hdef : defaultsOf params X.env = ([], [])) (hfree : ∀ y ∈ scope.names, y.2 = .free → ∃ c, X.env.cells.lookup y.1 = some c)
    (h : ∀ (f c' : Addr) (pm ctv : Value) (H1 : Hp) (s' : Shared), L2.Inv X pins σ H1 s' → KW.Fr [P] H H1 → TabS H1 P (X.env.qual ++ "<lambda>") →
      s'.heap.get? f = some (PySem.W.kla_obj "<lambda>" (X.env.qual ++ "<lambda>") params body scope (cloFrom X.env.cells scope.names []) pm c' ctv) → H1 c' = some (CodeO c' (X.env.qual ++ "<lambda>")) → Q (.ref f) s') :
    wpAny (model X.prog X.w) X.A (eval (.Lambda params body scope pos) X.env) Q E s := by
  obtain ⟨ps, hP, ht, ha⟩ := hT
  have bP := TB.bm.keeps I.bk
  have hP' := I.hok P _ hP
  refine PySem.W.kla_eval hdef ?_
  cases hc : codeAmong pos ps.toList with
  | some cv =>
    obtain ⟨c', rfl, hco⟩ := ha pos cv hc
    exact PySem.W.kla_makeFunctionHit (mg := X.mg) (c := c) (P := P) (ps := ps) (closure_ok hfree) I.ok.glob (I.mod.glob.keeps I.bk) hcode (TB.code.keeps I.bk) hP' ht hc bP fun ctv h' tk hx hsz =>
      h h'.objs.size c' ((X.mg "__name__").getD .none) ctv H _ (I.kept fun b o e => Heap.get?_push_of_some _ (hx b o e)) (Fr.refl H) ⟨ps, hP, ht, ha⟩ (Heap.get?_push_size _ rfl) hco
  | none =>
    refine PySem.W.kla_makeFunction (mg := X.mg) (c := c) (P := P) (ps := ps) (closure_ok hfree) I.ok.glob (I.mod.glob.keeps I.bk) hcode (TB.code.keeps I.bk) hP' ht hc TB.gP bP fun c' ctv h' tk hx hge hlt hrec htb => ?_
    obtain ⟨_, oc, vs, t, e2, hoc, hd, hv⟩ := hrec
    cases e2
    have nC : H c' = none := I.hok.fresh hge
    have fr : KW.Fr [P] H (upd (upd H P (.tbl (ps ++ #[rawInt pos.line, rawInt pos.col, .ref c']))) c' (CodeO c' (X.env.qual ++ "<lambda>"))) := fun b o n e => by
      rw [upd_ne (ne_of_none e nC), upd_ne (by simpa using n)]; exact e
    refine h h'.objs.size c' ((X.mg "__name__").getD .none) ctv _ _ (inv_table (t' := tk) (more := #[rawInt pos.line, rawInt pos.col, .ref c']) I hP (fun b o hb e => Heap.get?_push_of_some _ (hx b o hb e)) (Heap.get?_push_of_some _ htb) hge ⟨oc, vs, t, Heap.get?_push_of_some _ hoc, hd, hv⟩) fr
      ⟨_, by rw [upd_ne (ne_of_none hP nC), upd_same], ?_, fun p' cv hcv => ?_⟩ (Heap.get?_push_size _ rfl) upd_same
    · simpa using PySem.TriplesOk_snoc _ _ _ _ ht
    · rcases among_app _ ht (by simpa using hcv) with z | z
      · obtain ⟨c0, e1, e2⟩ := ha p' cv z
        refine ⟨c0, e1, fr _ _ (fun m => ?_) e2⟩
        have : c0 = P := by simpa using m
        rw [this, hP] at e2
        exact absurd (Option.some.inj e2).symm (codeO_ne ps)
      · exact ⟨c', z, upd_same⟩
/-- the table at P, all of whose code objects bear the name q -/
def tSortLam (P : Addr) (q : Str) (i : Nat) (td : TE) : TE := fun σ H Q => td σ H fun x H1 => ∃ (a : Addr) (kvs : List (Key × V)) (ks : List Int) (pv : Int → Int), x = .ref a ∧ σ[i]? = some (some (.ref a)) ∧ H1 a = some (.dK kvs) ∧ kvs.map (·.1) = ks.map Sum.inl ∧ ks.length ≤ sizeLine ∧ (∀ n ∈ ks, valV kvs (.inl n) = some (.int (pv n))) ∧ TabS H1 P q ∧
  ∀ (H2 : Hp) (ys : List Int) (l : Addr), KW.Fr [P] H1 H2 → TabS H2 P q → H2 l = none → ys.Perm ks → ys.Pairwise (fun u v => pv u ≤ pv v) → Q (.ref l) (upd H2 l (.lst (ys.map V.int)))
theorem k_sortLam {X : Cx} {c P : Addr} {e : Expr} {dn pn : Str} {i k : Nat} {params : Arguments} {scope : Scope} {td : TE} {p p1 p2 p3 lpos kpos pos : Pos}
    (TB : TabB X.base X.mg c P) (hcode : X.env.code = .ref c) (hr : Room (k + 1) X.A) (hcalm : X.calm = true) (he : PE X e td) (hg : Gl X "sorted") (hm : X.mg "sorted" = none) (hN : X.N[i]? = some dn) (hvis : X.env.scope.names.lookup dn = some .cell)
    (hdef : defaultsOf params X.env = ([], [])) (hbind : ∀ (q : Str) (cl : List (Str × Addr)) (pm cv ctv v : Value), bindArgs (PySem.W.kla_fn "<lambda>" q params (.Subscript (.Name dn p1) (.Name pn p2) p3) scope cl pm cv ctv) ⟨[v], []⟩ = pure [(pn, v)])
    (hk : scope.kind = .function) (hco : scope.isCoroutine = false) (hgen : scope.isGenerator = false) (hnc : ∀ y ∈ scope.names, y.2 ≠ .cell) (hpn : scope.names.lookup pn = some .local) (hdn : scope.names.lookup dn = some .free) (hfree : ∀ y ∈ scope.names, y.2 = .free → y.1 = dn)
    (hd1 : (dn == ("__debug__" : Str)) = false := by decide) (hd2 : (dn == ("__classdict__" : Str)) = false := by decide) (hd3 : (pn == ("__debug__" : Str)) = false := by decide)
    (hst : backTo pos (starEach [e] X.env) = (false, eval e X.env) :: backTo pos (starEach [] X.env) := by rfl) (hpl : (backTo pos (starEach [e] X.env)).any (·.1) = false := by rfl) (hst2 : starEach [e] X.env = (false, eval e X.env) :: starEach [] X.env := by rfl) (ht : ∀ o r, letTemporaryGo (.Name dn p1) o r = pure () := by intro _ _; rfl) :
    PE X (.Call (.Name "sorted" p) [e] [⟨some "key", .Lambda params (.Subscript (.Name dn p1) (.Name pn p2) p3) scope lpos, kpos⟩] pos) (tSortLam P (X.env.qual ++ "<lambda>") i td) := by
  refine ⟨fun pins s σ H Q I h => ?_⟩
  refine wpAny_Call_Name_kw (ld_blt (u := .builtin "sorted") I hg hm (by decide +kernel) ?_ (by decide) (by decide))
  refine PyProof.Rows.callWith_kw (thn ((pa_cons he pa_nil hst2).run pos pins s σ H (fun vs H1 => ∃ (a : Addr) (kvs : List (Key × V)) (ks : List Int) (pv : Int → Int), vs = [.ref a] ∧ σ[i]? = some (some (.ref a)) ∧ H1 a = some (.dK kvs) ∧ kvs.map (·.1) = ks.map Sum.inl ∧ ks.length ≤ sizeLine ∧ (∀ n ∈ ks, valV kvs (.inl n) = some (.int (pv n))) ∧ TabS H1 P (X.env.qual ++ "<lambda>") ∧
      ∀ (H2 : Hp) (ys : List Int) (l : Addr), KW.Fr [P] H1 H2 → TabS H2 P (X.env.qual ++ "<lambda>") → H2 l = none → ys.Perm ks → ys.Pairwise (fun u v => pv u ≤ pv v) → Q (.ref l) (upd H2 l (.lst (ys.map V.int)))) I ?A) fun us s1 ⟨vs, H1, I1, r1, q1⟩ => ?_) hst hpl (by rfl) (by rfl)
  case A =>
    unfold tSortLam at h
    show td σ H _
    have : (fun (x : V) (H1 : Hp) => tNil σ H1 fun vs H2 => ∃ (a : Addr) (kvs : List (Key × V)) (ks : List Int) (pv : Int → Int), x :: vs = [.ref a] ∧ σ[i]? = some (some (.ref a)) ∧ H2 a = some (.dK kvs) ∧ kvs.map (·.1) = ks.map Sum.inl ∧ ks.length ≤ sizeLine ∧ (∀ n ∈ ks, valV kvs (.inl n) = some (.int (pv n))) ∧ TabS H2 P (X.env.qual ++ "<lambda>") ∧
      ∀ (H3 : Hp) (ys : List Int) (l : Addr), KW.Fr [P] H2 H3 → TabS H3 P (X.env.qual ++ "<lambda>") → H3 l = none → ys.Perm ks → ys.Pairwise (fun u v => pv u ≤ pv v) → Q (.ref l) (upd H3 l (.lst (ys.map V.int)))) = fun x H1 => ∃ (a : Addr) (kvs : List (Key × V)) (ks : List Int) (pv : Int → Int), x = .ref a ∧ σ[i]? = some (some (.ref a)) ∧ H1 a = some (.dK kvs) ∧ kvs.map (·.1) = ks.map Sum.inl ∧ ks.length ≤ sizeLine ∧ (∀ n ∈ ks, valV kvs (.inl n) = some (.int (pv n))) ∧ TabS H1 P (X.env.qual ++ "<lambda>") ∧
      ∀ (H2 : Hp) (ys : List Int) (l : Addr), KW.Fr [P] H1 H2 → TabS H2 P (X.env.qual ++ "<lambda>") → H2 l = none → ys.Perm ks → ys.Pairwise (fun u v => pv u ≤ pv v) → Q (.ref l) (upd H2 l (.lst (ys.map V.int))) := by
      funext x H1
      unfold tNil
      simp only [List.cons.injEq, and_true]
    first
      | exact this ▸ h
      | (rw [this]; exact h)
      | exact (congrArg (td σ H) this).symm ▸ h
  obtain ⟨a, kvs, ks, pv, rfl, hs, hd, hks, hz, hpv, hT, q⟩ := q1
  show wpAny _ _ (evalAll ((do let v ← eval (.Lambda params (.Subscript (.Name dn p1) (.Name pn p2) p3) scope lpos) X.env; standAt pos; pure v) :: [])) _ _ s1
  have hhas : ∀ y ∈ scope.names, y.2 = .free → ∃ c, X.env.cells.lookup y.1 = some c := fun y hy e => by
    rw [hfree y hy e]
    exact I.ok.has _ (.inl hvis)
  refine wpAny_evalAll_cons (wpAny_bind (lam_made I1 TB hcode hT hdef hhas fun f c' pm ctv H2 s2 I2 eN hT2 hf hco' => ?_))
  refine wpAny_bind (wpAny_standAt (wpAny_pure ?_))
  refine wpAny_evalAll_nil ?_
  show wpAny _ _ (call (.builtin "sorted") us [(Str.ofString "key", .ref f)]) _ _ s2
  obtain ⟨u, eu, rx⟩ := vals1 r1
  subst eu
  cases rx
  have aP : a ≠ P := fun z => by
    obtain ⟨ps, hP, _⟩ := hT
    rw [z, hP] at hd; cases hd
  have hd2' : H2 a = some (.dK kvs) := eN _ _ (by simpa using aP) hd
  obtain ⟨z0, lo, vs, rel, dd⟩ := dk_rd I2.hok (.inl hd2')
  obtain ⟨ep, hat⟩ := dd.dictAt
  have hkeys : vs.map (·.1) = ks.map Sum.inl := rel.keys.symm.trans hks
  have hl : vs.length = ks.length := by
    have e := congrArg List.length hkeys
    rw [List.length_map, List.length_map] at e
    exact e
  have h16 : vs.length ≤ sizeLine := by rw [hl]; exact hz
  refine PyProof.Rows.call_function_entry_kw PyProof.Rows.kind_sorted PyProof.Rows.plain_sorted PyProof.Rows.entry_sorted (ksk_s1 _ _) ?_
  unfold Builtin.«sorted»
  refine wpAny_bind (m := checkCount "sorted" 1 1 _) (wpAny_pure ?_)
  refine wpAny_bind (PySem.W.kdu_collect (A := X.A.in1) (PySem.W.kdl_dict (knd := mixKind X.prog X.w) (kvs := vs) (ep := ep) lo) (I2.ok.hd hcalm) hat h16 fun h' tk acc hkp hacc => ?_)
  have hal : acc.toList.length = ks.length := by rw [Array.length_toList, hacc.1, hl]
  have hS : IntsAre acc.toList ks := ints_each hal fun j v e => by
    obtain ⟨k, x, e1, e2⟩ := hacc.2 j v (by rw [← Array.getElem?_toList]; exact e)
    have e3 : (vs.map (·.1))[j]? = some k := by rw [List.getElem?_map, e1]; rfl
    rw [hkeys, List.getElem?_map] at e3
    cases e4 : ks[j]? with
    | none => rw [e4] at e3; cases e3
    | some y =>
      rw [e4] at e3
      have e5 : Sum.inl y = k := Option.some.inj e3
      subst e5
      rcases keyIs_shape (show keyIs (Sum.inl y) v = true from e2) with ⟨i, t, ek, ev⟩ | ⟨z, t, ek, ev⟩
      · cases ek
        exact ⟨y, t, rfl, ev⟩
      · cases ek
  have I3 : L2.Inv X pins σ H2 { s2 with heap := h', toks := tk } := I2.kept hkp
  refine wpAny_bind (wpAny_newList ?_ (by rw [hal]; exact hz))
  have hoL : (h'.push (seqObj "list" acc.toList.toArray 0)).get? h'.objs.size = some (seqObj "list" acc.toList.toArray 0) := Heap.get?_push_size _ rfl
  show wpAny _ _ _ _ _ { s2 with heap := h'.push (seqObj "list" acc.toList.toArray 0), toks := tk }
  have I4 : L2.Inv X pins σ H2 { s2 with heap := h'.push (seqObj "list" acc.toList.toArray 0), toks := tk } := I3.kept (t' := tk) fun b o e => Heap.get?_push_of_some _ e
  have of4 : (h'.push (seqObj "list" acc.toList.toArray 0)).get? f = some (PySem.W.kla_obj "<lambda>" (X.env.qual ++ "<lambda>") params (.Subscript (.Name dn p1) (.Name pn p2) p3) scope (cloFrom X.env.cells scope.names []) pm c' ctv) := Heap.get?_push_of_some _ (hkp _ _ hf)
  obtain ⟨m0, hn0, hl0⟩ := I.loc
  obtain ⟨cA, hcA⟩ : ∃ cA, X.env.cells.lookup dn = some cA := I.ok.has _ (.inl hvis)
  have hcl : (cloFrom X.env.cells scope.names []).lookup dn = some cA := by
    have hy : (dn, NameKind.free) ∈ scope.names := PySem.mem_of_lookup hdn
    obtain ⟨c2, h2⟩ := mem_lookup (cloFrom_has (cells := X.env.cells) (acc := []) hy)
    rcases cloFrom_mem (PySem.mem_of_lookup h2) with hm | ⟨h1, h3⟩
    · cases hm
    · obtain ⟨c1, hc⟩ := hhas _ h1 rfl
      have hc : X.env.cells.lookup dn = some c1 := hc
      rw [hcA] at hc; cases hc
      rw [h2, h3]
      have : X.env.cells.lookup dn = some cA := hcA
      simp [this]
  have fin : ∀ (out : List Value) (h3 : Heap) (tk3 : Nat), KeepsBut h'.objs.size (h'.push (seqObj "list" acc.toList.toArray 0)) h3 → (∃ c, h3.get? h'.objs.size = some (seqObj "list" out.toArray c)) → EachIs (fun v (n : Int) => ∃ t, v = Value.int n t) out (ks.mergeSort (dataLe false fun n => PyData.int (pv n))) →
      EP X pins σ Q (.ref h'.objs.size) { s2 with heap := h3, toks := tk3 } := by
    rintro out h3 tk3 kb ⟨cc, ho⟩ ei
    have g1 := eachIs_ints ei
    have hn4 : H2 h'.objs.size = none := I3.hok.fresh (Nat.le_refl _)
    have hpm : (ks.mergeSort (dataLe false fun n => PyData.int (pv n))).Perm ks := List.mergeSort_perm _ _
    have hlen : ((ks.mergeSort (dataLe false fun n => PyData.int (pv n))).map V.int).length ≤ sizeLine := by
      rw [List.length_map, hpm.length_eq]
      exact hz
    refine ⟨.ref h'.objs.size, upd H2 h'.objs.size (.lst ((ks.mergeSort (dataLe false fun n => PyData.int (pv n))).map V.int)), I3.laid (t' := tk3) (fun b u e => ?_) (Nat.le_refl _)
      (show ObjOk X.prog X.w _ _ _ (.lst _) from ⟨hlen, out, cc, vals_of_ints g1, ho⟩), rfl, q H2 _ _ eN hT2 hn4 hpm ?_⟩
    · exact kb b u (Nat.ne_of_lt (Heap.lt_size e)) (Heap.get?_push_of_some _ e)
    · rw [dataLe_int]
      have := List.pairwise_mergeSort (le := fun a b => decide (pv a ≤ pv b)) (fun a b c h1 h2 => by simp at h1 h2 ⊢; omega) (fun a b => by simp; omega) ks
      exact this.imp fun {u v} h => by simpa using h
  have turn : ∀ (v : Value) (x : Int), (∃ t, v = Value.int x t) → x ∈ ks → ∀ (g : Heap) (tkg : Nat), KeepsBut h'.objs.size (h'.push (seqObj "list" acc.toList.toArray 0)) g →
      wpAny (model X.prog X.w) X.A.in1.in1 (call (.ref f) [v]) (KeyPure (PyData.int (pv x)) { s2 with heap := g, toks := tkg }) (fun _ _ => False) { s2 with heap := g, toks := tkg } := by
    rintro v x ⟨t, rfl⟩ hx g tkg kb
    have keep : ∀ b o, h'.get? b = some o → g.get? b = some o := fun b o e => kb b o (Nat.ne_of_lt (Heap.lt_size e)) (Heap.get?_push_of_some _ e)
    have I5 : L2.Inv X pins σ H2 { s2 with heap := g, toks := tkg } := I3.kept (t' := tkg) keep
    obtain ⟨⟨oc, cvs, ct, hoc, hdc, hvc⟩, _, _⟩ := I5.hok c' _ hco'
    refine wpAny_call (kla_callFunE (A := X.A.in1.in1) hr.depth (keep _ _ (hkp _ _ hf)) rfl hco hgen rfl ⟨c', oc, cvs, ct, rfl, hoc, hdc, hvc⟩ ?_)
    rw [hbind]
    refine wpAny_pure (wpAny_newFunctionEnv hnc (fun y hy => by simp at hy; subst hy; exact hpn) (fun h₁ hns hsb => ⟨I5.nolimit.fresh _ hsb, ?_⟩) hk)
    show codeAny _ _ (.expr _ (PySem.W.envX (X.env.qual ++ "<lambda>") scope g.objs.size f (.ref c') (cloFrom X.env.cells scope.names []))) _ _
    have kp1 : ∀ b o, g.get? b = some o → h₁.get? b = some o := fun b o e => hsb.extBut b o (Nat.ne_of_lt (Heap.lt_size e)) (Heap.get?_push_of_some _ e)
    have I6 : L2.Inv X pins σ H2 { s2 with heap := h₁, toks := tkg + 1 } := I5.kept (t' := tkg + 1) kp1
    obtain ⟨m, hn, hlm⟩ := I6.loc
    obtain ⟨u, r, l⟩ := hlm i dn (.ref a) hN hs (Or.inr (Or.inl hvis))
    cases r
    rcases l with ⟨hk', _⟩ | ⟨_, c3, e', hcell⟩
    · have hk' : X.env.scope.names.lookup dn = some .local := hk'
      rw [hvis] at hk'; cases hk'
    have e' : X.env.cells.lookup dn = some c3 := e'
    rw [hcA] at e'; cases e'
    have hcell : Heap.IsCell h₁ cA (some (.ref a)) := hcell
    obtain ⟨z6, lo6, vs6, rel6, dd6⟩ := dk_rd I6.hok (.inl hd2')
    obtain ⟨w', hw', rw'⟩ := RelO.some_of (v := .int (pv x)) (o := valueAt vs6 (.inl x)) (by rw [← hpv x hx]; exact rel6.val (.inl x))
    obtain ⟨tw, rfl⟩ := rw'
    refine kla_codeExpr (subD_of PySem.F.slot_dict_getitem.lookup (fun _ _ => rfl) (wpAny_Name (wpAny_loadName_free hk hdn hcl hcell (wpAny_Name (wpAny_loadName_local hk hpn hns (v := .int x t) ?L ⟨?T, ?G⟩) hd3) hd2) hd1))
    case L => simp
    case T => exact dd6.mapOf.typeIs
    case G => exact wpAny_getItem_of (show (mixKind X.prog X.w).is (.inl x) (.int x t) = true from kV_is (k := .inl x) (show RelV (V.int x) (.int x t) from ⟨t, rfl⟩)) dd6.mapOf hw' ⟨h₁, _, rfl, kp1, .int _ _⟩
  refine wpAny_bind (wpAny_holding (wpAny_call_entry_kw PyProof.Rows.slot_list_sort ⟨_, hoL, rfl⟩ PyProof.Rows.entry_list_sort ?body (ksk_l1 _ _)))
  case body =>
    rw [ksk_t1]
    refine keyH_tree (kz := ks.map fun n => PyData.int (pv n)) (s := { s2 with heap := h'.push (seqObj "list" acc.toList.toArray 0), toks := tk }) hoL (by rw [List.length_map]; exact hal.symm) (by rw [hal]; exact hz) (alike_ints pv ks) (sortable_ints pv ks) ?_
      (keyH_turns (s := { s2 with heap := h'.push (seqObj "list" acc.toList.toArray 0), toks := tk }) (ints_eachIs hS) turn) fun h3 tk3 out cc kp hD ko => ⟨_, rfl, ?_⟩
    · intro d hd
      obtain ⟨n, _, rfl⟩ := List.mem_map.mp hd
      have := hr.un
      show X.A.units + 1 + 1 + _ < _
      simp only [PyData.depth]
      omega
    · exact wpAny_pure ⟨_, rfl, fin out h3 tk3 kp ⟨cc, hD⟩ (keyedOut_each _ ko (ints_eachIs hS))⟩
end KW

set_option Elab.async false
set_option linter.all false
set_option maxRecDepth 100000
set_option maxHeartbeats 4000000
/-! Kw3b: methods whose code object is told; the end with a table -/
namespace KW
open PySem PySem.Spec PyProof.Rows L2 LamX
structure MetAtC (K : Frag) (C : Addr) (m qual : Str) (st : Stmt) (ps : List Str) (c : Addr) : Prop where
  ex : ∃ f, Meth K C m f ∧ ∃ fd, FunD K m qual (defArgs st) (defBody st) (defScope st) [] [] f fd ∧ fd.code = .ref c ∧ Binds K fd ps []
structure DefAtC (K : Frag) (mg : Str → Option Value) (x qual : Str) (st : Stmt) (ps : List Str) (c : Addr) : Prop where
  ex : ∃ (f : Addr) (fd : FuncData), mg x = some (.ref f) ∧ Fun K x qual st f fd ∧ fd.code = .ref c ∧ Binds K fd ps []
section
variable {P : Program} {w : World} {K : Frag} {mg : Str → Option Value} {base : Heap}
theorem MetAtC.ok {C c : Addr} {m qual : Str} {st : Stmt} {N ps : List Str} {k : Nat} {sp : Sp} (D : MetAtC K C m qual st ps c) (cl : Cls K C) (S : FnScope N ps (defScope st)) (len : ∀ vs H Q E, sp vs H Q E → vs.length = ps.length)
    (hbody : ∀ (f : Addr) (A : Around) (outer : List Env) (s : Shared) (H : Hp) (vs : List V) (Q : VK) (E : XK), Room k (A.deeper (envOfC qual (defScope st) s.heap.objs.size f (.ref c))) → sp vs H Q E →
      ∃ t, PSs (cxOf (L2N.CX P w) P w K mg base N qual (defScope st) f (.ref c) A outer s H E) (defBody st) t ∧ t { nx := fun _ H' => Q .non H', rt := Q } (start N vs) H) : CalM P w K mg base (k + 1) C m sp := by
  obtain ⟨f, M, fd, F, hc, hb⟩ := D.ex
  obtain ⟨oc, od, dV, kV, doc, pm, an, cdv, ct, osl, rfl, lk, hcd, _, _⟩ := F.ex
  have hc : cdv = .ref c := hc
  subst hc
  exact ⟨cl, f, _, ps, M, hb, fn_of lk hcd S len fun A outer s H vs Q E hr hsp => hbody f A outer s H vs Q E hr hsp⟩
theorem metAtC_mk {C f c : Addr} {m qual : Str} {st : Stmt} {ps : List Str} {oc : Value} {od an : Option Addr} {osl : Array (Option Value)} {kV doc pm ct : Value} (a : PySem.W.findIn K (.ref C) m = some (some (.ref f))) (fn : PySem.W.isFn K (.ref f) = true) (kp : PySem.W.keepIn K (.ref f) = true)
    (l : K.lookup f = some ⟨oc, od, .func (PySem.W.fnOf m qual (defArgs st) (defBody st) (defScope st) .none kV doc pm an (.ref c) ct), osl⟩) (hc : PySem.W.codeIn K (.ref c) qual = true)
    (hb : ∀ (kV doc pm : Value) (an : Option Addr) (cdv ct : Value) (us : List Value), us.length = ps.length → bindArgs (PySem.W.fnOf m qual (defArgs st) (defBody st) (defScope st) .none kV doc pm an cdv ct) ⟨us, []⟩ = pure (ps.zip us)) : MetAtC K C m qual st ps c := by
  have F : FunD K m qual (defArgs st) (defBody st) (defScope st) [] [] f _ := ⟨⟨oc, od, .none, kV, doc, pm, an, .ref c, ct, osl, rfl, l, hc, .inl ⟨rfl, rfl⟩, .inl rfl⟩, kp⟩
  exact ⟨f, ⟨a, fn, kp⟩, _, F, rfl, F.bindsN hb⟩
/-- the law's promise, a table of code objects at p -/
def sp_law63T (K : Frag) (p : Addr) (q : Str) : Sp := fun vs H Q _ => ∃ (sc : Addr) (ns : List Int), vs = [.ref sc] ∧ SqL K H sc (ns.map .int) ∧ ns.length ≤ 63 ∧ TabS H p q ∧ ∀ H', Q (.bl true) H'
end
theorem walk63T {l : PySem.W.OpenLaw} {k : Nat} {st : Stmt} {q : Program} {loose : List Str} {XP : (Str → Option Value) → Heap → Prop} {YP : World → Heap → Prop} {d : DefRec} {K : Params → PySem.W.Frag} (hn : l.most = some 63) (hdf : d.params.defaults = []) (hd : d.name = "law") (hr : Room k callerA)
    (hY : ∀ (w : World) (h : Heap), YP w h → (K w.params).In h)
    (hb : ∀ (kV doc pm : Value) (an : Option Addr) (cdv ct : Value) (us : List Value), us.length = ["script"].length → bindArgs (PySem.W.fnOf "law" "law" (defArgs st) (defBody st) (defScope st) .none kV doc pm an cdv ct) ⟨us, []⟩ = pure ((["script"] : List Str).zip us))
    (F : ∀ (w : World) (mg : Str → Option Value) (h : Heap), YP w h → (K w.params).In h → h.Ns mainGlobals mg →
      DefAt (K w.params) mg "law" "law" st ["script"] ∧ ∃ (c p : Addr) (qn : Str), h.get? p = some { cls := .none, data := .fields #[] } ∧ (K w.params).lookup p = none ∧ PySem.W.codeHdIn (K w.params) c p = true ∧
        ∀ base f fd, TabB base mg c p → Fun (K w.params) "law" "law" st f fd → FnOk l.prog w (K w.params) mg base (L2N.CX l.prog w) k f fd ["script"] (sp_law63T (K w.params) p qn)) :
    PySem.W.WalkO q loose XP YP l.row.toRowW d [] (fun f vs => PySem.call f vs) := by
  refine walk_ofTs (n := 63) (k := k) (x := "script") (K := K) (CX := fun w => L2N.CX l.prog w) hn (by decide) hdf hr hY ?_ fun _ _ _ _ _ h => CX_none h
  intro w mg fa h Y KX G hmg
  obtain ⟨D, c, p, qn, hT, nT, hC, ok⟩ := F w mg h Y KX G
  obtain ⟨f, fd, hm, Fu, _⟩ := D.ex
  rw [hd, hm] at hmg
  cases hmg
  have Fu' := Fu
  obtain ⟨oc, od, kV, doc, pm, an, cdv, ct, osl, rfl, lk, hcd⟩ := Fu.ex
  refine ⟨_, [(c, p)], sp_law63T (K w.params) p qn, fun z hz => ?_, fun z hz => ?_, fun z hz => ?_, fun s u => .of_eq (hb kV doc pm an cdv ct [u] rfl), fun H a ns hl _ hH hS => ⟨a, ns, rfl, hS, hl, TabS.nil (hH (c, p) (by simp)), fun _ => rfl⟩, fun base _ _ hB => ok base _ _ (hB (c, p) (by simp)) Fu'⟩
  · simp at hz; subst hz; exact hT
  · simp at hz; subst hz; exact nT
  · simp at hz; subst hz; exact PySem.W.codeHd_of_K KX hC
end KW

set_option Elab.async false
set_option linter.all false
set_option maxRecDepth 100000
set_option maxHeartbeats 4000000
/-! StC: closing up -/
namespace ST
open PySem PySem.Spec PyProof.Rows L2 KW LamX
abbrev alv (B : List Blk) : List Blk := B.filter fun e => e.al
theorem nums_alv (B : List Blk) : nums B = (alv B).map fun e => e.n := rfl
theorem lv_alv (B : List Blk) (n : Int) : lv (alv B) n = lv B n := by
  unfold lv alv
  rw [List.any_filter]
  congr 1
  funext e
  cases e.al <;> rfl
theorem mem_alv {B : List Blk} {i : Nat} {e : Blk} (h : (alv B)[i]? = some e) : ∃ j : Nat, B[j]? = some e ∧ e.al = true := by
  have := List.mem_of_getElem? h
  rw [List.mem_filter] at this
  obtain ⟨j, hj⟩ := List.getElem?_of_mem this.1
  exact ⟨j, hj, this.2⟩
theorem Nd.alv {B : List Blk} (N : Nd B) : Nd (alv B) := by
  intro i j e f h1 h2 _ _ hn
  have nd := nums_nodup N
  rw [nums_alv] at nd
  have e1 : ((ST.alv B).map fun e => e.n)[i]? = some e.n := by rw [List.getElem?_map, h1]; rfl
  have e2 : ((ST.alv B).map fun e => e.n)[j]? = some e.n := by rw [List.getElem?_map, h2, hn]; rfl
  exact (List.getElem?_inj (List.getElem?_eq_some_iff.mp e1).1 nd).mp (e1.trans e2.symm)
theorem get_ws {B : List Blk} {i : Nat} {e : Blk} (h : B[i]? = some e) : ((flat B).drop (off B i)).take (e.s.length + 3) = e.ws := by
  rw [flat_at h, List.drop_append, List.drop_eq_nil_of_le (by simp only [off]; omega), List.nil_append]
  have : off B i - (flat (B.take i)).length = 0 := by simp only [off]; omega
  rw [this, List.drop_zero, List.take_append_of_le_length (by rw [Blk.ws_len]; omega), List.take_of_length_le (by rw [Blk.ws_len]; omega)]
/-- the numbers, by their places -/
theorem nums_by {B : List Blk} {pv : Int → Int} (h : ∀ (i : Nat) (e : Blk), B[i]? = some e → e.al = true → pv e.n = (off B i : Nat)) : (nums B).Pairwise fun u v => pv u ≤ pv v := by
  unfold nums
  rw [List.pairwise_map, List.pairwise_filter, List.pairwise_iff_getElem]
  intro i j hi hj hij h1 h2
  rw [h i _ (List.getElem?_eq_getElem hi) h1, h j _ (List.getElem?_eq_getElem hj) h2]
  have := off_lt (List.getElem?_eq_getElem hi) hij
  omega
theorem by_uniq {B : List Blk} {pv : Int → Int} {ys : List Int} (h : ∀ (i : Nat) (e : Blk), B[i]? = some e → e.al = true → pv e.n = (off B i : Nat)) (p : ys.Perm (nums B)) (s : ys.Pairwise fun u v => pv u ≤ pv v) : ys = nums B := by
  refine List.Perm.eq_of_pairwise (le := fun u v => pv u ≤ pv v) (fun x y hx hy h1 h2 => ?_) s (nums_by h) p
  obtain ⟨i, e, hi, ha, rfl⟩ := lv_iff.mp (mem_nums.mp (p.mem_iff.mp hx))
  obtain ⟨j, f, hj, fa, rfl⟩ := lv_iff.mp (mem_nums.mp hy)
  rw [h i e hi ha, h j f hj fa] at h1 h2
  have := off_inj hi hj (by omega)
  subst this
  rw [hi] at hj; cases hj; rfl
theorem lv_take {B : List Blk} (N : Nd B) {i : Nat} {e : Blk} (h : B[i]? = some e) (ha : e.al = true) : lv (B.take i) e.n = false := by
  apply Bool.eq_false_iff.mpr
  intro z
  obtain ⟨j, f, hj, fa, fn⟩ := lv_iff.mp z
  have hj2 : j < i := by
    have := (List.getElem?_eq_some_iff.mp hj).1
    rw [List.length_take] at this; omega
  rw [List.getElem?_take_of_lt hj2] at hj
  have := N j i f e hj h fa ha fn
  omega
theorem flat_le {B : List Blk} : (flat (alv B)).length ≤ (flat B).length := by
  induction B with
  | nil => exact Nat.le_refl _
  | cons e B ih =>
    unfold alv
    rw [List.filter_cons]
    split
    · rw [flat_cons, flat_cons, List.length_append, List.length_append]
      have : (flat (B.filter fun e => e.al)).length ≤ (flat B).length := ih
      omega
    · rw [flat_cons, List.length_append]
      have : (flat (B.filter fun e => e.al)).length ≤ (flat B).length := ih
      omega
theorem flat_take_le {B : List Blk} (i : Nat) : (flat (B.take i)).length ≤ (flat B).length := by
  conv => rhs; rw [← List.take_append_drop i B, flat_app, List.length_append]
  omega
def spCloseUp (C p : Addr) (q : Str) : Sp := fun vs H Q _ => ∃ (st wd pl : Addr) (rm en : Int) (B : List Blk), vs = [.ref st] ∧ Sto C H st wd pl rm en B ∧ TabS H p q ∧ (flat B).length ≤ 2000000 ∧
  ∀ H' wd' pl', Sto C H' st wd' pl' rm en (alv B) → H wd' = none → H pl' = none → KW.Fr [st, p] H H' → TabS H' p q → Q .non H'
theorem _root_.LamX.TabS.new' {H H' : Hp} {p : Addr} {q : Str} {l : List Addr} (t : TabS H p q) (f : KW.Fr l H H') (n : ∀ x ∈ l, (∃ o, H x = some o ∧ (∀ ps, o ≠ .tbl ps) ∧ o ≠ CodeO x q) ∨ H x = none) : TabS H' p q := by
  have key : ∀ b o, H b = some o → ((∃ ps, o = .tbl ps) ∨ o = CodeO b q) → H' b = some o := fun b o e z => by
    refine f b o (fun m => ?_) e
    rcases n b m with ⟨o', e', h1, h2⟩ | e'
    · rw [e] at e'; cases e'
      rcases z with ⟨ps, z⟩ | z
      · exact h1 ps z
      · exact h2 z
    · rw [e] at e'; cases e'
  obtain ⟨ps, h1, h2, h3⟩ := t
  refine ⟨ps, key _ _ h1 (.inl ⟨ps, rfl⟩), h2, fun pos cv hc => ?_⟩
  obtain ⟨c, e1, e2⟩ := h3 pos cv hc
  exact ⟨c, e1, key _ _ e2 (.inr rfl)⟩
/-- no thing of the store, nor a list, is of the table -/
theorem codeO_lst {c : Addr} {q : Str} {xs : List V} : (HO.lst xs) ≠ CodeO c q := fun z => by unfold CodeO at z; cases z
theorem codeO_dK {c : Addr} {q : Str} {kvs : List (Key × V)} : (HO.dK kvs) ≠ CodeO c q := fun z => by unfold CodeO at z; cases z
theorem codeO_ins {c C dx : Addr} {q : Str} {fs : List (Str × V)} : (HO.ins C dx fs) ≠ CodeO c q := fun z => by unfold CodeO at z; cases z
theorem codeO_tup {c : Addr} {q : Str} {xs : List V} : (HO.tup xs) ≠ CodeO c q := fun z => by unfold CodeO at z; cases z
theorem _root_.LamX.TabS.fr0 {H H' : Hp} {p : Addr} {q : Str} (t : TabS H p q) (f : KW.Fr [] H H') : TabS H' p q := LamX.TabS.new' t f (by simp)
theorem _root_.LamX.TabS.ne {H : Hp} {p b : Addr} {q : Str} {o : HO} (t : TabS H p q) (h : H b = some o) (n : ∀ ps, o ≠ .tbl ps) : b ≠ p := fun z => by
  obtain ⟨ps, e, _⟩ := t
  rw [z, e] at h; cases h
  exact n ps rfl
/-- a thing that is no table and no code object -/
def Pln (o : HO) : Prop := (∀ ps, o ≠ .tbl ps) ∧ ∀ c q, o ≠ CodeO c q
theorem pln_lst {xs : List V} : Pln (.lst xs) := ⟨fun ps z => (by cases z), fun c q => codeO_lst⟩
theorem pln_tup {xs : List V} : Pln (.tup xs) := ⟨fun ps z => (by cases z), fun c q => codeO_tup⟩
theorem pln_dK {kvs : List (Key × V)} : Pln (.dK kvs) := ⟨fun ps z => (by cases z), fun c q => codeO_dK⟩
theorem pln_ins {C dx : Addr} {fs : List (Str × V)} : Pln (.ins C dx fs) := ⟨fun ps z => (by cases z), fun c q => codeO_ins⟩
theorem _root_.LamX.TabS.upd {H : Hp} {p b : Addr} {q : Str} {o o' : HO} (t : TabS H p q) (h : H b = some o) (n : Pln o) : TabS (L2.upd H b o') p q :=
  LamX.TabS.new' (l := [b]) t (Fr.upd (by simp)) fun x hx => by
    have : x = b := by simpa using hx
    subst this
    exact .inl ⟨o, h, n.1, n.2 _ _⟩
theorem _root_.LamX.TabS.add {H : Hp} {p b : Addr} {q : Str} {o' : HO} (t : TabS H p q) (h : H b = none) : TabS (L2.upd H b o') p q := t.fr0 (Fr.new h)
theorem _root_.LamX.TabS.frl {H H' : Hp} {p : Addr} {q : Str} {l : List Addr} (t : TabS H p q) (f : KW.Fr l H H') (n : ∀ x ∈ l, ∃ o, H x = some o ∧ Pln o) : TabS H' p q := LamX.TabS.new' t f fun x hx => by
  obtain ⟨o, h, n1, n2⟩ := n x hx
  exact .inl ⟨o, h, n1, n2 _ _⟩
theorem Sto.pln {C : Addr} {H : Hp} {st wd pl : Addr} {rm en : Int} {B : List Blk} (s : Sto C H st wd pl rm en B) : ∀ x ∈ fpS st wd pl, ∃ o, H x = some o ∧ Pln o := by
  obtain ⟨⟨dx, lo, ob, l1⟩, wo, ⟨kvs, pa, ok⟩, nd, nn, wp, sw, sp⟩ := s
  intro x hx
  simp only [List.mem_cons, List.not_mem_nil, or_false] at hx
  rcases hx with rfl | rfl | rfl
  · exact ⟨_, ob, pln_ins⟩
  · exact ⟨_, wo, pln_lst⟩
  · exact ⟨_, pa, pln_dK⟩
end ST
namespace ST
open PySem PySem.Spec PyProof.Rows L2 KW LamX
/-- the blocks with these numbers are dropped -/
def kill (D : List Int) (B : List Blk) : List Blk := B.map fun e => if e.n ∈ D then { e with al := false } else e
theorem kill_nil (B : List Blk) : kill [] B = B := by
  unfold kill
  simp
theorem kill_get {D : List Int} {B : List Blk} {i : Nat} : (kill D B)[i]? = (B[i]?).map fun e => if e.n ∈ D then { e with al := false } else e := by unfold kill; rw [List.getElem?_map]
theorem kill_len (D : List Int) (B : List Blk) : (kill D B).length = B.length := by unfold kill; rw [List.length_map]
theorem flat_kill (D : List Int) (B : List Blk) : flat (kill D B) = flat B := by
  induction B with
  | nil => rfl
  | cons e B ih =>
    have : kill D (e :: B) = (if e.n ∈ D then { e with al := false } else e) :: kill D B := rfl
    rw [this, flat_cons, flat_cons, ih]
    split <;> rfl
theorem kill_set {D : List Int} {B : List Blk} {j : Nat} {e : Blk} (N : Nd B) (h : B[j]? = some e) (ha : e.al = true) (hn : e.n ∉ D) : (kill D B)[j]? = some e ∧ (kill D B).set j { e with al := false } = kill (D ++ [e.n]) B := by
  have h1 : (kill D B)[j]? = some e := by rw [kill_get, h]; simp [hn]
  refine ⟨h1, ?_⟩
  apply List.ext_getElem?
  intro i
  rw [get_set h1, kill_get, kill_get]
  by_cases c : i = j
  · subst c
    rw [if_pos rfl, h]
    simp
  · rw [if_neg c]
    cases hi : B[i]? with
    | none => rfl
    | some f =>
      simp only [Option.map_some]
      by_cases d : f.n = e.n
      · have : f.al = false := by
          cases q : f.al with
          | false => rfl
          | true => exact absurd (N i j f e hi h q ha d) c
        have ff : ({ f with al := false } : Blk) = f := by cases f; simp_all
        rw [ff]
        simp
      · have : (f.n ∈ D ++ [e.n]) ↔ f.n ∈ D := by simp [d]
        simp only [this]
theorem alv_kill {D F : List Int} {B : List Blk} (hD : ∀ n, lv B n = true → (n ∈ D ↔ n ∉ F)) : alv (kill D B) = B.filter fun e => e.al && decide (e.n ∈ F) := by
  have key : ∀ C : List Blk, (∀ e ∈ C, e.al = true → (e.n ∈ D ↔ e.n ∉ F)) → alv (kill D C) = C.filter fun e => e.al && decide (e.n ∈ F) := by
    intro C
    induction C with
    | nil => intro _; rfl
    | cons e C ih =>
      intro hC
      have i1 := ih fun f hf => hC f (List.mem_cons_of_mem _ hf)
      have : kill D (e :: C) = (if e.n ∈ D then { e with al := false } else e) :: kill D C := rfl
      unfold alv at i1 ⊢
      rw [this, List.filter_cons, List.filter_cons, i1]
      cases q : e.al with
      | false => by_cases c : e.n ∈ D <;> simp [c, q]
      | true =>
        have := hC e List.mem_cons_self q
        by_cases c : e.n ∈ D
        · have c2 := this.mp c
          simp [c, c2]
        · have c2 : e.n ∈ F := Decidable.byContradiction fun z => c (this.mpr z)
          simp [c, c2, q]
  exact key B fun e he ha => by
    obtain ⟨i, hi⟩ := List.getElem?_of_mem he
    exact hD e.n (lv_at hi ha)
/-- what is kept: the living ones among F -/
abbrev kept (B : List Blk) (F : List Int) : List Blk := B.filter fun e => e.al && decide (e.n ∈ F)
def spCollect (C p : Addr) (q : Str) : Sp := fun vs H Q _ => ∃ (st wd pl rt : Addr) (rm en : Int) (B : List Blk) (R : List Int), vs = [.ref st, .ref rt] ∧ Sto C H st wd pl rm en B ∧ IL H rt R ∧ TabS H p q ∧ (flat B).length ≤ 2000000 ∧ R.length ≤ 1000000 ∧
  ∀ (F : List Int) (H' : Hp) (wd' pl' : Addr), F.Nodup → (∀ n, n ∈ F ↔ Rch B R n) → Sto C H' st wd' pl' rm en (kept B F) → H wd' = none → H pl' = none → KW.Fr [st, pl, p] H H' → TabS H' p q → Q (.int (((nums B).length : Int) - F.length)) H'
theorem gone_iff {B : List Blk} {F ns : List Int} (hns : ns.Perm (nums B)) (n : Int) (h : lv B n = true) : n ∈ (ns.filter fun m => !decide (m ∈ F)) ↔ n ∉ F := by
  rw [List.mem_filter, hns.mem_iff, mem_nums, h]
  simp
theorem gone_len {B : List Blk} {F ns : List Int} (nF : F.Nodup) (hF : ∀ n ∈ F, lv B n = true) (N : Nd B) (hns : ns.Perm (nums B)) : ((ns.filter fun m => !decide (m ∈ F)).length : Int) = ((nums B).length : Int) - F.length := by
  have h1 : (ns.filter fun m => decide (m ∈ F)).Perm F := (List.perm_ext_iff_of_nodup ((hns.nodup_iff.mpr (nums_nodup N)).sublist List.filter_sublist) nF).mpr fun x => by
    rw [List.mem_filter, hns.mem_iff, mem_nums, decide_eq_true_eq]
    exact ⟨fun h => h.2, fun h => ⟨hF x h, h⟩⟩
  have h2 : ∀ l : List Int, l.length = (l.filter fun m => decide (m ∈ F)).length + (l.filter fun m => !decide (m ∈ F)).length := fun l => by
    induction l with
    | nil => rfl
    | cons x l ih =>
      rw [List.filter_cons, List.filter_cons]
      by_cases c : x ∈ F <;> simp [c] <;> omega
  have h2 := h2 ns
  have h3 := h1.length_eq
  have h4 := hns.length_eq
  omega
end ST
namespace ST
open PySem PySem.Spec PyProof.Rows L2 KW LamX
theorem lv_kept {B : List Blk} {F : List Int} (n : Int) : lv (kept B F) n = (lv B n && decide (n ∈ F)) := by
  apply Bool.eq_iff_iff.mpr
  rw [Bool.and_eq_true, decide_eq_true_eq]
  unfold lv kept
  simp only [List.any_eq_true, List.mem_filter, Bool.and_eq_true, decide_eq_true_eq]
  constructor
  · rintro ⟨e, ⟨h1, h2, h3⟩, h4, h5⟩
    exact ⟨⟨e, h1, h4, h5⟩, h5 ▸ h3⟩
  · rintro ⟨⟨e, h1, h4, h5⟩, h3⟩
    exact ⟨e, ⟨h1, h4, h5 ▸ h3⟩, h4, h5⟩
theorem mem_kept {B : List Blk} {F : List Int} {i : Nat} {e : Blk} (h : (kept B F)[i]? = some e) : ∃ j : Nat, B[j]? = some e ∧ e.al = true ∧ e.n ∈ F := by
  have := List.mem_of_getElem? h
  rw [List.mem_filter, Bool.and_eq_true, decide_eq_true_eq] at this
  obtain ⟨j, hj⟩ := List.getElem?_of_mem this.1
  exact ⟨j, hj, this.2⟩
theorem kept_mem {B : List Blk} {F : List Int} {i : Nat} {e : Blk} (h : B[i]? = some e) (ha : e.al = true) (hn : e.n ∈ F) : ∃ j : Nat, (kept B F)[j]? = some e := by
  have : e ∈ kept B F := by
    rw [List.mem_filter, Bool.and_eq_true, decide_eq_true_eq]
    exact ⟨List.mem_of_getElem? h, ha, hn⟩
  exact List.getElem?_of_mem this
theorem rch_kept {B : List Blk} {R F : List Int} (hF : ∀ n, n ∈ F ↔ Rch B R n) (n : Int) : Rch (kept B F) R n ↔ Rch B R n := by
  constructor
  · intro h
    induction h with
    | root w h1 h2 h3 => rw [lv_kept, Bool.and_eq_true] at h3; exact .root w h1 h2 h3.1
    | step i e w h1 h2 _ h4 h5 h6 ih =>
      rw [lv_kept, Bool.and_eq_true] at h6
      obtain ⟨j, hj, _, _⟩ := mem_kept h1
      exact .step j e w hj h2 ih h4 h5 h6.1
  · intro h
    induction h with
    | root w h1 h2 h3 =>
      refine .root w h1 h2 ?_
      rw [lv_kept, h3, Bool.true_and, decide_eq_true_eq]
      exact (hF _).mpr (.root w h1 h2 h3)
    | step i e w h1 h2 h3 h4 h5 h6 ih =>
      obtain ⟨j, hj⟩ := kept_mem h1 h2 ((hF _).mpr h3)
      refine .step j e w hj h2 ih h4 h5 ?_
      rw [lv_kept, h6, Bool.true_and, decide_eq_true_eq]
      exact (hF _).mpr (.step i e w h1 h2 h3 h4 h5 h6)
theorem kept_same {B : List Blk} {F D : List Int} (h : ∀ n, n ∈ F ↔ n ∈ D) : kept B F = kept B D := by
  unfold kept
  congr 1
  funext e
  simp [h]
theorem kept_kept {B : List Blk} {F D : List Int} (h : ∀ n, n ∈ D ↔ n ∈ F) : kept (kept B F) D = kept B F := by
  unfold kept
  rw [List.filter_filter]
  congr 1
  funext e
  simp [h]
theorem nums_kept {B : List Blk} {F : List Int} (N : Nd B) (nF : F.Nodup) (hF : ∀ n ∈ F, lv B n = true) : (nums (kept B F)).Perm F := by
  have N2 : Nd (kept B F) := by
    intro i j e f h1 h2 e1 f1 hn
    have nd : ((kept B F).map fun e => e.n).Nodup := by
      refine (nums_nodup N).sublist ?_
      unfold nums kept
      refine List.Sublist.map _ ?_
      have : B.filter (fun e => e.al && decide (e.n ∈ F)) = (B.filter fun e => e.al).filter fun e => decide (e.n ∈ F) := by
        rw [List.filter_filter]; congr 1; funext e; cases e.al <;> simp
      rw [this]; exact List.filter_sublist
    have a1 : ((kept B F).map fun e => e.n)[i]? = some e.n := by rw [List.getElem?_map, h1]; rfl
    have a2 : ((kept B F).map fun e => e.n)[j]? = some e.n := by rw [List.getElem?_map, h2, hn]; rfl
    exact (List.getElem?_inj (List.getElem?_eq_some_iff.mp a1).1 nd).mp (a1.trans a2.symm)
  refine (List.perm_ext_iff_of_nodup (nums_nodup N2) nF).mpr fun x => ?_
  rw [mem_nums, lv_kept, Bool.and_eq_true, decide_eq_true_eq]
  exact ⟨fun h => h.2, fun h => ⟨hF x h, h⟩⟩
theorem flat_kept {B : List Blk} {F : List Int} : (flat (kept B F)).length ≤ (flat B).length := by
  induction B with
  | nil => exact Nat.le_refl _
  | cons e B ih =>
    unfold kept at ih ⊢
    rw [List.filter_cons]
    split
    · rw [flat_cons, flat_cons, List.length_append, List.length_append]; omega
    · rw [flat_cons, List.length_append]; omega
theorem lst_out {C : Addr} {H : Hp} {st wd pl p b : Addr} {rm en : Int} {B : List Blk} {q : Str} {xs : List V} (S : Sto C H st wd pl rm en B) (t : TabS H p q) (h : H b = some (.lst xs)) : b ∉ [st, pl, p] := by
  have n3 := t.ne h fun ps z => by cases z
  obtain ⟨⟨dx, lo, ob, l1⟩, wo, ⟨kvs, pa, ok⟩, -, -, -, -, -⟩ := S
  intro z
  simp only [List.mem_cons, List.not_mem_nil, or_false] at z
  rcases z with z | z | z
  · rw [z, ob] at h; cases h
  · rw [z, pa] at h; cases h
  · exact n3 z
/-- the least number that is not in a list -/
structure FreeL (ys : List Int) (f : Int) : Prop where
  pos : 0 ≤ f
  no : f ∉ ys
  all : ∀ i, 0 ≤ i → i < f → i ∈ ys
theorem FreeL.free {B : List Blk} {ys : List Int} {f : Int} (h : FreeL ys f) (e : ∀ n, lv B n = true ↔ n ∈ ys) : Free B f :=
  ⟨h.pos, Bool.eq_false_iff.mpr fun z => h.no ((e f).mp z), fun i h0 h1 => (e i).mpr (h.all i h0 h1)⟩
theorem fullL {ys : List Int} {m : Nat} (h : ∀ i : Int, 0 ≤ i → i < m → i ∈ ys) : m ≤ ys.length := by
  have hn : ((List.range m).map fun i : Nat => (i : Int)).Nodup := by
    rw [List.Nodup, List.pairwise_map]
    exact List.nodup_range.imp fun {a b} h z => h (Int.ofNat.inj z)
  have := List.Nodup.length_le_of_subset hn (l₂ := ys) fun x hx => by
    obtain ⟨i, hi, rfl⟩ := List.mem_map.mp hx
    exact h i (by omega) (by have := List.mem_range.mp hi; omega)
  simpa using this
def spLawFree : Sp := fun vs H Q _ => ∃ (l : Addr) (ys : List Int), vs = [.ref l] ∧ IL H l ys ∧ ys.length ≤ 1000000 ∧ ∀ f, FreeL ys f → Q (.int f) H
theorem collect_s {C p : Addr} {q : Str} {H : Hp} {st wd pl rt : Addr} {rm en : Int} {B : List Blk} {R : List Int} {Q : VK} {E : XK} (S : Sto C H st wd pl rm en B) (hR : IL H rt R) (t : TabS H p q) (h1 : (flat B).length ≤ 2000000) (h2 : R.length ≤ 1000000)
    (k : ∀ (F : List Int) (H' : Hp) (wd' pl' : Addr), F.Nodup → (∀ n, n ∈ F ↔ Rch B R n) → Sto C H' st wd' pl' rm en (kept B F) → H wd' = none → H pl' = none → KW.Fr [st, pl, p] H H' → TabS H' p q → Q (.int (((nums B).length : Int) - F.length)) H') : spCollect C p q [.ref st, .ref rt] H Q E := ⟨st, wd, pl, rt, rm, en, B, R, rfl, S, hR, t, h1, h2, k⟩
end ST
namespace ST
open PySem PySem.Spec PyProof.Rows L2 KW LamX
/-- what Store.snapshot gives out -/
structure Snp (H : Hp) (tp sw sp : Addr) (B : List Blk) : Prop where
  hd : H tp = some (.tup [.ref sw, .ref sp])
  wo : IL H sw (flat B)
  pa : ∃ kvs, H sp = some (.dK kvs) ∧ PlOk kvs B
  nd : Nd B
  nn : ∀ (i : Nat) (e : Blk), B[i]? = some e → e.al = true → 0 ≤ e.n
theorem Snp.fr {H H' : Hp} {tp sw sp : Addr} {B : List Blk} {l : List Addr} (s : Snp H tp sw sp B) (f : KW.Fr l H H') (n : ∀ x ∈ [tp, sw, sp], x ∉ l) : Snp H' tp sw sp B := by
  obtain ⟨hd, wo, ⟨kvs, pa, ok⟩, nd, nn⟩ := s
  exact ⟨f _ _ (n _ (by simp)) hd, f _ _ (n _ (by simp)) wo, ⟨kvs, f _ _ (n _ (by simp)) pa, ok⟩, nd, nn⟩
theorem Snp.there {H : Hp} {tp sw sp : Addr} {B : List Blk} (s : Snp H tp sw sp B) : ∀ x ∈ [tp, sw, sp], ∃ o, H x = some o := by
  obtain ⟨hd, wo, ⟨kvs, pa, ok⟩, nd, nn⟩ := s
  intro x hx
  simp only [List.mem_cons, List.not_mem_nil, or_false] at hx
  rcases hx with rfl | rfl | rfl
  · exact ⟨_, hd⟩
  · exact ⟨_, wo⟩
  · exact ⟨_, pa⟩
def spSnapshot (C : Addr) : Sp := fun vs H Q _ => ∃ (st wd pl : Addr) (rm en : Int) (B : List Blk), vs = [.ref st] ∧ Sto C H st wd pl rm en B ∧
  ∀ tp sw sp H', H tp = none → H sw = none → H sp = none → Snp H' tp sw sp B → KW.Fr [] H H' → Q (.ref tp) H'
def spRestore (C : Addr) : Sp := fun vs H Q _ => ∃ (st wd pl tp sw sp : Addr) (rm en : Int) (B B' : List Blk), vs = [.ref st, .ref tp] ∧ Sto C H st wd pl rm en B ∧ Snp H tp sw sp B' ∧
  ∀ H' wd' pl', Sto C H' st wd' pl' rm en B' → H wd' = none → H pl' = none → KW.Fr [st] H H' → Q .non H'
end ST

set_option Elab.async false
set_option linter.all false
set_option maxRecDepth 100000
set_option maxHeartbeats 4000000
/-! Kw4: own defs called within an except suite -/
namespace KW
open PySem PySem.Spec PyProof.Rows L2
structure CalH (P : Program) (w : World) (K : Frag) (mg : Str → Option Value) (base : Heap) (k : Nat) (x : Str) (sp : Sp) : Prop where
  ex : ∃ (f : Addr) (fd : FuncData) (ps : List Str), mg x = some (.ref f) ∧ PySem.W.keepIn K (.ref f) = true ∧ Binds K fd ps [] ∧ L2H.FnH P w K mg base (L2N.CX P w) k f fd ps sp
section
variable {P : Program} {w : World} {K : Frag} {mg : Str → Option Value} {base : Heap}
theorem DefAt.okH {x qual : Str} {st : Stmt} {N ps : List Str} {k : Nat} {sp : Sp} (D : DefAt K mg x qual st ps) (S : FnScope N ps (defScope st)) (len : ∀ vs H Q E, sp vs H Q E → vs.length = ps.length)
    (hbody : ∀ (f : Addr) (cdv : Value) (A : Around) (outer : List Env) (s : Shared) (H : Hp) (vs : List V) (Q : VK) (E : XK) (pp : Addr × Obj), L2H.RoomH k (A.deeper (envOfC qual (defScope st) s.heap.objs.size f cdv)) → sp vs H Q E →
      ∃ t, PSs (L2H.cxH (L2N.CX P w) P w K mg base N qual (defScope st) f cdv A outer s H E pp) (defBody st) t ∧ t { nx := fun _ H' => Q .non H', rt := Q } (start N vs) H) : CalH P w K mg base (k + 1) x sp := by
  obtain ⟨f, fd, hm, F, hb⟩ := D.ex
  refine ⟨f, fd, ps, hm, F.kp, hb, ?_⟩
  obtain ⟨oc, od, kV, doc, pm, an, cdv, ct, osl, rfl, lk, hcd⟩ := F.ex
  exact L2H.fn_ofH lk hcd S len fun A outer s H vs Q E pp _ hr hsp => hbody f cdv A outer s H vs Q E pp hr hsp
end
section
variable {X : Cx} {k : Nat} {x : Str} {sp : Sp} {p pos : Pos} {e : Expr} {es : List Expr} {t : TA}
theorem kcH {a : Addr} {oe : Obj} {cls : Value} {d : Option Addr} {pn : List (Addr × Obj)} (hz : L2N.Zn cls d oe) (hf : ∃ vs, oe.data = .fields vs) (c : CalH X.prog X.w X.K X.mg X.base k x sp) (hr : Room k X.A) (ha : PA (X.suite a ((a, oe) :: pn)) (e :: es) t)
    (hg : Gl X x := by rfl) (hdb : (x == ("__debug__" : Str)) = false := by decide)
    (he : starEach (e :: es) X.env = (false, eval e X.env) :: starEach es X.env := by rfl) (hpl : (backTo pos (starEach es X.env)).any (·.1) = false := by rfl) : PE (X.suite a ((a, oe) :: pn)) (.Call (.Name x p) (e :: es) [] pos) (uCall sp t) := by
  obtain ⟨f, fd, ps, hm, hk, hb, F⟩ := c.ex
  obtain ⟨vs, hv⟩ := hf
  exact L2H.pe_callH (X := X.suite a ((a, oe) :: pn)) (E := fun _ => E0) F ⟨hr.dp, hr.un⟩ ⟨(a, oe), ⟨rfl, vs, hv, hz.2.2 vs hv⟩, List.mem_cons_self ..⟩ hg hm hk hb (fun _ => passAt0) ha hdb he hpl
end
end KW
namespace L2H
open PySem PySem.Spec PyProof.Rows L2
theorem RoomH.units {k : Nat} {A : Around} (r : RoomH k A) : A.units + 64 < cLine := by have := r.un; omega
end L2H

set_option Elab.async false
set_option linter.all false
set_option maxRecDepth 100000
set_option maxHeartbeats 4000000
/-! Kw7: a try with several clauses, each with a name or without -/
namespace KW
open PySem PySem.Spec PyProof.Rows L2
/-- a clause: the name's slot (if there is one), the class, the suite -/
structure Cl where
  i : Option Nat
  c : Value
  ts : Addr → Value → Option Addr → TS
def wCl (K : Frag) (Wout : WX) (D : Ends) : List Cl → WX
  | [] => Wout
  | k :: r => fun cls d σ H => ∃ b, PySem.W.exmOne K cls k.c = some b ∧
      (b = true → ∀ a, H a = none → match k.i with
        | none => k.ts a cls d D σ H
        | some i => k.ts a cls d { nx := fun σ' H' => D.nx (σ'.set i none) H', rt := D.rt, bk := fun σ' H' => D.bk (σ'.set i none) H', ct := fun σ' H' => D.ct (σ'.set i none) H' } (σ.set i (some (.ref a))) H) ∧
      (b = false → wCl K Wout D r cls d σ H)
def suBk (k : Nat) : Stmt → List Stmt | .Try _ hs _ _ _ => (match hs[k]? with | some (.ExceptHandler _ _ b _) => b | _ => []) | _ => []
def SuOk (X : Cx) (b : List Stmt) (ts : Addr → Value → Option Addr → TS) : Prop := ∀ (a : Addr) (oe : Obj) (cls : Value) (d : Option Addr) (pn : List (Addr × Obj)), L2N.Zn cls d oe → (∃ vs, oe.data = .fields vs) → PSs (X.suite a ((a, oe) :: pn)) b (ts a cls d)
inductive Cls7 (X : Cx) : List ExceptHandler → List Cl → Prop
  | nil : Cls7 X [] []
  | bare {x : Str} {c : Value} {ts : Addr → Value → Option Addr → TS} {b₀ : Stmt} {su : List Stmt} {np p : Pos} {hs : List ExceptHandler} {l : List Cl} (hc : Names X x c) (hsu : SuOk X (b₀ :: su) ts) (r : Cls7 X hs l) :
      Cls7 X (.ExceptHandler (some (.Name x np)) none (b₀ :: su) p :: hs) (⟨none, c, ts⟩ :: l)
  | named {x n : Str} {c : Value} {i : Nat} {ts : Addr → Value → Option Addr → TS} {b₀ : Stmt} {su : List Stmt} {np p : Pos} {hs : List ExceptHandler} {l : List Cl} (hN : X.N.Nodup) (hi : X.N[i]? = some n) (hn : X.env.kindOf n = some .local) (hc : Names X x c) (hsu : SuOk X (b₀ :: su) ts) (r : Cls7 X hs l) :
      Cls7 X (.ExceptHandler (some (.Name x np)) (some n) (b₀ :: su) p :: hs) (⟨some i, c, ts⟩ :: l)
section
variable {K : Frag} {W : WX} {D : Ends} {c : Value} {ts : Addr → Value → Option Addr → TS} {r : List Cl} {cls : Value} {d : Option Addr} {σ : L2.St} {H : Hp} {i : Nat}
theorem cl_no {k : Cl} (h : PySem.W.exmOne K cls k.c = some false) (q : wCl K W D r cls d σ H) : wCl K W D (k :: r) cls d σ H := ⟨false, h, fun z => absurd z Bool.false_ne_true, fun _ => q⟩
theorem cl_yes (h : PySem.W.exmOne K cls c = some true) (q : ∀ a, H a = none → ts a cls d D σ H) : wCl K W D (⟨none, c, ts⟩ :: r) cls d σ H := ⟨true, h, fun _ => q, fun z => absurd z.symm Bool.false_ne_true⟩
theorem cl_yesN (h : PySem.W.exmOne K cls c = some true) (q : ∀ a, H a = none → ts a cls d { nx := fun σ' H' => D.nx (σ'.set i none) H', rt := D.rt, bk := fun σ' H' => D.bk (σ'.set i none) H', ct := fun σ' H' => D.ct (σ'.set i none) H' } (σ.set i (some (.ref a))) H) : wCl K W D (⟨some i, c, ts⟩ :: r) cls d σ H := ⟨true, h, fun _ => q, fun z => absurd z.symm Bool.false_ne_true⟩
end
section
variable {X : Cx} {body : List Stmt} {h₀ : ExceptHandler} {hs : List ExceptHandler} {l : List Cl} {pos : Pos} {tb : WX → TS} {Wo : WX}
theorem ps_try7 (st : X.stack = X.env :: X.outer) (fr : X.env.frame = some X.env.locals) (tk : L2N.Takes X Wo)
    (hb : ∀ (W : WX) (pn : List (Addr × Obj)) (xe : Value → Shared → Prop), L2N.Takes (X.tr pn xe) W → PassesOwn (model X.prog X.w) X.A X.env xe → PSs (X.tr pn xe) body (tb W))
    (hh : Cls7 X (h₀ :: hs) l) : PS X (.Try body (h₀ :: hs) [] [] pos) (fun D σ H => tb (wCl X.K Wo D l) D σ H) := by
  refine ⟨fun pins s σ H D I q => ?_⟩
  have okX := I.ok
  have frs3 : X.A.frames = some (X.env :: X.outer) := by rw [okX.frames, st]
  refine wpAny_Try_except (wpAny_mono ((hb (wCl X.K Wo D l) (X.pn ++ pins) (fun e s₁ => wpAny (model X.prog X.w) X.A (noteFrame e X.env) (fun _ s₂ => wpAny (model X.prog X.w) X.A (setFlight e none)
    (fun _ s₃ => wpAny (model X.prog X.w) X.A (handleBy e X.env (h₀ :: hs)) (SP X pins D) X.xe s₃) X.xe s₂) X.xe s₁) (fun u t xx => ?_) PassesOwn.looking).run [] s σ H D (I.toTry _) q) (fun f t sp => ?_) (fun _ _ z => z))
  rotate_left
  · match f, sp with
    | .next, ⟨τ, G, J, z⟩ => exact wpAny_execs_nil ⟨τ, G, J.ofTry okX, z⟩
    | .brk, ⟨τ, G, J, z⟩ => exact ⟨τ, G, J.ofTry okX, z⟩
    | .cont, ⟨τ, G, J, z⟩ => exact ⟨τ, G, J.ofTry okX, z⟩
    | .ret u, ⟨v, τ, G, J, r, z⟩ => exact ⟨v, τ, G, J.ofTry okX, r, z⟩
  obtain ⟨a, B, sI, pn1, τ, G, cls, d, rfl, J0, nb, up, sky, na, os, ag, w⟩ := xx
  have J1 : Inv X pins τ G sI := J0.ofTry okX
  rw [st] at sky
  show wpAny (model X.prog X.w) X.A (noteFrame (.ref a) X.env) _ _ _
  refine L2N.Sky.land L2N.Zn.steady frs3 fr sky fun h3 fl up3 => ?_
  have J3 : Inv X pins τ G { t with heap := h3 } := J1.landed nb fl.1 (up.trans up3) os ag
  obtain ⟨oe, vs, he, hz, hd⟩ := fl.there
  have off : a ∉ frs (X.env :: X.outer) := fun m => by
    obtain ⟨_, o1, e1, nf⟩ := fl.2.2.1.mem m
    rw [he] at e1
    cases e1
    exact nf _ hd
  have offL : a ≠ X.env.locals := fun z => off (List.mem_filterMap.mpr ⟨X.env, List.mem_cons_self, by rw [fr, z]⟩)
  have offS : a ∉ X.fs := fun m => by
    obtain ⟨e, m1, m2⟩ := List.mem_filterMap.mp m
    exact off (List.mem_filterMap.mpr ⟨e, List.mem_cons_of_mem _ m1, m2⟩)
  have Su := J3.suite he hd na offL offS
  have all : ∀ {k : List ExceptHandler} {m : List Cl}, Cls7 X k m → wCl X.K Wo D m cls d τ G → wpAny (model X.prog X.w) X.A (handleBy (.ref a) X.env k) (SP X pins D) X.xe { t with heap := h3 } := by
    intro k m hk
    have tst : ∀ {x : Str} {np : Pos} {c : Value} {b : Bool} {P1 : Value → Shared → Prop} {E1 : Value → Shared → Prop}, Names X x c → P1 c { t with heap := h3 } → wpAny (model X.prog X.w) (X.A.mark (some (.ref a))) (eval (.Name x np) X.env) P1 E1 { t with heap := h3 } := fun {x np c b P1 E1} hc z => by
      obtain ⟨g1, g2, g3⟩ := hc
      rcases g3 with g3 | ⟨g3, g4, g5⟩
      · exact ld_glob (X := X.suite a ((a, oe) :: (X.pn ++ pins))) Su g1 g3 z g2
      · exact ld_blt (X := X.suite a ((a, oe) :: (X.pn ++ pins))) Su g1 g3 g4 z g5 g2
    have LT : PySem.W.Looks (model X.prog X.w) h3 (typeOf (.ref a)) cls := fun _ _ _ _ kk z => wpAny_typeOf_ref (kk _ _ he) (by rw [hz.1]; exact z)
    induction hk with
    | nil =>
      intro w
      refine wpAny_handleBy_nil ?_
      obtain ⟨_, _, _, o2, v2, T2, oT, t2, e2, z2, d2, g2, r2⟩ := id fl
      unfold PySem.passOn
      refine wpAny_bind (wpAny_field e2 d2 g2 ?_)
      rw [if_neg (by simp)]
      have out : wpAny (model X.prog X.w) X.A (setFlight (.ref a) X.env.frame) (fun _ s4 => wpAny (model X.prog X.w) X.A (throw (.ref a) : Sem Flow) (SP X pins D) X.xe s4) X.xe { t with heap := h3 } := by
        rw [fr]
        refine HandSPX.setFlight_upZ fl fun h4 hh4 up4 => wpAny_throw (tk _ _ ?_)
        exact ⟨a, B, sI, pins, τ, G, cls, d, rfl, J1, nb, (up.trans up3).trans up4, .inr (.inr (by rw [st]; exact hh4)), na, os, ag, w⟩
      first
        | exact wpAny_bind (wpAny_pure (wpAny_bind out))
        | exact wpAny_bind out
    | @bare x c ts b₀ su np p hs2 l2 hc hsu r ih =>
      intro w
      obtain ⟨b, hb1, yes, no⟩ := w
      refine wpAny_handleBy_cons (codeAny_handlers_test ?_) (by intro q; cases q)
      refine tst (b := b) hc ((PySem.W.exm_one (M := model X.prog X.w) J3.kIn LT hb1).here ?_)
      match b with
      | false => exact ih (no rfl)
      | true =>
        refine codeAny_handlers_suite (HandSPX.lands_againZ fl fun h4 fl4 up4 => ?_)
        have J4 : Inv X pins τ G { t with heap := h4 } := J1.landed nb fl4.1 ((up.trans up3).trans up4) os ag
        obtain ⟨o4, v4, e4, z4, d4⟩ := fl4.there
        refine wpAny_mono ((hsu a o4 cls d (X.pn ++ pins) z4 ⟨_, d4⟩).run [] _ _ G _ (J4.suite e4 d4 na offL offS) (yes rfl a na)) (fun f s6 z => ?_) (fun _ _ z => z.elim)
        match f, z with
        | .next, ⟨_, _, S6, z⟩ => exact ⟨_, _, S6.unsuite okX, z⟩
        | .brk, ⟨_, _, S6, z⟩ => exact ⟨_, _, S6.unsuite okX, z⟩
        | .cont, ⟨_, _, S6, z⟩ => exact ⟨_, _, S6.unsuite okX, z⟩
        | .ret u, ⟨_, _, _, S6, r6, z⟩ => exact ⟨_, _, _, S6.unsuite okX, r6, z⟩
    | @named x n c i ts b₀ su np p hs2 l2 hN hi hn hc hsu r ih =>
      intro w
      obtain ⟨b, hb1, yes, no⟩ := w
      refine wpAny_handleBy_cons (codeAny_handlers_test ?_) (by intro q; cases q)
      refine tst (b := b) hc ((PySem.W.exm_one (M := model X.prog X.w) J3.kIn LT hb1).here ?_)
      match b with
      | false => exact ih (no rfl)
      | true =>
        refine codeAny_handlers_suite_as (HandSPX.lands_againZ fl fun h4 fl4 up4 => ?_)
        have J4 : Inv X pins τ G { t with heap := h4 } := J1.landed nb fl4.1 ((up.trans up3).trans up4) os ag
        obtain ⟨o4, v4, e4, z4, d4⟩ := fl4.there
        refine store_ok (X := X.suite a ((a, o4) :: (X.pn ++ pins))) (v := .ref a) (J4.suite e4 d4 na offL offS) hN hi (.inl hn) rfl (fun s5 S5 => ?_) (.inr hn)
        refine wpAny_mono ((hsu a o4 cls d (X.pn ++ pins) z4 ⟨_, d4⟩).run [] s5 _ G _ S5 (yes rfl a na)) (fun f s6 z => ?_) (fun _ _ z => z.elim)
        have fin : ∀ {σ6 : L2.St} {H6 : Hp} {Q : Shared → Prop}, Inv (X.suite a ((a, o4) :: (X.pn ++ pins))) [] σ6 H6 s6 → (∀ s7, Inv X pins (σ6.set i none) H6 s7 → Q s7) → wpAny (model X.prog X.w) X.A (do bindName X.env n .none; unbindBehindTheSuite X.env n p) (fun _ s7 => Q s7) X.xe s6 := fun S6 z => gone_ok (S6.unsuite okX) hN hi hn z
        match f, z with
        | .next, ⟨_, _, S6, z⟩ => exact fin S6 fun _ J7 => ⟨_, _, J7, z⟩
        | .brk, ⟨_, _, S6, z⟩ => exact fin S6 fun _ J7 => ⟨_, _, J7, z⟩
        | .cont, ⟨_, _, S6, z⟩ => exact fin S6 fun _ J7 => ⟨_, _, J7, z⟩
        | .ret u, ⟨_, _, _, S6, r6, z⟩ => exact fin S6 fun _ J7 => ⟨_, _, _, J7, r6, z⟩
  exact all hh w
end
end KW

set_option Elab.async false
set_option linter.all false
set_option maxRecDepth 100000
set_option maxHeartbeats 4000000
/-! Kw8: for over a locked dict's keys, d[y] of a locked dict, a def under a second name, data compared -/
namespace KW
open PySem PySem.Spec PyProof.Rows L2
section
variable {X : Cx} {o i e value : Expr} {pos pos' tpos : Pos} {td ty tv : TE}
def uDGetF : V → V → Hp → VK → Prop
  | .ref a, .int i, H, Q => ∃ ob kvs v, H a = some (.frz ob (.dK kvs)) ∧ valV kvs (.inl i) = some v ∧ Q v H
  | _, _, _, _ => False
theorem uDGetF_of {x y : V} {H2 : Hp} {Q : VK} (q : uDGetF x y H2 Q) : ∃ a v, x = .ref a ∧ DGet H2 a y (some v) ∧ Q v H2 := by
  unfold uDGetF at q
  split at q
  · obtain ⟨ob, kvs, v, h1, h2, q⟩ := q
    exact ⟨_, v, rfl, .inl ⟨kvs, .inl _, .inr ⟨ob, h1⟩, rfl, h2.symm⟩, q⟩
  · exact q.elim
def tDGF (td ty : TE) : TE := fun σ H Q => td σ H fun x H1 => ty σ H1 fun y H2 => uDGetF x y H2 Q
theorem tDGF_eq {σ : L2.St} {H : Hp} {Q : VK} : tDGF td ty σ H Q = td σ H fun x H1 => ty σ H1 fun y H2 => uDGetF x y H2 Q := rfl
theorem k_dgetF (hu : X.A.units + 1 < cLine) (ho : PE X o td) (hi : PE X i ty) (hs : NoSl i := by intro _ _; rfl) : PE X (.Subscript o i pos) (tDGF td ty) := by
  refine ⟨fun pins s σ H Q I h => ?_⟩
  refine subD_of PySem.F.slot_dict_getitem.lookup hs (thn (ho.run pins s σ H _ I h) fun u s1 ⟨x, H1, I1, rx, q1⟩ => thn (hi.run pins s1 σ H1 _ I1 q1) fun iv s2 ⟨y, H2, I2, ry, q2⟩ => ?_)
  obtain ⟨a, v, ex, g, q5⟩ := uDGetF_of q2
  subst ex
  obtain rfl : u = Value.ref a := rx
  exact ⟨dict_typeIs I2 g, d_getItem hu I2 g ry fun w' s3 I3 rw' => ⟨v, H2, I3, rw', q5⟩⟩
end
theorem uDGetF_e1 {a : Addr} {i : Int} {H : Hp} {Q : VK} : uDGetF (.ref a) (.int i) H Q = (∃ ob kvs v, H a = some (.frz ob (.dK kvs)) ∧ valV kvs (.inl i) = some v ∧ Q v H) := rfl
theorem dgetF_i {a : Addr} {ob : Obj} {kvs : List (Key × V)} {v : V} {i : Int} {H : Hp} {Q : VK} (h : H a = some (.frz ob (.dK kvs))) (hv : valV kvs (.inl i) = some v) (q : Q v H) : uDGetF (.ref a) (.int i) H Q := ⟨ob, kvs, v, h, hv, q⟩
/-- for over the keys of a locked dict -/
theorem for_pk {d : Addr} {o : Obj} {kvs : List (Key × V)} {ks : List Int} {g : TG} {tb : TS} {D : Ends} {σ : L2.St} {H : Hp} (hk : kvs.map (·.1) = ks.map Sum.inl) (Pv : Nat → L2.St → Hp → Prop) (h0 : Pv 0 σ H)
    (hl : ∀ i σ H, i ≤ ks.length → Pv i σ H → H d = some (.frz o (.dK kvs)))
    (hs : ∀ i x σ H, ks[i]? = some x → Pv i σ H → g (.int x) σ H fun σ2 H2 => tb { D with nx := Pv (i + 1), ct := Pv (i + 1), bk := D.nx } σ2 H2) (hd : ∀ σ H, Pv ks.length σ H → D.nx σ H) : forK (Itk d o kvs) g tb D σ H := by
  have hle : kvs.length = ks.length := by
    have := congrArg List.length hk
    rwa [List.length_map, List.length_map] at this
  refine ⟨fun i m σ H => m = ks.length - i ∧ i ≤ ks.length ∧ Pv i σ H, ⟨ks.length, by simp, Nat.zero_le _, h0⟩, ?_⟩
  rintro i m σ H ⟨rfl, hi, p⟩
  have q := hl i σ H hi p
  by_cases hlt : i < ks.length
  · refine .inr ⟨⟨q, by omega⟩, Pv (i + 1), fun σ' H' p' => ⟨ks.length - (i + 1), by omega, rfl, hlt, p'⟩, fun x H' y => ?_⟩
    obtain ⟨e, k, v, hkv, rfl⟩ := y
    subst e
    have e3 : (kvs.map (·.1))[i]? = some k := by rw [List.getElem?_map, hkv]; rfl
    rw [hk, List.getElem?_map] at e3
    obtain ⟨x, hx⟩ : ∃ x, ks[i]? = some x := ⟨_, List.getElem?_eq_getElem hlt⟩
    rw [hx] at e3
    have e5 : Sum.inl x = k := Option.some.inj e3
    subst e5
    exact hs i x _ _ hx p
  · have e : i = ks.length := by omega
    subst e
    exact .inl ⟨⟨q, by omega⟩, hd σ H p⟩
theorem Fr.unl {l : List Addr} {H H' : Hp} {d : Addr} {u : HO} (h : H d = some u) (f : KW.Fr (d :: l) H H') : KW.Fr l H (L2.upd H' d u) := fun b o n e => by
  by_cases c : b = d
  · subst c; rw [upd_same, ← h]; exact e
  · rw [upd_ne c]
    exact f b o (by simp [c, n]) e
theorem Fr.lock {l : List Addr} {H H' : Hp} {d : Addr} {u v : HO} (h : H d = some u) (f : KW.Fr l (L2.upd H d v) H') : KW.Fr (d :: l) H H' := fun b o n e => by
  have c : b ≠ d := fun z => n (by simp [z])
  exact f b o (fun z => n (by simp [z])) (by rw [upd_ne c]; exact e)
theorem Fr.atN {H H' : Hp} {l : Addr} {o : HO} (f : KW.Fr [] H H') (h : H l = Option.none) : KW.Fr [] H (L2.upd H' l o) := fun b u n e => by
  rw [upd_ne (ne_of_none e h)]; exact f b u n e
theorem ixI {n j : Nat} {i : Int} (h : i = j) (hj : j < n) : ixN n i = some j := by
  subst h; unfold ixN; rw [if_pos (by omega), if_pos (by omega)]; rfl
theorem set_i {H : Hp} {p : Addr} {xs : List Int} {k z : Int} {j : Nat} {Q : Hp → Prop} (h : H p = some (.lst (xs.map V.int))) (e : k = j) (hj : j < xs.length) (q : Q (upd H p (.lst ((xs.set j z).map V.int)))) : uSet (.ref p) (.int k) (.int z) H Q :=
  set_l h (ixI e (by rw [List.length_map]; exact hj)) (by rw [← List.map_set]; exact q)
/-- a def under a second name -/
structure DefAtA (K : Frag) (mg : Str → Option Value) (al x qual : Str) (st : Stmt) (ps : List Str) : Prop where
  ex : ∃ (f : Addr) (fd : FuncData), mg al = some (.ref f) ∧ Fun K x qual st f fd ∧ Binds K fd ps []
section
variable {P : Program} {w : World} {K : Frag} {mg : Str → Option Value} {base : Heap}
theorem DefAtA.ok {al x qual : Str} {st : Stmt} {N ps : List Str} {k : Nat} {sp : Sp} (D : DefAtA K mg al x qual st ps) (S : FnScope N ps (defScope st)) (len : ∀ vs H Q E, sp vs H Q E → vs.length = ps.length)
    (hbody : ∀ (f : Addr) (cdv : Value) (A : Around) (outer : List Env) (s : Shared) (H : Hp) (vs : List V) (Q : VK) (E : XK), Room k (A.deeper (envOfC qual (defScope st) s.heap.objs.size f cdv)) → sp vs H Q E →
      ∃ t, PSs (cxOf (L2N.CX P w) P w K mg base N qual (defScope st) f cdv A outer s H E) (defBody st) t ∧ t { nx := fun _ H' => Q .non H', rt := Q } (start N vs) H) : Cal P w K mg base (k + 1) al sp := by
  obtain ⟨f, fd, hm, F, hb⟩ := D.ex
  refine ⟨f, fd, ps, hm, F.kp, hb, ?_⟩
  obtain ⟨oc, od, kV, doc, pm, an, cdv, ct, osl, rfl, lk, hcd⟩ := F.ex
  exact fn_of lk hcd S len fun A outer s H vs Q E hr hsp => hbody f cdv A outer s H vs Q E hr hsp
theorem defAtA_mk {al x qual : Str} {st : Stmt} {ps : List Str} {h : Heap} {f : Addr} {oc : Value} {od an : Option Addr} {osl : Array (Option Value)} {kV doc pm cdv ct : Value}
    (X : K.In h) (G : h.Ns mainGlobals mg) (a : PySem.W.nsIn K mainGlobals al = some (some (.ref f)))
    (l : K.lookup f = some ⟨oc, od, .func (PySem.W.fnOf x qual (defArgs st) (defBody st) (defScope st) .none kV doc pm an cdv ct), osl⟩) (c : PySem.W.codeIn K cdv qual = true) (k : PySem.W.keepIn K (.ref f) = true)
    (hb : ∀ (kV doc pm : Value) (an : Option Addr) (cdv ct : Value) (us : List Value), us.length = ps.length → bindArgs (PySem.W.fnOf x qual (defArgs st) (defBody st) (defScope st) .none kV doc pm an cdv ct) ⟨us, []⟩ = pure (ps.zip us)) : DefAtA K mg al x qual st ps := by
  have F := fun_mk (st := st) l c k
  exact ⟨f, _, PySem.W.mg_of X G a, F, F.binds hb⟩
end
/-! data compared -/
def vD : V → Option PyData
  | .int i => some (.int i)
  | .str x => some (.str x)
  | .bl b => some (.bool b)
  | .non => some .none
  | _ => none
theorem dp_flat {K : Frag} {H : Hp} {v : V} {d : PyData} (h : vD v = some d) : Dp K H v d := by
  cases v <;> simp only [vD, Option.some.injEq, reduceCtorEq] at h <;> subst h <;> constructor
theorem dpAll_flat {K : Frag} {H : Hp} : ∀ {vs : List V} {ds : List PyData}, vs.map vD = ds.map some → DpAll K H vs ds
  | [], [], _ => .nil
  | [], _ :: _, h => by cases h
  | _ :: _, [], h => by cases h
  | v :: vs, d :: ds, h => by
    simp only [List.map_cons, List.cons.injEq] at h
    exact .cons (dp_flat h.1) (dpAll_flat h.2)
theorem dpAll_ints {K : Frag} {H : Hp} (ns : List Int) : DpAll K H (ns.map V.int) (ns.map PyData.int) := dpAll_flat (by rw [List.map_map, List.map_map]; rfl)
theorem lay_ints (ns : List Int) : PyData.canLayAll0 (ns.map PyData.int) = true := by
  induction ns with
  | nil => rfl
  | cons n ns ih => rw [List.map_cons, PyData.canLayAll0, ih]; rfl
theorem dep_ints (ns : List Int) : PyData.depthAll (ns.map PyData.int) = 0 := by
  induction ns with
  | nil => rfl
  | cons n ns ih => rw [List.map_cons, PyData.depthAll, ih]; rfl
theorem eqv_sh {d : PyData} (h : SeqAt.shaped d = true) : PyData.eqv d d = true := SeqAt.eqv_refl_plain d (PyData.plain_of_canLay0 d (SeqAt.canLay_of_shaped h))
theorem neD_s {K : Frag} {x y : V} {H : Hp} {Q : VK} {d : PyData} (h1 : Dp K H x d) (h2 : Dp K H y d) (hs : SeqAt.shaped d = true) (q : Q (.bl false) H) : rNeD K x y H Q := ⟨d, d, h1, h2, hs, hs, by rw [eqv_sh hs]; exact q⟩
theorem eqD_s {K : Frag} {x y : V} {H : Hp} {Q : VK} {d : PyData} (h1 : Dp K H x d) (h2 : Dp K H y d) (hs : SeqAt.shaped d = true) (q : Q (.bl true) H) : rEqD K x y H Q := ⟨d, d, h1, h2, hs, hs, by rw [eqv_sh hs]; exact q⟩
theorem sh2 {x : Str} {n : Int} (h : PyData.canLay0 (.str x) = true) : SeqAt.shaped (.tuple [.str x, .int n]) = true := by
  have e : SeqAt.shaped (.tuple [.str x, .int n]) = ((PyData.canLay0 (.str x) && (true && true)) && decide (max 0 (max 0 0) + 1 ≤ 64)) := rfl
  rw [e, h]; decide
theorem sh3 {x : Str} {n m : Int} (h : PyData.canLay0 (.str x) = true) : SeqAt.shaped (.tuple [.str x, .int n, .int m]) = true := by
  have e : SeqAt.shaped (.tuple [.str x, .int n, .int m]) = ((PyData.canLay0 (.str x) && (true && (true && true))) && decide (max 0 (max 0 (max 0 0)) + 1 ≤ 64)) := rfl
  rw [e, h]; decide
theorem eqT_s {K : Frag} {p q : Addr} {xs ys : List V} {ds es : List PyData} {H : Hp} {Q : VK} (h1 : H p = some (.tup xs)) (h2 : H q = some (.tup ys)) (e1 : xs.map vD = ds.map some) (e2 : ys.map vD = es.map some) (h : Q (.bl (PyData.eqvAll ds es)) H) (s1 : SeqAt.shaped (.tuple ds) = true) (s2 : SeqAt.shaped (.tuple es) = true) : rEqD K (.ref p) (.ref q) H Q :=
  ⟨.tuple ds, .tuple es, .tup (.of h1) (dpAll_flat e1), .tup (.of h2) (dpAll_flat e2), s1, s2, by rw [PyData.eqv]; exact h⟩
end KW

set_option Elab.async false
set_option linter.all false
set_option maxRecDepth 100000
set_option maxHeartbeats 4000000
/-! Kw9: sorted of a list of data -/
namespace KW
open PySem PySem.Spec PyProof.Rows L2
def uSortD (K : Frag) : List V → Hp → VK → Prop := fun vs H Q => ∃ (a : Addr) (xs : List V) (enc : V → PyData), vs = [.ref a] ∧ SqL K H a xs ∧ (∀ x ∈ xs, Dp K H x (enc x)) ∧ PySem.W.AllAlike (xs.map enc) ∧ PySem.W.Sortable (xs.map enc) ∧ (∀ x ∈ xs, (enc x).depth ≤ 60) ∧
  ∀ p, H p = none → Q (.ref p) (upd H p (.lst (xs.mergeSort (PySem.W.dataLe false enc))))
section
variable {X : Cx}
theorem each_of_vals : ∀ {xs : List V} {us : List Value}, Vals xs us → PySem.W.EachIs (fun u x => RelV x u) us xs
  | [], [], _ => .nil
  | x :: xs, u :: us, h => by cases h with | cons h1 h2 => exact .cons h1 (each_of_vals h2)
  | [], _ :: _, h => by cases h
  | _ :: _, [], h => by cases h
theorem vals_of_each : ∀ {xs : List V} {us : List Value}, PySem.W.EachIs (fun u x => RelV x u) us xs → Vals xs us
  | [], _, h => by cases h; exact .nil
  | x :: xs, _, h => by cases h with | cons h1 h2 => exact .cons h1 (vals_of_each h2)
theorem each_imp {α β : Type} {R S : α → β → Prop} : ∀ {us : List α} {xs : List β}, (∀ u x, x ∈ xs → R u x → S u x) → PySem.W.EachIs R us xs → PySem.W.EachIs S us xs
  | [], [], _, _ => .nil
  | u :: us, x :: xs, f, h => by cases h with | cons h1 h2 => exact .cons (f u x (by simp) h1) (each_imp (fun u y m => f u y (by simp [m])) h2)
  | [], _ :: _, _, h => by cases h
  | _ :: _, [], _, h => by cases h
theorem c_sortD (hu : X.A.units + 64 < cLine) : CallR X (.builtin "sorted") (uSortD X.K) := by
  intro pins s σ H vs us Q I r h
  obtain ⟨a, xs, enc, rfl, hs, hx, hal, hso, hd, q⟩ := h
  obtain ⟨its, rv, hl, hz⟩ := I.list hs
  obtain ⟨u, rfl, ru⟩ := vals1 r
  obtain rfl : u = Value.ref a := ru
  have ev := each_of_vals rv
  refine PySem.W.sorted_data (R := fun u x => RelV x u) hl.isList ev (each_imp (fun u x m e => Dp.reads I _ _ _ (hx x m) e) ev) hal hso hz (fun b m => by have := hd b m; omega) fun out lo eo => ?_
  obtain ⟨n, hn⟩ := sortedAll_at s.heap its out.toArray
  refine ⟨.ref _, upd H _ (.lst (xs.mergeSort (PySem.W.dataLe false enc))), I.laid (t' := s.toks) (fun b o e => sortedAll_old e) (Nat.le_succ _) ⟨?_, out, n, vals_of_each eo, hn⟩, rfl, q _ (I.hok.fresh (Nat.le_succ _))⟩
  rw [List.length_mergeSort]; exact hz
theorem sortD_i {K : Frag} {H : Hp} {a : Addr} {xs : List V} {Q : VK} (enc : V → PyData) (h : H a = some (.lst xs)) (hx : ∀ x ∈ xs, Dp K H x (enc x)) (hal : PySem.W.AllAlike (xs.map enc)) (hso : PySem.W.Sortable (xs.map enc)) (hd : ∀ x ∈ xs, (enc x).depth ≤ 60)
    (hp : xs.Pairwise fun x y => PySem.W.dataLt (enc y) (enc x) = false) (q : ∀ p, H p = none → Q (.ref p) (upd H p (.lst xs))) : uSortD K [.ref a] H Q := by
  refine ⟨a, xs, enc, rfl, .inl (.inl h), hx, hal, hso, hd, fun p hq => ?_⟩
  have e : xs.mergeSort (PySem.W.dataLe false enc) = xs := by
    apply List.mergeSort_of_pairwise
    refine hp.imp fun {x y} h => ?_
    rw [PySem.W.dataLe_eq]
    show (!PySem.W.dataLt (enc y) (enc x)) = true
    rw [h]; rfl
  rw [e]; exact q p hq
end
end KW

set_option Elab.async false
set_option linter.all false
set_option maxRecDepth 100000
set_option maxHeartbeats 4000000
namespace PySem
namespace KErr_limit
open PySem.W PySem.Calls PyProof.Rows PySem.HandSPX PySem.KErr
def eA (p1 p2 : Pos) : Arguments := { posonlyargs := [], args := [{ arg := "self", annotation := none, pos := p1 }, { arg := "limit", annotation := none, pos := p2 }], vararg := none, kwonlyargs := [], kw_defaults := [], kwarg := none, defaults := [] }
def eB (q : Nat → Pos) : List Stmt := [
  .Expr (.Call (.Attribute (.Call (.Name "super" (q 0)) [] [] (q 1)) "__init__" (q 2)) [.Call (.Name "str" (q 3)) [.Name "limit" (q 4)] [] (q 5)] [] (q 6)) (q 7),
  .Assign [.Attribute (.Name "self" (q 8)) "limit" (q 9)] (.Name "limit" (q 10)) (q 11)]
def eS : Scope := { kind := .function, names := [(PySem.Str.ofString "self", .local), (PySem.Str.ofString "limit", .local), (PySem.Str.ofString "__class__", .free), (PySem.Str.ofString "super", .globalImplicit), (PySem.Str.ofString "str", .globalImplicit)], isGenerator := false, isCoroutine := false, more := [] }
def MC (q : Nat → Pos) : Prop := ∀ env : Env, ∃ pl : Sem Bool, eval (.Call (.Attribute (.Call (.Name "super" (q 0)) [] [] (q 1)) "__init__" (q 2)) [.Call (.Name "str" (q 3)) [.Name "limit" (q 4)] [] (q 5)] [] (q 6)) env = (do
      let ov ← attributeBase (.Call (.Name "super" (q 0)) [] [] (q 1)) "__init__" env (eval (.Call (.Name "super" (q 0)) [] [] (q 1)) env)
      standAt (q 2).atName
      let (f, first) ← holding [ov] (getMethod ov "__init__" pl)
      callWith (q 6) f first (backTo (q 6) (starEach [.Call (.Name "str" (q 3)) [.Name "limit" (q 4)] [] (q 5)] env)) [])
def AC (q : Nat → Pos) : Prop := ∀ env : Env, swapsWith (.Name "limit" (q 10)) (some (.Attribute (.Name "self" (q 8)) "limit" (q 9))) (q 11).line env = pure false
/-- what the top leaves of the class x with the one field -/
structure ErrTxt (prog : Program) (K : Frag) (mg : Str → Option Value) (x qual : Str) (C fI cc cda : Addr) : Prop where
  gC : mg x = some (.ref C)
  cls : ∃ nm q N bs bm sn sub ab col dd k0 k1 k2 k3 k5, K.lookup C = some (excClassObj nm q C N bs bm true sn sub ab col dd k0 k1 k2 k3 k5 "ValueError.__new__") ∧ refsVE bm = true
  sup : ks_superIn K C C "__init__" = some (some (.builtin "ValueError.__init__"))
  sa : findIn K (.ref C) "__setattr__" = some (some (.builtin "object.__setattr__"))
  noN : findIn K (.ref C) "limit" = some none
  iC : findIn K (.ref C) "__init__" = some (some (.ref fI))
  tC : typeIn K (.ref fI) = some (.type "function")
  kC : keepIn K (.ref C) = true
  exC : subIn K (.ref C) (.type "BaseException") = some true
  veC : subIn K (.ref C) (.type "ValueError") = some true
  tyC : typeIn K (.ref C) = some (.type "type")
  own : mroIn K C (.ref C) = some true
  tp : nsIn K cStatics "thirdparty.any" = some none
  dg : nsIn K cStatics "sys.int_max_str_digits" = some none
  nsup : mg "super" = none
  nstr : mg "str" = none
  fn : ∃ (oc : Value) (od : Option Addr) (doc pm : Value) (an : Option Addr) (ct : Value) (osl : Array (Option Value)) (p1 p2 : Pos) (q : Nat → Pos),
    K.lookup fI = some ⟨oc, od, .func (ksFn "__init__" qual (eA p1 p2) (eB q) eS .none .none doc pm an (.ref cda) ct cc), osl⟩ ∧ codeIn K (.ref cda) qual = true ∧ MC q ∧ AC q
  cell : ∃ cl cld csl, K.lookup cc = some ⟨cl, cld, .cell (some (.ref C)), csl⟩
  code : ∃ ccl cdd vs ccs file tf, K.lookup cda = some ⟨ccl, cdd, .fields vs, ccs⟩ ∧ vs[2]? = some (.str file tf) ∧ ((prog.main.file : Str) == file) = true
  top : (prog.main.scope.names.lookup ("super" : Str)).isSome = false
section
variable {prog : Program} {w : World} {A : Around} {E : Value → Shared → Prop} {R : Result → Shared → Prop} {s : Shared} {K : Frag} {mg : Str → Option Value} {x qual : Str} {C fI cc cda : Addr}
theorem err_init (T : ErrTxt prog K mg x qual C fI cc cda) {e t0 : Addr} {v : Value} (X : K.In s.heap) (hlim : s.heap.NoLimit) (G : s.heap.Ns mainGlobals mg) (B : ∃ mb, s.heap.Ns builtinsNs mb ∧ ∀ x : Str, x ≠ "__name__" → mb x = bootBuiltins x)
    (hx : s.heap.get? e = some (excO C t0)) (hnx : K.lookup e = none) (hh : A.handled = none) (hroom : A.depth < recursionLimit) (hv : StrOk prog w v)
    (hq : ∀ h' tk dx t1, InitEnd s.heap h' e C dx t1 "limit" v → R (.ok (.ret .none)) { s with heap := h', toks := tk }) :
    codeAny (model prog w) A (.call (.ref fI) ⟨[.ref e, v], []⟩) R s := by
  obtain ⟨oc, od, doc, pm, an, ct, osl, p1, p2, q, ho, hcd, hMC, hAC⟩ := T.fn
  obtain ⟨nm, qn, N, bs, bm, sn, sub, ab, col, dd, k0, k1, k2, k3, k5, hC, hbm⟩ := T.cls
  obtain ⟨cl, cld, csl, hcell⟩ := T.cell
  obtain ⟨ccl, cdd, vs, ccs, file, tf, hcode, hvs, hfile⟩ := T.code
  obtain ⟨mb, Bn, Bb⟩ := B
  have hcl : clsIn K C = some { name := nm, bases := bs, mro := .ref C :: bm, ns := N, qualname := qn, hasDict := true, slotNames := sn, subclasses := sub, abstract := ab, collection := col, hasDel := false } := by unfold clsIn; rw [hC] <;> rfl
  refine ks_codeAny_call_defAt (fd := ksFn "__init__" qual (eA p1 p2) (eB q) eS .none .none doc pm an (.ref cda) ct cc) (body := eB q) (binds := [("self", .ref e), ("limit", v)]) hroom (X _ _ ho) rfl hlim (codeRec_of X hcd) rfl ?b ?c ?l (fun h₁ hns k₁ => ?_)
  case b => exact BindsTo.of_eq (by first | rfl | with_unfolding_all rfl)
  case c => show ∀ x ∈ eS.names, x.2 ≠ .cell; decide
  case l => exact locs rfl
  obtain ⟨sh, sg, sd, st, sos⟩ := s
  have X₁ : K.In h₁ := X.keeps k₁
  have hx₁ := k₁ _ _ hx
  have hC₁ := X₁ _ _ hC
  show _root_.PySem.wpAt (model prog w) _ (.func (eB q) (ksEnv qual eS sh.objs.size fI (.ref cda) cc)) (execs (eB q) (ksEnv qual eS sh.objs.size fI (.ref cda) cc)) _ _ _
  obtain ⟨pl, hpl⟩ := hMC (ksEnv qual eS sh.objs.size fI (.ref cda) cc)
  refine ks_wpAt_execs_cons (ks_wpAt_Expr_any (ks_wpAt_MethodCall ?_ hpl))
  refine ks_wpAt_super_base (env := ksEnv qual eS sh.objs.size fI (.ref cda) cc) (ar := { arg := "self", annotation := none, pos := p1 }) rfl rfl (by decide) rfl (X₁ _ _ ho) rfl rfl rfl (X₁ _ _ hcode) rfl hvs hfile T.top ?_
  refine ks_loadName_global rfl rfl (loadGlobal_builtin (env := ksEnv qual eS sh.objs.size fI (.ref cda) cc) (G.keeps k₁) T.nsup (Bn.keeps k₁) ((Bb _ (by decide +kernel)).trans (by first | boot_by_name | rfl | kernel_rfl)) ⟨rfl, ?_⟩)
  refine wpAny_loadName_free rfl rfl rfl ⟨_, X₁ _ _ hcell, rfl⟩ ?_
  refine wpAny_loadName_local rfl rfl hns (by first | rfl | with_unfolding_all rfl | kernel_rfl) ?_
  refine ks_wpAny_isType_cls hC₁ rfl ⟨rfl, ?_⟩
  refine ks_wpAny_call_super hC₁ rfl hx₁ rfl (fun c z => by cases z) (looks_mroIn X₁ T.own) (fun h₂ e2 k2 => ?_)
  have X₂ : K.In h₂ := X₁.keeps k2
  have hC₂ := k2 _ _ hC₁
  have hx₂ := k2 _ _ hx₁
  have I₂ : InstAt h₂ e (excO C t0) C none := ⟨hx₂, rfl, rfl, trivial⟩
  have hxC : e ≠ C := ks_ne X₂ I₂ hcl
  have hsup := T.sup
  unfold ks_superIn at hsup
  rw [hcl] at hsup
  refine kxs_getMethod kxs_ValueError e2 (looks_opaque X₂ T.tp) (l₀ := .ref C :: bm) (fun A Q E s k q => wpAny_bind ((looks_clsIn X₂ hcl) A _ E s k (wpAny_pure q))) rfl X₂ hsup (I₂.type.andThen (looks_subIn X₂ T.veC)) hxC rfl ?_
  refine kxs_callWith (i := "ValueError.__init__") (x := e) rfl ?_
  refine Calls.evalArgs_plain (Calls.spliced_cons ?_)
  have k3 : ∀ b o, h₂.get? b = some o → (h₂.push (kxs_mw "ValueError.__init__" e)).get? b = some o := fun b o z => Heap.get?_push_of_some _ z
  have X₃ := X₂.keeps k3
  have G₃ := ((G.keeps k₁).keeps k2).keeps k3
  have B₃ := ((Bn.keeps k₁).keeps k2).keeps k3
  have hns₃ := (hns.keeps k2).keeps k3
  have hu : (h₂.push (kxs_mw "ValueError.__init__" e)).get? h₂.objs.size = some (kxs_mw "ValueError.__init__" e) := by heap_get
  have hdg : (h₂.push (kxs_mw "ValueError.__init__" e)).NoDigits := let ⟨mc, a, _⟩ := ((hlim.keeps k₁).keeps k2).keeps k3; ⟨mc, a, ns_none_of X₃ a T.dg⟩
  generalize h₂.push (kxs_mw "ValueError.__init__" e) = h₃ at *
  refine wpAny_Call_NameR (wpAny_Name (ks_loadName_global rfl rfl (loadGlobal_builtin (env := ksEnv qual eS sh.objs.size fI (.ref cda) cc) G₃ T.nstr B₃ ((Bb _ (by decide +kernel)).trans (by first | boot_by_name | rfl | kernel_rfl)) ?_)) rfl)
  refine callWith_type1 ?_
  show wpAny _ _ (eval (.Name "limit" (q 4)) _) _ _ _
  refine wpAny_Name (wpAny_loadName_local rfl rfl hns₃ (by first | rfl | with_unfolding_all rfl | kernel_rfl) ?_) (by decide)
  refine hv _ _ _ _ hh hdg (fun txt tk tk' => ?_)
  refine Calls.spliced_nil ⟨hu, ?_⟩
  refine init_call (hC := k3 _ _ hC₂) (he := k3 _ _ hx₂) (hu := hu) (one_size _) (fun h₄ t1 k4 hx₄ => ?_)
  have hLe : sh.objs.size ≠ e := Nat.ne_of_gt (Heap.lt_size hx)
  have hns₄ : h₄.Ns sh.objs.size (fun x => List.lookup x [((PySem.Str.ofString "self" : Str), Value.ref e), ((PySem.Str.ofString "limit" : Str), v)].reverse) := by
    obtain ⟨oL, es, ep, hL, r⟩ := hns₃
    exact ⟨oL, es, ep, k4 _ _ hLe hL, r⟩
  have X₄ : K.In h₄ := kept_but X₃ hnx k4
  show wpAt _ _ _ (execs _ _) _ _ _
  refine ks_wpAt_execs_cons (ks_wpAt_Assign_Attr (wpAt_of_wpAny (wpAny_Name (wpAny_loadName_local rfl rfl hns₄ (by first | rfl | with_unfolding_all rfl | kernel_rfl) ?_) (by decide))) (hAC _))
  refine wpAny_Name (wpAny_loadName_local rfl rfl hns₄ (by first | rfl | with_unfolding_all rfl | kernel_rfl) ?_) (by decide)
  refine set_plain X₄ (ox := excO C t1) (od := none) ⟨hx₄, rfl, rfl, trivial⟩ T.sa ?_
  refine exc_osa X₄ hx₄ hcl (show refsVE (.ref C :: bm) = true from hbm) rfl T.noN (fun h₅ tk₅ dx k₅ dn dne hx₅ hn₅ => ?_)
  show wpAt _ _ _ (execs _ _) _ _ _
  have z : sh.objs.size < h₄.objs.size := hns₄.lt
  refine wpAt_of_wpAny (wpAny_execs_nil (hq h₅ tk₅ dx t1 ⟨fun b o hb e => k₅ b o hb (k4 b o hb (k3 _ _ (k2 _ _ (k₁ b o e)))), hx₅, Nat.le_of_lt (Nat.lt_of_lt_of_le z dn), dne, hn₅⟩))
theorem err_made (T : ErrTxt prog K mg x qual C fI cc cda) : Mkd prog w K mg C ["limit"] (fun vs => ∃ v, vs = [v] ∧ okS v) := by
  intro A s R vs us rl hok X hlim G B hh hroom hq
  obtain ⟨v, rfl, ov⟩ := hok
  cases rl with
  | cons rv rn =>
  rename_i u us'
  cases rn
  obtain ⟨nm, q, N, bs, bm, sn, sub, ab, col, dd, k0, k1, k2, k3, k5, hC, hbm⟩ := T.cls
  obtain ⟨hp, g, dr, tk, os⟩ := s
  have k : ∀ b o, hp.get? b = some o → ((hp.push (kdv_tup [u])).push (excO C hp.objs.size)).get? b = some o := fun b o e => Heap.get?_push_of_some _ (Heap.get?_push_of_some _ e)
  have hget : ((hp.push (kdv_tup [u])).push (excO C hp.objs.size)).get? (hp.objs.size + 1) = some (excO C hp.objs.size) := by heap_get
  have hnx : K.lookup (hp.objs.size + 1) = none := by
    cases e : K.lookup (hp.objs.size + 1) with
    | none => rfl
    | some o =>
      have z : hp.get? (hp.objs.size + 1) = some o := X _ _ e
      exact absurd (Nat.lt_of_succ_lt (Heap.lt_size z)) (Nat.lt_irrefl _)
  refine call_own F.excBase_ValueError (fun X => refsVE_contains X bm hbm) (X _ _ hC) (looks_findIn X T.iC) (fun self => bind_fn X self T.tC) (one_size u) ?_
  obtain ⟨mb, B1, B2⟩ := B
  refine err_init (s := ⟨(hp.push (kdv_tup [u])).push (excO C hp.objs.size), g, dr, tk, os⟩) T (X.keeps k) (hlim.keeps k) (G.keeps k) ⟨mb, B1.keeps k, B2⟩ hget hnx ?_ ?_ (okS_ok rv ov) fun h' tk' dx t1 ⟨k', hx, dn, dne, hns⟩ => ?_
  · exact hh
  · show A.depth + 1 < recursionLimit
    exact hroom
  · have old : ∀ b o, hp.get? b = some o → h'.get? b = some o := fun b o e => k' b o (Nat.ne_of_lt (Nat.lt_succ_of_lt (Heap.lt_size e))) (k b o e)
    have z : hp.objs.size + 1 + 1 ≤ dx := by
      first
        | (simpa only [Heap.size_push] using dn)
        | exact dn
        | (have q := dn; rw [Heap.size_push, Heap.size_push] at q; exact q)
    refine ⟨rfl, hq h' tk' (hp.objs.size + 1) dx ⟨old, Nat.le_succ _, ⟨_, _, hx, rfl, rfl, rfl, rfl, rfl⟩, Nat.le_trans (Nat.le_trans (Nat.le_succ _) (Nat.le_succ _)) z, dne, ?_⟩⟩
    have ef : (fun y : Str => List.lookup y ([(PySem.Str.ofString "limit" : Str)].zip [u])) = fun y => if y = PySem.Str.ofString "limit" then some u else none := by
      funext y
      by_cases h : y = PySem.Str.ofString "limit"
      · simp [List.lookup, h]
      · have h2 : (y == PySem.Str.ofString "limit") = false := by simpa using h
        simp [List.lookup, h, h2]
    rw [ef]
    exact hns
def p1Of (st : Stmt) : Pos := match (L2.defArgs st).args with | [a, _] => a.pos | _ => ⟨0, 0, 0, 0⟩
def p2Of (st : Stmt) : Pos := match (L2.defArgs st).args with | [_, a] => a.pos | _ => ⟨0, 0, 0, 0⟩
def qOf (st : Stmt) : Nat → Pos := match L2.defBody st with
  | [.Expr (.Call (.Attribute (.Call (.Name _ q0) _ _ q1) _ q2) [.Call (.Name _ q3) [.Name _ q4] _ q5] _ q6) q7, .Assign [.Attribute (.Name _ q8) _ q9] (.Name _ q10) q11] =>
    fun n => [q0, q1, q2, q3, q4, q5, q6, q7, q8, q9, q10, q11].getD n ⟨0, 0, 0, 0⟩
  | _ => fun _ => ⟨0, 0, 0, 0⟩
theorem err_mk (st : Stmt) {h : Heap} {nm q : Str} {N : Addr} {bs bm : List Value} {sn : List Str} {sub : List Value} {ab : Bool} {col : Option Bool} {dd : Option Addr} {k0 k1 k2 k3 k5 : Option Value} {oc : Value} {od : Option Addr} {doc pm : Value} {an : Option Addr} {ct : Value} {osl : Array (Option Value)}
    {cl : Value} {cld : Option Addr} {csl : Array (Option Value)} {ccl : Value} {cdd : Option Addr} {vs : Array Value} {ccs : Array (Option Value)} {file : Str} {tf : Tok}
    (X : K.In h) (G : h.Ns mainGlobals mg) (aC : nsIn K mainGlobals x = some (some (.ref C))) (xL : K.lookup C = some (excClassObj nm q C N bs bm true sn sub ab col dd k0 k1 k2 k3 k5 "ValueError.__new__")) (bmv : refsVE bm = true)
    (sup : ks_superIn K C C "__init__" = some (some (.builtin "ValueError.__init__"))) (sa : findIn K (.ref C) "__setattr__" = some (some (.builtin "object.__setattr__"))) (no : findIn K (.ref C) "limit" = some none)
    (a1 : findIn K (.ref C) "__init__" = some (some (.ref fI))) (t1 : typeIn K (.ref fI) = some (.type "function")) (kC : keepIn K (.ref C) = true) (eC : subIn K (.ref C) (.type "BaseException") = some true) (vC : subIn K (.ref C) (.type "ValueError") = some true)
    (tC : typeIn K (.ref C) = some (.type "type")) (own : mroIn K C (.ref C) = some true) (tp : nsIn K cStatics "thirdparty.any" = some none) (dg : nsIn K cStatics "sys.int_max_str_digits" = some none) (nsup : nsIn K mainGlobals "super" = some none) (nstr : nsIn K mainGlobals "str" = some none)
    (hst : L2.defArgs st = eA (p1Of st) (p2Of st) ∧ L2.defBody st = eB (qOf st) ∧ L2.defScope st = eS)
    (l1 : K.lookup fI = some ⟨oc, od, .func (ksFn "__init__" qual (L2.defArgs st) (L2.defBody st) (L2.defScope st) .none .none doc pm an (.ref cda) ct cc), osl⟩) (c1 : codeIn K (.ref cda) qual = true) (mc : MC (qOf st)) (ac : AC (qOf st))
    (ce : K.lookup cc = some ⟨cl, cld, .cell (some (.ref C)), csl⟩) (co : K.lookup cda = some ⟨ccl, cdd, .fields vs, ccs⟩) (cf : vs[2]? = some (.str file tf)) (cg : ((prog.main.file : Str) == file) = true) (top : (prog.main.scope.names.lookup ("super" : Str)).isSome = false)
    (hg : findIn K (.ref C) "__getattribute__" = some (some (.builtin "BaseException.__getattribute__"))) (hk : findIn K (.ref C) "__getattr__" = some none) (hd : hasDictIn K C = true) (ha : findIn K (.ref C) "__class__" = some (some (.builtin "object.__class__")))
    (hn : specialIn K (.builtin "object.__class__") "__get__" = some (some (.builtin "getset_descriptor.__get__"))) (ht : takesIn K (.builtin "object.__class__") = some true) (hm : mroIn K C (.type "object") = some true) :
    KW.ErrC prog w K mg x C ["limit"] (fun vs => ∃ v, vs = [v] ∧ okS v) := by
  have T : ErrTxt prog K mg x qual C fI cc cda :=
    { gC := mg_of X G aC, cls := ⟨nm, q, N, bs, bm, sn, sub, ab, col, dd, k0, k1, k2, k3, k5, xL, bmv⟩, sup := sup, sa := sa, noN := no, iC := a1, tC := t1, kC := kC, exC := eC, veC := vC, tyC := tC, own := own, tp := tp, dg := dg,
      nsup := mg_none_of X G nsup, nstr := mg_none_of X G nstr,
      fn := ⟨oc, od, doc, pm, an, ct, osl, p1Of st, p2Of st, qOf st, by rw [← hst.1, ← hst.2.1, ← hst.2.2]; exact l1, c1, mc, ac⟩,
      cell := ⟨cl, cld, csl, ce⟩, code := ⟨ccl, cdd, vs, ccs, file, tf, co, cf, cg⟩, top := top }
  exact ⟨T.gC, err_made T, kC, eC, tC, ⟨hg, hk, eC, hd⟩, ⟨hg, hk, eC, hd, ha, hn, ht, hm⟩, fun f hf => by cases hf with | head => exact no | tail _ z => cases z⟩
end
end KErr_limit
end PySem

set_option Elab.async false
set_option linter.all false
set_option maxRecDepth 100000
set_option maxHeartbeats 4000000
namespace PySem
namespace KErr_need
open PySem.W PySem.Calls PyProof.Rows PySem.HandSPX PySem.KErr
def eA (p1 p2 : Pos) : Arguments := { posonlyargs := [], args := [{ arg := "self", annotation := none, pos := p1 }, { arg := "need", annotation := none, pos := p2 }], vararg := none, kwonlyargs := [], kw_defaults := [], kwarg := none, defaults := [] }
def eB (q : Nat → Pos) : List Stmt := [
  .Expr (.Call (.Attribute (.Call (.Name "super" (q 0)) [] [] (q 1)) "__init__" (q 2)) [.Call (.Name "str" (q 3)) [.Name "need" (q 4)] [] (q 5)] [] (q 6)) (q 7),
  .Assign [.Attribute (.Name "self" (q 8)) "need" (q 9)] (.Name "need" (q 10)) (q 11)]
def eS : Scope := { kind := .function, names := [(PySem.Str.ofString "self", .local), (PySem.Str.ofString "need", .local), (PySem.Str.ofString "__class__", .free), (PySem.Str.ofString "super", .globalImplicit), (PySem.Str.ofString "str", .globalImplicit)], isGenerator := false, isCoroutine := false, more := [] }
def MC (q : Nat → Pos) : Prop := ∀ env : Env, ∃ pl : Sem Bool, eval (.Call (.Attribute (.Call (.Name "super" (q 0)) [] [] (q 1)) "__init__" (q 2)) [.Call (.Name "str" (q 3)) [.Name "need" (q 4)] [] (q 5)] [] (q 6)) env = (do
      let ov ← attributeBase (.Call (.Name "super" (q 0)) [] [] (q 1)) "__init__" env (eval (.Call (.Name "super" (q 0)) [] [] (q 1)) env)
      standAt (q 2).atName
      let (f, first) ← holding [ov] (getMethod ov "__init__" pl)
      callWith (q 6) f first (backTo (q 6) (starEach [.Call (.Name "str" (q 3)) [.Name "need" (q 4)] [] (q 5)] env)) [])
def AC (q : Nat → Pos) : Prop := ∀ env : Env, swapsWith (.Name "need" (q 10)) (some (.Attribute (.Name "self" (q 8)) "need" (q 9))) (q 11).line env = pure false
/-- what the top leaves of the class x with the one field -/
structure ErrTxt (prog : Program) (K : Frag) (mg : Str → Option Value) (x qual : Str) (C fI cc cda : Addr) : Prop where
  gC : mg x = some (.ref C)
  cls : ∃ nm q N bs bm sn sub ab col dd k0 k1 k2 k3 k5, K.lookup C = some (excClassObj nm q C N bs bm true sn sub ab col dd k0 k1 k2 k3 k5 "ValueError.__new__") ∧ refsVE bm = true
  sup : ks_superIn K C C "__init__" = some (some (.builtin "ValueError.__init__"))
  sa : findIn K (.ref C) "__setattr__" = some (some (.builtin "object.__setattr__"))
  noN : findIn K (.ref C) "need" = some none
  iC : findIn K (.ref C) "__init__" = some (some (.ref fI))
  tC : typeIn K (.ref fI) = some (.type "function")
  kC : keepIn K (.ref C) = true
  exC : subIn K (.ref C) (.type "BaseException") = some true
  veC : subIn K (.ref C) (.type "ValueError") = some true
  tyC : typeIn K (.ref C) = some (.type "type")
  own : mroIn K C (.ref C) = some true
  tp : nsIn K cStatics "thirdparty.any" = some none
  dg : nsIn K cStatics "sys.int_max_str_digits" = some none
  nsup : mg "super" = none
  nstr : mg "str" = none
  fn : ∃ (oc : Value) (od : Option Addr) (doc pm : Value) (an : Option Addr) (ct : Value) (osl : Array (Option Value)) (p1 p2 : Pos) (q : Nat → Pos),
    K.lookup fI = some ⟨oc, od, .func (ksFn "__init__" qual (eA p1 p2) (eB q) eS .none .none doc pm an (.ref cda) ct cc), osl⟩ ∧ codeIn K (.ref cda) qual = true ∧ MC q ∧ AC q
  cell : ∃ cl cld csl, K.lookup cc = some ⟨cl, cld, .cell (some (.ref C)), csl⟩
  code : ∃ ccl cdd vs ccs file tf, K.lookup cda = some ⟨ccl, cdd, .fields vs, ccs⟩ ∧ vs[2]? = some (.str file tf) ∧ ((prog.main.file : Str) == file) = true
  top : (prog.main.scope.names.lookup ("super" : Str)).isSome = false
section
variable {prog : Program} {w : World} {A : Around} {E : Value → Shared → Prop} {R : Result → Shared → Prop} {s : Shared} {K : Frag} {mg : Str → Option Value} {x qual : Str} {C fI cc cda : Addr}
theorem err_init (T : ErrTxt prog K mg x qual C fI cc cda) {e t0 : Addr} {v : Value} (X : K.In s.heap) (hlim : s.heap.NoLimit) (G : s.heap.Ns mainGlobals mg) (B : ∃ mb, s.heap.Ns builtinsNs mb ∧ ∀ x : Str, x ≠ "__name__" → mb x = bootBuiltins x)
    (hx : s.heap.get? e = some (excO C t0)) (hnx : K.lookup e = none) (hh : A.handled = none) (hroom : A.depth < recursionLimit) (hv : StrOk prog w v)
    (hq : ∀ h' tk dx t1, InitEnd s.heap h' e C dx t1 "need" v → R (.ok (.ret .none)) { s with heap := h', toks := tk }) :
    codeAny (model prog w) A (.call (.ref fI) ⟨[.ref e, v], []⟩) R s := by
  obtain ⟨oc, od, doc, pm, an, ct, osl, p1, p2, q, ho, hcd, hMC, hAC⟩ := T.fn
  obtain ⟨nm, qn, N, bs, bm, sn, sub, ab, col, dd, k0, k1, k2, k3, k5, hC, hbm⟩ := T.cls
  obtain ⟨cl, cld, csl, hcell⟩ := T.cell
  obtain ⟨ccl, cdd, vs, ccs, file, tf, hcode, hvs, hfile⟩ := T.code
  obtain ⟨mb, Bn, Bb⟩ := B
  have hcl : clsIn K C = some { name := nm, bases := bs, mro := .ref C :: bm, ns := N, qualname := qn, hasDict := true, slotNames := sn, subclasses := sub, abstract := ab, collection := col, hasDel := false } := by unfold clsIn; rw [hC] <;> rfl
  refine ks_codeAny_call_defAt (fd := ksFn "__init__" qual (eA p1 p2) (eB q) eS .none .none doc pm an (.ref cda) ct cc) (body := eB q) (binds := [("self", .ref e), ("need", v)]) hroom (X _ _ ho) rfl hlim (codeRec_of X hcd) rfl ?b ?c ?l (fun h₁ hns k₁ => ?_)
  case b => exact BindsTo.of_eq (by first | rfl | with_unfolding_all rfl)
  case c => show ∀ x ∈ eS.names, x.2 ≠ .cell; decide
  case l => exact locs rfl
  obtain ⟨sh, sg, sd, st, sos⟩ := s
  have X₁ : K.In h₁ := X.keeps k₁
  have hx₁ := k₁ _ _ hx
  have hC₁ := X₁ _ _ hC
  show _root_.PySem.wpAt (model prog w) _ (.func (eB q) (ksEnv qual eS sh.objs.size fI (.ref cda) cc)) (execs (eB q) (ksEnv qual eS sh.objs.size fI (.ref cda) cc)) _ _ _
  obtain ⟨pl, hpl⟩ := hMC (ksEnv qual eS sh.objs.size fI (.ref cda) cc)
  refine ks_wpAt_execs_cons (ks_wpAt_Expr_any (ks_wpAt_MethodCall ?_ hpl))
  refine ks_wpAt_super_base (env := ksEnv qual eS sh.objs.size fI (.ref cda) cc) (ar := { arg := "self", annotation := none, pos := p1 }) rfl rfl (by decide) rfl (X₁ _ _ ho) rfl rfl rfl (X₁ _ _ hcode) rfl hvs hfile T.top ?_
  refine ks_loadName_global rfl rfl (loadGlobal_builtin (env := ksEnv qual eS sh.objs.size fI (.ref cda) cc) (G.keeps k₁) T.nsup (Bn.keeps k₁) ((Bb _ (by decide +kernel)).trans (by first | boot_by_name | rfl | kernel_rfl)) ⟨rfl, ?_⟩)
  refine wpAny_loadName_free rfl rfl rfl ⟨_, X₁ _ _ hcell, rfl⟩ ?_
  refine wpAny_loadName_local rfl rfl hns (by first | rfl | with_unfolding_all rfl | kernel_rfl) ?_
  refine ks_wpAny_isType_cls hC₁ rfl ⟨rfl, ?_⟩
  refine ks_wpAny_call_super hC₁ rfl hx₁ rfl (fun c z => by cases z) (looks_mroIn X₁ T.own) (fun h₂ e2 k2 => ?_)
  have X₂ : K.In h₂ := X₁.keeps k2
  have hC₂ := k2 _ _ hC₁
  have hx₂ := k2 _ _ hx₁
  have I₂ : InstAt h₂ e (excO C t0) C none := ⟨hx₂, rfl, rfl, trivial⟩
  have hxC : e ≠ C := ks_ne X₂ I₂ hcl
  have hsup := T.sup
  unfold ks_superIn at hsup
  rw [hcl] at hsup
  refine kxs_getMethod kxs_ValueError e2 (looks_opaque X₂ T.tp) (l₀ := .ref C :: bm) (fun A Q E s k q => wpAny_bind ((looks_clsIn X₂ hcl) A _ E s k (wpAny_pure q))) rfl X₂ hsup (I₂.type.andThen (looks_subIn X₂ T.veC)) hxC rfl ?_
  refine kxs_callWith (i := "ValueError.__init__") (x := e) rfl ?_
  refine Calls.evalArgs_plain (Calls.spliced_cons ?_)
  have k3 : ∀ b o, h₂.get? b = some o → (h₂.push (kxs_mw "ValueError.__init__" e)).get? b = some o := fun b o z => Heap.get?_push_of_some _ z
  have X₃ := X₂.keeps k3
  have G₃ := ((G.keeps k₁).keeps k2).keeps k3
  have B₃ := ((Bn.keeps k₁).keeps k2).keeps k3
  have hns₃ := (hns.keeps k2).keeps k3
  have hu : (h₂.push (kxs_mw "ValueError.__init__" e)).get? h₂.objs.size = some (kxs_mw "ValueError.__init__" e) := by heap_get
  have hdg : (h₂.push (kxs_mw "ValueError.__init__" e)).NoDigits := let ⟨mc, a, _⟩ := ((hlim.keeps k₁).keeps k2).keeps k3; ⟨mc, a, ns_none_of X₃ a T.dg⟩
  generalize h₂.push (kxs_mw "ValueError.__init__" e) = h₃ at *
  refine wpAny_Call_NameR (wpAny_Name (ks_loadName_global rfl rfl (loadGlobal_builtin (env := ksEnv qual eS sh.objs.size fI (.ref cda) cc) G₃ T.nstr B₃ ((Bb _ (by decide +kernel)).trans (by first | boot_by_name | rfl | kernel_rfl)) ?_)) rfl)
  refine callWith_type1 ?_
  show wpAny _ _ (eval (.Name "need" (q 4)) _) _ _ _
  refine wpAny_Name (wpAny_loadName_local rfl rfl hns₃ (by first | rfl | with_unfolding_all rfl | kernel_rfl) ?_) (by decide)
  refine hv _ _ _ _ hh hdg (fun txt tk tk' => ?_)
  refine Calls.spliced_nil ⟨hu, ?_⟩
  refine init_call (hC := k3 _ _ hC₂) (he := k3 _ _ hx₂) (hu := hu) (one_size _) (fun h₄ t1 k4 hx₄ => ?_)
  have hLe : sh.objs.size ≠ e := Nat.ne_of_gt (Heap.lt_size hx)
  have hns₄ : h₄.Ns sh.objs.size (fun x => List.lookup x [((PySem.Str.ofString "self" : Str), Value.ref e), ((PySem.Str.ofString "need" : Str), v)].reverse) := by
    obtain ⟨oL, es, ep, hL, r⟩ := hns₃
    exact ⟨oL, es, ep, k4 _ _ hLe hL, r⟩
  have X₄ : K.In h₄ := kept_but X₃ hnx k4
  show wpAt _ _ _ (execs _ _) _ _ _
  refine ks_wpAt_execs_cons (ks_wpAt_Assign_Attr (wpAt_of_wpAny (wpAny_Name (wpAny_loadName_local rfl rfl hns₄ (by first | rfl | with_unfolding_all rfl | kernel_rfl) ?_) (by decide))) (hAC _))
  refine wpAny_Name (wpAny_loadName_local rfl rfl hns₄ (by first | rfl | with_unfolding_all rfl | kernel_rfl) ?_) (by decide)
  refine set_plain X₄ (ox := excO C t1) (od := none) ⟨hx₄, rfl, rfl, trivial⟩ T.sa ?_
  refine exc_osa X₄ hx₄ hcl (show refsVE (.ref C :: bm) = true from hbm) rfl T.noN (fun h₅ tk₅ dx k₅ dn dne hx₅ hn₅ => ?_)
  show wpAt _ _ _ (execs _ _) _ _ _
  have z : sh.objs.size < h₄.objs.size := hns₄.lt
  refine wpAt_of_wpAny (wpAny_execs_nil (hq h₅ tk₅ dx t1 ⟨fun b o hb e => k₅ b o hb (k4 b o hb (k3 _ _ (k2 _ _ (k₁ b o e)))), hx₅, Nat.le_of_lt (Nat.lt_of_lt_of_le z dn), dne, hn₅⟩))
theorem err_made (T : ErrTxt prog K mg x qual C fI cc cda) : Mkd prog w K mg C ["need"] (fun vs => ∃ v, vs = [v] ∧ okS v) := by
  intro A s R vs us rl hok X hlim G B hh hroom hq
  obtain ⟨v, rfl, ov⟩ := hok
  cases rl with
  | cons rv rn =>
  rename_i u us'
  cases rn
  obtain ⟨nm, q, N, bs, bm, sn, sub, ab, col, dd, k0, k1, k2, k3, k5, hC, hbm⟩ := T.cls
  obtain ⟨hp, g, dr, tk, os⟩ := s
  have k : ∀ b o, hp.get? b = some o → ((hp.push (kdv_tup [u])).push (excO C hp.objs.size)).get? b = some o := fun b o e => Heap.get?_push_of_some _ (Heap.get?_push_of_some _ e)
  have hget : ((hp.push (kdv_tup [u])).push (excO C hp.objs.size)).get? (hp.objs.size + 1) = some (excO C hp.objs.size) := by heap_get
  have hnx : K.lookup (hp.objs.size + 1) = none := by
    cases e : K.lookup (hp.objs.size + 1) with
    | none => rfl
    | some o =>
      have z : hp.get? (hp.objs.size + 1) = some o := X _ _ e
      exact absurd (Nat.lt_of_succ_lt (Heap.lt_size z)) (Nat.lt_irrefl _)
  refine call_own F.excBase_ValueError (fun X => refsVE_contains X bm hbm) (X _ _ hC) (looks_findIn X T.iC) (fun self => bind_fn X self T.tC) (one_size u) ?_
  obtain ⟨mb, B1, B2⟩ := B
  refine err_init (s := ⟨(hp.push (kdv_tup [u])).push (excO C hp.objs.size), g, dr, tk, os⟩) T (X.keeps k) (hlim.keeps k) (G.keeps k) ⟨mb, B1.keeps k, B2⟩ hget hnx ?_ ?_ (okS_ok rv ov) fun h' tk' dx t1 ⟨k', hx, dn, dne, hns⟩ => ?_
  · exact hh
  · show A.depth + 1 < recursionLimit
    exact hroom
  · have old : ∀ b o, hp.get? b = some o → h'.get? b = some o := fun b o e => k' b o (Nat.ne_of_lt (Nat.lt_succ_of_lt (Heap.lt_size e))) (k b o e)
    have z : hp.objs.size + 1 + 1 ≤ dx := by
      first
        | (simpa only [Heap.size_push] using dn)
        | exact dn
        | (have q := dn; rw [Heap.size_push, Heap.size_push] at q; exact q)
    refine ⟨rfl, hq h' tk' (hp.objs.size + 1) dx ⟨old, Nat.le_succ _, ⟨_, _, hx, rfl, rfl, rfl, rfl, rfl⟩, Nat.le_trans (Nat.le_trans (Nat.le_succ _) (Nat.le_succ _)) z, dne, ?_⟩⟩
    have ef : (fun y : Str => List.lookup y ([(PySem.Str.ofString "need" : Str)].zip [u])) = fun y => if y = PySem.Str.ofString "need" then some u else none := by
      funext y
      by_cases h : y = PySem.Str.ofString "need"
      · simp [List.lookup, h]
      · have h2 : (y == PySem.Str.ofString "need") = false := by simpa using h
        simp [List.lookup, h, h2]
    rw [ef]
    exact hns
def p1Of (st : Stmt) : Pos := match (L2.defArgs st).args with | [a, _] => a.pos | _ => ⟨0, 0, 0, 0⟩
def p2Of (st : Stmt) : Pos := match (L2.defArgs st).args with | [_, a] => a.pos | _ => ⟨0, 0, 0, 0⟩
def qOf (st : Stmt) : Nat → Pos := match L2.defBody st with
  | [.Expr (.Call (.Attribute (.Call (.Name _ q0) _ _ q1) _ q2) [.Call (.Name _ q3) [.Name _ q4] _ q5] _ q6) q7, .Assign [.Attribute (.Name _ q8) _ q9] (.Name _ q10) q11] =>
    fun n => [q0, q1, q2, q3, q4, q5, q6, q7, q8, q9, q10, q11].getD n ⟨0, 0, 0, 0⟩
  | _ => fun _ => ⟨0, 0, 0, 0⟩
theorem err_mk (st : Stmt) {h : Heap} {nm q : Str} {N : Addr} {bs bm : List Value} {sn : List Str} {sub : List Value} {ab : Bool} {col : Option Bool} {dd : Option Addr} {k0 k1 k2 k3 k5 : Option Value} {oc : Value} {od : Option Addr} {doc pm : Value} {an : Option Addr} {ct : Value} {osl : Array (Option Value)}
    {cl : Value} {cld : Option Addr} {csl : Array (Option Value)} {ccl : Value} {cdd : Option Addr} {vs : Array Value} {ccs : Array (Option Value)} {file : Str} {tf : Tok}
    (X : K.In h) (G : h.Ns mainGlobals mg) (aC : nsIn K mainGlobals x = some (some (.ref C))) (xL : K.lookup C = some (excClassObj nm q C N bs bm true sn sub ab col dd k0 k1 k2 k3 k5 "ValueError.__new__")) (bmv : refsVE bm = true)
    (sup : ks_superIn K C C "__init__" = some (some (.builtin "ValueError.__init__"))) (sa : findIn K (.ref C) "__setattr__" = some (some (.builtin "object.__setattr__"))) (no : findIn K (.ref C) "need" = some none)
    (a1 : findIn K (.ref C) "__init__" = some (some (.ref fI))) (t1 : typeIn K (.ref fI) = some (.type "function")) (kC : keepIn K (.ref C) = true) (eC : subIn K (.ref C) (.type "BaseException") = some true) (vC : subIn K (.ref C) (.type "ValueError") = some true)
    (tC : typeIn K (.ref C) = some (.type "type")) (own : mroIn K C (.ref C) = some true) (tp : nsIn K cStatics "thirdparty.any" = some none) (dg : nsIn K cStatics "sys.int_max_str_digits" = some none) (nsup : nsIn K mainGlobals "super" = some none) (nstr : nsIn K mainGlobals "str" = some none)
    (hst : L2.defArgs st = eA (p1Of st) (p2Of st) ∧ L2.defBody st = eB (qOf st) ∧ L2.defScope st = eS)
    (l1 : K.lookup fI = some ⟨oc, od, .func (ksFn "__init__" qual (L2.defArgs st) (L2.defBody st) (L2.defScope st) .none .none doc pm an (.ref cda) ct cc), osl⟩) (c1 : codeIn K (.ref cda) qual = true) (mc : MC (qOf st)) (ac : AC (qOf st))
    (ce : K.lookup cc = some ⟨cl, cld, .cell (some (.ref C)), csl⟩) (co : K.lookup cda = some ⟨ccl, cdd, .fields vs, ccs⟩) (cf : vs[2]? = some (.str file tf)) (cg : ((prog.main.file : Str) == file) = true) (top : (prog.main.scope.names.lookup ("super" : Str)).isSome = false)
    (hg : findIn K (.ref C) "__getattribute__" = some (some (.builtin "BaseException.__getattribute__"))) (hk : findIn K (.ref C) "__getattr__" = some none) (hd : hasDictIn K C = true) (ha : findIn K (.ref C) "__class__" = some (some (.builtin "object.__class__")))
    (hn : specialIn K (.builtin "object.__class__") "__get__" = some (some (.builtin "getset_descriptor.__get__"))) (ht : takesIn K (.builtin "object.__class__") = some true) (hm : mroIn K C (.type "object") = some true) :
    KW.ErrC prog w K mg x C ["need"] (fun vs => ∃ v, vs = [v] ∧ okS v) := by
  have T : ErrTxt prog K mg x qual C fI cc cda :=
    { gC := mg_of X G aC, cls := ⟨nm, q, N, bs, bm, sn, sub, ab, col, dd, k0, k1, k2, k3, k5, xL, bmv⟩, sup := sup, sa := sa, noN := no, iC := a1, tC := t1, kC := kC, exC := eC, veC := vC, tyC := tC, own := own, tp := tp, dg := dg,
      nsup := mg_none_of X G nsup, nstr := mg_none_of X G nstr,
      fn := ⟨oc, od, doc, pm, an, ct, osl, p1Of st, p2Of st, qOf st, by rw [← hst.1, ← hst.2.1, ← hst.2.2]; exact l1, c1, mc, ac⟩,
      cell := ⟨cl, cld, csl, ce⟩, code := ⟨ccl, cdd, vs, ccs, file, tf, co, cf, cg⟩, top := top }
  exact ⟨T.gC, err_made T, kC, eC, tC, ⟨hg, hk, eC, hd⟩, ⟨hg, hk, eC, hd, ha, hn, ht, hm⟩, fun f hf => by cases hf with | head => exact no | tail _ z => cases z⟩
end
end KErr_need
end PySem

set_option Elab.async false
set_option linter.all false
set_option maxRecDepth 100000
set_option maxHeartbeats 4000000
namespace PySem
namespace KErr_why
open PySem.W PySem.Calls PyProof.Rows PySem.HandSPX PySem.KErr
def eA (p1 p2 : Pos) : Arguments := { posonlyargs := [], args := [{ arg := "self", annotation := none, pos := p1 }, { arg := "why", annotation := none, pos := p2 }], vararg := none, kwonlyargs := [], kw_defaults := [], kwarg := none, defaults := [] }
def eB (q : Nat → Pos) : List Stmt := [
  .Expr (.Call (.Attribute (.Call (.Name "super" (q 0)) [] [] (q 1)) "__init__" (q 2)) [.Call (.Name "str" (q 3)) [.Name "why" (q 4)] [] (q 5)] [] (q 6)) (q 7),
  .Assign [.Attribute (.Name "self" (q 8)) "why" (q 9)] (.Name "why" (q 10)) (q 11)]
def eS : Scope := { kind := .function, names := [(PySem.Str.ofString "self", .local), (PySem.Str.ofString "why", .local), (PySem.Str.ofString "__class__", .free), (PySem.Str.ofString "super", .globalImplicit), (PySem.Str.ofString "str", .globalImplicit)], isGenerator := false, isCoroutine := false, more := [] }
def MC (q : Nat → Pos) : Prop := ∀ env : Env, ∃ pl : Sem Bool, eval (.Call (.Attribute (.Call (.Name "super" (q 0)) [] [] (q 1)) "__init__" (q 2)) [.Call (.Name "str" (q 3)) [.Name "why" (q 4)] [] (q 5)] [] (q 6)) env = (do
      let ov ← attributeBase (.Call (.Name "super" (q 0)) [] [] (q 1)) "__init__" env (eval (.Call (.Name "super" (q 0)) [] [] (q 1)) env)
      standAt (q 2).atName
      let (f, first) ← holding [ov] (getMethod ov "__init__" pl)
      callWith (q 6) f first (backTo (q 6) (starEach [.Call (.Name "str" (q 3)) [.Name "why" (q 4)] [] (q 5)] env)) [])
def AC (q : Nat → Pos) : Prop := ∀ env : Env, swapsWith (.Name "why" (q 10)) (some (.Attribute (.Name "self" (q 8)) "why" (q 9))) (q 11).line env = pure false
/-- what the top leaves of the class x with the one field -/
structure ErrTxt (prog : Program) (K : Frag) (mg : Str → Option Value) (x qual : Str) (C fI cc cda : Addr) : Prop where
  gC : mg x = some (.ref C)
  cls : ∃ nm q N bs bm sn sub ab col dd k0 k1 k2 k3 k5, K.lookup C = some (excClassObj nm q C N bs bm true sn sub ab col dd k0 k1 k2 k3 k5 "ValueError.__new__") ∧ refsVE bm = true
  sup : ks_superIn K C C "__init__" = some (some (.builtin "ValueError.__init__"))
  sa : findIn K (.ref C) "__setattr__" = some (some (.builtin "object.__setattr__"))
  noN : findIn K (.ref C) "why" = some none
  iC : findIn K (.ref C) "__init__" = some (some (.ref fI))
  tC : typeIn K (.ref fI) = some (.type "function")
  kC : keepIn K (.ref C) = true
  exC : subIn K (.ref C) (.type "BaseException") = some true
  veC : subIn K (.ref C) (.type "ValueError") = some true
  tyC : typeIn K (.ref C) = some (.type "type")
  own : mroIn K C (.ref C) = some true
  tp : nsIn K cStatics "thirdparty.any" = some none
  dg : nsIn K cStatics "sys.int_max_str_digits" = some none
  nsup : mg "super" = none
  nstr : mg "str" = none
  fn : ∃ (oc : Value) (od : Option Addr) (doc pm : Value) (an : Option Addr) (ct : Value) (osl : Array (Option Value)) (p1 p2 : Pos) (q : Nat → Pos),
    K.lookup fI = some ⟨oc, od, .func (ksFn "__init__" qual (eA p1 p2) (eB q) eS .none .none doc pm an (.ref cda) ct cc), osl⟩ ∧ codeIn K (.ref cda) qual = true ∧ MC q ∧ AC q
  cell : ∃ cl cld csl, K.lookup cc = some ⟨cl, cld, .cell (some (.ref C)), csl⟩
  code : ∃ ccl cdd vs ccs file tf, K.lookup cda = some ⟨ccl, cdd, .fields vs, ccs⟩ ∧ vs[2]? = some (.str file tf) ∧ ((prog.main.file : Str) == file) = true
  top : (prog.main.scope.names.lookup ("super" : Str)).isSome = false
section
variable {prog : Program} {w : World} {A : Around} {E : Value → Shared → Prop} {R : Result → Shared → Prop} {s : Shared} {K : Frag} {mg : Str → Option Value} {x qual : Str} {C fI cc cda : Addr}
theorem err_init (T : ErrTxt prog K mg x qual C fI cc cda) {e t0 : Addr} {v : Value} (X : K.In s.heap) (hlim : s.heap.NoLimit) (G : s.heap.Ns mainGlobals mg) (B : ∃ mb, s.heap.Ns builtinsNs mb ∧ ∀ x : Str, x ≠ "__name__" → mb x = bootBuiltins x)
    (hx : s.heap.get? e = some (excO C t0)) (hnx : K.lookup e = none) (hh : A.handled = none) (hroom : A.depth < recursionLimit) (hv : StrOk prog w v)
    (hq : ∀ h' tk dx t1, InitEnd s.heap h' e C dx t1 "why" v → R (.ok (.ret .none)) { s with heap := h', toks := tk }) :
    codeAny (model prog w) A (.call (.ref fI) ⟨[.ref e, v], []⟩) R s := by
  obtain ⟨oc, od, doc, pm, an, ct, osl, p1, p2, q, ho, hcd, hMC, hAC⟩ := T.fn
  obtain ⟨nm, qn, N, bs, bm, sn, sub, ab, col, dd, k0, k1, k2, k3, k5, hC, hbm⟩ := T.cls
  obtain ⟨cl, cld, csl, hcell⟩ := T.cell
  obtain ⟨ccl, cdd, vs, ccs, file, tf, hcode, hvs, hfile⟩ := T.code
  obtain ⟨mb, Bn, Bb⟩ := B
  have hcl : clsIn K C = some { name := nm, bases := bs, mro := .ref C :: bm, ns := N, qualname := qn, hasDict := true, slotNames := sn, subclasses := sub, abstract := ab, collection := col, hasDel := false } := by unfold clsIn; rw [hC] <;> rfl
  refine ks_codeAny_call_defAt (fd := ksFn "__init__" qual (eA p1 p2) (eB q) eS .none .none doc pm an (.ref cda) ct cc) (body := eB q) (binds := [("self", .ref e), ("why", v)]) hroom (X _ _ ho) rfl hlim (codeRec_of X hcd) rfl ?b ?c ?l (fun h₁ hns k₁ => ?_)
  case b => exact BindsTo.of_eq (by first | rfl | with_unfolding_all rfl)
  case c => show ∀ x ∈ eS.names, x.2 ≠ .cell; decide
  case l => exact locs rfl
  obtain ⟨sh, sg, sd, st, sos⟩ := s
  have X₁ : K.In h₁ := X.keeps k₁
  have hx₁ := k₁ _ _ hx
  have hC₁ := X₁ _ _ hC
  show _root_.PySem.wpAt (model prog w) _ (.func (eB q) (ksEnv qual eS sh.objs.size fI (.ref cda) cc)) (execs (eB q) (ksEnv qual eS sh.objs.size fI (.ref cda) cc)) _ _ _
  obtain ⟨pl, hpl⟩ := hMC (ksEnv qual eS sh.objs.size fI (.ref cda) cc)
  refine ks_wpAt_execs_cons (ks_wpAt_Expr_any (ks_wpAt_MethodCall ?_ hpl))
  refine ks_wpAt_super_base (env := ksEnv qual eS sh.objs.size fI (.ref cda) cc) (ar := { arg := "self", annotation := none, pos := p1 }) rfl rfl (by decide) rfl (X₁ _ _ ho) rfl rfl rfl (X₁ _ _ hcode) rfl hvs hfile T.top ?_
  refine ks_loadName_global rfl rfl (loadGlobal_builtin (env := ksEnv qual eS sh.objs.size fI (.ref cda) cc) (G.keeps k₁) T.nsup (Bn.keeps k₁) ((Bb _ (by decide +kernel)).trans (by first | boot_by_name | rfl | kernel_rfl)) ⟨rfl, ?_⟩)
  refine wpAny_loadName_free rfl rfl rfl ⟨_, X₁ _ _ hcell, rfl⟩ ?_
  refine wpAny_loadName_local rfl rfl hns (by first | rfl | with_unfolding_all rfl | kernel_rfl) ?_
  refine ks_wpAny_isType_cls hC₁ rfl ⟨rfl, ?_⟩
  refine ks_wpAny_call_super hC₁ rfl hx₁ rfl (fun c z => by cases z) (looks_mroIn X₁ T.own) (fun h₂ e2 k2 => ?_)
  have X₂ : K.In h₂ := X₁.keeps k2
  have hC₂ := k2 _ _ hC₁
  have hx₂ := k2 _ _ hx₁
  have I₂ : InstAt h₂ e (excO C t0) C none := ⟨hx₂, rfl, rfl, trivial⟩
  have hxC : e ≠ C := ks_ne X₂ I₂ hcl
  have hsup := T.sup
  unfold ks_superIn at hsup
  rw [hcl] at hsup
  refine kxs_getMethod kxs_ValueError e2 (looks_opaque X₂ T.tp) (l₀ := .ref C :: bm) (fun A Q E s k q => wpAny_bind ((looks_clsIn X₂ hcl) A _ E s k (wpAny_pure q))) rfl X₂ hsup (I₂.type.andThen (looks_subIn X₂ T.veC)) hxC rfl ?_
  refine kxs_callWith (i := "ValueError.__init__") (x := e) rfl ?_
  refine Calls.evalArgs_plain (Calls.spliced_cons ?_)
  have k3 : ∀ b o, h₂.get? b = some o → (h₂.push (kxs_mw "ValueError.__init__" e)).get? b = some o := fun b o z => Heap.get?_push_of_some _ z
  have X₃ := X₂.keeps k3
  have G₃ := ((G.keeps k₁).keeps k2).keeps k3
  have B₃ := ((Bn.keeps k₁).keeps k2).keeps k3
  have hns₃ := (hns.keeps k2).keeps k3
  have hu : (h₂.push (kxs_mw "ValueError.__init__" e)).get? h₂.objs.size = some (kxs_mw "ValueError.__init__" e) := by heap_get
  have hdg : (h₂.push (kxs_mw "ValueError.__init__" e)).NoDigits := let ⟨mc, a, _⟩ := ((hlim.keeps k₁).keeps k2).keeps k3; ⟨mc, a, ns_none_of X₃ a T.dg⟩
  generalize h₂.push (kxs_mw "ValueError.__init__" e) = h₃ at *
  refine wpAny_Call_NameR (wpAny_Name (ks_loadName_global rfl rfl (loadGlobal_builtin (env := ksEnv qual eS sh.objs.size fI (.ref cda) cc) G₃ T.nstr B₃ ((Bb _ (by decide +kernel)).trans (by first | boot_by_name | rfl | kernel_rfl)) ?_)) rfl)
  refine callWith_type1 ?_
  show wpAny _ _ (eval (.Name "why" (q 4)) _) _ _ _
  refine wpAny_Name (wpAny_loadName_local rfl rfl hns₃ (by first | rfl | with_unfolding_all rfl | kernel_rfl) ?_) (by decide)
  refine hv _ _ _ _ hh hdg (fun txt tk tk' => ?_)
  refine Calls.spliced_nil ⟨hu, ?_⟩
  refine init_call (hC := k3 _ _ hC₂) (he := k3 _ _ hx₂) (hu := hu) (one_size _) (fun h₄ t1 k4 hx₄ => ?_)
  have hLe : sh.objs.size ≠ e := Nat.ne_of_gt (Heap.lt_size hx)
  have hns₄ : h₄.Ns sh.objs.size (fun x => List.lookup x [((PySem.Str.ofString "self" : Str), Value.ref e), ((PySem.Str.ofString "why" : Str), v)].reverse) := by
    obtain ⟨oL, es, ep, hL, r⟩ := hns₃
    exact ⟨oL, es, ep, k4 _ _ hLe hL, r⟩
  have X₄ : K.In h₄ := kept_but X₃ hnx k4
  show wpAt _ _ _ (execs _ _) _ _ _
  refine ks_wpAt_execs_cons (ks_wpAt_Assign_Attr (wpAt_of_wpAny (wpAny_Name (wpAny_loadName_local rfl rfl hns₄ (by first | rfl | with_unfolding_all rfl | kernel_rfl) ?_) (by decide))) (hAC _))
  refine wpAny_Name (wpAny_loadName_local rfl rfl hns₄ (by first | rfl | with_unfolding_all rfl | kernel_rfl) ?_) (by decide)
  refine set_plain X₄ (ox := excO C t1) (od := none) ⟨hx₄, rfl, rfl, trivial⟩ T.sa ?_
  refine exc_osa X₄ hx₄ hcl (show refsVE (.ref C :: bm) = true from hbm) rfl T.noN (fun h₅ tk₅ dx k₅ dn dne hx₅ hn₅ => ?_)
  show wpAt _ _ _ (execs _ _) _ _ _
  have z : sh.objs.size < h₄.objs.size := hns₄.lt
  refine wpAt_of_wpAny (wpAny_execs_nil (hq h₅ tk₅ dx t1 ⟨fun b o hb e => k₅ b o hb (k4 b o hb (k3 _ _ (k2 _ _ (k₁ b o e)))), hx₅, Nat.le_of_lt (Nat.lt_of_lt_of_le z dn), dne, hn₅⟩))
theorem err_made (T : ErrTxt prog K mg x qual C fI cc cda) : Mkd prog w K mg C ["why"] (fun vs => ∃ v, vs = [v] ∧ okS v) := by
  intro A s R vs us rl hok X hlim G B hh hroom hq
  obtain ⟨v, rfl, ov⟩ := hok
  cases rl with
  | cons rv rn =>
  rename_i u us'
  cases rn
  obtain ⟨nm, q, N, bs, bm, sn, sub, ab, col, dd, k0, k1, k2, k3, k5, hC, hbm⟩ := T.cls
  obtain ⟨hp, g, dr, tk, os⟩ := s
  have k : ∀ b o, hp.get? b = some o → ((hp.push (kdv_tup [u])).push (excO C hp.objs.size)).get? b = some o := fun b o e => Heap.get?_push_of_some _ (Heap.get?_push_of_some _ e)
  have hget : ((hp.push (kdv_tup [u])).push (excO C hp.objs.size)).get? (hp.objs.size + 1) = some (excO C hp.objs.size) := by heap_get
  have hnx : K.lookup (hp.objs.size + 1) = none := by
    cases e : K.lookup (hp.objs.size + 1) with
    | none => rfl
    | some o =>
      have z : hp.get? (hp.objs.size + 1) = some o := X _ _ e
      exact absurd (Nat.lt_of_succ_lt (Heap.lt_size z)) (Nat.lt_irrefl _)
  refine call_own F.excBase_ValueError (fun X => refsVE_contains X bm hbm) (X _ _ hC) (looks_findIn X T.iC) (fun self => bind_fn X self T.tC) (one_size u) ?_
  obtain ⟨mb, B1, B2⟩ := B
  refine err_init (s := ⟨(hp.push (kdv_tup [u])).push (excO C hp.objs.size), g, dr, tk, os⟩) T (X.keeps k) (hlim.keeps k) (G.keeps k) ⟨mb, B1.keeps k, B2⟩ hget hnx ?_ ?_ (okS_ok rv ov) fun h' tk' dx t1 ⟨k', hx, dn, dne, hns⟩ => ?_
  · exact hh
  · show A.depth + 1 < recursionLimit
    exact hroom
  · have old : ∀ b o, hp.get? b = some o → h'.get? b = some o := fun b o e => k' b o (Nat.ne_of_lt (Nat.lt_succ_of_lt (Heap.lt_size e))) (k b o e)
    have z : hp.objs.size + 1 + 1 ≤ dx := by
      first
        | (simpa only [Heap.size_push] using dn)
        | exact dn
        | (have q := dn; rw [Heap.size_push, Heap.size_push] at q; exact q)
    refine ⟨rfl, hq h' tk' (hp.objs.size + 1) dx ⟨old, Nat.le_succ _, ⟨_, _, hx, rfl, rfl, rfl, rfl, rfl⟩, Nat.le_trans (Nat.le_trans (Nat.le_succ _) (Nat.le_succ _)) z, dne, ?_⟩⟩
    have ef : (fun y : Str => List.lookup y ([(PySem.Str.ofString "why" : Str)].zip [u])) = fun y => if y = PySem.Str.ofString "why" then some u else none := by
      funext y
      by_cases h : y = PySem.Str.ofString "why"
      · simp [List.lookup, h]
      · have h2 : (y == PySem.Str.ofString "why") = false := by simpa using h
        simp [List.lookup, h, h2]
    rw [ef]
    exact hns
def p1Of (st : Stmt) : Pos := match (L2.defArgs st).args with | [a, _] => a.pos | _ => ⟨0, 0, 0, 0⟩
def p2Of (st : Stmt) : Pos := match (L2.defArgs st).args with | [_, a] => a.pos | _ => ⟨0, 0, 0, 0⟩
def qOf (st : Stmt) : Nat → Pos := match L2.defBody st with
  | [.Expr (.Call (.Attribute (.Call (.Name _ q0) _ _ q1) _ q2) [.Call (.Name _ q3) [.Name _ q4] _ q5] _ q6) q7, .Assign [.Attribute (.Name _ q8) _ q9] (.Name _ q10) q11] =>
    fun n => [q0, q1, q2, q3, q4, q5, q6, q7, q8, q9, q10, q11].getD n ⟨0, 0, 0, 0⟩
  | _ => fun _ => ⟨0, 0, 0, 0⟩
theorem err_mk (st : Stmt) {h : Heap} {nm q : Str} {N : Addr} {bs bm : List Value} {sn : List Str} {sub : List Value} {ab : Bool} {col : Option Bool} {dd : Option Addr} {k0 k1 k2 k3 k5 : Option Value} {oc : Value} {od : Option Addr} {doc pm : Value} {an : Option Addr} {ct : Value} {osl : Array (Option Value)}
    {cl : Value} {cld : Option Addr} {csl : Array (Option Value)} {ccl : Value} {cdd : Option Addr} {vs : Array Value} {ccs : Array (Option Value)} {file : Str} {tf : Tok}
    (X : K.In h) (G : h.Ns mainGlobals mg) (aC : nsIn K mainGlobals x = some (some (.ref C))) (xL : K.lookup C = some (excClassObj nm q C N bs bm true sn sub ab col dd k0 k1 k2 k3 k5 "ValueError.__new__")) (bmv : refsVE bm = true)
    (sup : ks_superIn K C C "__init__" = some (some (.builtin "ValueError.__init__"))) (sa : findIn K (.ref C) "__setattr__" = some (some (.builtin "object.__setattr__"))) (no : findIn K (.ref C) "why" = some none)
    (a1 : findIn K (.ref C) "__init__" = some (some (.ref fI))) (t1 : typeIn K (.ref fI) = some (.type "function")) (kC : keepIn K (.ref C) = true) (eC : subIn K (.ref C) (.type "BaseException") = some true) (vC : subIn K (.ref C) (.type "ValueError") = some true)
    (tC : typeIn K (.ref C) = some (.type "type")) (own : mroIn K C (.ref C) = some true) (tp : nsIn K cStatics "thirdparty.any" = some none) (dg : nsIn K cStatics "sys.int_max_str_digits" = some none) (nsup : nsIn K mainGlobals "super" = some none) (nstr : nsIn K mainGlobals "str" = some none)
    (hst : L2.defArgs st = eA (p1Of st) (p2Of st) ∧ L2.defBody st = eB (qOf st) ∧ L2.defScope st = eS)
    (l1 : K.lookup fI = some ⟨oc, od, .func (ksFn "__init__" qual (L2.defArgs st) (L2.defBody st) (L2.defScope st) .none .none doc pm an (.ref cda) ct cc), osl⟩) (c1 : codeIn K (.ref cda) qual = true) (mc : MC (qOf st)) (ac : AC (qOf st))
    (ce : K.lookup cc = some ⟨cl, cld, .cell (some (.ref C)), csl⟩) (co : K.lookup cda = some ⟨ccl, cdd, .fields vs, ccs⟩) (cf : vs[2]? = some (.str file tf)) (cg : ((prog.main.file : Str) == file) = true) (top : (prog.main.scope.names.lookup ("super" : Str)).isSome = false)
    (hg : findIn K (.ref C) "__getattribute__" = some (some (.builtin "BaseException.__getattribute__"))) (hk : findIn K (.ref C) "__getattr__" = some none) (hd : hasDictIn K C = true) (ha : findIn K (.ref C) "__class__" = some (some (.builtin "object.__class__")))
    (hn : specialIn K (.builtin "object.__class__") "__get__" = some (some (.builtin "getset_descriptor.__get__"))) (ht : takesIn K (.builtin "object.__class__") = some true) (hm : mroIn K C (.type "object") = some true) :
    KW.ErrC prog w K mg x C ["why"] (fun vs => ∃ v, vs = [v] ∧ okS v) := by
  have T : ErrTxt prog K mg x qual C fI cc cda :=
    { gC := mg_of X G aC, cls := ⟨nm, q, N, bs, bm, sn, sub, ab, col, dd, k0, k1, k2, k3, k5, xL, bmv⟩, sup := sup, sa := sa, noN := no, iC := a1, tC := t1, kC := kC, exC := eC, veC := vC, tyC := tC, own := own, tp := tp, dg := dg,
      nsup := mg_none_of X G nsup, nstr := mg_none_of X G nstr,
      fn := ⟨oc, od, doc, pm, an, ct, osl, p1Of st, p2Of st, qOf st, by rw [← hst.1, ← hst.2.1, ← hst.2.2]; exact l1, c1, mc, ac⟩,
      cell := ⟨cl, cld, csl, ce⟩, code := ⟨ccl, cdd, vs, ccs, file, tf, co, cf, cg⟩, top := top }
  exact ⟨T.gC, err_made T, kC, eC, tC, ⟨hg, hk, eC, hd⟩, ⟨hg, hk, eC, hd, ha, hn, ht, hm⟩, fun f hf => by cases hf with | head => exact no | tail _ z => cases z⟩
end
end KErr_why
end PySem

set_option Elab.async false
set_option linter.all false
set_option maxRecDepth 100000
set_option maxHeartbeats 4000000
namespace PySem
namespace KErr_word
open PySem.W PySem.Calls PyProof.Rows PySem.HandSPX PySem.KErr
def eA (p1 p2 : Pos) : Arguments := { posonlyargs := [], args := [{ arg := "self", annotation := none, pos := p1 }, { arg := "word", annotation := none, pos := p2 }], vararg := none, kwonlyargs := [], kw_defaults := [], kwarg := none, defaults := [] }
def eB (q : Nat → Pos) : List Stmt := [
  .Expr (.Call (.Attribute (.Call (.Name "super" (q 0)) [] [] (q 1)) "__init__" (q 2)) [.Call (.Name "str" (q 3)) [.Name "word" (q 4)] [] (q 5)] [] (q 6)) (q 7),
  .Assign [.Attribute (.Name "self" (q 8)) "word" (q 9)] (.Name "word" (q 10)) (q 11)]
def eS : Scope := { kind := .function, names := [(PySem.Str.ofString "self", .local), (PySem.Str.ofString "word", .local), (PySem.Str.ofString "__class__", .free), (PySem.Str.ofString "super", .globalImplicit), (PySem.Str.ofString "str", .globalImplicit)], isGenerator := false, isCoroutine := false, more := [] }
def MC (q : Nat → Pos) : Prop := ∀ env : Env, ∃ pl : Sem Bool, eval (.Call (.Attribute (.Call (.Name "super" (q 0)) [] [] (q 1)) "__init__" (q 2)) [.Call (.Name "str" (q 3)) [.Name "word" (q 4)] [] (q 5)] [] (q 6)) env = (do
      let ov ← attributeBase (.Call (.Name "super" (q 0)) [] [] (q 1)) "__init__" env (eval (.Call (.Name "super" (q 0)) [] [] (q 1)) env)
      standAt (q 2).atName
      let (f, first) ← holding [ov] (getMethod ov "__init__" pl)
      callWith (q 6) f first (backTo (q 6) (starEach [.Call (.Name "str" (q 3)) [.Name "word" (q 4)] [] (q 5)] env)) [])
def AC (q : Nat → Pos) : Prop := ∀ env : Env, swapsWith (.Name "word" (q 10)) (some (.Attribute (.Name "self" (q 8)) "word" (q 9))) (q 11).line env = pure false
/-- what the top leaves of the class x with the one field -/
structure ErrTxt (prog : Program) (K : Frag) (mg : Str → Option Value) (x qual : Str) (C fI cc cda : Addr) : Prop where
  gC : mg x = some (.ref C)
  cls : ∃ nm q N bs bm sn sub ab col dd k0 k1 k2 k3 k5, K.lookup C = some (excClassObj nm q C N bs bm true sn sub ab col dd k0 k1 k2 k3 k5 "ValueError.__new__") ∧ refsVE bm = true
  sup : ks_superIn K C C "__init__" = some (some (.builtin "ValueError.__init__"))
  sa : findIn K (.ref C) "__setattr__" = some (some (.builtin "object.__setattr__"))
  noN : findIn K (.ref C) "word" = some none
  iC : findIn K (.ref C) "__init__" = some (some (.ref fI))
  tC : typeIn K (.ref fI) = some (.type "function")
  kC : keepIn K (.ref C) = true
  exC : subIn K (.ref C) (.type "BaseException") = some true
  veC : subIn K (.ref C) (.type "ValueError") = some true
  tyC : typeIn K (.ref C) = some (.type "type")
  own : mroIn K C (.ref C) = some true
  tp : nsIn K cStatics "thirdparty.any" = some none
  dg : nsIn K cStatics "sys.int_max_str_digits" = some none
  nsup : mg "super" = none
  nstr : mg "str" = none
  fn : ∃ (oc : Value) (od : Option Addr) (doc pm : Value) (an : Option Addr) (ct : Value) (osl : Array (Option Value)) (p1 p2 : Pos) (q : Nat → Pos),
    K.lookup fI = some ⟨oc, od, .func (ksFn "__init__" qual (eA p1 p2) (eB q) eS .none .none doc pm an (.ref cda) ct cc), osl⟩ ∧ codeIn K (.ref cda) qual = true ∧ MC q ∧ AC q
  cell : ∃ cl cld csl, K.lookup cc = some ⟨cl, cld, .cell (some (.ref C)), csl⟩
  code : ∃ ccl cdd vs ccs file tf, K.lookup cda = some ⟨ccl, cdd, .fields vs, ccs⟩ ∧ vs[2]? = some (.str file tf) ∧ ((prog.main.file : Str) == file) = true
  top : (prog.main.scope.names.lookup ("super" : Str)).isSome = false
section
variable {prog : Program} {w : World} {A : Around} {E : Value → Shared → Prop} {R : Result → Shared → Prop} {s : Shared} {K : Frag} {mg : Str → Option Value} {x qual : Str} {C fI cc cda : Addr}
theorem err_init (T : ErrTxt prog K mg x qual C fI cc cda) {e t0 : Addr} {v : Value} (X : K.In s.heap) (hlim : s.heap.NoLimit) (G : s.heap.Ns mainGlobals mg) (B : ∃ mb, s.heap.Ns builtinsNs mb ∧ ∀ x : Str, x ≠ "__name__" → mb x = bootBuiltins x)
    (hx : s.heap.get? e = some (excO C t0)) (hnx : K.lookup e = none) (hh : A.handled = none) (hroom : A.depth < recursionLimit) (hv : StrOk prog w v)
    (hq : ∀ h' tk dx t1, InitEnd s.heap h' e C dx t1 "word" v → R (.ok (.ret .none)) { s with heap := h', toks := tk }) :
    codeAny (model prog w) A (.call (.ref fI) ⟨[.ref e, v], []⟩) R s := by
  obtain ⟨oc, od, doc, pm, an, ct, osl, p1, p2, q, ho, hcd, hMC, hAC⟩ := T.fn
  obtain ⟨nm, qn, N, bs, bm, sn, sub, ab, col, dd, k0, k1, k2, k3, k5, hC, hbm⟩ := T.cls
  obtain ⟨cl, cld, csl, hcell⟩ := T.cell
  obtain ⟨ccl, cdd, vs, ccs, file, tf, hcode, hvs, hfile⟩ := T.code
  obtain ⟨mb, Bn, Bb⟩ := B
  have hcl : clsIn K C = some { name := nm, bases := bs, mro := .ref C :: bm, ns := N, qualname := qn, hasDict := true, slotNames := sn, subclasses := sub, abstract := ab, collection := col, hasDel := false } := by unfold clsIn; rw [hC] <;> rfl
  refine ks_codeAny_call_defAt (fd := ksFn "__init__" qual (eA p1 p2) (eB q) eS .none .none doc pm an (.ref cda) ct cc) (body := eB q) (binds := [("self", .ref e), ("word", v)]) hroom (X _ _ ho) rfl hlim (codeRec_of X hcd) rfl ?b ?c ?l (fun h₁ hns k₁ => ?_)
  case b => exact BindsTo.of_eq (by first | rfl | with_unfolding_all rfl)
  case c => show ∀ x ∈ eS.names, x.2 ≠ .cell; decide
  case l => exact locs rfl
  obtain ⟨sh, sg, sd, st, sos⟩ := s
  have X₁ : K.In h₁ := X.keeps k₁
  have hx₁ := k₁ _ _ hx
  have hC₁ := X₁ _ _ hC
  show _root_.PySem.wpAt (model prog w) _ (.func (eB q) (ksEnv qual eS sh.objs.size fI (.ref cda) cc)) (execs (eB q) (ksEnv qual eS sh.objs.size fI (.ref cda) cc)) _ _ _
  obtain ⟨pl, hpl⟩ := hMC (ksEnv qual eS sh.objs.size fI (.ref cda) cc)
  refine ks_wpAt_execs_cons (ks_wpAt_Expr_any (ks_wpAt_MethodCall ?_ hpl))
  refine ks_wpAt_super_base (env := ksEnv qual eS sh.objs.size fI (.ref cda) cc) (ar := { arg := "self", annotation := none, pos := p1 }) rfl rfl (by decide) rfl (X₁ _ _ ho) rfl rfl rfl (X₁ _ _ hcode) rfl hvs hfile T.top ?_
  refine ks_loadName_global rfl rfl (loadGlobal_builtin (env := ksEnv qual eS sh.objs.size fI (.ref cda) cc) (G.keeps k₁) T.nsup (Bn.keeps k₁) ((Bb _ (by decide +kernel)).trans (by first | boot_by_name | rfl | kernel_rfl)) ⟨rfl, ?_⟩)
  refine wpAny_loadName_free rfl rfl rfl ⟨_, X₁ _ _ hcell, rfl⟩ ?_
  refine wpAny_loadName_local rfl rfl hns (by first | rfl | with_unfolding_all rfl | kernel_rfl) ?_
  refine ks_wpAny_isType_cls hC₁ rfl ⟨rfl, ?_⟩
  refine ks_wpAny_call_super hC₁ rfl hx₁ rfl (fun c z => by cases z) (looks_mroIn X₁ T.own) (fun h₂ e2 k2 => ?_)
  have X₂ : K.In h₂ := X₁.keeps k2
  have hC₂ := k2 _ _ hC₁
  have hx₂ := k2 _ _ hx₁
  have I₂ : InstAt h₂ e (excO C t0) C none := ⟨hx₂, rfl, rfl, trivial⟩
  have hxC : e ≠ C := ks_ne X₂ I₂ hcl
  have hsup := T.sup
  unfold ks_superIn at hsup
  rw [hcl] at hsup
  refine kxs_getMethod kxs_ValueError e2 (looks_opaque X₂ T.tp) (l₀ := .ref C :: bm) (fun A Q E s k q => wpAny_bind ((looks_clsIn X₂ hcl) A _ E s k (wpAny_pure q))) rfl X₂ hsup (I₂.type.andThen (looks_subIn X₂ T.veC)) hxC rfl ?_
  refine kxs_callWith (i := "ValueError.__init__") (x := e) rfl ?_
  refine Calls.evalArgs_plain (Calls.spliced_cons ?_)
  have k3 : ∀ b o, h₂.get? b = some o → (h₂.push (kxs_mw "ValueError.__init__" e)).get? b = some o := fun b o z => Heap.get?_push_of_some _ z
  have X₃ := X₂.keeps k3
  have G₃ := ((G.keeps k₁).keeps k2).keeps k3
  have B₃ := ((Bn.keeps k₁).keeps k2).keeps k3
  have hns₃ := (hns.keeps k2).keeps k3
  have hu : (h₂.push (kxs_mw "ValueError.__init__" e)).get? h₂.objs.size = some (kxs_mw "ValueError.__init__" e) := by heap_get
  have hdg : (h₂.push (kxs_mw "ValueError.__init__" e)).NoDigits := let ⟨mc, a, _⟩ := ((hlim.keeps k₁).keeps k2).keeps k3; ⟨mc, a, ns_none_of X₃ a T.dg⟩
  generalize h₂.push (kxs_mw "ValueError.__init__" e) = h₃ at *
  refine wpAny_Call_NameR (wpAny_Name (ks_loadName_global rfl rfl (loadGlobal_builtin (env := ksEnv qual eS sh.objs.size fI (.ref cda) cc) G₃ T.nstr B₃ ((Bb _ (by decide +kernel)).trans (by first | boot_by_name | rfl | kernel_rfl)) ?_)) rfl)
  refine callWith_type1 ?_
  show wpAny _ _ (eval (.Name "word" (q 4)) _) _ _ _
  refine wpAny_Name (wpAny_loadName_local rfl rfl hns₃ (by first | rfl | with_unfolding_all rfl | kernel_rfl) ?_) (by decide)
  refine hv _ _ _ _ hh hdg (fun txt tk tk' => ?_)
  refine Calls.spliced_nil ⟨hu, ?_⟩
  refine init_call (hC := k3 _ _ hC₂) (he := k3 _ _ hx₂) (hu := hu) (one_size _) (fun h₄ t1 k4 hx₄ => ?_)
  have hLe : sh.objs.size ≠ e := Nat.ne_of_gt (Heap.lt_size hx)
  have hns₄ : h₄.Ns sh.objs.size (fun x => List.lookup x [((PySem.Str.ofString "self" : Str), Value.ref e), ((PySem.Str.ofString "word" : Str), v)].reverse) := by
    obtain ⟨oL, es, ep, hL, r⟩ := hns₃
    exact ⟨oL, es, ep, k4 _ _ hLe hL, r⟩
  have X₄ : K.In h₄ := kept_but X₃ hnx k4
  show wpAt _ _ _ (execs _ _) _ _ _
  refine ks_wpAt_execs_cons (ks_wpAt_Assign_Attr (wpAt_of_wpAny (wpAny_Name (wpAny_loadName_local rfl rfl hns₄ (by first | rfl | with_unfolding_all rfl | kernel_rfl) ?_) (by decide))) (hAC _))
  refine wpAny_Name (wpAny_loadName_local rfl rfl hns₄ (by first | rfl | with_unfolding_all rfl | kernel_rfl) ?_) (by decide)
  refine set_plain X₄ (ox := excO C t1) (od := none) ⟨hx₄, rfl, rfl, trivial⟩ T.sa ?_
  refine exc_osa X₄ hx₄ hcl (show refsVE (.ref C :: bm) = true from hbm) rfl T.noN (fun h₅ tk₅ dx k₅ dn dne hx₅ hn₅ => ?_)
  show wpAt _ _ _ (execs _ _) _ _ _
  have z : sh.objs.size < h₄.objs.size := hns₄.lt
  refine wpAt_of_wpAny (wpAny_execs_nil (hq h₅ tk₅ dx t1 ⟨fun b o hb e => k₅ b o hb (k4 b o hb (k3 _ _ (k2 _ _ (k₁ b o e)))), hx₅, Nat.le_of_lt (Nat.lt_of_lt_of_le z dn), dne, hn₅⟩))
theorem err_made (T : ErrTxt prog K mg x qual C fI cc cda) : Mkd prog w K mg C ["word"] (fun vs => ∃ v, vs = [v] ∧ okS v) := by
  intro A s R vs us rl hok X hlim G B hh hroom hq
  obtain ⟨v, rfl, ov⟩ := hok
  cases rl with
  | cons rv rn =>
  rename_i u us'
  cases rn
  obtain ⟨nm, q, N, bs, bm, sn, sub, ab, col, dd, k0, k1, k2, k3, k5, hC, hbm⟩ := T.cls
  obtain ⟨hp, g, dr, tk, os⟩ := s
  have k : ∀ b o, hp.get? b = some o → ((hp.push (kdv_tup [u])).push (excO C hp.objs.size)).get? b = some o := fun b o e => Heap.get?_push_of_some _ (Heap.get?_push_of_some _ e)
  have hget : ((hp.push (kdv_tup [u])).push (excO C hp.objs.size)).get? (hp.objs.size + 1) = some (excO C hp.objs.size) := by heap_get
  have hnx : K.lookup (hp.objs.size + 1) = none := by
    cases e : K.lookup (hp.objs.size + 1) with
    | none => rfl
    | some o =>
      have z : hp.get? (hp.objs.size + 1) = some o := X _ _ e
      exact absurd (Nat.lt_of_succ_lt (Heap.lt_size z)) (Nat.lt_irrefl _)
  refine call_own F.excBase_ValueError (fun X => refsVE_contains X bm hbm) (X _ _ hC) (looks_findIn X T.iC) (fun self => bind_fn X self T.tC) (one_size u) ?_
  obtain ⟨mb, B1, B2⟩ := B
  refine err_init (s := ⟨(hp.push (kdv_tup [u])).push (excO C hp.objs.size), g, dr, tk, os⟩) T (X.keeps k) (hlim.keeps k) (G.keeps k) ⟨mb, B1.keeps k, B2⟩ hget hnx ?_ ?_ (okS_ok rv ov) fun h' tk' dx t1 ⟨k', hx, dn, dne, hns⟩ => ?_
  · exact hh
  · show A.depth + 1 < recursionLimit
    exact hroom
  · have old : ∀ b o, hp.get? b = some o → h'.get? b = some o := fun b o e => k' b o (Nat.ne_of_lt (Nat.lt_succ_of_lt (Heap.lt_size e))) (k b o e)
    have z : hp.objs.size + 1 + 1 ≤ dx := by
      first
        | (simpa only [Heap.size_push] using dn)
        | exact dn
        | (have q := dn; rw [Heap.size_push, Heap.size_push] at q; exact q)
    refine ⟨rfl, hq h' tk' (hp.objs.size + 1) dx ⟨old, Nat.le_succ _, ⟨_, _, hx, rfl, rfl, rfl, rfl, rfl⟩, Nat.le_trans (Nat.le_trans (Nat.le_succ _) (Nat.le_succ _)) z, dne, ?_⟩⟩
    have ef : (fun y : Str => List.lookup y ([(PySem.Str.ofString "word" : Str)].zip [u])) = fun y => if y = PySem.Str.ofString "word" then some u else none := by
      funext y
      by_cases h : y = PySem.Str.ofString "word"
      · simp [List.lookup, h]
      · have h2 : (y == PySem.Str.ofString "word") = false := by simpa using h
        simp [List.lookup, h, h2]
    rw [ef]
    exact hns
def p1Of (st : Stmt) : Pos := match (L2.defArgs st).args with | [a, _] => a.pos | _ => ⟨0, 0, 0, 0⟩
def p2Of (st : Stmt) : Pos := match (L2.defArgs st).args with | [_, a] => a.pos | _ => ⟨0, 0, 0, 0⟩
def qOf (st : Stmt) : Nat → Pos := match L2.defBody st with
  | [.Expr (.Call (.Attribute (.Call (.Name _ q0) _ _ q1) _ q2) [.Call (.Name _ q3) [.Name _ q4] _ q5] _ q6) q7, .Assign [.Attribute (.Name _ q8) _ q9] (.Name _ q10) q11] =>
    fun n => [q0, q1, q2, q3, q4, q5, q6, q7, q8, q9, q10, q11].getD n ⟨0, 0, 0, 0⟩
  | _ => fun _ => ⟨0, 0, 0, 0⟩
theorem err_mk (st : Stmt) {h : Heap} {nm q : Str} {N : Addr} {bs bm : List Value} {sn : List Str} {sub : List Value} {ab : Bool} {col : Option Bool} {dd : Option Addr} {k0 k1 k2 k3 k5 : Option Value} {oc : Value} {od : Option Addr} {doc pm : Value} {an : Option Addr} {ct : Value} {osl : Array (Option Value)}
    {cl : Value} {cld : Option Addr} {csl : Array (Option Value)} {ccl : Value} {cdd : Option Addr} {vs : Array Value} {ccs : Array (Option Value)} {file : Str} {tf : Tok}
    (X : K.In h) (G : h.Ns mainGlobals mg) (aC : nsIn K mainGlobals x = some (some (.ref C))) (xL : K.lookup C = some (excClassObj nm q C N bs bm true sn sub ab col dd k0 k1 k2 k3 k5 "ValueError.__new__")) (bmv : refsVE bm = true)
    (sup : ks_superIn K C C "__init__" = some (some (.builtin "ValueError.__init__"))) (sa : findIn K (.ref C) "__setattr__" = some (some (.builtin "object.__setattr__"))) (no : findIn K (.ref C) "word" = some none)
    (a1 : findIn K (.ref C) "__init__" = some (some (.ref fI))) (t1 : typeIn K (.ref fI) = some (.type "function")) (kC : keepIn K (.ref C) = true) (eC : subIn K (.ref C) (.type "BaseException") = some true) (vC : subIn K (.ref C) (.type "ValueError") = some true)
    (tC : typeIn K (.ref C) = some (.type "type")) (own : mroIn K C (.ref C) = some true) (tp : nsIn K cStatics "thirdparty.any" = some none) (dg : nsIn K cStatics "sys.int_max_str_digits" = some none) (nsup : nsIn K mainGlobals "super" = some none) (nstr : nsIn K mainGlobals "str" = some none)
    (hst : L2.defArgs st = eA (p1Of st) (p2Of st) ∧ L2.defBody st = eB (qOf st) ∧ L2.defScope st = eS)
    (l1 : K.lookup fI = some ⟨oc, od, .func (ksFn "__init__" qual (L2.defArgs st) (L2.defBody st) (L2.defScope st) .none .none doc pm an (.ref cda) ct cc), osl⟩) (c1 : codeIn K (.ref cda) qual = true) (mc : MC (qOf st)) (ac : AC (qOf st))
    (ce : K.lookup cc = some ⟨cl, cld, .cell (some (.ref C)), csl⟩) (co : K.lookup cda = some ⟨ccl, cdd, .fields vs, ccs⟩) (cf : vs[2]? = some (.str file tf)) (cg : ((prog.main.file : Str) == file) = true) (top : (prog.main.scope.names.lookup ("super" : Str)).isSome = false)
    (hg : findIn K (.ref C) "__getattribute__" = some (some (.builtin "BaseException.__getattribute__"))) (hk : findIn K (.ref C) "__getattr__" = some none) (hd : hasDictIn K C = true) (ha : findIn K (.ref C) "__class__" = some (some (.builtin "object.__class__")))
    (hn : specialIn K (.builtin "object.__class__") "__get__" = some (some (.builtin "getset_descriptor.__get__"))) (ht : takesIn K (.builtin "object.__class__") = some true) (hm : mroIn K C (.type "object") = some true) :
    KW.ErrC prog w K mg x C ["word"] (fun vs => ∃ v, vs = [v] ∧ okS v) := by
  have T : ErrTxt prog K mg x qual C fI cc cda :=
    { gC := mg_of X G aC, cls := ⟨nm, q, N, bs, bm, sn, sub, ab, col, dd, k0, k1, k2, k3, k5, xL, bmv⟩, sup := sup, sa := sa, noN := no, iC := a1, tC := t1, kC := kC, exC := eC, veC := vC, tyC := tC, own := own, tp := tp, dg := dg,
      nsup := mg_none_of X G nsup, nstr := mg_none_of X G nstr,
      fn := ⟨oc, od, doc, pm, an, ct, osl, p1Of st, p2Of st, qOf st, by rw [← hst.1, ← hst.2.1, ← hst.2.2]; exact l1, c1, mc, ac⟩,
      cell := ⟨cl, cld, csl, ce⟩, code := ⟨ccl, cdd, vs, ccs, file, tf, co, cf, cg⟩, top := top }
  exact ⟨T.gC, err_made T, kC, eC, tC, ⟨hg, hk, eC, hd⟩, ⟨hg, hk, eC, hd, ha, hn, ht, hm⟩, fun f hf => by cases hf with | head => exact no | tail _ z => cases z⟩
end
end KErr_word
end PySem

set_option Elab.async false
set_option linter.all false
set_option maxRecDepth 100000
set_option maxHeartbeats 4000000
namespace K64
open PySem PySem.Spec PyProof.Rows L2 KW
def topS (i : Nat) : Stmt := PySem.Challenge.pw_kilnwarden_k64_best_paths.main.body.getD i (.Pass ⟨0, 0, 0, 0⟩)

theorem lit_0 : (PySem.Str.ofString "open") = S [111, 112, 101, 110] := by decide +kernel
abbrev s_BadWord_init : Stmt := inClass (topS 3) 0
abbrev s_NoRoom_init : Stmt := inClass (topS 4) 0
abbrev s_NoNumber_init : Stmt := inClass (topS 5) 0
abbrev s_Wrong_init : Stmt := inClass (topS 6) 0
abbrev s_is_ref : Stmt := topS 9
abbrev N_is_ref : List Str := ["word"]
theorem sc_is_ref : FnScope N_is_ref ["word"] (defScope s_is_ref) := ⟨rfl, rfl, rfl, by decide +kernel, rfl, by decide +kernel, by decide +kernel⟩
abbrev s_ref_of : Stmt := topS 10
abbrev N_ref_of : List Str := ["word"]
theorem sc_ref_of : FnScope N_ref_of ["word"] (defScope s_ref_of) := ⟨rfl, rfl, rfl, by decide +kernel, rfl, by decide +kernel, by decide +kernel⟩
abbrev s_reached : Stmt := topS 12
abbrev N_reached : List Str := ["store", "roots", "found", "waiting", "word", "number"]
theorem sc_reached : FnScope N_reached ["store", "roots"] (defScope s_reached) := ⟨rfl, rfl, rfl, by decide +kernel, rfl, by decide +kernel, by decide +kernel⟩
abbrev s_collect : Stmt := topS 13
abbrev N_collect : List Str := ["store", "roots", "found", "gone", "number"]
theorem sc_collect : FnScope N_collect ["store", "roots"] (defScope s_collect) := ⟨rfl, rfl, rfl, by decide +kernel, rfl, by decide +kernel, by decide +kernel⟩
abbrev s_object_of : Stmt := topS 16
abbrev N_object_of : List Str := ["space", "word"]
theorem sc_object_of : FnScope N_object_of ["space", "word"] (defScope s_object_of) := ⟨rfl, rfl, rfl, by decide +kernel, rfl, by decide +kernel, by decide +kernel⟩
abbrev s_row_of : Stmt := topS 17
abbrev N_row_of : List Str := ["space", "number"]
theorem sc_row_of : FnScope N_row_of ["space", "number"] (defScope s_row_of) := ⟨rfl, rfl, rfl, by decide +kernel, rfl, by decide +kernel, by decide +kernel⟩
abbrev s_word_at : Stmt := topS 18
abbrev N_word_at : List Str := ["space", "path", "row", "word", "k", "number"]
theorem sc_word_at : FnScope N_word_at ["space", "path"] (defScope s_word_at) := ⟨rfl, rfl, rfl, by decide +kernel, rfl, by decide +kernel, by decide +kernel⟩
abbrev s_paths : Stmt := topS 19
abbrev N_paths : List Str := ["space", "found", "words", "waiting", "k", "later", "path", "word", "number", "row"]
theorem sc_paths : FnScope N_paths ["space"] (defScope s_paths) := ⟨rfl, rfl, rfl, by decide +kernel, rfl, by decide +kernel, by decide +kernel⟩
abbrev s_garbage : Stmt := topS 20
abbrev N_garbage : List Str := ["space", "found", "number"]
theorem sc_garbage : FnScope N_garbage ["space"] (defScope s_garbage) := ⟨rfl, rfl, rfl, by decide +kernel, rfl, by decide +kernel, by decide +kernel⟩
abbrev s_Store_init : Stmt := inClass (topS 23) 0
abbrev N_Store_init : List Str := ["self", "room", "entries"]
theorem sc_Store_init : FnScope N_Store_init ["self", "room", "entries"] (defScope s_Store_init) := ⟨rfl, rfl, rfl, by decide +kernel, rfl, by decide +kernel, by decide +kernel⟩
abbrev s_Store_exists : Stmt := inClass (topS 23) 2
abbrev N_Store_exists : List Str := ["self", "number"]
theorem sc_Store_exists : FnScope N_Store_exists ["self", "number"] (defScope s_Store_exists) := ⟨rfl, rfl, rfl, by decide +kernel, rfl, by decide +kernel, by decide +kernel⟩
abbrev s_Store_numbers : Stmt := inClass (topS 23) 3
abbrev N_Store_numbers : List Str := ["self"]
theorem sc_Store_numbers : FnScope N_Store_numbers ["self"] (defScope s_Store_numbers) := ⟨rfl, rfl, rfl, by decide +kernel, rfl, by decide +kernel, by decide +kernel⟩
abbrev s_Store_free_number : Stmt := inClass (topS 23) 4
abbrev N_Store_free_number : List Str := ["self"]
theorem sc_Store_free_number : FnScope N_Store_free_number ["self"] (defScope s_Store_free_number) := ⟨rfl, rfl, rfl, by decide +kernel, rfl, by decide +kernel, by decide +kernel⟩
abbrev s_Store_allocate : Stmt := inClass (topS 23) 5
abbrev N_Store_allocate : List Str := ["self", "kind", "size", "number"]
theorem sc_Store_allocate : FnScope N_Store_allocate ["self", "kind", "size"] (defScope s_Store_allocate) := ⟨rfl, rfl, rfl, by decide +kernel, rfl, by decide +kernel, by decide +kernel⟩
abbrev s_Store_size : Stmt := inClass (topS 23) 6
abbrev N_Store_size : List Str := ["self", "number"]
theorem sc_Store_size : FnScope N_Store_size ["self", "number"] (defScope s_Store_size) := ⟨rfl, rfl, rfl, by decide +kernel, rfl, by decide +kernel, by decide +kernel⟩
abbrev s_Store_kind : Stmt := inClass (topS 23) 7
abbrev N_Store_kind : List Str := ["self", "number"]
theorem sc_Store_kind : FnScope N_Store_kind ["self", "number"] (defScope s_Store_kind) := ⟨rfl, rfl, rfl, by decide +kernel, rfl, by decide +kernel, by decide +kernel⟩
abbrev s_Store_get : Stmt := inClass (topS 23) 9
abbrev N_Store_get : List Str := ["self", "number", "at"]
theorem sc_Store_get : FnScope N_Store_get ["self", "number", "at"] (defScope s_Store_get) := ⟨rfl, rfl, rfl, by decide +kernel, rfl, by decide +kernel, by decide +kernel⟩
abbrev s_Store_put : Stmt := inClass (topS 23) 10
abbrev N_Store_put : List Str := ["self", "number", "at", "word"]
theorem sc_Store_put : FnScope N_Store_put ["self", "number", "at", "word"] (defScope s_Store_put) := ⟨rfl, rfl, rfl, by decide +kernel, rfl, by decide +kernel, by decide +kernel⟩
abbrev s_Store_slots : Stmt := inClass (topS 23) 11
abbrev N_Store_slots : List Str := ["self", "number", "place"]
theorem sc_Store_slots : FnScope N_Store_slots ["self", "number"] (defScope s_Store_slots) := ⟨rfl, rfl, rfl, by decide +kernel, rfl, by decide +kernel, by decide +kernel⟩
abbrev s_Store_drop : Stmt := inClass (topS 23) 12
abbrev N_Store_drop : List Str := ["self", "number"]
theorem sc_Store_drop : FnScope N_Store_drop ["self", "number"] (defScope s_Store_drop) := ⟨rfl, rfl, rfl, by decide +kernel, rfl, by decide +kernel, by decide +kernel⟩
abbrev s_Store_close_up : Stmt := inClass (topS 23) 13
abbrev N_Store_close_up : List Str := ["self", "words", "places", "old", "number", "place"]
theorem sc_Store_close_up : FnScope N_Store_close_up ["self"] (defScope s_Store_close_up) := ⟨rfl, rfl, rfl, by decide +kernel, rfl, by decide +kernel, by decide +kernel⟩
abbrev s_Space_init : Stmt := inClass (topS 26) 0
abbrev N_Space_init : List Str := ["self", "room", "entries"]
theorem sc_Space_init : FnScope N_Space_init ["self", "room", "entries"] (defScope s_Space_init) := ⟨rfl, rfl, rfl, by decide +kernel, rfl, by decide +kernel, by decide +kernel⟩
abbrev s_Space_root : Stmt := inClass (topS 26) 2
abbrev N_Space_root : List Str := ["self", "k"]
theorem sc_Space_root : FnScope N_Space_root ["self", "k"] (defScope s_Space_root) := ⟨rfl, rfl, rfl, by decide +kernel, rfl, by decide +kernel, by decide +kernel⟩
abbrev s_Space_set_root : Stmt := inClass (topS 26) 3
abbrev N_Space_set_root : List Str := ["self", "k", "word"]
theorem sc_Space_set_root : FnScope N_Space_set_root ["self", "k", "word"] (defScope s_Space_set_root) := ⟨rfl, rfl, rfl, by decide +kernel, rfl, by decide +kernel, by decide +kernel⟩
abbrev s_Space_hold : Stmt := inClass (topS 26) 4
abbrev N_Space_hold : List Str := ["self", "word"]
theorem sc_Space_hold : FnScope N_Space_hold ["self", "word"] (defScope s_Space_hold) := ⟨rfl, rfl, rfl, by decide +kernel, rfl, by decide +kernel, by decide +kernel⟩
abbrev s_Space_drop : Stmt := inClass (topS 26) 5
abbrev N_Space_drop : List Str := ["self", "count"]
theorem sc_Space_drop : FnScope N_Space_drop ["self", "count"] (defScope s_Space_drop) := ⟨rfl, rfl, rfl, by decide +kernel, rfl, by decide +kernel, by decide +kernel⟩
abbrev s_Space_held : Stmt := inClass (topS 26) 6
abbrev N_Space_held : List Str := ["self"]
theorem sc_Space_held : FnScope N_Space_held ["self"] (defScope s_Space_held) := ⟨rfl, rfl, rfl, by decide +kernel, rfl, by decide +kernel, by decide +kernel⟩
abbrev s_Space_all_roots : Stmt := inClass (topS 26) 7
abbrev N_Space_all_roots : List Str := ["self"]
theorem sc_Space_all_roots : FnScope N_Space_all_roots ["self"] (defScope s_Space_all_roots) := ⟨rfl, rfl, rfl, by decide +kernel, rfl, by decide +kernel, by decide +kernel⟩
abbrev s_Space_collect : Stmt := inClass (topS 26) 8
abbrev N_Space_collect : List Str := ["self"]
theorem sc_Space_collect : FnScope N_Space_collect ["self"] (defScope s_Space_collect) := ⟨rfl, rfl, rfl, by decide +kernel, rfl, by decide +kernel, by decide +kernel⟩
abbrev s_Space_collect_with : Stmt := inClass (topS 26) 9
abbrev N_Space_collect_with : List Str := ["self", "word"]
theorem sc_Space_collect_with : FnScope N_Space_collect_with ["self", "word"] (defScope s_Space_collect_with) := ⟨rfl, rfl, rfl, by decide +kernel, rfl, by decide +kernel, by decide +kernel⟩
abbrev s_Space_new : Stmt := inClass (topS 26) 11
abbrev N_Space_new : List Str := ["self", "kind", "size"]
theorem sc_Space_new : FnScope N_Space_new ["self", "kind", "size"] (defScope s_Space_new) := ⟨rfl, rfl, rfl, by decide +kernel, rfl, by decide +kernel, by decide +kernel⟩
abbrev s_Space_fitted : Stmt := inClass (topS 26) 12
abbrev N_Space_fitted : List Str := ["self", "kind", "size"]
theorem sc_Space_fitted : FnScope N_Space_fitted ["self", "kind", "size"] (defScope s_Space_fitted) := ⟨rfl, rfl, rfl, by decide +kernel, rfl, by decide +kernel, by decide +kernel⟩
abbrev s__law_number : Stmt := topS 28
abbrev N__law_number : List Str := ["cell", "k", "mixed"]
theorem sc__law_number : FnScope N__law_number ["cell", "k"] (defScope s__law_number) := ⟨rfl, rfl, rfl, by decide +kernel, rfl, by decide +kernel, by decide +kernel⟩
abbrev s__law_word : Stmt := topS 29
abbrev N__law_word : List Str := ["x", "many", "rest"]
theorem sc__law_word : FnScope N__law_word ["x", "many"] (defScope s__law_word) := ⟨rfl, rfl, rfl, by decide +kernel, rfl, by decide +kernel, by decide +kernel⟩
abbrev s__law_is : Stmt := topS 30
abbrev N__law_is : List Str := ["actual", "due"]
theorem sc__law_is : FnScope N__law_is ["actual", "due"] (defScope s__law_is) := ⟨rfl, rfl, rfl, by decide +kernel, rfl, by decide +kernel, by decide +kernel⟩
abbrev s__law_same : Stmt := topS 31
abbrev N__law_same : List Str := ["actual", "due", "k"]
theorem sc__law_same : FnScope N__law_same ["actual", "due"] (defScope s__law_same) := ⟨rfl, rfl, rfl, by decide +kernel, rfl, by decide +kernel, by decide +kernel⟩
abbrev s__law_sizes : Stmt := topS 32
abbrev N__law_sizes : List Str := ["x", "count", "rest", "sizes", "k", "y"]
theorem sc__law_sizes : FnScope N__law_sizes ["x"] (defScope s__law_sizes) := ⟨rfl, rfl, rfl, by decide +kernel, rfl, by decide +kernel, by decide +kernel⟩
abbrev s__law_rows : Stmt := topS 33
abbrev N__law_rows : List Str := ["sizes", "x", "rows", "rest", "k", "y", "row", "at"]
theorem sc__law_rows : FnScope N__law_rows ["sizes", "x"] (defScope s__law_rows) := ⟨rfl, rfl, rfl, by decide +kernel, rfl, by decide +kernel, by decide +kernel⟩
abbrev s__law_roots : Stmt := topS 34
abbrev N__law_roots : List Str := ["many", "x", "words", "rest", "k", "y"]
theorem sc__law_roots : FnScope N__law_roots ["many", "x"] (defScope s__law_roots) := ⟨rfl, rfl, rfl, by decide +kernel, rfl, by decide +kernel, by decide +kernel⟩
abbrev s__law_space : Stmt := topS 35
abbrev N__law_space : List Str := ["rows", "words", "space", "k", "at"]
theorem sc__law_space : FnScope N__law_space ["rows", "words"] (defScope s__law_space) := ⟨rfl, rfl, rfl, by decide +kernel, rfl, by decide +kernel, by decide +kernel⟩
abbrev s__law_walk : Stmt := topS 36
abbrev N__law_walk : List Str := ["rows", "words", "path", "row", "word", "k"]
theorem sc__law_walk : FnScope N__law_walk ["rows", "words", "path"] (defScope s__law_walk) := ⟨rfl, rfl, rfl, by decide +kernel, rfl, by decide +kernel, by decide +kernel⟩
abbrev s__law_extended : Stmt := topS 37
abbrev N__law_extended : List Str := ["rows", "found", "paths_here", "later", "number", "step"]
theorem sc__law_extended : FnScope N__law_extended ["rows", "found", "paths_here"] (defScope s__law_extended) := ⟨rfl, rfl, rfl, by decide +kernel, rfl, by decide +kernel, by decide +kernel⟩
abbrev s__law_best : Stmt := topS 38
abbrev N__law_best : List Str := ["rows", "words", "found", "row", "waiting", "k", "length", "pair", "number"]
theorem sc__law_best : FnScope N__law_best ["rows", "words"] (defScope s__law_best) := ⟨rfl, rfl, rfl, by decide +kernel, rfl, by decide +kernel, by decide +kernel⟩
abbrev s__law_path_is : Stmt := topS 39
abbrev N__law_path_is : List Str := ["told", "due", "k"]
theorem sc__law_path_is : FnScope N__law_path_is ["told", "due"] (defScope s__law_path_is) := ⟨rfl, rfl, rfl, by decide +kernel, rfl, by decide +kernel, by decide +kernel⟩
abbrev s__law_told : Stmt := topS 40
abbrev N__law_told : List Str := ["space", "rows", "words", "path", "due", "told"]
theorem sc__law_told : FnScope N__law_told ["space", "rows", "words", "path"] (defScope s__law_told) := ⟨rfl, rfl, rfl, by decide +kernel, rfl, by decide +kernel, by decide +kernel⟩
abbrev s__law_drawn : Stmt := topS 41
abbrev N__law_drawn : List Str := ["x", "rows", "words", "path", "row", "rest", "k", "step", "word"]
theorem sc__law_drawn : FnScope N__law_drawn ["x", "rows", "words"] (defScope s__law_drawn) := ⟨rfl, rfl, rfl, by decide +kernel, rfl, by decide +kernel, by decide +kernel⟩
abbrev s__law_kept : Stmt := topS 42
abbrev N__law_kept : List Str := ["space", "rows", "words", "k", "numbers"]
theorem sc__law_kept : FnScope N__law_kept ["space", "rows", "words"] (defScope s__law_kept) := ⟨rfl, rfl, rfl, by decide +kernel, rfl, by decide +kernel, by decide +kernel⟩
abbrev s__law_long : Stmt := topS 43
abbrev N__law_long : List Str := ["x", "space", "many", "due", "path", "k", "size", "at", "told", "number"]
theorem sc__law_long : FnScope N__law_long ["x"] (defScope s__law_long) := ⟨rfl, rfl, rfl, by decide +kernel, rfl, by decide +kernel, by decide +kernel⟩
abbrev s_law : Stmt := topS 44
abbrev N_law : List Str := ["script", "cells", "cell", "x", "rows", "words", "space", "due", "told", "number", "k"]
theorem sc_law : FnScope N_law ["script"] (defScope s_law) := ⟨rfl, rfl, rfl, by decide +kernel, rfl, by decide +kernel, by decide +kernel⟩
structure Ads where
  KilnwardenError : Addr
  BadWord : Addr
  NoRoom : Addr
  NoNumber : Addr
  Wrong : Addr
  Store : Addr
  Space : Addr
  c_Store_close_up : Addr
  p_Store_close_up : Addr
structure Txt (P : Program) (w : World) (K : Frag) (mg : Str → Option Value) (a : Ads) : Prop where
  g_KilnwardenError : mg "KilnwardenError" = some (.ref a.KilnwardenError)
  g_BadWord : mg "BadWord" = some (.ref a.BadWord)
  g_NoRoom : mg "NoRoom" = some (.ref a.NoRoom)
  g_NoNumber : mg "NoNumber" = some (.ref a.NoNumber)
  g_Wrong : mg "Wrong" = some (.ref a.Wrong)
  g_Store : mg "Store" = some (.ref a.Store)
  g_Space : mg "Space" = some (.ref a.Space)
  e_BadWord : ErrC P w K mg "BadWord" a.BadWord ["word"] (fun vs => ∃ v, vs = [v] ∧ PySem.KErr.okS v)
  x_BadWord_NoNumber : PySem.W.exmOne K (.ref a.BadWord) (.ref a.NoNumber) = some false
  x_BadWord_NoRoom : PySem.W.exmOne K (.ref a.BadWord) (.ref a.NoRoom) = some false
  e_NoRoom : ErrC P w K mg "NoRoom" a.NoRoom ["need"] (fun vs => ∃ v, vs = [v] ∧ PySem.KErr.okS v)
  x_NoRoom_NoNumber : PySem.W.exmOne K (.ref a.NoRoom) (.ref a.NoNumber) = some false
  x_NoRoom_NoRoom : PySem.W.exmOne K (.ref a.NoRoom) (.ref a.NoRoom) = some true
  e_NoNumber : ErrC P w K mg "NoNumber" a.NoNumber ["limit"] (fun vs => ∃ v, vs = [v] ∧ PySem.KErr.okS v)
  x_NoNumber_NoNumber : PySem.W.exmOne K (.ref a.NoNumber) (.ref a.NoNumber) = some true
  x_NoNumber_NoRoom : PySem.W.exmOne K (.ref a.NoNumber) (.ref a.NoRoom) = some false
  e_Wrong : ErrC P w K mg "Wrong" a.Wrong ["why"] (fun vs => ∃ v, vs = [v] ∧ PySem.KErr.okS v)
  x_Wrong_NoNumber : PySem.W.exmOne K (.ref a.Wrong) (.ref a.NoNumber) = some false
  x_Wrong_NoRoom : PySem.W.exmOne K (.ref a.Wrong) (.ref a.NoRoom) = some false
  c_Store : ClsA K mg "Store" a.Store ["room", "entries", "words", "_places", "_least"]
  c_Space : ClsA K mg "Space" a.Space ["store", "pressure", "always", "allocations", "collections", "_roots", "_held", "_saved"]
  ini_Store : IniAt K a.Store "Store.__init__" s_Store_init ["self", "room", "entries"] []
  m_Store_exists : MetAt K a.Store "exists" "Store.exists" s_Store_exists ["self", "number"]
  m_Store_numbers : MetAt K a.Store "numbers" "Store.numbers" s_Store_numbers ["self"]
  m_Store_free_number : MetAt K a.Store "free_number" "Store.free_number" s_Store_free_number ["self"]
  m_Store_allocate : MetAt K a.Store "allocate" "Store.allocate" s_Store_allocate ["self", "kind", "size"]
  m_Store_size : MetAt K a.Store "size" "Store.size" s_Store_size ["self", "number"]
  m_Store_kind : MetAt K a.Store "kind" "Store.kind" s_Store_kind ["self", "number"]
  m_Store_get : MetAt K a.Store "get" "Store.get" s_Store_get ["self", "number", "at"]
  m_Store_put : MetAt K a.Store "put" "Store.put" s_Store_put ["self", "number", "at", "word"]
  m_Store_slots : MetAt K a.Store "slots" "Store.slots" s_Store_slots ["self", "number"]
  m_Store_drop : MetAt K a.Store "drop" "Store.drop" s_Store_drop ["self", "number"]
  m_Store_close_up : MetAtC K a.Store "close_up" "Store.close_up" s_Store_close_up ["self"] a.c_Store_close_up
  kd_Store_close_up : PySem.W.codeHdIn K a.c_Store_close_up a.p_Store_close_up = true
  kn_Store_close_up : K.lookup a.p_Store_close_up = none
  ini_Space : IniAt K a.Space "Space.__init__" s_Space_init ["self", "room", "entries"] []
  m_Space_root : MetAt K a.Space "root" "Space.root" s_Space_root ["self", "k"]
  m_Space_set_root : MetAt K a.Space "set_root" "Space.set_root" s_Space_set_root ["self", "k", "word"]
  m_Space_hold : MetAt K a.Space "hold" "Space.hold" s_Space_hold ["self", "word"]
  m_Space_drop : MetAt K a.Space "drop" "Space.drop" s_Space_drop ["self", "count"]
  m_Space_held : MetAt K a.Space "held" "Space.held" s_Space_held ["self"]
  m_Space_all_roots : MetAt K a.Space "all_roots" "Space.all_roots" s_Space_all_roots ["self"]
  m_Space_collect : MetAt K a.Space "collect" "Space.collect" s_Space_collect ["self"]
  m_Space_collect_with : MetAt K a.Space "collect_with" "Space.collect_with" s_Space_collect_with ["self", "word"]
  m_Space_new : MetAt K a.Space "new" "Space.new" s_Space_new ["self", "kind", "size"]
  m_Space_fitted : MetAt K a.Space "fitted" "Space.fitted" s_Space_fitted ["self", "kind", "size"]
  n_bool : mg "bool" = none
  n_dict : mg "dict" = none
  n_int : mg "int" = none
  n_isinstance : mg "isinstance" = none
  n_len : mg "len" = none
  n_list : mg "list" = none
  n_min : mg "min" = none
  n_range : mg "range" = none
  n_sorted : mg "sorted" = none
  n_tuple : mg "tuple" = none
  g_NIL : GV mg "NIL" (.int (0))
  -- constant collect_collecting
  g_HEADER : GV mg "HEADER" (.int (3))
  g_ROOTS : GV mg "ROOTS" (.int (16))
  d_is_ref : DefAt K mg "is_ref" "is_ref" s_is_ref ["word"]
  d_ref_of : DefAt K mg "ref_of" "ref_of" s_ref_of ["word"]
  d_reached : DefAt K mg "reached" "reached" s_reached ["store", "roots"]
  d_collect : DefAt K mg "collect" "collect" s_collect ["store", "roots"]
  d_object_of : DefAt K mg "object_of" "object_of" s_object_of ["space", "word"]
  d_row_of : DefAt K mg "row_of" "row_of" s_row_of ["space", "number"]
  d_word_at : DefAt K mg "word_at" "word_at" s_word_at ["space", "path"]
  d_paths : DefAt K mg "paths" "paths" s_paths ["space"]
  d_garbage : DefAt K mg "garbage" "garbage" s_garbage ["space"]
  d__law_number : DefAt K mg "_law_number" "_law_number" s__law_number ["cell", "k"]
  d__law_word : DefAt K mg "_law_word" "_law_word" s__law_word ["x", "many"]
  d__law_is : DefAt K mg "_law_is" "_law_is" s__law_is ["actual", "due"]
  d__law_same : DefAt K mg "_law_same" "_law_same" s__law_same ["actual", "due"]
  d__law_sizes : DefAt K mg "_law_sizes" "_law_sizes" s__law_sizes ["x"]
  d__law_rows : DefAt K mg "_law_rows" "_law_rows" s__law_rows ["sizes", "x"]
  d__law_roots : DefAt K mg "_law_roots" "_law_roots" s__law_roots ["many", "x"]
  d__law_space : DefAt K mg "_law_space" "_law_space" s__law_space ["rows", "words"]
  d__law_walk : DefAt K mg "_law_walk" "_law_walk" s__law_walk ["rows", "words", "path"]
  d__law_extended : DefAt K mg "_law_extended" "_law_extended" s__law_extended ["rows", "found", "paths_here"]
  d__law_best : DefAt K mg "_law_best" "_law_best" s__law_best ["rows", "words"]
  d__law_path_is : DefAt K mg "_law_path_is" "_law_path_is" s__law_path_is ["told", "due"]
  d__law_told : DefAt K mg "_law_told" "_law_told" s__law_told ["space", "rows", "words", "path"]
  d__law_drawn : DefAt K mg "_law_drawn" "_law_drawn" s__law_drawn ["x", "rows", "words"]
  d__law_kept : DefAt K mg "_law_kept" "_law_kept" s__law_kept ["space", "rows", "words"]
  d__law_long : DefAt K mg "_law_long" "_law_long" s__law_long ["x"]
  d_law : DefAt K mg "law" "law" s_law ["script"]
  d_collect_collecting : DefAtA K mg "collect_collecting" "collect" "collect" s_collect ["store", "roots"]
theorem fe_room_entries : ((PySem.Str.ofString "room" : Str) = PySem.Str.ofString "entries") = False := eq_false (by decide)
theorem fe_room_words : ((PySem.Str.ofString "room" : Str) = PySem.Str.ofString "words") = False := eq_false (by decide)
theorem fe_room__places : ((PySem.Str.ofString "room" : Str) = PySem.Str.ofString "_places") = False := eq_false (by decide)
theorem fe_room__least : ((PySem.Str.ofString "room" : Str) = PySem.Str.ofString "_least") = False := eq_false (by decide)
theorem fe_entries_room : ((PySem.Str.ofString "entries" : Str) = PySem.Str.ofString "room") = False := eq_false (by decide)
theorem fe_entries_words : ((PySem.Str.ofString "entries" : Str) = PySem.Str.ofString "words") = False := eq_false (by decide)
theorem fe_entries__places : ((PySem.Str.ofString "entries" : Str) = PySem.Str.ofString "_places") = False := eq_false (by decide)
theorem fe_entries__least : ((PySem.Str.ofString "entries" : Str) = PySem.Str.ofString "_least") = False := eq_false (by decide)
theorem fe_words_room : ((PySem.Str.ofString "words" : Str) = PySem.Str.ofString "room") = False := eq_false (by decide)
theorem fe_words_entries : ((PySem.Str.ofString "words" : Str) = PySem.Str.ofString "entries") = False := eq_false (by decide)
theorem fe_words__places : ((PySem.Str.ofString "words" : Str) = PySem.Str.ofString "_places") = False := eq_false (by decide)
theorem fe_words__least : ((PySem.Str.ofString "words" : Str) = PySem.Str.ofString "_least") = False := eq_false (by decide)
theorem fe__places_room : ((PySem.Str.ofString "_places" : Str) = PySem.Str.ofString "room") = False := eq_false (by decide)
theorem fe__places_entries : ((PySem.Str.ofString "_places" : Str) = PySem.Str.ofString "entries") = False := eq_false (by decide)
theorem fe__places_words : ((PySem.Str.ofString "_places" : Str) = PySem.Str.ofString "words") = False := eq_false (by decide)
theorem fe__places__least : ((PySem.Str.ofString "_places" : Str) = PySem.Str.ofString "_least") = False := eq_false (by decide)
theorem fe__least_room : ((PySem.Str.ofString "_least" : Str) = PySem.Str.ofString "room") = False := eq_false (by decide)
theorem fe__least_entries : ((PySem.Str.ofString "_least" : Str) = PySem.Str.ofString "entries") = False := eq_false (by decide)
theorem fe__least_words : ((PySem.Str.ofString "_least" : Str) = PySem.Str.ofString "words") = False := eq_false (by decide)
theorem fe__least__places : ((PySem.Str.ofString "_least" : Str) = PySem.Str.ofString "_places") = False := eq_false (by decide)
theorem fe_store_pressure : ((PySem.Str.ofString "store" : Str) = PySem.Str.ofString "pressure") = False := eq_false (by decide)
theorem fe_store_always : ((PySem.Str.ofString "store" : Str) = PySem.Str.ofString "always") = False := eq_false (by decide)
theorem fe_store_allocations : ((PySem.Str.ofString "store" : Str) = PySem.Str.ofString "allocations") = False := eq_false (by decide)
theorem fe_store_collections : ((PySem.Str.ofString "store" : Str) = PySem.Str.ofString "collections") = False := eq_false (by decide)
theorem fe_store__roots : ((PySem.Str.ofString "store" : Str) = PySem.Str.ofString "_roots") = False := eq_false (by decide)
theorem fe_store__held : ((PySem.Str.ofString "store" : Str) = PySem.Str.ofString "_held") = False := eq_false (by decide)
theorem fe_store__saved : ((PySem.Str.ofString "store" : Str) = PySem.Str.ofString "_saved") = False := eq_false (by decide)
theorem fe_pressure_store : ((PySem.Str.ofString "pressure" : Str) = PySem.Str.ofString "store") = False := eq_false (by decide)
theorem fe_pressure_always : ((PySem.Str.ofString "pressure" : Str) = PySem.Str.ofString "always") = False := eq_false (by decide)
theorem fe_pressure_allocations : ((PySem.Str.ofString "pressure" : Str) = PySem.Str.ofString "allocations") = False := eq_false (by decide)
theorem fe_pressure_collections : ((PySem.Str.ofString "pressure" : Str) = PySem.Str.ofString "collections") = False := eq_false (by decide)
theorem fe_pressure__roots : ((PySem.Str.ofString "pressure" : Str) = PySem.Str.ofString "_roots") = False := eq_false (by decide)
theorem fe_pressure__held : ((PySem.Str.ofString "pressure" : Str) = PySem.Str.ofString "_held") = False := eq_false (by decide)
theorem fe_pressure__saved : ((PySem.Str.ofString "pressure" : Str) = PySem.Str.ofString "_saved") = False := eq_false (by decide)
theorem fe_always_store : ((PySem.Str.ofString "always" : Str) = PySem.Str.ofString "store") = False := eq_false (by decide)
theorem fe_always_pressure : ((PySem.Str.ofString "always" : Str) = PySem.Str.ofString "pressure") = False := eq_false (by decide)
theorem fe_always_allocations : ((PySem.Str.ofString "always" : Str) = PySem.Str.ofString "allocations") = False := eq_false (by decide)
theorem fe_always_collections : ((PySem.Str.ofString "always" : Str) = PySem.Str.ofString "collections") = False := eq_false (by decide)
theorem fe_always__roots : ((PySem.Str.ofString "always" : Str) = PySem.Str.ofString "_roots") = False := eq_false (by decide)
theorem fe_always__held : ((PySem.Str.ofString "always" : Str) = PySem.Str.ofString "_held") = False := eq_false (by decide)
theorem fe_always__saved : ((PySem.Str.ofString "always" : Str) = PySem.Str.ofString "_saved") = False := eq_false (by decide)
theorem fe_allocations_store : ((PySem.Str.ofString "allocations" : Str) = PySem.Str.ofString "store") = False := eq_false (by decide)
theorem fe_allocations_pressure : ((PySem.Str.ofString "allocations" : Str) = PySem.Str.ofString "pressure") = False := eq_false (by decide)
theorem fe_allocations_always : ((PySem.Str.ofString "allocations" : Str) = PySem.Str.ofString "always") = False := eq_false (by decide)
theorem fe_allocations_collections : ((PySem.Str.ofString "allocations" : Str) = PySem.Str.ofString "collections") = False := eq_false (by decide)
theorem fe_allocations__roots : ((PySem.Str.ofString "allocations" : Str) = PySem.Str.ofString "_roots") = False := eq_false (by decide)
theorem fe_allocations__held : ((PySem.Str.ofString "allocations" : Str) = PySem.Str.ofString "_held") = False := eq_false (by decide)
theorem fe_allocations__saved : ((PySem.Str.ofString "allocations" : Str) = PySem.Str.ofString "_saved") = False := eq_false (by decide)
theorem fe_collections_store : ((PySem.Str.ofString "collections" : Str) = PySem.Str.ofString "store") = False := eq_false (by decide)
theorem fe_collections_pressure : ((PySem.Str.ofString "collections" : Str) = PySem.Str.ofString "pressure") = False := eq_false (by decide)
theorem fe_collections_always : ((PySem.Str.ofString "collections" : Str) = PySem.Str.ofString "always") = False := eq_false (by decide)
theorem fe_collections_allocations : ((PySem.Str.ofString "collections" : Str) = PySem.Str.ofString "allocations") = False := eq_false (by decide)
theorem fe_collections__roots : ((PySem.Str.ofString "collections" : Str) = PySem.Str.ofString "_roots") = False := eq_false (by decide)
theorem fe_collections__held : ((PySem.Str.ofString "collections" : Str) = PySem.Str.ofString "_held") = False := eq_false (by decide)
theorem fe_collections__saved : ((PySem.Str.ofString "collections" : Str) = PySem.Str.ofString "_saved") = False := eq_false (by decide)
theorem fe__roots_store : ((PySem.Str.ofString "_roots" : Str) = PySem.Str.ofString "store") = False := eq_false (by decide)
theorem fe__roots_pressure : ((PySem.Str.ofString "_roots" : Str) = PySem.Str.ofString "pressure") = False := eq_false (by decide)
theorem fe__roots_always : ((PySem.Str.ofString "_roots" : Str) = PySem.Str.ofString "always") = False := eq_false (by decide)
theorem fe__roots_allocations : ((PySem.Str.ofString "_roots" : Str) = PySem.Str.ofString "allocations") = False := eq_false (by decide)
theorem fe__roots_collections : ((PySem.Str.ofString "_roots" : Str) = PySem.Str.ofString "collections") = False := eq_false (by decide)
theorem fe__roots__held : ((PySem.Str.ofString "_roots" : Str) = PySem.Str.ofString "_held") = False := eq_false (by decide)
theorem fe__roots__saved : ((PySem.Str.ofString "_roots" : Str) = PySem.Str.ofString "_saved") = False := eq_false (by decide)
theorem fe__held_store : ((PySem.Str.ofString "_held" : Str) = PySem.Str.ofString "store") = False := eq_false (by decide)
theorem fe__held_pressure : ((PySem.Str.ofString "_held" : Str) = PySem.Str.ofString "pressure") = False := eq_false (by decide)
theorem fe__held_always : ((PySem.Str.ofString "_held" : Str) = PySem.Str.ofString "always") = False := eq_false (by decide)
theorem fe__held_allocations : ((PySem.Str.ofString "_held" : Str) = PySem.Str.ofString "allocations") = False := eq_false (by decide)
theorem fe__held_collections : ((PySem.Str.ofString "_held" : Str) = PySem.Str.ofString "collections") = False := eq_false (by decide)
theorem fe__held__roots : ((PySem.Str.ofString "_held" : Str) = PySem.Str.ofString "_roots") = False := eq_false (by decide)
theorem fe__held__saved : ((PySem.Str.ofString "_held" : Str) = PySem.Str.ofString "_saved") = False := eq_false (by decide)
theorem fe__saved_store : ((PySem.Str.ofString "_saved" : Str) = PySem.Str.ofString "store") = False := eq_false (by decide)
theorem fe__saved_pressure : ((PySem.Str.ofString "_saved" : Str) = PySem.Str.ofString "pressure") = False := eq_false (by decide)
theorem fe__saved_always : ((PySem.Str.ofString "_saved" : Str) = PySem.Str.ofString "always") = False := eq_false (by decide)
theorem fe__saved_allocations : ((PySem.Str.ofString "_saved" : Str) = PySem.Str.ofString "allocations") = False := eq_false (by decide)
theorem fe__saved_collections : ((PySem.Str.ofString "_saved" : Str) = PySem.Str.ofString "collections") = False := eq_false (by decide)
theorem fe__saved__roots : ((PySem.Str.ofString "_saved" : Str) = PySem.Str.ofString "_roots") = False := eq_false (by decide)
theorem fe__saved__held : ((PySem.Str.ofString "_saved" : Str) = PySem.Str.ofString "_held") = False := eq_false (by decide)
theorem Txt.ex {P : Program} {w : World} {K : Frag} {mg : Str → Option Value} {A_KilnwardenError : Addr} {A_BadWord : Addr} {A_NoRoom : Addr} {A_NoNumber : Addr} {A_Wrong : Addr} {A_Store : Addr} {A_Space : Addr} {A_c_Store_close_up : Addr} {A_p_Store_close_up : Addr} (h : Txt P w K mg ⟨A_KilnwardenError, A_BadWord, A_NoRoom, A_NoNumber, A_Wrong, A_Store, A_Space, A_c_Store_close_up, A_p_Store_close_up⟩) : ∃ a, Txt P w K mg a := ⟨_, h⟩
theorem Txt.exT {P : Program} {w : World} {K : Frag} {mg : Str → Option Value} {A_KilnwardenError : Addr} {A_BadWord : Addr} {A_NoRoom : Addr} {A_NoNumber : Addr} {A_Wrong : Addr} {A_Store : Addr} {A_Space : Addr} {A_c_Store_close_up : Addr} {A_p_Store_close_up : Addr} {hh : Heap} (h : Txt P w K mg ⟨A_KilnwardenError, A_BadWord, A_NoRoom, A_NoNumber, A_Wrong, A_Store, A_Space, A_c_Store_close_up, A_p_Store_close_up⟩) (hp : hh.get? A_p_Store_close_up = some { cls := .none, data := .fields #[] }) : ∃ a, Txt P w K mg a ∧ hh.get? a.p_Store_close_up = some { cls := .none, data := .fields #[] } := ⟨_, h, hp⟩
end K64

set_option Elab.async false
set_option linter.all false
set_option maxRecDepth 100000
set_option maxHeartbeats 4000000
namespace K64
open PySem PySem.Spec PyProof.Rows L2 KW ST
local macro_rules | `(tactic| walk_at "kw") => `(tactic| simp only [tSeq, tNext, tIfS, tTest, tAnd, tOr, tNot, tAndV, tOrV, tNotV, tIf, tChain, tOp, tUn, tC, tAsg, gName, gSub, gCons, gNil, tRet, tRetN, tDrop, tCons, tNil, tCB, tAug, tSl, tPart, tNoPart, tLst, tTup, tBM, tBM0, uTest, uFor, iRng1, iRng2, iList, uCall, List.map_cons, List.map_nil, List.length_cons, List.length_nil, List.cons_append, List.nil_append, List.replicate, Nat.zero_add, Nat.reduceAdd, Nat.reduceSub, List.getElem?_cons_zero, List.getElem?_cons_succ, List.set_cons_zero, List.set_cons_succ, V.bl.injEq, V.int.injEq, V.str.injEq, V.ref.injEq, V.ty.injEq, List.cons.injEq, and_true, true_and, exists_eq_left', exists_eq_right, exists_eq_left, exists_and_left, exists_and_right, decide_eq_true_eq, Bool.not_eq_true', decide_eq_false_iff_not, Bool.false_eq_true, if_true, if_false, ite_true, ite_false, Bool.not_true, Bool.not_false, reduceCtorEq, decide_true, decide_false, Bool.not_not, isK_int_int, isK_int_bool, isK_int_str, isK_int_list, isK_int_tuple, isK_bool_int, isK_bool_bool, isK_bool_str, isK_str_str, isK_str_int, isK_str_bool, isK_str_tuple, isK_str_list, isK_list_list, isK_list_tuple, isK_tuple_tuple, isK_tuple_list, isOk_int_int, isOk_int_bool, isOk_int_str, isOk_int_list, isOk_int_tuple, isOk_bool_int, isOk_bool_bool, isOk_bool_str, isOk_str_str, isOk_str_int, isOk_str_bool, isOk_str_tuple, isOk_str_list, isOk_list_list, isOk_list_tuple, isOk_tuple_tuple, isOk_tuple_list, isK_dict_dict, isOk_dict_dict, isK_none_int, isK_none_bool, isOk_none_int, isOk_none_bool, tyV, S_inj, S_cat, L2.start, Nat.reduceSub, List.replicate_succ, List.replicate_zero, and_assoc, List.append_nil, Nat.reduceEqDiff, Option.some.injEq, Int.natCast_inj, upd_upd, Int.reducePow, Int.reduceToNat, Int.reduceMul, Int.reduceAdd, Int.reduceSub, Int.reduceLT, Int.reduceLE, Int.reduceNeg, Int.reduceDiv, Int.reduceMod, Nat.reducePow, Nat.reduceMul, S_len, List.length_append, List.length_map, List.length_range, not_true_eq_false, not_false_eq_true, ne_eq, uAdd_e1, uAdd_e2, uSub_e1, uMod_e1, uDiv_e1, uPow_e1, uShl_e1, uNeg_e1, uIAdd_e1, uIAdd_e2, uIAdd_e3, uISub_e1, uLt_e1, uLt_e2, uLe_e1, uGt_e1, uGe_e1, uEq_e1, uEq_e2, uEq_e3, uEq_e4, uEq_e5, uEq_e6, uEq_e7, uEq_e8, uEq_e9, uEq_e10, uEq_e11, uNe_e1, uNe_e2, uNe_e3, uNe_e4, uNe_e5, uNe_e6, uNe_e7, uNe_e8, uNe_e9, uNe_e10, uNe_e11, uIs_e1, uIs_e2, uIs_e3, uIs_e4, uIs_e5, uIs_e6, uIs_e7, uNotIs_e1, uNotIs_e2, uNotIs_e3, uNotIs_e4, uNotIs_e5, uNotIs_e6, uIn_e1, uIn_e2, uIn_e3, uIn_e4, uNotIn_e1, uNotIn_e2, uNotIn_e3, uNotIn_e4, uTru_e1, uTru_e2, uTru_e3, uTru_e4, uIx_e2, uSl_e2, uLen_e1, uAbs_e1, uInt_e1, uInt_e2, uMin2_e1, uIsi_e1, uIsi_e2, uIsi_e3, uIsi_e4, cx_K, uVar_0, uVar_n, uFld, uSFld, uMet, uMake, tDG, tDI, tDNI, tDP, tDD, uMk, uRaise, uDelSl, tCallS, L2.WE, uStr_e1, uStr_e2, uMul2_e1, uMul2_e2, okS_i, okS_s, List.zip_cons_cons, List.zip_nil_left, List.drop_zero, List.drop_succ_cons, List.drop_nil, putF_nil, putF_cons, eq_self, tDNewK, tB, Option.isSome_some, Option.isSome_none, false_and, false_or, or_false, exists_false, Int.zero_add, uLc, wipe, tYes, isEmpty_app, List.isEmpty_cons, List.isEmpty_nil, List.isEmpty_map, Bool.and_false, Bool.and_true, iRev, K64.lit_0, K64.fe_room_entries, K64.fe_room_words, K64.fe_room__places, K64.fe_room__least, K64.fe_entries_room, K64.fe_entries_words, K64.fe_entries__places, K64.fe_entries__least, K64.fe_words_room, K64.fe_words_entries, K64.fe_words__places, K64.fe_words__least, K64.fe__places_room, K64.fe__places_entries, K64.fe__places_words, K64.fe__places__least, K64.fe__least_room, K64.fe__least_entries, K64.fe__least_words, K64.fe__least__places, K64.fe_store_pressure, K64.fe_store_always, K64.fe_store_allocations, K64.fe_store_collections, K64.fe_store__roots, K64.fe_store__held, K64.fe_store__saved, K64.fe_pressure_store, K64.fe_pressure_always, K64.fe_pressure_allocations, K64.fe_pressure_collections, K64.fe_pressure__roots, K64.fe_pressure__held, K64.fe_pressure__saved, K64.fe_always_store, K64.fe_always_pressure, K64.fe_always_allocations, K64.fe_always_collections, K64.fe_always__roots, K64.fe_always__held, K64.fe_always__saved, K64.fe_allocations_store, K64.fe_allocations_pressure, K64.fe_allocations_always, K64.fe_allocations_collections, K64.fe_allocations__roots, K64.fe_allocations__held, K64.fe_allocations__saved, K64.fe_collections_store, K64.fe_collections_pressure, K64.fe_collections_always, K64.fe_collections_allocations, K64.fe_collections__roots, K64.fe_collections__held, K64.fe_collections__saved, K64.fe__roots_store, K64.fe__roots_pressure, K64.fe__roots_always, K64.fe__roots_allocations, K64.fe__roots_collections, K64.fe__roots__held, K64.fe__roots__saved, K64.fe__held_store, K64.fe__held_pressure, K64.fe__held_always, K64.fe__held_allocations, K64.fe__held_collections, K64.fe__held__roots, K64.fe__held__saved, K64.fe__saved_store, K64.fe__saved_pressure, K64.fe__saved_always, K64.fe__saved_allocations, K64.fe__saved_collections, K64.fe__saved__roots, K64.fe__saved__held, tDGF_eq, uDGetF_e1, tLstRg, tRg1, K64.N_is_ref, K64.N_ref_of, K64.N_reached, K64.N_collect, K64.N_object_of, K64.N_row_of, K64.N_word_at, K64.N_paths, K64.N_garbage, K64.N_Store_init, K64.N_Store_exists, K64.N_Store_numbers, K64.N_Store_free_number, K64.N_Store_allocate, K64.N_Store_size, K64.N_Store_kind, K64.N_Store_get, K64.N_Store_put, K64.N_Store_slots, K64.N_Store_drop, K64.N_Store_close_up, K64.N_Space_init, K64.N_Space_root, K64.N_Space_set_root, K64.N_Space_hold, K64.N_Space_drop, K64.N_Space_held, K64.N_Space_all_roots, K64.N_Space_collect, K64.N_Space_collect_with, K64.N_Space_new, K64.N_Space_fitted, K64.N__law_number, K64.N__law_word, K64.N__law_is, K64.N__law_same, K64.N__law_sizes, K64.N__law_rows, K64.N__law_roots, K64.N__law_space, K64.N__law_walk, K64.N__law_extended, K64.N__law_best, K64.N__law_path_is, K64.N__law_told, K64.N__law_drawn, K64.N__law_kept, K64.N__law_long, K64.N_law])
local macro_rules | `(tactic| walk_at "nn") => `(tactic| first | assumption | exact ne_un (by assumption) | exact ne_un (ne_un (by assumption)) | exact ne_un (ne_un (ne_un (by assumption))) | exact ne_un (ne_un (ne_un (ne_un (by assumption)))))
local macro_rules | `(tactic| walk_at "ne") => `(tactic| first | assumption | (apply Ne.symm; assumption) | exact ne_ud (by assumption) | exact Ne.symm (ne_ud (by assumption)) | exact ne_ud (ne_un (by assumption)) | exact Ne.symm (ne_ud (ne_un (by assumption))) | exact ne_ud (ne_un (ne_un (by assumption))) | exact Ne.symm (ne_ud (ne_un (ne_un (by assumption)))) | exact ne_m (by assumption) (by assumption) | exact Ne.symm (ne_m (by assumption) (by assumption)) | exact ne_n (by assumption) (by walk_at "nn") | exact Ne.symm (ne_n (by assumption) (by walk_at "nn")))
local macro_rules | `(tactic| walk_at "hp") => `(tactic| first | assumption | exact upd_same | (refine Eq.trans (upd_ne ?_) ?_; (focus walk_at "ne"); walk_at "hp"))
local macro_rules | `(tactic| walk_at "sc") => `(tactic| first | (with_reducible assumption) | omega | exact le_line (by (try simp only [List.length_map, List.length_append, List.length_cons, List.length_nil, S_len]); omega) | exact div_s (by omega) | exact mul_r (by omega) | exact mul_l (by omega) | exact pow_s (by omega) | exact mul2_r (by omega) | exact mul2_l (by omega) | exact small4300 (by omega) | exact lt_line (by (try simp only [List.length_map, List.length_append, List.length_cons, List.length_nil, S_len]); omega) | exact ⟨_, by assumption⟩ | (guard_target =~ Exists _; exact ⟨_, .of (by walk_at "hp")⟩) | (guard_target =~ _ ∨ _; exact .inl ⟨_, by assumption⟩) | (guard_target =~ _ ∨ _; exact .inl ⟨_, .of (by walk_at "hp")⟩) | (guard_target =~ _ ∨ _; exact .inr (.inr (.inl ⟨rfl, .inl ⟨_, by walk_at "hp"⟩⟩))) | decide)
local macro_rules | `(tactic| walk_at "kr") => `(tactic| first | (guard_target =~ _ ∧ _; first | refine And.intro (by walk_at "sc") ?_) | (guard_target =~ KW.uIx _ _ _ _ _; first | refine ix_l (by walk_at "hp") (by first | walk_at "hv" | rfl) ?_ | refine ix_t (by walk_at "hp") (by first | walk_at "hv" | rfl) ?_ | refine ix_sl (by assumption) (by walk_at "hv") ?_) | (guard_target =~ KW.uLen _ _ _ _; first | refine len_l (by walk_at "hp") ?_ | refine len_t (by walk_at "hp") ?_ | refine len_sl (by assumption) ?_) | (guard_target =~ KW.uSet _ _ _ _ _; first | refine set_l (by walk_at "hp") (by first | walk_at "hv" | rfl) ?_) | (guard_target =~ L2.gTup _ _ _ _ _ _ _; first | refine tup_l (by walk_at "hp") (by rfl) ?_) | (guard_target =~ KW.uGet _ _ _ _ _; first | refine get_l (by walk_at "hp") (by walk_at "hc") (by decide) (by rfl) ?_) | (guard_target =~ KW.uPut _ _ _ _ _ _; first | refine put_l (by walk_at "hp") (by walk_at "hc") (by decide) (by simp) ?_) | (guard_target =~ KW.uMet.uMt _ _ _ _ _ _ _ _ _; first | refine met_l (by walk_at "hp") (by rfl) ?_) | (guard_target =~ KW.uMet.uMt _ _ _ _ _ _ _ _ _; first | refine ST.met_s (by assumption) (by decide) ?_) | (guard_target =~ ST.spExists _ _ _ _ _; first | refine ST.exists_s (by assumption) ?_) | (guard_target =~ ST.spUsed _ _ _ _ _; first | refine ST.used_s (by assumption) ?_) | (guard_target =~ KW.uGet _ _ _ _ _; first | refine ST.words_s (by assumption) (by walk_at "hc") (by decide) ?_) | (guard_target =~ KW.uDIn _ _ _ _; first | refine din_i (by walk_at "hp") ?_ | refine din_s (by walk_at "hp") ?_) | (guard_target =~ KW.uDGet _ _ _ _; first | refine dget_i (by walk_at "hp") (by walk_at "hv") ?_ | refine dget_s (by walk_at "hp") (by walk_at "hv") ?_) | (guard_target =~ KW.uDPut _ _ _ _ _; first | refine dput_i (by walk_at "hp") (by walk_at "sc") ?_ | refine dput_s (by walk_at "hp") (by walk_at "sc") ?_) | (guard_target =~ KW.uDDel _ _ _ _; first | refine ddel_i (by walk_at "hp") (by walk_at "hv") ?_ | refine ddel_s (by walk_at "hp") (by walk_at "hv") ?_) | (guard_target =~ KW.uMul2 _ _ _ _; first | refine rep_l (by walk_at "hp") (by walk_at "sc") (by walk_at "sc") (by walk_at "sc") ?_) | (guard_target =~ L2.rAppend _ _ _ _; first | refine app_l (by walk_at "hp") (by walk_at "sc") ?_) | (guard_target =~ L2.rPop _ _ _ _; first | refine pop_l (by walk_at "hp") (by walk_at "hv") ?_ | refine pops_l (by walk_at "hp") ?_) | (guard_target =~ L2.rClear _ _ _ _; first | refine clr_l (by walk_at "hp") ?_) | (guard_target =~ L2.rReverse _ _ _ _; first | refine rev_l (by walk_at "hp") ?_) | (guard_target =~ L2.rExtend _ _ _ _; first | refine ext_l (by walk_at "hp") (by walk_at "hp") (by walk_at "sc") ?_) | (guard_target =~ KW.uAdd _ _ _ _ _; first | refine ucat_l (by walk_at "hp") (by walk_at "hp") (by walk_at "sc") ?_) | (guard_target =~ KW.uSl _ _ _ _ _ _; first | refine usl_l (by walk_at "hp") ?_) | (guard_target =~ KW.uTru _ _ _ _; first | refine tru_l (by walk_at "hp") ?_ | refine tru_t (by walk_at "hp") ?_ | refine tru_d (by walk_at "hp") ?_ | refine tru_sl (by assumption) ?_) | (guard_target =~ L2.rIndex _ _ _ _ _; first | refine idx_s (by walk_at "hp") (by assumption) ?_ | refine idx_i (by walk_at "hp") (by assumption) ?_) | (guard_target =~ L2.rIn _ _ _ _ _ _; first | refine in_s (by walk_at "hp") ?_ | refine nin_s (by walk_at "hp") ?_ | refine in_i (by walk_at "hp") ?_ | refine nin_i (by walk_at "hp") ?_) | (guard_target =~ KW.uIsi _ _ _ _; first | refine isi_l (by walk_at "hp") (by decide +kernel) ?_ | refine isi_t (by walk_at "hp") (by decide +kernel) ?_ | refine isi_d (by walk_at "hp") (by decide +kernel) ?_) | (guard_target =~ KW.uList _ _ _ _; first | refine list_l (by walk_at "hp") ?_ | refine list_t (by walk_at "hp") ?_ | refine list_sl (by assumption) ?_) | (guard_target =~ KW.uDict _ _ _; first | refine dict_d (by walk_at "hp") ?_) | (guard_target =~ KW.uSorted _ _ _ _; first | refine srt_l (by walk_at "hp") ?_) | (guard_target =~ KW.uSum _ _ _ _; first | refine sum_l (by walk_at "hp") ?_) | (guard_target =~ KW.uDelC _ _ _ _; first | refine dels_l (by walk_at "hp") (by walk_at "sc") ?_) | (guard_target =~ L2.wAs _ _ _ _ _ _ _ _ _ _; first | refine as_yes (by walk_at "hx") ?_ | refine as_no (by walk_at "hx") ?_) | (guard_target =~ KW.uEf _ _ _ _ _ _ _ _ _; first | refine ef_l (by walk_at "he") (by decide) (by rfl) (by walk_at "hp") (by rfl) ?_) | (guard_target =~ KW.uIsE _ _ _ _ _ _ _; first | refine isE_r (by walk_at "he") (by walk_at "hp") (by walk_at "hk") ?_ | refine isE_t (by walk_at "he") (by walk_at "hp") (by walk_at "hk") ?_))
local macro_rules | `(tactic| walk_at "hv") => `(tactic| first | assumption)
local macro_rules | `(tactic| walk_at "kk") => `(tactic| repeat (first | walk_at "kw" | walk_at "kr"))
local macro_rules | `(tactic| walk_at "hc") => `(tactic| first | exact K64.Txt.c_Store (by assumption) | exact K64.Txt.c_Space (by assumption))
local macro_rules | `(tactic| walk_at "he") => `(tactic| first | exact K64.Txt.e_BadWord (by assumption) | exact K64.Txt.e_NoRoom (by assumption) | exact K64.Txt.e_NoNumber (by assumption) | exact K64.Txt.e_Wrong (by assumption))
local macro_rules | `(tactic| walk_at "hx") => `(tactic| first | exact K64.Txt.x_BadWord_NoNumber (by assumption) | exact K64.Txt.x_BadWord_NoRoom (by assumption) | exact K64.Txt.x_NoRoom_NoNumber (by assumption) | exact K64.Txt.x_NoRoom_NoRoom (by assumption) | exact K64.Txt.x_NoNumber_NoNumber (by assumption) | exact K64.Txt.x_NoNumber_NoRoom (by assumption) | exact K64.Txt.x_Wrong_NoNumber (by assumption) | exact K64.Txt.x_Wrong_NoRoom (by assumption))
local macro_rules | `(tactic| walk_at "hk") => `(tactic| first | fail)

section
variable {P : Program} {w : World} {K : Frag} {mg : Str → Option Value} {base : Heap} {a : Ads}
def sp_is_ref : Sp := fun vs H Q _ => ∃ (x : Int), vs = [.int x] ∧ Q (.bl (decide (x % 2 = 0))) H
theorem ok_is_ref (T : Txt P w K mg a) : Cal P w K mg base 1 "is_ref" sp_is_ref := by
  refine T.d_is_ref.ok sc_is_ref (fun vs H Q E h => ?_) (fun f cdv A outer s H vs Q E hr h => ⟨_, (pss_one (ps_ret (pe_cmpR (o_eq hr.units) (pe_op o_mod (kv 0) pe_int) pe_int (nomark _)))), ?_⟩)
  · obtain ⟨_, rfl, _⟩ := h; rfl
  · obtain ⟨x, rfl, h⟩ := h
    walk_at "kk"
    exact h
def sp_ref_of : Sp := fun vs H Q _ => ∃ (x : Int), vs = [.int x] ∧ x % 2 = 0 ∧ Q (.int (x / 2)) H
theorem ok_ref_of (T : Txt P w K mg a) : Cal P w K mg base 2 "ref_of" sp_ref_of := by
  have C_is_ref := ok_is_ref (P := P) (w := w) (base := base) T
  refine T.d_ref_of.ok sc_ref_of (fun vs H Q E h => ?_) (fun f cdv A outer s H vs Q E hr h => ⟨_, (pss_cons (ps_if (pt_not (kt (kc C_is_ref (hr.mono (by decide)) (pa_cons (kv 0) pa_nil))))
      (pss_one k_deadS)
      pss_nil)
      (pss_one (ps_ret (pe_op o_fdiv (kv 0) pe_int)))), ?_⟩)
  · obtain ⟨_, rfl, _⟩ := h; rfl
  · obtain ⟨x, rfl, hx, h⟩ := h
    walk_at "kk"
    unfold sp_is_ref
    walk_at "kk"
    rw [if_neg (fun z => z hx)]
    walk_at "kk"
    exact h
theorem ok_Store_init (T : Txt P w K mg a) : CalI P w K mg base 1 "Store" a.Store [] (spInit a.Store) := by
  refine T.ini_Store.ok T.g_Store sc_Store_init (fun vs H Q E h => ?_) (fun f cdv A outer s H vs Q E hr h => ⟨_, (pss_cons (k_sfld (kv 0) (kv 1) rfl)
      (pss_cons (k_sfld (kv 0) (kv 2) rfl)
      (pss_cons (k_sfld (kv 0) (pe_lst pa_nil) rfl)
      (pss_cons (k_sfld (kv 0) pe_dnewK rfl)
      (pss_one (k_sfld (kv 0) pe_int rfl)))))), ?_⟩)
  · obtain ⟨_, _, _, _, rfl, _⟩ := h; rfl
  · obtain ⟨st, dx, rm, en, rfl, hs, q⟩ := h
    walk_at "kk"
    intro p hp
    walk_at "kk"
    intro r hr2
    walk_at "kk"
    have e1 : p ≠ st := by walk_at "ne"
    have e2 : r ≠ p := by walk_at "ne"
    have e3 : r ≠ st := by walk_at "ne"
    refine q _ p r ?S ?F (by walk_at "nn") (by walk_at "nn")
    case S => exact ⟨⟨dx, 0, upd_same, Int.le_refl _, fun i h0 h1 => by omega⟩, by walk_at "hp", ⟨[], by walk_at "hp", .nil⟩, fun i j e f h => by simp at h, fun i e h => by simp at h, e2.symm, e1.symm, e3.symm⟩
    intro b o hb hH
    have b1 : b ≠ st := fun z => hb (by simp [z])
    have b2 : b ≠ p := by walk_at "ne"
    have b3 : b ≠ r := by walk_at "ne"
    walk_at "hp"
theorem ok_Store_exists (T : Txt P w K mg a) : CalM P w K mg base 1 a.Store "exists" (spExists a.Store) := by
  refine T.m_Store_exists.ok T.c_Store.cls sc_Store_exists (fun vs H Q E h => ?_) (fun f cdv A outer s H vs Q E hr h => ⟨_, (pss_one (ps_ret (pe_cmp (k_din (hu_of hr) (kv 1) (k_fld (kv 0) rfl))))), ?_⟩)
  · obtain ⟨_, _, _, _, _, _, _, rfl, _⟩ := h; rfl
  · obtain ⟨st, wd, pl, rm, en, B, n, rfl, ⟨⟨dx, lo, ob, l1, l2⟩, wo, ⟨kvs, pa, ok⟩, nd, nn, wp, sw, sp⟩, h⟩ := h
    walk_at "kk"
    rw [ok.isS n]
    exact h
theorem ok_Store_numbers (T : Txt P w K mg a) : CalM P w K mg base 1 a.Store "numbers" (spNumbers a.Store) := by
  refine T.m_Store_numbers.ok T.c_Store.cls sc_Store_numbers (fun vs H Q E h => ?_) (fun f cdv A outer s H vs Q E hr h => ⟨_, (pss_one (ps_ret (pe_callB (c_sorted rfl) (by rfl) T.n_sorted (by decide +kernel) (pa_cons (k_fld (kv 0) rfl) pa_nil)))), ?_⟩)
  · obtain ⟨_, _, _, _, _, _, rfl, _⟩ := h; rfl
  · obtain ⟨st, wd, pl, rm, en, B, rfl, ⟨⟨dx, lo, ob, l1, l2⟩, wo, ⟨kvs, pa, ok⟩, nd, nn, wp, sw, sp⟩, hB, h⟩ := h
    obtain ⟨ns, ek, nnd, m⟩ := id ok.ks
    have hl := ok.len
    have e1 := congrArg List.length ek
    rw [List.length_map, List.length_map] at e1
    walk_at "kk"
    refine srt_d pa ek (le_line (by omega)) fun ys p h1 h2 h3 => ?_
    exact h ys p (h1.trans ((List.perm_ext_iff_of_nodup nnd (nums_nodup nd)).mpr fun x => (m x).trans mem_nums.symm)) h2 h3
theorem ok_Store_size (T : Txt P w K mg a) : CalM P w K mg base 1 a.Store "size" (spSize a.Store) := by
  refine T.m_Store_size.ok T.c_Store.cls sc_Store_size (fun vs H Q E h => ?_) (fun f cdv A outer s H vs Q E hr h => ⟨_, (pss_one (ps_ret (pe_ix o_ix (k_fld (kv 0) rfl) (pe_op o_add (k_dget (hu_of hr) (k_fld (kv 0) rfl) (kv 1)) pe_int) (fun _ _ => rfl)))), ?_⟩)
  · obtain ⟨_, _, _, _, _, _, _, _, _, rfl, _⟩ := h; rfl
  · obtain ⟨st, wd, pl, rm, en, B, _, i, e, rfl, ⟨⟨dx, lo, ob, l1, l2⟩, wo, ⟨kvs, pa, ok⟩, nd, nn, wp, sw, sp⟩, hi, ha, rfl, h⟩ := h
    have hd := ok.at_ i e hi ha
    have hv : atI ((flat B).map V.int) ((off B i : Int) + 1) = some (.int (e.s.length : Nat)) := atI_map (i := off B i + 1) (get_size hi)
    walk_at "kk"
    exact h
theorem ok_Store_kind (T : Txt P w K mg a) : CalM P w K mg base 1 a.Store "kind" (spKind a.Store) := by
  refine T.m_Store_kind.ok T.c_Store.cls sc_Store_kind (fun vs H Q E h => ?_) (fun f cdv A outer s H vs Q E hr h => ⟨_, (pss_one (ps_ret (pe_ix o_ix (k_fld (kv 0) rfl) (pe_op o_add (k_dget (hu_of hr) (k_fld (kv 0) rfl) (kv 1)) pe_int) (fun _ _ => rfl)))), ?_⟩)
  · obtain ⟨_, _, _, _, _, _, _, _, _, rfl, _⟩ := h; rfl
  · obtain ⟨st, wd, pl, rm, en, B, _, i, e, rfl, ⟨⟨dx, lo, ob, l1, l2⟩, wo, ⟨kvs, pa, ok⟩, nd, nn, wp, sw, sp⟩, hi, ha, rfl, h⟩ := h
    have hd := ok.at_ i e hi ha
    have hv : atI ((flat B).map V.int) ((off B i : Int) + 2) = some (.int e.k) := atI_map (i := off B i + 2) (get_kind hi)
    walk_at "kk"
    exact h
theorem ok_Store_get (T : Txt P w K mg a) : CalM P w K mg base 1 a.Store "get" (spGet a.Store) := by
  refine T.m_Store_get.ok T.c_Store.cls sc_Store_get (fun vs H Q E h => ?_) (fun f cdv A outer s H vs Q E hr h => ⟨_, (pss_one (ps_ret (pe_ix o_ix (k_fld (kv 0) rfl) (pe_op o_add (pe_op o_add (k_dget (hu_of hr) (k_fld (kv 0) rfl) (kv 1)) (k_g T.g_HEADER)) (kv 2)) (fun _ _ => rfl)))), ?_⟩)
  · obtain ⟨_, _, _, _, _, _, _, _, _, _, _, rfl, _⟩ := h; rfl
  · obtain ⟨st, wd, pl, rm, en, B, _, i, j, e, z, rfl, ⟨⟨dx, lo, ob, l1, l2⟩, wo, ⟨kvs, pa, ok⟩, nd, nn, wp, sw, sp⟩, hi, ha, rfl, hz, h⟩ := h
    have hd := ok.at_ i e hi ha
    have hj := (List.getElem?_eq_some_iff.mp hz).1
    have hv : atI ((flat B).map V.int) ((off B i : Int) + 3 + j) = some (.int z) := atI_map (i := off B i + 3 + j) ((get_slot hi hj).trans hz)
    walk_at "kk"
    exact h
theorem ok_Store_put (T : Txt P w K mg a) : CalM P w K mg base 1 a.Store "put" (spPut a.Store) := by
  refine T.m_Store_put.ok T.c_Store.cls sc_Store_put (fun vs H Q E h => ?_) (fun f cdv A outer s H vs Q E hr h => ⟨_, (pss_one (ps_asg (kv 3) (pg_sub (k_fld (kv 0) rfl) (pe_op o_add (pe_op o_add (k_dget (hu_of hr) (k_fld (kv 0) rfl) (kv 1)) (k_g T.g_HEADER)) (kv 2)) s_set))), ?_⟩)
  · obtain ⟨_, _, _, _, _, _, _, _, _, _, _, rfl, _⟩ := h; rfl
  · obtain ⟨st, wd, pl, rm, en, B, _, z, i, j, e, rfl, ⟨⟨dx, lo, ob, l1, l2⟩, wo, ⟨kvs, pa, ok⟩, nd, nn, wp, sw, sp⟩, hi, ha, rfl, hj, h⟩ := h
    have hd := ok.at_ i e hi ha
    have hl := off_add hi
    have hv : ixN ((flat B).map V.int).length ((off B i : Int) + 3 + j) = some (off B i + 3 + j) := by
      rw [List.length_map]; unfold ixN; rw [if_pos (by omega), if_pos (by omega)]; congr 1
    walk_at "kk"
    refine h _ ⟨⟨dx, lo, by walk_at "hp", l1, fun i h0 h1 => ?_⟩, ?_, ⟨kvs, by walk_at "hp", ok.same hi rfl rfl (by simp)⟩, nd.set hi rfl rfl, fun j u hj ua => ?_, wp, sw, sp⟩ (Fr.upd (by simp))
    · rw [lv_set (f := { e with s := e.s.set j z }) hi rfl rfl]; exact l2 i h0 h1
    · rw [upd_same, ← set_slot hi hj, List.map_set]
    · rw [get_set hi] at hj
      split at hj
      · cases hj; exact nn i e hi ha
      · exact nn j u hj ua
theorem ok_Store_slots (T : Txt P w K mg a) : CalM P w K mg base 2 a.Store "slots" (spSlots a.Store) := by
  have M_Store_size := ok_Store_size (P := P) (w := w) (base := base) T
  refine T.m_Store_slots.ok T.c_Store.cls sc_Store_slots (fun vs H Q E h => ?_) (fun f cdv A outer s H vs Q E hr h => ⟨_, (pss_cons (ps_set (i := 2) sc_Store_slots.nd rfl (Or.inl rfl) (pe_op o_add (k_dget (hu_of hr) (k_fld (kv 0) rfl) (kv 1)) (k_g T.g_HEADER)))
      (pss_one (ps_ret (pe_slice o_sl (k_fld (kv 0) rfl) (po_some (kv 2)) (po_some (pe_op o_add (kv 2) (km M_Store_size (hr.mono (by decide)) (kv 0) (pa_cons (kv 1) pa_nil)))))))), ?_⟩)
  · obtain ⟨_, _, _, _, _, _, _, _, _, rfl, _⟩ := h; rfl
  · obtain ⟨st, wd, pl, rm, en, B, _, i, e, rfl, S, hi, ha, rfl, h⟩ := h
    obtain ⟨⟨dx, lo, ob, l1, l2⟩, wo, ⟨kvs, pa, ok⟩, nd, nn, wp, sw, sp⟩ := id S
    have hd := ok.at_ i e hi ha
    walk_at "kk"
    refine ⟨st, wd, pl, rm, en, B, _, i, e, rfl, S, hi, ha, rfl, ?_⟩
    walk_at "kk"
    intro l hl
    have ee : cutV ((flat B).map V.int) (some ((off B i : Int) + 3)) (some ((off B i : Int) + 3 + e.s.length)) = e.s.map V.int := by
      rw [show ((off B i : Int) + 3) = ((off B i + 3 : Nat) : Int) by omega, show (((off B i + 3 : Nat) : Int) + e.s.length) = ((off B i + 3 + e.s.length : Nat) : Int) by omega, cutV_nat, ← List.map_drop, ← List.map_take, show off B i + 3 + e.s.length - (off B i + 3) = e.s.length by omega, get_slots hi]
    rw [ee]
    exact h l hl
theorem ok_Store_drop (T : Txt P w K mg a) : CalM P w K mg base 1 a.Store "drop" (spDrop a.Store) := by
  refine T.m_Store_drop.ok T.c_Store.cls sc_Store_drop (fun vs H Q E h => ?_) (fun f cdv A outer s H vs Q E hr h => ⟨_, (pss_cons (k_ddel (k_fld (kv 0) rfl) (kv 1))
      (pss_one (k_sfld (kv 0) (pe_callB (c_min2 rfl) (by rfl) T.n_min (by decide +kernel) (pa_cons (k_fld (kv 0) rfl) (pa_cons (kv 1) pa_nil))) rfl))), ?_⟩)
  · obtain ⟨_, _, _, _, _, _, _, _, _, rfl, _⟩ := h; rfl
  · obtain ⟨st, wd, pl, rm, en, B, _, i, e, rfl, ⟨⟨dx, lo, ob, l1, l2⟩, wo, ⟨kvs, pa, ok⟩, nd, nn, wp, sw, sp⟩, hi, ha, rfl, h⟩ := h
    have hd : (valV kvs (.inl e.n)).isSome = true := by rw [ok.at_ i e hi ha]; rfl
    have h0 := nn i e hi ha
    walk_at "kk"
    refine h _ ⟨⟨dx, min lo e.n, ?_, by omega, fun i h0 h1 => ?_⟩, ?_, ⟨_, by walk_at "hp", ok.drop nd hi ha⟩, nd.drop hi, fun j u hj ua => ?_, wp, sw, sp⟩ ((Fr.upd (by simp)).trans (Fr.upd (by simp)))
    · rw [upd_same, show min lo e.n = if e.n < lo then e.n else lo by omega]
    · rw [lv_drop nd hi ha, l2 i h0 (by omega)]
      have : ¬ i = e.n := by omega
      simp [this]
    · rw [flat_al hi]; walk_at "hp"
    · rw [get_set hi] at hj
      split at hj
      · cases hj; cases ua
      · exact nn j u hj ua
theorem ok_Store_free_number (T : Txt P w K mg a) : CalM P w K mg base 1 a.Store "free_number" (spFree a.Store a.NoNumber) := by
  refine T.m_Store_free_number.ok T.c_Store.cls sc_Store_free_number (fun vs H Q E h => ?_) (fun f cdv A outer s H vs Q E hr h => ⟨_, (pss_cons (k_while (passes_of rfl) (pt_cmp (k_din (hu_of hr) (k_fld (kv 0) rfl) (k_fld (kv 0) rfl)))
      (pss_one (k_sfld (kv 0) (pe_op o_add (k_fld (kv 0) rfl) pe_int) rfl)))
      (pss_cons (ps_if (pt_cmpR o_ge (k_fld (kv 0) rfl) (k_fld (kv 0) rfl) (nomark _))
      (pss_one (k_raise (L2N.takes_of rfl rfl rfl rfl) (k_mk T.e_NoNumber hr (pa_cons (k_fld (kv 0) rfl) pa_nil))))
      pss_nil)
      (pss_one (ps_ret (k_fld (kv 0) rfl))))), ?_⟩)
  · obtain ⟨_, _, _, _, _, _, rfl, _⟩ := h; rfl
  · obtain ⟨st, wd, pl, rm, en, B, rfl, ⟨⟨dx, lo, ob, l1, l2⟩, wo, ⟨kvs, pa, ok⟩, nd, nn, wp, sw, sp⟩, en0, en1, h⟩ := h
    obtain ⟨f, hF, fl⟩ := free_ex B
    obtain ⟨h1, h2⟩ := h f hF
    walk_at "kk"
    refine ⟨fun m σ H' => ∃ l : Int, σ = [some (.ref st)] ∧ m = (f - l).toNat ∧ lo ≤ l ∧ l ≤ f ∧ (∀ i, 0 ≤ i → i < l → lv B i = true) ∧ H' st = some (.ins a.Store dx [("room", .int rm), ("entries", .int en), ("words", .ref wd), ("_places", .ref pl), ("_least", .int l)]) ∧ H' wd = some (.lst ((flat B).map V.int)) ∧ H' pl = some (.dK kvs) ∧ KW.Fr [st] H H', ⟨_, lo, rfl, rfl, Int.le_refl _, ?_, l2, ob, wo, pa, Fr.refl _⟩, ?_⟩
    · by_cases c : lo ≤ f
      · exact c
      · have := l2 f hF.pos (by omega); rw [hF.no] at this; cases this
    rintro m σ H' ⟨l, rfl, rfl, c1, c2, c3, ob', wo', pa', fr⟩
    walk_at "kk"
    rw [ok.isS l]
    split
    · rename_i c
      walk_at "kk"
      have hl : l ≠ f := fun z => by rw [z, hF.no] at c; cases c
      refine ⟨_, ?_, l + 1, rfl, by omega, by omega, fun i h0 h1 => ?_, upd_same, by walk_at "hp", by walk_at "hp", fr.trans (Fr.upd (by simp))⟩
      · omega
      · by_cases d : i = l
        · rw [d]; exact c
        · exact c3 i h0 (by omega)
    · rename_i c
      have c' : lv B l = false := by cases e : lv B l with | true => exact absurd e c | false => rfl
      have hl : f = l := hF.uniq ⟨by omega, c', c3⟩
      subst hl
      have S' : Sto a.Store H' st wd pl rm en B := ⟨⟨dx, f, ob', by omega, c3⟩, wo', ⟨kvs, pa', ok⟩, nd, nn, wp, sw, sp⟩
      walk_at "kk"
      split
      · walk_at "kk"
        exact h2 (by omega) H' S' fr
      · walk_at "kk"
        exact h1 (by omega) H' S' fr
theorem ok_Store_allocate (T : Txt P w K mg a) : CalM P w K mg base 2 a.Store "allocate" (spAllocate a.Store a.NoRoom a.NoNumber) := by
  have M_Store_free_number := ok_Store_free_number (P := P) (w := w) (base := base) T
  refine T.m_Store_allocate.ok T.c_Store.cls sc_Store_allocate (fun vs H Q E h => ?_) (fun f cdv A outer s H vs Q E hr h => ⟨_, (pss_cons (ps_if (pt_cmpR o_gt (pe_op o_add (pe_op o_add (pe_callB c_len (by rfl) T.n_len (by decide +kernel) (pa_cons (k_fld (kv 0) rfl) pa_nil)) (k_g T.g_HEADER)) (kv 2)) (k_fld (kv 0) rfl) (nomark _))
      (pss_one (k_raise (L2N.takes_of rfl rfl rfl rfl) (k_mk T.e_NoRoom hr (pa_cons (pe_op o_add (k_g T.g_HEADER) (kv 2)) pa_nil))))
      pss_nil)
      (pss_cons (ps_set (i := 3) sc_Store_allocate.nd rfl (Or.inl rfl) (kmX0 (L2N.takes_of rfl rfl rfl rfl) M_Store_free_number (hr.mono (by decide)) (kv 0)))
      (pss_cons (k_dput (hu_of hr) (k_fld (kv 0) rfl) (kv 3) (pe_callB c_len (by rfl) T.n_len (by decide +kernel) (pa_cons (k_fld (kv 0) rfl) pa_nil)))
      (pss_cons (ps_expr (pe_bm PySem.F.plainAttrs_list PySem.F.slot_list_extend PySem.F.type_list_extend mt_extend (k_fld (kv 0) rfl) (pa_cons (pe_lst (pa_cons (kv 3) (pa_cons (kv 2) (pa_cons (kv 1) pa_nil)))) pa_nil)))
      (pss_cons (ps_expr (pe_bm PySem.F.plainAttrs_list PySem.F.slot_list_extend PySem.F.type_list_extend mt_extend (k_fld (kv 0) rfl) (pa_cons (pe_op o_mul2 (pe_lst (pa_cons (k_g T.g_NIL) pa_nil)) (kv 2)) pa_nil)))
      (pss_one (ps_ret (kv 3)))))))), ?_⟩)
  · obtain ⟨_, _, _, _, _, _, _, _, rfl, _⟩ := h; rfl
  · obtain ⟨st, wd, pl, rm, en, B, kd, n, rfl, S, en0, en1, rm1, n1, q1, q2⟩ := h
    obtain ⟨⟨dx, lo, ob, l1, l2⟩, wo, ⟨kvs, pa, ok⟩, nd, nn, wp, sw, sp⟩ := id S
    walk_at "kk"
    split
    · walk_at "kk"
      exact q1 (by omega)
    · rename_i c
      have q2 := q2 (by omega)
      walk_at "kk"
      refine ⟨st, wd, pl, rm, en, B, rfl, S, en0, en1, fun f hF => ⟨fun hf H1 S1 f1 => ?_, fun hf H1 S1 f1 d hd => (q2 f hF).2 hf H1 S1 f1 d hd⟩⟩
      obtain ⟨⟨dx1, lo1, ob1, l11, l21⟩, wo1, ⟨kvs1, pa1, ok1⟩, -, -, -, -, -⟩ := id S1
      have lf := len_flat B
      have kl := ok1.len
      walk_at "kk"
      intro p hp
      walk_at "kk"
      have z1 : p ≠ pl := by walk_at "ne"
      have z2 : p ≠ wd := by walk_at "ne"
      have z3 : p ≠ st := by walk_at "ne"
      intro r hr0
      walk_at "kk"
      intro r2 hr2
      walk_at "kk"
      have u1 : r ≠ pl := by walk_at "ne"
      have u2 : r ≠ wd := by walk_at "ne"
      have u3 : r ≠ st := by walk_at "ne"
      have v1 : r2 ≠ pl := by walk_at "ne"
      have v2 : r2 ≠ wd := by walk_at "ne"
      have v3 : r2 ≠ st := by walk_at "ne"
      have er : (List.replicate (n : Int).toNat [V.int 0]).flatten = (List.replicate n (0 : Int)).map V.int := by
        rw [Int.toNat_natCast]; simp
      rw [er]
      refine ext_l (by walk_at "hp") (by walk_at "hp") (le_line (by simp only [List.length_append, List.length_map, List.length_replicate, List.length_cons, List.length_nil]; omega)) ?_
      have nf : lv B f = false := hF.no
      refine (q2 f hF).1 hf _ ⟨⟨dx1, lo1, ?_, l11, fun i h0 h1 => ?_⟩, ?_, ⟨_, ?_, ok1.app (e := ⟨f, kd, List.replicate n 0, true⟩) rfl nf⟩, nd.app fun _ => nf, fun j u hj ua => ?_, wp, sw, sp⟩ ?_
      · walk_at "hp"
      · rw [lv_app, l21 i h0 h1]; rfl
      · rw [upd_same, flat_app]
        simp [flat, Blk.ws]
      · walk_at "hp"
      · rw [List.getElem?_append] at hj
        split at hj
        · exact nn j u hj ua
        · have : u = ⟨f, kd, List.replicate n 0, true⟩ := by
            have hx : j - B.length = 0 := by
              have := (List.getElem?_eq_some_iff.mp hj).1
              simpa using this
            rw [hx] at hj
            simpa using hj.symm
          subst this
          exact hF.pos
      · intro b o hb hH
        simp only [List.mem_cons, List.not_mem_nil, or_false, not_or] at hb
        obtain ⟨b1, b2, b3⟩ := hb
        have hb1 := f1 b o (by simp [b1]) hH
        have w1 : p ≠ b := by walk_at "ne"
        have w2 : r ≠ b := by walk_at "ne"
        have w3 : r2 ≠ b := by walk_at "ne"
        walk_at "hp"
theorem ok_Store_close_up (T : Txt P w K mg a) (TB : LamX.TabB base mg a.c_Store_close_up a.p_Store_close_up) : CalM P w K mg base 2 a.Store "close_up" (spCloseUp a.Store a.p_Store_close_up ("Store.close_up" ++ ".<locals>." ++ "<lambda>")) := by
  refine T.m_Store_close_up.ok T.c_Store.cls sc_Store_close_up (fun vs H Q E h => ?_) (fun f A outer s H vs Q E hr h => ⟨_, (pss_cons (ps_set (i := 1) sc_Store_close_up.nd rfl (Or.inl rfl) (pe_lst pa_nil))
      (pss_cons (ps_set (i := 2) sc_Store_close_up.nd rfl (Or.inl rfl) pe_dnewK)
      (pss_cons (ps_set (i := 3) sc_Store_close_up.nd rfl (Or.inr rfl) (k_fld (kv 0) rfl))
      (pss_cons (k_for (passes_of rfl) rfl (pi_list (k_sortLam (i := 3) (k := 0) TB rfl (hr.mono (by decide)) rfl (kv 3) (by rfl) T.n_sorted rfl rfl rfl (fun _ _ _ _ _ _ => rfl) rfl rfl rfl (by decide +kernel) rfl rfl (by decide +kernel))) (pg_name (i := 4) sc_Store_close_up.nd rfl (Or.inl rfl))
      (pss_cons (ps_set (i := 5) sc_Store_close_up.nd rfl (Or.inl rfl) (k_dget (hu_of hr) (kv 3) (kv 4)))
      (pss_cons (k_dput (hu_of hr) (kv 2) (kv 4) (pe_callB c_len (by rfl) T.n_len (by decide +kernel) (pa_cons (kv 1) pa_nil)))
      (pss_one (ps_expr (pe_bm PySem.F.plainAttrs_list PySem.F.slot_list_extend PySem.F.type_list_extend mt_extend (kv 1) (pa_cons (pe_slice o_sl (k_fld (kv 0) rfl) (po_some (kv 5)) (po_some (pe_op o_add (pe_op o_add (kv 5) (k_g T.g_HEADER)) (pe_ix o_ix (k_fld (kv 0) rfl) (pe_op o_add (kv 5) pe_int) (fun _ _ => rfl))))) pa_nil)))))))
      (pss_cons (k_sfld (kv 0) (kv 1) rfl)
      (pss_one (k_sfld (kv 0) (kv 2) rfl))))))), ?_⟩)
  · obtain ⟨_, _, _, _, _, _, rfl, _⟩ := h; rfl
  · obtain ⟨st, wd, pl, rm, en, B, rfl, ⟨⟨dx, lo, ob, l1, l2⟩, wo, ⟨kvs, pa, ok⟩, nd, nn, wp, sw, sp⟩, hT, hB, h⟩ := h
    generalize hP : a.p_Store_close_up = P0 at hT h
    have nst : st ≠ P0 := hT.ne ob fun ps z => by cases z
    have nwd : wd ≠ P0 := hT.ne wo fun ps z => by cases z
    have npl : pl ≠ P0 := hT.ne pa fun ps z => by cases z
    have lB := len_flat B
    walk_at "kk"
    intro p hp r hr0
    have rp : r ≠ p := by walk_at "ne"
    have pst : p ≠ st := by walk_at "ne"
    have ppl : p ≠ pl := by walk_at "ne"
    have pwd : p ≠ wd := by walk_at "ne"
    have rst : r ≠ st := by walk_at "ne"
    have rpl : r ≠ pl := by walk_at "ne"
    have rwd : r ≠ wd := by walk_at "ne"
    have hr1 : H r = none := by walk_at "nn"
    have pP : p ≠ P0 := fun z => by obtain ⟨ps, e, _⟩ := hT; rw [z, e] at hp; cases hp
    have rP : r ≠ P0 := fun z => by obtain ⟨ps, e, _⟩ := hT; rw [z, e] at hr1; cases hr1
    walk_at "kk"
    obtain ⟨ns, ek, nnd, mem⟩ := id ok.ks
    have e1 := congrArg List.length ek
    rw [List.length_map, List.length_map] at e1
    have kl := ok.len
    obtain ⟨pv, hpv⟩ : ∃ pv : Int → Int, pv = fun n => match valV kvs (.inl n) with | some (.int p) => p | _ => 0 := ⟨_, rfl⟩
    have pvo : ∀ (i : Nat) (e : Blk), B[i]? = some e → e.al = true → pv e.n = (off B i : Nat) := fun i e hi ha => by rw [hpv]; dsimp only; rw [ok.at_ i e hi ha]
    refine ⟨pl, kvs, ns, pv, rfl, rfl, by walk_at "hp", ek, le_line (by omega), fun n hn => ?_, (hT.add hp).add hr0, fun H2 ys l f2 hT2 hl h1 h2 => ?_⟩
    · obtain ⟨i, e, hi, ha, rfl⟩ := lv_iff.mp ((mem n).mp hn)
      rw [ok.at_ i e hi ha, pvo i e hi ha]
    have hy : ys = nums B := by_uniq pvo (h1.trans ((List.perm_ext_iff_of_nodup nnd (nums_nodup nd)).mpr fun x => (mem x).trans mem_nums.symm)) h2
    subst hy
    have a1 := f2 st _ (by simpa using nst) (show upd (upd H p (.lst [])) r (.dK []) st = _ by walk_at "hp")
    have a2 := f2 wd _ (by simpa using nwd) (show upd (upd H p (.lst [])) r (.dK []) wd = _ by walk_at "hp")
    have a3 := f2 pl _ (by simpa using npl) (show upd (upd H p (.lst [])) r (.dK []) pl = _ by walk_at "hp")
    have a4 := f2 p _ (by simpa using pP) (show upd (upd H p (.lst [])) r (.dK []) p = some (.lst []) by walk_at "hp")
    have a5 := f2 r _ (by simpa using rP) (show upd (upd H p (.lst [])) r (.dK []) r = some (.dK []) by walk_at "hp")
    have fr0 : KW.Fr [P0] H H2 := ((Fr.new hp).trans (Fr.new hr0)).trans f2
    have n1 : st ≠ l := ne_of_none a1 hl
    have n2 : wd ≠ l := ne_of_none a2 hl
    have n3 : pl ≠ l := ne_of_none a3 hl
    have n4 : p ≠ l := ne_of_none a4 hl
    have n5 : r ≠ l := ne_of_none a5 hl
    have lP : l ≠ P0 := fun z => by obtain ⟨ps, e, _⟩ := hT2; rw [z, e] at hl; cases hl
    have hT3 := hT2.add (o' := .lst ((nums B).map V.int)) hl
    have b1 : upd H2 l (.lst ((nums B).map V.int)) st = some (.ins a.Store dx [("room", .int rm), ("entries", .int en), ("words", .ref wd), ("_places", .ref pl), ("_least", .int lo)]) := by walk_at "hp"
    have b2 : upd H2 l (.lst ((nums B).map V.int)) wd = some (.lst ((flat B).map V.int)) := by walk_at "hp"
    have b3 : upd H2 l (.lst ((nums B).map V.int)) pl = some (.dK kvs) := by walk_at "hp"
    have b4 : upd H2 l (.lst ((nums B).map V.int)) p = some (.lst []) := by walk_at "hp"
    have b5 : upd H2 l (.lst ((nums B).map V.int)) r = some (.dK []) := by walk_at "hp"
    have b6 : upd H2 l (.lst ((nums B).map V.int)) l = some (.lst ((nums B).map V.int)) := upd_same
    have fr1 : KW.Fr [P0] H (upd H2 l (.lst ((nums B).map V.int))) := fr0.trans (Fr.new hl)
    revert hT3 b1 b2 b3 b4 b5 b6 fr1
    generalize upd H2 l (.lst ((nums B).map V.int)) = H3
    intro hT3 b1 b2 b3 b4 b5 b6 fr1
    obtain ⟨G, hG⟩ : ∃ G, G = alv B := ⟨_, rfl⟩
    have nG : nums B = G.map fun e => e.n := by rw [hG]; exact nums_alv B
    have NG : Nd G := by rw [hG]; exact nd.alv
    have mG : ∀ (i : Nat) (e : Blk), G[i]? = some e → ∃ j : Nat, B[j]? = some e ∧ e.al = true := fun i e h => by rw [hG] at h; exact mem_alv h
    have lG : G.length ≤ B.length := by rw [hG]; exact List.length_filter_le _ _
    have fG : (flat G).length ≤ (flat B).length := by rw [hG]; exact flat_le
    rw [nG, List.map_map] at b6
    walk_at "kk"
    generalize hD : ({ nx := _, rt := Q } : Ends) = D
    obtain ⟨Pv, hPv⟩ : ∃ Pv : Nat → L2.St → Hp → Prop, Pv = fun i σ H' => ∃ kv2 v4 v5, σ = [some (.ref st), some (.ref p), some (.ref r), some (.ref pl), v4, v5] ∧ H' st = some (.ins a.Store dx [("room", .int rm), ("entries", .int en), ("words", .ref wd), ("_places", .ref pl), ("_least", .int lo)]) ∧ H' wd = some (.lst ((flat B).map V.int)) ∧ H' pl = some (.dK kvs) ∧ H' p = some (.lst ((flat (G.take i)).map V.int)) ∧ H' r = some (.dK kv2) ∧ PlOk kv2 (G.take i) ∧ H' l = some (.lst (G.map (V.int ∘ fun e => e.n))) ∧ KW.Fr [P0] H H' ∧ LamX.TabS H' P0 ("Store.close_up" ++ ".<locals>." ++ "<lambda>") := ⟨_, rfl⟩
    refine for_lst (xs := G.map (V.int ∘ fun e => e.n)) Pv (by rw [hPv]; exact ⟨[], _, _, rfl, b1, b2, b3, b4, b5, .nil, b6, fr1, hT3⟩) ?_ ?_ ?_
    · intro i σ H' _ hp
      rw [hPv] at hp
      obtain ⟨kv2, v4, v5, -, -, -, -, -, -, -, h8, -⟩ := hp
      exact .of h8
    · intro i x σ H' hx hp
      rw [hPv] at hp
      obtain ⟨kv2, v4, v5, rfl, h1, h2, h3, h4, h5, h6, h8, h9, h10⟩ := hp
      rw [List.getElem?_map] at hx
      obtain ⟨e, hy, rfl⟩ := Option.map_eq_some_iff.mp hx
      obtain ⟨j, hj, ha⟩ := mG i e hy
      have et : G.take (i + 1) = G.take i ++ [e] := by rw [List.take_add_one, hy]; rfl
      have lt := lv_take NG hy ha
      have hd := ok.at_ j e hj ha
      have oj := off_add hj
      have ki := h6.len
      have hfl := flat_take_le (B := G) i
      have hfl2 := flat_take_le (B := G) (i + 1)
      rw [et, flat_app, List.length_append, flat_cons, List.length_append, Blk.ws_len] at hfl2
      rw [List.length_take] at ki
      have hv : atI ((flat B).map V.int) ((off B j : Int) + 1) = some (.int (e.s.length : Nat)) := atI_map (i := off B j + 1) (get_size hj)
      simp only [Function.comp]
      walk_at "kk"
      intro t1 ht1
      have ec : cutV ((flat B).map V.int) (some ((off B j : Nat) : Int)) (some ((off B j : Int) + 3 + e.s.length)) = e.ws.map V.int := by
        rw [show ((off B j : Int) + 3 + e.s.length) = ((off B j + (e.s.length + 3) : Nat) : Int) by omega, cutV_nat, ← List.map_drop, ← List.map_take, show off B j + (e.s.length + 3) - off B j = e.s.length + 3 by omega, get_ws hj]
      rw [ec]
      have ht1' : H' t1 = none := by walk_at "nn"
      have u1 : t1 ≠ st := ne_n h1 ht1'
      have u2 : t1 ≠ wd := ne_n h2 ht1'
      have u3 : t1 ≠ pl := ne_n h3 ht1'
      have u4 : t1 ≠ p := ne_n h4 ht1'
      have u5 : t1 ≠ r := ne_n h5 ht1'
      have u6 : t1 ≠ l := ne_n h8 ht1'
      refine ext_l (xs := (flat (G.take i)).map V.int) (zs := e.ws.map V.int) (by walk_at "hp") (by walk_at "hp") (le_line (by simp only [List.length_map, Blk.ws_len]; omega)) ?_
      rw [hPv]
      refine ⟨_, _, _, rfl, by walk_at "hp", by walk_at "hp", by walk_at "hp", ?_, by walk_at "hp", ?_, by walk_at "hp", fun b o hb hH => ?_, ?_⟩
      · rw [upd_same, et, flat_app, flat_cons, ← List.map_append]; simp [flat_nil]
      · rw [et]; exact h6.app ha lt
      · have b1 : b ≠ p := ne_of_none hH hp
        have b2 : b ≠ r := ne_of_none hH hr1
        have hb2 := h9 b o hb hH
        have b3 : b ≠ t1 := ne_of_none hb2 ht1'
        walk_at "hp"
      · refine LamX.TabS.upd (LamX.TabS.add (LamX.TabS.upd h10 h5 pln_dK) ht1) (o := .lst ((flat (G.take i)).map V.int)) (by walk_at "hp") pln_lst
    · intro σ H' hpp
      rw [hPv] at hpp
      obtain ⟨kv2, v4, v5, rfl, h1, h2, h3, h4, h5, h6, h8, h9, h10⟩ := hpp
      rw [List.length_map, List.take_length] at h4 h6
      subst hD
      walk_at "kk"
      refine h _ p r ⟨⟨dx, lo, upd_same, l1, fun i h0 h1 => ?_⟩, ?_, ⟨kv2, by walk_at "hp", ?_⟩, nd.alv, fun i e hi ha => ?_, rp.symm, pst.symm, rst.symm⟩ hp hr1 (fun b o hb hH => ?_) (LamX.TabS.upd h10 h1 pln_ins)
      · rw [lv_alv]; exact l2 i h0 h1
      · rw [hG] at h4; walk_at "hp"
      · rw [← hG]; exact h6
      · obtain ⟨j, hj, _⟩ := mem_alv hi
        exact nn j e hj ha
      · simp only [List.mem_cons, List.not_mem_nil, or_false, not_or] at hb
        rw [upd_ne hb.1]
        exact h9 b o (by simp [hb.2]) hH
end
end K64

set_option Elab.async false
set_option linter.all false
set_option maxRecDepth 100000
set_option maxHeartbeats 4000000
namespace K64
open PySem PySem.Spec PyProof.Rows L2 KW ST
local macro_rules | `(tactic| walk_at "kw") => `(tactic| simp only [tSeq, tNext, tIfS, tTest, tAnd, tOr, tNot, tAndV, tOrV, tNotV, tIf, tChain, tOp, tUn, tC, tAsg, gName, gSub, gCons, gNil, tRet, tRetN, tDrop, tCons, tNil, tCB, tAug, tSl, tPart, tNoPart, tLst, tTup, tBM, tBM0, uTest, uFor, iRng1, iRng2, iList, uCall, List.map_cons, List.map_nil, List.length_cons, List.length_nil, List.cons_append, List.nil_append, List.replicate, Nat.zero_add, Nat.reduceAdd, Nat.reduceSub, List.getElem?_cons_zero, List.getElem?_cons_succ, List.set_cons_zero, List.set_cons_succ, V.bl.injEq, V.int.injEq, V.str.injEq, V.ref.injEq, V.ty.injEq, List.cons.injEq, and_true, true_and, exists_eq_left', exists_eq_right, exists_eq_left, exists_and_left, exists_and_right, decide_eq_true_eq, Bool.not_eq_true', decide_eq_false_iff_not, Bool.false_eq_true, if_true, if_false, ite_true, ite_false, Bool.not_true, Bool.not_false, reduceCtorEq, decide_true, decide_false, Bool.not_not, isK_int_int, isK_int_bool, isK_int_str, isK_int_list, isK_int_tuple, isK_bool_int, isK_bool_bool, isK_bool_str, isK_str_str, isK_str_int, isK_str_bool, isK_str_tuple, isK_str_list, isK_list_list, isK_list_tuple, isK_tuple_tuple, isK_tuple_list, isOk_int_int, isOk_int_bool, isOk_int_str, isOk_int_list, isOk_int_tuple, isOk_bool_int, isOk_bool_bool, isOk_bool_str, isOk_str_str, isOk_str_int, isOk_str_bool, isOk_str_tuple, isOk_str_list, isOk_list_list, isOk_list_tuple, isOk_tuple_tuple, isOk_tuple_list, isK_dict_dict, isOk_dict_dict, isK_none_int, isK_none_bool, isOk_none_int, isOk_none_bool, tyV, S_inj, S_cat, L2.start, Nat.reduceSub, List.replicate_succ, List.replicate_zero, and_assoc, List.append_nil, Nat.reduceEqDiff, Option.some.injEq, Int.natCast_inj, upd_upd, Int.reducePow, Int.reduceToNat, Int.reduceMul, Int.reduceAdd, Int.reduceSub, Int.reduceLT, Int.reduceLE, Int.reduceNeg, Int.reduceDiv, Int.reduceMod, Nat.reducePow, Nat.reduceMul, S_len, List.length_append, List.length_map, List.length_range, not_true_eq_false, not_false_eq_true, ne_eq, uAdd_e1, uAdd_e2, uSub_e1, uMod_e1, uDiv_e1, uPow_e1, uShl_e1, uNeg_e1, uIAdd_e1, uIAdd_e2, uIAdd_e3, uISub_e1, uLt_e1, uLt_e2, uLe_e1, uGt_e1, uGe_e1, uEq_e1, uEq_e2, uEq_e3, uEq_e4, uEq_e5, uEq_e6, uEq_e7, uEq_e8, uEq_e9, uEq_e10, uEq_e11, uNe_e1, uNe_e2, uNe_e3, uNe_e4, uNe_e5, uNe_e6, uNe_e7, uNe_e8, uNe_e9, uNe_e10, uNe_e11, uIs_e1, uIs_e2, uIs_e3, uIs_e4, uIs_e5, uIs_e6, uIs_e7, uNotIs_e1, uNotIs_e2, uNotIs_e3, uNotIs_e4, uNotIs_e5, uNotIs_e6, uIn_e1, uIn_e2, uIn_e3, uIn_e4, uNotIn_e1, uNotIn_e2, uNotIn_e3, uNotIn_e4, uTru_e1, uTru_e2, uTru_e3, uTru_e4, uIx_e2, uSl_e2, uLen_e1, uAbs_e1, uInt_e1, uInt_e2, uMin2_e1, uIsi_e1, uIsi_e2, uIsi_e3, uIsi_e4, cx_K, uVar_0, uVar_n, uFld, uSFld, uMet, uMake, tDG, tDI, tDNI, tDP, tDD, uMk, uRaise, uDelSl, tCallS, L2.WE, uStr_e1, uStr_e2, uMul2_e1, uMul2_e2, okS_i, okS_s, List.zip_cons_cons, List.zip_nil_left, List.drop_zero, List.drop_succ_cons, List.drop_nil, putF_nil, putF_cons, eq_self, tDNewK, tB, Option.isSome_some, Option.isSome_none, false_and, false_or, or_false, exists_false, Int.zero_add, uLc, wipe, tYes, isEmpty_app, List.isEmpty_cons, List.isEmpty_nil, List.isEmpty_map, Bool.and_false, Bool.and_true, iRev, K64.lit_0, K64.fe_room_entries, K64.fe_room_words, K64.fe_room__places, K64.fe_room__least, K64.fe_entries_room, K64.fe_entries_words, K64.fe_entries__places, K64.fe_entries__least, K64.fe_words_room, K64.fe_words_entries, K64.fe_words__places, K64.fe_words__least, K64.fe__places_room, K64.fe__places_entries, K64.fe__places_words, K64.fe__places__least, K64.fe__least_room, K64.fe__least_entries, K64.fe__least_words, K64.fe__least__places, K64.fe_store_pressure, K64.fe_store_always, K64.fe_store_allocations, K64.fe_store_collections, K64.fe_store__roots, K64.fe_store__held, K64.fe_store__saved, K64.fe_pressure_store, K64.fe_pressure_always, K64.fe_pressure_allocations, K64.fe_pressure_collections, K64.fe_pressure__roots, K64.fe_pressure__held, K64.fe_pressure__saved, K64.fe_always_store, K64.fe_always_pressure, K64.fe_always_allocations, K64.fe_always_collections, K64.fe_always__roots, K64.fe_always__held, K64.fe_always__saved, K64.fe_allocations_store, K64.fe_allocations_pressure, K64.fe_allocations_always, K64.fe_allocations_collections, K64.fe_allocations__roots, K64.fe_allocations__held, K64.fe_allocations__saved, K64.fe_collections_store, K64.fe_collections_pressure, K64.fe_collections_always, K64.fe_collections_allocations, K64.fe_collections__roots, K64.fe_collections__held, K64.fe_collections__saved, K64.fe__roots_store, K64.fe__roots_pressure, K64.fe__roots_always, K64.fe__roots_allocations, K64.fe__roots_collections, K64.fe__roots__held, K64.fe__roots__saved, K64.fe__held_store, K64.fe__held_pressure, K64.fe__held_always, K64.fe__held_allocations, K64.fe__held_collections, K64.fe__held__roots, K64.fe__held__saved, K64.fe__saved_store, K64.fe__saved_pressure, K64.fe__saved_always, K64.fe__saved_allocations, K64.fe__saved_collections, K64.fe__saved__roots, K64.fe__saved__held, tDGF_eq, uDGetF_e1, tLstRg, tRg1, K64.N_is_ref, K64.N_ref_of, K64.N_reached, K64.N_collect, K64.N_object_of, K64.N_row_of, K64.N_word_at, K64.N_paths, K64.N_garbage, K64.N_Store_init, K64.N_Store_exists, K64.N_Store_numbers, K64.N_Store_free_number, K64.N_Store_allocate, K64.N_Store_size, K64.N_Store_kind, K64.N_Store_get, K64.N_Store_put, K64.N_Store_slots, K64.N_Store_drop, K64.N_Store_close_up, K64.N_Space_init, K64.N_Space_root, K64.N_Space_set_root, K64.N_Space_hold, K64.N_Space_drop, K64.N_Space_held, K64.N_Space_all_roots, K64.N_Space_collect, K64.N_Space_collect_with, K64.N_Space_new, K64.N_Space_fitted, K64.N__law_number, K64.N__law_word, K64.N__law_is, K64.N__law_same, K64.N__law_sizes, K64.N__law_rows, K64.N__law_roots, K64.N__law_space, K64.N__law_walk, K64.N__law_extended, K64.N__law_best, K64.N__law_path_is, K64.N__law_told, K64.N__law_drawn, K64.N__law_kept, K64.N__law_long, K64.N_law, sp_is_ref, sp_ref_of])
local macro_rules | `(tactic| walk_at "nn") => `(tactic| first | assumption | exact ne_un (by assumption) | exact ne_un (ne_un (by assumption)) | exact ne_un (ne_un (ne_un (by assumption))) | exact ne_un (ne_un (ne_un (ne_un (by assumption)))))
local macro_rules | `(tactic| walk_at "ne") => `(tactic| first | assumption | (apply Ne.symm; assumption) | exact ne_ud (by assumption) | exact Ne.symm (ne_ud (by assumption)) | exact ne_ud (ne_un (by assumption)) | exact Ne.symm (ne_ud (ne_un (by assumption))) | exact ne_ud (ne_un (ne_un (by assumption))) | exact Ne.symm (ne_ud (ne_un (ne_un (by assumption)))) | exact ne_m (by assumption) (by assumption) | exact Ne.symm (ne_m (by assumption) (by assumption)) | exact ne_n (by assumption) (by walk_at "nn") | exact Ne.symm (ne_n (by assumption) (by walk_at "nn")))
local macro_rules | `(tactic| walk_at "hp") => `(tactic| first | assumption | exact upd_same | (refine Eq.trans (upd_ne ?_) ?_; (focus walk_at "ne"); walk_at "hp"))
local macro_rules | `(tactic| walk_at "sc") => `(tactic| first | (with_reducible assumption) | omega | exact le_line (by (try simp only [List.length_map, List.length_append, List.length_cons, List.length_nil, S_len]); omega) | exact div_s (by omega) | exact mul_r (by omega) | exact mul_l (by omega) | exact pow_s (by omega) | exact mul2_r (by omega) | exact mul2_l (by omega) | exact small4300 (by omega) | exact lt_line (by (try simp only [List.length_map, List.length_append, List.length_cons, List.length_nil, S_len]); omega) | exact ⟨_, by assumption⟩ | (guard_target =~ Exists _; exact ⟨_, .of (by walk_at "hp")⟩) | (guard_target =~ _ ∨ _; exact .inl ⟨_, by assumption⟩) | (guard_target =~ _ ∨ _; exact .inl ⟨_, .of (by walk_at "hp")⟩) | (guard_target =~ _ ∨ _; exact .inr (.inr (.inl ⟨rfl, .inl ⟨_, by walk_at "hp"⟩⟩))) | decide)
local macro_rules | `(tactic| walk_at "kr") => `(tactic| first | (guard_target =~ _ ∧ _; first | refine And.intro (by walk_at "sc") ?_) | (guard_target =~ KW.uIx _ _ _ _ _; first | refine ix_l (by walk_at "hp") (by first | walk_at "hv" | rfl) ?_ | refine ix_t (by walk_at "hp") (by first | walk_at "hv" | rfl) ?_ | refine ix_sl (by assumption) (by walk_at "hv") ?_) | (guard_target =~ KW.uLen _ _ _ _; first | refine len_l (by walk_at "hp") ?_ | refine len_t (by walk_at "hp") ?_ | refine len_sl (by assumption) ?_) | (guard_target =~ KW.uSet _ _ _ _ _; first | refine set_l (by walk_at "hp") (by first | walk_at "hv" | rfl) ?_) | (guard_target =~ L2.gTup _ _ _ _ _ _ _; first | refine tup_l (by walk_at "hp") (by rfl) ?_) | (guard_target =~ KW.uGet _ _ _ _ _; first | refine get_l (by walk_at "hp") (by walk_at "hc") (by decide) (by rfl) ?_) | (guard_target =~ KW.uPut _ _ _ _ _ _; first | refine put_l (by walk_at "hp") (by walk_at "hc") (by decide) (by simp) ?_) | (guard_target =~ KW.uMet.uMt _ _ _ _ _ _ _ _ _; first | refine met_l (by walk_at "hp") (by rfl) ?_) | (guard_target =~ KW.uMet.uMt _ _ _ _ _ _ _ _ _; first | refine ST.met_s (by assumption) (by decide) ?_) | (guard_target =~ ST.spExists _ _ _ _ _; first | refine ST.exists_s (by assumption) ?_) | (guard_target =~ ST.spUsed _ _ _ _ _; first | refine ST.used_s (by assumption) ?_) | (guard_target =~ KW.uGet _ _ _ _ _; first | refine ST.words_s (by assumption) (by walk_at "hc") (by decide) ?_) | (guard_target =~ KW.uDIn _ _ _ _; first | refine din_i (by walk_at "hp") ?_ | refine din_s (by walk_at "hp") ?_) | (guard_target =~ KW.uDGet _ _ _ _; first | refine dget_i (by walk_at "hp") (by walk_at "hv") ?_ | refine dget_s (by walk_at "hp") (by walk_at "hv") ?_) | (guard_target =~ KW.uDPut _ _ _ _ _; first | refine dput_i (by walk_at "hp") (by walk_at "sc") ?_ | refine dput_s (by walk_at "hp") (by walk_at "sc") ?_) | (guard_target =~ KW.uDDel _ _ _ _; first | refine ddel_i (by walk_at "hp") (by walk_at "hv") ?_ | refine ddel_s (by walk_at "hp") (by walk_at "hv") ?_) | (guard_target =~ KW.uMul2 _ _ _ _; first | refine rep_l (by walk_at "hp") (by walk_at "sc") (by walk_at "sc") (by walk_at "sc") ?_) | (guard_target =~ L2.rAppend _ _ _ _; first | refine app_l (by walk_at "hp") (by walk_at "sc") ?_) | (guard_target =~ L2.rPop _ _ _ _; first | refine pop_l (by walk_at "hp") (by walk_at "hv") ?_ | refine pops_l (by walk_at "hp") ?_) | (guard_target =~ L2.rClear _ _ _ _; first | refine clr_l (by walk_at "hp") ?_) | (guard_target =~ L2.rReverse _ _ _ _; first | refine rev_l (by walk_at "hp") ?_) | (guard_target =~ L2.rExtend _ _ _ _; first | refine ext_l (by walk_at "hp") (by walk_at "hp") (by walk_at "sc") ?_) | (guard_target =~ KW.uAdd _ _ _ _ _; first | refine ucat_l (by walk_at "hp") (by walk_at "hp") (by walk_at "sc") ?_) | (guard_target =~ KW.uSl _ _ _ _ _ _; first | refine usl_l (by walk_at "hp") ?_) | (guard_target =~ KW.uTru _ _ _ _; first | refine tru_l (by walk_at "hp") ?_ | refine tru_t (by walk_at "hp") ?_ | refine tru_d (by walk_at "hp") ?_ | refine tru_sl (by assumption) ?_) | (guard_target =~ L2.rIndex _ _ _ _ _; first | refine idx_s (by walk_at "hp") (by assumption) ?_ | refine idx_i (by walk_at "hp") (by assumption) ?_) | (guard_target =~ L2.rIn _ _ _ _ _ _; first | refine in_s (by walk_at "hp") ?_ | refine nin_s (by walk_at "hp") ?_ | refine in_i (by walk_at "hp") ?_ | refine nin_i (by walk_at "hp") ?_) | (guard_target =~ KW.uIsi _ _ _ _; first | refine isi_l (by walk_at "hp") (by decide +kernel) ?_ | refine isi_t (by walk_at "hp") (by decide +kernel) ?_ | refine isi_d (by walk_at "hp") (by decide +kernel) ?_) | (guard_target =~ KW.uList _ _ _ _; first | refine list_l (by walk_at "hp") ?_ | refine list_t (by walk_at "hp") ?_ | refine list_sl (by assumption) ?_) | (guard_target =~ KW.uDict _ _ _; first | refine dict_d (by walk_at "hp") ?_) | (guard_target =~ KW.uSorted _ _ _ _; first | refine srt_l (by walk_at "hp") ?_) | (guard_target =~ KW.uSum _ _ _ _; first | refine sum_l (by walk_at "hp") ?_) | (guard_target =~ KW.uDelC _ _ _ _; first | refine dels_l (by walk_at "hp") (by walk_at "sc") ?_) | (guard_target =~ L2.wAs _ _ _ _ _ _ _ _ _ _; first | refine as_yes (by walk_at "hx") ?_ | refine as_no (by walk_at "hx") ?_) | (guard_target =~ KW.uEf _ _ _ _ _ _ _ _ _; first | refine ef_l (by walk_at "he") (by decide) (by rfl) (by walk_at "hp") (by rfl) ?_) | (guard_target =~ KW.uIsE _ _ _ _ _ _ _; first | refine isE_r (by walk_at "he") (by walk_at "hp") (by walk_at "hk") ?_ | refine isE_t (by walk_at "he") (by walk_at "hp") (by walk_at "hk") ?_))
local macro_rules | `(tactic| walk_at "hv") => `(tactic| first | assumption)
local macro_rules | `(tactic| walk_at "kk") => `(tactic| repeat (first | walk_at "kw" | walk_at "kr"))
local macro_rules | `(tactic| walk_at "hc") => `(tactic| first | exact K64.Txt.c_Store (by assumption) | exact K64.Txt.c_Space (by assumption))
local macro_rules | `(tactic| walk_at "he") => `(tactic| first | exact K64.Txt.e_BadWord (by assumption) | exact K64.Txt.e_NoRoom (by assumption) | exact K64.Txt.e_NoNumber (by assumption) | exact K64.Txt.e_Wrong (by assumption))
local macro_rules | `(tactic| walk_at "hx") => `(tactic| first | exact K64.Txt.x_BadWord_NoNumber (by assumption) | exact K64.Txt.x_BadWord_NoRoom (by assumption) | exact K64.Txt.x_NoRoom_NoNumber (by assumption) | exact K64.Txt.x_NoRoom_NoRoom (by assumption) | exact K64.Txt.x_NoNumber_NoNumber (by assumption) | exact K64.Txt.x_NoNumber_NoRoom (by assumption) | exact K64.Txt.x_Wrong_NoNumber (by assumption) | exact K64.Txt.x_Wrong_NoRoom (by assumption))
local macro_rules | `(tactic| walk_at "hk") => `(tactic| first | fail)

section
variable {P : Program} {w : World} {K : Frag} {mg : Str → Option Value} {base : Heap} {a : Ads}
theorem ok_reached (T : Txt P w K mg a) : Cal P w K mg base 3 "reached" (spReached a.Store) := by
  have C_is_ref := ok_is_ref (P := P) (w := w) (base := base) T
  have C_ref_of := ok_ref_of (P := P) (w := w) (base := base) T
  have M_Store_exists := ok_Store_exists (P := P) (w := w) (base := base) T
  have M_Store_kind := ok_Store_kind (P := P) (w := w) (base := base) T
  have M_Store_slots := ok_Store_slots (P := P) (w := w) (base := base) T
  refine T.d_reached.ok sc_reached (fun vs H Q E h => ?_) (fun f cdv A outer s H vs Q E hr h => ⟨_, (pss_cons (ps_set (i := 2) sc_reached.nd rfl (Or.inl rfl) pe_dnewK)
      (pss_cons (k_setLc (i := 3) (own := [("word", 4)]) (g := gName 4) (by rfl) sc_reached.nd rfl rfl (sw_true rfl rfl rfl (by decide +kernel)) (pi_list (kv 1)) (blkOk_by (own := [("word", 4)]) (N := ["store", "roots", "found", "waiting", "word", "number"]) (sc := defScope s_reached) (by decide +kernel)) (fun _ _ _ _ _ => pg_name (i := 4) sc_reached.nd rfl (Or.inl rfl)) (fun _ _ _ _ _ => by exact pts_one (ktK K (kc C_is_ref (hr.mono (by decide)) (pa_cons (kv 4) pa_nil)))) (fun _ _ _ _ _ => by exact (kc C_ref_of (hr.mono (by decide)) (pa_cons (kv 4) pa_nil))))
      (pss_cons (k_while (passes_of rfl) (kt (kv 3))
      (pss_cons (ps_set (i := 5) sc_reached.nd rfl (Or.inl rfl) (pe_bm0 PySem.F.plainAttrs_list PySem.F.slot_list_pop PySem.F.type_list_pop mt_pop (kv 3)))
      (pss_one (ps_if (PW.pt (pw_and (pt_cmp (k_dnotin (hu_of hr) (kv 5) (kv 2))) (pw_and1 (kt (km M_Store_exists (hr.mono (by decide)) (kv 0) (pa_cons (kv 5) pa_nil))))))
      (pss_cons (k_dput (hu_of hr) (kv 2) (kv 5) pe_bl)
      (pss_one (k_for (passes_of rfl) rfl (pi_list (pe_op o_add (pe_lst (pa_cons (km M_Store_kind (hr.mono (by decide)) (kv 0) (pa_cons (kv 5) pa_nil)) pa_nil)) (km M_Store_slots (hr.mono (by decide)) (kv 0) (pa_cons (kv 5) pa_nil)))) (pg_name (i := 4) sc_reached.nd rfl (Or.inl rfl))
      (pss_one (ps_if (PW.pt (pw_and (kt (kc C_is_ref (hr.mono (by decide)) (pa_cons (kv 4) pa_nil))) (pw_and1 (pt_cmp (k_dnotin (hu_of hr) (kc C_ref_of (hr.mono (by decide)) (pa_cons (kv 4) pa_nil)) (kv 2))))))
      (pss_one (ps_expr (pe_bm PySem.F.plainAttrs_list PySem.F.slot_list_append PySem.F.type_list_append mt_append (kv 3) (pa_cons (kc C_ref_of (hr.mono (by decide)) (pa_cons (kv 4) pa_nil)) pa_nil))))
      pss_nil)))))
      pss_nil))))
      (pss_one (ps_ret (kv 2)))))), ?_⟩)
  · obtain ⟨_, _, _, _, _, _, _, _, rfl, _⟩ := h; rfl
  · obtain ⟨st, wd, pl, rt, rm, en, B, R, rfl, S, hR, hB, hRl, h⟩ := h
    walk_at "kk"
    intro p hp
    walk_at "kk"
    refine lc_ii (fun w => if w % 2 = 0 then some (w / 2) else none) (.of (by walk_at "hp")) (lt_line (by omega)) ?_ ?_
    · intro i x D acc Cy Cn hx hD h1 h2
      walk_at "kw"
      by_cases c : x % 2 = 0
      · have h1 := h1 (x / 2) (if_pos c)
        simp only [c, decide_true]
        exact ⟨trivial, h1⟩
      · have h2 := h2 (if_neg c)
        simp only [c, decide_false]
        exact h2
    intro q hq
    have q0 : H q = none := by walk_at "nn"
    have qp : q ≠ p := by walk_at "ne"
    have nq : q ∉ fpS st wd pl := notin_of q0 S.there
    have np : p ∉ fpS st wd pl := notin_of hp S.there
    simp only [List.mem_cons, List.not_mem_nil, or_false, not_or] at nq np
    obtain ⟨nq1, nq2, nq3⟩ := nq
    obtain ⟨np1, np2, np3⟩ := np
    obtain ⟨W, hW⟩ : ∃ W : Nat → L2.St → Hp → Prop, W = fun m σ H' => ∃ F Wt kvs v1 v2, σ = [some (.ref st), some (.ref rt), some (.ref p), some (.ref q), v1, v2] ∧ m = Wt.length + pot F B ∧ m ≤ 3000001 ∧ DI B R F Wt ∧ Fnd kvs F ∧ H' p = some (.dK kvs) ∧ H' q = some (.lst (Wt.map .int)) ∧ KW.Fr [] H H' := ⟨_, rfl⟩
    refine ⟨W, ⟨_, by rw [hW]; exact ⟨[], refs R, [], none, none, rfl, rfl, (by have := pot_flat [] B; have := refs_len R; omega), .init B R, .nil, by walk_at "hp", upd_same, (Fr.new hp).trans (Fr.new hq)⟩⟩, ?_⟩
    intro m σ H' hw
    rw [hW] at hw
    obtain ⟨F, Wt, kvs, v1, v2, rfl, rfl, hm, D, hF, hp', hq', fr⟩ := hw
    have S1 := S.fr0 fr
    rcases List.eq_nil_or_concat Wt with rfl | ⟨W', n, rfl⟩
    · walk_at "kk"
      exact h p F kvs H' hp fr hp' hF D.nd (D.done S.nd)
    · rw [List.concat_eq_append] at hm D hq' ⊢
      rw [List.map_append] at hq'
      have S2 : Sto a.Store (upd H' q (.lst (W'.map V.int))) st wd pl rm en B := S1.fr (l := [q]) (Fr.upd (by simp)) (by simp [Ne.symm nq1]) (by simp [Ne.symm nq2]) (by simp [Ne.symm nq3])
      have fr2 : KW.Fr [] H (upd H' q (.lst (W'.map V.int))) := fun b o hb hH => by
        have : b ≠ q := by walk_at "ne"
        rw [upd_ne this]; exact fr b o hb hH
      walk_at "kk"
      rw [hF.mem n]
      by_cases c : n ∈ F
      · rw [decide_eq_true c]
        walk_at "kk"
        rw [hW]
        refine ⟨_, ?_, F, W', kvs, _, _, rfl, rfl, ?_, D.skip (.inl c), hF, by walk_at "hp", upd_same, fr2⟩
        · simp
        · simp at hm; omega
      rw [decide_eq_false c]
      walk_at "kk"
      cases el : lv B n with
      | false =>
        walk_at "kk"
        rw [hW]
        refine ⟨_, ?_, F, W', kvs, _, _, rfl, rfl, ?_, D.skip (.inr el), hF, by walk_at "hp", upd_same, fr2⟩
        · simp
        · simp at hm; omega
      | true =>
        obtain ⟨i, e, hi, ha, rfl⟩ := lv_iff.mp el
        have kl := hF.len
        have fl := rch_len D.nd D.sF
        have lf := len_flat B
        walk_at "kk"
        have S3 : Sto a.Store (upd (upd H' q (.lst (W'.map V.int))) p (.dK (putK kvs (.inl e.n) (.bl true)))) st wd pl rm en B := S2.fr (l := [p]) (Fr.upd (by simp)) (by simp [Ne.symm np1]) (by simp [Ne.symm np2]) (by simp [Ne.symm np3])
        have hF3 := hF.put c
        have fr3 : KW.Fr [] H (upd (upd H' q (.lst (W'.map V.int))) p (.dK (putK kvs (.inl e.n) (.bl true)))) := fun b o hb hH => by
          have : b ≠ p := by walk_at "ne"
          rw [upd_ne this]; exact fr2 b o hb hH
        have p3 : upd (upd H' q (.lst (W'.map V.int))) p (.dK (putK kvs (.inl e.n) (.bl true))) p = some (.dK (putK kvs (.inl e.n) (.bl true))) := by walk_at "hp"
        have q3 : upd (upd H' q (.lst (W'.map V.int))) p (.dK (putK kvs (.inl e.n) (.bl true))) q = some (.lst (W'.map V.int)) := by walk_at "hp"
        revert S3 hF3 fr3 p3 q3
        generalize upd (upd H' q (.lst (W'.map V.int))) p (.dK (putK kvs (.inl e.n) (.bl true))) = H3
        generalize putK kvs (.inl e.n) (.bl true) = kvs3
        intro S3 hF3 fr3 p3 q3
        walk_at "kk"
        refine kind_s S3 hi ha rfl ?_
        walk_at "kk"
        intro t1 ht1
        have S4 := S3.new (o := .lst [.int e.k]) ht1
        walk_at "kk"
        refine slots_s S4 hi ha rfl fun t2 ht2 => ?_
        have o3 := off_add hi
        refine ucat_l (xs := [.int e.k]) (zs := e.s.map V.int) (by walk_at "hp") (by walk_at "hp") (le_line (by simp only [List.length_map, List.length_cons, List.length_nil]; omega)) fun t3 ht3 => ?_
        walk_at "kk"
        generalize hU : (fun σ' H' => ∃ m', m' < W'.length + 1 + pot F B ∧ W m' σ' H' : L2.St → Hp → Prop) = U
        have x1 : t1 ≠ p := by walk_at "ne"
        have x2 : t1 ≠ q := by walk_at "ne"
        have x3 : t2 ≠ p := by walk_at "ne"
        have x4 : t2 ≠ q := by walk_at "ne"
        have x5 : t3 ≠ p := by walk_at "ne"
        have x6 : t3 ≠ q := by walk_at "ne"
        have fr5 : KW.Fr [] H (upd (upd (upd H3 t1 (.lst [.int e.k])) t2 (.lst (e.s.map .int))) t3 (.lst (.int e.k :: e.s.map .int))) := fr3.trans ((Fr.new ht1).trans ((Fr.new ht2).trans (Fr.new ht3)))
        have p5 : upd (upd (upd H3 t1 (.lst [.int e.k])) t2 (.lst (e.s.map .int))) t3 (.lst (.int e.k :: e.s.map .int)) p = some (.dK kvs3) := by walk_at "hp"
        have q5 : upd (upd (upd H3 t1 (.lst [.int e.k])) t2 (.lst (e.s.map .int))) t3 (.lst (.int e.k :: e.s.map .int)) q = some (.lst (W'.map V.int)) := by walk_at "hp"
        have t5 : upd (upd (upd H3 t1 (.lst [.int e.k])) t2 (.lst (e.s.map .int))) t3 (.lst (.int e.k :: e.s.map .int)) t3 = some (.lst ((e.k :: e.s).map V.int)) := upd_same
        revert fr5 p5 q5 t5
        generalize upd (upd (upd H3 t1 (.lst [.int e.k])) t2 (.lst (e.s.map .int))) t3 (.lst (.int e.k :: e.s.map .int)) = H5
        intro fr5 p5 q5 t5
        have ee : V.int e.k :: e.s.map V.int = (e.k :: e.s).map V.int := rfl
        generalize hwl : e.k :: e.s = wl at t5
        have wll : wl.length = e.s.length + 1 := by rw [← hwl]; rfl
        obtain ⟨fx, hfx⟩ : ∃ fx : Int → Option Int, fx = fun w => if w % 2 = 0 ∧ w / 2 ∉ F ++ [e.n] then some (w / 2) else none := ⟨_, rfl⟩
        refine for_lst (xs := wl.map V.int) (fun i σ H' => ∃ v1, σ = [some (.ref st), some (.ref rt), some (.ref p), some (.ref q), v1, some (.int e.n)] ∧ H' p = some (.dK kvs3) ∧ H' q = some (.lst ((W' ++ (wl.take i).filterMap fx).map V.int)) ∧ H' t3 = some (.lst (wl.map V.int)) ∧ KW.Fr [] H H') ⟨_, rfl, p5, by simpa using q5, t5, fr5⟩ ?_ ?_ ?_
        · rintro i σ H' - ⟨v1, -, -, -, h, -⟩
          exact .of h
        · rintro i x σ H' hx ⟨v1, rfl, p6, q6, t6, fr6⟩
          rw [List.getElem?_map] at hx
          obtain ⟨y, hy, rfl⟩ := Option.map_eq_some_iff.mp hx
          have et : wl.take (i + 1) = wl.take i ++ [y] := by rw [List.take_add_one, hy]; rfl
          have hl : ((wl.take i).filterMap fx).length ≤ wl.length := Nat.le_trans (List.length_filterMap_le _ _) (by rw [List.length_take]; omega)
          simp at hm
          have hfy : fx y = if y % 2 = 0 ∧ y / 2 ∉ F ++ [e.n] then some (y / 2) else none := by rw [hfx]
          walk_at "kk"
          by_cases c2 : y % 2 = 0
          · rw [if_pos c2]
            refine ⟨c2, din_i p6 ?_⟩
            rw [hF3.mem]
            by_cases c3 : y / 2 ∈ F ++ [e.n]
            · rw [decide_eq_true c3]
              walk_at "kk"
              rw [if_neg (fun z => z.2 c3)] at hfy
              exact ⟨by rw [et, List.filterMap_append]; simpa [hfy] using q6, t6, fr6⟩
            · rw [decide_eq_false c3]
              walk_at "kk"
              rw [if_pos ⟨c2, c3⟩] at hfy
              refine ⟨by walk_at "hp", ?_, by walk_at "hp", fun b o hb hH => ?_⟩
              · rw [upd_same, et, List.filterMap_append]
                simp [hfy]
              · have : b ≠ q := by walk_at "ne"
                rw [upd_ne this]; exact fr6 b o hb hH
          · rw [if_neg c2]
            rw [if_neg (fun z => c2 z.1)] at hfy
            exact ⟨p6, by rw [et, List.filterMap_append]; simpa [hfy] using q6, t6, fr6⟩
        · rintro σ H' ⟨v1, rfl, p6, q6, t6, fr6⟩
          subst hU
          rw [List.length_map, List.take_length] at q6
          rw [hW]
          have x1 : ∀ m ∈ wl.filterMap fx, m ∈ refs wl := fun m hm => by
            obtain ⟨w, h1, h2⟩ := List.mem_filterMap.mp hm
            rw [hfx] at h2
            dsimp only at h2
            split at h2
            · rename_i c2; cases h2; exact mem_refs.mpr ⟨w, h1, c2.1, rfl⟩
            · cases h2
          have x2 : ∀ m ∈ refs wl, m ∈ F ++ [e.n] ∨ m ∈ wl.filterMap fx := fun m hm => by
            obtain ⟨w, h1, h2, rfl⟩ := mem_refs.mp hm
            by_cases c2 : w / 2 ∈ F ++ [e.n]
            · exact .inl c2
            · exact .inr (List.mem_filterMap.mpr ⟨w, h1, by rw [hfx]; exact if_pos ⟨h2, c2⟩⟩)
          have x3 := pot_lt hi ha c
          have x4 : (wl.filterMap fx).length ≤ wl.length := List.length_filterMap_le _ _
          simp at hm
          subst hwl
          exact ⟨_, by simp; omega, F ++ [e.n], _, kvs3, v1, _, rfl, rfl, by simp; omega, D.take S.nd hi ha c x1 x2, hF3, p6, q6, fr6⟩
theorem ok_collect (T : Txt P w K mg a) (TB : LamX.TabB base mg a.c_Store_close_up a.p_Store_close_up) : Cal P w K mg base 4 "collect_collecting" (spCollect a.Store a.p_Store_close_up ("Store.close_up" ++ ".<locals>." ++ "<lambda>")) := by
  have C_reached := ok_reached (P := P) (w := w) (base := base) T
  have M_Store_numbers := ok_Store_numbers (P := P) (w := w) (base := base) T
  have M_Store_drop := ok_Store_drop (P := P) (w := w) (base := base) T
  have M_Store_close_up := ok_Store_close_up (P := P) (w := w) (base := base) T TB
  refine T.d_collect_collecting.ok sc_collect (fun vs H Q E h => ?_) (fun f cdv A outer s H vs Q E hr h => ⟨_, (pss_cons (ps_set (i := 2) sc_collect.nd rfl (Or.inr rfl) (kc C_reached (hr.mono (by decide)) (pa_cons (kv 0) (pa_cons (kv 1) pa_nil))))
      (pss_cons (k_setLc (i := 3) (own := [("number", 4)]) (g := gName 4) (by rfl) sc_collect.nd rfl rfl (sw_true rfl rfl rfl (by decide +kernel)) (pi_list (km0 M_Store_numbers (hr.mono (by decide)) (kv 0))) (blkOk_by (own := [("number", 4)]) (N := ["store", "roots", "found", "gone", "number"]) (sc := defScope s_collect) (by decide +kernel)) (fun _ _ _ _ _ => pg_name (i := 4) sc_collect.nd rfl (Or.inl rfl)) (fun _ _ _ _ _ => by exact pts_one (pt_cmp (k_dnotin (hu_of hr) (kv 4) (kv 2)))) (fun _ _ _ _ _ => by exact (kv 4)))
      (pss_cons (k_for (passes_of rfl) rfl (pi_list (kv 3)) (pg_name (i := 4) sc_collect.nd rfl (Or.inl rfl))
      (pss_one (ps_expr (km M_Store_drop (hr.mono (by decide)) (kv 0) (pa_cons (kv 4) pa_nil)))))
      (pss_cons (ps_expr (km0 M_Store_close_up (hr.mono (by decide)) (kv 0)))
      (pss_one (ps_ret (pe_callB c_len (by rfl) T.n_len (by decide +kernel) (pa_cons (kv 3) pa_nil)))))))), ?_⟩)
  · obtain ⟨_, _, _, _, _, _, _, _, rfl, _⟩ := h; rfl
  · obtain ⟨st, wd, pl, rt, rm, en, B, R, rfl, S, hR, hT, hB, hRl, h⟩ := h
    generalize a.p_Store_close_up = P0 at *
    have lB := len_flat B
    walk_at "kk"
    refine reached_s S hR hB hRl fun p F kvs H1 hp f1 hk fnd ndF hF => ?_
    have S1 := S.fr0 f1
    have T1 := hT.fr0 f1
    walk_at "kk"
    refine numbers_s S1 (by omega) fun ns l q1 q2 q3 => ?_
    have f2 : KW.Fr [] H1 (upd H1 l (.lst (ns.map V.int))) := Fr.new q3
    have S2 := S1.fr0 f2
    have T2 := T1.fr0 f2
    have hk2 := f2 _ _ (by simp) hk
    have hl2 : IL (upd H1 l (.lst (ns.map V.int))) l ns := upd_same
    revert f2 S2 T2 hk2 hl2
    generalize upd H1 l (.lst (ns.map V.int)) = H2
    intro f2 S2 T2 hk2 hl2
    have nl := q1.length_eq
    have nl2 := nums_len B
    walk_at "kk"
    refine lc_ii (fun n => if (!decide (n ∈ F)) = true then some n else none) (.of hl2) (lt_line (by omega)) ?_ ?_
    · intro i x D acc Cy Cn hx hD h1 h2
      have pD : p ≠ D := ne_of_none hk2 hD
      walk_at "kk"
      rw [fnd.mem]
      by_cases c : x ∈ F
      · rw [if_neg (by simp [c])]
        exact h2 (if_neg (by simp [c]))
      · rw [if_pos (by simp [c])]
        exact h1 x (if_pos (by simp [c]))
    intro go q4
    have ef : ns.filterMap (fun n => if (!decide (n ∈ F)) = true then some n else none) = ns.filter fun n => !decide (n ∈ F) := by
      rw [fm_if (fun n => !decide (n ∈ F)) (fun n => n) ns]; simp
    rw [ef]
    have gl := gone_len ndF (fun n hn => ((hF n).mp hn).lv) S.nd q1
    have gm := fun n h => gone_iff (F := F) q1 (n := n) h
    have gnd : (ns.filter fun n => !decide (n ∈ F)).Nodup := (q1.nodup_iff.mpr (nums_nodup S.nd)).sublist List.filter_sublist
    have gle : (ns.filter fun n => !decide (n ∈ F)).length ≤ ns.length := List.length_filter_le _ _
    have gm2 : ∀ n ∈ (ns.filter fun n => !decide (n ∈ F)), lv B n = true := fun n hn => mem_nums.mp (q1.mem_iff.mp (List.mem_filter.mp hn).1)
    revert gl gm gnd gle gm2 q4
    generalize (ns.filter fun n => !decide (n ∈ F)) = D
    intro q4 gl gm gnd gle gm2
    have f3 : KW.Fr [] H2 (upd H2 go (.lst (D.map V.int))) := Fr.new q4
    have S3 := S2.fr0 f3
    have T3 := T2.fr0 f3
    have hg3 : IL (upd H2 go (.lst (D.map V.int))) go D := upd_same
    have ngo : go ∉ fpS st wd pl := notin_of q4 S2.there
    simp only [List.mem_cons, List.not_mem_nil, or_false, not_or] at ngo
    revert f3 S3 T3 hg3
    generalize upd H2 go (.lst (D.map V.int)) = H3
    intro f3 S3 T3 hg3
    have F3 : KW.Fr [] H H3 := f1.trans (f2.trans f3)
    walk_at "kk"
    generalize hD : ({ nx := _, rt := Q } : Ends) = DD
    obtain ⟨Pv, hPv⟩ : ∃ Pv : Nat → L2.St → Hp → Prop, Pv = fun i σ H' => ∃ v4, σ = [some (.ref st), some (.ref rt), some (.ref p), some (.ref go), v4] ∧ Sto a.Store H' st wd pl rm en (kill (D.take i) B) ∧ KW.Fr [st, pl] H3 H' ∧ LamX.TabS H' P0 ("Store.close_up" ++ ".<locals>." ++ "<lambda>") := ⟨_, rfl⟩
    refine for_lst (xs := D.map V.int) Pv (by rw [hPv]; exact ⟨_, rfl, by rw [List.take_zero, kill_nil]; exact S3, Fr.refl _, T3⟩) ?_ ?_ ?_
    · intro i σ H' _ hp
      rw [hPv] at hp
      obtain ⟨v4, -, -, fr, -⟩ := hp
      exact .of (fr go _ (by simp [ngo.1, ngo.2.2]) hg3)
    · intro i x σ H' hx hp
      rw [hPv] at hp
      obtain ⟨v4, rfl, S4, fr, T4⟩ := hp
      rw [List.getElem?_map] at hx
      obtain ⟨n, hy, rfl⟩ := Option.map_eq_some_iff.mp hx
      obtain ⟨j, e, hj, ha, rfl⟩ := lv_iff.mp (gm2 n (List.mem_of_getElem? hy))
      have et : D.take (i + 1) = D.take i ++ [e.n] := by rw [List.take_add_one, hy]; rfl
      have nin : e.n ∉ D.take i := fun z => by
        obtain ⟨k, hk⟩ := List.getElem?_of_mem z
        have hk2 : k < i := by
          have := (List.getElem?_eq_some_iff.mp hk).1
          rw [List.length_take] at this; omega
        rw [List.getElem?_take_of_lt hk2] at hk
        have := (List.getElem?_inj (List.getElem?_eq_some_iff.mp hk).1 gnd).mp (hk.trans hy.symm)
        omega
      obtain ⟨k1, k2⟩ := kill_set S.nd hj ha nin
      walk_at "kk"
      refine drop_s S4 k1 ha rfl fun H5 S5 f5 => ?_
      walk_at "kk"
      rw [hPv]
      rw [k2, ← et] at S5
      exact ⟨_, rfl, S5, fr.trans f5, T4.frl f5 fun y hy => S4.pln y (by simp at hy; rcases hy with rfl | rfl <;> simp)⟩
    · intro σ H' hp
      rw [hPv] at hp
      obtain ⟨v4, rfl, S4, fr, T4⟩ := hp
      subst hD
      rw [List.length_map, List.take_length] at S4
      have lk := flat_kill D B
      have hg4 := fr go _ (by simp [ngo.1, ngo.2.2]) hg3
      walk_at "kk"
      refine ⟨st, wd, pl, rm, en, kill D B, rfl, S4, T4, by rw [lk]; exact hB, fun H5 wd' pl' S5 z1 z2 f5 T5 => ?_⟩
      rw [alv_kill (F := F) (fun n hn => gm n hn)] at S5
      have F4 : KW.Fr [st, pl] H H' := (F3.mono (by simp)).trans fr
      have nP : go ≠ P0 := T4.ne hg4 fun ps z => by cases z
      have hg5 := f5 go _ (by simp [ngo.1, nP]) hg4
      have ex : ∀ y ∈ [st, pl], H' y ≠ none := fun y hy => by
        obtain ⟨o, ho⟩ := S4.there y (by simp at hy; rcases hy with rfl | rfl <;> simp)
        rw [ho]; simp
      walk_at "kk"
      rw [gl]
      exact h F H5 wd' pl' ndF hF S5 (F4.none (fun m => ex _ m z1) z1) (F4.none (fun m => ex _ m z2) z2) ((F4.mono (by simp)).trans (f5.mono fun y hy => by simp at hy ⊢; rcases hy with rfl | rfl <;> simp)) T5
end
end K64

set_option Elab.async false
set_option linter.all false
set_option maxRecDepth 100000
set_option maxHeartbeats 4000000
/-! SpT: graphs of numbers and rows; what is reached -/
namespace ST
open PySem PySem.Spec PyProof.Rows L2 KW
abbrev Gr := Int → Option (List Int)
inductive Rg (g : Gr) (R : List Int) : Int → Prop
  | root {w : Int} {r : List Int} : w ∈ R → w % 2 = 0 → g (w / 2) = some r → Rg g R (w / 2)
  | step {n w : Int} {r r' : List Int} : Rg g R n → g n = some r → w ∈ r → w % 2 = 0 → g (w / 2) = some r' → Rg g R (w / 2)
theorem Rg.some {g : Gr} {R : List Int} {n : Int} (h : Rg g R n) : ∃ r, g n = some r := by cases h <;> exact ⟨_, by assumption⟩
theorem Rg_ext {g : Gr} {R R' : List Int} (h : ∀ w, w ∈ R ↔ w ∈ R') (n : Int) : Rg g R n ↔ Rg g R' n := by
  constructor
  · intro q
    induction q with
    | root hw e hr => exact .root ((h _).mp hw) e hr
    | step h1 hr hw e hr' ih => exact .step ih hr hw e hr'
  · intro q
    induction q with
    | root hw e hr => exact .root ((h _).mpr hw) e hr
    | step h1 hr hw e hr' ih => exact .step ih hr hw e hr'
/-- a walk with a row of waiting words -/
structure DW (g : Gr) (R F W : List Int) : Prop where
  sF : ∀ n ∈ F, Rg g R n
  sW : ∀ w ∈ W, w % 2 = 0 → ∀ r, g (w / 2) = some r → Rg g R (w / 2)
  ro : ∀ w ∈ R, w % 2 = 0 → ∀ r, g (w / 2) = some r → w / 2 ∈ F ∨ w ∈ W
  cl : ∀ n ∈ F, ∀ r, g n = some r → ∀ w ∈ r, w % 2 = 0 → ∀ r', g (w / 2) = some r' → w / 2 ∈ F ∨ w ∈ W
  nd : F.Nodup
theorem DW.init (g : Gr) (R : List Int) : DW g R [] R where
  sF := fun n h => by cases h
  sW := fun w h e r hr => .root h e hr
  ro := fun w h e r hr => .inr h
  cl := fun n h => by cases h
  nd := List.nodup_nil
theorem DW.skip {g : Gr} {R F W : List Int} {w : Int} (d : DW g R F (W ++ [w])) (h : w % 2 = 0 → ∀ r, g (w / 2) = some r → w / 2 ∈ F) : DW g R F W where
  sF := d.sF
  sW := fun v hv => d.sW v (by simp [hv])
  ro := fun v hv e r hr => by
    rcases d.ro v hv e r hr with q | q
    · exact .inl q
    · rcases List.mem_append.mp q with q | q
      · exact .inr q
      · have : v = w := by simpa using q
        subst this
        exact .inl (h e r hr)
  cl := fun n hn r hr v hv e r' hr' => by
    rcases d.cl n hn r hr v hv e r' hr' with q | q
    · exact .inl q
    · rcases List.mem_append.mp q with q | q
      · exact .inr q
      · have : v = w := by simpa using q
        subst this
        exact .inl (h e r' hr')
  nd := d.nd
theorem DW.take {g : Gr} {R F W : List Int} {w : Int} {r : List Int} (d : DW g R F (W ++ [w])) (e : w % 2 = 0) (hr : g (w / 2) = some r) (hn : w / 2 ∉ F) : DW g R (F ++ [w / 2]) (W ++ r) := by
  have rw2 : Rg g R (w / 2) := d.sW w (by simp) e r hr
  refine ⟨fun n hn => ?_, fun v hv ev r' hr' => ?_, fun v hv ev r' hr' => ?_, fun n hn r1 h1 v hv ev r' hr' => ?_, ?_⟩
  · rcases List.mem_append.mp hn with q | q
    · exact d.sF n q
    · have : n = w / 2 := by simpa using q
      rw [this]; exact rw2
  · rcases List.mem_append.mp hv with q | q
    · exact d.sW v (by simp [q]) ev r' hr'
    · exact .step rw2 hr q ev hr'
  · rcases d.ro v hv ev r' hr' with q | q
    · exact .inl (by simp [q])
    · rcases List.mem_append.mp q with q | q
      · exact .inr (by simp [q])
      · have : v = w := by simpa using q
        subst this
        exact .inl (by simp)
  · rcases List.mem_append.mp hn with q | q
    · rcases d.cl n q r1 h1 v hv ev r' hr' with q | q
      · exact .inl (by simp [q])
      · rcases List.mem_append.mp q with q | q
        · exact .inr (by simp [q])
        · have : v = w := by simpa using q
          subst this
          exact .inl (by simp)
    · have : n = w / 2 := by simpa using q
      subst this
      rw [hr] at h1; cases h1
      exact .inr (by simp [hv])
  · rw [List.nodup_append]
    refine ⟨d.nd, by simp, fun a ha b hb => ?_⟩
    simp at hb; subst hb
    intro z; subst z; exact hn ha
theorem DW.done {g : Gr} {R F : List Int} (d : DW g R F []) (n : Int) : n ∈ F ↔ Rg g R n := by
  refine ⟨d.sF n, fun h => ?_⟩
  induction h with
  | root hw e hr => rcases d.ro _ hw e _ hr with q | q; exact q; cases q
  | step h1 hr hw e hr' ih => rcases d.cl _ ih _ hr _ hw e _ hr' with q | q; exact q; cases q
/-- how much may still be walked -/
def potG (g : Gr) (F : List Int) : List Int → Nat
  | [] => 0
  | n :: ks => (if n ∈ F then 0 else ((g n).getD []).length + 1) + potG g F ks
theorem potG_le (g : Gr) (F : List Int) (n : Int) : ∀ ks, potG g (F ++ [n]) ks ≤ potG g F ks
  | [] => Nat.le_refl _
  | m :: ks => by
    have := potG_le g F n ks
    unfold potG
    by_cases c : m ∈ F
    · rw [if_pos c, if_pos (by simp [c])]; omega
    · rw [if_neg c]; split <;> omega
theorem potG_lt {g : Gr} {F : List Int} {n : Int} {r : List Int} (hr : g n = some r) (hn : n ∉ F) : ∀ {ks : List Int}, n ∈ ks → potG g (F ++ [n]) ks + (r.length + 1) ≤ potG g F ks
  | [], h => by cases h
  | m :: ks, h => by
    unfold potG
    by_cases c : m = n
    · subst c
      have := potG_le g F m ks
      rw [if_pos (by simp), if_neg hn, hr]
      simp only [Option.getD_some]; omega
    · have := potG_lt hr hn (ks := ks) (by rcases List.mem_cons.mp h with q | q; exact absurd q.symm c; exact q)
      by_cases d : m ∈ F
      · rw [if_pos d, if_pos (by simp [d])]; omega
      · rw [if_neg d, if_neg (by simp [d, c])]; omega
theorem pot_bound {g : Gr} : ∀ {A : List Blk}, (∀ e ∈ A, ((g e.n).getD []).length ≤ e.s.length + 1) → potG g [] (A.map fun e => e.n) ≤ (flat A).length
  | [], _ => Nat.le_refl _
  | e :: A, h => by
    have ih := pot_bound (g := g) (A := A) fun x hx => h x (by simp [hx])
    have h1 := h e (by simp)
    rw [List.map_cons, flat_cons, List.length_append, Blk.ws_len]
    unfold potG
    rw [if_neg (by simp)]
    omega
/-! places -/
inductive Plc
  | root (k : Nat)
  | kind (n : Int)
  | slot (n : Int) (j : Nat)
def Plc.row : Plc → Int → List Int → List Int
  | .root _, _, r => r
  | .kind n, m, r => if m = n then r.set 0 0 else r
  | .slot n j, m, r => if m = n then r.set (1 + j) 0 else r
def Plc.roots : Plc → List Int → List Int
  | .root k, ws => ws.set k 0
  | _, ws => ws
def Plc.g (p : Plc) (g : Gr) : Gr := fun n => (g n).map (p.row n)
theorem Plc.row_len (p : Plc) (n : Int) (r : List Int) : (p.row n r).length = r.length := by
  cases p <;> simp only [Plc.row] <;> (try split) <;> simp
theorem Plc.roots_len (p : Plc) (r : List Int) : (p.roots r).length = r.length := by
  cases p <;> simp [Plc.roots]
theorem Plc.kind_eq (n : Int) (r : List Int) : (Plc.kind n).row n r = r.set 0 0 := if_pos rfl
theorem Plc.kind_ne {n m : Int} (r : List Int) (h : m ≠ n) : (Plc.kind m).row n r = r := if_neg (fun z => h z.symm)
theorem Plc.slot_eq (n : Int) (j : Nat) (r : List Int) : (Plc.slot n j).row n r = r.set (1 + j) 0 := if_pos rfl
theorem Plc.slot_ne {n m : Int} (j : Nat) (r : List Int) (h : m ≠ n) : (Plc.slot m j).row n r = r := if_neg (fun z => h z.symm)
theorem Plc.row_mem {p : Plc} {n w : Int} {r : List Int} (h : w ∈ p.row n r) : w ∈ r ∨ w = 0 := by
  cases p with
  | root k => exact .inl h
  | kind m =>
    simp only [Plc.row] at h
    split at h
    · exact List.mem_or_eq_of_mem_set h
    · exact .inl h
  | slot m j =>
    simp only [Plc.row] at h
    split at h
    · exact List.mem_or_eq_of_mem_set h
    · exact .inl h
theorem Plc.roots_mem {p : Plc} {w : Int} {r : List Int} (h : w ∈ p.roots r) : w ∈ r ∨ w = 0 := by
  cases p with
  | root k => exact List.mem_or_eq_of_mem_set h
  | kind m => exact .inl h
  | slot m j => exact .inl h
theorem Rg_mono {p : Plc} {g : Gr} {ws : List Int} {n : Int} (h : Rg (p.g g) (0 :: p.roots ws) n) : Rg g (0 :: ws) n := by
  have key : ∀ {w : Int} {r' : List Int}, p.g g (w / 2) = some r' → ∃ r, g (w / 2) = some r := fun h => by
    unfold Plc.g at h
    obtain ⟨r, hr, _⟩ := Option.map_eq_some_iff.mp h
    exact ⟨r, hr⟩
  induction h with
  | root hw e hr =>
    obtain ⟨r, hr⟩ := key hr
    refine .root (r := r) ?_ e hr
    rcases List.mem_cons.mp hw with q | q
    · simp [q]
    · rcases p.roots_mem q with q | q
      · simp [q]
      · simp [q]
  | @step n w r r' h1 hr hw e hr' ih =>
    obtain ⟨r2, hr2⟩ := key hr'
    unfold Plc.g at hr
    obtain ⟨r3, hr3, hr4⟩ := Option.map_eq_some_iff.mp hr
    rw [← hr4] at hw
    rcases p.row_mem hw with q | q
    · exact .step ih hr3 q e hr2
    · exact .root (r := r2) (by simp [q]) e hr2
/-! the graph of a store -/
def gB (B : List Blk) : Gr := fun n => (blkAt B n).map fun e => e.k :: e.s
theorem gB_some {B : List Blk} {n : Int} {r : List Int} (N : Nd B) : gB B n = some r ↔ ∃ (i : Nat) (e : Blk), B[i]? = some e ∧ e.al = true ∧ e.n = n ∧ e.k :: e.s = r := by
  unfold gB
  constructor
  · intro h
    obtain ⟨e, h1, h2⟩ := Option.map_eq_some_iff.mp h
    unfold blkAt at h1
    have h3 := List.find?_some h1
    obtain ⟨i, hi⟩ := List.getElem?_of_mem (List.mem_of_find?_eq_some h1)
    simp at h3
    exact ⟨i, e, hi, h3.1, h3.2, h2⟩
  · rintro ⟨i, e, hi, ha, rfl, rfl⟩
    rw [blkAt_eq N hi ha]; rfl
theorem gB_lv {B : List Blk} {n : Int} : (gB B n).isSome = lv B n := by
  apply Bool.eq_iff_iff.mpr
  unfold gB
  rw [Option.isSome_map]
  constructor
  · intro h
    obtain ⟨e, h1⟩ := Option.isSome_iff_exists.mp h
    unfold blkAt at h1
    have h3 := List.find?_some h1
    obtain ⟨i, hi⟩ := List.getElem?_of_mem (List.mem_of_find?_eq_some h1)
    simp at h3
    rw [← h3.2]; exact lv_at hi h3.1
  · intro h
    obtain ⟨i, e, h1, _⟩ := blkAt_ex h
    rw [h1]; rfl
theorem gB_at {B : List Blk} {i : Nat} {e : Blk} (N : Nd B) (h : B[i]? = some e) (ha : e.al = true) : gB B e.n = some (e.k :: e.s) := (gB_some N).mpr ⟨i, e, h, ha, rfl, rfl⟩
theorem rch_rg {B : List Blk} (N : Nd B) {R : List Int} (n : Int) : Rch B R n ↔ Rg (gB B) R n := by
  have ex : ∀ {m : Int}, lv B m = true → ∃ r, gB B m = some r := fun h => Option.isSome_iff_exists.mp (by rw [gB_lv]; exact h)
  constructor
  · intro h
    induction h with
    | root w hw e l => obtain ⟨r, hr⟩ := ex l; exact .root hw e hr
    | step i b w hi ha h1 hw e l ih => obtain ⟨r, hr⟩ := ex l; exact .step ih (gB_at N hi ha) hw e hr
  · intro h
    induction h with
    | root hw e hr => exact .root _ hw e (by rw [← gB_lv, hr]; rfl)
    | step h1 hr hw e hr' ih =>
      obtain ⟨i, b, hi, ha, rfl, rfl⟩ := (gB_some N).mp hr
      exact .step i b _ hi ha ih hw e (by rw [← gB_lv, hr']; rfl)
theorem pot_store {B : List Blk} (N : Nd B) (c : Plc) : potG (c.g (gB B)) [] (nums B) ≤ (flat B).length := by
  rw [nums_alv]
  refine Nat.le_trans (pot_bound fun e he => ?_) flat_le
  obtain ⟨i, hi⟩ := List.getElem?_of_mem he
  obtain ⟨j, hj, ha⟩ := mem_alv hi
  unfold Plc.g
  rw [gB_at N hj ha]
  simp [Plc.row_len]
theorem opt_ext {α : Type} {a b : Option α} (h : ∀ r, a = some r ↔ b = some r) : a = b := by
  cases a with
  | none => cases b with
    | none => rfl
    | some y => exact absurd ((h y).mpr rfl) (by simp)
  | some x => exact ((h x).mp rfl).symm
theorem gB_set {B : List Blk} {i : Nat} {e f : Blk} (N : Nd B) (h : B[i]? = some e) (ha : e.al = true) (h1 : f.al = e.al) (h2 : f.n = e.n) (n : Int) : gB (B.set i f) n = if n = e.n then some (f.k :: f.s) else gB B n := by
  refine opt_ext fun r => ?_
  rw [gB_some (N.set h h1 h2)]
  constructor
  · rintro ⟨j, u, hj, ua, rfl, rfl⟩
    rw [get_set h] at hj
    split at hj
    · cases hj; rw [if_pos h2]
    · rename_i c
      rw [if_neg (fun z => c (N j i u e hj h ua ha z))]
      exact gB_at N hj ua
  · intro q
    split at q
    · rename_i c; cases q
      exact ⟨i, f, by rw [get_set h, if_pos rfl], h1 ▸ ha, by rw [h2, c], rfl⟩
    · rename_i c
      obtain ⟨j, u, hj, ua, rfl, rfl⟩ := (gB_some N).mp q
      refine ⟨j, u, ?_, ua, rfl, rfl⟩
      rw [get_set h, if_neg]; exact hj
      intro z; subst z; rw [h] at hj; cases hj; exact c rfl
theorem gB_app {B : List Blk} {e : Blk} (N : Nd B) (ha : e.al = true) (hn : lv B e.n = false) (n : Int) : gB (B ++ [e]) n = if n = e.n then some (e.k :: e.s) else gB B n := by
  refine opt_ext fun r => ?_
  rw [gB_some (N.app fun _ => hn)]
  constructor
  · rintro ⟨j, u, hj, ua, rfl, rfl⟩
    rw [List.getElem?_append] at hj
    split at hj
    · rw [if_neg, gB_at N hj ua]
      intro z; rw [← z, lv_at hj ua] at hn; cases hn
    · have : u = e := by
        have := List.mem_of_getElem? hj
        simpa using this
      subst this; rw [if_pos rfl]
  · intro q
    split at q
    · rename_i c; cases q
      exact ⟨B.length, e, by simp, ha, c.symm, rfl⟩
    · obtain ⟨j, u, hj, ua, rfl, rfl⟩ := (gB_some N).mp q
      refine ⟨j, u, ?_, ua, rfl, rfl⟩
      rw [List.getElem?_append_left (List.getElem?_eq_some_iff.mp hj).1]; exact hj
theorem gB_exch {B : List Blk} {i j : Nat} {e f : Blk} (N : Nd B) (h : B[i]? = some e) (h2 : B[j]? = some f) (ea : e.al = true) (fa : f.al = true) (n : Int) : gB (exch B i j e f) n = if n = f.n then some (e.k :: e.s) else if n = e.n then some (f.k :: f.s) else gB B n := by
  refine opt_ext fun r => ?_
  rw [gB_some (N.exch h h2 ea fa)]
  have ij : e.n = f.n → i = j := fun z => N i j e f h h2 ea fa z
  constructor
  · rintro ⟨a, u, hj, ua, rfl, rfl⟩
    rw [get_exch h h2] at hj
    split at hj
    · rename_i c; subst c; cases hj
      dsimp only
      by_cases d : e.n = f.n
      · have := ij d; subst this
        rw [h] at h2; cases h2
        rw [if_pos rfl]
      · rw [if_neg d, if_pos rfl]
    · split at hj
      · rename_i c d; subst d; cases hj; rw [if_pos rfl]
      · rename_i c d
        rw [if_neg (fun z => c (N a j u f hj h2 ua fa z)), if_neg (fun z => d (N a i u e hj h ua ea z))]
        exact gB_at N hj ua
  · intro q
    split at q
    · rename_i c; subst c; cases q
      by_cases d : i = j
      · subst d; rw [h] at h2; cases h2
        exact ⟨i, { e with n := e.n }, by rw [get_exch h h, if_pos rfl], ea, rfl, rfl⟩
      · exact ⟨i, { e with n := f.n }, by rw [get_exch h h2, if_neg d, if_pos rfl], ea, rfl, rfl⟩
    · split at q
      · rename_i c d; subst d; cases q
        exact ⟨j, { f with n := e.n }, by rw [get_exch h h2, if_pos rfl], fa, rfl, rfl⟩
      · rename_i c d
        obtain ⟨a, u, hj, ua, rfl, rfl⟩ := (gB_some N).mp q
        refine ⟨a, u, ?_, ua, rfl, rfl⟩
        rw [get_exch h h2, if_neg, if_neg]; exact hj
        · intro z; subst z; rw [h] at hj; cases hj; exact d rfl
        · intro z; subst z; rw [h2] at hj; cases hj; exact c rfl
theorem Nd.kept {B : List Blk} (N : Nd B) (F : List Int) : Nd (kept B F) := by
  intro i j e f h1 h2 e1 f1 hn
  obtain ⟨a, ha, _, _⟩ := mem_kept h1
  obtain ⟨b, hb, _, _⟩ := mem_kept h2
  have ab := N a b e f ha hb e1 f1 hn
  subst ab
  rw [ha] at hb; cases hb
  have nd : (nums (ST.kept B F)).Nodup := by
    have : (nums (ST.kept B F)).Sublist (nums B) := by
      unfold nums
      refine List.Sublist.map _ ?_
      exact (List.Sublist.filter _ List.filter_sublist)
    exact this.nodup (nums_nodup N)
  have hal : (ST.kept B F).filter (fun e => e.al) = ST.kept B F := by
    rw [List.filter_eq_self]
    intro x hx
    obtain ⟨k, hk⟩ := List.getElem?_of_mem hx
    obtain ⟨_, _, h, _⟩ := mem_kept hk
    exact h
  have hm : ∀ k : Nat, (nums (ST.kept B F))[k]? = ((ST.kept B F)[k]?).map fun e => e.n := fun k => by unfold nums; rw [hal, List.getElem?_map]
  have q1 := hm i
  have q2 := hm j
  rw [h1] at q1
  rw [h2] at q2
  exact (List.getElem?_inj (List.getElem?_eq_some_iff.mp q1).1 nd).mp (q1.trans q2.symm)
theorem gB_kept {B : List Blk} (N : Nd B) (F : List Int) (n : Int) : gB (kept B F) n = if n ∈ F then gB B n else none := by
  refine opt_ext fun r => ?_
  rw [gB_some (N.kept F)]
  constructor
  · rintro ⟨j, u, hj, ua, rfl, rfl⟩
    obtain ⟨a, ha, _, hm⟩ := mem_kept hj
    rw [if_pos hm]; exact gB_at N ha ua
  · intro q
    split at q
    · rename_i c
      obtain ⟨j, u, hj, ua, rfl, rfl⟩ := (gB_some N).mp q
      obtain ⟨k, hk⟩ := kept_mem hj ua c
      exact ⟨k, u, hk, ua, rfl, rfl⟩
    · cases q
end ST

set_option Elab.async false
set_option linter.all false
set_option maxRecDepth 100000
set_option maxHeartbeats 4000000
/-! RowH: the law's row beside the store -/
namespace ST
open PySem PySem.Spec PyProof.Rows L2 KW
structure RE where
  el : Addr
  sl : Addr
  b : Blk
def reV (r : RE) : HO := .lst [.int r.b.n, .int r.b.k, .ref r.sl, .bl r.b.al]
structure Row (H : Hp) (rw : Addr) (L : List RE) : Prop where
  hd : H rw = some (.lst (L.map fun r => .ref r.el))
  it : ∀ (i : Nat) (r : RE), L[i]? = some r → H r.el = some (reV r) ∧ H r.sl = some (.lst (r.b.s.map V.int))
  d1 : ∀ (i j : Nat) (r s : RE), L[i]? = some r → L[j]? = some s → i ≠ j → r.el ≠ s.el ∧ r.sl ≠ s.sl
  d2 : ∀ (i j : Nat) (r s : RE), L[i]? = some r → L[j]? = some s → r.el ≠ s.sl
  d3 : ∀ (i : Nat) (r : RE), L[i]? = some r → r.el ≠ rw ∧ r.sl ≠ rw
def fpR (rw : Addr) (L : List RE) : List Addr := rw :: L.flatMap fun r => [r.el, r.sl]
theorem mem_fpR {rw x : Addr} {L : List RE} : x ∈ fpR rw L ↔ x = rw ∨ ∃ (i : Nat) (r : RE), L[i]? = some r ∧ (x = r.el ∨ x = r.sl) := by
  unfold fpR
  rw [List.mem_cons, List.mem_flatMap]
  constructor
  · rintro (h | ⟨r, hr, h⟩)
    · exact .inl h
    · obtain ⟨i, hi⟩ := List.getElem?_of_mem hr
      exact .inr ⟨i, r, hi, by simpa using h⟩
  · rintro (h | ⟨i, r, hi, h⟩)
    · exact .inl h
    · exact .inr ⟨r, List.mem_of_getElem? hi, by simpa using h⟩
theorem rw_fpR {rw : Addr} {L : List RE} : rw ∈ fpR rw L := mem_fpR.mpr (.inl rfl)
theorem el_fpR {rw : Addr} {L : List RE} {i : Nat} {r : RE} (h : L[i]? = some r) : r.el ∈ fpR rw L := mem_fpR.mpr (.inr ⟨i, r, h, .inl rfl⟩)
theorem sl_fpR {rw : Addr} {L : List RE} {i : Nat} {r : RE} (h : L[i]? = some r) : r.sl ∈ fpR rw L := mem_fpR.mpr (.inr ⟨i, r, h, .inr rfl⟩)
theorem Row.fr {H H' : Hp} {rw : Addr} {L : List RE} {l : List Addr} (R : Row H rw L) (f : KW.Fr l H H') (n : ∀ x ∈ fpR rw L, x ∉ l) : Row H' rw L :=
  ⟨f _ _ (n _ rw_fpR) R.hd, fun i r h => ⟨f _ _ (n _ (el_fpR h)) (R.it i r h).1, f _ _ (n _ (sl_fpR h)) (R.it i r h).2⟩, R.d1, R.d2, R.d3⟩
theorem Row.fr0 {H H' : Hp} {rw : Addr} {L : List RE} (R : Row H rw L) (f : KW.Fr [] H H') : Row H' rw L := R.fr f (by simp)
theorem Row.there {H : Hp} {rw : Addr} {L : List RE} (R : Row H rw L) : ∀ x ∈ fpR rw L, ∃ o, H x = some o := fun x hx => by
  rcases mem_fpR.mp hx with rfl | ⟨i, r, h, rfl | rfl⟩
  · exact ⟨_, R.hd⟩
  · exact ⟨_, (R.it i r h).1⟩
  · exact ⟨_, (R.it i r h).2⟩
theorem getR {L : List RE} {i j : Nat} {e f : RE} (h : L[i]? = some e) : (L.set i f)[j]? = if j = i then some f else L[j]? := by
  rw [List.getElem?_set]
  have := (List.getElem?_eq_some_iff.mp h).1
  by_cases c : i = j
  · subst c; simp [this]
  · rw [if_neg c, if_neg (fun z => c z.symm)]
theorem map_elems {L : List RE} {i : Nat} {r r' : RE} (h : L[i]? = some r) (e : r'.el = r.el) : (L.set i r').map (fun r => V.ref r.el) = L.map fun r => V.ref r.el := by
  apply List.ext_getElem?
  intro j
  rw [List.getElem?_map, List.getElem?_map, getR h]
  split
  · rename_i c; subst c; rw [h]; simp [e]
  · rfl
theorem mem_set {rw x : Addr} {L : List RE} {i : Nat} {r r' : RE} (h : L[i]? = some r) (e1 : r'.el = r.el) (e2 : r'.sl = r.sl) : x ∈ fpR rw (L.set i r') ↔ x ∈ fpR rw L := by
  rw [mem_fpR, mem_fpR]
  constructor
  · rintro (q | ⟨j, s, hs, q⟩)
    · exact .inl q
    · rw [getR h] at hs
      split at hs
      · cases hs; exact .inr ⟨i, r, h, by rw [← e1, ← e2]; exact q⟩
      · exact .inr ⟨j, s, hs, q⟩
  · rintro (q | ⟨j, s, hs, q⟩)
    · exact .inl q
    · by_cases c : j = i
      · subst c; rw [h] at hs; cases hs
        exact .inr ⟨j, r', by rw [getR h, if_pos rfl], by rw [e1, e2]; exact q⟩
      · exact .inr ⟨j, s, by rw [getR h, if_neg c]; exact hs, q⟩
/-- the element i is written anew -/
theorem Row.setE {H : Hp} {rw : Addr} {L : List RE} {i : Nat} {r r' : RE} (R : Row H rw L) (h : L[i]? = some r) (e1 : r'.el = r.el) (e2 : r'.sl = r.sl) (e3 : r'.b.s = r.b.s) : Row (upd H r.el (reV r')) rw (L.set i r') := by
  have key : ∀ (j : Nat) (s : RE), (L.set i r')[j]? = some s → ∃ s', L[j]? = some s' ∧ s.el = s'.el ∧ s.sl = s'.sl := fun j s hs => by
    rw [getR h] at hs
    split at hs
    · rename_i c; subst c; cases hs; exact ⟨r, h, e1, e2⟩
    · exact ⟨s, hs, rfl, rfl⟩
  refine ⟨?_, fun j s hs => ?_, fun j k s t hs ht n => ?_, fun j k s t hs ht => ?_, fun j s hs => ?_⟩
  · rw [map_elems h e1, upd_ne (R.d3 i r h).1.symm]; exact R.hd
  · rw [getR h] at hs
    split at hs
    · cases hs
      exact ⟨by rw [e1, upd_same], by rw [e2, e3, upd_ne (R.d2 i i r r h h).symm]; exact (R.it i r h).2⟩
    · rename_i c
      exact ⟨by rw [upd_ne (R.d1 j i s r hs h c).1]; exact (R.it j s hs).1, by rw [upd_ne (R.d2 i j r s h hs).symm]; exact (R.it j s hs).2⟩
  · obtain ⟨s', h1, h2, h3⟩ := key j s hs
    obtain ⟨t', k1, k2, k3⟩ := key k t ht
    rw [h2, h3, k2, k3]; exact R.d1 j k s' t' h1 k1 n
  · obtain ⟨s', h1, h2, h3⟩ := key j s hs
    obtain ⟨t', k1, k2, k3⟩ := key k t ht
    rw [h2, k3]; exact R.d2 j k s' t' h1 k1
  · obtain ⟨s', h1, h2, h3⟩ := key j s hs
    rw [h2, h3]; exact R.d3 j s' h1
/-- its slots are written anew -/
theorem Row.setS {H : Hp} {rw : Addr} {L : List RE} {i : Nat} {r r' : RE} (R : Row H rw L) (h : L[i]? = some r) (e1 : r'.el = r.el) (e2 : r'.sl = r.sl) (e3 : r'.b.n = r.b.n) (e4 : r'.b.k = r.b.k) (e5 : r'.b.al = r.b.al) : Row (upd H r.sl (.lst (r'.b.s.map V.int))) rw (L.set i r') := by
  have key : ∀ (j : Nat) (s : RE), (L.set i r')[j]? = some s → ∃ s', L[j]? = some s' ∧ s.el = s'.el ∧ s.sl = s'.sl := fun j s hs => by
    rw [getR h] at hs
    split at hs
    · rename_i c; subst c; cases hs; exact ⟨r, h, e1, e2⟩
    · exact ⟨s, hs, rfl, rfl⟩
  refine ⟨?_, fun j s hs => ?_, fun j k s t hs ht n => ?_, fun j k s t hs ht => ?_, fun j s hs => ?_⟩
  · rw [map_elems h e1, upd_ne (R.d3 i r h).2.symm]; exact R.hd
  · rw [getR h] at hs
    split at hs
    · cases hs
      refine ⟨?_, by rw [e2, upd_same]⟩
      rw [e1, upd_ne (R.d2 i i r r h h)]
      have := (R.it i r h).1
      unfold reV at this ⊢
      rw [e2, e3, e4, e5]; exact this
    · rename_i c
      exact ⟨by rw [upd_ne (R.d2 j i s r hs h)]; exact (R.it j s hs).1, by rw [upd_ne (R.d1 j i s r hs h c).2]; exact (R.it j s hs).2⟩
  · obtain ⟨s', h1, h2, h3⟩ := key j s hs
    obtain ⟨t', k1, k2, k3⟩ := key k t ht
    rw [h2, h3, k2, k3]; exact R.d1 j k s' t' h1 k1 n
  · obtain ⟨s', h1, h2, h3⟩ := key j s hs
    obtain ⟨t', k1, k2, k3⟩ := key k t ht
    rw [h2, k3]; exact R.d2 j k s' t' h1 k1
  · obtain ⟨s', h1, h2, h3⟩ := key j s hs
    rw [h2, h3]; exact R.d3 j s' h1
theorem getA {α : Type} {L : List α} {x y : α} {j : Nat} (h : (L ++ [x])[j]? = some y) : (L[j]? = some y ∧ j < L.length) ∨ (j = L.length ∧ y = x) := by
  rw [List.getElem?_append] at h
  split at h
  · rename_i z; exact .inl ⟨h, z⟩
  · rename_i z
    have hx : j - L.length = 0 := by
      have := (List.getElem?_eq_some_iff.mp h).1
      simpa using this
    rw [hx] at h
    exact .inr ⟨by omega, by simpa using h.symm⟩
/-- an element more -/
theorem Row.app {H : Hp} {rw : Addr} {L : List RE} {r : RE} (R : Row H rw L) (h1 : H r.el = some (reV r)) (h2 : H r.sl = some (.lst (r.b.s.map V.int))) (n1 : r.el ∉ fpR rw L) (n2 : r.sl ∉ fpR rw L) (n3 : r.el ≠ r.sl) : Row (upd H rw (.lst ((L ++ [r]).map fun r => .ref r.el))) rw (L ++ [r]) := by
  have m1 : r.el ≠ rw := fun z => n1 (z ▸ rw_fpR)
  have m2 : r.sl ≠ rw := fun z => n2 (z ▸ rw_fpR)
  refine ⟨upd_same, fun j s hs => ?_, fun j k s t hs ht n => ?_, fun j k s t hs ht => ?_, fun j s hs => ?_⟩
  · rcases getA hs with ⟨q, _⟩ | ⟨_, rfl⟩
    · rw [upd_ne (R.d3 j s q).1, upd_ne (R.d3 j s q).2]; exact R.it j s q
    · rw [upd_ne m1, upd_ne m2]; exact ⟨h1, h2⟩
  · rcases getA hs with ⟨q, l⟩ | ⟨q, rfl⟩ <;> rcases getA ht with ⟨p, l'⟩ | ⟨p, rfl⟩
    · exact R.d1 j k s t q p n
    · exact ⟨fun z => n1 (z ▸ el_fpR q), fun z => n2 (z ▸ sl_fpR q)⟩
    · exact ⟨fun z => n1 (z ▸ el_fpR p), fun z => n2 (z ▸ sl_fpR p)⟩
    · omega
  · rcases getA hs with ⟨q, l⟩ | ⟨q, rfl⟩ <;> rcases getA ht with ⟨p, l'⟩ | ⟨p, rfl⟩
    · exact R.d2 j k s t q p
    · exact fun z => n2 (z ▸ el_fpR q)
    · exact fun z => n1 (z ▸ sl_fpR p)
    · exact n3
  · rcases getA hs with ⟨q, l⟩ | ⟨q, rfl⟩
    · exact R.d3 j s q
    · exact ⟨m1, m2⟩
theorem Row.nil {H : Hp} {rw : Addr} (h : H rw = some (.lst [])) : Row H rw [] := ⟨h, fun i r h => by simp at h, fun i j r s h => by simp at h, fun i j r s h => by simp at h, fun i r h => by simp at h⟩
abbrev blks (L : List RE) : List Blk := L.map fun r => r.b
theorem blks_at {L : List RE} {i : Nat} {r : RE} (h : L[i]? = some r) : (blks L)[i]? = some r.b := by rw [List.getElem?_map, h]; rfl
theorem blks_set (L : List RE) (i : Nat) (r : RE) : blks (L.set i r) = (blks L).set i r.b := by rw [blks, List.map_set]
theorem flat_len_set {B : List Blk} {i : Nat} {e f : Blk} (h : B[i]? = some e) (l : f.s.length = e.s.length) : (flat (B.set i f)).length = (flat B).length := by
  rw [flat_set h, flat_at h]; simp only [List.length_append, Blk.ws_len, l]
theorem flatlen_set {L : List RE} {i : Nat} {r r' : RE} (h : L[i]? = some r) (l : r'.b.s.length = r.b.s.length) : (flat (blks (L.set i r'))).length = (flat (blks L)).length := by
  rw [blks_set]; exact flat_len_set (blks_at h) l
/-- store and row -/
structure SR (C : Addr) (H : Hp) (st wd pl rw : Addr) (rm en : Int) (L : List RE) : Prop where
  S : Sto C H st wd pl rm en (blks L)
  R : Row H rw L
  sep : ∀ x ∈ fpS st wd pl, x ∉ fpR rw L
def fpSR (st wd pl rw : Addr) (L : List RE) : List Addr := fpS st wd pl ++ fpR rw L
section
variable {C : Addr} {H H' : Hp} {st wd pl rw : Addr} {rm en : Int} {L L' : List RE} {l : List Addr}
theorem inS {x : Addr} (h : x ∈ fpS st wd pl) : x ∈ fpSR st wd pl rw L := List.mem_append.mpr (.inl h)
theorem inR {x : Addr} (h : x ∈ fpR rw L) : x ∈ fpSR st wd pl rw L := List.mem_append.mpr (.inr h)
theorem SR.fr (Z : SR C H st wd pl rw rm en L) (f : KW.Fr l H H') (n : ∀ x ∈ fpSR st wd pl rw L, x ∉ l) : SR C H' st wd pl rw rm en L :=
  ⟨Z.S.fr f (n _ (inS (by simp))) (n _ (inS (by simp))) (n _ (inS (by simp))), Z.R.fr f fun x hx => n x (inR hx), Z.sep⟩
theorem SR.fr0 (Z : SR C H st wd pl rw rm en L) (f : KW.Fr [] H H') : SR C H' st wd pl rw rm en L := Z.fr f (by simp)
theorem SR.there (Z : SR C H st wd pl rw rm en L) : ∀ x ∈ fpSR st wd pl rw L, ∃ o, H x = some o := fun x hx => by
  rcases List.mem_append.mp hx with h | h
  · exact Z.S.there x h
  · exact Z.R.there x h
theorem sep_set {i : Nat} {r r' : RE} (sep : ∀ x ∈ fpS st wd pl, x ∉ fpR rw L) (h : L[i]? = some r) (e1 : r'.el = r.el) (e2 : r'.sl = r.sl) : ∀ x ∈ fpS st wd pl, x ∉ fpR rw (L.set i r') := fun x hx z => sep x hx ((mem_set h e1 e2).mp z)
theorem fpSR_set {i : Nat} {r r' : RE} {x : Addr} (h : L[i]? = some r) (e1 : r'.el = r.el) (e2 : r'.sl = r.sl) : x ∈ fpSR st wd pl rw (L.set i r') ↔ x ∈ fpSR st wd pl rw L := by
  unfold fpSR
  rw [List.mem_append, List.mem_append, mem_set h e1 e2]
theorem stp_set {i : Nat} {r r' : RE} (h : L[i]? = some r) (e1 : r'.el = r.el) (e2 : r'.sl = r.sl) (f : KW.Fr (fpSR st wd pl rw L) H H') : Stp (fpSR st wd pl rw L) (fpSR st wd pl rw (L.set i r')) H H' := ⟨f, fun x hx => .inl ((fpSR_set h e1 e2).mp hx)⟩
end
section
variable {C : Addr} {H H1 H2 : Hp} {st wd pl rw : Addr} {rm en : Int} {L : List RE} {l : List Addr} {i : Nat} {r r' : RE} {o : HO}
theorem SR.stE (Z : SR C H st wd pl rw rm en L) (h : L[i]? = some r) : Sto C (upd H r.el o) st wd pl rm en (blks L) := by
  have n : r.el ∉ fpS st wd pl := fun z => Z.sep _ z (el_fpR h)
  simp only [List.mem_cons, List.not_mem_nil, or_false, not_or] at n
  exact Z.S.fr (l := [r.el]) (Fr.upd (by simp)) (by simp [Ne.symm n.1]) (by simp [Ne.symm n.2.1]) (by simp [Ne.symm n.2.2])
theorem SR.stS (Z : SR C H st wd pl rw rm en L) (h : L[i]? = some r) : Sto C (upd H r.sl o) st wd pl rm en (blks L) := by
  have n : r.sl ∉ fpS st wd pl := fun z => Z.sep _ z (sl_fpR h)
  simp only [List.mem_cons, List.not_mem_nil, or_false, not_or] at n
  exact Z.S.fr (l := [r.sl]) (Fr.upd (by simp)) (by simp [Ne.symm n.1]) (by simp [Ne.symm n.2.1]) (by simp [Ne.symm n.2.2])
theorem SR.upE (Z : SR C H st wd pl rw rm en L) (h : L[i]? = some r) (e1 : r'.el = r.el) (e2 : r'.sl = r.sl) (e3 : r'.b.s = r.b.s) (S2 : Sto C H2 st wd pl rm en ((blks L).set i r'.b)) (f2 : KW.Fr l (upd H r.el (reV r')) H2) (hl : ∀ x ∈ l, x ∈ fpS st wd pl) :
    SR C H2 st wd pl rw rm en (L.set i r') ∧ Stp (fpSR st wd pl rw L) (fpSR st wd pl rw (L.set i r')) H H2 := by
  have sp1 := sep_set (r' := r') Z.sep h e1 e2
  exact ⟨⟨by rw [blks_set]; exact S2, (Z.R.setE h e1 e2 e3).fr f2 fun y hy z => sp1 y (hl y z) hy, sp1⟩, stp_set h e1 e2 ((Fr.upd (inR (el_fpR h))).trans (f2.mono fun y hy => inS (hl y hy)))⟩
theorem SR.upS (Z : SR C H st wd pl rw rm en L) (h : L[i]? = some r) (e1 : r'.el = r.el) (e2 : r'.sl = r.sl) (e3 : r'.b.n = r.b.n) (e4 : r'.b.k = r.b.k) (e5 : r'.b.al = r.b.al) (S2 : Sto C H2 st wd pl rm en ((blks L).set i r'.b)) (f2 : KW.Fr l (upd H r.sl (.lst (r'.b.s.map V.int))) H2) (hl : ∀ x ∈ l, x ∈ fpS st wd pl) :
    SR C H2 st wd pl rw rm en (L.set i r') ∧ Stp (fpSR st wd pl rw L) (fpSR st wd pl rw (L.set i r')) H H2 := by
  have sp1 := sep_set (r' := r') Z.sep h e1 e2
  exact ⟨⟨by rw [blks_set]; exact S2, (Z.R.setS h e1 e2 e3 e4 e5).fr f2 fun y hy z => sp1 y (hl y z) hy, sp1⟩, stp_set h e1 e2 ((Fr.upd (inR (sl_fpR h))).trans (f2.mono fun y hy => inS (hl y hy)))⟩
end
/-- among the living ones -/
theorem mem_living {L : List RE} {j : Nat} {r : RE} (h : (L.filter fun r => r.b.al)[j]? = some r) : ∃ i : Nat, L[i]? = some r ∧ r.b.al = true := by
  have := List.mem_of_getElem? h
  rw [List.mem_filter] at this
  obtain ⟨i, hi⟩ := List.getElem?_of_mem this.1
  exact ⟨i, hi, this.2⟩
/-! ### promises of the law's own defs -/
def spNumber : Sp := fun vs H Q _ => ∃ (c k : Int), vs = [.int c, .int k] ∧ 0 ≤ k ∧ k ≤ 100000 ∧ ∀ v, 0 ≤ v → Q (.int v) H
def spIs : Sp := fun vs H Q _ => ∃ (b c : V), vs = [b, c] ∧ ((∃ x y, b = .int x ∧ c = .int y ∧ Q (.bl (decide (x = y))) H))
def spSame : Sp := fun vs H Q _ => ∃ (p q : Addr) (xs : List Int), vs = [.ref p, .ref q] ∧ IL H p xs ∧ IL H q xs ∧ xs.length ≤ 16000000 ∧ Q (.bl true) H
def spLiving : Sp := fun vs H Q _ => ∃ (rw : Addr) (L : List RE), vs = [.ref rw] ∧ Row H rw L ∧ L.length ≤ 1000000 ∧ ∀ l, H l = none → Q (.ref l) (upd H l (.lst ((L.filter fun r => r.b.al).map fun r => .ref r.el)))
def spFlat : Sp := fun vs H Q _ => ∃ (rw : Addr) (L : List RE), vs = [.ref rw] ∧ Row H rw L ∧ (flat (blks L)).length ≤ 2000000 ∧ ∀ l H', H l = none → KW.Fr [] H H' → IL H' l (flat (blks L)) → Q (.ref l) H'
end ST

set_option Elab.async false
set_option linter.all false
set_option maxRecDepth 100000
set_option maxHeartbeats 4000000
/-! RowP: promises of k04, k05 -/
namespace ST
open PySem PySem.Spec PyProof.Rows L2 KW
def spGrown (C : Addr) : Sp := fun vs H Q _ => ∃ (st wd pl rw : Addr) (L : List RE) (x : Int), vs = [.ref st, .ref rw, .int x] ∧ SR C H st wd pl rw 100000 100000 L ∧ L.length ≤ 200 ∧ (flat (blks L)).length ≤ 20000 ∧
  ∀ L' H', SR C H' st wd pl rw 100000 100000 L' → L'.length = L.length + 1 → (flat (blks L')).length ≤ (flat (blks L)).length + 50 → Stp (fpSR st wd pl rw L) (fpSR st wd pl rw L') H H' → Q .non H'
def spLinked (C : Addr) : Sp := fun vs H Q _ => ∃ (st wd pl rw : Addr) (L : List RE) (x : Int), vs = [.ref st, .ref rw, .int x] ∧ SR C H st wd pl rw 100000 100000 L ∧ L.length ≤ 200 ∧ (flat (blks L)).length ≤ 20000 ∧
  ∀ L' H', SR C H' st wd pl rw 100000 100000 L' → L'.length = L.length → (flat (blks L')).length = (flat (blks L)).length → Stp (fpSR st wd pl rw L) (fpSR st wd pl rw L') H H' → Q .non H'
def spChained (C : Addr) : Sp := fun vs H Q _ => ∃ (st wd pl rw : Addr) (L : List RE), vs = [.ref st, .ref rw] ∧ SR C H st wd pl rw 100000 100000 L ∧ L.length ≤ 200 ∧ (flat (blks L)).length ≤ 20000 ∧
  ∀ L' H', SR C H' st wd pl rw 100000 100000 L' → L'.length = L.length → (flat (blks L')).length = (flat (blks L)).length → Stp (fpSR st wd pl rw L) (fpSR st wd pl rw L') H H' → Q .non H'
def spBuilt (C : Addr) : Sp := fun vs H Q _ => ∃ (st wd pl ce : Addr) (cs : List Int), vs = [.ref st, .ref ce] ∧ Sto C H st wd pl 100000 100000 [] ∧ IL H ce cs ∧ ce ∉ fpS st wd pl ∧ 2 ≤ cs.length ∧
  ∀ L' rw H', SR C H' st wd pl rw 100000 100000 L' → L'.length ≤ 100 → (flat (blks L')).length ≤ 10000 → Stp (fpS st wd pl) (fpSR st wd pl rw L') H H' → Q (.ref rw) H'
def spDue : Sp := fun vs H Q _ => ∃ (rw rt : Addr) (L : List RE) (R : List Int), vs = [.ref rw, .ref rt] ∧ Row H rw L ∧ IL H rt R ∧ Nd (blks L) ∧ L.length ≤ 200 ∧ R.length ≤ 1000 ∧ (flat (blks L)).length ≤ 20000 ∧
  ∀ (l : Addr) (F ys : List Int) (H' : Hp), H l = none → KW.Fr [] H H' → IL H' l ys → F.Nodup → (∀ n, n ∈ F ↔ Rch (blks L) R n) → ys.Perm F → ys.Pairwise (· ≤ ·) → Q (.ref l) H'
def spRoots : Sp := fun vs H Q _ => ∃ (rw ce : Addr) (L : List RE) (cs : List Int), vs = [.ref rw, .ref ce] ∧ Row H rw L ∧ IL H ce cs ∧ L.length ≤ 200 ∧ cs.length ≤ 1000 ∧ ∀ (l : Addr) (R : List Int) (H' : Hp), H l = none → KW.Fr [] H H' → IL H' l R → R.length ≤ 1000 → Q (.ref l) H'
def spWord2 : Sp := fun vs H Q _ => ∃ (x m : Int), vs = [.int x, .int m] ∧ 0 ≤ m ∧ m ≤ 100000 ∧ ∀ v, Q (.int v) H
section
variable {C : Addr} {H H' H2 : Hp} {st wd pl rw : Addr} {rm en : Int} {L : List RE} {Q : VK} {E : XK}
theorem living_s (R : Row H rw L) (hl : L.length ≤ 1000000) (q : ∀ l, H l = none → Q (.ref l) (upd H l (.lst ((L.filter fun r => r.b.al).map fun r => .ref r.el)))) : spLiving [.ref rw] H Q E := ⟨rw, L, rfl, R, hl, q⟩
theorem flat_s (R : Row H rw L) (hl : (flat (blks L)).length ≤ 2000000) (q : ∀ l H', H l = none → KW.Fr [] H H' → IL H' l (flat (blks L)) → Q (.ref l) H') : spFlat [.ref rw] H Q E := ⟨rw, L, rfl, R, hl, q⟩
theorem num_s {c k : Int} (h0 : 0 ≤ k) (h1 : k ≤ 100000) (q : ∀ v, 0 ≤ v → Q (.int v) H) : spNumber [.int c, .int k] H Q E := ⟨c, k, rfl, h0, h1, q⟩
theorem word2_s {x m : Int} (h0 : 0 ≤ m) (h1 : m ≤ 100000) (q : ∀ v, Q (.int v) H) : spWord2 [.int x, .int m] H Q E := ⟨x, m, rfl, h0, h1, q⟩
theorem is_s {x y : Int} (q : Q (.bl (decide (x = y))) H) : spIs [.int x, .int y] H Q E := ⟨_, _, rfl, x, y, rfl, rfl, q⟩
theorem same_s {p q : Addr} {xs : List Int} (h1 : IL H p xs) (h2 : IL H q xs) (hl : xs.length ≤ 16000000) (k : Q (.bl true) H) : spSame [.ref p, .ref q] H Q E := ⟨p, q, xs, rfl, h1, h2, hl, k⟩
/-- an element of the living ones, by its place in their list -/
theorem pick {L : List RE} {r : Int} (h0 : 0 ≤ r) (h1 : r < ((L.filter fun r => r.b.al).length : Int)) : ∃ (i : Nat) (e : RE), atI ((L.filter fun r => r.b.al).map fun r => V.ref r.el) r = some (.ref e.el) ∧ (L.filter fun r => r.b.al)[r.toNat]? = some e ∧ L[i]? = some e ∧ e.b.al = true := by
  obtain ⟨j, rfl⟩ := Int.eq_ofNat_of_zero_le h0
  have hj : j < (L.filter fun r => r.b.al).length := by omega
  obtain ⟨e, he⟩ : ∃ e, (L.filter fun r => r.b.al)[j]? = some e := ⟨_, List.getElem?_eq_getElem hj⟩
  obtain ⟨i, h1, h2⟩ := mem_living he
  exact ⟨i, e, atI_map he, by simpa using he, h1, h2⟩
theorem sepE (Z : SR C H st wd pl rw rm en L) {i : Nat} {e : RE} (h : L[i]? = some e) : e.el ∉ fpS st wd pl := fun z => Z.sep _ z (el_fpR h)
theorem sepL (Z : SR C H st wd pl rw rm en L) {i : Nat} {e : RE} (h : L[i]? = some e) : e.sl ∉ fpS st wd pl := fun z => Z.sep _ z (sl_fpR h)
theorem fr_sub {l m : List Addr} {H H' : Hp} (f : KW.Fr l H H') (h : ∀ x ∈ l, x ∈ m) : KW.Fr m H H' := f.mono h
theorem Stp.new {f g : List Addr} {H H' : Hp} {p : Addr} {o : HO} (a : Stp f g H H') (h : H' p = none) : Stp f g H (upd H' p o) := a.trans (Stp.of (Fr.new h))
theorem Stp.fr0 {f g : List Addr} {H H' H2 : Hp} (a : Stp f g H H') (h : KW.Fr [] H' H2) : Stp f g H H2 := a.trans (Stp.of (h.mono (by simp)))
end
/-- some of the elements, in another list -/
theorem Row.sub {H : Hp} {rw rw' : Addr} {L L' : List RE} (R : Row H rw L) (s : L'.Sublist L) (h : H rw' = some (.lst (L'.map fun r => .ref r.el))) (n : rw' ∉ fpR rw L) : Row H rw' L' := by
  have mem : ∀ (i : Nat) (r : RE), L'[i]? = some r → ∃ j : Nat, L[j]? = some r := fun i r hi => List.getElem?_of_mem (s.mem (List.mem_of_getElem? hi))
  have pw : L.Pairwise fun r s => r.el ≠ s.el ∧ r.sl ≠ s.sl := by
    rw [List.pairwise_iff_getElem]
    intro i j hi hj hij
    exact R.d1 i j _ _ (List.getElem?_eq_getElem hi) (List.getElem?_eq_getElem hj) (by omega)
  have pw' := pw.sublist s
  rw [List.pairwise_iff_getElem] at pw'
  refine ⟨h, fun i r hi => ?_, fun i j r t hi hj hij => ?_, fun i j r t hi hj => ?_, fun i r hi => ?_⟩
  · obtain ⟨k, hk⟩ := mem i r hi; exact R.it k r hk
  · obtain ⟨i1, i2⟩ := List.getElem?_eq_some_iff.mp hi
    obtain ⟨j1, j2⟩ := List.getElem?_eq_some_iff.mp hj
    rcases Nat.lt_or_gt_of_ne hij with c | c
    · have := pw' i j i1 j1 c; rw [i2, j2] at this; exact this
    · have := pw' j i j1 i1 c; rw [i2, j2] at this; exact ⟨this.1.symm, this.2.symm⟩
  · obtain ⟨k, hk⟩ := mem i r hi
    obtain ⟨m, hm⟩ := mem j t hj
    exact R.d2 k m r t hk hm
  · obtain ⟨k, hk⟩ := mem i r hi
    exact ⟨fun z => n (z ▸ el_fpR hk), fun z => n (z ▸ sl_fpR hk)⟩
theorem Row.lst {H : Hp} {rw : Addr} {L : List RE} (R : Row H rw L) : ∀ x ∈ fpR rw L, ∃ xs, H x = some (.lst xs) := fun x hx => by
  rcases mem_fpR.mp hx with rfl | ⟨i, r, h, rfl | rfl⟩
  · exact ⟨_, R.hd⟩
  · exact ⟨_, (R.it i r h).1⟩
  · exact ⟨_, (R.it i r h).2⟩
end ST

set_option Elab.async false
set_option linter.all false
set_option maxRecDepth 100000
set_option maxHeartbeats 4000000
/-! SpH: a space in the heap, a dict of rows; promises -/
namespace ST
open PySem PySem.Spec PyProof.Rows L2 KW LamX
/-- a row of a dict: its number, its words, its list -/
structure RW where
  n : Int
  r : List Int
  a : Addr
def kvR (D : List RW) : KVs := D.map fun d => (.inl d.n, .ref d.a)
def gR (D : List RW) : Gr := fun n => (D.find? fun d => decide (d.n = n)).map fun d => d.r
abbrev nsR (D : List RW) : List Int := D.map fun d => d.n
structure Rws (H : Hp) (rw : Addr) (D : List RW) : Prop where
  dc : H rw = some (.dK (kvR D))
  rs : ∀ d ∈ D, IL H d.a d.r
  nd : (nsR D).Nodup
theorem kvR_keys (D : List RW) : (kvR D).map (·.1) = (nsR D).map Sum.inl := by unfold kvR nsR; rw [List.map_map, List.map_map]; rfl
theorem kvR_len (D : List RW) : (kvR D).length = D.length := by unfold kvR; rw [List.length_map]
theorem valV_kvR (D : List RW) (n : Int) : valV (kvR D) (.inl n) = (D.find? fun d => decide (d.n = n)).map fun d => .ref d.a := by
  induction D with
  | nil => rfl
  | cons d D ih =>
    by_cases c : d.n = n
    · rw [List.find?_cons_of_pos (by simp [c])]
      exact valV_pos (p := (Sum.inl d.n, V.ref d.a)) (r := kvR D) (by rw [c])
    · rw [List.find?_cons_of_neg (by simp [c]), ← ih]
      exact valV_neg (p := (Sum.inl d.n, V.ref d.a)) (r := kvR D) (fun z => c (by cases z; rfl))
theorem find_rw {D : List RW} (nd : (nsR D).Nodup) {d : RW} (h : d ∈ D) : (D.find? fun x => decide (x.n = d.n)) = some d := by
  induction D with
  | nil => cases h
  | cons e D ih =>
    simp only [nsR, List.map_cons, List.nodup_cons] at nd
    by_cases c : e.n = d.n
    · rw [List.find?_cons_of_pos (by simp [c])]
      rcases List.mem_cons.mp h with q | q
      · rw [q]
      · exact absurd (List.mem_map.mpr ⟨d, q, c.symm⟩) nd.1
    · rw [List.find?_cons_of_neg (by simp [c])]
      refine ih nd.2 ?_
      rcases List.mem_cons.mp h with q | q
      · exact absurd (by rw [q]) c
      · exact q
theorem find_ex {D : List RW} {n : Int} {d : RW} (h : (D.find? fun x => decide (x.n = n)) = some d) : d ∈ D ∧ d.n = n := ⟨List.mem_of_find?_eq_some h, by simpa using List.find?_some h⟩
theorem gR_at {D : List RW} (nd : (nsR D).Nodup) {d : RW} (h : d ∈ D) : gR D d.n = some d.r := by unfold gR; rw [find_rw nd h]; rfl
theorem gR_ex {D : List RW} {n : Int} {r : List Int} (h : gR D n = some r) : ∃ d ∈ D, d.n = n ∧ d.r = r := by
  unfold gR at h
  obtain ⟨d, h1, h2⟩ := Option.map_eq_some_iff.mp h
  obtain ⟨h3, h4⟩ := find_ex h1
  exact ⟨d, h3, h4, h2⟩
theorem gR_isS {D : List RW} {n : Int} : (gR D n).isSome = decide (n ∈ nsR D) := by
  apply Bool.eq_iff_iff.mpr
  rw [decide_eq_true_eq]
  constructor
  · intro h
    obtain ⟨r, hr⟩ := Option.isSome_iff_exists.mp h
    obtain ⟨d, h1, h2, _⟩ := gR_ex hr
    exact List.mem_map.mpr ⟨d, h1, h2⟩
  · intro h
    obtain ⟨d, h1, h2⟩ := List.mem_map.mp h
    unfold gR
    rw [Option.isSome_map, List.find?_isSome]
    exact ⟨d, h1, by simpa using h2⟩
theorem pot_rows {D : List RW} (nd : (nsR D).Nodup) (h : ∀ d ∈ D, d.r.length ≤ 30) : potG (gR D) [] (nsR D) ≤ 31 * D.length := by
  have key : ∀ D' : List RW, (∀ d ∈ D', d ∈ D) → potG (gR D) [] (nsR D') ≤ 31 * D'.length := by
    intro D'
    induction D' with
    | nil => intro _; exact Nat.le_refl _
    | cons e D' ih =>
      intro hs
      have he := hs e (by simp)
      have i := ih fun d hd => hs d (by simp [hd])
      have b := h e he
      show (if e.n ∈ [] then 0 else ((gR D e.n).getD []).length + 1) + potG (gR D) [] (nsR D') ≤ _
      rw [if_neg (by simp), gR_at nd he, List.length_cons]
      simp only [Option.getD_some]; omega
  exact key D fun d hd => hd
theorem val_at {D : List RW} (nd : (nsR D).Nodup) {d : RW} (h : d ∈ D) : valV (kvR D) (.inl d.n) = some (.ref d.a) := by rw [valV_kvR, find_rw nd h]; rfl
theorem val_is (D : List RW) (n : Int) : (valV (kvR D) (.inl n)).isSome = decide (n ∈ nsR D) := by rw [← gR_isS, valV_kvR]; unfold gR; rw [Option.isSome_map, Option.isSome_map]
abbrev fpW (rw : Addr) (D : List RW) : List Addr := rw :: D.map fun d => d.a
theorem Rws.fr {H H' : Hp} {rw : Addr} {D : List RW} {l : List Addr} (s : Rws H rw D) (f : KW.Fr l H H') (n : ∀ x ∈ fpW rw D, x ∉ l) : Rws H' rw D :=
  ⟨f _ _ (n _ (by simp)) s.dc, fun d hd => f _ _ (n _ (by simp; exact .inr ⟨d, hd, rfl⟩)) (s.rs d hd), s.nd⟩
theorem Rws.fr0 {H H' : Hp} {rw : Addr} {D : List RW} (s : Rws H rw D) (f : KW.Fr [] H H') : Rws H' rw D := s.fr f fun _ _ => by simp
theorem Rws.there {H : Hp} {rw : Addr} {D : List RW} (s : Rws H rw D) : ∀ x ∈ fpW rw D, ∃ o, H x = some o := fun x hx => by
  rcases List.mem_cons.mp hx with q | q
  · rw [q]; exact ⟨_, s.dc⟩
  · obtain ⟨d, hd, rfl⟩ := List.mem_map.mp q
    exact ⟨_, s.rs d hd⟩
/-- a space -/
structure Spd where
  (sp st wd pl pr ro he : Addr)
  (al co : Int)
  B : List Blk
  R : List Int
  L : List Int
abbrev fpP (d : Spd) : List Addr := [d.sp, d.st, d.wd, d.pl, d.pr, d.ro, d.he]
abbrev Spd.ws (d : Spd) : List Int := 0 :: (d.R ++ d.L)
structure Spc (CS C : Addr) (H : Hp) (d : Spd) : Prop where
  ob : ∃ dx, H d.sp = some (.ins CS dx [("store", .ref d.st), ("pressure", .ref d.pr), ("always", .bl false), ("allocations", .int d.al), ("collections", .int d.co), ("_roots", .ref d.ro), ("_held", .ref d.he), ("_saved", .non)])
  S : Sto C H d.st d.wd d.pl 100000 100000 d.B
  pe : H d.pr = some (.lst [])
  rt : IL H d.ro d.R
  hl : IL H d.he d.L
  r16 : d.R.length = 16
  l9 : d.L.length ≤ 1000
  bd : (flat d.B).length ≤ 100000
  nn : (fpP d).Nodup
section
variable {CS C : Addr} {H H' : Hp} {d : Spd}
theorem Spc.fr {l : List Addr} (s : Spc CS C H d) (f : KW.Fr l H H') (n : ∀ x ∈ fpP d, x ∉ l) : Spc CS C H' d := by
  obtain ⟨⟨dx, ob⟩, S, pe, rt, hl, r16, l9, bd, nn⟩ := s
  exact ⟨⟨dx, f _ _ (n _ (by simp)) ob⟩, S.fr f (n _ (by simp)) (n _ (by simp)) (n _ (by simp)), f _ _ (n _ (by simp)) pe, f _ _ (n _ (by simp)) rt, f _ _ (n _ (by simp)) hl, r16, l9, bd, nn⟩
theorem Spc.fr0 (s : Spc CS C H d) (f : KW.Fr [] H H') : Spc CS C H' d := s.fr f fun _ _ => by simp
theorem Spc.there (s : Spc CS C H d) : ∀ x ∈ fpP d, ∃ o, H x = some o := by
  obtain ⟨⟨dx, ob⟩, S, pe, rt, hl, r16, l9, bd, nn⟩ := s
  intro x hx
  simp only [List.mem_cons, List.not_mem_nil, or_false] at hx
  rcases hx with rfl | rfl | rfl | rfl | rfl | rfl | rfl
  · exact ⟨_, ob⟩
  · exact S.there _ (by simp)
  · exact S.there _ (by simp)
  · exact S.there _ (by simp)
  · exact ⟨_, pe⟩
  · exact ⟨_, rt⟩
  · exact ⟨_, hl⟩
theorem Spc.pln (s : Spc CS C H d) : ∀ x ∈ fpP d, ∃ o, H x = some o ∧ Pln o := by
  obtain ⟨⟨dx, ob⟩, S, pe, rt, hl, r16, l9, bd, nn⟩ := s
  intro x hx
  simp only [List.mem_cons, List.not_mem_nil, or_false] at hx
  rcases hx with rfl | rfl | rfl | rfl | rfl | rfl | rfl
  · exact ⟨_, ob, pln_ins⟩
  · exact S.pln _ (by simp)
  · exact S.pln _ (by simp)
  · exact S.pln _ (by simp)
  · exact ⟨_, pe, pln_lst⟩
  · exact ⟨_, rt, pln_lst⟩
  · exact ⟨_, hl, pln_lst⟩
theorem Spc.nes (s : Spc CS C H d) : (d.sp ≠ d.st ∧ d.sp ≠ d.wd ∧ d.sp ≠ d.pl ∧ d.sp ≠ d.pr ∧ d.sp ≠ d.ro ∧ d.sp ≠ d.he) ∧ (d.st ≠ d.wd ∧ d.st ≠ d.pl ∧ d.st ≠ d.pr ∧ d.st ≠ d.ro ∧ d.st ≠ d.he) ∧ (d.wd ≠ d.pl ∧ d.wd ≠ d.pr ∧ d.wd ≠ d.ro ∧ d.wd ≠ d.he) ∧ (d.pl ≠ d.pr ∧ d.pl ≠ d.ro ∧ d.pl ≠ d.he) ∧ (d.pr ≠ d.ro ∧ d.pr ≠ d.he) ∧ d.ro ≠ d.he := by
  have := s.nn
  simp only [fpP, List.nodup_cons, List.mem_cons, List.not_mem_nil, or_false, not_or, not_false_eq_true, List.nodup_nil, and_true] at this
  exact this
/-- the store changed in its words -/
theorem Spc.word {B : List Blk} (s : Spc CS C H d) (S : Sto C H' d.st d.wd d.pl 100000 100000 B) (f : KW.Fr [d.wd] H H') (hb : (flat B).length ≤ 100000) : Spc CS C H' { d with B := B } := by
  obtain ⟨⟨q1, q2, q3, q4, q5, q6⟩, ⟨q7, q8, q9, q10, q11⟩, ⟨q12, q13, q14, q15⟩, ⟨q16, q17, q18⟩, ⟨q19, q20⟩, q21⟩ := s.nes
  obtain ⟨⟨dx, ob⟩, S0, pe, rt, hl, r16, l9, bd, nn⟩ := s
  exact ⟨⟨dx, f _ _ (by simp [q2]) ob⟩, S, f _ _ (by simp [Ne.symm q13]) pe, f _ _ (by simp [Ne.symm q14]) rt, f _ _ (by simp [Ne.symm q15]) hl, r16, l9, hb, nn⟩
theorem Spc.xch {B : List Blk} (s : Spc CS C H d) (S : Sto C H' d.st d.wd d.pl 100000 100000 B) (f : KW.Fr [d.wd, d.pl] H H') (hb : (flat B).length ≤ 100000) : Spc CS C H' { d with B := B } := by
  obtain ⟨⟨q1, q2, q3, q4, q5, q6⟩, ⟨q7, q8, q9, q10, q11⟩, ⟨q12, q13, q14, q15⟩, ⟨q16, q17, q18⟩, ⟨q19, q20⟩, q21⟩ := s.nes
  obtain ⟨⟨dx, ob⟩, S0, pe, rt, hl, r16, l9, bd, nn⟩ := s
  exact ⟨⟨dx, f _ _ (by simp [q2, q3]) ob⟩, S, f _ _ (by simp [Ne.symm q13, Ne.symm q16]) pe, f _ _ (by simp [Ne.symm q14, Ne.symm q17]) rt, f _ _ (by simp [Ne.symm q15, Ne.symm q18]) hl, r16, l9, hb, nn⟩
theorem Spc.app {B : List Blk} (s : Spc CS C H d) (S : Sto C H' d.st d.wd d.pl 100000 100000 B) (f : KW.Fr [d.st, d.wd, d.pl] H H') (hb : (flat B).length ≤ 100000) : Spc CS C H' { d with B := B } := by
  obtain ⟨⟨q1, q2, q3, q4, q5, q6⟩, ⟨q7, q8, q9, q10, q11⟩, ⟨q12, q13, q14, q15⟩, ⟨q16, q17, q18⟩, ⟨q19, q20⟩, q21⟩ := s.nes
  obtain ⟨⟨dx, ob⟩, S0, pe, rt, hl, r16, l9, bd, nn⟩ := s
  exact ⟨⟨dx, f _ _ (by simp [q1, q2, q3]) ob⟩, S, f _ _ (by simp [Ne.symm q9, Ne.symm q13, Ne.symm q16]) pe, f _ _ (by simp [Ne.symm q10, Ne.symm q14, Ne.symm q17]) rt, f _ _ (by simp [Ne.symm q11, Ne.symm q15, Ne.symm q18]) hl, r16, l9, hb, nn⟩
theorem Spc.cnt {al co : Int} {dx : Addr} (s : Spc CS C H d) (hH : H' = upd H d.sp (.ins CS dx [("store", .ref d.st), ("pressure", .ref d.pr), ("always", .bl false), ("allocations", .int al), ("collections", .int co), ("_roots", .ref d.ro), ("_held", .ref d.he), ("_saved", .non)])) : Spc CS C H' { d with al := al, co := co } := by
  obtain ⟨⟨q1, q2, q3, q4, q5, q6⟩, ⟨q7, q8, q9, q10, q11⟩, ⟨q12, q13, q14, q15⟩, ⟨q16, q17, q18⟩, ⟨q19, q20⟩, q21⟩ := s.nes
  have f : KW.Fr [d.sp] H H' := by rw [hH]; exact Fr.upd (by simp)
  obtain ⟨⟨dx, ob⟩, S0, pe, rt, hl, r16, l9, bd, nn⟩ := s
  exact ⟨⟨_, by rw [hH]; exact upd_same⟩, S0.fr f (by simp [Ne.symm q1]) (by simp [Ne.symm q2]) (by simp [Ne.symm q3]), f _ _ (by simp [Ne.symm q4]) pe, f _ _ (by simp [Ne.symm q5]) rt, f _ _ (by simp [Ne.symm q6]) hl, r16, l9, bd, nn⟩
theorem Spc.col {B : List Blk} {wd' pl' p : Addr} (s : Spc CS C H d) (S : Sto C H' d.st wd' pl' 100000 100000 B) (f : KW.Fr [d.st, d.pl, p] H H') (hp : p ∉ fpP d) (n1 : H wd' = none) (n2 : H pl' = none) (hb : (flat B).length ≤ 100000) : Spc CS C H' { d with wd := wd', pl := pl', B := B } := by
  obtain ⟨⟨q1, q2, q3, q4, q5, q6⟩, ⟨q7, q8, q9, q10, q11⟩, ⟨q12, q13, q14, q15⟩, ⟨q16, q17, q18⟩, ⟨q19, q20⟩, q21⟩ := s.nes
  have w1 := notin_of n1 s.there
  have w2 := notin_of n2 s.there
  obtain ⟨⟨dx, ob⟩, S0, pe, rt, hl, r16, l9, bd, nn⟩ := s
  simp only [fpP, List.mem_cons, List.not_mem_nil, or_false, not_or] at hp w1 w2
  obtain ⟨p1, p2, p3, p4, p5, p6, p7⟩ := hp
  obtain ⟨x1, x2, x3, x4, x5, x6, x7⟩ := w1
  obtain ⟨y1, y2, y3, y4, y5, y6, y7⟩ := w2
  refine ⟨⟨dx, f _ _ (by simp [q1, q3, Ne.symm p1]) ob⟩, S, f _ _ (by simp [Ne.symm q9, Ne.symm q16, Ne.symm p5]) pe, f _ _ (by simp [Ne.symm q10, Ne.symm q17, Ne.symm p6]) rt, f _ _ (by simp [Ne.symm q11, Ne.symm q18, Ne.symm p7]) hl, r16, l9, hb, ?_⟩
  simp only [fpP, List.nodup_cons, List.mem_cons, List.not_mem_nil, or_false, not_or, not_false_eq_true, List.nodup_nil, and_true]
  exact ⟨⟨q1, Ne.symm x1, Ne.symm y1, q4, q5, q6⟩, ⟨Ne.symm x2, Ne.symm y2, q9, q10, q11⟩, ⟨S.wp, x5, x6, x7⟩, ⟨y5, y6, y7⟩, ⟨q19, q20⟩, q21⟩
theorem Spc.np {p : Addr} {q : Str} (s : Spc CS C H d) (t : TabS H p q) : p ∉ fpP d := fun z => by
  obtain ⟨o, h1, h2⟩ := s.pln p z
  exact t.ne h1 h2.1 rfl
theorem Spc.root {k : Nat} {z : Int} (s : Spc CS C H d) (hH : H' = upd H d.ro (.lst ((d.R.set k z).map V.int))) : Spc CS C H' { d with R := d.R.set k z } := by
  obtain ⟨⟨q1, q2, q3, q4, q5, q6⟩, ⟨q7, q8, q9, q10, q11⟩, ⟨q12, q13, q14, q15⟩, ⟨q16, q17, q18⟩, ⟨q19, q20⟩, q21⟩ := s.nes
  have f : KW.Fr [d.ro] H H' := by rw [hH]; exact Fr.upd (by simp)
  obtain ⟨⟨dx, ob⟩, S0, pe, rt, hl, r16, l9, bd, nn⟩ := s
  exact ⟨⟨dx, f _ _ (by simp [q5]) ob⟩, S0.fr f (by simp [q10]) (by simp [q14]) (by simp [q17]), f _ _ (by simp [q19]) pe, by rw [hH]; exact upd_same, f _ _ (by simp [Ne.symm q21]) hl, by simp [r16], l9, bd, nn⟩
theorem Spc.held {z : Int} (s : Spc CS C H d) (h9 : d.L.length < 1000) (hH : H' = upd H d.he (.lst ((d.L ++ [z]).map V.int))) : Spc CS C H' { d with L := d.L ++ [z] } := by
  obtain ⟨⟨q1, q2, q3, q4, q5, q6⟩, ⟨q7, q8, q9, q10, q11⟩, ⟨q12, q13, q14, q15⟩, ⟨q16, q17, q18⟩, ⟨q19, q20⟩, q21⟩ := s.nes
  have f : KW.Fr [d.he] H H' := by rw [hH]; exact Fr.upd (by simp)
  obtain ⟨⟨dx, ob⟩, S0, pe, rt, hl, r16, l9, bd, nn⟩ := s
  exact ⟨⟨dx, f _ _ (by simp [q6]) ob⟩, S0.fr f (by simp [q11]) (by simp [q15]) (by simp [q18]), f _ _ (by simp [q20]) pe, f _ _ (by simp [q21]) rt, by rw [hH]; exact upd_same, r16, by simp; omega, bd, nn⟩
end
/-! promises -/
def spSpInit (CS C : Addr) : Sp := fun vs H Q _ => ∃ (sp dx : Addr), vs = [.ref sp, .int 100000, .int 100000] ∧ H sp = some (.ins CS dx []) ∧ ∀ (d : Spd) H', d.sp = sp → d.al = 0 → d.co = 0 → d.B = [] → d.R = List.replicate 16 0 → d.L = [] → Spc CS C H' d → KW.Fr [sp] H H' → (∀ x ∈ fpP d, x ≠ sp → H x = none) → Q .non H'
def spAllRoots (CS C : Addr) : Sp := fun vs H Q _ => ∃ (d : Spd), vs = [.ref d.sp] ∧ Spc CS C H d ∧ ∀ l H', H l = none → KW.Fr [] H H' → IL H' l d.ws → Q (.ref l) H'
def spSetRoot (CS C : Addr) : Sp := fun vs H Q _ => ∃ (d : Spd) (k : Nat) (z : Int), vs = [.ref d.sp, .int k, .int z] ∧ Spc CS C H d ∧ k < 16 ∧ ∀ H', Spc CS C H' { d with R := d.R.set k z } → KW.Fr [d.ro] H H' → Q .non H'
def spHold (CS C : Addr) : Sp := fun vs H Q _ => ∃ (d : Spd) (z : Int), vs = [.ref d.sp, .int z] ∧ Spc CS C H d ∧ d.L.length < 1000 ∧ ∀ H', Spc CS C H' { d with L := d.L ++ [z] } → KW.Fr [d.he] H H' → Q (.int z) H'
def spCollS (CS C p : Addr) (q : Str) (xs : List V) : Sp := fun vs H Q _ => ∃ (d : Spd), vs = .ref d.sp :: xs ∧ Spc CS C H d ∧ TabS H p q ∧
  ∀ (F : List Int) (H' : Hp) (wd' pl' : Addr), F.Nodup → (∀ n, n ∈ F ↔ Rg (gB d.B) d.ws n) → Spc CS C H' { d with wd := wd', pl := pl', B := kept d.B F, co := d.co + 1 } → H wd' = none → H pl' = none → KW.Fr [d.sp, d.st, d.pl, p] H H' → TabS H' p q → Q (.int (((nums d.B).length : Int) - F.length)) H'
def spNew (CS C : Addr) : Sp := fun vs H Q _ => ∃ (d : Spd) (kd : Int) (n : Nat), vs = [.ref d.sp, .int kd, .int n] ∧ Spc CS C H d ∧ (flat d.B).length + 3 + n ≤ 100000 ∧
  ∀ f H', Free d.B f → Spc CS C H' { d with al := d.al + 1, B := d.B ++ [⟨f, kd, List.replicate n 0, true⟩] } → KW.Fr [d.sp, d.st, d.wd, d.pl] H H' → Q (.int f) H'
def spFitted (CS C : Addr) : Sp := fun vs H Q _ => ∃ (d : Spd) (kd : Int) (n : Nat), vs = [.ref d.sp, .int kd, .int n] ∧ Spc CS C H d ∧ (flat d.B).length + 3 + n ≤ 100000 ∧
  ∀ f H', Free d.B f → Spc CS C H' { d with B := d.B ++ [⟨f, kd, List.replicate n 0, true⟩] } → KW.Fr [d.sp, d.st, d.wd, d.pl] H H' → Q (.int f) H'
def spObjOf (CS C : Addr) : Sp := fun vs H Q _ => ∃ (d : Spd) (z : Int), vs = [.ref d.sp, .int z] ∧ Spc CS C H d ∧ Q (if z % 2 = 0 ∧ lv d.B (z / 2) = true then .int (z / 2) else .non) H
def spRowOf (CS C : Addr) : Sp := fun vs H Q _ => ∃ (d : Spd) (n : Int) (r : List Int), vs = [.ref d.sp, .int n] ∧ Spc CS C H d ∧ gB d.B n = some r ∧ ∀ l H', H l = none → KW.Fr [] H H' → IL H' l r → Q (.ref l) H'
def spGarbage (CS C : Addr) : Sp := fun vs H Q _ => ∃ (d : Spd), vs = [.ref d.sp] ∧ Spc CS C H d ∧
  ∀ l H' (ys : List Int), H l = none → KW.Fr [] H H' → IL H' l ys → ys.Pairwise (· ≤ ·) → ys.Nodup → (∀ n, n ∈ ys ↔ lv d.B n = true ∧ ¬ Rg (gB d.B) d.ws n) → Q (.ref l) H'
/-- a place, as a tuple -/
def Plc.at (H : Hp) (p : Addr) : Plc → Prop
  | .root k => H p = some (.tup [.str (S [114, 111, 111, 116]), .int (k : Int)])
  | .kind n => H p = some (.tup [.str (S [107, 105, 110, 100]), .int n])
  | .slot n j => H p = some (.tup [.str (S [115, 108, 111, 116]), .int n, .int (j : Int)])
theorem Plc.at.fr {H H' : Hp} {p : Addr} {l : List Addr} {c : Plc} (h : c.at H p) (f : KW.Fr l H H') (n : p ∉ l) : c.at H' p := by cases c <;> exact f _ _ n h
theorem Plc.at.fr0 {H H' : Hp} {p : Addr} {c : Plc} (h : c.at H p) (f : KW.Fr [] H H') : c.at H' p := h.fr f (by simp)
theorem Plc.at.ex {H : Hp} {p : Addr} {c : Plc} (h : c.at H p) : ∃ xs, H p = some (.tup xs) := by cases c <;> exact ⟨_, h⟩
/-- the place is there -/
def Plc.ok (g : Gr) : Plc → Prop
  | .root k => k < 16
  | .kind n => ∃ r, g n = some r ∧ 0 < r.length
  | .slot n j => ∃ r, g n = some r ∧ 1 + j < r.length
def spRowW (CS C : Addr) : Sp := fun vs H Q _ => ∃ (d : Spd) (n : Int) (r : List Int) (p : Addr) (c : Plc), vs = [.ref d.sp, .int n, .ref p] ∧ Spc CS C H d ∧ c.at H p ∧ c.ok (gB d.B) ∧ gB d.B n = some r ∧ ∀ l H', H l = none → KW.Fr [] H H' → IL H' l (c.row n r) → Q (.ref l) H'
def spReachW (CS C : Addr) : Sp := fun vs H Q _ => ∃ (d : Spd) (p : Addr) (c : Plc), vs = [.ref d.sp, .ref p] ∧ Spc CS C H d ∧ c.at H p ∧ c.ok (gB d.B) ∧
  ∀ l (F : List Int) (kvs : KVs) (H' : Hp), H l = none → KW.Fr [] H H' → H' l = some (.dK kvs) → Fnd kvs F → F.Nodup → (∀ n, n ∈ F ↔ Rg (c.g (gB d.B)) (0 :: c.roots (d.R ++ d.L)) n) → Q (.ref l) H'
def spRetained (CS C : Addr) : Sp := fun vs H Q _ => ∃ (d : Spd) (p : Addr) (c : Plc), vs = [.ref d.sp, .ref p] ∧ Spc CS C H d ∧ c.at H p ∧ c.ok (gB d.B) ∧
  ∀ l H' (ys : List Int), H l = none → KW.Fr [] H H' → IL H' l ys → ys.Pairwise (· ≤ ·) → ys.Nodup → (∀ n, n ∈ ys ↔ Rg (gB d.B) d.ws n ∧ ¬ Rg (c.g (gB d.B)) (0 :: c.roots (d.R ++ d.L)) n) → Q (.ref l) H'
section
variable {CS C : Addr} {H : Hp} {d : Spd} {Q : VK} {E : XK} {K : Frag} {mg : Str → Option Value}
theorem allRoots_s {x : Addr} (Z : Spc CS C H d) (q : ∀ l H', H l = none → KW.Fr [] H H' → IL H' l d.ws → Q (.ref l) H') (ex : x = d.sp := by rfl) : spAllRoots CS C [.ref x] H Q E := by subst ex; exact ⟨d, rfl, Z, q⟩
theorem setRoot_s {x : Addr} {k : Nat} {z : Int} (Z : Spc CS C H d) (hk : k < 16) (q : ∀ H', Spc CS C H' { d with R := d.R.set k z } → KW.Fr [d.ro] H H' → Q .non H') (ex : x = d.sp := by rfl) : spSetRoot CS C [.ref x, .int k, .int z] H Q E := by subst ex; exact ⟨d, k, z, rfl, Z, hk, q⟩
theorem hold_s {x : Addr} {z : Int} (Z : Spc CS C H d) (h : d.L.length < 1000) (q : ∀ H', Spc CS C H' { d with L := d.L ++ [z] } → KW.Fr [d.he] H H' → Q (.int z) H') (ex : x = d.sp := by rfl) : spHold CS C [.ref x, .int z] H Q E := by subst ex; exact ⟨d, z, rfl, Z, h, q⟩
theorem new_s {x : Addr} {kd : Int} {n : Nat} (Z : Spc CS C H d) (h : (flat d.B).length + 3 + n ≤ 100000) (q : ∀ f H', Free d.B f → Spc CS C H' { d with al := d.al + 1, B := d.B ++ [⟨f, kd, List.replicate n 0, true⟩] } → KW.Fr [d.sp, d.st, d.wd, d.pl] H H' → Q (.int f) H') (ex : x = d.sp := by rfl) : spNew CS C [.ref x, .int kd, .int n] H Q E := by subst ex; exact ⟨d, kd, n, rfl, Z, h, q⟩
theorem objOf_s {x : Addr} {z : Int} (Z : Spc CS C H d) (q : Q (if z % 2 = 0 ∧ lv d.B (z / 2) = true then .int (z / 2) else .non) H) (ex : x = d.sp := by rfl) : spObjOf CS C [.ref x, .int z] H Q E := by subst ex; exact ⟨d, z, rfl, Z, q⟩
theorem rowOf_s {x : Addr} {n : Int} {r : List Int} (Z : Spc CS C H d) (h : gB d.B n = some r) (q : ∀ l H', H l = none → KW.Fr [] H H' → IL H' l r → Q (.ref l) H') (ex : x = d.sp := by rfl) : spRowOf CS C [.ref x, .int n] H Q E := by subst ex; exact ⟨d, n, r, rfl, Z, h, q⟩
theorem garbage_s {x : Addr} (Z : Spc CS C H d) (q : ∀ l H' (ys : List Int), H l = none → KW.Fr [] H H' → IL H' l ys → ys.Pairwise (· ≤ ·) → ys.Nodup → (∀ n, n ∈ ys ↔ lv d.B n = true ∧ ¬ Rg (gB d.B) d.ws n) → Q (.ref l) H') (ex : x = d.sp := by rfl) : spGarbage CS C [.ref x] H Q E := by subst ex; exact ⟨d, rfl, Z, q⟩
theorem rowW_s {x : Addr} {n : Int} {r : List Int} {p : Addr} {c : Plc} (Z : Spc CS C H d) (hc : c.at H p) (ho : c.ok (gB d.B)) (h : gB d.B n = some r) (q : ∀ l H', H l = none → KW.Fr [] H H' → IL H' l (c.row n r) → Q (.ref l) H') (ex : x = d.sp := by rfl) : spRowW CS C [.ref x, .int n, .ref p] H Q E := by subst ex; exact ⟨d, n, r, p, c, rfl, Z, hc, ho, h, q⟩
theorem reachW_s {x : Addr} {p : Addr} {c : Plc} (Z : Spc CS C H d) (hc : c.at H p) (ho : c.ok (gB d.B)) (q : ∀ l (F : List Int) (kvs : KVs) (H' : Hp), H l = none → KW.Fr [] H H' → H' l = some (.dK kvs) → Fnd kvs F → F.Nodup → (∀ n, n ∈ F ↔ Rg (c.g (gB d.B)) (0 :: c.roots (d.R ++ d.L)) n) → Q (.ref l) H') (ex : x = d.sp := by rfl) : spReachW CS C [.ref x, .ref p] H Q E := by subst ex; exact ⟨d, p, c, rfl, Z, hc, ho, q⟩
theorem retained_s {x : Addr} {p : Addr} {c : Plc} (Z : Spc CS C H d) (hc : c.at H p) (ho : c.ok (gB d.B)) (q : ∀ l H' (ys : List Int), H l = none → KW.Fr [] H H' → IL H' l ys → ys.Pairwise (· ≤ ·) → ys.Nodup → (∀ n, n ∈ ys ↔ Rg (gB d.B) d.ws n ∧ ¬ Rg (c.g (gB d.B)) (0 :: c.roots (d.R ++ d.L)) n) → Q (.ref l) H') (ex : x = d.sp := by rfl) : spRetained CS C [.ref x, .ref p] H Q E := by subst ex; exact ⟨d, p, c, rfl, Z, hc, ho, q⟩
theorem met_p {m : Str} {x : Addr} {sp : Sp} {t : TA} {σ : L2.St} (Z : Spc CS C H d) (ex : x = d.sp) (l : (["store", "pressure", "always", "allocations", "collections", "_roots", "_held", "_saved"] : List Str).contains m = false) (q : t σ H fun vs H2 => sp (.ref x :: vs) H2 Q E) : uMet.uMt CS m sp E t σ (.ref x) H Q := by
  subst ex
  obtain ⟨dx, ob⟩ := Z.ob
  refine ⟨dx, _, ob, ?_, q⟩
  simp only [List.contains_cons, List.contains_nil, Bool.or_eq_false_iff, Bool.or_false] at l
  simp only [List.lookup, l]
theorem get_p {Q : VK} {x f : Str} {y : Addr} {v : V} {ns : List Str} (Z : Spc CS C H d) (ex : y = d.sp) (c : ClsA K mg x CS ns) (h : f ∈ ns) (e : List.lookup f ([("store", .ref d.st), ("pressure", .ref d.pr), ("always", .bl false), ("allocations", .int d.al), ("collections", .int d.co), ("_roots", .ref d.ro), ("_held", .ref d.he), ("_saved", .non)] : List (Str × V)) = some v) (q : Q v H) : uGet K f (.ref y) H Q := by
  subst ex
  obtain ⟨dx, ob⟩ := Z.ob
  exact get_l ob c h e q
end
end ST

set_option Elab.async false
set_option linter.all false
set_option maxRecDepth 100000
set_option maxHeartbeats 4000000
namespace K64
open PySem PySem.Spec PyProof.Rows L2 KW ST LamX
local macro_rules | `(tactic| walk_at "kw") => `(tactic| simp only [tSeq, tNext, tIfS, tTest, tAnd, tOr, tNot, tAndV, tOrV, tNotV, tIf, tChain, tOp, tUn, tC, tAsg, gName, gSub, gCons, gNil, tRet, tRetN, tDrop, tCons, tNil, tCB, tAug, tSl, tPart, tNoPart, tLst, tTup, tBM, tBM0, uTest, uFor, iRng1, iRng2, iList, uCall, List.map_cons, List.map_nil, List.length_cons, List.length_nil, List.cons_append, List.nil_append, List.replicate, Nat.zero_add, Nat.reduceAdd, Nat.reduceSub, List.getElem?_cons_zero, List.getElem?_cons_succ, List.set_cons_zero, List.set_cons_succ, V.bl.injEq, V.int.injEq, V.str.injEq, V.ref.injEq, V.ty.injEq, List.cons.injEq, and_true, true_and, exists_eq_left', exists_eq_right, exists_eq_left, exists_and_left, exists_and_right, decide_eq_true_eq, Bool.not_eq_true', decide_eq_false_iff_not, Bool.false_eq_true, if_true, if_false, ite_true, ite_false, Bool.not_true, Bool.not_false, reduceCtorEq, decide_true, decide_false, Bool.not_not, isK_int_int, isK_int_bool, isK_int_str, isK_int_list, isK_int_tuple, isK_bool_int, isK_bool_bool, isK_bool_str, isK_str_str, isK_str_int, isK_str_bool, isK_str_tuple, isK_str_list, isK_list_list, isK_list_tuple, isK_tuple_tuple, isK_tuple_list, isOk_int_int, isOk_int_bool, isOk_int_str, isOk_int_list, isOk_int_tuple, isOk_bool_int, isOk_bool_bool, isOk_bool_str, isOk_str_str, isOk_str_int, isOk_str_bool, isOk_str_tuple, isOk_str_list, isOk_list_list, isOk_list_tuple, isOk_tuple_tuple, isOk_tuple_list, isK_dict_dict, isOk_dict_dict, isK_none_int, isK_none_bool, isOk_none_int, isOk_none_bool, tyV, S_inj, S_cat, L2.start, Nat.reduceSub, List.replicate_succ, List.replicate_zero, and_assoc, List.append_nil, Nat.reduceEqDiff, Option.some.injEq, Int.natCast_inj, upd_upd, Int.reducePow, Int.reduceToNat, Int.reduceMul, Int.reduceAdd, Int.reduceSub, Int.reduceLT, Int.reduceLE, Int.reduceNeg, Int.reduceDiv, Int.reduceMod, Nat.reducePow, Nat.reduceMul, S_len, List.length_append, List.length_map, List.length_range, not_true_eq_false, not_false_eq_true, ne_eq, uAdd_e1, uAdd_e2, uSub_e1, uMod_e1, uDiv_e1, uPow_e1, uShl_e1, uNeg_e1, uIAdd_e1, uIAdd_e2, uIAdd_e3, uISub_e1, uLt_e1, uLt_e2, uLe_e1, uGt_e1, uGe_e1, uEq_e1, uEq_e2, uEq_e3, uEq_e4, uEq_e5, uEq_e6, uEq_e7, uEq_e8, uEq_e9, uEq_e10, uEq_e11, uNe_e1, uNe_e2, uNe_e3, uNe_e4, uNe_e5, uNe_e6, uNe_e7, uNe_e8, uNe_e9, uNe_e10, uNe_e11, uIs_e1, uIs_e2, uIs_e3, uIs_e4, uIs_e5, uIs_e6, uIs_e7, uNotIs_e1, uNotIs_e2, uNotIs_e3, uNotIs_e4, uNotIs_e5, uNotIs_e6, uIn_e1, uIn_e2, uIn_e3, uIn_e4, uNotIn_e1, uNotIn_e2, uNotIn_e3, uNotIn_e4, uTru_e1, uTru_e2, uTru_e3, uTru_e4, uIx_e2, uSl_e2, uLen_e1, uAbs_e1, uInt_e1, uInt_e2, uMin2_e1, uIsi_e1, uIsi_e2, uIsi_e3, uIsi_e4, cx_K, uVar_0, uVar_n, uFld, uSFld, uMet, uMake, tDG, tDI, tDNI, tDP, tDD, uMk, uRaise, uDelSl, tCallS, L2.WE, uStr_e1, uStr_e2, uMul2_e1, uMul2_e2, okS_i, okS_s, List.zip_cons_cons, List.zip_nil_left, List.drop_zero, List.drop_succ_cons, List.drop_nil, putF_nil, putF_cons, eq_self, tDNewK, tB, Option.isSome_some, Option.isSome_none, false_and, false_or, or_false, exists_false, Int.zero_add, uLc, wipe, tYes, isEmpty_app, List.isEmpty_cons, List.isEmpty_nil, List.isEmpty_map, Bool.and_false, Bool.and_true, iRev, K64.lit_0, K64.fe_room_entries, K64.fe_room_words, K64.fe_room__places, K64.fe_room__least, K64.fe_entries_room, K64.fe_entries_words, K64.fe_entries__places, K64.fe_entries__least, K64.fe_words_room, K64.fe_words_entries, K64.fe_words__places, K64.fe_words__least, K64.fe__places_room, K64.fe__places_entries, K64.fe__places_words, K64.fe__places__least, K64.fe__least_room, K64.fe__least_entries, K64.fe__least_words, K64.fe__least__places, K64.fe_store_pressure, K64.fe_store_always, K64.fe_store_allocations, K64.fe_store_collections, K64.fe_store__roots, K64.fe_store__held, K64.fe_store__saved, K64.fe_pressure_store, K64.fe_pressure_always, K64.fe_pressure_allocations, K64.fe_pressure_collections, K64.fe_pressure__roots, K64.fe_pressure__held, K64.fe_pressure__saved, K64.fe_always_store, K64.fe_always_pressure, K64.fe_always_allocations, K64.fe_always_collections, K64.fe_always__roots, K64.fe_always__held, K64.fe_always__saved, K64.fe_allocations_store, K64.fe_allocations_pressure, K64.fe_allocations_always, K64.fe_allocations_collections, K64.fe_allocations__roots, K64.fe_allocations__held, K64.fe_allocations__saved, K64.fe_collections_store, K64.fe_collections_pressure, K64.fe_collections_always, K64.fe_collections_allocations, K64.fe_collections__roots, K64.fe_collections__held, K64.fe_collections__saved, K64.fe__roots_store, K64.fe__roots_pressure, K64.fe__roots_always, K64.fe__roots_allocations, K64.fe__roots_collections, K64.fe__roots__held, K64.fe__roots__saved, K64.fe__held_store, K64.fe__held_pressure, K64.fe__held_always, K64.fe__held_allocations, K64.fe__held_collections, K64.fe__held__roots, K64.fe__held__saved, K64.fe__saved_store, K64.fe__saved_pressure, K64.fe__saved_always, K64.fe__saved_allocations, K64.fe__saved_collections, K64.fe__saved__roots, K64.fe__saved__held, tDGF_eq, uDGetF_e1, tLstRg, tRg1, K64.N_is_ref, K64.N_ref_of, K64.N_reached, K64.N_collect, K64.N_object_of, K64.N_row_of, K64.N_word_at, K64.N_paths, K64.N_garbage, K64.N_Store_init, K64.N_Store_exists, K64.N_Store_numbers, K64.N_Store_free_number, K64.N_Store_allocate, K64.N_Store_size, K64.N_Store_kind, K64.N_Store_get, K64.N_Store_put, K64.N_Store_slots, K64.N_Store_drop, K64.N_Store_close_up, K64.N_Space_init, K64.N_Space_root, K64.N_Space_set_root, K64.N_Space_hold, K64.N_Space_drop, K64.N_Space_held, K64.N_Space_all_roots, K64.N_Space_collect, K64.N_Space_collect_with, K64.N_Space_new, K64.N_Space_fitted, K64.N__law_number, K64.N__law_word, K64.N__law_is, K64.N__law_same, K64.N__law_sizes, K64.N__law_rows, K64.N__law_roots, K64.N__law_space, K64.N__law_walk, K64.N__law_extended, K64.N__law_best, K64.N__law_path_is, K64.N__law_told, K64.N__law_drawn, K64.N__law_kept, K64.N__law_long, K64.N_law, sp_is_ref, sp_ref_of])
local macro_rules | `(tactic| walk_at "nn") => `(tactic| first | assumption | exact ne_un (by assumption) | exact ne_un (ne_un (by assumption)) | exact ne_un (ne_un (ne_un (by assumption))) | exact ne_un (ne_un (ne_un (ne_un (by assumption)))))
local macro_rules | `(tactic| walk_at "ne") => `(tactic| first | assumption | (apply Ne.symm; assumption) | exact ne_ud (by assumption) | exact Ne.symm (ne_ud (by assumption)) | exact ne_ud (ne_un (by assumption)) | exact Ne.symm (ne_ud (ne_un (by assumption))) | exact ne_ud (ne_un (ne_un (by assumption))) | exact Ne.symm (ne_ud (ne_un (ne_un (by assumption)))) | exact ne_m (by assumption) (by assumption) | exact Ne.symm (ne_m (by assumption) (by assumption)) | exact ne_n (by assumption) (by walk_at "nn") | exact Ne.symm (ne_n (by assumption) (by walk_at "nn")))
local macro_rules | `(tactic| walk_at "hp") => `(tactic| first | assumption | exact upd_same | (refine Eq.trans (upd_ne ?_) ?_; (focus walk_at "ne"); walk_at "hp"))
local macro_rules | `(tactic| walk_at "sc") => `(tactic| first | (with_reducible assumption) | omega | exact le_line (by (try simp only [List.length_map, List.length_append, List.length_cons, List.length_nil, S_len]); omega) | exact div_s (by omega) | exact mul_r (by omega) | exact mul_l (by omega) | exact pow_s (by omega) | exact mul2_r (by omega) | exact mul2_l (by omega) | exact small4300 (by omega) | exact lt_line (by (try simp only [List.length_map, List.length_append, List.length_cons, List.length_nil, S_len]); omega) | exact ⟨_, by assumption⟩ | (guard_target =~ Exists _; exact ⟨_, .of (by walk_at "hp")⟩) | (guard_target =~ _ ∨ _; exact .inl ⟨_, by assumption⟩) | (guard_target =~ _ ∨ _; exact .inl ⟨_, .of (by walk_at "hp")⟩) | (guard_target =~ _ ∨ _; exact .inr (.inr (.inl ⟨rfl, .inl ⟨_, by walk_at "hp"⟩⟩))) | decide)
local macro_rules | `(tactic| walk_at "kr") => `(tactic| first | (guard_target =~ _ ∧ _; first | refine And.intro (by walk_at "sc") ?_) | (guard_target =~ KW.uIx _ _ _ _ _; first | refine ix_l (by walk_at "hp") (by first | walk_at "hv" | rfl) ?_ | refine ix_t (by walk_at "hp") (by first | walk_at "hv" | rfl) ?_ | refine ix_sl (by assumption) (by walk_at "hv") ?_) | (guard_target =~ KW.uLen _ _ _ _; first | refine len_l (by walk_at "hp") ?_ | refine len_t (by walk_at "hp") ?_ | refine len_sl (by assumption) ?_) | (guard_target =~ KW.uSet _ _ _ _ _; first | refine set_l (by walk_at "hp") (by first | walk_at "hv" | rfl) ?_) | (guard_target =~ L2.gTup _ _ _ _ _ _ _; first | refine tup_l (by walk_at "hp") (by rfl) ?_) | (guard_target =~ KW.uGet _ _ _ _ _; first | refine get_l (by walk_at "hp") (by walk_at "hc") (by decide) (by rfl) ?_) | (guard_target =~ KW.uPut _ _ _ _ _ _; first | refine put_l (by walk_at "hp") (by walk_at "hc") (by decide) (by simp) ?_) | (guard_target =~ KW.uMet.uMt _ _ _ _ _ _ _ _ _; first | refine met_l (by walk_at "hp") (by rfl) ?_) | (guard_target =~ KW.uMet.uMt _ _ _ _ _ _ _ _ _; first | refine ST.met_s (by assumption) (by decide) ?_) | (guard_target =~ ST.spExists _ _ _ _ _; first | refine ST.exists_s (by assumption) ?_) | (guard_target =~ ST.spUsed _ _ _ _ _; first | refine ST.used_s (by assumption) ?_) | (guard_target =~ KW.uGet _ _ _ _ _; first | refine ST.words_s (by assumption) (by walk_at "hc") (by decide) ?_) | (guard_target =~ KW.uDIn _ _ _ _; first | refine din_i (by walk_at "hp") ?_ | refine din_s (by walk_at "hp") ?_) | (guard_target =~ KW.uDGet _ _ _ _; first | refine dget_i (by walk_at "hp") (by walk_at "hv") ?_ | refine dget_s (by walk_at "hp") (by walk_at "hv") ?_) | (guard_target =~ KW.uDPut _ _ _ _ _; first | refine dput_i (by walk_at "hp") (by walk_at "sc") ?_ | refine dput_s (by walk_at "hp") (by walk_at "sc") ?_) | (guard_target =~ KW.uDDel _ _ _ _; first | refine ddel_i (by walk_at "hp") (by walk_at "hv") ?_ | refine ddel_s (by walk_at "hp") (by walk_at "hv") ?_) | (guard_target =~ KW.uMul2 _ _ _ _; first | refine rep_l (by walk_at "hp") (by walk_at "sc") (by walk_at "sc") (by walk_at "sc") ?_) | (guard_target =~ L2.rAppend _ _ _ _; first | refine app_l (by walk_at "hp") (by walk_at "sc") ?_) | (guard_target =~ L2.rPop _ _ _ _; first | refine pop_l (by walk_at "hp") (by walk_at "hv") ?_ | refine pops_l (by walk_at "hp") ?_) | (guard_target =~ L2.rClear _ _ _ _; first | refine clr_l (by walk_at "hp") ?_) | (guard_target =~ L2.rReverse _ _ _ _; first | refine rev_l (by walk_at "hp") ?_) | (guard_target =~ L2.rExtend _ _ _ _; first | refine ext_l (by walk_at "hp") (by walk_at "hp") (by walk_at "sc") ?_) | (guard_target =~ KW.uAdd _ _ _ _ _; first | refine ucat_l (by walk_at "hp") (by walk_at "hp") (by walk_at "sc") ?_) | (guard_target =~ KW.uSl _ _ _ _ _ _; first | refine usl_l (by walk_at "hp") ?_) | (guard_target =~ KW.uTru _ _ _ _; first | refine tru_l (by walk_at "hp") ?_ | refine tru_t (by walk_at "hp") ?_ | refine tru_d (by walk_at "hp") ?_ | refine tru_sl (by assumption) ?_) | (guard_target =~ L2.rIndex _ _ _ _ _; first | refine idx_s (by walk_at "hp") (by assumption) ?_ | refine idx_i (by walk_at "hp") (by assumption) ?_) | (guard_target =~ L2.rIn _ _ _ _ _ _; first | refine in_s (by walk_at "hp") ?_ | refine nin_s (by walk_at "hp") ?_ | refine in_i (by walk_at "hp") ?_ | refine nin_i (by walk_at "hp") ?_) | (guard_target =~ KW.uIsi _ _ _ _; first | refine isi_l (by walk_at "hp") (by decide +kernel) ?_ | refine isi_t (by walk_at "hp") (by decide +kernel) ?_ | refine isi_d (by walk_at "hp") (by decide +kernel) ?_) | (guard_target =~ KW.uList _ _ _ _; first | refine list_l (by walk_at "hp") ?_ | refine list_t (by walk_at "hp") ?_ | refine list_sl (by assumption) ?_) | (guard_target =~ KW.uDict _ _ _; first | refine dict_d (by walk_at "hp") ?_) | (guard_target =~ KW.uSorted _ _ _ _; first | refine srt_l (by walk_at "hp") ?_) | (guard_target =~ KW.uSum _ _ _ _; first | refine sum_l (by walk_at "hp") ?_) | (guard_target =~ KW.uDelC _ _ _ _; first | refine dels_l (by walk_at "hp") (by walk_at "sc") ?_) | (guard_target =~ L2.wAs _ _ _ _ _ _ _ _ _ _; first | refine as_yes (by walk_at "hx") ?_ | refine as_no (by walk_at "hx") ?_) | (guard_target =~ KW.uEf _ _ _ _ _ _ _ _ _; first | refine ef_l (by walk_at "he") (by decide) (by rfl) (by walk_at "hp") (by rfl) ?_) | (guard_target =~ KW.uIsE _ _ _ _ _ _ _; first | refine isE_r (by walk_at "he") (by walk_at "hp") (by walk_at "hk") ?_ | refine isE_t (by walk_at "he") (by walk_at "hp") (by walk_at "hk") ?_))
local macro_rules | `(tactic| walk_at "hv") => `(tactic| first | assumption)
local macro_rules | `(tactic| walk_at "kk") => `(tactic| repeat (first | walk_at "kw" | walk_at "kr"))
local macro_rules | `(tactic| walk_at "hc") => `(tactic| first | exact K64.Txt.c_Store (by assumption) | exact K64.Txt.c_Space (by assumption))
local macro_rules | `(tactic| walk_at "he") => `(tactic| first | exact K64.Txt.e_BadWord (by assumption) | exact K64.Txt.e_NoRoom (by assumption) | exact K64.Txt.e_NoNumber (by assumption) | exact K64.Txt.e_Wrong (by assumption))
local macro_rules | `(tactic| walk_at "hx") => `(tactic| first | exact K64.Txt.x_BadWord_NoNumber (by assumption) | exact K64.Txt.x_BadWord_NoRoom (by assumption) | exact K64.Txt.x_NoRoom_NoNumber (by assumption) | exact K64.Txt.x_NoRoom_NoRoom (by assumption) | exact K64.Txt.x_NoNumber_NoNumber (by assumption) | exact K64.Txt.x_NoNumber_NoRoom (by assumption) | exact K64.Txt.x_Wrong_NoNumber (by assumption) | exact K64.Txt.x_Wrong_NoRoom (by assumption))
local macro_rules | `(tactic| walk_at "hk") => `(tactic| first | fail)

local macro_rules | `(tactic| walk_at "kr") => `(tactic| first | (guard_target =~ KW.uGet _ _ _ _ _; refine ST.get_p (by assumption) (by rfl) (by walk_at "hc") (by decide) (by rfl) ?_) | (guard_target =~ KW.uMet.uMt _ _ _ _ _ _ _ _ _; refine ST.met_p (by assumption) (by rfl) (by decide) ?_))
section
variable {P : Program} {w : World} {K : Frag} {mg : Str → Option Value} {base : Heap} {a : Ads}
theorem ok_Space_init (T : Txt P w K mg a) : CalI P w K mg base 3 "Space" a.Space [] (spSpInit a.Space a.Store) := by
  have I_Store := ok_Store_init (P := P) (w := w) (base := base) T
  refine T.ini_Space.ok T.g_Space sc_Space_init (fun vs H Q E h => ?_) (fun f cdv A outer s H vs Q E hr h => ⟨_, (pss_cons (k_sfld (kv 0) (kmk 0 I_Store (hr.mono (by decide)) (pa_cons (kv 1) (pa_cons (kv 2) pa_nil))) rfl)
      (pss_cons (k_sfld (kv 0) (pe_lst pa_nil) rfl)
      (pss_cons (k_sfld (kv 0) pe_bl rfl)
      (pss_cons (k_sfld (kv 0) pe_int rfl)
      (pss_cons (k_sfld (kv 0) pe_int rfl)
      (pss_cons (k_sfld (kv 0) (pe_op o_mul2 (pe_lst (pa_cons (k_g T.g_NIL) pa_nil)) (k_g T.g_ROOTS)) rfl)
      (pss_cons (k_sfld (kv 0) (pe_lst pa_nil) rfl)
      (pss_one (k_sfld (kv 0) pe_non rfl))))))))), ?_⟩)
  · obtain ⟨_, _, rfl, _⟩ := h; rfl
  · obtain ⟨sp, dx, rfl, hs, q⟩ := h
    walk_at "kk"
    intro st dx2 h1 h2 h3
    have e1 : sp ≠ st := ne_of_none hs h1
    have e2 : sp ≠ dx2 := ne_of_none hs h2
    refine ⟨st, dx2, 100000, 100000, rfl, upd_same, fun H2 wd pl S2 f2 n1 n2 => ?_⟩
    have f0 : KW.Fr [sp] H (upd (upd H dx2 (HO.own st)) st (HO.ins a.Store dx2 [])) := (Fr.new h2).trans (Fr.new (by rw [upd_ne (Ne.symm h3)]; exact h1))
    have nw : H wd = none := ne_un (ne_un n1)
    have nl : H pl = none := ne_un (ne_un n2)
    have hs2 : H2 sp = some (.ins a.Space dx []) := f2 _ _ (by simp [e1]) (by rw [upd_ne e1, upd_ne e2]; exact hs)
    have f1 : KW.Fr [sp] H H2 := fun b o hb hH => f2 b o (fun z => by simp at z; subst z; rw [h1] at hH; cases hH) (f0 b o hb hH)
    have e3 : sp ≠ wd := ne_of_none hs nw
    have e4 : sp ≠ pl := ne_of_none hs nl
    revert S2 f1
    clear f0 f2 n1 n2
    intro S2 f1
    have w2 : ∀ b, H2 b = none → b ≠ st ∧ b ≠ wd ∧ b ≠ pl := fun b hb => by
      have := notin_of hb S2.there
      simp only [List.mem_cons, List.not_mem_nil, or_false, not_or] at this
      exact this
    walk_at "kk"
    intro pr hpr
    have g1 := w2 pr (ne_un hpr)
    have g2 : sp ≠ pr := Ne.symm (ne_ud hpr)
    walk_at "kk"
    intro ro1 hr1
    have g3 : sp ≠ ro1 := Ne.symm (ne_ud hr1)
    have g4 : pr ≠ ro1 := Ne.symm (ne_ud (ne_un hr1))
    walk_at "kk"
    intro ro hro
    have n1 : H2 pr = none := ne_un hpr
    have n2 : H2 ro1 = none := ne_un (ne_un (ne_un hr1))
    have n3 : H2 ro = none := ne_un (ne_un (ne_un (ne_un hro)))
    have g5 : sp ≠ ro := Ne.symm (ne_ud (ne_un hro))
    have g6 : pr ≠ ro := Ne.symm (ne_ud (ne_un (ne_un hro)))
    have g7 : ro1 ≠ ro := Ne.symm (ne_ud hro)
    walk_at "kk"
    intro he hhe
    have n4 : H2 he = none := ne_un (ne_un (ne_un (ne_un (ne_un (ne_un hhe)))))
    have g8 : sp ≠ he := Ne.symm (ne_ud hhe)
    have g9 : ro ≠ he := Ne.symm (ne_ud (ne_un hhe))
    have g10 : pr ≠ he := Ne.symm (ne_ud (ne_un (ne_un (ne_un (ne_un hhe)))))
    have u1 := w2 _ n1
    have u2 := w2 _ n2
    have u3 := w2 _ n3
    have u4 := w2 _ n4
    walk_at "kk"
    generalize hHF : upd _ sp _ = HF
    have fF : KW.Fr [sp] H2 HF := fun b o hb hH => by
      have b1 : b ≠ sp := fun z => hb (by simp [z])
      have b2 : b ≠ pr := ne_of_none hH n1
      have b3 : b ≠ ro1 := ne_of_none hH n2
      have b4 : b ≠ ro := ne_of_none hH n3
      have b5 : b ≠ he := ne_of_none hH n4
      rw [← hHF]
      walk_at "hp"
    have v1 : HF pr = some (.lst []) := by rw [← hHF]; walk_at "hp"
    have v2 : HF ro = some (.lst (([[V.int 0], [V.int 0], [V.int 0], [V.int 0], [V.int 0], [V.int 0], [V.int 0], [V.int 0], [V.int 0], [V.int 0], [V.int 0], [V.int 0], [V.int 0], [V.int 0], [V.int 0], [V.int 0]] : List (List V)).flatten)) := by rw [← hHF]; walk_at "hp"
    have v3 : HF he = some (.lst []) := by rw [← hHF]; walk_at "hp"
    have v4 : ∃ dx, HF sp = some (.ins a.Space dx [("store", .ref st), ("pressure", .ref pr), ("always", .bl false), ("allocations", .int 0), ("collections", .int 0), ("_roots", .ref ro), ("_held", .ref he), ("_saved", .non)]) := ⟨dx, by rw [← hHF]; exact upd_same⟩
    have new : ∀ b, H2 b = none → b ≠ sp → H b = none := fun b hb hs => f1.none (by simp [hs]) hb
    refine q ⟨sp, st, wd, pl, pr, ro, he, 0, 0, [], List.replicate 16 0, []⟩ HF rfl rfl rfl rfl rfl rfl ⟨v4, S2.fr fF (by simp [Ne.symm e1]) (by simp [Ne.symm e3]) (by simp [Ne.symm e4]), v1, v2, v3, rfl, by simp, by show (flat []).length ≤ 100000; decide, ?_⟩ (f1.trans fF) fun x hx hxs => ?_
    · have s1 := S2.wp
      have s2 := S2.sw
      have s3 := S2.sp
      simp only [fpP, List.nodup_cons, List.mem_cons, List.not_mem_nil, or_false, not_or, not_false_eq_true, List.nodup_nil, and_true]
      exact ⟨⟨e1, e3, e4, g2, g5, g8⟩, ⟨s2, s3, Ne.symm u1.1, Ne.symm u3.1, Ne.symm u4.1⟩, ⟨s1, Ne.symm u1.2.1, Ne.symm u3.2.1, Ne.symm u4.2.1⟩, ⟨Ne.symm u1.2.2, Ne.symm u3.2.2, Ne.symm u4.2.2⟩, ⟨g6, g10⟩, g9⟩
    · simp only [fpP, List.mem_cons, List.not_mem_nil, or_false] at hx
      rcases hx with rfl | rfl | rfl | rfl | rfl | rfl | rfl
      · exact absurd rfl hxs
      · exact h1
      · exact nw
      · exact nl
      · exact new _ n1 hxs
      · exact new _ n3 hxs
      · exact new _ n4 hxs
theorem ok_Space_all_roots (T : Txt P w K mg a) : CalM P w K mg base 1 a.Space "all_roots" (spAllRoots a.Space a.Store) := by
  refine T.m_Space_all_roots.ok T.c_Space.cls sc_Space_all_roots (fun vs H Q E h => ?_) (fun f cdv A outer s H vs Q E hr h => ⟨_, (pss_one (ps_ret (pe_op o_add (pe_op o_add (pe_lst (pa_cons (k_g T.g_NIL) pa_nil)) (k_fld (kv 0) rfl)) (k_fld (kv 0) rfl)))), ?_⟩)
  · obtain ⟨_, rfl, _⟩ := h; rfl
  · obtain ⟨d, rfl, Z, h⟩ := h
    have rt := Z.rt
    have hl := Z.hl
    walk_at "kk"
    intro p hp
    have Z1 : Spc a.Space a.Store (upd H p (.lst [.int 0])) d := Z.fr0 (Fr.new hp)
    have p1 : upd H p (.lst [.int 0]) p = some (.lst [.int 0]) := upd_same
    have f1 : KW.Fr [] H (upd H p (.lst [.int 0])) := Fr.new hp
    revert Z1 p1 f1
    generalize upd H p (.lst [.int 0]) = H1
    intro Z1 p1 f1
    have r16 := Z.r16
    have l9 := Z.l9
    have rt1 := Z1.rt
    walk_at "kk"
    intro t3 ht3
    have Z2 : Spc a.Space a.Store (upd H1 t3 (.lst (.int 0 :: d.R.map V.int))) d := Z1.fr0 (Fr.new ht3)
    have p2 : upd H1 t3 (.lst (.int 0 :: d.R.map V.int)) t3 = some (.lst (.int 0 :: d.R.map V.int)) := upd_same
    have f2 : KW.Fr [] H (upd H1 t3 (.lst (.int 0 :: d.R.map V.int))) := f1.trans (Fr.new ht3)
    revert Z2 p2 f2
    generalize upd H1 t3 (.lst (.int 0 :: d.R.map V.int)) = H2
    intro Z2 p2 f2
    have hl2 := Z2.hl
    walk_at "kk"
    intro t4 ht4
    exact h t4 _ (Fr.none f2 (by simp) ht4) (f2.trans (Fr.new ht4)) (by show upd _ _ _ _ = _; rw [upd_same]; simp)
theorem ok_Space_set_root (T : Txt P w K mg a) : CalM P w K mg base 1 a.Space "set_root" (spSetRoot a.Space a.Store) := by
  refine T.m_Space_set_root.ok T.c_Space.cls sc_Space_set_root (fun vs H Q E h => ?_) (fun f cdv A outer s H vs Q E hr h => ⟨_, (pss_one (ps_asg (kv 2) (pg_sub (k_fld (kv 0) rfl) (kv 1) s_set))), ?_⟩)
  · obtain ⟨_, _, _, rfl, _⟩ := h; rfl
  · obtain ⟨d, k, z, rfl, Z, hk, h⟩ := h
    have rt := Z.rt
    walk_at "kk"
    have r16 := Z.r16
    refine set_l rt (j := k) (by rw [List.length_map]; unfold ixN; rw [if_pos (by omega), if_pos (by omega)]; rfl) ?_
    exact h _ (Z.root (by rw [List.map_set])) (Fr.upd (by simp))
theorem ok_Space_hold (T : Txt P w K mg a) : CalM P w K mg base 1 a.Space "hold" (spHold a.Space a.Store) := by
  refine T.m_Space_hold.ok T.c_Space.cls sc_Space_hold (fun vs H Q E h => ?_) (fun f cdv A outer s H vs Q E hr h => ⟨_, (pss_cons (ps_expr (pe_bm PySem.F.plainAttrs_list PySem.F.slot_list_append PySem.F.type_list_append mt_append (k_fld (kv 0) rfl) (pa_cons (kv 1) pa_nil)))
      (pss_one (ps_ret (kv 1)))), ?_⟩)
  · obtain ⟨_, _, rfl, _⟩ := h; rfl
  · obtain ⟨d, z, rfl, Z, hk, h⟩ := h
    have hl := Z.hl
    walk_at "kk"
    exact h _ (Z.held hk (by simp)) (Fr.upd (by simp))
theorem ok_Space_fitted (T : Txt P w K mg a) : CalM P w K mg base 3 a.Space "fitted" (spFitted a.Space a.Store) := by
  have M_Store_allocate := ok_Store_allocate (P := P) (w := w) (base := base) T
  refine T.m_Space_fitted.ok T.c_Space.cls sc_Space_fitted (fun vs H Q E h => ?_) (fun f cdv A outer s H vs Q E hr h => ⟨_, (pss_cons (ps_try7 (X := (cxOf (L2N.CX P w) P w K mg base N_Space_fitted "Space.fitted" (defScope s_Space_fitted) f cdv A outer s H E)) rfl rfl (L2N.takes_of rfl rfl rfl rfl) (fun W pn xe tk po => by
        have hbd : PSs (Cx.tr (cxOf (L2N.CX P w) P w K mg base N_Space_fitted "Space.fitted" (defScope s_Space_fitted) f cdv A outer s H E) pn xe) (tryB (nthS (defBody s_Space_fitted) 0)) _ := (pss_one (ps_ret (kmX tk M_Store_allocate (hr.mono (by decide)) (k_fld (kv 0) rfl) (pa_cons (kv 1) (pa_cons (kv 2) pa_nil)))))
        dsimp only [Cx.tr] at hbd
        exact hbd)
      (Cls7.bare (X := (cxOf (L2N.CX P w) P w K mg base N_Space_fitted "Space.fitted" (defScope s_Space_fitted) f cdv A outer s H E)) ⟨by rfl, by decide, .inl T.g_NoRoom⟩ (fun ea oe cls d pn hzn hf => by
        have hz := hzn.zc
        have hsu : PSs (Cx.suite (cxOf (L2N.CX P w) P w K mg base N_Space_fitted "Space.fitted" (defScope s_Space_fitted) f cdv A outer s H E) ea ((ea, oe) :: pn)) (suBk 0 (nthS (defBody s_Space_fitted) 0)) _ := (pss_one k_deadS)
        dsimp only [Cx.suite] at hsu
        exact hsu)
      (Cls7.bare (X := (cxOf (L2N.CX P w) P w K mg base N_Space_fitted "Space.fitted" (defScope s_Space_fitted) f cdv A outer s H E)) ⟨by rfl, by decide, .inl T.g_NoNumber⟩ (fun ea oe cls d pn hzn hf => by
        have hz := hzn.zc
        have hsu : PSs (Cx.suite (cxOf (L2N.CX P w) P w K mg base N_Space_fitted "Space.fitted" (defScope s_Space_fitted) f cdv A outer s H E) ea ((ea, oe) :: pn)) (suBk 1 (nthS (defBody s_Space_fitted) 0)) _ := (pss_one k_deadS)
        dsimp only [Cx.suite] at hsu
        exact hsu)
      Cls7.nil)))
      (pss_one (ps_ret (kmX (L2N.takes_of rfl rfl rfl rfl) M_Store_allocate (hr.mono (by decide)) (k_fld (kv 0) rfl) (pa_cons (kv 1) (pa_cons (kv 2) pa_nil)))))), ?_⟩)
  · obtain ⟨_, _, _, rfl, _⟩ := h; rfl
  · obtain ⟨d, kd, n, rfl, Z, hb, h⟩ := h
    walk_at "kk"
    have S := Z.S
    have bd := Z.bd
    walk_at "kk"
    refine ⟨d.st, d.wd, d.pl, 100000, 100000, d.B, kd, n, rfl, S, by omega, by omega, by omega, by omega, fun z => by omega, fun _ f hf => ⟨fun _ H' S' f' => ?_, fun z => ?_⟩⟩
    · exact h f H' hf (Z.app S' f' (by rw [flat_len_app]; simp; omega)) (f'.mono (by simp))
    · have := hf.le
      have := nums_len d.B
      have := len_flat d.B
      omega
theorem ok_object_of (T : Txt P w K mg a) : Cal P w K mg base 3 "object_of" (spObjOf a.Space a.Store) := by
  have C_is_ref := ok_is_ref (P := P) (w := w) (base := base) T
  have C_ref_of := ok_ref_of (P := P) (w := w) (base := base) T
  have M_Store_exists := ok_Store_exists (P := P) (w := w) (base := base) T
  refine T.d_object_of.ok sc_object_of (fun vs H Q E h => ?_) (fun f cdv A outer s H vs Q E hr h => ⟨_, (pss_cons (ps_if (PW.pt (pw_and (kt (kc C_is_ref (hr.mono (by decide)) (pa_cons (kv 1) pa_nil))) (pw_and1 (kt (km M_Store_exists (hr.mono (by decide)) (k_fld (kv 0) rfl) (pa_cons (kc C_ref_of (hr.mono (by decide)) (pa_cons (kv 1) pa_nil)) pa_nil))))))
      (pss_one (ps_ret (kc C_ref_of (hr.mono (by decide)) (pa_cons (kv 1) pa_nil))))
      pss_nil)
      (pss_one (ps_ret pe_non))), ?_⟩)
  · obtain ⟨_, _, rfl, _⟩ := h; rfl
  · obtain ⟨d, z, rfl, Z, h⟩ := h
    have S := Z.S
    walk_at "kk"
    split
    · rename_i c
      walk_at "kk"
      cases el : lv d.B (z / 2) with
      | true =>
        walk_at "kk"
        rw [if_pos ⟨c, el⟩] at h
        exact h
      | false =>
        walk_at "kk"
        rw [if_neg (fun z => by rw [el] at z; cases z.2)] at h
        exact h
    · rename_i c
      rw [if_neg (fun z => c z.1)] at h
      exact h
theorem ok_row_of (T : Txt P w K mg a) : Cal P w K mg base 3 "row_of" (spRowOf a.Space a.Store) := by
  have M_Store_kind := ok_Store_kind (P := P) (w := w) (base := base) T
  have M_Store_slots := ok_Store_slots (P := P) (w := w) (base := base) T
  refine T.d_row_of.ok sc_row_of (fun vs H Q E h => ?_) (fun f cdv A outer s H vs Q E hr h => ⟨_, (pss_one (ps_ret (pe_op o_add (pe_lst (pa_cons (km M_Store_kind (hr.mono (by decide)) (k_fld (kv 0) rfl) (pa_cons (kv 1) pa_nil)) pa_nil)) (km M_Store_slots (hr.mono (by decide)) (k_fld (kv 0) rfl) (pa_cons (kv 1) pa_nil))))), ?_⟩)
  · obtain ⟨_, _, _, rfl, _⟩ := h; rfl
  · obtain ⟨d, n, r, rfl, Z, hg, h⟩ := h
    have S := Z.S
    obtain ⟨i, e, hi, ha, rfl, rfl⟩ := (gB_some S.nd).mp hg
    walk_at "kk"
    refine kind_s S hi ha rfl ?_
    walk_at "kk"
    intro p hp
    have Z1 : Spc a.Space a.Store (upd H p (.lst [.int e.k])) d := Z.fr0 (Fr.new hp)
    have p1 : upd H p (.lst [.int e.k]) p = some (.lst [.int e.k]) := upd_same
    have f1 : KW.Fr [] H (upd H p (.lst [.int e.k])) := Fr.new hp
    revert Z1 p1 f1
    generalize upd H p (.lst [.int e.k]) = H1
    intro Z1 p1 f1
    have S1 := Z1.S
    have bd := Z.bd
    have o3 := off_add hi
    walk_at "kk"
    refine slots_s S1 hi ha rfl fun t2 ht2 => ?_
    have p2 := (Fr.new (l := []) (o := .lst (e.s.map V.int)) ht2) _ _ (by simp) p1
    refine ucat_l (xs := [.int e.k]) (zs := e.s.map V.int) p2 upd_same (le_line (by simp only [List.length_map, List.length_cons, List.length_nil]; omega)) fun t3 ht3 => ?_
    have f3 : KW.Fr [] H (upd _ t3 (.lst ([.int e.k] ++ e.s.map V.int))) := f1.trans ((Fr.new ht2).trans (Fr.new ht3))
    exact h t3 _ (Fr.none f1 (by simp) (ne_un ht3)) f3 (by show upd _ _ _ _ = _; rw [upd_same]; rfl)
end
end K64

set_option Elab.async false
set_option linter.all false
set_option maxRecDepth 100000
set_option maxHeartbeats 4000000
/-! Kw6: methods with defaults, tuples among the constants, {k: v}, max of three, slices of tuples, tuple() -/
namespace KW
open PySem PySem.Spec PyProof.Rows L2
structure MetAtD (K : Frag) (C : Addr) (m qual : Str) (st : Stmt) (ps : List Str) (dvs : List V) : Prop where
  ex : ∃ f, Meth K C m f ∧ DfnAt K m qual st ps dvs f
structure CalMD (P : Program) (w : World) (K : Frag) (mg : Str → Option Value) (base : Heap) (k : Nat) (C : Addr) (m : Str) (dvs : List V) (sp : Sp) : Prop where
  cls : Cls K C
  ex : ∃ (f : Addr) (fd : FuncData) (ps : List Str), Meth K C m f ∧ FnOk P w K mg base (L2N.CX P w) k f fd ps sp ∧ ∀ j, j ≤ dvs.length → ∃ ds, Vals (dvs.drop j) ds ∧ Binds K fd ps ds
section
variable {P : Program} {w : World} {K : Frag} {mg : Str → Option Value} {base : Heap}
theorem MetAtD.ok {C : Addr} {m qual : Str} {st : Stmt} {N ps : List Str} {dvs : List V} {k : Nat} {sp : Sp} (D : MetAtD K C m qual st ps dvs) (c : Cls K C) (S : FnScope N ps (defScope st)) (len : ∀ vs H Q E, sp vs H Q E → vs.length = ps.length)
    (hbody : ∀ (f : Addr) (cdv : Value) (A : Around) (outer : List Env) (s : Shared) (H : Hp) (vs : List V) (Q : VK) (E : XK), Room k (A.deeper (envOfC qual (defScope st) s.heap.objs.size f cdv)) → sp vs H Q E →
      ∃ t, PSs (cxOf (L2N.CX P w) P w K mg base N qual (defScope st) f cdv A outer s H E) (defBody st) t ∧ t { nx := fun _ H' => Q .non H', rt := Q } (start N vs) H) : CalMD P w K mg base (k + 1) C m dvs sp := by
  obtain ⟨f, M, D⟩ := D.ex
  obtain ⟨fd, F, hb⟩ := D.fn S len hbody
  exact ⟨c, f, fd, ps, M, F, hb⟩
/-- a method that is never called here -/
theorem MetAt.dead {C : Addr} {m qual : Str} {st : Stmt} {ps : List Str} {k : Nat} (D : MetAt K C m qual st ps) (c : Cls K C) : CalM P w K mg base k C m (fun _ _ _ _ => False) := by
  obtain ⟨f, M, fd, F, hb⟩ := D.ex
  obtain ⟨ds, hd, b⟩ := hb 0 (Nat.le_refl _)
  cases hd
  exact ⟨c, f, fd, ps, M, b, fun _ _ _ _ h => h.elim, fun _ _ _ _ _ _ _ _ _ _ _ _ _ h => h.elim⟩
theorem metAt_mkD {C f T : Addr} {m qual : Str} {st : Stmt} {ps : List Str} {oc : Value} {od an : Option Addr} {osl : Array (Option Value)} {kV doc pm cdv ct : Value} {dvs : List V} {its : List Value} {o : Obj} {n : Nat} (a : PySem.W.findIn K (.ref C) m = some (some (.ref f))) (fn : PySem.W.isFn K (.ref f) = true) (kp : PySem.W.keepIn K (.ref f) = true)
    (l : K.lookup f = some ⟨oc, od, .func (PySem.W.fnOf m qual (defArgs st) (defBody st) (defScope st) (.ref T) kV doc pm an cdv ct), osl⟩) (c : PySem.W.codeIn K cdv qual = true)
    (lT : K.lookup T = some o) (oT : o.data = .seq its.toArray n) (r : Vals dvs its) (hd : dvs ≠ []) (hl : dvs.length ≤ ps.length)
    (hb : ∀ j, j ≤ dvs.length → ∀ (T : Addr) (kV doc pm : Value) (an : Option Addr) (cdv ct : Value) (us its : List Value), us.length = ps.length - (dvs.length - j) → its.length = dvs.length →
      ∃ k, bindArgs (PySem.W.fnOf m qual (defArgs st) (defBody st) (defScope st) (.ref T) kV doc pm an cdv ct) ⟨us, []⟩ = seqItems? (.ref T) >>= k ∧ k (some its.toArray) = pure (ps.zip (us ++ its.drop j))) : MetAtD K C m qual st ps dvs := by
  have F : FunD K m qual (defArgs st) (defBody st) (defScope st) dvs [] f _ := ⟨⟨oc, od, .ref T, kV, doc, pm, an, cdv, ct, osl, rfl, l, c, .inr ⟨hd, T, o, its, n, rfl, lT, oT, r⟩, .inl rfl⟩, kp⟩
  exact ⟨f, ⟨a, fn, kp⟩, _, F, fun j hj => F.binds1 (ps.length - (dvs.length - j)) j hd (by omega) (hb j hj)⟩
end
/-- o.m(args), where the last ones are taken from the defaults -/
def uMetD (C : Addr) (m : Str) (sp : Sp) (dv : List V) (ta : TE) (t : TA) : TE := fun σ H Q => ta σ H fun x H1 => uMtD C m sp dv t σ x H1 Q
where uMtD (C : Addr) (m : Str) (sp : Sp) (dv : List V) (t : TA) (σ : L2.St) : V → Hp → VK → Prop
  | .ref a, H1, Q => ∃ dx fs, H1 a = some (.ins C dx fs) ∧ fs.lookup m = none ∧ t σ H1 fun vs H2 => sp (.ref a :: (vs ++ dv)) H2 Q E0
  | _, _, _ => False
theorem uMtD_e {C : Addr} {m : Str} {sp : Sp} {dv : List V} {t : TA} {σ : L2.St} {a : Addr} {H : Hp} {Q : VK} : uMetD.uMtD C m sp dv t σ (.ref a) H Q = ∃ dx fs, H a = some (.ins C dx fs) ∧ fs.lookup m = none ∧ t σ H fun vs H2 => sp (.ref a :: (vs ++ dv)) H2 Q E0 := rfl
section
variable {X : Cx} {k : Nat} {C : Addr} {m : Str} {sp : Sp} {o e : Expr} {es : List Expr} {ta : TE} {t : TA} {apos pos : Pos} {pl : Sem Bool} {dvs : List V}
theorem kmD (j : Nat) (c : CalMD X.prog X.w X.K X.mg X.base k C m dvs sp) (hr : Room k X.A) (he : PE X o ta) (ha : PA X (e :: es) t) (hj : j ≤ dvs.length := by decide)
    (hst : starEach (e :: es) X.env = (false, eval e X.env) :: starEach es X.env := by rfl) (hpl : (backTo pos (starEach es X.env)).any (·.1) = false := by rfl)
    (ht : eval (.Call (.Attribute o m apos) (e :: es) [] pos) X.env = (do
      let ov ← eval o X.env
      standAt apos.atName
      let (f, first) ← holding [ov] (getMethod ov m pl)
      callWith pos f first (backTo pos (starEach (e :: es) X.env)) (backToKw pos (keywordEach [] X.env))) := by rfl) :
    PE X (.Call (.Attribute o m apos) (e :: es) [] pos) (uMetD C m sp (dvs.drop j) ta t) := by
  obtain ⟨cl, f, fd, ps, hm, F, hb⟩ := c
  obtain ⟨ds, hd, b⟩ := hb j hj
  refine ⟨fun pins s σ H Q I h => ?_⟩
  refine PySem.W.methodCall_KW (pl := pl) (thn (he.run pins s σ H _ I h) fun u s1 ⟨x, H1, I1, rx, hu⟩ => ?_) ht
  cases x with
  | ref a =>
    obtain ⟨dx, fs, ea, l, q⟩ := hu
    obtain rfl : u = Value.ref a := rx
    refine getmeth_ok I1 ea cl hm l ?_
    refine PySem.W.callWith_K (h₀ := X.base) I.ok.mod.kin hm.kp (thn (ha.run pos pins s1 σ H1 _ I1 q) fun us s2 ⟨vs, H2, I2, r, q2⟩ => ⟨I2.kIn, ?_⟩) hst hpl
    exact run_fn (us := .ref a :: us) (vs := .ref a :: vs) F hr b hd pass0 I2 (.cons rfl r) q2
  | _ => exact hu.elim
end
/-! ### tuples among the constants -/
structure GT (K : Frag) (mg : Str → Option Value) (x : Str) (a : Addr) (xs : List V) : Prop where
  g : mg x = some (.ref a)
  sq : ∀ H, SqT K H a xs
theorem gt_mk {K : Frag} {mg : Str → Option Value} {x : Str} {a : Addr} {xs : List V} {o : Obj} {its : List Value} {n : Nat} (g : mg x = some (.ref a)) (l : K.lookup a = some o) (c : o.cls = .type "tuple") (d : o.data = .seq its.toArray n) (z : its.length ≤ 1000) (r : Vals xs its) : GT K mg x a xs :=
  ⟨g, fun H => .inr ⟨o, its.toArray, n, l, c, d, by rw [sizeLine_eq]; simp; omega, by simpa using r⟩⟩
theorem in_gt {K : Frag} {H : Hp} {l : Addr} {x : Str} {xs : List Str} {Q : VK} (h : SqT K H l (xs.map V.str)) (q : Q (.bl (decide (x ∈ xs))) H) : rIn K false (.str x) (.ref l) H Q := ⟨l, _, rfl, .inr h, rfl, flat_strs xs, by rw [inV_strs]; exact q⟩
/-! ### {k: v} -/
def uD1 (p : Addr) : V → V → Hp → VK → Prop
  | .int i, v, H, Q => H p = some (.dK []) ∧ Q (.ref p) (upd H p (.dK [(.inl i, v)]))
  | .str i, v, H, Q => H p = some (.dK []) ∧ Q (.ref p) (upd H p (.dK [(.inr i, v)]))
  | _, _, _, _ => False
theorem uD1_e1 {p : Addr} {i : Int} {v : V} {H : Hp} {Q : VK} : uD1 p (.int i) v H Q = (H p = some (.dK []) ∧ Q (.ref p) (upd H p (.dK [(.inl i, v)]))) := rfl
theorem uD1_e2 {p : Addr} {i : Str} {v : V} {H : Hp} {Q : VK} : uD1 p (.str i) v H Q = (H p = some (.dK []) ∧ Q (.ref p) (upd H p (.dK [(.inr i, v)]))) := rfl
def uDict1 (tk tv : TE) : TE := fun σ H Q => ∀ p, H p = none → tk σ (upd H p (.dK [])) fun k H2 => tv σ H2 fun v H3 => uD1 p k v H3 Q
section
variable {X : Cx}
theorem k_dict1 {k v : Expr} {tk tv : TE} {pos : Pos} (hk : PE X k tk) (hv : PE X v tv) : PE X (.Dict [some k] [v] pos) (uDict1 tk tv) := by
  refine ⟨fun pins s σ H Q I h => ?_⟩
  refine (pe_disp (pps_cons (PEw hk (t' := tk) fun _ _ _ h => h) (PEw hv (t' := tv) fun _ _ _ h => h) pps_nil) rfl rfl (by simp) (by simp)).run pins s σ H Q I fun p hp => ?_
  have h := h p hp
  have e : (fun k H2 => tv σ H2 fun v H3 => uD1 p k v H3 Q) = fun k H2 => tv σ H2 fun v H3 => H3 p = some (.dK []) ∧ ∃ kvs : List (Key × V), [(k, v)] = kvs.map (fun kv => (kV kv.1, kv.2)) ∧ kvs.length ≤ 15 ∧ Q (.ref p) (upd H3 p (.dK (mergeK [] kvs))) := by
    funext k H2
    refine congrArg (tv σ H2) ?_
    funext v H3
    apply propext
    constructor
    · intro h
      unfold uD1 at h
      split at h
      · exact ⟨h.1, [(.inl _, v)], rfl, by simp, h.2⟩
      · exact ⟨h.1, [(.inr _, v)], rfl, by simp, h.2⟩
      · exact h.elim
    · rintro ⟨h1, kvs, e, -, q⟩
      match kvs, e with
      | [(.inl i, v')], e =>
        simp only [List.map_cons, List.map_nil, List.cons.injEq, Prod.mk.injEq, and_true] at e
        obtain ⟨rfl, rfl⟩ := e
        exact ⟨h1, q⟩
      | [(.inr i, v')], e =>
        simp only [List.map_cons, List.map_nil, List.cons.injEq, Prod.mk.injEq, and_true] at e
        obtain ⟨rfl, rfl⟩ := e
        exact ⟨h1, q⟩
  rw [e] at h
  exact h
/-! ### max(a, b, c), slices, tuple() -/
def m2 (i j : Int) : Int := if i < j then j else i
def uMax3 : List V → Hp → VK → Prop
  | [.int i, .int j, .int k], H, Q => Q (.int (m2 (m2 i j) k)) H
  | _, _, _ => False
theorem uMax3_e {i j k : Int} {H : Hp} {Q : VK} : uMax3 [.int i, .int j, .int k] H Q = Q (.int (m2 (m2 i j) k)) H := rfl
theorem c_max3 (hc : X.calm = true) : CallR X (.builtin "max") uMax3 := CallRw (call_max3Nu hc) fun xs H Q h => by
  unfold uMax3 at h
  split at h
  · rename_i i j k
    refine ⟨.int i, .int j, .int k, .int (m2 (m2 i j) k), rfl, ?_, h⟩
    have e : ∀ i j : Int, nuMax2 (.int i) (.int j) = some (.int (m2 i j)) := fun i j => by
      unfold nuMax2 m2
      show (some (decide (i < j))).map _ = _
      by_cases c : i < j
      · simp [c]
      · simp [c]
    unfold nuMax3
    rw [e]
    exact e _ _
  · exact h.elim
def uSlA (K : Frag) : V → Option Int → Option Int → Hp → VK → Prop
  | .ref a, lo, hi, H, Q => rSlL K (.ref a) lo hi H Q ∨ rSlA K (.ref a) lo hi H Q
  | .str z, lo, hi, H, Q => z.length ≤ sizeLine ∧ Q (.str (cutS z lo hi)) H
  | _, _, _, _, _ => False
theorem uSlA_e1 {K : Frag} {a : Addr} {lo : Option Int} {hi : Option Int} {H : Hp} {Q : VK} : uSlA K (.ref a) lo hi H Q = (rSlL K (.ref a) lo hi H Q ∨ rSlA K (.ref a) lo hi H Q) := rfl
theorem uSlA_e2 {K : Frag} {z : Str} {lo : Option Int} {hi : Option Int} {H : Hp} {Q : VK} : uSlA K (.str z) lo hi H Q = (z.length ≤ sizeLine ∧ Q (.str (cutS z lo hi)) H) := rfl
theorem o_slA : SlR X (uSlA X.K) := SlRw (sl_list.or (sl_tupA.or sl_str)) fun x lo hi H Q h => by
  unfold uSlA at h
  split at h
  · exact h.elim .inl fun z => .inr (.inl z)
  · exact .inr (.inr ⟨_, rfl, h.1, h.2⟩)
  · exact h.elim
def uTuple (K : Frag) : List V → Hp → VK → Prop
  | [.ref p], H, Q => ∃ ys, (SqL K H p ys ∧ ∀ l, H l = none → Q (.ref l) (upd H l (.tup ys))) ∨ (SqT K H p ys ∧ Q (.ref p) H)
  | _, _, _ => False
theorem uTuple_e {K : Frag} {p : Addr} {H : Hp} {Q : VK} : uTuple K [.ref p] H Q = ∃ ys, (SqL K H p ys ∧ ∀ l, H l = none → Q (.ref l) (upd H l (.tup ys))) ∨ (SqT K H p ys ∧ Q (.ref p) H) := rfl
theorem c_tuple : CallR X (.type "tuple") (uTuple X.K) := CallRw call_tuple_of fun xs H Q h => by
  unfold uTuple at h
  split at h
  · obtain ⟨ys, h⟩ := h
    exact ⟨_, ys, rfl, h⟩
  · exact h.elim
def uLenDk : List V → Hp → VK → Prop
  | [.ref p], H, Q => ∃ kvs, H p = some (.dK kvs) ∧ Q (.int kvs.length) H
  | _, _, _ => False
theorem uLenDk_e {p : Addr} {H : Hp} {Q : VK} : uLenDk [.ref p] H Q = ∃ kvs, H p = some (.dK kvs) ∧ Q (.int kvs.length) H := rfl
theorem c_lenDk : CallR X (.builtin "len") uLenDk := CallRw call_lenD fun xs H Q h => by
  unfold uLenDk at h
  split at h
  · obtain ⟨kvs, h1, h2⟩ := h
    exact ⟨_, kvs, rfl, h1, h2⟩
  · exact h.elim
end
end KW

set_option Elab.async false
set_option linter.all false
set_option maxRecDepth 100000
set_option maxHeartbeats 4000000
namespace K64
open PySem PySem.Spec PyProof.Rows L2 KW ST LamX
local macro_rules | `(tactic| walk_at "kw") => `(tactic| simp only [tSeq, tNext, tIfS, tTest, tAnd, tOr, tNot, tAndV, tOrV, tNotV, tIf, tChain, tOp, tUn, tC, tAsg, gName, gSub, gCons, gNil, tRet, tRetN, tDrop, tCons, tNil, tCB, tAug, tSl, tPart, tNoPart, tLst, tTup, tBM, tBM0, uTest, uFor, iRng1, iRng2, iList, uCall, List.map_cons, List.map_nil, List.length_cons, List.length_nil, List.cons_append, List.nil_append, List.replicate, Nat.zero_add, Nat.reduceAdd, Nat.reduceSub, List.getElem?_cons_zero, List.getElem?_cons_succ, List.set_cons_zero, List.set_cons_succ, V.bl.injEq, V.int.injEq, V.str.injEq, V.ref.injEq, V.ty.injEq, List.cons.injEq, and_true, true_and, exists_eq_left', exists_eq_right, exists_eq_left, exists_and_left, exists_and_right, decide_eq_true_eq, Bool.not_eq_true', decide_eq_false_iff_not, Bool.false_eq_true, if_true, if_false, ite_true, ite_false, Bool.not_true, Bool.not_false, reduceCtorEq, decide_true, decide_false, Bool.not_not, isK_int_int, isK_int_bool, isK_int_str, isK_int_list, isK_int_tuple, isK_bool_int, isK_bool_bool, isK_bool_str, isK_str_str, isK_str_int, isK_str_bool, isK_str_tuple, isK_str_list, isK_list_list, isK_list_tuple, isK_tuple_tuple, isK_tuple_list, isOk_int_int, isOk_int_bool, isOk_int_str, isOk_int_list, isOk_int_tuple, isOk_bool_int, isOk_bool_bool, isOk_bool_str, isOk_str_str, isOk_str_int, isOk_str_bool, isOk_str_tuple, isOk_str_list, isOk_list_list, isOk_list_tuple, isOk_tuple_tuple, isOk_tuple_list, isK_dict_dict, isOk_dict_dict, isK_none_int, isK_none_bool, isOk_none_int, isOk_none_bool, tyV, S_inj, S_cat, L2.start, Nat.reduceSub, List.replicate_succ, List.replicate_zero, and_assoc, List.append_nil, Nat.reduceEqDiff, Option.some.injEq, Int.natCast_inj, upd_upd, Int.reducePow, Int.reduceToNat, Int.reduceMul, Int.reduceAdd, Int.reduceSub, Int.reduceLT, Int.reduceLE, Int.reduceNeg, Int.reduceDiv, Int.reduceMod, Nat.reducePow, Nat.reduceMul, S_len, List.length_append, List.length_map, List.length_range, not_true_eq_false, not_false_eq_true, ne_eq, uAdd_e1, uAdd_e2, uSub_e1, uMod_e1, uDiv_e1, uPow_e1, uShl_e1, uNeg_e1, uIAdd_e1, uIAdd_e2, uIAdd_e3, uISub_e1, uLt_e1, uLt_e2, uLe_e1, uGt_e1, uGe_e1, uEq_e1, uEq_e2, uEq_e3, uEq_e4, uEq_e5, uEq_e6, uEq_e7, uEq_e8, uEq_e9, uEq_e10, uEq_e11, uNe_e1, uNe_e2, uNe_e3, uNe_e4, uNe_e5, uNe_e6, uNe_e7, uNe_e8, uNe_e9, uNe_e10, uNe_e11, uIs_e1, uIs_e2, uIs_e3, uIs_e4, uIs_e5, uIs_e6, uIs_e7, uNotIs_e1, uNotIs_e2, uNotIs_e3, uNotIs_e4, uNotIs_e5, uNotIs_e6, uIn_e1, uIn_e2, uIn_e3, uIn_e4, uNotIn_e1, uNotIn_e2, uNotIn_e3, uNotIn_e4, uTru_e1, uTru_e2, uTru_e3, uTru_e4, uIx_e2, uSl_e2, uLen_e1, uAbs_e1, uInt_e1, uInt_e2, uMin2_e1, uIsi_e1, uIsi_e2, uIsi_e3, uIsi_e4, cx_K, uVar_0, uVar_n, uFld, uSFld, uMet, uMake, tDG, tDI, tDNI, tDP, tDD, uMk, uRaise, uDelSl, tCallS, L2.WE, uStr_e1, uStr_e2, uMul2_e1, uMul2_e2, okS_i, okS_s, List.zip_cons_cons, List.zip_nil_left, List.drop_zero, List.drop_succ_cons, List.drop_nil, putF_nil, putF_cons, eq_self, tDNewK, tB, Option.isSome_some, Option.isSome_none, false_and, false_or, or_false, exists_false, Int.zero_add, uLc, wipe, tYes, isEmpty_app, List.isEmpty_cons, List.isEmpty_nil, List.isEmpty_map, Bool.and_false, Bool.and_true, iRev, K64.lit_0, K64.fe_room_entries, K64.fe_room_words, K64.fe_room__places, K64.fe_room__least, K64.fe_entries_room, K64.fe_entries_words, K64.fe_entries__places, K64.fe_entries__least, K64.fe_words_room, K64.fe_words_entries, K64.fe_words__places, K64.fe_words__least, K64.fe__places_room, K64.fe__places_entries, K64.fe__places_words, K64.fe__places__least, K64.fe__least_room, K64.fe__least_entries, K64.fe__least_words, K64.fe__least__places, K64.fe_store_pressure, K64.fe_store_always, K64.fe_store_allocations, K64.fe_store_collections, K64.fe_store__roots, K64.fe_store__held, K64.fe_store__saved, K64.fe_pressure_store, K64.fe_pressure_always, K64.fe_pressure_allocations, K64.fe_pressure_collections, K64.fe_pressure__roots, K64.fe_pressure__held, K64.fe_pressure__saved, K64.fe_always_store, K64.fe_always_pressure, K64.fe_always_allocations, K64.fe_always_collections, K64.fe_always__roots, K64.fe_always__held, K64.fe_always__saved, K64.fe_allocations_store, K64.fe_allocations_pressure, K64.fe_allocations_always, K64.fe_allocations_collections, K64.fe_allocations__roots, K64.fe_allocations__held, K64.fe_allocations__saved, K64.fe_collections_store, K64.fe_collections_pressure, K64.fe_collections_always, K64.fe_collections_allocations, K64.fe_collections__roots, K64.fe_collections__held, K64.fe_collections__saved, K64.fe__roots_store, K64.fe__roots_pressure, K64.fe__roots_always, K64.fe__roots_allocations, K64.fe__roots_collections, K64.fe__roots__held, K64.fe__roots__saved, K64.fe__held_store, K64.fe__held_pressure, K64.fe__held_always, K64.fe__held_allocations, K64.fe__held_collections, K64.fe__held__roots, K64.fe__held__saved, K64.fe__saved_store, K64.fe__saved_pressure, K64.fe__saved_always, K64.fe__saved_allocations, K64.fe__saved_collections, K64.fe__saved__roots, K64.fe__saved__held, tDGF_eq, uDGetF_e1, tLstRg, tRg1, K64.N_is_ref, K64.N_ref_of, K64.N_reached, K64.N_collect, K64.N_object_of, K64.N_row_of, K64.N_word_at, K64.N_paths, K64.N_garbage, K64.N_Store_init, K64.N_Store_exists, K64.N_Store_numbers, K64.N_Store_free_number, K64.N_Store_allocate, K64.N_Store_size, K64.N_Store_kind, K64.N_Store_get, K64.N_Store_put, K64.N_Store_slots, K64.N_Store_drop, K64.N_Store_close_up, K64.N_Space_init, K64.N_Space_root, K64.N_Space_set_root, K64.N_Space_hold, K64.N_Space_drop, K64.N_Space_held, K64.N_Space_all_roots, K64.N_Space_collect, K64.N_Space_collect_with, K64.N_Space_new, K64.N_Space_fitted, K64.N__law_number, K64.N__law_word, K64.N__law_is, K64.N__law_same, K64.N__law_sizes, K64.N__law_rows, K64.N__law_roots, K64.N__law_space, K64.N__law_walk, K64.N__law_extended, K64.N__law_best, K64.N__law_path_is, K64.N__law_told, K64.N__law_drawn, K64.N__law_kept, K64.N__law_long, K64.N_law, sp_is_ref, sp_ref_of])
local macro_rules | `(tactic| walk_at "nn") => `(tactic| first | assumption | exact ne_un (by assumption) | exact ne_un (ne_un (by assumption)) | exact ne_un (ne_un (ne_un (by assumption))) | exact ne_un (ne_un (ne_un (ne_un (by assumption)))))
local macro_rules | `(tactic| walk_at "ne") => `(tactic| first | assumption | (apply Ne.symm; assumption) | exact ne_ud (by assumption) | exact Ne.symm (ne_ud (by assumption)) | exact ne_ud (ne_un (by assumption)) | exact Ne.symm (ne_ud (ne_un (by assumption))) | exact ne_ud (ne_un (ne_un (by assumption))) | exact Ne.symm (ne_ud (ne_un (ne_un (by assumption)))) | exact ne_m (by assumption) (by assumption) | exact Ne.symm (ne_m (by assumption) (by assumption)) | exact ne_n (by assumption) (by walk_at "nn") | exact Ne.symm (ne_n (by assumption) (by walk_at "nn")))
local macro_rules | `(tactic| walk_at "hp") => `(tactic| first | assumption | exact upd_same | (refine Eq.trans (upd_ne ?_) ?_; (focus walk_at "ne"); walk_at "hp"))
local macro_rules | `(tactic| walk_at "sc") => `(tactic| first | (with_reducible assumption) | omega | exact le_line (by (try simp only [List.length_map, List.length_append, List.length_cons, List.length_nil, S_len]); omega) | exact div_s (by omega) | exact mul_r (by omega) | exact mul_l (by omega) | exact pow_s (by omega) | exact mul2_r (by omega) | exact mul2_l (by omega) | exact small4300 (by omega) | exact lt_line (by (try simp only [List.length_map, List.length_append, List.length_cons, List.length_nil, S_len]); omega) | exact ⟨_, by assumption⟩ | (guard_target =~ Exists _; exact ⟨_, .of (by walk_at "hp")⟩) | (guard_target =~ _ ∨ _; exact .inl ⟨_, by assumption⟩) | (guard_target =~ _ ∨ _; exact .inl ⟨_, .of (by walk_at "hp")⟩) | (guard_target =~ _ ∨ _; exact .inr (.inr (.inl ⟨rfl, .inl ⟨_, by walk_at "hp"⟩⟩))) | decide)
local macro_rules | `(tactic| walk_at "kr") => `(tactic| first | (guard_target =~ _ ∧ _; first | refine And.intro (by walk_at "sc") ?_) | (guard_target =~ KW.uIx _ _ _ _ _; first | refine ix_l (by walk_at "hp") (by first | walk_at "hv" | rfl) ?_ | refine ix_t (by walk_at "hp") (by first | walk_at "hv" | rfl) ?_ | refine ix_sl (by assumption) (by walk_at "hv") ?_) | (guard_target =~ KW.uLen _ _ _ _; first | refine len_l (by walk_at "hp") ?_ | refine len_t (by walk_at "hp") ?_ | refine len_sl (by assumption) ?_) | (guard_target =~ KW.uSet _ _ _ _ _; first | refine set_l (by walk_at "hp") (by first | walk_at "hv" | rfl) ?_) | (guard_target =~ L2.gTup _ _ _ _ _ _ _; first | refine tup_l (by walk_at "hp") (by rfl) ?_) | (guard_target =~ KW.uGet _ _ _ _ _; first | refine get_l (by walk_at "hp") (by walk_at "hc") (by decide) (by rfl) ?_) | (guard_target =~ KW.uPut _ _ _ _ _ _; first | refine put_l (by walk_at "hp") (by walk_at "hc") (by decide) (by simp) ?_) | (guard_target =~ KW.uMet.uMt _ _ _ _ _ _ _ _ _; first | refine met_l (by walk_at "hp") (by rfl) ?_) | (guard_target =~ KW.uMet.uMt _ _ _ _ _ _ _ _ _; first | refine ST.met_s (by assumption) (by decide) ?_) | (guard_target =~ ST.spExists _ _ _ _ _; first | refine ST.exists_s (by assumption) ?_) | (guard_target =~ ST.spUsed _ _ _ _ _; first | refine ST.used_s (by assumption) ?_) | (guard_target =~ KW.uGet _ _ _ _ _; first | refine ST.words_s (by assumption) (by walk_at "hc") (by decide) ?_) | (guard_target =~ KW.uDIn _ _ _ _; first | refine din_i (by walk_at "hp") ?_ | refine din_s (by walk_at "hp") ?_) | (guard_target =~ KW.uDGet _ _ _ _; first | refine dget_i (by walk_at "hp") (by walk_at "hv") ?_ | refine dget_s (by walk_at "hp") (by walk_at "hv") ?_) | (guard_target =~ KW.uDPut _ _ _ _ _; first | refine dput_i (by walk_at "hp") (by walk_at "sc") ?_ | refine dput_s (by walk_at "hp") (by walk_at "sc") ?_) | (guard_target =~ KW.uDDel _ _ _ _; first | refine ddel_i (by walk_at "hp") (by walk_at "hv") ?_ | refine ddel_s (by walk_at "hp") (by walk_at "hv") ?_) | (guard_target =~ KW.uMul2 _ _ _ _; first | refine rep_l (by walk_at "hp") (by walk_at "sc") (by walk_at "sc") (by walk_at "sc") ?_) | (guard_target =~ L2.rAppend _ _ _ _; first | refine app_l (by walk_at "hp") (by walk_at "sc") ?_) | (guard_target =~ L2.rPop _ _ _ _; first | refine pop_l (by walk_at "hp") (by walk_at "hv") ?_ | refine pops_l (by walk_at "hp") ?_) | (guard_target =~ L2.rClear _ _ _ _; first | refine clr_l (by walk_at "hp") ?_) | (guard_target =~ L2.rReverse _ _ _ _; first | refine rev_l (by walk_at "hp") ?_) | (guard_target =~ L2.rExtend _ _ _ _; first | refine ext_l (by walk_at "hp") (by walk_at "hp") (by walk_at "sc") ?_) | (guard_target =~ KW.uAdd _ _ _ _ _; first | refine ucat_l (by walk_at "hp") (by walk_at "hp") (by walk_at "sc") ?_) | (guard_target =~ KW.uSl _ _ _ _ _ _; first | refine usl_l (by walk_at "hp") ?_) | (guard_target =~ KW.uTru _ _ _ _; first | refine tru_l (by walk_at "hp") ?_ | refine tru_t (by walk_at "hp") ?_ | refine tru_d (by walk_at "hp") ?_ | refine tru_sl (by assumption) ?_) | (guard_target =~ L2.rIndex _ _ _ _ _; first | refine idx_s (by walk_at "hp") (by assumption) ?_ | refine idx_i (by walk_at "hp") (by assumption) ?_) | (guard_target =~ L2.rIn _ _ _ _ _ _; first | refine in_s (by walk_at "hp") ?_ | refine nin_s (by walk_at "hp") ?_ | refine in_i (by walk_at "hp") ?_ | refine nin_i (by walk_at "hp") ?_) | (guard_target =~ KW.uIsi _ _ _ _; first | refine isi_l (by walk_at "hp") (by decide +kernel) ?_ | refine isi_t (by walk_at "hp") (by decide +kernel) ?_ | refine isi_d (by walk_at "hp") (by decide +kernel) ?_) | (guard_target =~ KW.uList _ _ _ _; first | refine list_l (by walk_at "hp") ?_ | refine list_t (by walk_at "hp") ?_ | refine list_sl (by assumption) ?_) | (guard_target =~ KW.uDict _ _ _; first | refine dict_d (by walk_at "hp") ?_) | (guard_target =~ KW.uSorted _ _ _ _; first | refine srt_l (by walk_at "hp") ?_) | (guard_target =~ KW.uSum _ _ _ _; first | refine sum_l (by walk_at "hp") ?_) | (guard_target =~ KW.uDelC _ _ _ _; first | refine dels_l (by walk_at "hp") (by walk_at "sc") ?_) | (guard_target =~ L2.wAs _ _ _ _ _ _ _ _ _ _; first | refine as_yes (by walk_at "hx") ?_ | refine as_no (by walk_at "hx") ?_) | (guard_target =~ KW.uEf _ _ _ _ _ _ _ _ _; first | refine ef_l (by walk_at "he") (by decide) (by rfl) (by walk_at "hp") (by rfl) ?_) | (guard_target =~ KW.uIsE _ _ _ _ _ _ _; first | refine isE_r (by walk_at "he") (by walk_at "hp") (by walk_at "hk") ?_ | refine isE_t (by walk_at "he") (by walk_at "hp") (by walk_at "hk") ?_))
local macro_rules | `(tactic| walk_at "hv") => `(tactic| first | assumption)
local macro_rules | `(tactic| walk_at "kk") => `(tactic| repeat (first | walk_at "kw" | walk_at "kr"))
local macro_rules | `(tactic| walk_at "hc") => `(tactic| first | exact K64.Txt.c_Store (by assumption) | exact K64.Txt.c_Space (by assumption))
local macro_rules | `(tactic| walk_at "he") => `(tactic| first | exact K64.Txt.e_BadWord (by assumption) | exact K64.Txt.e_NoRoom (by assumption) | exact K64.Txt.e_NoNumber (by assumption) | exact K64.Txt.e_Wrong (by assumption))
local macro_rules | `(tactic| walk_at "hx") => `(tactic| first | exact K64.Txt.x_BadWord_NoNumber (by assumption) | exact K64.Txt.x_BadWord_NoRoom (by assumption) | exact K64.Txt.x_NoRoom_NoNumber (by assumption) | exact K64.Txt.x_NoRoom_NoRoom (by assumption) | exact K64.Txt.x_NoNumber_NoNumber (by assumption) | exact K64.Txt.x_NoNumber_NoRoom (by assumption) | exact K64.Txt.x_Wrong_NoNumber (by assumption) | exact K64.Txt.x_Wrong_NoRoom (by assumption))
local macro_rules | `(tactic| walk_at "hk") => `(tactic| first | fail)

local macro_rules | `(tactic| walk_at "kr") => `(tactic| first | (guard_target =~ KW.uGet _ _ _ _ _; refine ST.get_p (by assumption) (by rfl) (by walk_at "hc") (by decide) (by rfl) ?_) | (guard_target =~ KW.uMet.uMt _ _ _ _ _ _ _ _ _; refine ST.met_p (by assumption) (by rfl) (by decide) ?_))
section
variable {P : Program} {w : World} {K : Frag} {mg : Str → Option Value} {base : Heap} {a : Ads}
theorem ok_Space_new (T : Txt P w K mg a) : CalM P w K mg base 4 a.Space "new" (spNew a.Space a.Store) := by
  have M_Store_allocate := ok_Store_allocate (P := P) (w := w) (base := base) T
  have M_Space_fitted := ok_Space_fitted (P := P) (w := w) (base := base) T
  have M_Space_collect_with : CalM P w K mg base 1 a.Space "collect_with" (fun _ _ _ _ => False) := T.m_Space_collect_with.dead T.c_Space.cls
  refine T.m_Space_new.ok T.c_Space.cls sc_Space_new (fun vs H Q E h => ?_) (fun f cdv A outer s H vs Q E hr h => ⟨_, (pss_cons (k_sfld (kv 0) (pe_op o_add (k_fld (kv 0) rfl) pe_int) rfl)
      (pss_cons (ps_if (pt_cmpR o_isnot (k_fld (kv 0) rfl) pe_non (nomark _))
      (pss_one (ps_ret (kmX (L2N.takes_of rfl rfl rfl rfl) M_Store_allocate (hr.mono (by decide)) (k_fld (kv 0) rfl) (pa_cons (kv 1) (pa_cons (kv 2) pa_nil)))))
      pss_nil)
      (pss_cons (ps_if (PW.pt (pw_or (kt (k_fld (kv 0) rfl)) (pw_or1 (pt_cmpR o_in (k_fld (kv 0) rfl) (k_fld (kv 0) rfl) (by rfl)))))
      (pss_one (ps_expr (km M_Space_collect_with (hr.mono (by decide)) (kv 0) (pa_cons (kv 1) pa_nil))))
      pss_nil)
      (pss_one (ps_ret (km M_Space_fitted (hr.mono (by decide)) (kv 0) (pa_cons (kv 1) (pa_cons (kv 2) pa_nil)))))))), ?_⟩)
  · obtain ⟨_, _, _, rfl, _⟩ := h; rfl
  · obtain ⟨d, kd, n, rfl, Z, hb, h⟩ := h
    obtain ⟨dx, ob⟩ := Z.ob
    walk_at "kk"
    generalize hH1 : upd H d.sp _ = H1
    have Z1 := Z.cnt hH1.symm
    have f1 : KW.Fr [d.sp] H H1 := by rw [← hH1]; exact Fr.upd (by simp)
    have pe := Z1.pe
    clear hH1 ob
    refine in_i (xs := []) pe ?_
    walk_at "kk"
    rw [if_neg (by simp)]
    walk_at "kk"
    refine ⟨{ d with al := d.al + 1 }, kd, n, rfl, Z1, hb, fun f H' hf Z' f' => ?_⟩
    exact h f H' hf Z' ((f1.mono (by simp)).trans f')
theorem ok_garbage (T : Txt P w K mg a) : Cal P w K mg base 4 "garbage" (spGarbage a.Space a.Store) := by
  have C_reached := ok_reached (P := P) (w := w) (base := base) T
  have M_Space_all_roots := ok_Space_all_roots (P := P) (w := w) (base := base) T
  have M_Store_numbers := ok_Store_numbers (P := P) (w := w) (base := base) T
  refine T.d_garbage.ok sc_garbage (fun vs H Q E h => ?_) (fun f cdv A outer s H vs Q E hr h => ⟨_, (pss_cons (ps_set (i := 1) sc_garbage.nd rfl (Or.inr rfl) (kc C_reached (hr.mono (by decide)) (pa_cons (k_fld (kv 0) rfl) (pa_cons (km0 M_Space_all_roots (hr.mono (by decide)) (kv 0)) pa_nil))))
      (pss_one (ps_ret (k_lc (own := [("number", 2)]) (g := gName 2) (by rfl) sc_garbage.nd (pi_list (km0 M_Store_numbers (hr.mono (by decide)) (k_fld (kv 0) rfl))) (blkOk_by (own := [("number", 2)]) (N := ["space", "found", "number"]) (sc := defScope s_garbage) (by decide +kernel)) (fun _ _ _ _ _ => pg_name (i := 2) sc_garbage.nd rfl (Or.inl rfl)) (fun _ _ _ _ _ => by exact pts_one (pt_cmp (k_dnotin (hu_of hr) (kv 2) (kv 1)))) (fun _ _ _ _ _ => by exact (kv 2)))))), ?_⟩)
  · obtain ⟨_, rfl, _⟩ := h; rfl
  · obtain ⟨d, rfl, Z, h⟩ := h
    walk_at "kk"
    refine allRoots_s Z fun l H1 n1 f1 i1 => ?_
    have Z1 := Z.fr0 f1
    have S1 := Z1.S
    have bd := Z.bd
    have lr : (d.R ++ d.L).length ≤ 1100 := by have := Z.r16; have := Z.l9; rw [List.length_append]; omega
    refine reached_s S1 i1 (by omega) (by simp at lr ⊢; omega) fun p F kvs H2 n2 f2 hk fnd ndF hF => ?_
    have Z2 := Z1.fr0 f2
    have S2 := Z2.S
    have lB := len_flat d.B
    walk_at "kk"
    refine numbers_s S2 (by omega) fun ns t q1 q2 q3 => ?_
    have f3 : KW.Fr [] H2 (upd H2 t (.lst (ns.map V.int))) := Fr.new q3
    have hk3 := f3 _ _ (by simp) hk
    have ht3 : IL (upd H2 t (.lst (ns.map V.int))) t ns := upd_same
    revert f3 hk3 ht3
    generalize upd H2 t (.lst (ns.map V.int)) = H3
    intro f3 hk3 ht3
    have nl := q1.length_eq
    have nl2 := nums_len d.B
    walk_at "kk"
    refine lc_ii (fun n => if (!decide (n ∈ F)) = true then some n else none) (.of ht3) (lt_line (by omega)) ?_ ?_
    · intro i x D acc Cy Cn hx hD h1 h2
      have pD : p ≠ D := ne_of_none hk3 hD
      walk_at "kk"
      rw [fnd.mem]
      by_cases c : x ∈ F
      · rw [if_neg (by simp [c])]
        exact h2 (if_neg (by simp [c]))
      · rw [if_pos (by simp [c])]
        exact h1 x (if_pos (by simp [c]))
    intro go q4
    have ef : ns.filterMap (fun n => if (!decide (n ∈ F)) = true then some n else none) = ns.filter fun n => !decide (n ∈ F) := by
      rw [fm_if (fun n => !decide (n ∈ F)) (fun n => n) ns]; simp
    rw [ef]
    have f123 := f1.trans (f2.trans f3)
    refine h go _ _ (f123.none (by simp) q4) (f123.trans (Fr.new q4)) upd_same (q2.sublist List.filter_sublist) ((q1.nodup_iff.mpr (nums_nodup Z.S.nd)).sublist List.filter_sublist) fun n => ?_
    rw [List.mem_filter, q1.mem_iff, mem_nums, ← rch_rg Z.S.nd, ← hF]
    simp
end
end K64

set_option Elab.async false
set_option linter.all false
set_option maxRecDepth 100000
set_option maxHeartbeats 4000000
namespace K64
open PySem PySem.Spec PyProof.Rows L2 KW ST
local macro_rules | `(tactic| walk_at "kw") => `(tactic| simp only [tSeq, tNext, tIfS, tTest, tAnd, tOr, tNot, tAndV, tOrV, tNotV, tIf, tChain, tOp, tUn, tC, tAsg, gName, gSub, gCons, gNil, tRet, tRetN, tDrop, tCons, tNil, tCB, tAug, tSl, tPart, tNoPart, tLst, tTup, tBM, tBM0, uTest, uFor, iRng1, iRng2, iList, uCall, List.map_cons, List.map_nil, List.length_cons, List.length_nil, List.cons_append, List.nil_append, List.replicate, Nat.zero_add, Nat.reduceAdd, Nat.reduceSub, List.getElem?_cons_zero, List.getElem?_cons_succ, List.set_cons_zero, List.set_cons_succ, V.bl.injEq, V.int.injEq, V.str.injEq, V.ref.injEq, V.ty.injEq, List.cons.injEq, and_true, true_and, exists_eq_left', exists_eq_right, exists_eq_left, exists_and_left, exists_and_right, decide_eq_true_eq, Bool.not_eq_true', decide_eq_false_iff_not, Bool.false_eq_true, if_true, if_false, ite_true, ite_false, Bool.not_true, Bool.not_false, reduceCtorEq, decide_true, decide_false, Bool.not_not, isK_int_int, isK_int_bool, isK_int_str, isK_int_list, isK_int_tuple, isK_bool_int, isK_bool_bool, isK_bool_str, isK_str_str, isK_str_int, isK_str_bool, isK_str_tuple, isK_str_list, isK_list_list, isK_list_tuple, isK_tuple_tuple, isK_tuple_list, isOk_int_int, isOk_int_bool, isOk_int_str, isOk_int_list, isOk_int_tuple, isOk_bool_int, isOk_bool_bool, isOk_bool_str, isOk_str_str, isOk_str_int, isOk_str_bool, isOk_str_tuple, isOk_str_list, isOk_list_list, isOk_list_tuple, isOk_tuple_tuple, isOk_tuple_list, isK_dict_dict, isOk_dict_dict, isK_none_int, isK_none_bool, isOk_none_int, isOk_none_bool, tyV, S_inj, S_cat, L2.start, Nat.reduceSub, List.replicate_succ, List.replicate_zero, and_assoc, List.append_nil, Nat.reduceEqDiff, Option.some.injEq, Int.natCast_inj, upd_upd, Int.reducePow, Int.reduceToNat, Int.reduceMul, Int.reduceAdd, Int.reduceSub, Int.reduceLT, Int.reduceLE, Int.reduceNeg, Int.reduceDiv, Int.reduceMod, Nat.reducePow, Nat.reduceMul, S_len, List.length_append, List.length_map, List.length_range, not_true_eq_false, not_false_eq_true, ne_eq, uAdd_e1, uAdd_e2, uSub_e1, uMod_e1, uDiv_e1, uPow_e1, uShl_e1, uNeg_e1, uIAdd_e1, uIAdd_e2, uIAdd_e3, uISub_e1, uLt_e1, uLt_e2, uLe_e1, uGt_e1, uGe_e1, uEq_e1, uEq_e2, uEq_e3, uEq_e4, uEq_e5, uEq_e6, uEq_e7, uEq_e8, uEq_e9, uEq_e10, uEq_e11, uNe_e1, uNe_e2, uNe_e3, uNe_e4, uNe_e5, uNe_e6, uNe_e7, uNe_e8, uNe_e9, uNe_e10, uNe_e11, uIs_e1, uIs_e2, uIs_e3, uIs_e4, uIs_e5, uIs_e6, uIs_e7, uNotIs_e1, uNotIs_e2, uNotIs_e3, uNotIs_e4, uNotIs_e5, uNotIs_e6, uIn_e1, uIn_e2, uIn_e3, uIn_e4, uNotIn_e1, uNotIn_e2, uNotIn_e3, uNotIn_e4, uTru_e1, uTru_e2, uTru_e3, uTru_e4, uIx_e2, uSl_e2, uLen_e1, uAbs_e1, uInt_e1, uInt_e2, uMin2_e1, uIsi_e1, uIsi_e2, uIsi_e3, uIsi_e4, cx_K, uVar_0, uVar_n, uFld, uSFld, uMet, uMake, tDG, tDI, tDNI, tDP, tDD, uMk, uRaise, uDelSl, tCallS, L2.WE, uStr_e1, uStr_e2, uMul2_e1, uMul2_e2, okS_i, okS_s, List.zip_cons_cons, List.zip_nil_left, List.drop_zero, List.drop_succ_cons, List.drop_nil, putF_nil, putF_cons, eq_self, tDNewK, tB, Option.isSome_some, Option.isSome_none, false_and, false_or, or_false, exists_false, Int.zero_add, uLc, wipe, tYes, isEmpty_app, List.isEmpty_cons, List.isEmpty_nil, List.isEmpty_map, Bool.and_false, Bool.and_true, iRev, K64.lit_0, K64.fe_room_entries, K64.fe_room_words, K64.fe_room__places, K64.fe_room__least, K64.fe_entries_room, K64.fe_entries_words, K64.fe_entries__places, K64.fe_entries__least, K64.fe_words_room, K64.fe_words_entries, K64.fe_words__places, K64.fe_words__least, K64.fe__places_room, K64.fe__places_entries, K64.fe__places_words, K64.fe__places__least, K64.fe__least_room, K64.fe__least_entries, K64.fe__least_words, K64.fe__least__places, K64.fe_store_pressure, K64.fe_store_always, K64.fe_store_allocations, K64.fe_store_collections, K64.fe_store__roots, K64.fe_store__held, K64.fe_store__saved, K64.fe_pressure_store, K64.fe_pressure_always, K64.fe_pressure_allocations, K64.fe_pressure_collections, K64.fe_pressure__roots, K64.fe_pressure__held, K64.fe_pressure__saved, K64.fe_always_store, K64.fe_always_pressure, K64.fe_always_allocations, K64.fe_always_collections, K64.fe_always__roots, K64.fe_always__held, K64.fe_always__saved, K64.fe_allocations_store, K64.fe_allocations_pressure, K64.fe_allocations_always, K64.fe_allocations_collections, K64.fe_allocations__roots, K64.fe_allocations__held, K64.fe_allocations__saved, K64.fe_collections_store, K64.fe_collections_pressure, K64.fe_collections_always, K64.fe_collections_allocations, K64.fe_collections__roots, K64.fe_collections__held, K64.fe_collections__saved, K64.fe__roots_store, K64.fe__roots_pressure, K64.fe__roots_always, K64.fe__roots_allocations, K64.fe__roots_collections, K64.fe__roots__held, K64.fe__roots__saved, K64.fe__held_store, K64.fe__held_pressure, K64.fe__held_always, K64.fe__held_allocations, K64.fe__held_collections, K64.fe__held__roots, K64.fe__held__saved, K64.fe__saved_store, K64.fe__saved_pressure, K64.fe__saved_always, K64.fe__saved_allocations, K64.fe__saved_collections, K64.fe__saved__roots, K64.fe__saved__held, tDGF_eq, uDGetF_e1, tLstRg, tRg1, K64.N_is_ref, K64.N_ref_of, K64.N_reached, K64.N_collect, K64.N_object_of, K64.N_row_of, K64.N_word_at, K64.N_paths, K64.N_garbage, K64.N_Store_init, K64.N_Store_exists, K64.N_Store_numbers, K64.N_Store_free_number, K64.N_Store_allocate, K64.N_Store_size, K64.N_Store_kind, K64.N_Store_get, K64.N_Store_put, K64.N_Store_slots, K64.N_Store_drop, K64.N_Store_close_up, K64.N_Space_init, K64.N_Space_root, K64.N_Space_set_root, K64.N_Space_hold, K64.N_Space_drop, K64.N_Space_held, K64.N_Space_all_roots, K64.N_Space_collect, K64.N_Space_collect_with, K64.N_Space_new, K64.N_Space_fitted, K64.N__law_number, K64.N__law_word, K64.N__law_is, K64.N__law_same, K64.N__law_sizes, K64.N__law_rows, K64.N__law_roots, K64.N__law_space, K64.N__law_walk, K64.N__law_extended, K64.N__law_best, K64.N__law_path_is, K64.N__law_told, K64.N__law_drawn, K64.N__law_kept, K64.N__law_long, K64.N_law, sp_is_ref, sp_ref_of])
local macro_rules | `(tactic| walk_at "nn") => `(tactic| first | assumption | exact ne_un (by assumption) | exact ne_un (ne_un (by assumption)) | exact ne_un (ne_un (ne_un (by assumption))) | exact ne_un (ne_un (ne_un (ne_un (by assumption)))))
local macro_rules | `(tactic| walk_at "ne") => `(tactic| first | assumption | (apply Ne.symm; assumption) | exact ne_ud (by assumption) | exact Ne.symm (ne_ud (by assumption)) | exact ne_ud (ne_un (by assumption)) | exact Ne.symm (ne_ud (ne_un (by assumption))) | exact ne_ud (ne_un (ne_un (by assumption))) | exact Ne.symm (ne_ud (ne_un (ne_un (by assumption)))) | exact ne_m (by assumption) (by assumption) | exact Ne.symm (ne_m (by assumption) (by assumption)) | exact ne_n (by assumption) (by walk_at "nn") | exact Ne.symm (ne_n (by assumption) (by walk_at "nn")))
local macro_rules | `(tactic| walk_at "hp") => `(tactic| first | assumption | exact upd_same | (refine Eq.trans (upd_ne ?_) ?_; (focus walk_at "ne"); walk_at "hp"))
local macro_rules | `(tactic| walk_at "sc") => `(tactic| first | (with_reducible assumption) | omega | exact le_line (by (try simp only [List.length_map, List.length_append, List.length_cons, List.length_nil, S_len]); omega) | exact div_s (by omega) | exact mul_r (by omega) | exact mul_l (by omega) | exact pow_s (by omega) | exact mul2_r (by omega) | exact mul2_l (by omega) | exact small4300 (by omega) | exact lt_line (by (try simp only [List.length_map, List.length_append, List.length_cons, List.length_nil, S_len]); omega) | exact ⟨_, by assumption⟩ | (guard_target =~ Exists _; exact ⟨_, .of (by walk_at "hp")⟩) | (guard_target =~ _ ∨ _; exact .inl ⟨_, by assumption⟩) | (guard_target =~ _ ∨ _; exact .inl ⟨_, .of (by walk_at "hp")⟩) | (guard_target =~ _ ∨ _; exact .inr (.inr (.inl ⟨rfl, .inl ⟨_, by walk_at "hp"⟩⟩))) | decide)
local macro_rules | `(tactic| walk_at "kr") => `(tactic| first | (guard_target =~ _ ∧ _; first | refine And.intro (by walk_at "sc") ?_) | (guard_target =~ KW.uIx _ _ _ _ _; first | refine ix_l (by walk_at "hp") (by first | walk_at "hv" | rfl) ?_ | refine ix_t (by walk_at "hp") (by first | walk_at "hv" | rfl) ?_ | refine ix_sl (by assumption) (by walk_at "hv") ?_) | (guard_target =~ KW.uLen _ _ _ _; first | refine len_l (by walk_at "hp") ?_ | refine len_t (by walk_at "hp") ?_ | refine len_sl (by assumption) ?_) | (guard_target =~ KW.uSet _ _ _ _ _; first | refine set_l (by walk_at "hp") (by first | walk_at "hv" | rfl) ?_) | (guard_target =~ L2.gTup _ _ _ _ _ _ _; first | refine tup_l (by walk_at "hp") (by rfl) ?_) | (guard_target =~ KW.uGet _ _ _ _ _; first | refine get_l (by walk_at "hp") (by walk_at "hc") (by decide) (by rfl) ?_) | (guard_target =~ KW.uPut _ _ _ _ _ _; first | refine put_l (by walk_at "hp") (by walk_at "hc") (by decide) (by simp) ?_) | (guard_target =~ KW.uMet.uMt _ _ _ _ _ _ _ _ _; first | refine met_l (by walk_at "hp") (by rfl) ?_) | (guard_target =~ KW.uMet.uMt _ _ _ _ _ _ _ _ _; first | refine ST.met_s (by assumption) (by decide) ?_) | (guard_target =~ ST.spExists _ _ _ _ _; first | refine ST.exists_s (by assumption) ?_) | (guard_target =~ ST.spUsed _ _ _ _ _; first | refine ST.used_s (by assumption) ?_) | (guard_target =~ KW.uGet _ _ _ _ _; first | refine ST.words_s (by assumption) (by walk_at "hc") (by decide) ?_) | (guard_target =~ KW.uDIn _ _ _ _; first | refine din_i (by walk_at "hp") ?_ | refine din_s (by walk_at "hp") ?_) | (guard_target =~ KW.uDGet _ _ _ _; first | refine dget_i (by walk_at "hp") (by walk_at "hv") ?_ | refine dget_s (by walk_at "hp") (by walk_at "hv") ?_) | (guard_target =~ KW.uDPut _ _ _ _ _; first | refine dput_i (by walk_at "hp") (by walk_at "sc") ?_ | refine dput_s (by walk_at "hp") (by walk_at "sc") ?_) | (guard_target =~ KW.uDDel _ _ _ _; first | refine ddel_i (by walk_at "hp") (by walk_at "hv") ?_ | refine ddel_s (by walk_at "hp") (by walk_at "hv") ?_) | (guard_target =~ KW.uMul2 _ _ _ _; first | refine rep_l (by walk_at "hp") (by walk_at "sc") (by walk_at "sc") (by walk_at "sc") ?_) | (guard_target =~ L2.rAppend _ _ _ _; first | refine app_l (by walk_at "hp") (by walk_at "sc") ?_) | (guard_target =~ L2.rPop _ _ _ _; first | refine pop_l (by walk_at "hp") (by walk_at "hv") ?_ | refine pops_l (by walk_at "hp") ?_) | (guard_target =~ L2.rClear _ _ _ _; first | refine clr_l (by walk_at "hp") ?_) | (guard_target =~ L2.rReverse _ _ _ _; first | refine rev_l (by walk_at "hp") ?_) | (guard_target =~ L2.rExtend _ _ _ _; first | refine ext_l (by walk_at "hp") (by walk_at "hp") (by walk_at "sc") ?_) | (guard_target =~ KW.uAdd _ _ _ _ _; first | refine ucat_l (by walk_at "hp") (by walk_at "hp") (by walk_at "sc") ?_) | (guard_target =~ KW.uSl _ _ _ _ _ _; first | refine usl_l (by walk_at "hp") ?_) | (guard_target =~ KW.uTru _ _ _ _; first | refine tru_l (by walk_at "hp") ?_ | refine tru_t (by walk_at "hp") ?_ | refine tru_d (by walk_at "hp") ?_ | refine tru_sl (by assumption) ?_) | (guard_target =~ L2.rIndex _ _ _ _ _; first | refine idx_s (by walk_at "hp") (by assumption) ?_ | refine idx_i (by walk_at "hp") (by assumption) ?_) | (guard_target =~ L2.rIn _ _ _ _ _ _; first | refine in_s (by walk_at "hp") ?_ | refine nin_s (by walk_at "hp") ?_ | refine in_i (by walk_at "hp") ?_ | refine nin_i (by walk_at "hp") ?_) | (guard_target =~ KW.uIsi _ _ _ _; first | refine isi_l (by walk_at "hp") (by decide +kernel) ?_ | refine isi_t (by walk_at "hp") (by decide +kernel) ?_ | refine isi_d (by walk_at "hp") (by decide +kernel) ?_) | (guard_target =~ KW.uList _ _ _ _; first | refine list_l (by walk_at "hp") ?_ | refine list_t (by walk_at "hp") ?_ | refine list_sl (by assumption) ?_) | (guard_target =~ KW.uDict _ _ _; first | refine dict_d (by walk_at "hp") ?_) | (guard_target =~ KW.uSorted _ _ _ _; first | refine srt_l (by walk_at "hp") ?_) | (guard_target =~ KW.uSum _ _ _ _; first | refine sum_l (by walk_at "hp") ?_) | (guard_target =~ KW.uDelC _ _ _ _; first | refine dels_l (by walk_at "hp") (by walk_at "sc") ?_) | (guard_target =~ L2.wAs _ _ _ _ _ _ _ _ _ _; first | refine as_yes (by walk_at "hx") ?_ | refine as_no (by walk_at "hx") ?_) | (guard_target =~ KW.uEf _ _ _ _ _ _ _ _ _; first | refine ef_l (by walk_at "he") (by decide) (by rfl) (by walk_at "hp") (by rfl) ?_) | (guard_target =~ KW.uIsE _ _ _ _ _ _ _; first | refine isE_r (by walk_at "he") (by walk_at "hp") (by walk_at "hk") ?_ | refine isE_t (by walk_at "he") (by walk_at "hp") (by walk_at "hk") ?_))
local macro_rules | `(tactic| walk_at "hv") => `(tactic| first | assumption)
local macro_rules | `(tactic| walk_at "kk") => `(tactic| repeat (first | walk_at "kw" | walk_at "kr"))
local macro_rules | `(tactic| walk_at "hc") => `(tactic| first | exact K64.Txt.c_Store (by assumption) | exact K64.Txt.c_Space (by assumption))
local macro_rules | `(tactic| walk_at "he") => `(tactic| first | exact K64.Txt.e_BadWord (by assumption) | exact K64.Txt.e_NoRoom (by assumption) | exact K64.Txt.e_NoNumber (by assumption) | exact K64.Txt.e_Wrong (by assumption))
local macro_rules | `(tactic| walk_at "hx") => `(tactic| first | exact K64.Txt.x_BadWord_NoNumber (by assumption) | exact K64.Txt.x_BadWord_NoRoom (by assumption) | exact K64.Txt.x_NoRoom_NoNumber (by assumption) | exact K64.Txt.x_NoRoom_NoRoom (by assumption) | exact K64.Txt.x_NoNumber_NoNumber (by assumption) | exact K64.Txt.x_NoNumber_NoRoom (by assumption) | exact K64.Txt.x_Wrong_NoNumber (by assumption) | exact K64.Txt.x_Wrong_NoRoom (by assumption))
local macro_rules | `(tactic| walk_at "hk") => `(tactic| first | fail)

section
variable {P : Program} {w : World} {K : Frag} {mg : Str → Option Value} {base : Heap} {a : Ads}
theorem ok__law_number (T : Txt P w K mg a) : Cal P w K mg base 1 "_law_number" spNumber := by
  refine T.d__law_number.ok sc__law_number (fun vs H Q E h => ?_) (fun f cdv A outer s H vs Q E hr h => ⟨_, (pss_cons (ps_if (pt_cmpR o_ge (kv 0) (pe_op o_pow pe_int pe_int) (nomark _))
      (pss_one (ps_ret (kv 0)))
      pss_nil)
      (pss_cons (ps_set (i := 2) sc__law_number.nd rfl (Or.inl rfl) (pe_op o_mod (pe_callTy c_int (by rfl) T.n_int (by decide +kernel) (pa_cons (pe_op o_add (pe_op o_add (pe_op o_mul2 (kv 0) pe_int) (pe_op o_mul2 (kv 1) pe_int)) pe_int) pa_nil)) pe_int))
      (pss_one (ps_ret (pe_op o_mod (pe_callTy c_int (by rfl) T.n_int (by decide +kernel) (pa_cons (pe_op o_add (pe_op o_mul2 (kv 2) (kv 2)) (pe_op o_mul2 (kv 1) pe_int)) pa_nil)) pe_int))))), ?_⟩)
  · obtain ⟨_, _, rfl, _⟩ := h; rfl
  · obtain ⟨c, k, rfl, hk, hk2, h⟩ := h
    walk_at "kk"
    split
    · exact h _ (by omega)
    · walk_at "kk"
      exact h _ (by omega)
theorem ok__law_is (T : Txt P w K mg a) : Cal P w K mg base 1 "_law_is" spIs := by
  refine T.d__law_is.ok sc__law_is (fun vs H Q E h => ?_) (fun f cdv A outer s H vs Q E hr h => ⟨_, (pss_one (ps_ret (pe_and (pe_callB c_isi (by rfl) T.n_isinstance (by decide +kernel) (pa_cons (kv 0) (pa_cons (pe_bltn (v := .ty "int") (by rfl) T.n_int (by decide +kernel) rfl) pa_nil))) (pe_and (pe_not (pe_callB c_isi (by rfl) T.n_isinstance (by decide +kernel) (pa_cons (kv 0) (pa_cons (pe_bltn (v := .ty "bool") (by rfl) T.n_bool (by decide +kernel) rfl) pa_nil)))) (pe_one (pe_cmpR (o_eq hr.units) (kv 0) (kv 1) (nomark _))))))), ?_⟩)
  · obtain ⟨_, _, rfl, _⟩ := h; rfl
  · obtain ⟨b, c, rfl, ⟨x, y, rfl, rfl, h⟩⟩ := h
    walk_at "kk"
    exact h
theorem ok__law_same (T : Txt P w K mg a) : Cal P w K mg base 2 "_law_same" spSame := by
  have C__law_is := ok__law_is (P := P) (w := w) (base := base) T
  refine T.d__law_same.ok sc__law_same (fun vs H Q E h => ?_) (fun f cdv A outer s H vs Q E hr h => ⟨_, (pss_cons (ps_if (PW.pt (pw_or (pt_not (kt (pe_callB c_isi (by rfl) T.n_isinstance (by decide +kernel) (pa_cons (kv 0) (pa_cons (pe_bltn (v := .ty "list") (by rfl) T.n_list (by decide +kernel) rfl) pa_nil))))) (pw_or1 (pt_cmpR (o_ne hr.units) (pe_callB c_len (by rfl) T.n_len (by decide +kernel) (pa_cons (kv 0) pa_nil)) (pe_callB c_len (by rfl) T.n_len (by decide +kernel) (pa_cons (kv 1) pa_nil)) (nomark _)))))
      (pss_one (ps_ret pe_bl))
      pss_nil)
      (pss_cons (k_for (passes_of rfl) rfl (pi_range1 (by rfl) T.n_range (pa_cons (pe_callB c_len (by rfl) T.n_len (by decide +kernel) (pa_cons (kv 1) pa_nil)) pa_nil)) (pg_name (i := 2) sc__law_same.nd rfl (Or.inl rfl))
      (pss_one (ps_if (pt_not (kt (kc C__law_is (hr.mono (by decide)) (pa_cons (pe_ix o_ix (kv 0) (kv 2) (fun _ _ => rfl)) (pa_cons (pe_ix o_ix (kv 1) (kv 2) (fun _ _ => rfl)) pa_nil)))))
      (pss_one (ps_ret pe_bl))
      pss_nil)))
      (pss_one (ps_ret pe_bl)))), ?_⟩)
  · obtain ⟨_, _, _, rfl, _⟩ := h; rfl
  · obtain ⟨p, q, xs, rfl, hp, hq, hl, h⟩ := h
    walk_at "kk"
    refine for_rng (fun i σ H' => ∃ v, σ = [some (.ref p), some (.ref q), v] ∧ H' = H) ⟨_, rfl, rfl⟩ ?_ ?_
    · rintro i σ H' hi ⟨v, rfl, rfl⟩
      obtain ⟨x, hx⟩ : ∃ x, xs[i]? = some x := ⟨_, List.getElem?_eq_getElem (show i < xs.length by omega)⟩
      have hv := atI_map (f := V.int) hx
      walk_at "kk"
      unfold spIs
      walk_at "kk"
    · rintro σ H' ⟨v, rfl, rfl⟩
      walk_at "kk"
      exact h
end
end K64

set_option Elab.async false
set_option linter.all false
set_option maxRecDepth 100000
set_option maxHeartbeats 4000000
/-! SpL: what the laws over a space keep beside it; promises -/
namespace ST
open PySem PySem.Spec PyProof.Rows L2 KW LamX
/-- a list of rows, each with its list -/
structure Rls (H : Hp) (l : Addr) (Ls : List (Addr × List Int)) : Prop where
  li : H l = some (.lst (Ls.map fun x => .ref x.1))
  rs : ∀ x ∈ Ls, IL H x.1 x.2
theorem Rls.fr0 {H H' : Hp} {l : Addr} {Ls : List (Addr × List Int)} (s : Rls H l Ls) (f : KW.Fr [] H H') : Rls H' l Ls := ⟨f _ _ (by simp) s.li, fun x hx => f _ _ (by simp) (s.rs x hx)⟩
def gL (Ls : List (Addr × List Int)) : Gr := fun n => if 0 ≤ n then (Ls[n.toNat]?).map fun x => x.2 else none
/-- the law's own rows and words -/
structure LW (H : Hp) (rw wo : Addr) (D : List RW) (ws : List Int) : Prop where
  R : Rws H rw D
  W : IL H wo ws
  l1 : D.length ≤ 60
  l2 : ∀ d ∈ D, 1 ≤ d.r.length ∧ d.r.length ≤ 30
  l3 : 16 ≤ ws.length
  l4 : ws.length ≤ 100
theorem LW.fr {H H' : Hp} {rw wo : Addr} {D : List RW} {ws : List Int} {l : List Addr} (s : LW H rw wo D ws) (f : KW.Fr l H H') (n : ∀ x ∈ wo :: fpW rw D, x ∉ l) : LW H' rw wo D ws :=
  ⟨s.R.fr f fun x hx => n x (List.mem_cons_of_mem _ hx), f _ _ (n _ (by simp)) s.W, s.l1, s.l2, s.l3, s.l4⟩
theorem LW.fr0 {H H' : Hp} {rw wo : Addr} {D : List RW} {ws : List Int} (s : LW H rw wo D ws) (f : KW.Fr [] H H') : LW H' rw wo D ws := s.fr f fun _ _ => by simp
theorem LW.there {H : Hp} {rw wo : Addr} {D : List RW} {ws : List Int} (s : LW H rw wo D ws) : ∀ x ∈ wo :: fpW rw D, ∃ o, H x = some o := fun x hx => by
  rcases List.mem_cons.mp hx with rfl | q
  · exact ⟨_, s.W⟩
  · exact s.R.there x q
/-- a space and the law's own picture of it -/
structure LS (CS C : Addr) (H : Hp) (d : Spd) (rw wo : Addr) (D : List RW) (ws : List Int) : Prop where
  Z : Spc CS C H d
  Y : LW H rw wo D ws
  e1 : gB d.B = gR D
  e2 : d.R ++ d.L = ws
  bd : (flat d.B).length ≤ 4000
  sep : ∀ x ∈ wo :: fpW rw D, x ∉ fpP d
theorem LS.fr0 {CS C : Addr} {H H' : Hp} {d : Spd} {rw wo : Addr} {D : List RW} {ws : List Int} (s : LS CS C H d rw wo D ws) (f : KW.Fr [] H H') : LS CS C H' d rw wo D ws := ⟨s.Z.fr0 f, s.Y.fr0 f, s.e1, s.e2, s.bd, s.sep⟩
def spSizes : Sp := fun vs H Q _ => ∃ (x : Int), vs = [.int x] ∧ ∀ l H' (zs : List Int), H l = none → KW.Fr [] H H' → IL H' l zs → zs.length ≤ 59 → (∀ z ∈ zs, 0 ≤ z ∧ z ≤ 20) → Q (.ref l) H'
def spRows : Sp := fun vs H Q _ => ∃ (sz : Addr) (x : Int) (zs : List Int), vs = [.ref sz, .int x] ∧ IL H sz zs ∧ zs.length ≤ 59 ∧ (∀ z ∈ zs, 0 ≤ z ∧ z ≤ 20) ∧
  ∀ l H' (Ls : List (Addr × List Int)), H l = none → KW.Fr [] H H' → Rls H' l Ls → Ls.length = zs.length → (∀ x ∈ Ls, H x.1 = none ∧ 1 ≤ x.2.length ∧ x.2.length ≤ 21) → Q (.ref l) H'
def spRootsL : Sp := fun vs H Q _ => ∃ (m x : Int), vs = [.int m, .int x] ∧ 0 ≤ m ∧ m ≤ 1000 ∧ ∀ l H' (ws : List Int), H l = none → KW.Fr [] H H' → IL H' l ws → 16 ≤ ws.length → ws.length ≤ 20 → Q (.ref l) H'
def spSpaceL (CS C : Addr) : Sp := fun vs H Q _ => ∃ (l wo : Addr) (Ls : List (Addr × List Int)) (ws : List Int), vs = [.ref l, .ref wo] ∧ Rls H l Ls ∧ Ls.length ≤ 59 ∧ (∀ x ∈ Ls, 1 ≤ x.2.length ∧ x.2.length ≤ 21) ∧ IL H wo ws ∧ 16 ≤ ws.length ∧ ws.length ≤ 20 ∧
  ∀ (d : Spd) H', Spc CS C H' d → gB d.B = gL Ls → d.R ++ d.L = ws → (flat d.B).length ≤ 4000 → KW.Fr [] H H' → (∀ x ∈ fpP d, H x = none) → Q (.ref d.sp) H'
def spLReached : Sp := fun vs H Q _ => ∃ (rw wo : Addr) (D : List RW) (ws : List Int), vs = [.ref rw, .ref wo] ∧ LW H rw wo D ws ∧
  ∀ l (F : List Int) (kvs : KVs) H', H l = none → KW.Fr [] H H' → H' l = some (.dK kvs) → Fnd kvs F → F.Nodup → (∀ n, n ∈ F ↔ Rg (gR D) (0 :: ws) n) → Q (.ref l) H'
def spEmptied : Sp := fun vs H Q _ => ∃ (rw wo p : Addr) (D : List RW) (ws : List Int) (c : Plc), vs = [.ref rw, .ref wo, .ref p] ∧ LW H rw wo D ws ∧ c.at H p ∧ c.ok (gR D) ∧
  ∀ t cw cl (D' : List RW) H', KW.Fr [] H H' → H t = none → H' t = some (.tup [.ref cw, .ref cl]) → LW H' cw cl D' (c.roots ws) → nsR D' = nsR D → gR D' = c.g (gR D) → (∀ x ∈ cl :: fpW cw D', H x = none) → Q (.ref t) H'
def spPlaceL : Sp := fun vs H Q _ => ∃ (rw : Addr) (x : Int) (D : List RW), vs = [.ref rw, .int x] ∧ Rws H rw D ∧ D.length ≤ 60 ∧ (∀ d ∈ D, 1 ≤ d.r.length ∧ d.r.length ≤ 30) ∧ ∀ p (c : Plc) H', H p = none → KW.Fr [] H H' → c.at H' p → c.ok (gR D) → Q (.ref p) H'
def spDueL : Sp := fun vs H Q _ => ∃ (rw wo p : Addr) (D : List RW) (ws : List Int) (c : Plc), vs = [.ref rw, .ref wo, .ref p] ∧ LW H rw wo D ws ∧ c.at H p ∧ c.ok (gR D) ∧
  ∀ l H' (ys : List Int), H l = none → KW.Fr [] H H' → IL H' l ys → ys.Pairwise (· ≤ ·) → ys.Nodup → (∀ n, n ∈ ys ↔ Rg (gR D) (0 :: ws) n ∧ ¬ Rg (c.g (gR D)) (0 :: c.roots ws) n) → Q (.ref l) H'
def spAgreesL (CS C : Addr) : Sp := fun vs H Q _ => ∃ (d : Spd) (rw wo : Addr) (D : List RW) (ws : List Int), vs = [.ref d.sp, .ref rw, .ref wo] ∧ LS CS C H d rw wo D ws ∧ ∀ H', KW.Fr [] H H' → Q (.bl true) H'
/-- what _law_still notes -/
def Stl (H : Hp) (l : Addr) (d : Spd) : Prop := ∃ x y, H l = some (.lst [.ref x, .int d.al, .int d.co, .ref y, .bl false]) ∧ IL H x (flat d.B) ∧ H y = some (.lst [])
theorem Stl.fr0 {H H' : Hp} {l : Addr} {d : Spd} (s : Stl H l d) (f : KW.Fr [] H H') : Stl H' l d := by
  obtain ⟨x, y, h1, h2, h3⟩ := s
  exact ⟨x, y, f _ _ (by simp) h1, f _ _ (by simp) h2, f _ _ (by simp) h3⟩
def stD (d : Spd) : PyData := .list [.list ((flat d.B).map PyData.int), .int d.al, .int d.co, .list [], .bool false]
theorem Stl.dp {K : Frag} {H : Hp} {l : Addr} {d : Spd} (s : Stl H l d) : Dp K H (.ref l) (stD d) := by
  obtain ⟨x, y, h1, h2, h3⟩ := s
  exact .lst (.of h1) (.cons (.lst (.of h2) (dpAll_ints _)) (.cons (.int _) (.cons (.int _) (.cons (.lst (.of h3) .nil) (.cons (.bl _) .nil)))))
theorem stD_sh (d : Spd) : SeqAt.shaped (stD d) = true := by
  have h1 := lay_ints (flat d.B)
  have h2 := dep_ints (flat d.B)
  have e : SeqAt.shaped (stD d) = ((PyData.canLayAll0 ((flat d.B).map PyData.int) && (true && (true && (true && (true && true))))) && decide (max (PyData.depthAll ((flat d.B).map PyData.int) + 1) (max 0 (max 0 (max (0 + 1) (max 0 0)))) + 1 ≤ 64)) := rfl
  rw [e, h1, h2]; decide
theorem still_ne {K : Frag} {H : Hp} {l m : Addr} {d : Spd} {Q : VK} (s : Stl H l d) (t : Stl H m d) (q : Q (.bl false) H) : rNeD K (.ref l) (.ref m) H Q := neD_s s.dp t.dp (stD_sh d) q
def spStill (CS C : Addr) : Sp := fun vs H Q _ => ∃ (d : Spd), vs = [.ref d.sp] ∧ Spc CS C H d ∧ ∀ l H', H l = none → KW.Fr [] H H' → Stl H' l d → Q (.ref l) H'
def spChainedL : Sp := fun vs H Q _ => ∃ (n : Int), vs = [.int n] ∧ 2 ≤ n ∧ n ≤ 2000 ∧ ∀ H', KW.Fr [] H H' → Q (.bl true) H'
def spFreed (CS C p0 : Addr) (q : Str) : Sp := fun vs H Q _ => ∃ (d : Spd) (rw wo p : Addr) (D : List RW) (ws : List Int) (c : Plc), vs = [.ref d.sp, .ref rw, .ref wo, .ref p] ∧ LS CS C H d rw wo D ws ∧ c.at H p ∧ c.ok (gR D) ∧ TabS H p0 q ∧
  ∀ (d' : Spd) t lw lo (D' : List RW) (ws' : List Int) H', d'.sp = d.sp → LS CS C H' d' lw lo D' ws' → H' t = some (.tup [.ref lw, .ref lo]) → (∀ x ∈ fpP d', x ∈ fpP d ∨ H x = none) → KW.Fr (p0 :: fpP d) H H' → TabS H' p0 q → Q (.ref t) H'
section
variable {CS C : Addr} {H : Hp} {d : Spd} {Q : VK} {E : XK} {rw wo p : Addr} {D : List RW} {ws : List Int} {c : Plc}
theorem lreached_s (Y : LW H rw wo D ws) (q : ∀ l (F : List Int) (kvs : KVs) H', H l = none → KW.Fr [] H H' → H' l = some (.dK kvs) → Fnd kvs F → F.Nodup → (∀ n, n ∈ F ↔ Rg (gR D) (0 :: ws) n) → Q (.ref l) H') : spLReached [.ref rw, .ref wo] H Q E := ⟨rw, wo, D, ws, rfl, Y, q⟩
theorem emptied_s (Y : LW H rw wo D ws) (hc : c.at H p) (ho : c.ok (gR D)) (q : ∀ t cw cl (D' : List RW) H', KW.Fr [] H H' → H t = none → H' t = some (.tup [.ref cw, .ref cl]) → LW H' cw cl D' (c.roots ws) → nsR D' = nsR D → gR D' = c.g (gR D) → (∀ x ∈ cl :: fpW cw D', H x = none) → Q (.ref t) H') : spEmptied [.ref rw, .ref wo, .ref p] H Q E := ⟨rw, wo, p, D, ws, c, rfl, Y, hc, ho, q⟩
theorem place_s {x : Int} (R : Rws H rw D) (l1 : D.length ≤ 60) (l2 : ∀ d ∈ D, 1 ≤ d.r.length ∧ d.r.length ≤ 30) (q : ∀ p (c : Plc) H', H p = none → KW.Fr [] H H' → c.at H' p → c.ok (gR D) → Q (.ref p) H') : spPlaceL [.ref rw, .int x] H Q E := ⟨rw, x, D, rfl, R, l1, l2, q⟩
theorem due_s (Y : LW H rw wo D ws) (hc : c.at H p) (ho : c.ok (gR D)) (q : ∀ l H' (ys : List Int), H l = none → KW.Fr [] H H' → IL H' l ys → ys.Pairwise (· ≤ ·) → ys.Nodup → (∀ n, n ∈ ys ↔ Rg (gR D) (0 :: ws) n ∧ ¬ Rg (c.g (gR D)) (0 :: c.roots ws) n) → Q (.ref l) H') : spDueL [.ref rw, .ref wo, .ref p] H Q E := ⟨rw, wo, p, D, ws, c, rfl, Y, hc, ho, q⟩
theorem agreesL_s {x : Addr} (Z : LS CS C H d rw wo D ws) (q : ∀ H', KW.Fr [] H H' → Q (.bl true) H') (ex : x = d.sp := by rfl) : spAgreesL CS C [.ref x, .ref rw, .ref wo] H Q E := by subst ex; exact ⟨d, rw, wo, D, ws, rfl, Z, q⟩
theorem still_s {x : Addr} (Z : Spc CS C H d) (q : ∀ l H', H l = none → KW.Fr [] H H' → Stl H' l d → Q (.ref l) H') (ex : x = d.sp := by rfl) : spStill CS C [.ref x] H Q E := by subst ex; exact ⟨d, rfl, Z, q⟩
end
end ST

set_option Elab.async false
set_option linter.all false
set_option maxRecDepth 100000
set_option maxHeartbeats 4000000
/-! SpR: rows dicts that change -/
namespace ST
open PySem PySem.Spec PyProof.Rows L2 KW LamX
theorem tYes_if {σ : L2.St} {H : Hp} {A B : Hp → Prop} (q : A H) : tYes σ H fun b H3 => if b = true then A H3 else B H3 := by show (if true = true then A H else B H); rw [if_pos rfl]; exact q
def putR (D : List RW) (e : RW) : List RW := if e.n ∈ nsR D then D.map (fun d => if d.n = e.n then e else d) else D ++ [e]
abbrev nrR (D : List RW) : List (Int × List Int) := D.map fun d => (d.n, d.r)
def mapR (f : Int → List Int → List Int) (D : List RW) : List RW := D.map fun d => { d with r := f d.n d.r }
theorem kvR_app (D E : List RW) : kvR (D ++ E) = kvR D ++ kvR E := by unfold kvR; rw [List.map_append]
theorem kvR_put (D : List RW) (n : Int) (t : Addr) (r : List Int) : putK (kvR D) (.inl n) (.ref t) = kvR (putR D ⟨n, r, t⟩) := by
  unfold putR
  by_cases c : n ∈ nsR D
  · rw [if_pos c]
    unfold putK
    rw [if_pos (by rw [valV_any, val_is]; exact decide_eq_true c)]
    unfold kvR
    rw [List.map_map, List.map_map]
    apply List.map_congr_left
    intro d _
    by_cases e : d.n = n
    · subst e; simp
    · simp [Function.comp, inl_eq, e]
  · rw [if_neg c, kvR_app]
    unfold putK
    rw [if_neg (by rw [valV_any, val_is]; simpa using c)]
    rfl
theorem nsR_put (D : List RW) (e : RW) : nsR (putR D e) = if e.n ∈ nsR D then nsR D else nsR D ++ [e.n] := by
  unfold putR
  split
  · unfold nsR
    rw [List.map_map]
    apply List.map_congr_left
    intro d _
    simp only [Function.comp]
    split
    · rename_i c; exact c.symm
    · rfl
  · simp [nsR]
theorem putR_nd {D : List RW} {e : RW} (h : (nsR D).Nodup) : (nsR (putR D e)).Nodup := by
  rw [nsR_put]
  split
  · exact h
  · rename_i c
    rw [List.nodup_append]
    exact ⟨h, by simp, fun a ha b hb z => by simp at hb; subst hb; subst z; exact c ha⟩
theorem mem_putR {D : List RW} {e d : RW} (h : d ∈ putR D e) : d = e ∨ d ∈ D := by
  unfold putR at h
  split at h
  · obtain ⟨d', hd', rfl⟩ := List.mem_map.mp h
    split
    · exact .inl rfl
    · exact .inr hd'
  · rcases List.mem_append.mp h with q | q
    · exact .inr q
    · simp at q; exact .inl q
theorem putR_new {D : List RW} {e : RW} (h : e.n ∉ nsR D) : putR D e = D ++ [e] := by unfold putR; rw [if_neg h]
theorem putR_len (D : List RW) (e : RW) : (putR D e).length ≤ D.length + 1 := by unfold putR; split <;> simp
theorem gR_iff {D : List RW} (nd : (nsR D).Nodup) {n : Int} {r : List Int} : gR D n = some r ↔ ∃ d ∈ D, d.n = n ∧ d.r = r :=
  ⟨gR_ex, fun ⟨d, h1, h2, h3⟩ => by rw [← h2, ← h3]; exact gR_at nd h1⟩
theorem putR_e (D : List RW) (e : RW) : e ∈ putR D e := by
  unfold putR
  split
  · rename_i h
    obtain ⟨d, h1, h2⟩ := List.mem_map.mp h
    exact List.mem_map.mpr ⟨d, h1, by rw [if_pos h2]⟩
  · simp
theorem putR_o {D : List RW} {e d : RW} (h : d ∈ D) (c : d.n ≠ e.n) : d ∈ putR D e := by
  unfold putR
  split
  · exact List.mem_map.mpr ⟨d, h, by rw [if_neg c]⟩
  · simp [h]
theorem gR_put {D : List RW} {e : RW} (nd : (nsR D).Nodup) (n : Int) : gR (putR D e) n = if n = e.n then some e.r else gR D n := by
  by_cases c : n = e.n
  · rw [if_pos c, c]; exact gR_at (putR_nd nd) (putR_e D e)
  · rw [if_neg c]
    refine opt_ext fun r => ?_
    rw [gR_iff (putR_nd nd), gR_iff nd]
    constructor
    · rintro ⟨d, h1, h2, h3⟩
      rcases mem_putR h1 with q | q
      · subst q; exact absurd h2.symm c
      · exact ⟨d, q, h2, h3⟩
    · rintro ⟨d, h1, h2, h3⟩
      exact ⟨d, putR_o h1 (by rw [h2]; exact c), h2, h3⟩
theorem gR_eq {D E : List RW} (h : nrR D = nrR E) : gR D = gR E := by
  have key : ∀ (A : List RW) n, gR A n = ((nrR A).find? fun p => decide (p.1 = n)).map fun p => p.2 := fun A n => by
    unfold gR nrR
    rw [List.find?_map, Option.map_map]; rfl
  funext n
  rw [key, key, h]
theorem nsR_eq {D E : List RW} (h : nrR D = nrR E) : nsR D = nsR E := by
  have key : ∀ A : List RW, nsR A = (nrR A).map fun p => p.1 := fun A => by unfold nsR nrR; rw [List.map_map]; rfl
  rw [key, key, h]
theorem kvR_map (f : Int → List Int → List Int) (D : List RW) : kvR (mapR f D) = kvR D := by unfold kvR mapR; rw [List.map_map]; rfl
theorem nsR_map (f : Int → List Int → List Int) (D : List RW) : nsR (mapR f D) = nsR D := by unfold nsR mapR; rw [List.map_map]; rfl
theorem gR_map (f : Int → List Int → List Int) (D : List RW) (n : Int) : gR (mapR f D) n = (gR D n).map (f n) := by
  unfold gR mapR
  rw [List.find?_map, Option.map_map, Option.map_map]
  have : ((fun d : RW => decide (d.n = n)) ∘ fun d : RW => ({ d with r := f d.n d.r } : RW)) = fun d => decide (d.n = n) := rfl
  rw [this]
  cases e : D.find? fun d => decide (d.n = n) with
  | none => rfl
  | some d => obtain ⟨_, h⟩ := find_ex e; subst h; rfl
theorem fpW_map (f : Int → List Int → List Int) (rw : Addr) (D : List RW) : fpW rw (mapR f D) = fpW rw D := by unfold fpW mapR; rw [List.map_map]; rfl
/-- copies of rows -/
structure Cps (H : Hp) (q : Addr) (D D' : List RW) (H' : Hp) : Prop where
  dc : H' q = some (.dK (kvR D'))
  e : nrR D' = nrR D
  rs : ∀ d ∈ D', IL H' d.a d.r
  fr : ∀ d ∈ D', H d.a = none ∧ d.a ≠ q
  na : (D'.map fun d => d.a).Nodup
theorem Cps.fr0 {H H' H'' : Hp} {q : Addr} {D D' : List RW} (s : Cps H q D D' H') (f : KW.Fr [] H' H'') : Cps H q D D' H'' :=
  ⟨f _ _ (by simp) s.dc, s.e, fun d hd => f _ _ (by simp) (s.rs d hd), s.fr, s.na⟩
theorem Cps.nil {H H' : Hp} {q : Addr} (h : H' q = some (.dK [])) : Cps H q [] [] H' := ⟨h, rfl, (fun d h => by cases h), (fun d h => by cases h), by simp⟩
theorem a_inj {D : List RW} (h : (D.map fun d => d.a).Nodup) {d e : RW} (h1 : d ∈ D) (h2 : e ∈ D) (c : d.a = e.a) : d = e := by
  obtain ⟨i, hi⟩ := List.getElem?_of_mem h1
  obtain ⟨j, hj⟩ := List.getElem?_of_mem h2
  have q1 : (D.map fun d => d.a)[i]? = some d.a := by rw [List.getElem?_map, hi]; rfl
  have q2 : (D.map fun d => d.a)[j]? = some e.a := by rw [List.getElem?_map, hj]; rfl
  rw [← c, ← q1] at q2
  have : i = j := (List.getElem?_inj (List.getElem?_eq_some_iff.mp q1).1 h).mp q2.symm
  subst this
  rw [hi] at hj; exact Option.some.inj hj
/-- one more copy -/
theorem Cps.add {H H' : Hp} {q t : Addr} {D D' : List RW} {d : RW} (s : Cps H q D D' H') (n1 : H t = none) (ht : H' t = none) (hn : d.n ∉ nsR D) : Cps H q (D ++ [d]) (D' ++ [⟨d.n, d.r, t⟩]) (upd (upd H' t (.lst (d.r.map V.int))) q (.dK (putK (kvR D') (.inl d.n) (.ref t)))) := by
  have tq : t ≠ q := fun z => by rw [z, s.dc] at ht; cases ht
  have hn2 : d.n ∉ nsR D' := by rw [nsR_eq s.e]; exact hn
  refine ⟨?_, ?_, fun x hx => ?_, fun x hx => ?_, ?_⟩
  · rw [upd_same, kvR_put D' d.n t d.r, putR_new (e := ⟨d.n, d.r, t⟩) hn2]
  · have := s.e
    unfold nrR at this ⊢
    rw [List.map_append, List.map_append, this]; rfl
  · rcases List.mem_append.mp hx with m | m
    · show upd _ _ _ _ = _
      rw [upd_ne (s.fr x m).2, upd_ne (fun z => by have := s.rs x m; rw [z] at this; rw [this] at ht; cases ht)]; exact s.rs x m
    · simp at m; subst m
      show upd _ _ _ _ = _
      rw [upd_ne tq, upd_same]
  · rcases List.mem_append.mp hx with m | m
    · exact s.fr x m
    · simp at m; subst m; exact ⟨n1, tq⟩
  · rw [List.map_append, List.nodup_append]
    refine ⟨s.na, by simp, fun a ha b hb z => ?_⟩
    simp at hb; subst hb; subst z
    obtain ⟨x, hx, e⟩ := List.mem_map.mp ha
    have := s.rs x hx
    rw [e] at this; rw [this] at ht; cases ht
theorem Cps.frl {H H' H'' : Hp} {q z : Addr} {o : HO} {D D' : List RW} (s : Cps H q D D' H') (f : KW.Fr [z] H' H'') (hz : H z = some o) (hq : q ≠ z) : Cps H q D D' H'' :=
  ⟨f _ _ (by simpa using hq) s.dc, s.e, fun d hd => f _ _ (by simp; intro e; have := (s.fr d hd).1; rw [e, hz] at this; cases this) (s.rs d hd), s.fr, s.na⟩
theorem take_s {α : Type} {l : List α} {i : Nat} {x : α} (h : l[i]? = some x) : l.take (i + 1) = l.take i ++ [x] := by rw [List.take_add_one, h]; rfl
theorem nsR_i {D : List RW} {i : Nat} {x : Int} (h : (nsR D)[i]? = some x) : ∃ d, D[i]? = some d ∧ d.n = x := by
  unfold nsR at h
  rw [List.getElem?_map] at h
  obtain ⟨d, h1, h2⟩ := Option.map_eq_some_iff.mp h
  exact ⟨d, h1, h2⟩
theorem nsR_take {D : List RW} (nd : (nsR D).Nodup) {i : Nat} {d : RW} (h : D[i]? = some d) : d.n ∉ nsR (D.take i) := fun m => by
  unfold nsR at m
  rw [List.map_take] at m
  have e : (nsR D)[i]? = some d.n := by unfold nsR; rw [List.getElem?_map, h]; rfl
  obtain ⟨j, hj⟩ := List.getElem?_of_mem m
  have lt := (List.getElem?_eq_some_iff.mp hj).1
  rw [List.length_take] at lt
  have hj2 : (nsR D)[j]? = some d.n := by
    rw [← hj, List.getElem?_take]; rw [if_pos (by omega)]
  rw [← e] at hj2
  have := (List.getElem?_inj (by unfold nsR; omega) nd).mp hj2
  omega
theorem Fr.atL {l : List Addr} {H H' : Hp} {q : Addr} {o : HO} (f : KW.Fr l H H') (h : H q = none) : KW.Fr l H (L2.upd H' q o) := fun b u n e => by
  rw [upd_ne (ne_of_none e h)]; exact f b u n e
theorem Cps.lens {H H' : Hp} {q : Addr} {D D' : List RW} {m M : Nat} (s : Cps H q D D' H') (h : ∀ d ∈ D, m ≤ d.r.length ∧ d.r.length ≤ M) : D'.length = D.length ∧ ∀ d ∈ D', m ≤ d.r.length ∧ d.r.length ≤ M := by
  refine ⟨?_, fun d hd => ?_⟩
  · have h1 := congrArg List.length s.e
    rwa [List.length_map, List.length_map] at h1
  · have : (d.n, d.r) ∈ nrR D := by rw [← s.e]; exact List.mem_map.mpr ⟨d, hd, rfl⟩
    obtain ⟨x, hx, e⟩ := List.mem_map.mp this
    have e2 : x.r = d.r := congrArg Prod.snd e
    rw [← e2]; exact h x hx
/-- one copy is changed -/
theorem Cps.rws {H H' : Hp} {q : Addr} {D D' : List RW} {f : Int → List Int → List Int} {d : RW} (s : Cps H q D D' H') (nd : (nsR D).Nodup) (hd : d ∈ D') (h : ∀ n r, n ≠ d.n → f n r = r) : Rws (upd H' d.a (.lst ((f d.n d.r).map V.int))) q (mapR f D') := by
  refine ⟨?_, fun x hx => ?_, ?_⟩
  · rw [upd_ne (Ne.symm (s.fr d hd).2), kvR_map]; exact s.dc
  · unfold mapR at hx
    obtain ⟨e, he, rfl⟩ := List.mem_map.mp hx
    show upd _ _ _ _ = _
    by_cases c : e.a = d.a
    · have := a_inj s.na he hd c
      subst this; exact upd_same
    · rw [upd_ne c]
      dsimp only
      rw [h e.n e.r (fun z => c (by
        have h1 : (nsR D').Nodup := by rw [nsR_eq s.e]; exact nd
        have h2 := find_rw h1 he
        rw [z, find_rw h1 hd] at h2
        rw [Option.some.inj h2]))]
      exact s.rs e he
  · rw [nsR_map, nsR_eq s.e]; exact nd
theorem Cps.rws0 {H H' : Hp} {q : Addr} {D D' : List RW} (s : Cps H q D D' H') (nd : (nsR D).Nodup) : Rws H' q D' := ⟨s.dc, s.rs, by rw [nsR_eq s.e]; exact nd⟩
end ST

set_option Elab.async false
set_option linter.all false
set_option maxRecDepth 100000
set_option maxHeartbeats 4000000
/-! SpB: a store as it is built, row by row -/
namespace ST
open PySem PySem.Spec PyProof.Rows L2 KW LamX
theorem Fr.frs {l : List Addr} {H H1 H2 : Hp} (f : KW.Fr [] H H1) (g : KW.Fr l H1 H2) (h : ∀ x ∈ l, H x = none) : KW.Fr [] H H2 := fun b o n e =>
  g b o (fun m => by rw [h b m] at e; cases e) (f b o (by simp) e)
structure Bs (Ls : List (Addr × List Int)) (B : List Blk) (m i at_ : Nat) : Prop where
  len : B.length = m
  le : m ≤ Ls.length
  e : ∀ (j : Nat) (e : Blk) (x : Addr × List Int), B[j]? = some e → Ls[j]? = some x → e.n = (j : Int) ∧ e.al = true ∧ x.2.head? = some e.k ∧ e.s.length + 1 = x.2.length ∧ (j < i → e.s = x.2.tail) ∧ (j = i → ∀ t, t < at_ → e.s[t]? = x.2[t + 1]?)
theorem Bs.ex {Ls : List (Addr × List Int)} {B : List Blk} {m i a j : Nat} {e : Blk} (s : Bs Ls B m i a) (h : B[j]? = some e) : ∃ x, Ls[j]? = some x := ⟨_, List.getElem?_eq_getElem (by have := (List.getElem?_eq_some_iff.mp h).1; have := s.len; have := s.le; omega)⟩
theorem Bs.lv {Ls : List (Addr × List Int)} {B : List Blk} {m i a : Nat} (s : Bs Ls B m i a) (n : Int) : lv B n = decide (0 ≤ n ∧ n < m) := by
  apply Bool.eq_iff_iff.mpr
  rw [decide_eq_true_eq]
  constructor
  · intro h
    obtain ⟨j, e, h2, h3, h4⟩ := lv_iff.mp h
    obtain ⟨x, hx⟩ := s.ex h2
    have := (s.e j e x h2 hx).1
    have := (List.getElem?_eq_some_iff.mp h2).1
    have := s.len
    omega
  · rintro ⟨h1, h2⟩
    have := s.len
    obtain ⟨e, he⟩ : ∃ e, B[n.toNat]? = some e := ⟨_, List.getElem?_eq_getElem (by omega)⟩
    obtain ⟨x, hx⟩ := s.ex he
    have q := s.e _ e x he hx
    have e1 : e.n = n := by rw [q.1]; omega
    rw [← e1]; exact lv_at he q.2.1
theorem Bs.free {Ls : List (Addr × List Int)} {B : List Blk} {m i a : Nat} (s : Bs Ls B m i a) : Free B (m : Int) :=
  ⟨by omega, by rw [s.lv]; simp, fun g h1 h2 => by rw [s.lv]; simp; exact ⟨h1, h2⟩⟩
theorem Bs.nil (Ls : List (Addr × List Int)) : Bs Ls [] 0 0 0 := ⟨rfl, Nat.zero_le _, fun j e x h => by simp at h⟩
theorem Bs.app {Ls : List (Addr × List Int)} {B : List Blk} {m : Nat} {p : Addr} {r : List Int} {k : Int} {n : Nat} (s : Bs Ls B m 0 0) (h : Ls[m]? = some (p, r)) (hk : r.head? = some k) (hn : n + 1 = r.length) : Bs Ls (B ++ [⟨m, k, List.replicate n 0, true⟩]) (m + 1) 0 0 := by
  refine ⟨by rw [List.length_append, s.len]; rfl, (List.getElem?_eq_some_iff.mp h).1, fun j e x h1 h2 => ?_⟩
  rw [List.getElem?_append] at h1
  split at h1
  · exact s.e j e x h1 h2
  · have := List.mem_of_getElem? h1
    simp at this
    have lj := (List.getElem?_eq_some_iff.mp h1).1
    have := s.len
    simp at lj
    have ej : j = m := by omega
    subst ej
    rw [h] at h2
    cases h2
    subst e
    exact ⟨rfl, rfl, hk, by simpa using hn, fun z => by omega, fun _ t z => by omega⟩
theorem Bs.put {Ls : List (Addr × List Int)} {B : List Blk} {m i a : Nat} {p : Addr} {r : List Int} {e : Blk} {z : Int} (s : Bs Ls B m i a) (h : Ls[i]? = some (p, r)) (he : B[i]? = some e) (hz : r[a + 1]? = some z) : Bs Ls (B.set i { e with s := e.s.set a z }) m i (a + 1) := by
  refine ⟨by rw [List.length_set, s.len], s.le, fun j u x h1 h2 => ?_⟩
  rw [get_set he] at h1
  split at h1
  · rename_i c; subst c; cases h1
    rw [h] at h2; cases h2
    obtain ⟨q1, q2, q3, q4, q5, q6⟩ := s.e _ e _ he h
    refine ⟨q1, q2, q3, by simpa using q4, fun z => by omega, fun _ t ht => ?_⟩
    dsimp only
    have la := (List.getElem?_eq_some_iff.mp hz).1
    by_cases c : t = a
    · subst c
      dsimp only at q4
      rw [List.getElem?_set_self (by omega), hz]
    · rw [List.getElem?_set_ne (Ne.symm c)]
      exact q6 rfl t (by omega)
  · rename_i c
    obtain ⟨q1, q2, q3, q4, q5, q6⟩ := s.e _ u _ h1 h2
    exact ⟨q1, q2, q3, q4, q5, fun z => absurd z c⟩
theorem Bs.next {Ls : List (Addr × List Int)} {B : List Blk} {m i a : Nat} {p : Addr} {r : List Int} (s : Bs Ls B m i a) (h : Ls[i]? = some (p, r)) (ha : a + 1 = r.length) : Bs Ls B m (i + 1) 0 := by
  refine ⟨s.len, s.le, fun j u x h1 h2 => ?_⟩
  obtain ⟨q1, q2, q3, q4, q5, q6⟩ := s.e _ u _ h1 h2
  refine ⟨q1, q2, q3, q4, fun z => ?_, fun _ t z => by omega⟩
  by_cases c : j = i
  · subst c
    rw [h] at h2; cases h2
    dsimp only at q4 ⊢
    apply List.ext_getElem?
    intro t
    rw [List.getElem?_tail]
    by_cases d : t < a
    · exact q6 rfl t d
    · rw [List.getElem?_eq_none (by omega), List.getElem?_eq_none (by omega)]
  · exact q5 (by omega)
theorem Bs.flat {Ls : List (Addr × List Int)} {B : List Blk} {m i a M : Nat} (s : Bs Ls B m i a) (h : ∀ x ∈ Ls, x.2.length ≤ M) : (ST.flat B).length ≤ (M + 2) * m := by
  have key : ∀ C : List Blk, (∀ e ∈ C, e.s.length + 1 ≤ M) → (ST.flat C).length ≤ (M + 2) * C.length := by
    intro C
    induction C with
    | nil => intro _; simp [flat_nil]
    | cons e C ih =>
      intro hc
      rw [flat_cons, List.length_append, Blk.ws_len, List.length_cons]
      have := ih fun x hx => hc x (by simp [hx])
      have := hc e (by simp)
      have : (M + 2) * (C.length + 1) = (M + 2) * C.length + (M + 2) := Nat.mul_succ _ _
      omega
  rw [← s.len]
  refine key B fun e he => ?_
  obtain ⟨j, hj⟩ := List.getElem?_of_mem he
  obtain ⟨x, hx⟩ := s.ex hj
  have := (s.e j e x hj hx).2.2.2.1
  have := h x (List.mem_of_getElem? hx)
  omega
theorem Bs.gr {Ls : List (Addr × List Int)} {B : List Blk} {a : Nat} (s : Bs Ls B Ls.length Ls.length a) (N : Nd B) : gB B = gL Ls := by
  funext n
  refine opt_ext fun r => ?_
  rw [gB_some N]
  unfold gL
  have hl := s.len
  constructor
  · rintro ⟨i, e, h1, h2, rfl, rfl⟩
    obtain ⟨x, hx⟩ := s.ex h1
    obtain ⟨q1, q2, q3, q4, q5, q6⟩ := s.e _ e _ h1 hx
    rw [q1, if_pos (by omega)]
    rw [Int.toNat_natCast, hx, q5 (List.getElem?_eq_some_iff.mp hx).1]
    cases hr : x.2 with
    | nil => rw [hr] at q3; cases q3
    | cons b bs => rw [hr] at q3; simp at q3; simp [q3, hr]
  · intro h
    split at h
    · rename_i n0
      obtain ⟨x, h1, h2⟩ := Option.map_eq_some_iff.mp h
      have lx := (List.getElem?_eq_some_iff.mp h1).1
      obtain ⟨e, he⟩ : ∃ e, B[n.toNat]? = some e := ⟨_, List.getElem?_eq_getElem (by omega)⟩
      obtain ⟨q1, q2, q3, q4, q5, q6⟩ := s.e _ e _ he h1
      refine ⟨_, e, he, q2, by rw [q1]; omega, ?_⟩
      rw [q5 lx, ← h2]
      cases hr : x.2 with
      | nil => rw [hr] at q3; cases q3
      | cons b bs => rw [hr] at q3; simp at q3; simp [q3]
    · cases h
/-- roots and held words as they are set -/
structure Ws (ws R L : List Int) (k : Nat) : Prop where
  r : R.length = 16
  l : L = (ws.take k).drop 16
  e : ∀ t, t < 16 → t < k → R[t]? = ws[t]?
theorem Ws.init (ws : List Int) : Ws ws (List.replicate 16 0) [] 0 := ⟨by simp, by simp, fun t _ h => by omega⟩
theorem Ws.root {ws R L : List Int} {k : Nat} {z : Int} (s : Ws ws R L k) (h : ws[k]? = some z) (c : k < 16) : Ws ws (R.set k z) L (k + 1) := by
  refine ⟨by rw [List.length_set, s.r], ?_, fun t h1 h2 => ?_⟩
  · rw [s.l, List.drop_eq_nil_of_le (by rw [List.length_take]; omega), List.drop_eq_nil_of_le (by rw [List.length_take]; omega)]
  · by_cases e : t = k
    · subst e; rw [List.getElem?_set_self (by rw [s.r]; omega), h]
    · rw [List.getElem?_set_ne (Ne.symm e)]; exact s.e t h1 (by omega)
theorem Ws.hold {ws R L : List Int} {k : Nat} {z : Int} (s : Ws ws R L k) (h : ws[k]? = some z) (c : ¬ k < 16) : Ws ws R (L ++ [z]) (k + 1) := by
  refine ⟨s.r, ?_, fun t h1 h2 => s.e t h1 (by omega)⟩
  have lk := (List.getElem?_eq_some_iff.mp h).1
  rw [take_s h, List.drop_append_of_le_length (by rw [List.length_take]; omega), s.l]
theorem Ws.done {ws R L : List Int} (s : Ws ws R L ws.length) (h : 16 ≤ ws.length) : R ++ L = ws := by
  have e : R = ws.take 16 := by
    apply List.ext_getElem?
    intro t
    rw [List.getElem?_take]
    split
    · rename_i c; exact s.e t c (by omega)
    · exact List.getElem?_eq_none (by rw [s.r]; omega)
  rw [e, s.l, List.take_length, List.take_append_drop]
end ST

set_option Elab.async false
set_option linter.all false
set_option maxRecDepth 100000
set_option maxHeartbeats 4000000
/-! SpF: a place emptied, what goes and what stays -/
namespace ST
open PySem PySem.Spec PyProof.Rows L2 KW LamX
theorem flat_setlen {B : List Blk} {i : Nat} {e f : Blk} (h : B[i]? = some e) (hs : f.s.length = e.s.length) : (flat (B.set i f)).length = (flat B).length := by
  rw [flat_set h, flat_at h]
  simp only [List.length_append, Blk.ws_len, hs]
theorem gB_kind {B : List Blk} {i : Nat} {e : Blk} (N : Nd B) (h : B[i]? = some e) (ha : e.al = true) : gB (B.set i { e with k := 0 }) = (Plc.kind e.n).g (gB B) := by
  funext n
  rw [gB_set (f := { e with k := 0 }) N h ha rfl rfl]
  unfold Plc.g
  by_cases c : n = e.n
  · subst c; rw [if_pos rfl, gB_at N h ha]; simp [Plc.row]
  · rw [if_neg c]
    cases gB B n with
    | none => rfl
    | some r => simp [Plc.row, c]
theorem gB_slot {B : List Blk} {i j : Nat} {e : Blk} (N : Nd B) (h : B[i]? = some e) (ha : e.al = true) : gB (B.set i { e with s := e.s.set j 0 }) = (Plc.slot e.n j).g (gB B) := by
  funext n
  rw [gB_set (f := { e with s := e.s.set j 0 }) N h ha rfl rfl]
  unfold Plc.g
  by_cases c : n = e.n
  · subst c; rw [if_pos rfl, gB_at N h ha]; simp [Plc.row, Nat.add_comm 1 j]
  · rw [if_neg c]
    cases gB B n with
    | none => rfl
    | some r => simp [Plc.row, c]
theorem g_root (k : Nat) (g : Gr) : (Plc.root k).g g = g := by
  funext n
  unfold Plc.g
  cases g n <;> rfl
theorem cnt_all {A B C N : List Int} (nN : N.Nodup) (nA : A.Nodup) (nB : B.Nodup) (nC : C.Nodup) (h : ∀ n, n ∈ N ↔ n ∈ A ∨ n ∈ B ∨ n ∈ C) (d1 : ∀ n, n ∈ A → n ∉ B ∧ n ∉ C) (d2 : ∀ n, n ∈ B → n ∉ C) : (N.length : Int) - A.length = (B.length : Int) + C.length := by
  have nBC : (B ++ C).Nodup := by
    rw [List.nodup_append]
    exact ⟨nB, nC, fun a ha b hb z => by subst z; exact d2 a ha hb⟩
  have nABC : (A ++ (B ++ C)).Nodup := by
    rw [List.nodup_append]
    exact ⟨nA, nBC, fun a ha b hb z => by
      subst z
      rcases List.mem_append.mp hb with q | q
      · exact (d1 a ha).1 q
      · exact (d1 a ha).2 q⟩
  have := ((List.perm_ext_iff_of_nodup nN nABC).mpr fun n => by rw [h, List.mem_append, List.mem_append]).length_eq
  rw [List.length_append, List.length_append] at this
  omega
/-- rows that stay -/
theorem gR_filter {D : List RW} (nd : (nsR D).Nodup) (q : Int → Bool) (n : Int) : gR (D.filter fun d => q d.n) n = if q n = true then gR D n else none := by
  have nd2 : (nsR (D.filter fun d => q d.n)).Nodup := nd.sublist (List.Sublist.map _ List.filter_sublist)
  refine opt_ext fun r => ?_
  rw [gR_iff nd2]
  constructor
  · rintro ⟨d, h1, h2, h3⟩
    obtain ⟨h4, h5⟩ := List.mem_filter.mp h1
    subst h2; subst h3
    rw [if_pos h5]; exact gR_at nd h4
  · intro h
    split at h
    · rename_i c
      obtain ⟨d, h1, h2, h3⟩ := gR_ex h
      exact ⟨d, List.mem_filter.mpr ⟨h1, by rw [h2]; exact c⟩, h2, h3⟩
    · cases h
def SameP (d2 d : Spd) : Prop := fpP d2 = fpP d
section
variable {CS C : Addr} {H : Hp} {d : Spd}
theorem Spc.nt {p : Addr} {xs : List V} (s : Spc CS C H d) (h : H p = some (.tup xs)) : p ∉ fpP d := fun m => by
  obtain ⟨⟨dx, ob⟩, ⟨⟨dx2, lo, ob2, _⟩, wo, ⟨kv, pa, _⟩, _⟩, pe, rt, hl, _⟩ := s
  simp only [fpP, List.mem_cons, List.not_mem_nil, or_false] at m
  unfold IL at rt hl
  rcases m with rfl | rfl | rfl | rfl | rfl | rfl | rfl
  · rw [h] at ob; cases ob
  · rw [h] at ob2; cases ob2
  · rw [h] at wo; cases wo
  · rw [h] at pa; cases pa
  · rw [h] at pe; cases pe
  · rw [h] at rt; cases rt
  · rw [h] at hl; cases hl
theorem LW.np {p rw wo : Addr} {q : Str} {D : List RW} {ws : List Int} (Y : LW H rw wo D ws) (t : TabS H p q) : ∀ x ∈ wo :: fpW rw D, x ≠ p := fun x hx => by
  rcases List.mem_cons.mp hx with rfl | hx
  · exact t.ne Y.W (by simp)
  rcases List.mem_cons.mp hx with rfl | hx
  · exact t.ne Y.R.dc (by simp)
  obtain ⟨e, he, rfl⟩ := List.mem_map.mp hx
  exact t.ne (Y.R.rs e he) (by simp)
end
end ST

set_option Elab.async false
set_option linter.all false
set_option maxRecDepth 100000
set_option maxHeartbeats 4000000
/-! SpZ: the law's dict of rows, filled and exchanged -/
namespace ST
open PySem PySem.Spec PyProof.Rows L2 KW LamX
structure Dk (Ls : List (Addr × List Int)) (D : List RW) (m lo hi : Nat) : Prop where
  ns : nsR D = (List.range m).map fun (j : Nat) => (j : Int)
  of : ∀ d ∈ D, ∃ x ∈ Ls, d.r = x.2 ∧ d.a = x.1
  g : ∀ j, lo ≤ j → j < hi → gR D (j : Int) = (Ls[j]?).map fun x => x.2
theorem Dk.nd {Ls : List (Addr × List Int)} {D : List RW} {m lo hi : Nat} (s : Dk Ls D m lo hi) : (nsR D).Nodup := by
  rw [s.ns]
  unfold List.Nodup
  rw [List.pairwise_map]
  exact List.pairwise_lt_range.imp fun h => by omega
theorem Dk.len {Ls : List (Addr × List Int)} {D : List RW} {m lo hi : Nat} (s : Dk Ls D m lo hi) : D.length = m := by
  have := congrArg List.length s.ns
  rwa [List.length_map, List.length_map, List.length_range] at this
theorem Dk.nil (Ls : List (Addr × List Int)) : Dk Ls [] 0 0 0 := ⟨rfl, (fun d h => by cases h), fun j _ h => by omega⟩
theorem Dk.mem {Ls : List (Addr × List Int)} {D : List RW} {m lo hi : Nat} (s : Dk Ls D m lo hi) (n : Int) : n ∈ nsR D ↔ 0 ≤ n ∧ n < m := by
  rw [s.ns, List.mem_map]
  constructor
  · rintro ⟨j, h, rfl⟩
    rw [List.mem_range] at h; omega
  · rintro ⟨a, b⟩
    exact ⟨n.toNat, by rw [List.mem_range]; omega, by omega⟩
theorem Dk.add {Ls : List (Addr × List Int)} {D : List RW} {i : Nat} {p : Addr} {r : List Int} (s : Dk Ls D i 0 i) (h : Ls[i]? = some (p, r)) : Dk Ls (putR D ⟨i, r, p⟩) (i + 1) 0 (i + 1) := by
  have hn : (i : Int) ∉ nsR D := by rw [s.mem]; omega
  refine ⟨?_, fun d hd => ?_, fun j _ hj => ?_⟩
  · rw [nsR_put, if_neg hn, s.ns, List.range_succ, List.map_append]; rfl
  · rcases mem_putR hd with q | q
    · subst q; exact ⟨_, List.mem_of_getElem? h, rfl, rfl⟩
    · exact s.of d q
  · rw [gR_put s.nd]
    by_cases c : j = i
    · subst c; rw [if_pos rfl, h]; rfl
    · rw [if_neg (by dsimp only; omega)]; exact s.g j (by omega) (by omega)
theorem Dk.gr {Ls : List (Addr × List Int)} {D : List RW} (s : Dk Ls D Ls.length 0 Ls.length) : gR D = gL Ls := by
  funext n
  unfold gL
  by_cases c : 0 ≤ n ∧ n < Ls.length
  · rw [if_pos c.1]
    have := s.g n.toNat (by omega) (by omega)
    rwa [Int.toNat_of_nonneg c.1] at this
  · have h1 : gR D n = none := by
      have := gR_isS (D := D) (n := n)
      rw [decide_eq_false (fun z => c ((s.mem n).mp z))] at this
      exact Option.isSome_eq_false_iff.mp this |> Option.isNone_iff_eq_none.mp
    rw [h1]
    split
    · rw [List.getElem?_eq_none (by omega)]; rfl
    · rfl
theorem Dk.put {Ls : List (Addr × List Int)} {D : List RW} {m lo hi k o : Nat} {p q : Addr} {r u : List Int} (s : Dk Ls D m lo hi) (hk : Ls[k]? = some (p, r)) (ho : Ls[o]? = some (q, u)) (k1 : k < m) (o1 : o < m) : Dk Ls (putR (putR D ⟨k, u, q⟩) ⟨o, r, p⟩) m (max lo (k + 1)) (min hi o) := by
  have e1 : nsR (putR D ⟨k, u, q⟩) = nsR D := by rw [nsR_put, if_pos (by rw [s.mem]; dsimp only; omega)]
  have e2 : nsR (putR (putR D ⟨k, u, q⟩) ⟨o, r, p⟩) = nsR D := by rw [nsR_put, if_pos (by rw [e1, s.mem]; dsimp only; omega), e1]
  refine ⟨by rw [e2]; exact s.ns, fun d hd => ?_, fun j h1 h2 => ?_⟩
  · rcases mem_putR hd with z | z
    · subst z; exact ⟨_, List.mem_of_getElem? hk, rfl, rfl⟩
    · rcases mem_putR z with z | z
      · subst z; exact ⟨_, List.mem_of_getElem? ho, rfl, rfl⟩
      · exact s.of d z
  · rw [gR_put (by rw [e1]; exact s.nd), gR_put s.nd, if_neg (by dsimp only; omega), if_neg (by dsimp only; omega)]
    exact s.g j (by omega) (by omega)
theorem gR_two {D : List RW} (nd : (nsR D).Nodup) {k o : Int} {p q : Addr} {r u : List Int} (hk : k ∈ nsR D) (n : Int) : gR (putR (putR D ⟨k, u, q⟩) ⟨o, r, p⟩) n = if n = o then some r else if n = k then some u else gR D n := by
  rw [gR_put (putR_nd nd), gR_put nd]
theorem Dk.rws {Ls : List (Addr × List Int)} {D : List RW} {m lo hi : Nat} {H : Hp} {rw l : Addr} (s : Dk Ls D m lo hi) (hr : Rls H l Ls) (hd : H rw = some (.dK (kvR D))) : Rws H rw D :=
  ⟨hd, fun d h => by obtain ⟨x, h1, h2, h3⟩ := s.of d h; rw [h2, h3]; exact hr.rs x h1, s.nd⟩
end ST

set_option Elab.async false
set_option linter.all false
set_option maxRecDepth 100000
set_option maxHeartbeats 4000000
/-! SpE: words of the law whose references are to no negative numbers; promises -/
namespace ST
open PySem PySem.Spec PyProof.Rows L2 KW LamX
def Ev (w : Int) : Prop := w % 2 = 0 → 0 ≤ w
def spWordE : Sp := fun vs H Q _ => ∃ (x m : Int), vs = [.int x, .int m] ∧ 0 ≤ m ∧ m ≤ 100000 ∧ ∀ v, Ev v → Q (.int v) H
theorem wordE_s {x m : Int} {H : Hp} {Q : VK} {E : XK} (h0 : 0 ≤ m) (h1 : m ≤ 100000) (q : ∀ v, Ev v → Q (.int v) H) : spWordE [.int x, .int m] H Q E := ⟨x, m, rfl, h0, h1, q⟩
def spRowsE : Sp := fun vs H Q _ => ∃ (sz : Addr) (x : Int) (zs : List Int), vs = [.ref sz, .int x] ∧ IL H sz zs ∧ zs.length ≤ 59 ∧ (∀ z ∈ zs, 0 ≤ z ∧ z ≤ 20) ∧
  ∀ l H' (Ls : List (Addr × List Int)), H l = none → KW.Fr [] H H' → Rls H' l Ls → Ls.length = zs.length → (∀ x ∈ Ls, H x.1 = none ∧ 1 ≤ x.2.length ∧ x.2.length ≤ 21 ∧ ∀ w ∈ x.2, Ev w) → Q (.ref l) H'
def spRootsE : Sp := fun vs H Q _ => ∃ (m x : Int), vs = [.int m, .int x] ∧ 0 ≤ m ∧ m ≤ 1000 ∧ ∀ l H' (ws : List Int), H l = none → KW.Fr [] H H' → IL H' l ws → 16 ≤ ws.length → ws.length ≤ 20 → (∀ w ∈ ws, Ev w) → Q (.ref l) H'
end ST

set_option Elab.async false
set_option linter.all false
set_option maxRecDepth 100000
set_option maxHeartbeats 4000000
namespace K64
open PySem PySem.Spec PyProof.Rows L2 KW ST LamX
local macro_rules | `(tactic| walk_at "kw") => `(tactic| simp only [tSeq, tNext, tIfS, tTest, tAnd, tOr, tNot, tAndV, tOrV, tNotV, tIf, tChain, tOp, tUn, tC, tAsg, gName, gSub, gCons, gNil, tRet, tRetN, tDrop, tCons, tNil, tCB, tAug, tSl, tPart, tNoPart, tLst, tTup, tBM, tBM0, uTest, uFor, iRng1, iRng2, iList, uCall, List.map_cons, List.map_nil, List.length_cons, List.length_nil, List.cons_append, List.nil_append, List.replicate, Nat.zero_add, Nat.reduceAdd, Nat.reduceSub, List.getElem?_cons_zero, List.getElem?_cons_succ, List.set_cons_zero, List.set_cons_succ, V.bl.injEq, V.int.injEq, V.str.injEq, V.ref.injEq, V.ty.injEq, List.cons.injEq, and_true, true_and, exists_eq_left', exists_eq_right, exists_eq_left, exists_and_left, exists_and_right, decide_eq_true_eq, Bool.not_eq_true', decide_eq_false_iff_not, Bool.false_eq_true, if_true, if_false, ite_true, ite_false, Bool.not_true, Bool.not_false, reduceCtorEq, decide_true, decide_false, Bool.not_not, isK_int_int, isK_int_bool, isK_int_str, isK_int_list, isK_int_tuple, isK_bool_int, isK_bool_bool, isK_bool_str, isK_str_str, isK_str_int, isK_str_bool, isK_str_tuple, isK_str_list, isK_list_list, isK_list_tuple, isK_tuple_tuple, isK_tuple_list, isOk_int_int, isOk_int_bool, isOk_int_str, isOk_int_list, isOk_int_tuple, isOk_bool_int, isOk_bool_bool, isOk_bool_str, isOk_str_str, isOk_str_int, isOk_str_bool, isOk_str_tuple, isOk_str_list, isOk_list_list, isOk_list_tuple, isOk_tuple_tuple, isOk_tuple_list, isK_dict_dict, isOk_dict_dict, isK_none_int, isK_none_bool, isOk_none_int, isOk_none_bool, tyV, S_inj, S_cat, L2.start, Nat.reduceSub, List.replicate_succ, List.replicate_zero, and_assoc, List.append_nil, Nat.reduceEqDiff, Option.some.injEq, Int.natCast_inj, upd_upd, Int.reducePow, Int.reduceToNat, Int.reduceMul, Int.reduceAdd, Int.reduceSub, Int.reduceLT, Int.reduceLE, Int.reduceNeg, Int.reduceDiv, Int.reduceMod, Nat.reducePow, Nat.reduceMul, S_len, List.length_append, List.length_map, List.length_range, not_true_eq_false, not_false_eq_true, ne_eq, uAdd_e1, uAdd_e2, uSub_e1, uMod_e1, uDiv_e1, uPow_e1, uShl_e1, uNeg_e1, uIAdd_e1, uIAdd_e2, uIAdd_e3, uISub_e1, uLt_e1, uLt_e2, uLe_e1, uGt_e1, uGe_e1, uEq_e1, uEq_e2, uEq_e3, uEq_e4, uEq_e5, uEq_e6, uEq_e7, uEq_e8, uEq_e9, uEq_e10, uEq_e11, uNe_e1, uNe_e2, uNe_e3, uNe_e4, uNe_e5, uNe_e6, uNe_e7, uNe_e8, uNe_e9, uNe_e10, uNe_e11, uIs_e1, uIs_e2, uIs_e3, uIs_e4, uIs_e5, uIs_e6, uIs_e7, uNotIs_e1, uNotIs_e2, uNotIs_e3, uNotIs_e4, uNotIs_e5, uNotIs_e6, uIn_e1, uIn_e2, uIn_e3, uIn_e4, uNotIn_e1, uNotIn_e2, uNotIn_e3, uNotIn_e4, uTru_e1, uTru_e2, uTru_e3, uTru_e4, uIx_e2, uSl_e2, uLen_e1, uAbs_e1, uInt_e1, uInt_e2, uMin2_e1, uIsi_e1, uIsi_e2, uIsi_e3, uIsi_e4, cx_K, uVar_0, uVar_n, uFld, uSFld, uMet, uMake, tDG, tDI, tDNI, tDP, tDD, uMk, uRaise, uDelSl, tCallS, L2.WE, uStr_e1, uStr_e2, uMul2_e1, uMul2_e2, okS_i, okS_s, List.zip_cons_cons, List.zip_nil_left, List.drop_zero, List.drop_succ_cons, List.drop_nil, putF_nil, putF_cons, eq_self, tDNewK, tB, Option.isSome_some, Option.isSome_none, false_and, false_or, or_false, exists_false, Int.zero_add, uLc, wipe, tYes, isEmpty_app, List.isEmpty_cons, List.isEmpty_nil, List.isEmpty_map, Bool.and_false, Bool.and_true, iRev, K64.lit_0, K64.fe_room_entries, K64.fe_room_words, K64.fe_room__places, K64.fe_room__least, K64.fe_entries_room, K64.fe_entries_words, K64.fe_entries__places, K64.fe_entries__least, K64.fe_words_room, K64.fe_words_entries, K64.fe_words__places, K64.fe_words__least, K64.fe__places_room, K64.fe__places_entries, K64.fe__places_words, K64.fe__places__least, K64.fe__least_room, K64.fe__least_entries, K64.fe__least_words, K64.fe__least__places, K64.fe_store_pressure, K64.fe_store_always, K64.fe_store_allocations, K64.fe_store_collections, K64.fe_store__roots, K64.fe_store__held, K64.fe_store__saved, K64.fe_pressure_store, K64.fe_pressure_always, K64.fe_pressure_allocations, K64.fe_pressure_collections, K64.fe_pressure__roots, K64.fe_pressure__held, K64.fe_pressure__saved, K64.fe_always_store, K64.fe_always_pressure, K64.fe_always_allocations, K64.fe_always_collections, K64.fe_always__roots, K64.fe_always__held, K64.fe_always__saved, K64.fe_allocations_store, K64.fe_allocations_pressure, K64.fe_allocations_always, K64.fe_allocations_collections, K64.fe_allocations__roots, K64.fe_allocations__held, K64.fe_allocations__saved, K64.fe_collections_store, K64.fe_collections_pressure, K64.fe_collections_always, K64.fe_collections_allocations, K64.fe_collections__roots, K64.fe_collections__held, K64.fe_collections__saved, K64.fe__roots_store, K64.fe__roots_pressure, K64.fe__roots_always, K64.fe__roots_allocations, K64.fe__roots_collections, K64.fe__roots__held, K64.fe__roots__saved, K64.fe__held_store, K64.fe__held_pressure, K64.fe__held_always, K64.fe__held_allocations, K64.fe__held_collections, K64.fe__held__roots, K64.fe__held__saved, K64.fe__saved_store, K64.fe__saved_pressure, K64.fe__saved_always, K64.fe__saved_allocations, K64.fe__saved_collections, K64.fe__saved__roots, K64.fe__saved__held, tDGF_eq, uDGetF_e1, tLstRg, tRg1, K64.N_is_ref, K64.N_ref_of, K64.N_reached, K64.N_collect, K64.N_object_of, K64.N_row_of, K64.N_word_at, K64.N_paths, K64.N_garbage, K64.N_Store_init, K64.N_Store_exists, K64.N_Store_numbers, K64.N_Store_free_number, K64.N_Store_allocate, K64.N_Store_size, K64.N_Store_kind, K64.N_Store_get, K64.N_Store_put, K64.N_Store_slots, K64.N_Store_drop, K64.N_Store_close_up, K64.N_Space_init, K64.N_Space_root, K64.N_Space_set_root, K64.N_Space_hold, K64.N_Space_drop, K64.N_Space_held, K64.N_Space_all_roots, K64.N_Space_collect, K64.N_Space_collect_with, K64.N_Space_new, K64.N_Space_fitted, K64.N__law_number, K64.N__law_word, K64.N__law_is, K64.N__law_same, K64.N__law_sizes, K64.N__law_rows, K64.N__law_roots, K64.N__law_space, K64.N__law_walk, K64.N__law_extended, K64.N__law_best, K64.N__law_path_is, K64.N__law_told, K64.N__law_drawn, K64.N__law_kept, K64.N__law_long, K64.N_law, sp_is_ref, sp_ref_of])
local macro_rules | `(tactic| walk_at "nn") => `(tactic| first | assumption | exact ne_un (by assumption) | exact ne_un (ne_un (by assumption)) | exact ne_un (ne_un (ne_un (by assumption))) | exact ne_un (ne_un (ne_un (ne_un (by assumption)))))
local macro_rules | `(tactic| walk_at "ne") => `(tactic| first | assumption | (apply Ne.symm; assumption) | exact ne_ud (by assumption) | exact Ne.symm (ne_ud (by assumption)) | exact ne_ud (ne_un (by assumption)) | exact Ne.symm (ne_ud (ne_un (by assumption))) | exact ne_ud (ne_un (ne_un (by assumption))) | exact Ne.symm (ne_ud (ne_un (ne_un (by assumption)))) | exact ne_m (by assumption) (by assumption) | exact Ne.symm (ne_m (by assumption) (by assumption)) | exact ne_n (by assumption) (by walk_at "nn") | exact Ne.symm (ne_n (by assumption) (by walk_at "nn")))
local macro_rules | `(tactic| walk_at "hp") => `(tactic| first | assumption | exact upd_same | (refine Eq.trans (upd_ne ?_) ?_; (focus walk_at "ne"); walk_at "hp"))
local macro_rules | `(tactic| walk_at "sc") => `(tactic| first | (with_reducible assumption) | omega | exact le_line (by (try simp only [List.length_map, List.length_append, List.length_cons, List.length_nil, S_len]); omega) | exact div_s (by omega) | exact mul_r (by omega) | exact mul_l (by omega) | exact pow_s (by omega) | exact mul2_r (by omega) | exact mul2_l (by omega) | exact small4300 (by omega) | exact lt_line (by (try simp only [List.length_map, List.length_append, List.length_cons, List.length_nil, S_len]); omega) | exact ⟨_, by assumption⟩ | (guard_target =~ Exists _; exact ⟨_, .of (by walk_at "hp")⟩) | (guard_target =~ _ ∨ _; exact .inl ⟨_, by assumption⟩) | (guard_target =~ _ ∨ _; exact .inl ⟨_, .of (by walk_at "hp")⟩) | (guard_target =~ _ ∨ _; exact .inr (.inr (.inl ⟨rfl, .inl ⟨_, by walk_at "hp"⟩⟩))) | decide)
local macro_rules | `(tactic| walk_at "kr") => `(tactic| first | (guard_target =~ _ ∧ _; first | refine And.intro (by walk_at "sc") ?_) | (guard_target =~ KW.uIx _ _ _ _ _; first | refine ix_l (by walk_at "hp") (by first | walk_at "hv" | rfl) ?_ | refine ix_t (by walk_at "hp") (by first | walk_at "hv" | rfl) ?_ | refine ix_sl (by assumption) (by walk_at "hv") ?_) | (guard_target =~ KW.uLen _ _ _ _; first | refine len_l (by walk_at "hp") ?_ | refine len_t (by walk_at "hp") ?_ | refine len_sl (by assumption) ?_) | (guard_target =~ KW.uSet _ _ _ _ _; first | refine set_l (by walk_at "hp") (by first | walk_at "hv" | rfl) ?_) | (guard_target =~ L2.gTup _ _ _ _ _ _ _; first | refine tup_l (by walk_at "hp") (by rfl) ?_) | (guard_target =~ KW.uGet _ _ _ _ _; first | refine get_l (by walk_at "hp") (by walk_at "hc") (by decide) (by rfl) ?_) | (guard_target =~ KW.uPut _ _ _ _ _ _; first | refine put_l (by walk_at "hp") (by walk_at "hc") (by decide) (by simp) ?_) | (guard_target =~ KW.uMet.uMt _ _ _ _ _ _ _ _ _; first | refine met_l (by walk_at "hp") (by rfl) ?_) | (guard_target =~ KW.uMet.uMt _ _ _ _ _ _ _ _ _; first | refine ST.met_s (by assumption) (by decide) ?_) | (guard_target =~ ST.spExists _ _ _ _ _; first | refine ST.exists_s (by assumption) ?_) | (guard_target =~ ST.spUsed _ _ _ _ _; first | refine ST.used_s (by assumption) ?_) | (guard_target =~ KW.uGet _ _ _ _ _; first | refine ST.words_s (by assumption) (by walk_at "hc") (by decide) ?_) | (guard_target =~ KW.uDIn _ _ _ _; first | refine din_i (by walk_at "hp") ?_ | refine din_s (by walk_at "hp") ?_) | (guard_target =~ KW.uDGet _ _ _ _; first | refine dget_i (by walk_at "hp") (by walk_at "hv") ?_ | refine dget_s (by walk_at "hp") (by walk_at "hv") ?_) | (guard_target =~ KW.uDPut _ _ _ _ _; first | refine dput_i (by walk_at "hp") (by walk_at "sc") ?_ | refine dput_s (by walk_at "hp") (by walk_at "sc") ?_) | (guard_target =~ KW.uDDel _ _ _ _; first | refine ddel_i (by walk_at "hp") (by walk_at "hv") ?_ | refine ddel_s (by walk_at "hp") (by walk_at "hv") ?_) | (guard_target =~ KW.uMul2 _ _ _ _; first | refine rep_l (by walk_at "hp") (by walk_at "sc") (by walk_at "sc") (by walk_at "sc") ?_) | (guard_target =~ L2.rAppend _ _ _ _; first | refine app_l (by walk_at "hp") (by walk_at "sc") ?_) | (guard_target =~ L2.rPop _ _ _ _; first | refine pop_l (by walk_at "hp") (by walk_at "hv") ?_ | refine pops_l (by walk_at "hp") ?_) | (guard_target =~ L2.rClear _ _ _ _; first | refine clr_l (by walk_at "hp") ?_) | (guard_target =~ L2.rReverse _ _ _ _; first | refine rev_l (by walk_at "hp") ?_) | (guard_target =~ L2.rExtend _ _ _ _; first | refine ext_l (by walk_at "hp") (by walk_at "hp") (by walk_at "sc") ?_) | (guard_target =~ KW.uAdd _ _ _ _ _; first | refine ucat_l (by walk_at "hp") (by walk_at "hp") (by walk_at "sc") ?_) | (guard_target =~ KW.uSl _ _ _ _ _ _; first | refine usl_l (by walk_at "hp") ?_) | (guard_target =~ KW.uTru _ _ _ _; first | refine tru_l (by walk_at "hp") ?_ | refine tru_t (by walk_at "hp") ?_ | refine tru_d (by walk_at "hp") ?_ | refine tru_sl (by assumption) ?_) | (guard_target =~ L2.rIndex _ _ _ _ _; first | refine idx_s (by walk_at "hp") (by assumption) ?_ | refine idx_i (by walk_at "hp") (by assumption) ?_) | (guard_target =~ L2.rIn _ _ _ _ _ _; first | refine in_s (by walk_at "hp") ?_ | refine nin_s (by walk_at "hp") ?_ | refine in_i (by walk_at "hp") ?_ | refine nin_i (by walk_at "hp") ?_) | (guard_target =~ KW.uIsi _ _ _ _; first | refine isi_l (by walk_at "hp") (by decide +kernel) ?_ | refine isi_t (by walk_at "hp") (by decide +kernel) ?_ | refine isi_d (by walk_at "hp") (by decide +kernel) ?_) | (guard_target =~ KW.uList _ _ _ _; first | refine list_l (by walk_at "hp") ?_ | refine list_t (by walk_at "hp") ?_ | refine list_sl (by assumption) ?_) | (guard_target =~ KW.uDict _ _ _; first | refine dict_d (by walk_at "hp") ?_) | (guard_target =~ KW.uSorted _ _ _ _; first | refine srt_l (by walk_at "hp") ?_) | (guard_target =~ KW.uSum _ _ _ _; first | refine sum_l (by walk_at "hp") ?_) | (guard_target =~ KW.uDelC _ _ _ _; first | refine dels_l (by walk_at "hp") (by walk_at "sc") ?_) | (guard_target =~ L2.wAs _ _ _ _ _ _ _ _ _ _; first | refine as_yes (by walk_at "hx") ?_ | refine as_no (by walk_at "hx") ?_) | (guard_target =~ KW.uEf _ _ _ _ _ _ _ _ _; first | refine ef_l (by walk_at "he") (by decide) (by rfl) (by walk_at "hp") (by rfl) ?_) | (guard_target =~ KW.uIsE _ _ _ _ _ _ _; first | refine isE_r (by walk_at "he") (by walk_at "hp") (by walk_at "hk") ?_ | refine isE_t (by walk_at "he") (by walk_at "hp") (by walk_at "hk") ?_))
local macro_rules | `(tactic| walk_at "hv") => `(tactic| first | assumption)
local macro_rules | `(tactic| walk_at "kk") => `(tactic| repeat (first | walk_at "kw" | walk_at "kr"))
local macro_rules | `(tactic| walk_at "hc") => `(tactic| first | exact K64.Txt.c_Store (by assumption) | exact K64.Txt.c_Space (by assumption))
local macro_rules | `(tactic| walk_at "he") => `(tactic| first | exact K64.Txt.e_BadWord (by assumption) | exact K64.Txt.e_NoRoom (by assumption) | exact K64.Txt.e_NoNumber (by assumption) | exact K64.Txt.e_Wrong (by assumption))
local macro_rules | `(tactic| walk_at "hx") => `(tactic| first | exact K64.Txt.x_BadWord_NoNumber (by assumption) | exact K64.Txt.x_BadWord_NoRoom (by assumption) | exact K64.Txt.x_NoRoom_NoNumber (by assumption) | exact K64.Txt.x_NoRoom_NoRoom (by assumption) | exact K64.Txt.x_NoNumber_NoNumber (by assumption) | exact K64.Txt.x_NoNumber_NoRoom (by assumption) | exact K64.Txt.x_Wrong_NoNumber (by assumption) | exact K64.Txt.x_Wrong_NoRoom (by assumption))
local macro_rules | `(tactic| walk_at "hk") => `(tactic| first | fail)

local macro_rules | `(tactic| walk_at "kr") => `(tactic| first | (guard_target =~ KW.uGet _ _ _ _ _; refine ST.get_p (by assumption) (by rfl) (by walk_at "hc") (by decide) (by rfl) ?_) | (guard_target =~ KW.uMet.uMt _ _ _ _ _ _ _ _ _; refine ST.met_p (by assumption) (by rfl) (by decide) ?_))
section
variable {P : Program} {w : World} {K : Frag} {mg : Str → Option Value} {base : Heap} {a : Ads}
theorem ok__law_word (T : Txt P w K mg a) : Cal P w K mg base 1 "_law_word" spWordE := by
  refine T.d__law_word.ok sc__law_word (fun vs H Q E h => ?_) (fun f cdv A outer s H vs Q E hr h => ⟨_, (pss_cons (ps_set (i := 2) sc__law_word.nd rfl (Or.inl rfl) (pe_op o_fdiv (kv 0) pe_int))
      (pss_cons (ps_if (pt_cmpR (o_eq hr.units) (pe_op o_mod (pe_callTy c_int (by rfl) T.n_int (by decide +kernel) (pa_cons (kv 0) pa_nil)) pe_int) pe_int (nomark _))
      (pss_one (ps_ret (pe_op o_add (pe_op o_mul2 pe_int (pe_op o_sub (pe_op o_mod (pe_callTy c_int (by rfl) T.n_int (by decide +kernel) (pa_cons (pe_op o_mul2 (kv 2) pe_int) pa_nil)) pe_int) pe_int)) pe_int)))
      pss_nil)
      (pss_cons (ps_if (pt_cmpR (o_eq hr.units) (pe_op o_mod (pe_callTy c_int (by rfl) T.n_int (by decide +kernel) (pa_cons (kv 0) pa_nil)) pe_int) pe_int (nomark _))
      (pss_one (ps_ret (pe_op o_add (pe_op o_mul2 pe_int (pe_op o_mod (pe_callTy c_int (by rfl) T.n_int (by decide +kernel) (pa_cons (pe_op o_mul2 (kv 2) pe_int) pa_nil)) pe_int)) pe_int)))
      pss_nil)
      (pss_cons (ps_if (pt_cmpR (o_eq hr.units) (pe_op o_mod (pe_callTy c_int (by rfl) T.n_int (by decide +kernel) (pa_cons (kv 0) pa_nil)) pe_int) pe_int (nomark _))
      (pss_one (ps_ret pe_int))
      pss_nil)
      (pss_one (ps_ret (pe_op o_mul2 pe_int (pe_op o_mod (pe_callTy c_int (by rfl) T.n_int (by decide +kernel) (pa_cons (kv 2) pa_nil)) (pe_op o_add (kv 1) pe_int))))))))), ?_⟩)
  · obtain ⟨_, _, rfl, _⟩ := h; rfl
  · obtain ⟨x, m, rfl, h0, h1, h⟩ := h
    walk_at "kk"
    split
    · walk_at "kk"
      exact h _ (fun _ => by omega)
    · split
      · walk_at "kk"
        exact h _ (fun _ => by omega)
      · split
        · walk_at "kk"
          exact h _ (fun _ => by omega)
        · walk_at "kk"
          have := Int.emod_nonneg (x / 8) (show m + 1 ≠ 0 by omega)
          exact h _ (fun _ => by omega)
theorem ok__law_sizes (T : Txt P w K mg a) : Cal P w K mg base 2 "_law_sizes" spSizes := by
  have C__law_number := ok__law_number (P := P) (w := w) (base := base) T
  refine T.d__law_sizes.ok sc__law_sizes (fun vs H Q E h => ?_) (fun f cdv A outer s H vs Q E hr h => ⟨_, (pss_cons (ps_set (i := 1) sc__law_sizes.nd rfl (Or.inl rfl) (pe_op o_mod (pe_callTy c_int (by rfl) T.n_int (by decide +kernel) (pa_cons (kv 0) pa_nil)) pe_int))
      (C8.pss_cut (ps_if (pt_cmpR (o_eq hr.units) (pe_op o_mod (pe_op o_fdiv (kv 0) pe_int) pe_int) pe_int (nomark _))
      (pss_one (ps_set (i := 1) sc__law_sizes.nd rfl (Or.inl rfl) (pe_op o_mod (pe_op o_fdiv (kv 0) pe_int) pe_int)))
      pss_nil)
      (pss_cons (ps_set (i := 2) sc__law_sizes.nd rfl (Or.inl rfl) (pe_op o_fdiv (kv 0) pe_int))
      (pss_cons (ps_set (i := 3) sc__law_sizes.nd rfl (Or.inl rfl) (pe_lst pa_nil))
      (pss_cons (k_for (passes_of rfl) rfl (pi_range1 (by rfl) T.n_range (pa_cons (kv 1) pa_nil)) (pg_name (i := 4) sc__law_sizes.nd rfl (Or.inl rfl))
      (pss_cons (ps_set (i := 5) sc__law_sizes.nd rfl (Or.inl rfl) (kc C__law_number (hr.mono (by decide)) (pa_cons (pe_op o_add (kv 2) (kv 4)) (pa_cons (pe_op o_add (kv 4) pe_int) pa_nil))))
      (pss_cons (ps_set (i := 2) sc__law_sizes.nd rfl (Or.inl rfl) (pe_op o_fdiv (kv 2) pe_int))
      (pss_cons (ps_expr (pe_bm PySem.F.plainAttrs_list PySem.F.slot_list_append PySem.F.type_list_append mt_append (kv 3) (pa_cons (pe_op o_mod (pe_callTy c_int (by rfl) T.n_int (by decide +kernel) (pa_cons (kv 5) pa_nil)) pe_int) pa_nil)))
      (C8.pss_cut (ps_if (pt_cmpR (o_eq hr.units) (pe_op o_mod (pe_op o_fdiv (kv 5) pe_int) pe_int) pe_int (nomark _))
      (pss_one (ps_asg (pe_op o_mod (pe_op o_fdiv (kv 5) pe_int) pe_int) (pg_sub (kv 3) (kv 4) s_set)))
      pss_nil)
      (pss_one (ps_if (PW.pt (pw_and (pt_cmpR (o_eq hr.units) (kv 4) pe_int (nomark _)) (pw_and1 (pt_cmpR o_gt (pe_op o_mod (pe_op o_fdiv (kv 5) pe_int) pe_int) pe_int (nomark _)))))
      (pss_one (ps_asg pe_int (pg_sub (kv 3) (kv 4) s_set)))
      pss_nil)))))))
      (pss_one (ps_ret (kv 3)))))))), ?_⟩)
  · obtain ⟨_, rfl, _⟩ := h; rfl
  · obtain ⟨x, rfl, h⟩ := h
    walk_at "kk"
    refine ⟨fun σ H' => ∃ c : Int, σ = [some (.int x), some (.int c), none, none, none, none] ∧ H' = H ∧ 0 ≤ c ∧ c ≤ 59, ?_, ?_⟩
    · walk_at "kk"
      split
      · walk_at "kk"
        omega
      · omega
    rintro σ H1 ⟨c, rfl, rfl, c0, c1⟩
    walk_at "kk"
    intro p hp
    walk_at "kk"
    obtain ⟨Pv, hPv⟩ : ∃ Pv : Nat → L2.St → Hp → Prop, Pv = fun i σ H' => ∃ (rest : Int) (zs : List Int) (v4 v5 : Option V), σ = [some (.int x), some (.int c), some (.int rest), some (.ref p), v4, v5] ∧ IL H' p zs ∧ zs.length = i ∧ (∀ z ∈ zs, 0 ≤ z ∧ z ≤ 20) ∧ KW.Fr [] H1 H' := ⟨_, rfl⟩
    refine for_rng Pv (by rw [hPv]; exact ⟨_, [], _, _, rfl, upd_same, rfl, by simp, Fr.new hp⟩) ?_ ?_
    · intro i σ H2 hi hpv
      rw [hPv] at hpv
      obtain ⟨rest, zs, v4, v5, rfl, i2, lz, bz, f2⟩ := hpv
      walk_at "kk"
      refine num_s (by omega) (by omega) fun y hy => ?_
      walk_at "kk"
      refine ⟨fun σ H' => ∃ zs2, σ = [some (.int x), some (.int c), some (.int (rest / 10007)), some (.ref p), some (.int i), some (.int y)] ∧ IL H' p zs2 ∧ zs2.length = i + 1 ∧ (∀ z ∈ zs2, 0 ≤ z ∧ z ≤ 20) ∧ KW.Fr [] H1 H', ?_, ?_⟩
      · have b3 : ∀ z ∈ zs ++ [y % 4], 0 ≤ z ∧ z ≤ 20 := fun z hz => by
          rcases List.mem_append.mp hz with q | q
          · exact bz z q
          · simp at q; omega
        have i3 : IL (upd H2 p (.lst (zs.map V.int ++ [.int (y % 4)]))) p (zs ++ [y % 4]) := by show upd _ _ _ _ = _; rw [upd_same]; simp
        have f3 : KW.Fr [] H1 (upd H2 p (.lst (zs.map V.int ++ [.int (y % 4)]))) := Fr.atN f2 hp
        revert i3 f3
        generalize upd H2 p (.lst (zs.map V.int ++ [.int (y % 4)])) = H3
        intro i3 f3
        walk_at "kk"
        split
        · walk_at "kk"
          refine set_i i3 (j := i) (by omega) (by simp; omega) ?_
          refine ⟨_, upd_same, by simp; omega, fun z hz => ?_, Fr.atN f3 hp⟩
          rcases List.mem_or_eq_of_mem_set hz with q | q
          · exact b3 z q
          · omega
        · exact ⟨_, i3, by simp; omega, b3, f3⟩
      rintro σ H3 ⟨zs2, rfl, i3, l3, b3, f3⟩
      walk_at "kk"
      have nx : Pv (i + 1) [some (.int x), some (.int c), some (.int (rest / 10007)), some (.ref p), some (.int i), some (.int y)] H3 := by rw [hPv]; exact ⟨_, zs2, _, _, rfl, i3, l3, b3, f3⟩
      split
      · split
        · walk_at "kk"
          refine set_i i3 (j := i) (by omega) (by omega) ?_
          rw [hPv]
          refine ⟨_, _, _, _, rfl, upd_same, by simp; omega, fun z hz => ?_, Fr.atN f3 hp⟩
          rcases List.mem_or_eq_of_mem_set hz with q | q
          · exact b3 z q
          · omega
        · first | exact nx | exact ⟨by walk_at "sc", nx⟩
      · first | exact nx | exact ⟨by walk_at "sc", nx⟩
    · intro σ H2 hpv
      rw [hPv] at hpv
      obtain ⟨rest, zs, v4, v5, rfl, i2, lz, bz, f2⟩ := hpv
      walk_at "kk"
      exact h p H2 zs hp f2 i2 (by omega) bz
theorem ok__law_roots (T : Txt P w K mg a) : Cal P w K mg base 2 "_law_roots" spRootsE := by
  have C__law_number := ok__law_number (P := P) (w := w) (base := base) T
  have C__law_word := ok__law_word (P := P) (w := w) (base := base) T
  refine T.d__law_roots.ok sc__law_roots (fun vs H Q E h => ?_) (fun f cdv A outer s H vs Q E hr h => ⟨_, (pss_cons (ps_set (i := 2) sc__law_roots.nd rfl (Or.inl rfl) (pe_lst pa_nil))
      (pss_cons (ps_set (i := 3) sc__law_roots.nd rfl (Or.inl rfl) (kv 1))
      (pss_cons (k_for (passes_of rfl) rfl (pi_range1 (by rfl) T.n_range (pa_cons pe_int pa_nil)) (pg_name (i := 4) sc__law_roots.nd rfl (Or.inl rfl))
      (pss_cons (ps_set (i := 5) sc__law_roots.nd rfl (Or.inl rfl) (kc C__law_number (hr.mono (by decide)) (pa_cons (pe_op o_add (kv 3) (kv 4)) (pa_cons (pe_op o_add (kv 4) pe_int) pa_nil))))
      (pss_cons (ps_set (i := 3) sc__law_roots.nd rfl (Or.inl rfl) (pe_op o_fdiv (kv 3) pe_int))
      (pss_one (ps_if (pt_cmpR o_gt (kv 4) pe_int (nomark _))
      (pss_one (ps_if (pt_cmpR (o_eq hr.units) (pe_op o_mod (pe_callTy c_int (by rfl) T.n_int (by decide +kernel) (pa_cons (kv 5) pa_nil)) pe_int) pe_int (nomark _))
      (pss_one (ps_expr (pe_bm PySem.F.plainAttrs_list PySem.F.slot_list_append PySem.F.type_list_append mt_append (kv 2) (pa_cons (kc C__law_word (hr.mono (by decide)) (pa_cons (pe_op o_fdiv (kv 5) pe_int) (pa_cons (kv 0) pa_nil))) pa_nil))))
      pss_nil))
      (pss_one (ps_if (pt_cmpR (o_eq hr.units) (pe_op o_mod (pe_callTy c_int (by rfl) T.n_int (by decide +kernel) (pa_cons (kv 5) pa_nil)) pe_int) pe_int (nomark _))
      (pss_one (ps_expr (pe_bm PySem.F.plainAttrs_list PySem.F.slot_list_append PySem.F.type_list_append mt_append (kv 2) (pa_cons (kc C__law_word (hr.mono (by decide)) (pa_cons (pe_op o_fdiv (kv 5) pe_int) (pa_cons (kv 0) pa_nil))) pa_nil))))
      (pss_one (ps_expr (pe_bm PySem.F.plainAttrs_list PySem.F.slot_list_append PySem.F.type_list_append mt_append (kv 2) (pa_cons pe_int pa_nil)))))))))))
      (pss_one (ps_ret (kv 2)))))), ?_⟩)
  · obtain ⟨_, _, rfl, _⟩ := h; rfl
  · obtain ⟨m, x, rfl, m0, m1, h⟩ := h
    walk_at "kk"
    intro p hp
    obtain ⟨Pv, hPv⟩ : ∃ Pv : Nat → L2.St → Hp → Prop, Pv = fun i σ H' => ∃ (rest : Int) (ws : List Int) (v4 v5 : Option V), σ = [some (.int m), some (.int x), some (.ref p), some (.int rest), v4, v5] ∧ IL H' p ws ∧ min i 16 ≤ ws.length ∧ ws.length ≤ i ∧ (∀ w ∈ ws, Ev w) ∧ KW.Fr [] H H' := ⟨_, rfl⟩
    refine for_rng Pv (by rw [hPv]; exact ⟨_, [], _, _, rfl, upd_same, by simp, by simp, by simp, Fr.new hp⟩) ?_ ?_
    · intro i σ H2 hi hpv
      rw [hPv] at hpv
      obtain ⟨rest, ws, v4, v5, rfl, i2, l1, l2, l3, f2⟩ := hpv
      walk_at "kk"
      refine num_s (by omega) (by omega) fun y hy => ?_
      have add : ∀ z : Int, Ev z → Pv (i + 1) [some (.int m), some (.int x), some (.ref p), some (.int (rest / 1009)), some (.int i), some (.int y)] (upd H2 p (.lst (ws.map V.int ++ [.int z]))) := fun z hz => by
        rw [hPv]; exact ⟨_, ws ++ [z], _, _, rfl, by show upd _ _ _ _ = _; rw [upd_same]; simp, by simp; omega, by simp; omega, fun w hw => by rcases List.mem_append.mp hw with q | q; exact l3 w q; simp at q; subst q; exact hz, Fr.atN f2 hp⟩
      walk_at "kk"
      split
      · split
        · walk_at "kk"
          refine wordE_s (by omega) (by omega) fun v hv => ?_
          walk_at "kk"
          exact add v hv
        · rw [hPv]; exact ⟨_, ws, _, _, rfl, i2, by omega, by omega, l3, f2⟩
      · split
        · walk_at "kk"
          refine wordE_s (by omega) (by omega) fun v hv => ?_
          walk_at "kk"
          exact add v hv
        · walk_at "kk"
          exact add 0 (fun _ => by omega)
    · intro σ H2 hpv
      rw [hPv] at hpv
      obtain ⟨rest, ws, v4, v5, rfl, i2, l1, l2, l3, f2⟩ := hpv
      walk_at "kk"
      exact h p H2 ws hp f2 i2 (by omega) (by omega) l3
end
end K64

set_option Elab.async false
set_option linter.all false
set_option maxRecDepth 100000
set_option maxHeartbeats 4000000
namespace K64
open PySem PySem.Spec PyProof.Rows L2 KW ST LamX
local macro_rules | `(tactic| walk_at "kw") => `(tactic| simp only [tSeq, tNext, tIfS, tTest, tAnd, tOr, tNot, tAndV, tOrV, tNotV, tIf, tChain, tOp, tUn, tC, tAsg, gName, gSub, gCons, gNil, tRet, tRetN, tDrop, tCons, tNil, tCB, tAug, tSl, tPart, tNoPart, tLst, tTup, tBM, tBM0, uTest, uFor, iRng1, iRng2, iList, uCall, List.map_cons, List.map_nil, List.length_cons, List.length_nil, List.cons_append, List.nil_append, List.replicate, Nat.zero_add, Nat.reduceAdd, Nat.reduceSub, List.getElem?_cons_zero, List.getElem?_cons_succ, List.set_cons_zero, List.set_cons_succ, V.bl.injEq, V.int.injEq, V.str.injEq, V.ref.injEq, V.ty.injEq, List.cons.injEq, and_true, true_and, exists_eq_left', exists_eq_right, exists_eq_left, exists_and_left, exists_and_right, decide_eq_true_eq, Bool.not_eq_true', decide_eq_false_iff_not, Bool.false_eq_true, if_true, if_false, ite_true, ite_false, Bool.not_true, Bool.not_false, reduceCtorEq, decide_true, decide_false, Bool.not_not, isK_int_int, isK_int_bool, isK_int_str, isK_int_list, isK_int_tuple, isK_bool_int, isK_bool_bool, isK_bool_str, isK_str_str, isK_str_int, isK_str_bool, isK_str_tuple, isK_str_list, isK_list_list, isK_list_tuple, isK_tuple_tuple, isK_tuple_list, isOk_int_int, isOk_int_bool, isOk_int_str, isOk_int_list, isOk_int_tuple, isOk_bool_int, isOk_bool_bool, isOk_bool_str, isOk_str_str, isOk_str_int, isOk_str_bool, isOk_str_tuple, isOk_str_list, isOk_list_list, isOk_list_tuple, isOk_tuple_tuple, isOk_tuple_list, isK_dict_dict, isOk_dict_dict, isK_none_int, isK_none_bool, isOk_none_int, isOk_none_bool, tyV, S_inj, S_cat, L2.start, Nat.reduceSub, List.replicate_succ, List.replicate_zero, and_assoc, List.append_nil, Nat.reduceEqDiff, Option.some.injEq, Int.natCast_inj, upd_upd, Int.reducePow, Int.reduceToNat, Int.reduceMul, Int.reduceAdd, Int.reduceSub, Int.reduceLT, Int.reduceLE, Int.reduceNeg, Int.reduceDiv, Int.reduceMod, Nat.reducePow, Nat.reduceMul, S_len, List.length_append, List.length_map, List.length_range, not_true_eq_false, not_false_eq_true, ne_eq, uAdd_e1, uAdd_e2, uSub_e1, uMod_e1, uDiv_e1, uPow_e1, uShl_e1, uNeg_e1, uIAdd_e1, uIAdd_e2, uIAdd_e3, uISub_e1, uLt_e1, uLt_e2, uLe_e1, uGt_e1, uGe_e1, uEq_e1, uEq_e2, uEq_e3, uEq_e4, uEq_e5, uEq_e6, uEq_e7, uEq_e8, uEq_e9, uEq_e10, uEq_e11, uNe_e1, uNe_e2, uNe_e3, uNe_e4, uNe_e5, uNe_e6, uNe_e7, uNe_e8, uNe_e9, uNe_e10, uNe_e11, uIs_e1, uIs_e2, uIs_e3, uIs_e4, uIs_e5, uIs_e6, uIs_e7, uNotIs_e1, uNotIs_e2, uNotIs_e3, uNotIs_e4, uNotIs_e5, uNotIs_e6, uIn_e1, uIn_e2, uIn_e3, uIn_e4, uNotIn_e1, uNotIn_e2, uNotIn_e3, uNotIn_e4, uTru_e1, uTru_e2, uTru_e3, uTru_e4, uIx_e2, uSl_e2, uLen_e1, uAbs_e1, uInt_e1, uInt_e2, uMin2_e1, uIsi_e1, uIsi_e2, uIsi_e3, uIsi_e4, cx_K, uVar_0, uVar_n, uFld, uSFld, uMet, uMake, tDG, tDI, tDNI, tDP, tDD, uMk, uRaise, uDelSl, tCallS, L2.WE, uStr_e1, uStr_e2, uMul2_e1, uMul2_e2, okS_i, okS_s, List.zip_cons_cons, List.zip_nil_left, List.drop_zero, List.drop_succ_cons, List.drop_nil, putF_nil, putF_cons, eq_self, tDNewK, tB, Option.isSome_some, Option.isSome_none, false_and, false_or, or_false, exists_false, Int.zero_add, uLc, wipe, tYes, isEmpty_app, List.isEmpty_cons, List.isEmpty_nil, List.isEmpty_map, Bool.and_false, Bool.and_true, iRev, K64.lit_0, K64.fe_room_entries, K64.fe_room_words, K64.fe_room__places, K64.fe_room__least, K64.fe_entries_room, K64.fe_entries_words, K64.fe_entries__places, K64.fe_entries__least, K64.fe_words_room, K64.fe_words_entries, K64.fe_words__places, K64.fe_words__least, K64.fe__places_room, K64.fe__places_entries, K64.fe__places_words, K64.fe__places__least, K64.fe__least_room, K64.fe__least_entries, K64.fe__least_words, K64.fe__least__places, K64.fe_store_pressure, K64.fe_store_always, K64.fe_store_allocations, K64.fe_store_collections, K64.fe_store__roots, K64.fe_store__held, K64.fe_store__saved, K64.fe_pressure_store, K64.fe_pressure_always, K64.fe_pressure_allocations, K64.fe_pressure_collections, K64.fe_pressure__roots, K64.fe_pressure__held, K64.fe_pressure__saved, K64.fe_always_store, K64.fe_always_pressure, K64.fe_always_allocations, K64.fe_always_collections, K64.fe_always__roots, K64.fe_always__held, K64.fe_always__saved, K64.fe_allocations_store, K64.fe_allocations_pressure, K64.fe_allocations_always, K64.fe_allocations_collections, K64.fe_allocations__roots, K64.fe_allocations__held, K64.fe_allocations__saved, K64.fe_collections_store, K64.fe_collections_pressure, K64.fe_collections_always, K64.fe_collections_allocations, K64.fe_collections__roots, K64.fe_collections__held, K64.fe_collections__saved, K64.fe__roots_store, K64.fe__roots_pressure, K64.fe__roots_always, K64.fe__roots_allocations, K64.fe__roots_collections, K64.fe__roots__held, K64.fe__roots__saved, K64.fe__held_store, K64.fe__held_pressure, K64.fe__held_always, K64.fe__held_allocations, K64.fe__held_collections, K64.fe__held__roots, K64.fe__held__saved, K64.fe__saved_store, K64.fe__saved_pressure, K64.fe__saved_always, K64.fe__saved_allocations, K64.fe__saved_collections, K64.fe__saved__roots, K64.fe__saved__held, tDGF_eq, uDGetF_e1, tLstRg, tRg1, K64.N_is_ref, K64.N_ref_of, K64.N_reached, K64.N_collect, K64.N_object_of, K64.N_row_of, K64.N_word_at, K64.N_paths, K64.N_garbage, K64.N_Store_init, K64.N_Store_exists, K64.N_Store_numbers, K64.N_Store_free_number, K64.N_Store_allocate, K64.N_Store_size, K64.N_Store_kind, K64.N_Store_get, K64.N_Store_put, K64.N_Store_slots, K64.N_Store_drop, K64.N_Store_close_up, K64.N_Space_init, K64.N_Space_root, K64.N_Space_set_root, K64.N_Space_hold, K64.N_Space_drop, K64.N_Space_held, K64.N_Space_all_roots, K64.N_Space_collect, K64.N_Space_collect_with, K64.N_Space_new, K64.N_Space_fitted, K64.N__law_number, K64.N__law_word, K64.N__law_is, K64.N__law_same, K64.N__law_sizes, K64.N__law_rows, K64.N__law_roots, K64.N__law_space, K64.N__law_walk, K64.N__law_extended, K64.N__law_best, K64.N__law_path_is, K64.N__law_told, K64.N__law_drawn, K64.N__law_kept, K64.N__law_long, K64.N_law, sp_is_ref, sp_ref_of])
local macro_rules | `(tactic| walk_at "nn") => `(tactic| first | assumption | exact ne_un (by assumption) | exact ne_un (ne_un (by assumption)) | exact ne_un (ne_un (ne_un (by assumption))) | exact ne_un (ne_un (ne_un (ne_un (by assumption)))))
local macro_rules | `(tactic| walk_at "ne") => `(tactic| first | assumption | (apply Ne.symm; assumption) | exact ne_ud (by assumption) | exact Ne.symm (ne_ud (by assumption)) | exact ne_ud (ne_un (by assumption)) | exact Ne.symm (ne_ud (ne_un (by assumption))) | exact ne_ud (ne_un (ne_un (by assumption))) | exact Ne.symm (ne_ud (ne_un (ne_un (by assumption)))) | exact ne_m (by assumption) (by assumption) | exact Ne.symm (ne_m (by assumption) (by assumption)) | exact ne_n (by assumption) (by walk_at "nn") | exact Ne.symm (ne_n (by assumption) (by walk_at "nn")))
local macro_rules | `(tactic| walk_at "hp") => `(tactic| first | assumption | exact upd_same | (refine Eq.trans (upd_ne ?_) ?_; (focus walk_at "ne"); walk_at "hp"))
local macro_rules | `(tactic| walk_at "sc") => `(tactic| first | (with_reducible assumption) | omega | exact le_line (by (try simp only [List.length_map, List.length_append, List.length_cons, List.length_nil, S_len]); omega) | exact div_s (by omega) | exact mul_r (by omega) | exact mul_l (by omega) | exact pow_s (by omega) | exact mul2_r (by omega) | exact mul2_l (by omega) | exact small4300 (by omega) | exact lt_line (by (try simp only [List.length_map, List.length_append, List.length_cons, List.length_nil, S_len]); omega) | exact ⟨_, by assumption⟩ | (guard_target =~ Exists _; exact ⟨_, .of (by walk_at "hp")⟩) | (guard_target =~ _ ∨ _; exact .inl ⟨_, by assumption⟩) | (guard_target =~ _ ∨ _; exact .inl ⟨_, .of (by walk_at "hp")⟩) | (guard_target =~ _ ∨ _; exact .inr (.inr (.inl ⟨rfl, .inl ⟨_, by walk_at "hp"⟩⟩))) | decide)
local macro_rules | `(tactic| walk_at "kr") => `(tactic| first | (guard_target =~ _ ∧ _; first | refine And.intro (by walk_at "sc") ?_) | (guard_target =~ KW.uIx _ _ _ _ _; first | refine ix_l (by walk_at "hp") (by first | walk_at "hv" | rfl) ?_ | refine ix_t (by walk_at "hp") (by first | walk_at "hv" | rfl) ?_ | refine ix_sl (by assumption) (by walk_at "hv") ?_) | (guard_target =~ KW.uLen _ _ _ _; first | refine len_l (by walk_at "hp") ?_ | refine len_t (by walk_at "hp") ?_ | refine len_sl (by assumption) ?_) | (guard_target =~ KW.uSet _ _ _ _ _; first | refine set_l (by walk_at "hp") (by first | walk_at "hv" | rfl) ?_) | (guard_target =~ L2.gTup _ _ _ _ _ _ _; first | refine tup_l (by walk_at "hp") (by rfl) ?_) | (guard_target =~ KW.uGet _ _ _ _ _; first | refine get_l (by walk_at "hp") (by walk_at "hc") (by decide) (by rfl) ?_) | (guard_target =~ KW.uPut _ _ _ _ _ _; first | refine put_l (by walk_at "hp") (by walk_at "hc") (by decide) (by simp) ?_) | (guard_target =~ KW.uMet.uMt _ _ _ _ _ _ _ _ _; first | refine met_l (by walk_at "hp") (by rfl) ?_) | (guard_target =~ KW.uMet.uMt _ _ _ _ _ _ _ _ _; first | refine ST.met_s (by assumption) (by decide) ?_) | (guard_target =~ ST.spExists _ _ _ _ _; first | refine ST.exists_s (by assumption) ?_) | (guard_target =~ ST.spUsed _ _ _ _ _; first | refine ST.used_s (by assumption) ?_) | (guard_target =~ KW.uGet _ _ _ _ _; first | refine ST.words_s (by assumption) (by walk_at "hc") (by decide) ?_) | (guard_target =~ KW.uDIn _ _ _ _; first | refine din_i (by walk_at "hp") ?_ | refine din_s (by walk_at "hp") ?_) | (guard_target =~ KW.uDGet _ _ _ _; first | refine dget_i (by walk_at "hp") (by walk_at "hv") ?_ | refine dget_s (by walk_at "hp") (by walk_at "hv") ?_) | (guard_target =~ KW.uDPut _ _ _ _ _; first | refine dput_i (by walk_at "hp") (by walk_at "sc") ?_ | refine dput_s (by walk_at "hp") (by walk_at "sc") ?_) | (guard_target =~ KW.uDDel _ _ _ _; first | refine ddel_i (by walk_at "hp") (by walk_at "hv") ?_ | refine ddel_s (by walk_at "hp") (by walk_at "hv") ?_) | (guard_target =~ KW.uMul2 _ _ _ _; first | refine rep_l (by walk_at "hp") (by walk_at "sc") (by walk_at "sc") (by walk_at "sc") ?_) | (guard_target =~ L2.rAppend _ _ _ _; first | refine app_l (by walk_at "hp") (by walk_at "sc") ?_) | (guard_target =~ L2.rPop _ _ _ _; first | refine pop_l (by walk_at "hp") (by walk_at "hv") ?_ | refine pops_l (by walk_at "hp") ?_) | (guard_target =~ L2.rClear _ _ _ _; first | refine clr_l (by walk_at "hp") ?_) | (guard_target =~ L2.rReverse _ _ _ _; first | refine rev_l (by walk_at "hp") ?_) | (guard_target =~ L2.rExtend _ _ _ _; first | refine ext_l (by walk_at "hp") (by walk_at "hp") (by walk_at "sc") ?_) | (guard_target =~ KW.uAdd _ _ _ _ _; first | refine ucat_l (by walk_at "hp") (by walk_at "hp") (by walk_at "sc") ?_) | (guard_target =~ KW.uSl _ _ _ _ _ _; first | refine usl_l (by walk_at "hp") ?_) | (guard_target =~ KW.uTru _ _ _ _; first | refine tru_l (by walk_at "hp") ?_ | refine tru_t (by walk_at "hp") ?_ | refine tru_d (by walk_at "hp") ?_ | refine tru_sl (by assumption) ?_) | (guard_target =~ L2.rIndex _ _ _ _ _; first | refine idx_s (by walk_at "hp") (by assumption) ?_ | refine idx_i (by walk_at "hp") (by assumption) ?_) | (guard_target =~ L2.rIn _ _ _ _ _ _; first | refine in_s (by walk_at "hp") ?_ | refine nin_s (by walk_at "hp") ?_ | refine in_i (by walk_at "hp") ?_ | refine nin_i (by walk_at "hp") ?_) | (guard_target =~ KW.uIsi _ _ _ _; first | refine isi_l (by walk_at "hp") (by decide +kernel) ?_ | refine isi_t (by walk_at "hp") (by decide +kernel) ?_ | refine isi_d (by walk_at "hp") (by decide +kernel) ?_) | (guard_target =~ KW.uList _ _ _ _; first | refine list_l (by walk_at "hp") ?_ | refine list_t (by walk_at "hp") ?_ | refine list_sl (by assumption) ?_) | (guard_target =~ KW.uDict _ _ _; first | refine dict_d (by walk_at "hp") ?_) | (guard_target =~ KW.uSorted _ _ _ _; first | refine srt_l (by walk_at "hp") ?_) | (guard_target =~ KW.uSum _ _ _ _; first | refine sum_l (by walk_at "hp") ?_) | (guard_target =~ KW.uDelC _ _ _ _; first | refine dels_l (by walk_at "hp") (by walk_at "sc") ?_) | (guard_target =~ L2.wAs _ _ _ _ _ _ _ _ _ _; first | refine as_yes (by walk_at "hx") ?_ | refine as_no (by walk_at "hx") ?_) | (guard_target =~ KW.uEf _ _ _ _ _ _ _ _ _; first | refine ef_l (by walk_at "he") (by decide) (by rfl) (by walk_at "hp") (by rfl) ?_) | (guard_target =~ KW.uIsE _ _ _ _ _ _ _; first | refine isE_r (by walk_at "he") (by walk_at "hp") (by walk_at "hk") ?_ | refine isE_t (by walk_at "he") (by walk_at "hp") (by walk_at "hk") ?_))
local macro_rules | `(tactic| walk_at "hv") => `(tactic| first | assumption)
local macro_rules | `(tactic| walk_at "kk") => `(tactic| repeat (first | walk_at "kw" | walk_at "kr"))
local macro_rules | `(tactic| walk_at "hc") => `(tactic| first | exact K64.Txt.c_Store (by assumption) | exact K64.Txt.c_Space (by assumption))
local macro_rules | `(tactic| walk_at "he") => `(tactic| first | exact K64.Txt.e_BadWord (by assumption) | exact K64.Txt.e_NoRoom (by assumption) | exact K64.Txt.e_NoNumber (by assumption) | exact K64.Txt.e_Wrong (by assumption))
local macro_rules | `(tactic| walk_at "hx") => `(tactic| first | exact K64.Txt.x_BadWord_NoNumber (by assumption) | exact K64.Txt.x_BadWord_NoRoom (by assumption) | exact K64.Txt.x_NoRoom_NoNumber (by assumption) | exact K64.Txt.x_NoRoom_NoRoom (by assumption) | exact K64.Txt.x_NoNumber_NoNumber (by assumption) | exact K64.Txt.x_NoNumber_NoRoom (by assumption) | exact K64.Txt.x_Wrong_NoNumber (by assumption) | exact K64.Txt.x_Wrong_NoRoom (by assumption))
local macro_rules | `(tactic| walk_at "hk") => `(tactic| first | fail)

local macro_rules | `(tactic| walk_at "kr") => `(tactic| first | (guard_target =~ KW.uGet _ _ _ _ _; refine ST.get_p (by assumption) (by rfl) (by walk_at "hc") (by decide) (by rfl) ?_) | (guard_target =~ KW.uMet.uMt _ _ _ _ _ _ _ _ _; refine ST.met_p (by assumption) (by rfl) (by decide) ?_))
section
variable {P : Program} {w : World} {K : Frag} {mg : Str → Option Value} {base : Heap} {a : Ads}
theorem ok__law_rows (T : Txt P w K mg a) : Cal P w K mg base 2 "_law_rows" spRowsE := by
  have C__law_number := ok__law_number (P := P) (w := w) (base := base) T
  have C__law_word := ok__law_word (P := P) (w := w) (base := base) T
  refine T.d__law_rows.ok sc__law_rows (fun vs H Q E h => ?_) (fun f cdv A outer s H vs Q E hr h => ⟨_, (pss_cons (ps_set (i := 2) sc__law_rows.nd rfl (Or.inl rfl) (pe_lst pa_nil))
      (pss_cons (ps_set (i := 3) sc__law_rows.nd rfl (Or.inl rfl) (kv 1))
      (pss_cons (k_for (passes_of rfl) rfl (pi_range1 (by rfl) T.n_range (pa_cons (pe_callB c_len (by rfl) T.n_len (by decide +kernel) (pa_cons (kv 0) pa_nil)) pa_nil)) (pg_name (i := 4) sc__law_rows.nd rfl (Or.inl rfl))
      (pss_cons (ps_set (i := 5) sc__law_rows.nd rfl (Or.inr rfl) (kc C__law_number (hr.mono (by decide)) (pa_cons (pe_op o_add (kv 3) (kv 4)) (pa_cons (kv 4) pa_nil))))
      (pss_cons (ps_set (i := 3) sc__law_rows.nd rfl (Or.inl rfl) (pe_op o_fdiv (kv 3) pe_int))
      (pss_cons (k_setLc (i := 6) (own := [("at", 7)]) (g := gName 7) (by rfl) sc__law_rows.nd rfl rfl (sw_true rfl rfl rfl (by decide +kernel)) (pi_range1 (by rfl) T.n_range (pa_cons (pe_op o_add pe_int (pe_ix o_ix (kv 0) (kv 4) (fun _ _ => rfl))) pa_nil)) (blkOk_by (own := [("at", 7)]) (N := ["sizes", "x", "rows", "rest", "k", "y", "row", "at"]) (sc := defScope s__law_rows) (by decide +kernel)) (fun _ _ _ _ _ => pg_name (i := 7) sc__law_rows.nd rfl (Or.inl rfl)) (fun _ _ _ _ _ => pts_nil) (fun _ _ _ _ _ => by exact (kc C__law_word (hr.mono (by decide)) (pa_cons (pe_op (o_addK K) (pe_op (o_addK K) (pe_op o_fdiv (kv 5) pe_int) (pe_op o_mul2 (kv 7) pe_int)) (pe_op o_mul2 (kv 7) (kv 7))) (pa_cons (pe_callB (c_lenK K) (by rfl) T.n_len (by decide +kernel) (pa_cons (kv 0) pa_nil)) pa_nil)))))
      (C8.pss_cut (ps_if (pt_cmpR (o_eq hr.units) (pe_op o_mod (pe_callTy c_int (by rfl) T.n_int (by decide +kernel) (pa_cons (kv 5) pa_nil)) pe_int) pe_int (nomark _))
      (pss_one (ps_asg pe_int (pg_sub (kv 6) pe_int s_set)))
      pss_nil)
      (C8.pss_cut (ps_if (PW.pt (pw_and (pt_cmpR (o_eq hr.units) (pe_op o_mod (pe_callTy c_int (by rfl) T.n_int (by decide +kernel) (pa_cons (kv 5) pa_nil)) pe_int) pe_int (nomark _)) (pw_and (pt_cmpR o_gt (pe_ix o_ix (kv 0) (kv 4) (fun _ _ => rfl)) pe_int (nomark _)) (pw_and1 (pt_cmpR o_gt (kv 4) pe_int (nomark _))))))
      (pss_one (ps_asg (pe_op o_mul2 pe_int (pe_op o_sub (kv 4) pe_int)) (pg_sub (kv 6) pe_int s_set)))
      pss_nil)
      (pss_one (ps_expr (pe_bm PySem.F.plainAttrs_list PySem.F.slot_list_append PySem.F.type_list_append mt_append (kv 2) (pa_cons (kv 6) pa_nil))))))))))
      (pss_one (ps_ret (kv 2)))))), ?_⟩)
  · obtain ⟨_, _, _, rfl, _⟩ := h; rfl
  · obtain ⟨sz, x, zs, rfl, hz, lz, bz, h⟩ := h
    walk_at "kk"
    intro p hp
    have hz1 : IL (upd H p (.lst [])) sz zs := (Fr.new (l := []) hp) _ _ (by simp) hz
    walk_at "kk"
    rw [Int.toNat_natCast]
    obtain ⟨Pv, hPv⟩ : ∃ Pv : Nat → L2.St → Hp → Prop, Pv = fun i σ H' => ∃ (rest : Int) (Ls : List (Addr × List Int)) (v4 v5 v6 v7 : Option V), σ = [some (.ref sz), some (.int x), some (.ref p), some (.int rest), v4, v5, v6, v7] ∧ Rls H' p Ls ∧ Ls.length = i ∧ (∀ x ∈ Ls, H x.1 = none ∧ 1 ≤ x.2.length ∧ x.2.length ≤ 21 ∧ (∀ w ∈ x.2, Ev w) ∧ x.1 ≠ p) ∧ KW.Fr [] H H' := ⟨_, rfl⟩
    refine for_rng Pv (by rw [hPv]; exact ⟨_, [], _, _, _, _, rfl, ⟨upd_same, by simp⟩, rfl, by simp, Fr.new hp⟩) ?_ ?_
    · intro i σ H2 hi hpv
      rw [hPv] at hpv
      obtain ⟨rest, Ls, v4, v5, v6, v7, rfl, R2, lL, bL, f2⟩ := hpv
      obtain ⟨z, hzi⟩ : ∃ z, zs[i]? = some z := ⟨_, List.getElem?_eq_getElem hi⟩
      have bz1 := bz z (List.mem_of_getElem? hzi)
      have i2 := f2 _ _ (by simp) hz
      have hv : atI (zs.map V.int) ((i : Nat) : Int) = some (.int z) := atI_map hzi
      walk_at "kk"
      refine num_s (by omega) (by omega) fun y hy => ?_
      walk_at "kk"
      obtain ⟨zn, hzn⟩ : ∃ zn : Nat, (1 + z : Int) = zn := ⟨(1 + z).toNat, by omega⟩
      rw [hzn, Int.toNat_natCast]
      refine lc_rG (fun j Dn acc H' => ∃ cs : List Int, acc = cs.map V.int ∧ cs.length = j ∧ (∀ w ∈ cs, Ev w) ∧ H' = upd H2 Dn (.lst acc)) (fun Dn hD => ⟨[], rfl, rfl, by simp, rfl⟩) ?_ ?_
      · rintro j Dn acc H3 Nx hj hD ⟨cs, rfl, lc, ev, rfl⟩ hnx
        have z3 : upd H2 Dn (.lst (cs.map V.int)) sz = some (.lst (zs.map V.int)) := by rw [upd_ne (ne_of_none i2 hD)]; exact i2
        refine ⟨rfl, ?_⟩
        refine tYes_if ?_
        walk_at "kk"
        refine wordE_s (by omega) (by omega) fun v hv => ?_
        refine ⟨cs.map V.int, upd_same, lt_line (by rw [List.length_map]; omega), hnx (cs.map V.int ++ [.int v]) _ ⟨cs ++ [v], by simp, by simp [lc], fun w hw => by rcases List.mem_append.mp hw with q | q; exact ev w q; simp at q; subst q; exact hv, by rw [upd_upd]⟩⟩
      rintro t acc H3 ht ⟨cs, rfl, lc, ev, rfl⟩
      have nt : H t = none := f2.none (by simp) ht
      have tp : t ≠ p := fun z => by subst z; rw [R2.li] at ht; cases ht
      have f3 : KW.Fr [] H2 (upd H2 t (.lst (cs.map V.int))) := Fr.new ht
      have i3 : IL (upd H2 t (.lst (cs.map V.int))) t cs := upd_same
      revert f3 i3
      generalize upd H2 t (.lst (cs.map V.int)) = H3
      intro f3 i3
      refine ⟨fun σ H' => ∃ row v7, σ = [some (.ref sz), some (.int x), some (.ref p), some (.int (rest / 1000003)), some (.int i), some (.int y), some (.ref t), v7] ∧ IL H' t row ∧ row.length = zn ∧ (∀ w ∈ row, Ev w) ∧ KW.Fr [] H2 H', ?_, ?_⟩
      · walk_at "kk"
        split
        · walk_at "kk"
          refine set_i i3 (j := 0) rfl (by omega) ?_
          exact ⟨_, upd_same, by simp [lc], fun w hw => by rcases List.mem_or_eq_of_mem_set hw with q | q; exact ev w q; subst q; exact fun _ => by omega, Fr.atN f3 ht⟩
        · exact ⟨_, i3, lc, ev, f3⟩
      rintro σ H4 ⟨row, v8, rfl, i4, l4, ev4, f4⟩
      have z4 := f4 _ _ (by simp) i2
      refine ⟨fun σ H' => ∃ row v7, σ = [some (.ref sz), some (.int x), some (.ref p), some (.int (rest / 1000003)), some (.int i), some (.int y), some (.ref t), v7] ∧ IL H' t row ∧ row.length = zn ∧ (∀ w ∈ row, Ev w) ∧ KW.Fr [] H2 H', ?_, ?_⟩
      · have keep : ∃ row_1, IL H4 t row_1 ∧ row_1.length = zn ∧ (∀ w ∈ row_1, Ev w) ∧ KW.Fr [] H2 H4 := ⟨row, i4, l4, ev4, f4⟩
        walk_at "kk"
        split
        · walk_at "kk"
          split
          · rename_i z0
            split
            · rename_i i0
              walk_at "kk"
              refine set_i i4 (j := 1) rfl (by omega) ?_
              exact ⟨_, upd_same, by simp [l4], fun w hw => by rcases List.mem_or_eq_of_mem_set hw with q | q; exact ev4 w q; subst q; exact fun _ => by omega, Fr.atN f4 ht⟩
            · exact keep
          · exact keep
        · exact keep
      rintro σ H5 ⟨row5, v8, rfl, i5, l5, ev5, f5⟩
      have R5 := R2.fr0 f5
      have li5 := R5.li
      walk_at "kk"
      rw [hPv]
      refine ⟨_, Ls ++ [(t, row5)], _, _, _, _, rfl, ⟨by rw [upd_same]; simp, fun x hx => ?_⟩, by simp [lL], fun x hx => ?_, Fr.atN (f2.trans f5) hp⟩
      · rcases List.mem_append.mp hx with q | q
        · show upd _ _ _ _ = _
          rw [upd_ne (bL x q).2.2.2.2]; exact R5.rs x q
        · simp at q; subst q
          show upd _ _ _ _ = _
          rw [upd_ne tp]; exact i5
      · rcases List.mem_append.mp hx with q | q
        · exact bL x q
        · simp at q; subst q
          exact ⟨nt, by dsimp only; omega, by dsimp only; omega, ev5, tp⟩
    · intro σ H2 hpv
      rw [hPv] at hpv
      obtain ⟨rest, Ls, v4, v5, v6, v7, rfl, R2, lL, bL, f2⟩ := hpv
      walk_at "kk"
      exact h p H2 Ls hp f2 R2 lL fun x hx => ⟨(bL x hx).1, (bL x hx).2.1, (bL x hx).2.2.1, (bL x hx).2.2.2.1⟩
end
end K64

set_option Elab.async false
set_option linter.all false
set_option maxRecDepth 100000
set_option maxHeartbeats 4000000
namespace K64
open PySem PySem.Spec PyProof.Rows L2 KW ST LamX
local macro_rules | `(tactic| walk_at "kw") => `(tactic| simp only [tSeq, tNext, tIfS, tTest, tAnd, tOr, tNot, tAndV, tOrV, tNotV, tIf, tChain, tOp, tUn, tC, tAsg, gName, gSub, gCons, gNil, tRet, tRetN, tDrop, tCons, tNil, tCB, tAug, tSl, tPart, tNoPart, tLst, tTup, tBM, tBM0, uTest, uFor, iRng1, iRng2, iList, uCall, List.map_cons, List.map_nil, List.length_cons, List.length_nil, List.cons_append, List.nil_append, List.replicate, Nat.zero_add, Nat.reduceAdd, Nat.reduceSub, List.getElem?_cons_zero, List.getElem?_cons_succ, List.set_cons_zero, List.set_cons_succ, V.bl.injEq, V.int.injEq, V.str.injEq, V.ref.injEq, V.ty.injEq, List.cons.injEq, and_true, true_and, exists_eq_left', exists_eq_right, exists_eq_left, exists_and_left, exists_and_right, decide_eq_true_eq, Bool.not_eq_true', decide_eq_false_iff_not, Bool.false_eq_true, if_true, if_false, ite_true, ite_false, Bool.not_true, Bool.not_false, reduceCtorEq, decide_true, decide_false, Bool.not_not, isK_int_int, isK_int_bool, isK_int_str, isK_int_list, isK_int_tuple, isK_bool_int, isK_bool_bool, isK_bool_str, isK_str_str, isK_str_int, isK_str_bool, isK_str_tuple, isK_str_list, isK_list_list, isK_list_tuple, isK_tuple_tuple, isK_tuple_list, isOk_int_int, isOk_int_bool, isOk_int_str, isOk_int_list, isOk_int_tuple, isOk_bool_int, isOk_bool_bool, isOk_bool_str, isOk_str_str, isOk_str_int, isOk_str_bool, isOk_str_tuple, isOk_str_list, isOk_list_list, isOk_list_tuple, isOk_tuple_tuple, isOk_tuple_list, isK_dict_dict, isOk_dict_dict, isK_none_int, isK_none_bool, isOk_none_int, isOk_none_bool, tyV, S_inj, S_cat, L2.start, Nat.reduceSub, List.replicate_succ, List.replicate_zero, and_assoc, List.append_nil, Nat.reduceEqDiff, Option.some.injEq, Int.natCast_inj, upd_upd, Int.reducePow, Int.reduceToNat, Int.reduceMul, Int.reduceAdd, Int.reduceSub, Int.reduceLT, Int.reduceLE, Int.reduceNeg, Int.reduceDiv, Int.reduceMod, Nat.reducePow, Nat.reduceMul, S_len, List.length_append, List.length_map, List.length_range, not_true_eq_false, not_false_eq_true, ne_eq, uAdd_e1, uAdd_e2, uSub_e1, uMod_e1, uDiv_e1, uPow_e1, uShl_e1, uNeg_e1, uIAdd_e1, uIAdd_e2, uIAdd_e3, uISub_e1, uLt_e1, uLt_e2, uLe_e1, uGt_e1, uGe_e1, uEq_e1, uEq_e2, uEq_e3, uEq_e4, uEq_e5, uEq_e6, uEq_e7, uEq_e8, uEq_e9, uEq_e10, uEq_e11, uNe_e1, uNe_e2, uNe_e3, uNe_e4, uNe_e5, uNe_e6, uNe_e7, uNe_e8, uNe_e9, uNe_e10, uNe_e11, uIs_e1, uIs_e2, uIs_e3, uIs_e4, uIs_e5, uIs_e6, uIs_e7, uNotIs_e1, uNotIs_e2, uNotIs_e3, uNotIs_e4, uNotIs_e5, uNotIs_e6, uIn_e1, uIn_e2, uIn_e3, uIn_e4, uNotIn_e1, uNotIn_e2, uNotIn_e3, uNotIn_e4, uTru_e1, uTru_e2, uTru_e3, uTru_e4, uIx_e2, uSl_e2, uLen_e1, uAbs_e1, uInt_e1, uInt_e2, uMin2_e1, uIsi_e1, uIsi_e2, uIsi_e3, uIsi_e4, cx_K, uVar_0, uVar_n, uFld, uSFld, uMet, uMake, tDG, tDI, tDNI, tDP, tDD, uMk, uRaise, uDelSl, tCallS, L2.WE, uStr_e1, uStr_e2, uMul2_e1, uMul2_e2, okS_i, okS_s, List.zip_cons_cons, List.zip_nil_left, List.drop_zero, List.drop_succ_cons, List.drop_nil, putF_nil, putF_cons, eq_self, tDNewK, tB, Option.isSome_some, Option.isSome_none, false_and, false_or, or_false, exists_false, Int.zero_add, uLc, wipe, tYes, isEmpty_app, List.isEmpty_cons, List.isEmpty_nil, List.isEmpty_map, Bool.and_false, Bool.and_true, iRev, K64.lit_0, K64.fe_room_entries, K64.fe_room_words, K64.fe_room__places, K64.fe_room__least, K64.fe_entries_room, K64.fe_entries_words, K64.fe_entries__places, K64.fe_entries__least, K64.fe_words_room, K64.fe_words_entries, K64.fe_words__places, K64.fe_words__least, K64.fe__places_room, K64.fe__places_entries, K64.fe__places_words, K64.fe__places__least, K64.fe__least_room, K64.fe__least_entries, K64.fe__least_words, K64.fe__least__places, K64.fe_store_pressure, K64.fe_store_always, K64.fe_store_allocations, K64.fe_store_collections, K64.fe_store__roots, K64.fe_store__held, K64.fe_store__saved, K64.fe_pressure_store, K64.fe_pressure_always, K64.fe_pressure_allocations, K64.fe_pressure_collections, K64.fe_pressure__roots, K64.fe_pressure__held, K64.fe_pressure__saved, K64.fe_always_store, K64.fe_always_pressure, K64.fe_always_allocations, K64.fe_always_collections, K64.fe_always__roots, K64.fe_always__held, K64.fe_always__saved, K64.fe_allocations_store, K64.fe_allocations_pressure, K64.fe_allocations_always, K64.fe_allocations_collections, K64.fe_allocations__roots, K64.fe_allocations__held, K64.fe_allocations__saved, K64.fe_collections_store, K64.fe_collections_pressure, K64.fe_collections_always, K64.fe_collections_allocations, K64.fe_collections__roots, K64.fe_collections__held, K64.fe_collections__saved, K64.fe__roots_store, K64.fe__roots_pressure, K64.fe__roots_always, K64.fe__roots_allocations, K64.fe__roots_collections, K64.fe__roots__held, K64.fe__roots__saved, K64.fe__held_store, K64.fe__held_pressure, K64.fe__held_always, K64.fe__held_allocations, K64.fe__held_collections, K64.fe__held__roots, K64.fe__held__saved, K64.fe__saved_store, K64.fe__saved_pressure, K64.fe__saved_always, K64.fe__saved_allocations, K64.fe__saved_collections, K64.fe__saved__roots, K64.fe__saved__held, tDGF_eq, uDGetF_e1, tLstRg, tRg1, K64.N_is_ref, K64.N_ref_of, K64.N_reached, K64.N_collect, K64.N_object_of, K64.N_row_of, K64.N_word_at, K64.N_paths, K64.N_garbage, K64.N_Store_init, K64.N_Store_exists, K64.N_Store_numbers, K64.N_Store_free_number, K64.N_Store_allocate, K64.N_Store_size, K64.N_Store_kind, K64.N_Store_get, K64.N_Store_put, K64.N_Store_slots, K64.N_Store_drop, K64.N_Store_close_up, K64.N_Space_init, K64.N_Space_root, K64.N_Space_set_root, K64.N_Space_hold, K64.N_Space_drop, K64.N_Space_held, K64.N_Space_all_roots, K64.N_Space_collect, K64.N_Space_collect_with, K64.N_Space_new, K64.N_Space_fitted, K64.N__law_number, K64.N__law_word, K64.N__law_is, K64.N__law_same, K64.N__law_sizes, K64.N__law_rows, K64.N__law_roots, K64.N__law_space, K64.N__law_walk, K64.N__law_extended, K64.N__law_best, K64.N__law_path_is, K64.N__law_told, K64.N__law_drawn, K64.N__law_kept, K64.N__law_long, K64.N_law, sp_is_ref, sp_ref_of])
local macro_rules | `(tactic| walk_at "nn") => `(tactic| first | assumption | exact ne_un (by assumption) | exact ne_un (ne_un (by assumption)) | exact ne_un (ne_un (ne_un (by assumption))) | exact ne_un (ne_un (ne_un (ne_un (by assumption)))))
local macro_rules | `(tactic| walk_at "ne") => `(tactic| first | assumption | (apply Ne.symm; assumption) | exact ne_ud (by assumption) | exact Ne.symm (ne_ud (by assumption)) | exact ne_ud (ne_un (by assumption)) | exact Ne.symm (ne_ud (ne_un (by assumption))) | exact ne_ud (ne_un (ne_un (by assumption))) | exact Ne.symm (ne_ud (ne_un (ne_un (by assumption)))) | exact ne_m (by assumption) (by assumption) | exact Ne.symm (ne_m (by assumption) (by assumption)) | exact ne_n (by assumption) (by walk_at "nn") | exact Ne.symm (ne_n (by assumption) (by walk_at "nn")))
local macro_rules | `(tactic| walk_at "hp") => `(tactic| first | assumption | exact upd_same | (refine Eq.trans (upd_ne ?_) ?_; (focus walk_at "ne"); walk_at "hp"))
local macro_rules | `(tactic| walk_at "sc") => `(tactic| first | (with_reducible assumption) | omega | exact le_line (by (try simp only [List.length_map, List.length_append, List.length_cons, List.length_nil, S_len]); omega) | exact div_s (by omega) | exact mul_r (by omega) | exact mul_l (by omega) | exact pow_s (by omega) | exact mul2_r (by omega) | exact mul2_l (by omega) | exact small4300 (by omega) | exact lt_line (by (try simp only [List.length_map, List.length_append, List.length_cons, List.length_nil, S_len]); omega) | exact ⟨_, by assumption⟩ | (guard_target =~ Exists _; exact ⟨_, .of (by walk_at "hp")⟩) | (guard_target =~ _ ∨ _; exact .inl ⟨_, by assumption⟩) | (guard_target =~ _ ∨ _; exact .inl ⟨_, .of (by walk_at "hp")⟩) | (guard_target =~ _ ∨ _; exact .inr (.inr (.inl ⟨rfl, .inl ⟨_, by walk_at "hp"⟩⟩))) | decide)
local macro_rules | `(tactic| walk_at "kr") => `(tactic| first | (guard_target =~ _ ∧ _; first | refine And.intro (by walk_at "sc") ?_) | (guard_target =~ KW.uIx _ _ _ _ _; first | refine ix_l (by walk_at "hp") (by first | walk_at "hv" | rfl) ?_ | refine ix_t (by walk_at "hp") (by first | walk_at "hv" | rfl) ?_ | refine ix_sl (by assumption) (by walk_at "hv") ?_) | (guard_target =~ KW.uLen _ _ _ _; first | refine len_l (by walk_at "hp") ?_ | refine len_t (by walk_at "hp") ?_ | refine len_sl (by assumption) ?_) | (guard_target =~ KW.uSet _ _ _ _ _; first | refine set_l (by walk_at "hp") (by first | walk_at "hv" | rfl) ?_) | (guard_target =~ L2.gTup _ _ _ _ _ _ _; first | refine tup_l (by walk_at "hp") (by rfl) ?_) | (guard_target =~ KW.uGet _ _ _ _ _; first | refine get_l (by walk_at "hp") (by walk_at "hc") (by decide) (by rfl) ?_) | (guard_target =~ KW.uPut _ _ _ _ _ _; first | refine put_l (by walk_at "hp") (by walk_at "hc") (by decide) (by simp) ?_) | (guard_target =~ KW.uMet.uMt _ _ _ _ _ _ _ _ _; first | refine met_l (by walk_at "hp") (by rfl) ?_) | (guard_target =~ KW.uMet.uMt _ _ _ _ _ _ _ _ _; first | refine ST.met_s (by assumption) (by decide) ?_) | (guard_target =~ ST.spExists _ _ _ _ _; first | refine ST.exists_s (by assumption) ?_) | (guard_target =~ ST.spUsed _ _ _ _ _; first | refine ST.used_s (by assumption) ?_) | (guard_target =~ KW.uGet _ _ _ _ _; first | refine ST.words_s (by assumption) (by walk_at "hc") (by decide) ?_) | (guard_target =~ KW.uDIn _ _ _ _; first | refine din_i (by walk_at "hp") ?_ | refine din_s (by walk_at "hp") ?_) | (guard_target =~ KW.uDGet _ _ _ _; first | refine dget_i (by walk_at "hp") (by walk_at "hv") ?_ | refine dget_s (by walk_at "hp") (by walk_at "hv") ?_) | (guard_target =~ KW.uDPut _ _ _ _ _; first | refine dput_i (by walk_at "hp") (by walk_at "sc") ?_ | refine dput_s (by walk_at "hp") (by walk_at "sc") ?_) | (guard_target =~ KW.uDDel _ _ _ _; first | refine ddel_i (by walk_at "hp") (by walk_at "hv") ?_ | refine ddel_s (by walk_at "hp") (by walk_at "hv") ?_) | (guard_target =~ KW.uMul2 _ _ _ _; first | refine rep_l (by walk_at "hp") (by walk_at "sc") (by walk_at "sc") (by walk_at "sc") ?_) | (guard_target =~ L2.rAppend _ _ _ _; first | refine app_l (by walk_at "hp") (by walk_at "sc") ?_) | (guard_target =~ L2.rPop _ _ _ _; first | refine pop_l (by walk_at "hp") (by walk_at "hv") ?_ | refine pops_l (by walk_at "hp") ?_) | (guard_target =~ L2.rClear _ _ _ _; first | refine clr_l (by walk_at "hp") ?_) | (guard_target =~ L2.rReverse _ _ _ _; first | refine rev_l (by walk_at "hp") ?_) | (guard_target =~ L2.rExtend _ _ _ _; first | refine ext_l (by walk_at "hp") (by walk_at "hp") (by walk_at "sc") ?_) | (guard_target =~ KW.uAdd _ _ _ _ _; first | refine ucat_l (by walk_at "hp") (by walk_at "hp") (by walk_at "sc") ?_) | (guard_target =~ KW.uSl _ _ _ _ _ _; first | refine usl_l (by walk_at "hp") ?_) | (guard_target =~ KW.uTru _ _ _ _; first | refine tru_l (by walk_at "hp") ?_ | refine tru_t (by walk_at "hp") ?_ | refine tru_d (by walk_at "hp") ?_ | refine tru_sl (by assumption) ?_) | (guard_target =~ L2.rIndex _ _ _ _ _; first | refine idx_s (by walk_at "hp") (by assumption) ?_ | refine idx_i (by walk_at "hp") (by assumption) ?_) | (guard_target =~ L2.rIn _ _ _ _ _ _; first | refine in_s (by walk_at "hp") ?_ | refine nin_s (by walk_at "hp") ?_ | refine in_i (by walk_at "hp") ?_ | refine nin_i (by walk_at "hp") ?_) | (guard_target =~ KW.uIsi _ _ _ _; first | refine isi_l (by walk_at "hp") (by decide +kernel) ?_ | refine isi_t (by walk_at "hp") (by decide +kernel) ?_ | refine isi_d (by walk_at "hp") (by decide +kernel) ?_) | (guard_target =~ KW.uList _ _ _ _; first | refine list_l (by walk_at "hp") ?_ | refine list_t (by walk_at "hp") ?_ | refine list_sl (by assumption) ?_) | (guard_target =~ KW.uDict _ _ _; first | refine dict_d (by walk_at "hp") ?_) | (guard_target =~ KW.uSorted _ _ _ _; first | refine srt_l (by walk_at "hp") ?_) | (guard_target =~ KW.uSum _ _ _ _; first | refine sum_l (by walk_at "hp") ?_) | (guard_target =~ KW.uDelC _ _ _ _; first | refine dels_l (by walk_at "hp") (by walk_at "sc") ?_) | (guard_target =~ L2.wAs _ _ _ _ _ _ _ _ _ _; first | refine as_yes (by walk_at "hx") ?_ | refine as_no (by walk_at "hx") ?_) | (guard_target =~ KW.uEf _ _ _ _ _ _ _ _ _; first | refine ef_l (by walk_at "he") (by decide) (by rfl) (by walk_at "hp") (by rfl) ?_) | (guard_target =~ KW.uIsE _ _ _ _ _ _ _; first | refine isE_r (by walk_at "he") (by walk_at "hp") (by walk_at "hk") ?_ | refine isE_t (by walk_at "he") (by walk_at "hp") (by walk_at "hk") ?_))
local macro_rules | `(tactic| walk_at "hv") => `(tactic| first | assumption)
local macro_rules | `(tactic| walk_at "kk") => `(tactic| repeat (first | walk_at "kw" | walk_at "kr"))
local macro_rules | `(tactic| walk_at "hc") => `(tactic| first | exact K64.Txt.c_Store (by assumption) | exact K64.Txt.c_Space (by assumption))
local macro_rules | `(tactic| walk_at "he") => `(tactic| first | exact K64.Txt.e_BadWord (by assumption) | exact K64.Txt.e_NoRoom (by assumption) | exact K64.Txt.e_NoNumber (by assumption) | exact K64.Txt.e_Wrong (by assumption))
local macro_rules | `(tactic| walk_at "hx") => `(tactic| first | exact K64.Txt.x_BadWord_NoNumber (by assumption) | exact K64.Txt.x_BadWord_NoRoom (by assumption) | exact K64.Txt.x_NoRoom_NoNumber (by assumption) | exact K64.Txt.x_NoRoom_NoRoom (by assumption) | exact K64.Txt.x_NoNumber_NoNumber (by assumption) | exact K64.Txt.x_NoNumber_NoRoom (by assumption) | exact K64.Txt.x_Wrong_NoNumber (by assumption) | exact K64.Txt.x_Wrong_NoRoom (by assumption))
local macro_rules | `(tactic| walk_at "hk") => `(tactic| first | fail)

local macro_rules | `(tactic| walk_at "kr") => `(tactic| first | (guard_target =~ KW.uGet _ _ _ _ _; refine ST.get_p (by assumption) (by rfl) (by walk_at "hc") (by decide) (by rfl) ?_) | (guard_target =~ KW.uMet.uMt _ _ _ _ _ _ _ _ _; refine ST.met_p (by assumption) (by rfl) (by decide) ?_))
section
variable {P : Program} {w : World} {K : Frag} {mg : Str → Option Value} {base : Heap} {a : Ads}
theorem ok__law_space (T : Txt P w K mg a) : Cal P w K mg base 5 "_law_space" (spSpaceL a.Space a.Store) := by
  have C__law_is := ok__law_is (P := P) (w := w) (base := base) T
  have I_Space := ok_Space_init (P := P) (w := w) (base := base) T
  have M_Space_new := ok_Space_new (P := P) (w := w) (base := base) T
  have M_Store_put := ok_Store_put (P := P) (w := w) (base := base) T
  have M_Space_set_root := ok_Space_set_root (P := P) (w := w) (base := base) T
  have M_Space_hold := ok_Space_hold (P := P) (w := w) (base := base) T
  refine T.d__law_space.ok sc__law_space (fun vs H Q E h => ?_) (fun f cdv A outer s H vs Q E hr h => ⟨_, (pss_cons (ps_set (i := 2) sc__law_space.nd rfl (Or.inl rfl) (kmk 0 I_Space (hr.mono (by decide)) (pa_cons pe_int (pa_cons pe_int pa_nil))))
      (pss_cons (k_for (passes_of rfl) rfl (pi_range1 (by rfl) T.n_range (pa_cons (pe_callB c_len (by rfl) T.n_len (by decide +kernel) (pa_cons (kv 0) pa_nil)) pa_nil)) (pg_name (i := 3) sc__law_space.nd rfl (Or.inl rfl))
      (pss_one (ps_if (pt_not (kt (kc C__law_is (hr.mono (by decide)) (pa_cons (km M_Space_new (hr.mono (by decide)) (kv 2) (pa_cons (pe_ix o_ix (pe_ix o_ix (kv 0) (kv 3) (fun _ _ => rfl)) pe_int (fun _ _ => rfl)) (pa_cons (pe_op o_sub (pe_callB c_len (by rfl) T.n_len (by decide +kernel) (pa_cons (pe_ix o_ix (kv 0) (kv 3) (fun _ _ => rfl)) pa_nil)) pe_int) pa_nil))) (pa_cons (kv 3) pa_nil)))))
      (pss_one (ps_ret pe_non))
      pss_nil)))
      (pss_cons (k_for (passes_of rfl) rfl (pi_range1 (by rfl) T.n_range (pa_cons (pe_callB c_len (by rfl) T.n_len (by decide +kernel) (pa_cons (kv 0) pa_nil)) pa_nil)) (pg_name (i := 3) sc__law_space.nd rfl (Or.inl rfl))
      (pss_one (k_for (passes_of rfl) rfl (pi_range1 (by rfl) T.n_range (pa_cons (pe_op o_sub (pe_callB c_len (by rfl) T.n_len (by decide +kernel) (pa_cons (pe_ix o_ix (kv 0) (kv 3) (fun _ _ => rfl)) pa_nil)) pe_int) pa_nil)) (pg_name (i := 4) sc__law_space.nd rfl (Or.inl rfl))
      (pss_one (ps_expr (km M_Store_put (hr.mono (by decide)) (k_fld (kv 2) rfl) (pa_cons (kv 3) (pa_cons (kv 4) (pa_cons (pe_ix o_ix (pe_ix o_ix (kv 0) (kv 3) (fun _ _ => rfl)) (pe_op o_add (kv 4) pe_int) (fun _ _ => rfl)) pa_nil)))))))))
      (pss_cons (k_for (passes_of rfl) rfl (pi_range1 (by rfl) T.n_range (pa_cons (pe_callB c_len (by rfl) T.n_len (by decide +kernel) (pa_cons (kv 1) pa_nil)) pa_nil)) (pg_name (i := 3) sc__law_space.nd rfl (Or.inl rfl))
      (pss_one (ps_if (pt_cmpR o_lt (kv 3) pe_int (nomark _))
      (pss_one (ps_expr (km M_Space_set_root (hr.mono (by decide)) (kv 2) (pa_cons (kv 3) (pa_cons (pe_ix o_ix (kv 1) (kv 3) (fun _ _ => rfl)) pa_nil)))))
      (pss_one (ps_expr (km M_Space_hold (hr.mono (by decide)) (kv 2) (pa_cons (pe_ix o_ix (kv 1) (kv 3) (fun _ _ => rfl)) pa_nil)))))))
      (pss_one (ps_ret (kv 2))))))), ?_⟩)
  · obtain ⟨_, _, _, _, rfl, _⟩ := h; rfl
  · obtain ⟨l, wo, Ls, ws, rfl, hL, lL, bL, W, w1, w2, h⟩ := h
    walk_at "kk"
    intro sp dx hs hd hne
    refine ⟨sp, dx, rfl, upd_same, fun d H1 e1 _ _ e4 e5 e6 Z f1 hf => ⟨rfl, ?_⟩⟩
    have F1 : KW.Fr [] H H1 := Fr.frs ((Fr.new (o := .own sp) hd).trans (Fr.new (by rw [upd_ne (Ne.symm hne)]; exact hs))) f1 (by simp; exact hs)
    have P1 : ∀ x ∈ fpP d, H x = none := fun x hx => by
      by_cases c : x = sp
      · rw [c]; exact hs
      · have := hf x hx c
        rw [upd_ne c] at this
        exact ne_un this
    clear f1 hf
    subst e1
    have L1 := hL.fr0 F1
    have li1 := L1.li
    obtain ⟨Q1, hQ1⟩ : ∃ Q1 : Nat → L2.St → Hp → Prop, Q1 = fun i σ H' => ∃ (d' : Spd) (v3 : Option V), σ = [some (.ref l), some (.ref wo), some (.ref d'.sp), v3, none] ∧ Spc a.Space a.Store H' d' ∧ d'.R = d.R ∧ d'.L = d.L ∧ (∀ x ∈ fpP d', H x = none) ∧ KW.Fr [] H H' ∧ Bs Ls d'.B i 0 0 := ⟨_, rfl⟩
    have lm : (Ls.map fun x => V.ref x.1).length = Ls.length := List.length_map ..
    walk_at "kk"
    refine for_rng Q1 (by rw [hQ1]; exact ⟨d, _, rfl, Z, rfl, rfl, P1, F1, by rw [e4]; exact Bs.nil Ls⟩) ?_ ?_
    · intro i σ H2 hi hp
      rw [hQ1] at hp
      obtain ⟨d2, v3, rfl, Z2, eR, eL, P2, F2, B2⟩ := hp
      obtain ⟨⟨p, r⟩, hx⟩ : ∃ x, Ls[i]? = some x := ⟨_, List.getElem?_eq_getElem hi⟩
      have L2 := hL.fr0 F2
      have hv : atI (Ls.map fun x => V.ref x.1) (i : Int) = some (.ref p) := by
        have := atI_map (f := fun x : Addr × List Int => V.ref x.1) hx
        exact this
      have li2 := L2.li
      have bx := bL _ (List.mem_of_getElem? hx)
      have r2 : H2 p = some (.lst (r.map V.int)) := L2.rs _ (List.mem_of_getElem? hx)
      obtain ⟨k, r', rfl⟩ : ∃ k r', r = k :: r' := by
        cases r with
        | nil => simp at bx
        | cons k r' => exact ⟨_, _, rfl⟩
      have hv0 : atI ((k :: r').map V.int) 0 = some (.int k) := atI_map (f := V.int) (xs := k :: r') (i := 0) rfl
      have l0 : ((k :: r').map V.int).length = r'.length + 1 := by simp
      dsimp only at bx
      rw [List.length_cons] at bx
      walk_at "kk"
      have e9 : (((r'.length + 1 : Nat) : Int) - 1) = (r'.length : Nat) := by omega
      try rw [e9]
      have bf := B2.flat (M := 21) fun x hx => (bL x hx).2
      refine new_s Z2 (by omega) fun f0 H3 fr Z3 f3 => ?_
      obtain rfl : f0 = (i : Int) := fr.uniq B2.free
      have F3 := Fr.frs F2 f3 fun x hx => P2 x (by simp at hx ⊢; rcases hx with rfl | rfl | rfl | rfl <;> simp)
      refine is_s ?_
      walk_at "kk"
      rw [hQ1]
      exact ⟨{ d2 with al := d2.al + 1, B := d2.B ++ [⟨i, k, List.replicate r'.length 0, true⟩] }, _, rfl, Z3, eR, eL, P2, F3, B2.app hx rfl (by simp)⟩
    · intro σ H2 hp
      rw [hQ1] at hp
      obtain ⟨d2, v3, rfl, Z2, eR, eL, P2, F2, B2⟩ := hp
      rw [Int.toNat_natCast] at B2
      clear hQ1 Q1
      obtain ⟨Q2, hQ2⟩ : ∃ Q2 : Nat → L2.St → Hp → Prop, Q2 = fun i σ H' => ∃ (d' : Spd) (v3 v4 : Option V), σ = [some (.ref l), some (.ref wo), some (.ref d'.sp), v3, v4] ∧ Spc a.Space a.Store H' d' ∧ d'.R = d.R ∧ d'.L = d.L ∧ (∀ x ∈ fpP d', H x = none) ∧ KW.Fr [] H H' ∧ Bs Ls d'.B Ls.length i 0 := ⟨_, rfl⟩
      have li2 := (hL.fr0 F2).li
      walk_at "kk"
      refine for_rng Q2 (by rw [hQ2]; exact ⟨d2, _, _, rfl, Z2, eR, eL, P2, F2, B2⟩) ?_ ?_
      · intro i σ H2 hi hp
        rw [hQ2] at hp
        obtain ⟨d2, v3, v4, rfl, Z2, eR, eL, P2, F2, B2⟩ := hp
        obtain ⟨⟨p, r⟩, hx⟩ : ∃ x, Ls[i]? = some x := ⟨_, List.getElem?_eq_getElem hi⟩
        have hv : atI (Ls.map fun x => V.ref x.1) (i : Int) = some (.ref p) := atI_map (f := fun x : Addr × List Int => V.ref x.1) hx
        have bx := bL _ (List.mem_of_getElem? hx)
        dsimp only at bx
        have li2 := (hL.fr0 F2).li
        have r2 : H2 p = some (.lst (r.map V.int)) := (hL.fr0 F2).rs _ (List.mem_of_getElem? hx)
        walk_at "kk"
        obtain ⟨Q3, hQ3⟩ : ∃ Q3 : Nat → L2.St → Hp → Prop, Q3 = fun at_ σ H' => ∃ (d' : Spd) (v4 : Option V), σ = [some (.ref l), some (.ref wo), some (.ref d'.sp), some (.int i), v4] ∧ Spc a.Space a.Store H' d' ∧ d'.R = d.R ∧ d'.L = d.L ∧ (∀ x ∈ fpP d', H x = none) ∧ KW.Fr [] H H' ∧ Bs Ls d'.B Ls.length i at_ := ⟨_, rfl⟩
        have en : ((r.length : Int) - 1).toNat = r.length - 1 := by omega
        rw [en]
        refine for_rng Q3 (by rw [hQ3]; exact ⟨d2, _, rfl, Z2, eR, eL, P2, F2, B2⟩) ?_ ?_
        · intro at_ σ H2 hat hp
          rw [hQ3] at hp
          obtain ⟨d2, v4, rfl, Z2, eR, eL, P2, F2, B2⟩ := hp
          have li2 := (hL.fr0 F2).li
          have r2 : H2 p = some (.lst (r.map V.int)) := (hL.fr0 F2).rs _ (List.mem_of_getElem? hx)
          obtain ⟨z, hz⟩ : ∃ z, r[at_ + 1]? = some z := ⟨_, List.getElem?_eq_getElem (by omega)⟩
          have hvz : atI (r.map V.int) ((at_ : Int) + 1) = some (.int z) := atI_map (f := V.int) (i := at_ + 1) hz
          obtain ⟨e, he⟩ : ∃ e, d2.B[i]? = some e := ⟨_, List.getElem?_eq_getElem (by rw [B2.len]; exact hi)⟩
          obtain ⟨q1, q2, q3, q4, q5, q6⟩ := B2.e _ e _ he hx
          dsimp only at q4
          obtain ⟨⟨dxs, los, obs, _⟩, _⟩ := Z2.S
          walk_at "kk"
          refine put_s (j := at_) (z := z) Z2.S he q2 q1 (by omega) fun H3 S3 f3 => ?_
          have B3 := B2.put hx he hz
          have bf := B3.flat (M := 21) fun x hx => (bL x hx).2
          have Z3 := Z2.word S3 f3 (by omega)
          have F3 := Fr.frs F2 f3 fun x hx => P2 x (by simp at hx ⊢; simp [hx])
          walk_at "kk"
          rw [hQ3]
          exact ⟨{ d2 with B := d2.B.set i { e with s := e.s.set at_ z } }, _, rfl, Z3, eR, eL, P2, F3, B3⟩
        · intro σ H2 hp
          rw [hQ3] at hp
          obtain ⟨d2, v4, rfl, Z2, eR, eL, P2, F2, B2⟩ := hp
          walk_at "kk"
          rw [hQ2]
          exact ⟨d2, _, _, rfl, Z2, eR, eL, P2, F2, B2.next hx (by omega)⟩
      · intro σ H2 hp
        rw [hQ2] at hp
        obtain ⟨d2, v3, v4, rfl, Z2, eR, eL, P2, F2, B2⟩ := hp
        rw [Int.toNat_natCast] at B2
        clear hQ2 Q2
        have W2 : H2 wo = some (.lst (ws.map V.int)) := F2 _ _ (by simp) W
        have bf := B2.flat (M := 21) fun x hx => (bL x hx).2
        walk_at "kk"
        rw [Int.toNat_natCast]
        obtain ⟨Q4, hQ4⟩ : ∃ Q4 : Nat → L2.St → Hp → Prop, Q4 = fun k σ H' => ∃ (d' : Spd) (v3 v4 : Option V), σ = [some (.ref l), some (.ref wo), some (.ref d'.sp), v3, v4] ∧ Spc a.Space a.Store H' d' ∧ d'.B = d2.B ∧ (∀ x ∈ fpP d', H x = none) ∧ KW.Fr [] H H' ∧ Ws ws d'.R d'.L k := ⟨_, rfl⟩
        refine for_rng Q4 (by rw [hQ4]; exact ⟨d2, _, _, rfl, Z2, rfl, P2, F2, by rw [eR, eL, e5, e6]; exact Ws.init ws⟩) ?_ ?_
        · intro k σ H3 hk hp
          rw [hQ4] at hp
          obtain ⟨d3, v3, v4, rfl, Z3, eB, P3, F3, V3⟩ := hp
          have W3 : H3 wo = some (.lst (ws.map V.int)) := F3 _ _ (by simp) W
          obtain ⟨z, hz⟩ : ∃ z, ws[k]? = some z := ⟨_, List.getElem?_eq_getElem hk⟩
          have hv : atI (ws.map V.int) (k : Int) = some (.int z) := atI_map hz
          walk_at "kk"
          split
          · rename_i c
            walk_at "kk"
            refine setRoot_s Z3 (by omega) fun H4 Z4 f4 => ?_
            have F4 := Fr.frs F3 f4 fun x hx => P3 x (by simp at hx ⊢; simp [hx])
            walk_at "kk"
            rw [hQ4]
            exact ⟨{ d3 with R := d3.R.set k z }, _, _, rfl, Z4, eB, P3, F4, V3.root hz (by omega)⟩
          · rename_i c
            walk_at "kk"
            have l9 : d3.L.length < 1000 := by rw [V3.l, List.length_drop, List.length_take]; omega
            refine hold_s Z3 l9 fun H4 Z4 f4 => ?_
            have F4 := Fr.frs F3 f4 fun x hx => P3 x (by simp at hx ⊢; simp [hx])
            walk_at "kk"
            rw [hQ4]
            exact ⟨{ d3 with L := d3.L ++ [z] }, _, _, rfl, Z4, eB, P3, F4, V3.hold hz (by omega)⟩
        · intro σ H3 hp
          rw [hQ4] at hp
          obtain ⟨d3, v3, v4, rfl, Z3, eB, P3, F3, V3⟩ := hp
          walk_at "kk"
          exact h d3 H3 Z3 (by rw [eB]; exact B2.gr Z2.S.nd) (V3.done w1) (by rw [eB]; omega) F3 P3
end
end K64

set_option Elab.async false
set_option linter.all false
set_option maxRecDepth 100000
set_option maxHeartbeats 4000000
/-! SpP: paths, level by level -/
namespace ST
open PySem PySem.Spec PyProof.Rows L2 KW LamX
abbrev FP := List (Int × List Int)
abbrev WP := List (List Int × Int)
abbrev keysF (F : FP) : List Int := F.map fun x => x.1
def ext (p row : List Int) : WP := (List.range row.length).map fun (k : Nat) => (p ++ [(k : Int)], row.getD k 0)
def extg (g : Gr) (x : Int × List Int) : WP := ext x.2 ((g x.1).getD [])
def bnew (g : Gr) : List Int → WP → FP
  | _, [] => []
  | K, (p, w) :: W => if w % 2 = 0 ∧ w / 2 ∉ K ∧ (g (w / 2)).isSome = true then (w / 2, p) :: bnew g (K ++ [w / 2]) W else bnew g K W
def lvl (g : Gr) (s : FP × WP) : FP × WP := (s.1 ++ bnew g (keysF s.1) s.2, (bnew g (keysF s.1) s.2).flatMap (extg g))
def run (g : Gr) (R : List Int) : Nat → FP × WP
  | 0 => ([], ext [] R)
  | k + 1 => lvl g (run g R k)
theorem bnew_app (g : Gr) : ∀ (A : WP) (K : List Int) (B : WP), bnew g K (A ++ B) = bnew g K A ++ bnew g (K ++ keysF (bnew g K A)) B
  | [], K, B => by simp [bnew]
  | (p, w) :: A, K, B => by
    rw [List.cons_append, bnew, bnew]
    split
    · rw [bnew_app g A, List.cons_append, List.append_assoc]; rfl
    · rw [bnew_app g A]
theorem bnew_one (g : Gr) (K : List Int) (p : List Int) (w : Int) : bnew g K [(p, w)] = if w % 2 = 0 ∧ w / 2 ∉ K ∧ (g (w / 2)).isSome = true then [(w / 2, p)] else [] := by
  rw [bnew]; split <;> simp [bnew]
theorem bnew_sub (g : Gr) : ∀ (W : WP) (K : List Int), ((bnew g K W).map fun x => x.2).Sublist (W.map fun y => y.1)
  | [], K => by simp [bnew]
  | (p, w) :: W, K => by
    rw [bnew]
    split
    · exact (bnew_sub g W _).cons₂ p
    · exact (bnew_sub g W _).cons p
theorem bnew_mem {g : Gr} {W : WP} {K : List Int} {x : Int × List Int} (h : x ∈ bnew g K W) : ∃ w, (x.2, w) ∈ W ∧ w % 2 = 0 ∧ w / 2 = x.1 ∧ (g x.1).isSome = true := by
  induction W generalizing K with
  | nil => cases h
  | cons y W ih =>
    obtain ⟨p, w⟩ := y
    rw [bnew] at h
    split at h
    · rename_i c
      rcases List.mem_cons.mp h with q | q
      · subst q; exact ⟨w, by simp, c.1, rfl, c.2.2⟩
      · obtain ⟨v, h1, h2⟩ := ih q
        exact ⟨v, by simp [h1], h2⟩
    · obtain ⟨v, h1, h2⟩ := ih h
      exact ⟨v, by simp [h1], h2⟩
theorem bnew_nd {g : Gr} {W : WP} {K : List Int} (h : K.Nodup) : (K ++ keysF (bnew g K W)).Nodup := by
  induction W generalizing K with
  | nil => simpa [bnew] using h
  | cons y W ih =>
    obtain ⟨p, w⟩ := y
    rw [bnew]
    split
    · rename_i c
      have : (K ++ [w / 2]).Nodup := by
        rw [List.nodup_append]
        exact ⟨h, by simp, fun a ha b hb z => by simp at hb; subst hb; subst z; exact c.2.1 ha⟩
      have := ih this
      rwa [List.append_assoc] at this
    · exact ih h
theorem ext_len (p row : List Int) : (ext p row).length = row.length := by unfold ext; rw [List.length_map, List.length_range]
theorem ext_mem {p row : List Int} {y : List Int × Int} (h : y ∈ ext p row) : ∃ k : Nat, k < row.length ∧ y.1 = p ++ [(k : Int)] ∧ row[k]? = some y.2 := by
  unfold ext at h
  obtain ⟨k, hk, rfl⟩ := List.mem_map.mp h
  rw [List.mem_range] at hk
  exact ⟨k, hk, rfl, by rw [List.getD_eq_getElem?_getD, List.getElem?_eq_getElem hk]; rfl⟩
theorem ext_words (p row : List Int) : (ext p row).map (fun y => y.2) = row := by
  unfold ext
  rw [List.map_map]
  apply List.ext_getElem?
  intro i
  rw [List.getElem?_map]
  by_cases c : i < row.length
  · rw [List.getElem?_range c, List.getElem?_eq_getElem c]
    simp [List.getD_eq_getElem?_getD, List.getElem?_eq_getElem c]
  · rw [List.getElem?_eq_none (by rw [List.length_range]; omega), List.getElem?_eq_none (by omega)]; rfl
theorem ext_snoc (p row : List Int) {k : Nat} {z : Int} (h : row[k]? = some z) : (ext p row).take (k + 1) = (ext p row).take k ++ [(p ++ [(k : Int)], z)] := by
  refine take_s ?_
  have lk := (List.getElem?_eq_some_iff.mp h).1
  unfold ext
  rw [List.getElem?_map, List.getElem?_range lk]
  simp [List.getD_eq_getElem?_getD, h]
/-- one path before another -/
def LtP (p q : List Int) : Prop := ∃ (pre : List Int) (x y : Int) (r r' : List Int), p = pre ++ x :: r ∧ q = pre ++ y :: r' ∧ x < y
theorem LtP.snoc {p q a b : List Int} (h : LtP p q) : LtP (p ++ a) (q ++ b) := by
  obtain ⟨pre, x, y, r, r', rfl, rfl, h⟩ := h
  exact ⟨pre, x, y, r ++ a, r' ++ b, by simp, by simp, h⟩
theorem ext_srt (p row : List Int) : (ext p row).Pairwise fun a b => LtP a.1 b.1 := by
  unfold ext
  rw [List.pairwise_map]
  exact List.pairwise_lt_range.imp fun {i j} h => ⟨p, i, j, [], [], rfl, rfl, by omega⟩
theorem DW.congr {g : Gr} {R F W W' : List Int} (d : DW g R F W) (h : ∀ w, w ∈ W ↔ w ∈ W') : DW g R F W' where
  sF := d.sF
  sW := fun w hw => d.sW w ((h w).mpr hw)
  ro := fun w hw e r hr => (d.ro w hw e r hr).imp id (h w).mp
  cl := fun n hn r hr w hw e r' hr' => (d.cl n hn r hr w hw e r' hr').imp id (h w).mp
  nd := d.nd
abbrev wdsP (W : WP) : List Int := W.map fun y => y.2
theorem dw_lvl {g : Gr} {R : List Int} : ∀ (W : WP) (K L : List Int), DW g R K (wdsP W ++ L) → DW g R (K ++ keysF (bnew g K W)) (L ++ wdsP ((bnew g K W).flatMap (extg g)))
  | [], K, L, d => by simpa [bnew] using d
  | (p, w) :: W, K, L, d => by
    have d1 : DW g R K ((wdsP W ++ L) ++ [w]) := d.congr fun v => by simp; grind
    rw [bnew]
    split
    · rename_i c
      obtain ⟨r, hr⟩ := Option.isSome_iff_exists.mp c.2.2
      have d2 := d1.take c.1 hr c.2.1
      have := dw_lvl W (K ++ [w / 2]) (L ++ r) (d2.congr fun v => by simp [or_assoc])
      rw [List.append_assoc] at this
      refine this.congr fun v => ?_
      rw [List.flatMap_cons]
      unfold wdsP
      rw [List.map_append]
      have : (extg g (w / 2, p)).map (fun y => y.2) = r := by unfold extg; rw [hr]; exact ext_words _ _
      rw [this]
      simp [or_assoc]
    · rename_i c
      refine dw_lvl W K L (d1.skip fun e r hr => ?_)
      by_cases m : w / 2 ∈ K
      · exact m
      · exact absurd ⟨e, m, by rw [hr]; rfl⟩ c
structure RunOk (g : Gr) (R : List Int) (k : Nat) (s : FP × WP) : Prop where
  len : ∀ y ∈ s.2, y.1.length = k + 1
  flen : ∀ x ∈ s.1, 1 ≤ x.2.length ∧ x.2.length ≤ k
  srt : s.2.Pairwise fun a b => LtP a.1 b.1
  dw : DW g R (keysF s.1) (wdsP s.2)
theorem run_ok (g : Gr) (R : List Int) : ∀ k, RunOk g R k (run g R k)
  | 0 => by
    refine ⟨fun y hy => ?_, (fun x hx => by cases hx), ext_srt _ _, ?_⟩
    · obtain ⟨k, _, h, _⟩ := ext_mem hy
      rw [h]; rfl
    · show DW g R [] (wdsP (ext [] R))
      unfold wdsP
      rw [ext_words]; exact .init g R
  | k + 1 => by
    have ih := run_ok g R k
    show RunOk g R (k + 1) (lvl g (run g R k))
    generalize run g R k = s at ih ⊢
    unfold lvl
    have nl : ∀ x ∈ bnew g (keysF s.1) s.2, x.2.length = k + 1 := fun x hx => by
      obtain ⟨w, h, _⟩ := bnew_mem hx
      exact ih.len _ h
    refine ⟨fun y hy => ?_, fun x hx => ?_, ?_, ?_⟩
    · obtain ⟨x, hx, hy⟩ := List.mem_flatMap.mp hy
      obtain ⟨j, _, h, _⟩ := ext_mem hy
      rw [h, List.length_append, nl x hx]; rfl
    · rcases List.mem_append.mp hx with q | q
      · have := ih.flen x q; omega
      · have := nl x q; omega
    · rw [List.pairwise_flatMap]
      refine ⟨fun x hx => ext_srt _ _, ?_⟩
      have h1 : ((bnew g (keysF s.1) s.2).map fun x => x.2).Pairwise LtP := by
        refine List.Pairwise.sublist (bnew_sub g s.2 (keysF s.1)) ?_
        rw [List.pairwise_map]; exact ih.srt
      rw [List.pairwise_map] at h1
      refine h1.imp fun {a b} h x hx y hy => ?_
      obtain ⟨i, _, e1, _⟩ := ext_mem hx
      obtain ⟨j, _, e2, _⟩ := ext_mem hy
      rw [e1, e2]; exact h.snoc
    · have := dw_lvl s.2 (keysF s.1) [] (by simpa using ih.dw)
      simp only [List.nil_append] at this
      show DW g R ((s.1 ++ bnew g (keysF s.1) s.2).map fun x => x.1) _
      rw [List.map_append]; exact this
theorem run_fix {g : Gr} {R : List Int} {i : Nat} (h : (run g R i).2 = []) : ∀ j, i ≤ j → run g R j = run g R i := by
  intro j hj
  induction j with
  | zero => rw [show i = 0 by omega]
  | succ j ih =>
    by_cases c : i = j + 1
    · rw [c]
    · have := ih (by omega)
      show lvl g (run g R j) = _
      rw [this]
      unfold lvl
      rw [h]
      simp [bnew]
      rw [← h]
theorem run_uniq {g : Gr} {R : List Int} {i j : Nat} (h : (run g R i).2 = []) (h' : (run g R j).2 = []) : (run g R i).1 = (run g R j).1 := by
  rcases Nat.le_total i j with c | c
  · rw [run_fix h j c]
  · rw [run_fix h' i c]
theorem run_cnt (g : Gr) (R : List Int) : ∀ k, (run g R k).2 = [] ∨ k ≤ (run g R k).1.length
  | 0 => .inr (Nat.zero_le _)
  | k + 1 => by
    rcases run_cnt g R k with h | h
    · left; rw [run_fix h (k + 1) (by omega)]; exact h
    · show (lvl g (run g R k)).2 = [] ∨ k + 1 ≤ (lvl g (run g R k)).1.length
      unfold lvl
      cases e : bnew g (keysF (run g R k).1) (run g R k).2 with
      | nil => left; rfl
      | cons x N => right; simp; omega
theorem run_lenF {g : Gr} {R ks : List Int} (hk : ∀ n r, g n = some r → n ∈ ks) (k : Nat) : (run g R k).1.length ≤ ks.length := by
  have d := (run_ok g R k).dw
  have := d.nd.length_le_of_subset (l₂ := ks) fun n hn => by
    obtain ⟨r, hr⟩ := (d.sF n hn).some
    exact hk n r hr
  rwa [List.length_map] at this
theorem run_end {g : Gr} {R ks : List Int} (hk : ∀ n r, g n = some r → n ∈ ks) : (run g R (ks.length + 1)).2 = [] := by
  rcases run_cnt g R (ks.length + 1) with h | h
  · exact h
  · have := run_lenF hk (R := R) (ks.length + 1); omega
theorem run_keys {g : Gr} {R : List Int} {k : Nat} (h : (run g R k).2 = []) (n : Int) : n ∈ keysF (run g R k).1 ↔ Rg g R n := by
  have d := (run_ok g R k).dw
  rw [h] at d
  exact d.done n
/-- the law's way to the next level -/
def lext (g : Gr) (F : FP) (len : Nat) : WP := F.flatMap fun x => if x.2.length = len then extg g x else []
theorem lext_run (g : Gr) (R : List Int) (k : Nat) : lext g (run g R (k + 1)).1 (k + 1) = (run g R (k + 1)).2 := by
  have ih := run_ok g R k
  show lext g (lvl g (run g R k)).1 (k + 1) = (lvl g (run g R k)).2
  generalize run g R k = s at ih ⊢
  unfold lvl lext
  rw [List.flatMap_append]
  have h1 : (s.1.flatMap fun x => if x.2.length = k + 1 then extg g x else []) = [] := by
    rw [List.flatMap_eq_nil_iff]
    intro x hx
    rw [if_neg (by have := ih.flen x hx; omega)]
  rw [h1, List.nil_append]
  have nl : ∀ x ∈ bnew g (keysF s.1) s.2, x.2.length = k + 1 := fun x hx => by
    obtain ⟨w, h, _⟩ := bnew_mem hx
    exact ih.len _ h
  generalize bnew g (keysF s.1) s.2 = N at nl
  induction N with
  | nil => rfl
  | cons x N ih2 =>
    rw [List.flatMap_cons, List.flatMap_cons, if_pos (nl x (by simp)), ih2 fun y hy => nl y (by simp [hy])]
def encP (p : List Int) (w : Int) : PyData := .tuple [.tuple (p.map .int), .int w]
theorem toks_app : ∀ (pre : List Int) (r : List Int), ∃ T, PySem.W.keyToksAll ((pre ++ r).map .int) = T ++ PySem.W.keyToksAll (r.map .int) ∧ ∀ r' : List Int, PySem.W.keyToksAll ((pre ++ r').map .int) = T ++ PySem.W.keyToksAll (r'.map .int)
  | [], r => ⟨[], rfl, fun _ => rfl⟩
  | x :: pre, r => by
    obtain ⟨T, h1, h2⟩ := toks_app pre r
    have e : ∀ t : List Int, PySem.W.keyToksAll ((x :: pre ++ t).map .int) = .inl 1 :: .inl x :: PySem.W.keyToksAll ((pre ++ t).map .int) := fun t => by
      rw [List.cons_append, List.map_cons, PySem.W.keyToksAll]; simp [PySem.W.keyToks]
    refine ⟨.inl 1 :: .inl x :: T, by rw [e, h1]; rfl, fun r' => by rw [e, h2]; rfl⟩
theorem lt_data {p q : List Int} {w v : Int} (h : LtP p q) : PySem.W.dataLt (encP q v) (encP p w) = false := by
  obtain ⟨pre, x, y, r, r', rfl, rfl, hlt⟩ := h
  obtain ⟨T, h1, h2⟩ := toks_app pre (x :: r)
  have h2 := h2 (y :: r')
  have e : ∀ (q : List Int) (v : Int), PySem.W.keyToks (encP q v) = [.inl 1] ++ (PySem.W.keyToksAll (q.map .int) ++ PySem.W.keyToksAll [.int v]) := fun q v => by
    unfold encP
    rw [PySem.W.keyToks, PySem.W.keyToksAll, PySem.W.keyToks]; rfl
  have e2 : ∀ (z : Int) (t : List Int), PySem.W.keyToksAll ((z :: t).map .int) = [.inl 1] ++ (.inl z :: PySem.W.keyToksAll (t.map .int)) := fun z t => by
    rw [List.map_cons, PySem.W.keyToksAll]; simp [PySem.W.keyToks]
  unfold PySem.W.dataLt
  rw [e, e, h1, h2, e2, e2, PySem.W.lex_pre]
  simp only [List.append_assoc, List.cons_append, List.nil_append]
  rw [PySem.W.lex_pre]
  refine (PySem.W.lex_pre [.inl 1] (.inl y :: _) (.inl x :: _)).trans ?_
  refine (PySem.W.lex_atom (by intro z; injection z with z; omega) _ _).trans ?_
  show PySem.W.dataLt (.int y) (.int x) = false
  rw [PySem.W.dataLt_int]; simp; omega
end ST

set_option Elab.async false
set_option linter.all false
set_option maxRecDepth 100000
set_option maxHeartbeats 4000000
/-! SpQ: waiting pairs and found paths in the heap; words at the end of paths; promises -/
namespace ST
open PySem PySem.Spec PyProof.Rows L2 KW LamX
structure PT where
  p : List Int
  w : Int
  q : Addr
  pa : Addr
def PT.at (H : Hp) (t : PT) : Prop := H t.q = some (.tup [.ref t.pa, .int t.w]) ∧ H t.pa = some (.tup (t.p.map V.int))
abbrev wpT (Ts : List PT) : WP := Ts.map fun t => (t.p, t.w)
structure Wt (H : Hp) (wl : Addr) (Ts : List PT) : Prop where
  li : H wl = some (.lst (Ts.map fun t => .ref t.q))
  tt : ∀ t ∈ Ts, t.at H
theorem PT.at.fr {H H' : Hp} {t : PT} {l : List Addr} (s : t.at H) (f : KW.Fr l H H') (h1 : t.q ∉ l) (h2 : t.pa ∉ l) : t.at H' := ⟨f _ _ h1 s.1, f _ _ h2 s.2⟩
theorem PT.at.fr0 {H H' : Hp} {t : PT} (s : t.at H) (f : KW.Fr [] H H') : t.at H' := s.fr f (by simp) (by simp)
theorem PT.at.ne {H : Hp} {t : PT} {a : Addr} {o : HO} (s : t.at H) (h : H a = some o) (n : ∀ xs, o ≠ .tup xs) : t.q ≠ a ∧ t.pa ≠ a := by
  constructor
  · intro z; have := s.1; rw [z, h] at this; exact n _ (Option.some.inj this)
  · intro z; have := s.2; rw [z, h] at this; exact n _ (Option.some.inj this)
theorem Wt.fr0 {H H' : Hp} {wl : Addr} {Ts : List PT} (s : Wt H wl Ts) (f : KW.Fr [] H H') : Wt H' wl Ts := ⟨f _ _ (by simp) s.li, fun t h => (s.tt t h).fr0 f⟩
structure Fd (H : Hp) (l : Addr) (D : List RW) : Prop where
  dc : H l = some (.dK (kvR D))
  tp : ∀ d ∈ D, H d.a = some (.tup (d.r.map V.int))
  nd : (nsR D).Nodup
theorem Fd.fr0 {H H' : Hp} {l : Addr} {D : List RW} (s : Fd H l D) (f : KW.Fr [] H H') : Fd H' l D := ⟨f _ _ (by simp) s.dc, fun d h => f _ _ (by simp) (s.tp d h), s.nd⟩
theorem Fd.nil {H : Hp} {l : Addr} (h : H l = some (.dK [])) : Fd H l [] := ⟨h, (fun d h => by cases h), List.nodup_nil⟩
/-- one more path -/
theorem Fd.put {H : Hp} {l : Addr} {D : List RW} {n : Int} {t : PT} (s : Fd H l D) (ht : t.at H) (hn : n ∉ nsR D) : Fd (upd H l (.dK (putK (kvR D) (.inl n) (.ref t.pa)))) l (D ++ [⟨n, t.p, t.pa⟩]) := by
  have e : putK (kvR D) (.inl n) (.ref t.pa) = kvR (D ++ [⟨n, t.p, t.pa⟩]) := by rw [kvR_put D n t.pa t.p, putR_new (e := ⟨n, t.p, t.pa⟩) hn]
  have nt : ∀ {a : Addr} {xs : List V}, H a = some (.tup xs) → a ≠ l := fun h z => by rw [z, s.dc] at h; cases h
  refine ⟨by rw [upd_same, e], fun d hd => ?_, ?_⟩
  · rcases List.mem_append.mp hd with q | q
    · rw [upd_ne (nt (s.tp d q))]; exact s.tp d q
    · simp at q; subst q
      rw [upd_ne (nt ht.2)]; exact ht.2
  · unfold nsR
    rw [List.map_append, List.nodup_append]
    exact ⟨s.nd, by simp, fun a ha b hb z => by simp at hb; subst hb; subst z; exact hn ha⟩
theorem keysF_nr (D : List RW) : keysF (nrR D) = nsR D := by unfold keysF nrR nsR; rw [List.map_map]; rfl
def optV : Option Int → V
  | none => .non
  | some w => .int w
def ixP (row : List Int) (k : Int) : Option Int := if 0 ≤ k then row[k.toNat]? else none
def stepG (g : Gr) (w : Int) : Option (List Int) := if w % 2 = 0 then g (w / 2) else none
/-- the word at the end of a path -/
def wa (g : Gr) : List Int → List Int → Option Int
  | _, [] => none
  | row, k :: ks => match ks with
    | [] => ixP row k
    | _ :: _ => (ixP row k).bind fun w => (stepG g w).bind fun r => wa g r ks
theorem wa_one (g : Gr) (row : List Int) (k : Int) : wa g row [k] = ixP row k := by rw [wa]
theorem wa_more (g : Gr) (row : List Int) (k : Int) {ks : List Int} (h : ks ≠ []) : wa g row (k :: ks) = (ixP row k).bind fun w => (stepG g w).bind fun r => wa g r ks := by
  cases ks with
  | nil => exact absurd rfl h
  | cons a b => rw [wa]
theorem wa_mem {g : Gr} : ∀ {path row : List Int} {w : Int}, wa g row path = some w → w ∈ row ∨ ∃ n r, g n = some r ∧ w ∈ r
  | [], row, w, h => by simp [wa] at h
  | [k], row, w, h => by
    rw [wa_one] at h
    unfold ixP at h
    split at h
    · exact .inl (List.mem_of_getElem? h)
    · cases h
  | k :: k2 :: ks, row, w, h => by
    rw [wa_more g row k (by simp)] at h
    obtain ⟨v, h1, h2⟩ := Option.bind_eq_some_iff.mp h
    obtain ⟨r, h3, h4⟩ := Option.bind_eq_some_iff.mp h2
    unfold stepG at h3
    split at h3
    · rcases wa_mem h4 with q | q
      · exact .inr ⟨_, r, h3, q⟩
      · exact .inr q
    · cases h3
/-- the walk as it goes on -/
def WaSt (g : Gr) (R path : List Int) (k : Nat) (v : V) : Prop :=
  (k = 0 → v = .non) ∧ (0 < k → ∃ w, v = .int w ∧ (path.drop k = [] → wa g R path = some w) ∧ (path.drop k ≠ [] → wa g R path = (stepG g w).bind fun r => wa g r (path.drop k)))
theorem WaSt.stop {g : Gr} {R path : List Int} {k : Nat} {w : Int} (h : WaSt g R path k (.int w)) (k0 : 0 < k) (hk : k < path.length) (hs : stepG g w = none) : wa g R path = none := by
  obtain ⟨v, e, _, h2⟩ := h.2 k0
  cases e
  rw [h2 (by intro z; have := congrArg List.length z; simp at this; omega), hs]; rfl
/-- one step: the row is there -/
theorem WaSt.step {g : Gr} {R path row : List Int} {k : Nat} {v : V} {z : Int} (h : WaSt g R path k v) (hk : path[k]? = some z) (hr : (k = 0 ∧ row = R) ∨ (0 < k ∧ ∃ w, v = .int w ∧ stepG g w = some row)) :
    (ixP row z = none → wa g R path = none) ∧ ∀ w', ixP row z = some w' → WaSt g R path (k + 1) (.int w') := by
  have lk := (List.getElem?_eq_some_iff.mp hk).1
  have ed : path.drop k = z :: path.drop (k + 1) := by
    rw [List.drop_eq_getElem_cons lk]
    have := (List.getElem?_eq_some_iff.mp hk).2
    rw [this]
  have key : wa g R path = wa g row (path.drop k) := by
    rcases hr with ⟨rfl, rfl⟩ | ⟨k0, w, rfl, hs⟩
    · rfl
    · obtain ⟨v, e, _, h2⟩ := h.2 k0
      cases e
      rw [h2 (by rw [ed]; simp), hs]; rfl
  rw [ed] at key
  by_cases c : path.drop (k + 1) = []
  · rw [c, wa_one] at key
    exact ⟨fun e => by rw [key, e], fun w' e => ⟨fun z => by omega, fun _ => ⟨w', rfl, fun _ => by rw [key, e], fun n => absurd c n⟩⟩⟩
  · rw [wa_more g row z c] at key
    exact ⟨fun e => by rw [key, e]; rfl, fun w' e => ⟨fun z => by omega, fun _ => ⟨w', rfl, fun n => absurd n c, fun _ => by rw [key, e]; rfl⟩⟩⟩
theorem WaSt.init (g : Gr) (R path : List Int) : WaSt g R path 0 .non := ⟨fun _ => rfl, fun h => by omega⟩
theorem WaSt.done {g : Gr} {R path : List Int} {v : V} (h : WaSt g R path path.length v) : v = optV (wa g R path) := by
  by_cases c : path.length = 0
  · rw [h.1 c]
    have : path = [] := List.length_eq_zero_iff.mp c
    subst this; rfl
  · obtain ⟨w, e, h1, _⟩ := h.2 (by omega)
    rw [e, h1 (List.drop_length ..)]; rfl
/-- a list or a tuple of ints -/
def SqI (H : Hp) (p : Addr) (xs : List Int) : Prop := H p = some (.lst (xs.map V.int)) ∨ H p = some (.tup (xs.map V.int))
theorem SqI.fr0 {H H' : Hp} {p : Addr} {xs : List Int} (s : SqI H p xs) (f : KW.Fr [] H H') : SqI H' p xs := s.imp (f _ _ (by simp)) (f _ _ (by simp))
theorem ucat_t {K : Frag} {H : Hp} {a b : Addr} {xs ys : List V} {Q : VK} (h : H a = some (.tup xs)) (h2 : H b = some (.tup ys)) (n1 : xs ≠ []) (n2 : ys ≠ []) (z : xs.length + ys.length ≤ sizeLine) (q : ∀ p, H p = none → Q (.ref p) (upd H p (.tup (xs ++ ys)))) : uAdd K (.ref a) (.ref b) H Q :=
  .inr ⟨a, b, xs, ys, rfl, rfl, .of h, .of h2, n1, z, fun e => absurd e n2, fun _ => q⟩
theorem PT.at.upd {H : Hp} {t : PT} {a : Addr} {o o' : HO} (s : t.at H) (h : H a = some o) (n : ∀ xs, o ≠ .tup xs) : t.at (L2.upd H a o') := by
  obtain ⟨h1, h2⟩ := s.ne h n
  exact ⟨by rw [upd_ne h1]; exact s.1, by rw [upd_ne h2]; exact s.2⟩
theorem Wt.upd {H : Hp} {wl a : Addr} {Ts : List PT} {o o' : HO} (s : Wt H wl Ts) (h : H a = some o) (n : ∀ xs, o ≠ .tup xs) (na : wl ≠ a) : Wt (L2.upd H a o') wl Ts :=
  ⟨by rw [upd_ne na]; exact s.li, fun t m => (s.tt t m).upd h n⟩
theorem Fd.upd {H : Hp} {l a : Addr} {D : List RW} {o o' : HO} (s : Fd H l D) (h : H a = some o) (n : ∀ xs, o ≠ .tup xs) (na : l ≠ a) : Fd (L2.upd H a o') l D :=
  ⟨by rw [upd_ne na]; exact s.dc, fun d m => by rw [upd_ne (fun z => by have := s.tp d m; rw [z, h] at this; exact n _ (Option.some.inj this))]; exact s.tp d m, s.nd⟩
theorem Wt.ext {H : Hp} {wl el : Addr} {Ts T3 : List PT} (s : Wt H wl Ts) (u : Wt H el T3) : Wt (L2.upd H wl (.lst (Ts.map (fun t => .ref t.q) ++ T3.map fun t => .ref t.q))) wl (Ts ++ T3) := by
  refine ⟨by rw [upd_same, List.map_append], fun t m => ?_⟩
  rcases List.mem_append.mp m with m | m
  · exact (s.tt t m).upd s.li (by simp)
  · exact (u.tt t m).upd s.li (by simp)
theorem lenL {g : Gr} {ks : List Int} (hk : ∀ n r, g n = some r → n ∈ ks) : ∀ (W : WP) (K : List Int), ((bnew g K W).flatMap (extg g)).length + potG g (K ++ keysF (bnew g K W)) ks ≤ potG g K ks
  | [], K => by simp [bnew]
  | (p, w) :: W, K => by
    rw [bnew]
    split
    · rename_i c
      obtain ⟨r, hr⟩ := Option.isSome_iff_exists.mp c.2.2
      have h1 := potG_lt (ks := ks) hr c.2.1 (hk _ _ hr)
      have h2 := lenL hk W (K ++ [w / 2])
      rw [List.flatMap_cons, List.length_append]
      have e : (extg g (w / 2, p)).length = r.length := by unfold extg; rw [ext_len, hr]; rfl
      rw [e]
      rw [List.append_assoc] at h2
      show r.length + _ + potG g (K ++ (w / 2) :: keysF (bnew g (K ++ [w / 2]) W)) ks ≤ _
      simp only [List.cons_append, List.nil_append] at h2
      omega
    · exact lenL hk W K
theorem gB_nums {B : List Blk} (n : Int) (r : List Int) (h : gB B n = some r) : n ∈ nums B := by
  rw [mem_nums, ← gB_lv, h]; rfl
theorem Wt.pair {H : Hp} {Dn p1 p2 : Addr} {Ts : List PT} {p : List Int} {w : Int} (s : Wt H Dn Ts) (h1 : H p1 = some (.tup (p.map V.int))) (h2 : H p2 = Option.none) :
    H Dn = some (.lst (Ts.map fun t => .ref t.q)) ∧ L2.upd H p2 (.tup [.ref p1, .int w]) Dn = some (.lst (Ts.map fun t => .ref t.q)) ∧ Wt (L2.upd (L2.upd H p2 (.tup [.ref p1, .int w])) Dn (.lst ((Ts.map fun t => .ref t.q) ++ [.ref p2]))) Dn (Ts ++ [⟨p, w, p2, p1⟩]) := by
  have f : KW.Fr [] H (L2.upd H p2 (.tup [.ref p1, .int w])) := Fr.new h2
  have s2 := s.fr0 f
  have h12 : p1 ≠ p2 := ne_of_none h1 h2
  have t2 : PT.at (L2.upd H p2 (.tup [.ref p1, .int w])) ⟨p, w, p2, p1⟩ := ⟨upd_same, by dsimp only; rw [upd_ne h12]; exact h1⟩
  refine ⟨s.li, s2.li, ⟨by rw [upd_same, List.map_append]; rfl, fun t m => ?_⟩⟩
  rcases List.mem_append.mp m with m | m
  · exact (s2.tt t m).upd s2.li (by simp)
  · simp at m; subst m; exact t2.upd s2.li (by simp)
theorem potG_nil_le (g : Gr) (K : List Int) : ∀ ks : List Int, potG g K ks ≤ potG g [] ks
  | [] => Nat.le_refl _
  | n :: ks => by
    have := potG_nil_le g K ks
    unfold potG
    rw [if_neg (List.not_mem_nil)]
    split <;> omega
theorem lenB {B : List Blk} (N : Nd B) (W : WP) (K : List Int) : ((bnew (gB B) K W).flatMap (extg (gB B))).length ≤ (flat B).length := by
  have h1 := lenL (g := gB B) (ks := nums B) gB_nums W K
  have h2 := potG_nil_le (gB B) K (nums B)
  have h3 := pot_store N (.root 0)
  rw [g_root] at h3
  omega
theorem bnew_next {g : Gr} {Fq : FP} {Wq : WP} {j : Nat} {p : List Int} {w : Int} {D' : List RW} (h : Wq[j]? = some (p, w)) (e : nrR D' = Fq ++ bnew g (keysF Fq) (Wq.take j)) :
    bnew g (keysF Fq) (Wq.take (j + 1)) = bnew g (keysF Fq) (Wq.take j) ++ (if w % 2 = 0 ∧ w / 2 ∉ nsR D' ∧ (g (w / 2)).isSome = true then [(w / 2, p)] else []) := by
  rw [take_s h, bnew_app, bnew_one]
  have : keysF Fq ++ keysF (bnew g (keysF Fq) (Wq.take j)) = nsR D' := by rw [← keysF_nr, e]; unfold keysF; rw [List.map_append]
  rw [this]
theorem lext_len {g : Gr} {M : Nat} (h : ∀ n r, g n = some r → r.length ≤ M) (len : Nat) : ∀ F : FP, (lext g F len).length ≤ M * F.length
  | [] => by simp [lext]
  | x :: F => by
    have ih := lext_len h len F
    have e : lext g (x :: F) len = (if x.2.length = len then extg g x else []) ++ lext g F len := by unfold lext; rw [List.flatMap_cons]
    rw [e, List.length_append, List.length_cons, Nat.mul_succ]
    have : (if x.2.length = len then extg g x else []).length ≤ M := by
      split
      · unfold extg
        rw [ext_len]
        cases q : g x.1 with
        | none => simp
        | some r => exact h _ _ q
      · simp
    omega
/-! promises -/
def spPaths (CS C : Addr) : Sp := fun vs H Q _ => ∃ (d : Spd), vs = [.ref d.sp] ∧ Spc CS C H d ∧ ∀ l H' (D : List RW) (i : Nat), H l = none → KW.Fr [] H H' → Fd H' l D → (run (gB d.B) d.ws i).2 = [] → nrR D = (run (gB d.B) d.ws i).1 → Q (.ref l) H'
def spWordAt (CS C : Addr) : Sp := fun vs H Q _ => ∃ (d : Spd) (p : Addr) (path : List Int), vs = [.ref d.sp, .ref p] ∧ Spc CS C H d ∧ H p = some (.tup (path.map V.int)) ∧ path.length ≤ 100000 ∧ ∀ H', KW.Fr [] H H' → Q (optV (wa (gB d.B) d.ws path)) H'
/-- the law's rows and words -/
structure LE (H : Hp) (rl wo : Addr) (Ls : List (Addr × List Int)) (ws : List Int) : Prop where
  R : Rls H rl Ls
  W : IL H wo ws
  l1 : Ls.length ≤ 59
  l2 : ∀ x ∈ Ls, 1 ≤ x.2.length ∧ x.2.length ≤ 21 ∧ ∀ w ∈ x.2, Ev w
  l3 : 16 ≤ ws.length
  l4 : ws.length ≤ 20
  l5 : ∀ w ∈ ws, Ev w
theorem LE.fr0 {H H' : Hp} {rl wo : Addr} {Ls : List (Addr × List Int)} {ws : List Int} (s : LE H rl wo Ls ws) (f : KW.Fr [] H H') : LE H' rl wo Ls ws := ⟨s.R.fr0 f, f _ _ (by simp) s.W, s.l1, s.l2, s.l3, s.l4, s.l5⟩
def spWalk : Sp := fun vs H Q _ => ∃ (rl wo p : Addr) (Ls : List (Addr × List Int)) (ws path : List Int), vs = [.ref rl, .ref wo, .ref p] ∧ LE H rl wo Ls ws ∧ SqI H p path ∧ path.length ≤ 100000 ∧ ∀ H', KW.Fr [] H H' → Q (optV (wa (gL Ls) (0 :: ws) path)) H'
noncomputable def encT (Ts : List PT) : V → PyData
  | .ref a => match Ts.find? fun t => decide (t.q = a) with
    | some t => encP t.p t.w
    | none => .none
  | _ => .none
theorem map_int_inj {a b : List Int} (h : a.map V.int = b.map V.int) : a = b := by
  induction a generalizing b with
  | nil => cases b with
    | nil => rfl
    | cons y b => cases h
  | cons x a ih => cases b with
    | nil => cases h
    | cons y b =>
      simp only [List.map_cons, List.cons.injEq, V.int.injEq] at h
      rw [h.1, ih h.2]
theorem encT_at {H : Hp} {Ts : List PT} (ha : ∀ t ∈ Ts, t.at H) {t : PT} (h : t ∈ Ts) : encT Ts (.ref t.q) = encP t.p t.w := by
  cases e : Ts.find? fun x => decide (x.q = t.q) with
  | none =>
    have := List.find?_eq_none.mp e t h
    simp at this
  | some x =>
    have h1 := List.mem_of_find?_eq_some e
    have h2 : x.q = t.q := by simpa using List.find?_some e
    obtain ⟨a1, a2⟩ := ha x h1
    obtain ⟨b1, b2⟩ := ha t h
    rw [h2, b1] at a1
    simp only [Option.some.injEq, HO.tup.injEq, List.cons.injEq, V.ref.injEq, V.int.injEq, and_true] at a1
    rw [← a1.1, b2] at a2
    simp only [Option.some.injEq, HO.tup.injEq] at a2
    have h3 : encT Ts (.ref t.q) = encP x.p x.w := by simp only [encT, e]
    rw [h3, map_int_inj a2, a1.2]
theorem srt_wt {K : Frag} {H : Hp} {wl : Addr} {Ts : List PT} {Q : VK} (W : Wt H wl Ts) (hp : (wpT Ts).Pairwise fun a b => LtP a.1 b.1) (q : ∀ p, H p = none → Q (.ref p) (upd H p (.lst (Ts.map fun t => .ref t.q)))) : uSortD K [.ref wl] H Q := by
  have key : ∀ x ∈ Ts.map (fun t => V.ref t.q), ∃ t ∈ Ts, x = .ref t.q ∧ encT Ts x = encP t.p t.w := fun x hx => by
    obtain ⟨t, h, rfl⟩ := List.mem_map.mp hx
    exact ⟨t, h, rfl, encT_at W.tt h⟩
  have keyd : ∀ d ∈ (Ts.map fun t => V.ref t.q).map (encT Ts), ∃ t ∈ Ts, d = encP t.p t.w := fun d hd => by
    obtain ⟨x, hx, rfl⟩ := List.mem_map.mp hd
    obtain ⟨t, h, _, e⟩ := key x hx
    exact ⟨t, h, e⟩
  refine sortD_i (encT Ts) W.li (fun x hx => ?_) (fun d hd d' hd' => ?_) (.inl fun d hd => ?_) (fun x hx => ?_) ?_ q
  · obtain ⟨t, h, rfl, e⟩ := key x hx
    rw [e]
    obtain ⟨h1, h2⟩ := W.tt t h
    exact .tup (.of h1) (.cons (.tup (.of h2) (dpAll_ints _)) (.cons (.int _) .nil))
  · obtain ⟨t, _, rfl⟩ := keyd d hd
    obtain ⟨t', _, rfl⟩ := keyd d' hd'
    unfold encP
    simp only [PySem.W.alike, PySem.W.alikeAll, PySem.W.alike_ints, Bool.and_self]
  · obtain ⟨t, _, rfl⟩ := keyd d hd
    exact ⟨_, _, rfl⟩
  · obtain ⟨t, _, rfl, e⟩ := key x hx
    rw [e]
    unfold encP
    simp only [PyData.depth, PyData.depthAll, PySem.W.depth_ints]
    decide
  · rw [List.pairwise_map] at hp ⊢
    refine List.Pairwise.imp_of_mem (fun {a b} ha hb h => ?_) hp
    rw [encT_at W.tt ha, encT_at W.tt hb]
    exact lt_data h
theorem run_words {g : Gr} {R : List Int} : ∀ (i : Nat), ∀ y ∈ (run g R i).2, y.2 ∈ R ∨ ∃ n r, g n = some r ∧ y.2 ∈ r
  | 0, y, hy => by
    obtain ⟨k, _, _, h⟩ := ext_mem hy
    exact .inl (List.mem_of_getElem? h)
  | i + 1, y, hy => by
    have hy2 : y ∈ (bnew g (keysF (run g R i).1) (run g R i).2).flatMap (extg g) := hy
    obtain ⟨x, _, hx⟩ := List.mem_flatMap.mp hy2
    obtain ⟨k, _, _, h⟩ := ext_mem hx
    cases e : g x.1 with
    | none => rw [e] at h; simp at h
    | some r => rw [e] at h; exact .inr ⟨_, r, e, List.mem_of_getElem? h⟩
theorem gL_in {Ls : List (Addr × List Int)} (n : Int) (r : List Int) (h : gL Ls n = some r) : n ∈ (List.range Ls.length).map (fun (i : Nat) => (i : Int)) := by
  unfold gL at h
  split at h
  · obtain ⟨x, h1, _⟩ := Option.map_eq_some_iff.mp h
    have := (List.getElem?_eq_some_iff.mp h1).1
    exact List.mem_map.mpr ⟨n.toNat, by rw [List.mem_range]; exact this, by omega⟩
  · cases h
theorem gL_is {Ls : List (Addr × List Int)} {n : Int} : (gL Ls n).isSome = decide (0 ≤ n ∧ n < Ls.length) := by
  unfold gL
  by_cases c : 0 ≤ n
  · rw [if_pos c, Option.isSome_map]
    by_cases d : n < Ls.length
    · rw [decide_eq_true ⟨c, d⟩, List.getElem?_eq_getElem (by omega)]; rfl
    · rw [decide_eq_false (fun z => d z.2), List.getElem?_eq_none (by omega)]; rfl
  · rw [if_neg c, decide_eq_false (fun z => c z.1)]; rfl
theorem gL_ev {H : Hp} {rl wo : Addr} {Ls : List (Addr × List Int)} {ws : List Int} (Y : LE H rl wo Ls ws) {n : Int} {r : List Int} (h : gL Ls n = some r) : r.length ≤ 21 ∧ ∀ w ∈ r, Ev w := by
  unfold gL at h
  split at h
  · obtain ⟨x, h1, h2⟩ := Option.map_eq_some_iff.mp h
    have := Y.l2 x (List.mem_of_getElem? h1)
    rw [← h2]; exact this.2
  · cases h
def spExtended : Sp := fun vs H Q _ => ∃ (rl fl wo : Addr) (len : Nat) (Ls : List (Addr × List Int)) (ws : List Int) (D : List RW), vs = [.ref rl, .ref fl, .int len] ∧ LE H rl wo Ls ws ∧ Fd H fl D ∧ (∀ d ∈ D, ∃ r, gL Ls d.n = some r) ∧ D.length ≤ 60 ∧ (∀ d ∈ D, 1 ≤ d.r.length ∧ d.r.length ≤ 100) ∧
  ∀ wl H' (Ts : List PT), H wl = none → KW.Fr [] H H' → Wt H' wl Ts → wpT Ts = lext (gL Ls) (nrR D) len → Q (.ref wl) H'
def spBest : Sp := fun vs H Q _ => ∃ (rl wo : Addr) (Ls : List (Addr × List Int)) (ws : List Int), vs = [.ref rl, .ref wo] ∧ LE H rl wo Ls ws ∧
  ∀ l H' (D : List RW) (i : Nat), H l = none → KW.Fr [] H H' → Fd H' l D → (run (gL Ls) (0 :: ws) i).2 = [] → nrR D = (run (gL Ls) (0 :: ws) i).1 → Q (.ref l) H'
def spPathIs : Sp := fun vs H Q _ => ∃ (p q : Addr) (xs : List Int), vs = [.ref p, .ref q] ∧ H p = some (.tup (xs.map V.int)) ∧ H q = some (.tup (xs.map V.int)) ∧ xs.length ≤ 100000 ∧ Q (.bl true) H
def spTold (CS C : Addr) : Sp := fun vs H Q _ => ∃ (d : Spd) (rl wo p : Addr) (Ls : List (Addr × List Int)) (ws path : List Int), vs = [.ref d.sp, .ref rl, .ref wo, .ref p] ∧ Spc CS C H d ∧ LE H rl wo Ls ws ∧ gB d.B = gL Ls ∧ d.R ++ d.L = ws ∧ H p = some (.tup (path.map V.int)) ∧ path.length ≤ 100000 ∧ ∀ H', KW.Fr [] H H' → Q (.bl true) H'
def spDrawn : Sp := fun vs H Q _ => ∃ (x : Int) (rl wo : Addr) (Ls : List (Addr × List Int)) (ws : List Int), vs = [.int x, .ref rl, .ref wo] ∧ LE H rl wo Ls ws ∧ ∀ p H' (path : List Int), KW.Fr [] H H' → H' p = some (.tup (path.map V.int)) → path.length ≤ 5 → Q (.ref p) H'
def spKept (CS C : Addr) : Sp := fun vs H Q _ => ∃ (d : Spd) (rl wo : Addr) (Ls : List (Addr × List Int)) (ws : List Int), vs = [.ref d.sp, .ref rl, .ref wo] ∧ Spc CS C H d ∧ LE H rl wo Ls ws ∧ gB d.B = gL Ls ∧ d.R ++ d.L = ws ∧ (flat d.B).length ≤ 4000 ∧ ∀ H', KW.Fr [] H H' → Q (.bl true) H'
def spLong : Sp := fun vs H Q _ => ∃ (x : Int), vs = [.int x] ∧ 0 ≤ x ∧ ∀ H', KW.Fr [] H H' → Q (.bl true) H'
end ST

set_option Elab.async false
set_option linter.all false
set_option maxRecDepth 100000
set_option maxHeartbeats 4000000
namespace K64
open PySem PySem.Spec PyProof.Rows L2 KW ST LamX
local macro_rules | `(tactic| walk_at "kw") => `(tactic| simp only [tSeq, tNext, tIfS, tTest, tAnd, tOr, tNot, tAndV, tOrV, tNotV, tIf, tChain, tOp, tUn, tC, tAsg, gName, gSub, gCons, gNil, tRet, tRetN, tDrop, tCons, tNil, tCB, tAug, tSl, tPart, tNoPart, tLst, tTup, tBM, tBM0, uTest, uFor, iRng1, iRng2, iList, uCall, List.map_cons, List.map_nil, List.length_cons, List.length_nil, List.cons_append, List.nil_append, List.replicate, Nat.zero_add, Nat.reduceAdd, Nat.reduceSub, List.getElem?_cons_zero, List.getElem?_cons_succ, List.set_cons_zero, List.set_cons_succ, V.bl.injEq, V.int.injEq, V.str.injEq, V.ref.injEq, V.ty.injEq, List.cons.injEq, and_true, true_and, exists_eq_left', exists_eq_right, exists_eq_left, exists_and_left, exists_and_right, decide_eq_true_eq, Bool.not_eq_true', decide_eq_false_iff_not, Bool.false_eq_true, if_true, if_false, ite_true, ite_false, Bool.not_true, Bool.not_false, reduceCtorEq, decide_true, decide_false, Bool.not_not, isK_int_int, isK_int_bool, isK_int_str, isK_int_list, isK_int_tuple, isK_bool_int, isK_bool_bool, isK_bool_str, isK_str_str, isK_str_int, isK_str_bool, isK_str_tuple, isK_str_list, isK_list_list, isK_list_tuple, isK_tuple_tuple, isK_tuple_list, isOk_int_int, isOk_int_bool, isOk_int_str, isOk_int_list, isOk_int_tuple, isOk_bool_int, isOk_bool_bool, isOk_bool_str, isOk_str_str, isOk_str_int, isOk_str_bool, isOk_str_tuple, isOk_str_list, isOk_list_list, isOk_list_tuple, isOk_tuple_tuple, isOk_tuple_list, isK_dict_dict, isOk_dict_dict, isK_none_int, isK_none_bool, isOk_none_int, isOk_none_bool, tyV, S_inj, S_cat, L2.start, Nat.reduceSub, List.replicate_succ, List.replicate_zero, and_assoc, List.append_nil, Nat.reduceEqDiff, Option.some.injEq, Int.natCast_inj, upd_upd, Int.reducePow, Int.reduceToNat, Int.reduceMul, Int.reduceAdd, Int.reduceSub, Int.reduceLT, Int.reduceLE, Int.reduceNeg, Int.reduceDiv, Int.reduceMod, Nat.reducePow, Nat.reduceMul, S_len, List.length_append, List.length_map, List.length_range, not_true_eq_false, not_false_eq_true, ne_eq, uAdd_e1, uAdd_e2, uSub_e1, uMod_e1, uDiv_e1, uPow_e1, uShl_e1, uNeg_e1, uIAdd_e1, uIAdd_e2, uIAdd_e3, uISub_e1, uLt_e1, uLt_e2, uLe_e1, uGt_e1, uGe_e1, uEq_e1, uEq_e2, uEq_e3, uEq_e4, uEq_e5, uEq_e6, uEq_e7, uEq_e8, uEq_e9, uEq_e10, uEq_e11, uNe_e1, uNe_e2, uNe_e3, uNe_e4, uNe_e5, uNe_e6, uNe_e7, uNe_e8, uNe_e9, uNe_e10, uNe_e11, uIs_e1, uIs_e2, uIs_e3, uIs_e4, uIs_e5, uIs_e6, uIs_e7, uNotIs_e1, uNotIs_e2, uNotIs_e3, uNotIs_e4, uNotIs_e5, uNotIs_e6, uIn_e1, uIn_e2, uIn_e3, uIn_e4, uNotIn_e1, uNotIn_e2, uNotIn_e3, uNotIn_e4, uTru_e1, uTru_e2, uTru_e3, uTru_e4, uIx_e2, uSl_e2, uLen_e1, uAbs_e1, uInt_e1, uInt_e2, uMin2_e1, uIsi_e1, uIsi_e2, uIsi_e3, uIsi_e4, cx_K, uVar_0, uVar_n, uFld, uSFld, uMet, uMake, tDG, tDI, tDNI, tDP, tDD, uMk, uRaise, uDelSl, tCallS, L2.WE, uStr_e1, uStr_e2, uMul2_e1, uMul2_e2, okS_i, okS_s, List.zip_cons_cons, List.zip_nil_left, List.drop_zero, List.drop_succ_cons, List.drop_nil, putF_nil, putF_cons, eq_self, tDNewK, tB, Option.isSome_some, Option.isSome_none, false_and, false_or, or_false, exists_false, Int.zero_add, uLc, wipe, tYes, isEmpty_app, List.isEmpty_cons, List.isEmpty_nil, List.isEmpty_map, Bool.and_false, Bool.and_true, iRev, K64.lit_0, K64.fe_room_entries, K64.fe_room_words, K64.fe_room__places, K64.fe_room__least, K64.fe_entries_room, K64.fe_entries_words, K64.fe_entries__places, K64.fe_entries__least, K64.fe_words_room, K64.fe_words_entries, K64.fe_words__places, K64.fe_words__least, K64.fe__places_room, K64.fe__places_entries, K64.fe__places_words, K64.fe__places__least, K64.fe__least_room, K64.fe__least_entries, K64.fe__least_words, K64.fe__least__places, K64.fe_store_pressure, K64.fe_store_always, K64.fe_store_allocations, K64.fe_store_collections, K64.fe_store__roots, K64.fe_store__held, K64.fe_store__saved, K64.fe_pressure_store, K64.fe_pressure_always, K64.fe_pressure_allocations, K64.fe_pressure_collections, K64.fe_pressure__roots, K64.fe_pressure__held, K64.fe_pressure__saved, K64.fe_always_store, K64.fe_always_pressure, K64.fe_always_allocations, K64.fe_always_collections, K64.fe_always__roots, K64.fe_always__held, K64.fe_always__saved, K64.fe_allocations_store, K64.fe_allocations_pressure, K64.fe_allocations_always, K64.fe_allocations_collections, K64.fe_allocations__roots, K64.fe_allocations__held, K64.fe_allocations__saved, K64.fe_collections_store, K64.fe_collections_pressure, K64.fe_collections_always, K64.fe_collections_allocations, K64.fe_collections__roots, K64.fe_collections__held, K64.fe_collections__saved, K64.fe__roots_store, K64.fe__roots_pressure, K64.fe__roots_always, K64.fe__roots_allocations, K64.fe__roots_collections, K64.fe__roots__held, K64.fe__roots__saved, K64.fe__held_store, K64.fe__held_pressure, K64.fe__held_always, K64.fe__held_allocations, K64.fe__held_collections, K64.fe__held__roots, K64.fe__held__saved, K64.fe__saved_store, K64.fe__saved_pressure, K64.fe__saved_always, K64.fe__saved_allocations, K64.fe__saved_collections, K64.fe__saved__roots, K64.fe__saved__held, tDGF_eq, uDGetF_e1, tLstRg, tRg1, K64.N_is_ref, K64.N_ref_of, K64.N_reached, K64.N_collect, K64.N_object_of, K64.N_row_of, K64.N_word_at, K64.N_paths, K64.N_garbage, K64.N_Store_init, K64.N_Store_exists, K64.N_Store_numbers, K64.N_Store_free_number, K64.N_Store_allocate, K64.N_Store_size, K64.N_Store_kind, K64.N_Store_get, K64.N_Store_put, K64.N_Store_slots, K64.N_Store_drop, K64.N_Store_close_up, K64.N_Space_init, K64.N_Space_root, K64.N_Space_set_root, K64.N_Space_hold, K64.N_Space_drop, K64.N_Space_held, K64.N_Space_all_roots, K64.N_Space_collect, K64.N_Space_collect_with, K64.N_Space_new, K64.N_Space_fitted, K64.N__law_number, K64.N__law_word, K64.N__law_is, K64.N__law_same, K64.N__law_sizes, K64.N__law_rows, K64.N__law_roots, K64.N__law_space, K64.N__law_walk, K64.N__law_extended, K64.N__law_best, K64.N__law_path_is, K64.N__law_told, K64.N__law_drawn, K64.N__law_kept, K64.N__law_long, K64.N_law, sp_is_ref, sp_ref_of])
local macro_rules | `(tactic| walk_at "nn") => `(tactic| first | assumption | exact ne_un (by assumption) | exact ne_un (ne_un (by assumption)) | exact ne_un (ne_un (ne_un (by assumption))) | exact ne_un (ne_un (ne_un (ne_un (by assumption)))))
local macro_rules | `(tactic| walk_at "ne") => `(tactic| first | assumption | (apply Ne.symm; assumption) | exact ne_ud (by assumption) | exact Ne.symm (ne_ud (by assumption)) | exact ne_ud (ne_un (by assumption)) | exact Ne.symm (ne_ud (ne_un (by assumption))) | exact ne_ud (ne_un (ne_un (by assumption))) | exact Ne.symm (ne_ud (ne_un (ne_un (by assumption)))) | exact ne_m (by assumption) (by assumption) | exact Ne.symm (ne_m (by assumption) (by assumption)) | exact ne_n (by assumption) (by walk_at "nn") | exact Ne.symm (ne_n (by assumption) (by walk_at "nn")))
local macro_rules | `(tactic| walk_at "hp") => `(tactic| first | assumption | exact upd_same | (refine Eq.trans (upd_ne ?_) ?_; (focus walk_at "ne"); walk_at "hp"))
local macro_rules | `(tactic| walk_at "sc") => `(tactic| first | (with_reducible assumption) | omega | exact le_line (by (try simp only [List.length_map, List.length_append, List.length_cons, List.length_nil, S_len]); omega) | exact div_s (by omega) | exact mul_r (by omega) | exact mul_l (by omega) | exact pow_s (by omega) | exact mul2_r (by omega) | exact mul2_l (by omega) | exact small4300 (by omega) | exact lt_line (by (try simp only [List.length_map, List.length_append, List.length_cons, List.length_nil, S_len]); omega) | exact ⟨_, by assumption⟩ | (guard_target =~ Exists _; exact ⟨_, .of (by walk_at "hp")⟩) | (guard_target =~ _ ∨ _; exact .inl ⟨_, by assumption⟩) | (guard_target =~ _ ∨ _; exact .inl ⟨_, .of (by walk_at "hp")⟩) | (guard_target =~ _ ∨ _; exact .inr (.inr (.inl ⟨rfl, .inl ⟨_, by walk_at "hp"⟩⟩))) | decide)
local macro_rules | `(tactic| walk_at "kr") => `(tactic| first | (guard_target =~ _ ∧ _; first | refine And.intro (by walk_at "sc") ?_) | (guard_target =~ KW.uIx _ _ _ _ _; first | refine ix_l (by walk_at "hp") (by first | walk_at "hv" | rfl) ?_ | refine ix_t (by walk_at "hp") (by first | walk_at "hv" | rfl) ?_ | refine ix_sl (by assumption) (by walk_at "hv") ?_) | (guard_target =~ KW.uLen _ _ _ _; first | refine len_l (by walk_at "hp") ?_ | refine len_t (by walk_at "hp") ?_ | refine len_sl (by assumption) ?_) | (guard_target =~ KW.uSet _ _ _ _ _; first | refine set_l (by walk_at "hp") (by first | walk_at "hv" | rfl) ?_) | (guard_target =~ L2.gTup _ _ _ _ _ _ _; first | refine tup_l (by walk_at "hp") (by rfl) ?_) | (guard_target =~ KW.uGet _ _ _ _ _; first | refine get_l (by walk_at "hp") (by walk_at "hc") (by decide) (by rfl) ?_) | (guard_target =~ KW.uPut _ _ _ _ _ _; first | refine put_l (by walk_at "hp") (by walk_at "hc") (by decide) (by simp) ?_) | (guard_target =~ KW.uMet.uMt _ _ _ _ _ _ _ _ _; first | refine met_l (by walk_at "hp") (by rfl) ?_) | (guard_target =~ KW.uMet.uMt _ _ _ _ _ _ _ _ _; first | refine ST.met_s (by assumption) (by decide) ?_) | (guard_target =~ ST.spExists _ _ _ _ _; first | refine ST.exists_s (by assumption) ?_) | (guard_target =~ ST.spUsed _ _ _ _ _; first | refine ST.used_s (by assumption) ?_) | (guard_target =~ KW.uGet _ _ _ _ _; first | refine ST.words_s (by assumption) (by walk_at "hc") (by decide) ?_) | (guard_target =~ KW.uDIn _ _ _ _; first | refine din_i (by walk_at "hp") ?_ | refine din_s (by walk_at "hp") ?_) | (guard_target =~ KW.uDGet _ _ _ _; first | refine dget_i (by walk_at "hp") (by walk_at "hv") ?_ | refine dget_s (by walk_at "hp") (by walk_at "hv") ?_) | (guard_target =~ KW.uDPut _ _ _ _ _; first | refine dput_i (by walk_at "hp") (by walk_at "sc") ?_ | refine dput_s (by walk_at "hp") (by walk_at "sc") ?_) | (guard_target =~ KW.uDDel _ _ _ _; first | refine ddel_i (by walk_at "hp") (by walk_at "hv") ?_ | refine ddel_s (by walk_at "hp") (by walk_at "hv") ?_) | (guard_target =~ KW.uMul2 _ _ _ _; first | refine rep_l (by walk_at "hp") (by walk_at "sc") (by walk_at "sc") (by walk_at "sc") ?_) | (guard_target =~ L2.rAppend _ _ _ _; first | refine app_l (by walk_at "hp") (by walk_at "sc") ?_) | (guard_target =~ L2.rPop _ _ _ _; first | refine pop_l (by walk_at "hp") (by walk_at "hv") ?_ | refine pops_l (by walk_at "hp") ?_) | (guard_target =~ L2.rClear _ _ _ _; first | refine clr_l (by walk_at "hp") ?_) | (guard_target =~ L2.rReverse _ _ _ _; first | refine rev_l (by walk_at "hp") ?_) | (guard_target =~ L2.rExtend _ _ _ _; first | refine ext_l (by walk_at "hp") (by walk_at "hp") (by walk_at "sc") ?_) | (guard_target =~ KW.uAdd _ _ _ _ _; first | refine ucat_l (by walk_at "hp") (by walk_at "hp") (by walk_at "sc") ?_) | (guard_target =~ KW.uSl _ _ _ _ _ _; first | refine usl_l (by walk_at "hp") ?_) | (guard_target =~ KW.uTru _ _ _ _; first | refine tru_l (by walk_at "hp") ?_ | refine tru_t (by walk_at "hp") ?_ | refine tru_d (by walk_at "hp") ?_ | refine tru_sl (by assumption) ?_) | (guard_target =~ L2.rIndex _ _ _ _ _; first | refine idx_s (by walk_at "hp") (by assumption) ?_ | refine idx_i (by walk_at "hp") (by assumption) ?_) | (guard_target =~ L2.rIn _ _ _ _ _ _; first | refine in_s (by walk_at "hp") ?_ | refine nin_s (by walk_at "hp") ?_ | refine in_i (by walk_at "hp") ?_ | refine nin_i (by walk_at "hp") ?_) | (guard_target =~ KW.uIsi _ _ _ _; first | refine isi_l (by walk_at "hp") (by decide +kernel) ?_ | refine isi_t (by walk_at "hp") (by decide +kernel) ?_ | refine isi_d (by walk_at "hp") (by decide +kernel) ?_) | (guard_target =~ KW.uList _ _ _ _; first | refine list_l (by walk_at "hp") ?_ | refine list_t (by walk_at "hp") ?_ | refine list_sl (by assumption) ?_) | (guard_target =~ KW.uDict _ _ _; first | refine dict_d (by walk_at "hp") ?_) | (guard_target =~ KW.uSorted _ _ _ _; first | refine srt_l (by walk_at "hp") ?_) | (guard_target =~ KW.uSum _ _ _ _; first | refine sum_l (by walk_at "hp") ?_) | (guard_target =~ KW.uDelC _ _ _ _; first | refine dels_l (by walk_at "hp") (by walk_at "sc") ?_) | (guard_target =~ L2.wAs _ _ _ _ _ _ _ _ _ _; first | refine as_yes (by walk_at "hx") ?_ | refine as_no (by walk_at "hx") ?_) | (guard_target =~ KW.uEf _ _ _ _ _ _ _ _ _; first | refine ef_l (by walk_at "he") (by decide) (by rfl) (by walk_at "hp") (by rfl) ?_) | (guard_target =~ KW.uIsE _ _ _ _ _ _ _; first | refine isE_r (by walk_at "he") (by walk_at "hp") (by walk_at "hk") ?_ | refine isE_t (by walk_at "he") (by walk_at "hp") (by walk_at "hk") ?_))
local macro_rules | `(tactic| walk_at "hv") => `(tactic| first | assumption)
local macro_rules | `(tactic| walk_at "kk") => `(tactic| repeat (first | walk_at "kw" | walk_at "kr"))
local macro_rules | `(tactic| walk_at "hc") => `(tactic| first | exact K64.Txt.c_Store (by assumption) | exact K64.Txt.c_Space (by assumption))
local macro_rules | `(tactic| walk_at "he") => `(tactic| first | exact K64.Txt.e_BadWord (by assumption) | exact K64.Txt.e_NoRoom (by assumption) | exact K64.Txt.e_NoNumber (by assumption) | exact K64.Txt.e_Wrong (by assumption))
local macro_rules | `(tactic| walk_at "hx") => `(tactic| first | exact K64.Txt.x_BadWord_NoNumber (by assumption) | exact K64.Txt.x_BadWord_NoRoom (by assumption) | exact K64.Txt.x_NoRoom_NoNumber (by assumption) | exact K64.Txt.x_NoRoom_NoRoom (by assumption) | exact K64.Txt.x_NoNumber_NoNumber (by assumption) | exact K64.Txt.x_NoNumber_NoRoom (by assumption) | exact K64.Txt.x_Wrong_NoNumber (by assumption) | exact K64.Txt.x_Wrong_NoRoom (by assumption))
local macro_rules | `(tactic| walk_at "hk") => `(tactic| first | fail)

local macro_rules | `(tactic| walk_at "kr") => `(tactic| first | (guard_target =~ KW.uGet _ _ _ _ _; refine ST.get_p (by assumption) (by rfl) (by walk_at "hc") (by decide) (by rfl) ?_) | (guard_target =~ KW.uMet.uMt _ _ _ _ _ _ _ _ _; refine ST.met_p (by assumption) (by rfl) (by decide) ?_))
section
variable {P : Program} {w : World} {K : Frag} {mg : Str → Option Value} {base : Heap} {a : Ads}
theorem ok__law_extended (T : Txt P w K mg a) : Cal P w K mg base 1 "_law_extended" spExtended := by
  refine T.d__law_extended.ok sc__law_extended (fun vs H Q E h => ?_) (fun f cdv A outer s H vs Q E hr h => ⟨_, (pss_cons (ps_set (i := 3) sc__law_extended.nd rfl (Or.inl rfl) (pe_lst pa_nil))
      (pss_cons (ps_lock (k_for (passes_of rfl) rfl (pi_keys (kv 1)) (pg_name (i := 4) sc__law_extended.nd rfl (Or.inl rfl))
      (pss_one (ps_if (pt_cmpR (o_eq hr.units) (pe_callB c_len (by rfl) T.n_len (by decide +kernel) (pa_cons (k_dgetF (hu_of hr) (kv 1) (kv 4)) pa_nil)) (kv 2) (nomark _))
      (pss_one (k_for (passes_of rfl) rfl (pi_range1 (by rfl) T.n_range (pa_cons (pe_callB c_len (by rfl) T.n_len (by decide +kernel) (pa_cons (pe_ix o_ix (kv 0) (kv 4) (fun _ _ => rfl)) pa_nil)) pa_nil)) (pg_name (i := 5) sc__law_extended.nd rfl (Or.inl rfl))
      (pss_one (ps_expr (pe_bm PySem.F.plainAttrs_list PySem.F.slot_list_append PySem.F.type_list_append mt_append (kv 3) (pa_cons (pe_tup (pa_cons (pe_op o_add (k_dgetF (hu_of hr) (kv 1) (kv 4)) (pe_tup (pa_cons (kv 5) pa_nil))) (pa_cons (pe_ix o_ix (pe_ix o_ix (kv 0) (kv 4) (fun _ _ => rfl)) (kv 5) (fun _ _ => rfl)) pa_nil))) pa_nil))))))
      pss_nil))))
      (pss_one (ps_ret (kv 3))))), ?_⟩)
  · obtain ⟨_, _, _, _, _, _, _, rfl, _⟩ := h; rfl
  · obtain ⟨rl, fl, wo, len, Ls, ws, D, rfl, Y, hF, hg, lD, lr, h⟩ := h
    walk_at "kk"
    intro wl hwl
    have f1 : KW.Fr [] H (upd H wl (.lst [])) := Fr.new hwl
    have w1 : Wt (upd H wl (.lst [])) wl [] := ⟨upd_same, by simp⟩
    have F1 := hF.fr0 f1
    revert f1 w1 F1
    generalize upd H wl (.lst []) = H1
    intro f1 w1 F1
    refine ⟨fl, .dK (kvR D), F1.dc, trivial, fun od => ?_⟩
    obtain ⟨Pv, hPv⟩ : ∃ Pv : Nat → L2.St → Hp → Prop, Pv = fun i σ H' => ∃ (Ts : List PT) (v4 v5 : Option V), σ = [some (.ref rl), some (.ref fl), some (.int len), some (.ref wl), v4, v5] ∧ Wt H' wl Ts ∧ wpT Ts = lext (gL Ls) (nrR (D.take i)) len ∧ H' fl = some (.frz od (.dK (kvR D))) ∧ KW.Fr [fl] H H' := ⟨_, rfl⟩
    refine ⟨fl, od, rfl, .inl ⟨kvR D, upd_same, ?_⟩⟩
    refine for_pk (kvR_keys D) Pv ?_ ?_ ?_ ?_
    · rw [hPv]
      exact ⟨[], _, _, rfl, w1.upd F1.dc (by simp) (fun z => by have h1 := w1.li; have h2 := F1.dc; rw [z, h2] at h1; cases h1), rfl, upd_same, (f1.mono (by simp)).trans (Fr.upd (by simp))⟩
    · rintro i σ H2 - hp
      rw [hPv] at hp
      obtain ⟨_, _, _, _, _, _, k2, _⟩ := hp
      exact k2
    · intro i x σ H2 hx hp
      rw [hPv] at hp
      obtain ⟨Ts, v4, v5, rfl, w2, eT, k2, f2⟩ := hp
      obtain ⟨dd, hdi, rfl⟩ := nsR_i hx
      have hdd := List.mem_of_getElem? hdi
      have hv := val_at hF.nd hdd
      have tp := hF.tp dd hdd
      have ta : dd.a ≠ fl := fun z => by have h2 := hF.dc; rw [z, h2] at tp; cases tp
      have t2 : H2 dd.a = some (.tup (dd.r.map V.int)) := f2 _ _ (by simp [ta]) tp
      have li2 : H2 rl = some (.lst (Ls.map fun x => .ref x.1)) := f2 _ _ (by simp; intro z; have h1 := Y.R.li; rw [z, hF.dc] at h1; cases h1) Y.R.li
      have bl := lr dd hdd
      obtain ⟨r, hr⟩ := hg dd hdd
      have hr2 := hr
      unfold gL at hr2
      split at hr2
      · rename_i n0
        obtain ⟨⟨pa, r'⟩, hx2, e2⟩ := Option.map_eq_some_iff.mp hr2
        have e2' : r' = r := e2
        subst e2'
        obtain ⟨m, hm⟩ : ∃ m : Nat, dd.n = m := ⟨dd.n.toNat, by omega⟩
        rw [hm, Int.toNat_natCast] at hx2
        have hvr : atI (Ls.map fun x => V.ref x.1) dd.n = some (.ref pa) := by rw [hm]; exact atI_map (f := fun x : Addr × List Int => V.ref x.1) hx2
        have bx := Y.l2 _ (List.mem_of_getElem? hx2)
        dsimp only at bx
        have pr := Y.R.rs _ (List.mem_of_getElem? hx2)
        have pf : pa ≠ fl := fun z => by have h2 := hF.dc; unfold IL at pr; dsimp only at pr; rw [z, h2] at pr; cases pr
        have pr2 : H2 pa = some (.lst (r'.map V.int)) := f2 _ _ (by simp [pf]) pr
        have el : lext (gL Ls) (nrR (D.take (i + 1))) len = lext (gL Ls) (nrR (D.take i)) len ++ (if dd.r.length = len then ext dd.r r' else []) := by
          rw [take_s hdi]
          unfold lext nrR
          rw [List.map_append, List.flatMap_append]
          congr 1
          simp only [List.map_cons, List.map_nil, List.flatMap_cons, List.flatMap_nil, List.append_nil]
          unfold extg
          rw [hr]; rfl
        walk_at "kk"
        refine ⟨_, _, k2, _, hv, ?_⟩
        walk_at "kk"
        by_cases c : dd.r.length = len
        · rw [if_pos c]
          rw [if_pos c] at el
          walk_at "kk"
          rw [Int.toNat_natCast]
          obtain ⟨QJ, hQJ⟩ : ∃ QJ : Nat → L2.St → Hp → Prop, QJ = fun k σ H' => ∃ (T2 : List PT) (v5 : Option V), σ = [some (.ref rl), some (.ref fl), some (.int len), some (.ref wl), some (.int dd.n), v5] ∧ Wt H' wl T2 ∧ wpT T2 = lext (gL Ls) (nrR (D.take i)) len ++ (ext dd.r r').take k ∧ H' fl = some (.frz od (.dK (kvR D))) ∧ KW.Fr [fl] H H' := ⟨_, rfl⟩
          have lL : (lext (gL Ls) (nrR (D.take i)) len).length ≤ 21 * i := by
            have := lext_len (g := gL Ls) (M := 21) (fun n r q => by
              unfold gL at q
              split at q
              · obtain ⟨x, h1, h2⟩ := Option.map_eq_some_iff.mp q
                have := (Y.l2 x (List.mem_of_getElem? h1)).2.1
                rw [← h2]; exact this
              · cases q) len (nrR (D.take i))
            rw [List.length_map, List.length_take] at this
            refine Nat.le_trans this (Nat.mul_le_mul_left _ (Nat.min_le_left _ _))
          refine for_rng QJ (by rw [hQJ]; exact ⟨Ts, _, rfl, w2, by rw [eT]; simp, k2, f2⟩) ?_ ?_
          · intro k σ H3 hk hp
            rw [hQJ] at hp
            obtain ⟨T2, v5, rfl, w3, eT3, k3, f3⟩ := hp
            have t3 : H3 dd.a = some (.tup (dd.r.map V.int)) := f3 _ _ (by simp [ta]) tp
            have li3 : H3 rl = some (.lst (Ls.map fun x => .ref x.1)) := f3 _ _ (by simp; intro z; have h1 := Y.R.li; rw [z, hF.dc] at h1; cases h1) Y.R.li
            have pr3 : H3 pa = some (.lst (r'.map V.int)) := f3 _ _ (by simp [pf]) pr
            obtain ⟨z, hz⟩ : ∃ z, r'[k]? = some z := ⟨_, List.getElem?_eq_getElem hk⟩
            have hvz : atI (r'.map V.int) (k : Int) = some (.int z) := atI_map hz
            walk_at "kk"
            refine ⟨.inl ⟨_, .of w3.li⟩, _, _, k3, _, hv, by decide, fun p1 hp1 => ?_⟩
            try rw [Int.zero_add]
            have ft : KW.Fr [] H3 (upd H3 p1 (.tup [.int (k : Int)])) := Fr.new hp1
            have w4 := w3.fr0 ft
            have t4 := ft _ _ (by simp) t3
            have li4 := ft _ _ (by simp) li3
            have pr4 := ft _ _ (by simp) pr3
            have k4 := ft _ _ (by simp) k3
            have q4 : upd H3 p1 (.tup [.int (k : Int)]) p1 = some (.tup [.int (k : Int)]) := upd_same
            have F4 := f3.trans (ft.mono (by simp))
            revert w4 t4 li4 pr4 k4 q4 F4
            generalize upd H3 p1 (.tup [.int (k : Int)]) = H4
            intro w4 t4 li4 pr4 k4 q4 F4
            refine ucat_t t4 q4 (by intro z; have h0 := congrArg List.length z; rw [List.length_map] at h0; simp only [List.length_nil] at h0; omega) (by simp) (le_line (by simp only [List.length_map, List.length_cons, List.length_nil]; omega)) fun p2 hp2 => ?_
            have f5 : KW.Fr [] H4 (upd H4 p2 (.tup (dd.r.map V.int ++ [.int (k : Int)]))) := Fr.new hp2
            have w5 := w4.fr0 f5
            have li5 := f5 _ _ (by simp) li4
            have pr5 := f5 _ _ (by simp) pr4
            have k5 := f5 _ _ (by simp) k4
            have p5 : upd H4 p2 (.tup (dd.r.map V.int ++ [.int (k : Int)])) p2 = some (.tup ((dd.r ++ [(k : Int)]).map V.int)) := by rw [upd_same, List.map_append]; rfl
            have F5 := F4.trans (f5.mono (by simp))
            revert w5 li5 pr5 k5 p5 F5
            generalize upd H4 p2 (.tup (dd.r.map V.int ++ [.int (k : Int)])) = H5
            intro w5 li5 pr5 k5 p5 F5
            walk_at "kk"
            intro p3 hp3
            obtain ⟨q1, q2, q3⟩ := w5.pair (w := z) p5 hp3
            have lT : T2.length ≤ 3000 := by
              have := congrArg List.length eT3
              rw [List.length_map, List.length_append, List.length_take, ext_len] at this
              have := bx.2.1
              have := (List.getElem?_eq_some_iff.mp hdi).1
              omega
            walk_at "kk"
            rw [hQJ]
            refine ⟨T2 ++ [⟨dd.r ++ [(k : Int)], z, p3, p2⟩], _, rfl, q3, ?_, ?_, Fr.atL (F5.trans ((Fr.new (l := []) hp3).mono (by simp))) hwl⟩
            · unfold wpT at eT3 ⊢
              rw [List.map_append, eT3, ext_snoc dd.r r' hz, List.append_assoc]; rfl
            · have n1 : fl ≠ wl := fun z => by have h1 := w5.li; rw [← z, k5] at h1; cases h1
              have n2 : fl ≠ p3 := ne_of_none k5 hp3
              rw [upd_ne n1, upd_ne n2]; exact k5
          · intro σ H3 hp
            rw [hQJ] at hp
            obtain ⟨T2, v5, rfl, w3, eT3, k3, f3⟩ := hp
            rw [List.take_of_length_le (l := ext dd.r r') (by rw [ext_len]; exact Nat.le_refl _)] at eT3
            walk_at "kk"
            rw [hPv]
            exact ⟨T2, _, _, rfl, w3, by rw [el]; exact eT3, k3, f3⟩
        · rw [if_neg c]
          rw [if_neg c, List.append_nil] at el
          rw [hPv]
          exact ⟨Ts, _, _, rfl, w2, by rw [el]; exact eT, k2, f2⟩
      · cases hr2
    · intro σ H2 hp
      rw [hPv] at hp
      obtain ⟨Ts, v4, v5, rfl, w2, eT, k2, f2⟩ := hp
      rw [show (nsR D).length = D.length from List.length_map .., List.take_length] at eT
      have f4 : KW.Fr [] H (upd H2 fl (.dK (kvR D))) := Fr.unl hF.dc f2
      have w4 := w2.upd (o' := .dK (kvR D)) k2 (by simp) (fun z => by have h1 := w2.li; rw [z, k2] at h1; cases h1)
      refine ⟨k2, ?_⟩
      walk_at "kk"
      exact h wl _ Ts hwl f4 w4 eT
end
end K64

set_option Elab.async false
set_option linter.all false
set_option maxRecDepth 100000
set_option maxHeartbeats 4000000
namespace K64
open PySem PySem.Spec PyProof.Rows L2 KW ST LamX
local macro_rules | `(tactic| walk_at "kw") => `(tactic| simp only [tSeq, tNext, tIfS, tTest, tAnd, tOr, tNot, tAndV, tOrV, tNotV, tIf, tChain, tOp, tUn, tC, tAsg, gName, gSub, gCons, gNil, tRet, tRetN, tDrop, tCons, tNil, tCB, tAug, tSl, tPart, tNoPart, tLst, tTup, tBM, tBM0, uTest, uFor, iRng1, iRng2, iList, uCall, List.map_cons, List.map_nil, List.length_cons, List.length_nil, List.cons_append, List.nil_append, List.replicate, Nat.zero_add, Nat.reduceAdd, Nat.reduceSub, List.getElem?_cons_zero, List.getElem?_cons_succ, List.set_cons_zero, List.set_cons_succ, V.bl.injEq, V.int.injEq, V.str.injEq, V.ref.injEq, V.ty.injEq, List.cons.injEq, and_true, true_and, exists_eq_left', exists_eq_right, exists_eq_left, exists_and_left, exists_and_right, decide_eq_true_eq, Bool.not_eq_true', decide_eq_false_iff_not, Bool.false_eq_true, if_true, if_false, ite_true, ite_false, Bool.not_true, Bool.not_false, reduceCtorEq, decide_true, decide_false, Bool.not_not, isK_int_int, isK_int_bool, isK_int_str, isK_int_list, isK_int_tuple, isK_bool_int, isK_bool_bool, isK_bool_str, isK_str_str, isK_str_int, isK_str_bool, isK_str_tuple, isK_str_list, isK_list_list, isK_list_tuple, isK_tuple_tuple, isK_tuple_list, isOk_int_int, isOk_int_bool, isOk_int_str, isOk_int_list, isOk_int_tuple, isOk_bool_int, isOk_bool_bool, isOk_bool_str, isOk_str_str, isOk_str_int, isOk_str_bool, isOk_str_tuple, isOk_str_list, isOk_list_list, isOk_list_tuple, isOk_tuple_tuple, isOk_tuple_list, isK_dict_dict, isOk_dict_dict, isK_none_int, isK_none_bool, isOk_none_int, isOk_none_bool, tyV, S_inj, S_cat, L2.start, Nat.reduceSub, List.replicate_succ, List.replicate_zero, and_assoc, List.append_nil, Nat.reduceEqDiff, Option.some.injEq, Int.natCast_inj, upd_upd, Int.reducePow, Int.reduceToNat, Int.reduceMul, Int.reduceAdd, Int.reduceSub, Int.reduceLT, Int.reduceLE, Int.reduceNeg, Int.reduceDiv, Int.reduceMod, Nat.reducePow, Nat.reduceMul, S_len, List.length_append, List.length_map, List.length_range, not_true_eq_false, not_false_eq_true, ne_eq, uAdd_e1, uAdd_e2, uSub_e1, uMod_e1, uDiv_e1, uPow_e1, uShl_e1, uNeg_e1, uIAdd_e1, uIAdd_e2, uIAdd_e3, uISub_e1, uLt_e1, uLt_e2, uLe_e1, uGt_e1, uGe_e1, uEq_e1, uEq_e2, uEq_e3, uEq_e4, uEq_e5, uEq_e6, uEq_e7, uEq_e8, uEq_e9, uEq_e10, uEq_e11, uNe_e1, uNe_e2, uNe_e3, uNe_e4, uNe_e5, uNe_e6, uNe_e7, uNe_e8, uNe_e9, uNe_e10, uNe_e11, uIs_e1, uIs_e2, uIs_e3, uIs_e4, uIs_e5, uIs_e6, uIs_e7, uNotIs_e1, uNotIs_e2, uNotIs_e3, uNotIs_e4, uNotIs_e5, uNotIs_e6, uIn_e1, uIn_e2, uIn_e3, uIn_e4, uNotIn_e1, uNotIn_e2, uNotIn_e3, uNotIn_e4, uTru_e1, uTru_e2, uTru_e3, uTru_e4, uIx_e2, uSl_e2, uLen_e1, uAbs_e1, uInt_e1, uInt_e2, uMin2_e1, uIsi_e1, uIsi_e2, uIsi_e3, uIsi_e4, cx_K, uVar_0, uVar_n, uFld, uSFld, uMet, uMake, tDG, tDI, tDNI, tDP, tDD, uMk, uRaise, uDelSl, tCallS, L2.WE, uStr_e1, uStr_e2, uMul2_e1, uMul2_e2, okS_i, okS_s, List.zip_cons_cons, List.zip_nil_left, List.drop_zero, List.drop_succ_cons, List.drop_nil, putF_nil, putF_cons, eq_self, tDNewK, tB, Option.isSome_some, Option.isSome_none, false_and, false_or, or_false, exists_false, Int.zero_add, uLc, wipe, tYes, isEmpty_app, List.isEmpty_cons, List.isEmpty_nil, List.isEmpty_map, Bool.and_false, Bool.and_true, iRev, K64.lit_0, K64.fe_room_entries, K64.fe_room_words, K64.fe_room__places, K64.fe_room__least, K64.fe_entries_room, K64.fe_entries_words, K64.fe_entries__places, K64.fe_entries__least, K64.fe_words_room, K64.fe_words_entries, K64.fe_words__places, K64.fe_words__least, K64.fe__places_room, K64.fe__places_entries, K64.fe__places_words, K64.fe__places__least, K64.fe__least_room, K64.fe__least_entries, K64.fe__least_words, K64.fe__least__places, K64.fe_store_pressure, K64.fe_store_always, K64.fe_store_allocations, K64.fe_store_collections, K64.fe_store__roots, K64.fe_store__held, K64.fe_store__saved, K64.fe_pressure_store, K64.fe_pressure_always, K64.fe_pressure_allocations, K64.fe_pressure_collections, K64.fe_pressure__roots, K64.fe_pressure__held, K64.fe_pressure__saved, K64.fe_always_store, K64.fe_always_pressure, K64.fe_always_allocations, K64.fe_always_collections, K64.fe_always__roots, K64.fe_always__held, K64.fe_always__saved, K64.fe_allocations_store, K64.fe_allocations_pressure, K64.fe_allocations_always, K64.fe_allocations_collections, K64.fe_allocations__roots, K64.fe_allocations__held, K64.fe_allocations__saved, K64.fe_collections_store, K64.fe_collections_pressure, K64.fe_collections_always, K64.fe_collections_allocations, K64.fe_collections__roots, K64.fe_collections__held, K64.fe_collections__saved, K64.fe__roots_store, K64.fe__roots_pressure, K64.fe__roots_always, K64.fe__roots_allocations, K64.fe__roots_collections, K64.fe__roots__held, K64.fe__roots__saved, K64.fe__held_store, K64.fe__held_pressure, K64.fe__held_always, K64.fe__held_allocations, K64.fe__held_collections, K64.fe__held__roots, K64.fe__held__saved, K64.fe__saved_store, K64.fe__saved_pressure, K64.fe__saved_always, K64.fe__saved_allocations, K64.fe__saved_collections, K64.fe__saved__roots, K64.fe__saved__held, tDGF_eq, uDGetF_e1, tLstRg, tRg1, K64.N_is_ref, K64.N_ref_of, K64.N_reached, K64.N_collect, K64.N_object_of, K64.N_row_of, K64.N_word_at, K64.N_paths, K64.N_garbage, K64.N_Store_init, K64.N_Store_exists, K64.N_Store_numbers, K64.N_Store_free_number, K64.N_Store_allocate, K64.N_Store_size, K64.N_Store_kind, K64.N_Store_get, K64.N_Store_put, K64.N_Store_slots, K64.N_Store_drop, K64.N_Store_close_up, K64.N_Space_init, K64.N_Space_root, K64.N_Space_set_root, K64.N_Space_hold, K64.N_Space_drop, K64.N_Space_held, K64.N_Space_all_roots, K64.N_Space_collect, K64.N_Space_collect_with, K64.N_Space_new, K64.N_Space_fitted, K64.N__law_number, K64.N__law_word, K64.N__law_is, K64.N__law_same, K64.N__law_sizes, K64.N__law_rows, K64.N__law_roots, K64.N__law_space, K64.N__law_walk, K64.N__law_extended, K64.N__law_best, K64.N__law_path_is, K64.N__law_told, K64.N__law_drawn, K64.N__law_kept, K64.N__law_long, K64.N_law, sp_is_ref, sp_ref_of])
local macro_rules | `(tactic| walk_at "nn") => `(tactic| first | assumption | exact ne_un (by assumption) | exact ne_un (ne_un (by assumption)) | exact ne_un (ne_un (ne_un (by assumption))) | exact ne_un (ne_un (ne_un (ne_un (by assumption)))))
local macro_rules | `(tactic| walk_at "ne") => `(tactic| first | assumption | (apply Ne.symm; assumption) | exact ne_ud (by assumption) | exact Ne.symm (ne_ud (by assumption)) | exact ne_ud (ne_un (by assumption)) | exact Ne.symm (ne_ud (ne_un (by assumption))) | exact ne_ud (ne_un (ne_un (by assumption))) | exact Ne.symm (ne_ud (ne_un (ne_un (by assumption)))) | exact ne_m (by assumption) (by assumption) | exact Ne.symm (ne_m (by assumption) (by assumption)) | exact ne_n (by assumption) (by walk_at "nn") | exact Ne.symm (ne_n (by assumption) (by walk_at "nn")))
local macro_rules | `(tactic| walk_at "hp") => `(tactic| first | assumption | exact upd_same | (refine Eq.trans (upd_ne ?_) ?_; (focus walk_at "ne"); walk_at "hp"))
local macro_rules | `(tactic| walk_at "sc") => `(tactic| first | (with_reducible assumption) | omega | exact le_line (by (try simp only [List.length_map, List.length_append, List.length_cons, List.length_nil, S_len]); omega) | exact div_s (by omega) | exact mul_r (by omega) | exact mul_l (by omega) | exact pow_s (by omega) | exact mul2_r (by omega) | exact mul2_l (by omega) | exact small4300 (by omega) | exact lt_line (by (try simp only [List.length_map, List.length_append, List.length_cons, List.length_nil, S_len]); omega) | exact ⟨_, by assumption⟩ | (guard_target =~ Exists _; exact ⟨_, .of (by walk_at "hp")⟩) | (guard_target =~ _ ∨ _; exact .inl ⟨_, by assumption⟩) | (guard_target =~ _ ∨ _; exact .inl ⟨_, .of (by walk_at "hp")⟩) | (guard_target =~ _ ∨ _; exact .inr (.inr (.inl ⟨rfl, .inl ⟨_, by walk_at "hp"⟩⟩))) | decide)
local macro_rules | `(tactic| walk_at "kr") => `(tactic| first | (guard_target =~ _ ∧ _; first | refine And.intro (by walk_at "sc") ?_) | (guard_target =~ KW.uIx _ _ _ _ _; first | refine ix_l (by walk_at "hp") (by first | walk_at "hv" | rfl) ?_ | refine ix_t (by walk_at "hp") (by first | walk_at "hv" | rfl) ?_ | refine ix_sl (by assumption) (by walk_at "hv") ?_) | (guard_target =~ KW.uLen _ _ _ _; first | refine len_l (by walk_at "hp") ?_ | refine len_t (by walk_at "hp") ?_ | refine len_sl (by assumption) ?_) | (guard_target =~ KW.uSet _ _ _ _ _; first | refine set_l (by walk_at "hp") (by first | walk_at "hv" | rfl) ?_) | (guard_target =~ L2.gTup _ _ _ _ _ _ _; first | refine tup_l (by walk_at "hp") (by rfl) ?_) | (guard_target =~ KW.uGet _ _ _ _ _; first | refine get_l (by walk_at "hp") (by walk_at "hc") (by decide) (by rfl) ?_) | (guard_target =~ KW.uPut _ _ _ _ _ _; first | refine put_l (by walk_at "hp") (by walk_at "hc") (by decide) (by simp) ?_) | (guard_target =~ KW.uMet.uMt _ _ _ _ _ _ _ _ _; first | refine met_l (by walk_at "hp") (by rfl) ?_) | (guard_target =~ KW.uMet.uMt _ _ _ _ _ _ _ _ _; first | refine ST.met_s (by assumption) (by decide) ?_) | (guard_target =~ ST.spExists _ _ _ _ _; first | refine ST.exists_s (by assumption) ?_) | (guard_target =~ ST.spUsed _ _ _ _ _; first | refine ST.used_s (by assumption) ?_) | (guard_target =~ KW.uGet _ _ _ _ _; first | refine ST.words_s (by assumption) (by walk_at "hc") (by decide) ?_) | (guard_target =~ KW.uDIn _ _ _ _; first | refine din_i (by walk_at "hp") ?_ | refine din_s (by walk_at "hp") ?_) | (guard_target =~ KW.uDGet _ _ _ _; first | refine dget_i (by walk_at "hp") (by walk_at "hv") ?_ | refine dget_s (by walk_at "hp") (by walk_at "hv") ?_) | (guard_target =~ KW.uDPut _ _ _ _ _; first | refine dput_i (by walk_at "hp") (by walk_at "sc") ?_ | refine dput_s (by walk_at "hp") (by walk_at "sc") ?_) | (guard_target =~ KW.uDDel _ _ _ _; first | refine ddel_i (by walk_at "hp") (by walk_at "hv") ?_ | refine ddel_s (by walk_at "hp") (by walk_at "hv") ?_) | (guard_target =~ KW.uMul2 _ _ _ _; first | refine rep_l (by walk_at "hp") (by walk_at "sc") (by walk_at "sc") (by walk_at "sc") ?_) | (guard_target =~ L2.rAppend _ _ _ _; first | refine app_l (by walk_at "hp") (by walk_at "sc") ?_) | (guard_target =~ L2.rPop _ _ _ _; first | refine pop_l (by walk_at "hp") (by walk_at "hv") ?_ | refine pops_l (by walk_at "hp") ?_) | (guard_target =~ L2.rClear _ _ _ _; first | refine clr_l (by walk_at "hp") ?_) | (guard_target =~ L2.rReverse _ _ _ _; first | refine rev_l (by walk_at "hp") ?_) | (guard_target =~ L2.rExtend _ _ _ _; first | refine ext_l (by walk_at "hp") (by walk_at "hp") (by walk_at "sc") ?_) | (guard_target =~ KW.uAdd _ _ _ _ _; first | refine ucat_l (by walk_at "hp") (by walk_at "hp") (by walk_at "sc") ?_) | (guard_target =~ KW.uSl _ _ _ _ _ _; first | refine usl_l (by walk_at "hp") ?_) | (guard_target =~ KW.uTru _ _ _ _; first | refine tru_l (by walk_at "hp") ?_ | refine tru_t (by walk_at "hp") ?_ | refine tru_d (by walk_at "hp") ?_ | refine tru_sl (by assumption) ?_) | (guard_target =~ L2.rIndex _ _ _ _ _; first | refine idx_s (by walk_at "hp") (by assumption) ?_ | refine idx_i (by walk_at "hp") (by assumption) ?_) | (guard_target =~ L2.rIn _ _ _ _ _ _; first | refine in_s (by walk_at "hp") ?_ | refine nin_s (by walk_at "hp") ?_ | refine in_i (by walk_at "hp") ?_ | refine nin_i (by walk_at "hp") ?_) | (guard_target =~ KW.uIsi _ _ _ _; first | refine isi_l (by walk_at "hp") (by decide +kernel) ?_ | refine isi_t (by walk_at "hp") (by decide +kernel) ?_ | refine isi_d (by walk_at "hp") (by decide +kernel) ?_) | (guard_target =~ KW.uList _ _ _ _; first | refine list_l (by walk_at "hp") ?_ | refine list_t (by walk_at "hp") ?_ | refine list_sl (by assumption) ?_) | (guard_target =~ KW.uDict _ _ _; first | refine dict_d (by walk_at "hp") ?_) | (guard_target =~ KW.uSorted _ _ _ _; first | refine srt_l (by walk_at "hp") ?_) | (guard_target =~ KW.uSum _ _ _ _; first | refine sum_l (by walk_at "hp") ?_) | (guard_target =~ KW.uDelC _ _ _ _; first | refine dels_l (by walk_at "hp") (by walk_at "sc") ?_) | (guard_target =~ L2.wAs _ _ _ _ _ _ _ _ _ _; first | refine as_yes (by walk_at "hx") ?_ | refine as_no (by walk_at "hx") ?_) | (guard_target =~ KW.uEf _ _ _ _ _ _ _ _ _; first | refine ef_l (by walk_at "he") (by decide) (by rfl) (by walk_at "hp") (by rfl) ?_) | (guard_target =~ KW.uIsE _ _ _ _ _ _ _; first | refine isE_r (by walk_at "he") (by walk_at "hp") (by walk_at "hk") ?_ | refine isE_t (by walk_at "he") (by walk_at "hp") (by walk_at "hk") ?_))
local macro_rules | `(tactic| walk_at "hv") => `(tactic| first | assumption)
local macro_rules | `(tactic| walk_at "kk") => `(tactic| repeat (first | walk_at "kw" | walk_at "kr"))
local macro_rules | `(tactic| walk_at "hc") => `(tactic| first | exact K64.Txt.c_Store (by assumption) | exact K64.Txt.c_Space (by assumption))
local macro_rules | `(tactic| walk_at "he") => `(tactic| first | exact K64.Txt.e_BadWord (by assumption) | exact K64.Txt.e_NoRoom (by assumption) | exact K64.Txt.e_NoNumber (by assumption) | exact K64.Txt.e_Wrong (by assumption))
local macro_rules | `(tactic| walk_at "hx") => `(tactic| first | exact K64.Txt.x_BadWord_NoNumber (by assumption) | exact K64.Txt.x_BadWord_NoRoom (by assumption) | exact K64.Txt.x_NoRoom_NoNumber (by assumption) | exact K64.Txt.x_NoRoom_NoRoom (by assumption) | exact K64.Txt.x_NoNumber_NoNumber (by assumption) | exact K64.Txt.x_NoNumber_NoRoom (by assumption) | exact K64.Txt.x_Wrong_NoNumber (by assumption) | exact K64.Txt.x_Wrong_NoRoom (by assumption))
local macro_rules | `(tactic| walk_at "hk") => `(tactic| first | fail)

local macro_rules | `(tactic| walk_at "kr") => `(tactic| first | (guard_target =~ KW.uGet _ _ _ _ _; refine ST.get_p (by assumption) (by rfl) (by walk_at "hc") (by decide) (by rfl) ?_) | (guard_target =~ KW.uMet.uMt _ _ _ _ _ _ _ _ _; refine ST.met_p (by assumption) (by rfl) (by decide) ?_))
section
variable {P : Program} {w : World} {K : Frag} {mg : Str → Option Value} {base : Heap} {a : Ads}
theorem ok__law_best (T : Txt P w K mg a) : Cal P w K mg base 2 "_law_best" spBest := by
  have C__law_extended := ok__law_extended (P := P) (w := w) (base := base) T
  refine T.d__law_best.ok sc__law_best (fun vs H Q E h => ?_) (fun f cdv A outer s H vs Q E hr h => ⟨_, (pss_cons (ps_set (i := 2) sc__law_best.nd rfl (Or.inl rfl) pe_dnewK)
      (pss_cons (ps_set (i := 3) sc__law_best.nd rfl (Or.inr rfl) (pe_op o_add (pe_lst (pa_cons pe_int pa_nil)) (kv 1)))
      (pss_cons (k_setLc (i := 4) (own := [("k", 5)]) (g := gName 5) (by rfl) sc__law_best.nd rfl rfl (sw_true rfl rfl rfl (by decide +kernel)) (pi_range1 (by rfl) T.n_range (pa_cons (pe_callB c_len (by rfl) T.n_len (by decide +kernel) (pa_cons (kv 3) pa_nil)) pa_nil)) (blkOk_by (own := [("k", 5)]) (N := ["rows", "words", "found", "row", "waiting", "k", "length", "pair", "number"]) (sc := defScope s__law_best) (by decide +kernel)) (fun _ _ _ _ _ => pg_name (i := 5) sc__law_best.nd rfl (Or.inl rfl)) (fun _ _ _ _ _ => pts_nil) (fun _ _ _ _ _ => by exact (pe_tup (pa_cons (pe_tup (pa_cons (kv 5) pa_nil)) (pa_cons (pe_ix (o_ixK K) (kv 3) (kv 5) (fun _ _ => rfl)) pa_nil)))))
      (pss_cons (k_for (passes_of rfl) rfl (pi_range2 (by rfl) T.n_range (pa_cons pe_int (pa_cons (pe_op o_add (pe_callB c_len (by rfl) T.n_len (by decide +kernel) (pa_cons (kv 0) pa_nil)) pe_int) pa_nil))) (pg_name (i := 6) sc__law_best.nd rfl (Or.inl rfl))
      (pss_cons (k_for (passes_of rfl) rfl (pi_list (pe_callB (c_sortD hr.units) (by rfl) T.n_sorted (by decide +kernel) (pa_cons (kv 4) pa_nil))) (pg_name (i := 7) sc__law_best.nd rfl (Or.inl rfl))
      (pss_cons (ps_set (i := 8) sc__law_best.nd rfl (Or.inl rfl) (pe_op o_fdiv (pe_ix o_ix (kv 7) pe_int (fun _ _ => rfl)) pe_int))
      (pss_one (ps_if (PW.pt (pw_and (pt_cmpR (o_eq hr.units) (pe_op o_mod (pe_ix o_ix (kv 7) pe_int (fun _ _ => rfl)) pe_int) pe_int (nomark _)) (pw_and (pt_cmpR o_lt (kv 8) (pe_callB c_len (by rfl) T.n_len (by decide +kernel) (pa_cons (kv 0) pa_nil)) (nomark _)) (pw_and1 (pt_cmp (k_dnotin (hu_of hr) (kv 8) (kv 2)))))))
      (pss_one (k_dput (hu_of hr) (kv 2) (kv 8) (pe_ix o_ix (kv 7) pe_int (fun _ _ => rfl))))
      pss_nil))))
      (pss_one (ps_set (i := 4) sc__law_best.nd rfl (Or.inl rfl) (kc C__law_extended (hr.mono (by decide)) (pa_cons (kv 0) (pa_cons (kv 2) (pa_cons (kv 6) pa_nil))))))))
      (pss_one (ps_ret (kv 2))))))), ?_⟩)
  · obtain ⟨_, _, _, _, rfl, _⟩ := h; rfl
  · obtain ⟨rl, wo, Ls, ws, rfl, Y, h⟩ := h
    obtain ⟨g, hg⟩ : ∃ g, g = gL Ls := ⟨_, rfl⟩
    rw [← hg] at h
    have l4 := Y.l4
    have l1 := Y.l1
    walk_at "kk"
    intro fl hfl
    have f1 : KW.Fr [] H (upd H fl (.dK [])) := Fr.new hfl
    have F1 : Fd (upd H fl (.dK [])) fl [] := Fd.nil upd_same
    revert f1 F1
    generalize upd H fl (.dK []) = H1
    intro f1 F1
    have W := (Y.fr0 f1).W
    walk_at "kk"
    intro t ht
    have t1 : upd H1 t (.lst [.int 0]) t = some (.lst [.int 0]) := upd_same
    have wt : wo ≠ t := ne_of_none W ht
    have w1 : upd H1 t (.lst [.int 0]) wo = some (.lst (ws.map V.int)) := by rw [upd_ne wt]; exact W
    refine ucat_l (xs := [.int 0]) (zs := ws.map V.int) t1 w1 (le_line (by simp only [List.length_map, List.length_cons, List.length_nil]; omega)) fun ra hra => ?_
    have f2 : KW.Fr [] H1 (upd (upd H1 t (.lst [.int 0])) ra (.lst ([.int 0] ++ ws.map V.int))) := (Fr.new ht).trans (Fr.new hra)
    have i2 : IL (upd (upd H1 t (.lst [.int 0])) ra (.lst ([.int 0] ++ ws.map V.int))) ra (0 :: ws) := by show upd _ _ _ _ = _; rw [upd_same]; rfl
    revert f2 i2
    generalize upd (upd H1 t (.lst [.int 0])) ra (.lst ([.int 0] ++ ws.map V.int)) = H2
    intro f2 i2
    clear t1 w1 hra ht W
    have F2 := f1.trans f2
    have D2 := F1.fr0 f2
    have evs : ∀ w ∈ 0 :: ws, Ev w := fun w hw => by
      rcases List.mem_cons.mp hw with q | q
      · subst q; exact fun _ => by omega
      · exact Y.l5 w q
    have hw2 : H2 ra = some (.lst ((0 :: ws).map V.int)) := i2
    have lr : (0 :: ws).length = ws.length + 1 := rfl
    obtain ⟨R, hR⟩ : ∃ R, R = 0 :: ws := ⟨_, rfl⟩
    rw [← hR] at evs hw2 lr h
    have lR : ((R.map V.int).length) = ws.length + 1 := by rw [List.length_map, lr]
    walk_at "kk"
    rw [Int.toNat_natCast]
    refine lc_rG (fun j Dn acc H' => ∃ Ts : List PT, acc = Ts.map (fun t => .ref t.q) ∧ wpT Ts = (ext [] R).take j ∧ Wt H' Dn Ts ∧ KW.Fr [] H2 H') (fun Dn hD => ⟨[], rfl, rfl, ⟨upd_same, by simp⟩, Fr.new hD⟩) ?_ ?_
    · rintro j Dn acc H3 Nx hj hD ⟨Ts, rfl, eT, T3, f3⟩ hnx
      have hw3 := f3 _ _ (by simp) hw2
      obtain ⟨z, hz⟩ : ∃ z, R[j]? = some z := ⟨_, List.getElem?_eq_getElem (by omega)⟩
      have hv : atI (R.map V.int) (j : Int) = some (.int z) := atI_map hz
      refine ⟨rfl, ?_⟩
      refine tYes_if ?_
      walk_at "kk"
      intro p1 hp1
      have ft : KW.Fr [] H3 (upd H3 p1 (.tup [.int j])) := Fr.new hp1
      have T4 := T3.fr0 ft
      have hw4 := ft _ _ (by simp) hw3
      have tp : upd H3 p1 (.tup [.int j]) p1 = some (.tup (([] ++ [(j : Int)]).map V.int)) := upd_same
      have F4 := f3.trans ft
      revert T4 hw4 tp F4
      generalize upd H3 p1 (.tup [.int j]) = H4
      intro T4 hw4 tp F4
      walk_at "kk"
      intro p2 hp2
      obtain ⟨q1, q2, q3⟩ := T4.pair (w := z) tp hp2
      have lT : Ts.length ≤ j := by
        have := congrArg List.length eT
        rw [List.length_map, List.length_take] at this
        omega
      refine ⟨_, q2, lt_line (by rw [List.length_map]; omega), hnx _ _ ⟨Ts ++ [⟨[] ++ [(j : Int)], z, p2, p1⟩], by rw [List.map_append]; first | rfl | skip, ?_, q3, Fr.atN (F4.trans (Fr.new hp2)) hD⟩⟩
      unfold wpT at eT ⊢
      rw [List.map_append, eT, ext_snoc [] R hz]
      try rfl
    intro wl acc H3 hwl hp
    obtain ⟨Ts, rfl, eT, T3, f3⟩ := hp
    rw [List.take_of_length_le (by rw [ext_len]; omega)] at eT
    have F3 := F2.trans f3
    have D3 := D2.fr0 f3
    have li3 := (Y.fr0 F3).R.li
    have lm : (Ls.map fun x => V.ref x.1).length = Ls.length := List.length_map ..
    obtain ⟨ks, hks⟩ : ∃ ks, ks = (List.range Ls.length).map (fun (i : Nat) => (i : Int)) := ⟨_, rfl⟩
    have N : ∀ n r, g n = some r → n ∈ ks := fun n r q => by rw [hg] at q; rw [hks]; exact gL_in n r q
    have lk : ks.length = Ls.length := by rw [hks, List.length_map, List.length_range]
    obtain ⟨PO, hPO⟩ : ∃ PO : Nat → L2.St → Hp → Prop, PO = fun i σ H' => ∃ (D : List RW) (Ts : List PT) (wl : Addr) (v5 v6 v7 v8 : Option V), σ = [some (.ref rl), some (.ref wo), some (.ref fl), some (.ref ra), some (.ref wl), v5, v6, v7, v8] ∧ KW.Fr [] H H' ∧ Fd H' fl D ∧ Wt H' wl Ts ∧ nrR D = (run g R i).1 ∧ wpT Ts = (run g R i).2 := ⟨_, rfl⟩
    walk_at "kk"
    have en : ((Ls.length : Int) + 2 - 1).toNat = Ls.length + 1 := by omega
    try rw [en]
    refine for_rng PO (by rw [hPO]; exact ⟨[], Ts, wl, _, _, _, _, rfl, F3, D3, T3, rfl, by rw [eT]; rfl⟩) ?_ ?_
    · intro i σ H4 hi hp
      rw [hPO] at hp
      obtain ⟨D, Ts, wl, v5, v6, v7, v8, rfl, F4, D4, T4, eD, eT⟩ := hp
      have RO := run_ok g R i
      have RW_ := run_words (g := g) (R := R) i
      obtain ⟨Fq, hFq⟩ : ∃ Fq, Fq = (run g R i).1 := ⟨_, rfl⟩
      obtain ⟨Wq, hWq⟩ : ∃ Wq, Wq = (run g R i).2 := ⟨_, rfl⟩
      have e1 : run g R (i + 1) = (Fq ++ bnew g (keysF Fq) Wq, (bnew g (keysF Fq) Wq).flatMap (extg g)) := by
        rw [hFq, hWq]; rfl
      have ROs := RO.srt
      rw [← hFq] at eD
      rw [← hWq] at eT RW_ ROs
      walk_at "kk"
      refine srt_wt T4 (by rw [eT]; exact ROs) fun sl hsl => ?_
      have f5 : KW.Fr [] H4 (upd H4 sl (.lst (Ts.map fun t => .ref t.q))) := Fr.new hsl
      have S5 : Wt (upd H4 sl (.lst (Ts.map fun t => .ref t.q))) sl Ts := ⟨upd_same, fun t m => (T4.tt t m).fr0 f5⟩
      have D5 := D4.fr0 f5
      have F5 := F4.trans f5
      revert f5 S5 D5 F5
      generalize upd H4 sl (.lst (Ts.map fun t => .ref t.q)) = H5
      intro f5 S5 D5 F5
      clear f5 T4 D4 F4 hsl
      obtain ⟨QI, hQI⟩ : ∃ QI : Nat → L2.St → Hp → Prop, QI = fun j σ H' => ∃ (D' : List RW) (v7 v8 : Option V), σ = [some (.ref rl), some (.ref wo), some (.ref fl), some (.ref ra), some (.ref wl), v5, some (.int (1 + (i : Int))), v7, v8] ∧ KW.Fr [] H H' ∧ Fd H' fl D' ∧ Wt H' sl Ts ∧ nrR D' = Fq ++ bnew g (keysF Fq) (Wq.take j) := ⟨_, rfl⟩
      refine ⟨sl, rfl, ⟨_, .of S5.li⟩, ?_⟩
      refine for_lst (xs := Ts.map fun t => .ref t.q) QI (by rw [hQI]; exact ⟨D, _, _, rfl, F5, D5, S5, by simp [bnew, eD]⟩) ?_ ?_ ?_
      · rintro j σ H6 - hp
        rw [hQI] at hp
        obtain ⟨_, _, _, _, _, _, hT6, _⟩ := hp
        exact .of hT6.li
      · intro j x σ H6 hx hp
        rw [hQI] at hp
        obtain ⟨D', v7, v8, rfl, F6, D6, T6, eD6⟩ := hp
        rw [List.getElem?_map] at hx
        obtain ⟨t, ht, rfl⟩ := Option.map_eq_some_iff.mp hx
        have tat := T6.tt t (List.mem_of_getElem? ht)
        have hWj : Wq[j]? = some (t.p, t.w) := by rw [← eT]; unfold wpT; rw [List.getElem?_map, ht]; rfl
        have tq := tat.1
        have li6 := (Y.fr0 F6).R.li
        have dc6 := D6.dc
        have evw : Ev t.w := by
          rcases RW_ _ (List.mem_of_getElem? hWj) with q | ⟨n, r, q1, q2⟩
          · exact evs _ q
          · rw [hg] at q1; exact (gL_ev Y q1).2 _ q2
        have nx := bnew_next hWj eD6
        have gis : (g (t.w / 2)).isSome = decide (0 ≤ t.w / 2 ∧ t.w / 2 < Ls.length) := by rw [hg]; exact gL_is
        have tv0 : atI [V.ref t.pa, V.int t.w] 0 = some (.ref t.pa) := rfl
        have tv1 : atI [V.ref t.pa, V.int t.w] 1 = some (.int t.w) := rfl
        have no : ¬ (t.w % 2 = 0 ∧ t.w / 2 ∉ nsR D' ∧ (g (t.w / 2)).isSome = true) → QI (j + 1) [some (.ref rl), some (.ref wo), some (.ref fl), some (.ref ra), some (.ref wl), v5, some (.int (1 + (i : Int))), some (.ref t.q), some (.int (t.w / 2))] H6 := fun hc => by
          rw [if_neg hc, List.append_nil] at nx
          rw [hQI]
          exact ⟨D', _, _, rfl, F6, D6, T6, by rw [nx]; exact eD6⟩
        walk_at "kk"
        by_cases c : t.w % 2 = 0
        · rw [if_pos c]
          have w0 := evw c
          walk_at "kk"
          by_cases c1 : t.w / 2 < Ls.length
          · rw [if_pos (by first | exact decide_eq_true c1 | exact c1 | simpa using c1)]
            refine din_i dc6 ?_
            rw [val_is]
            by_cases c2 : t.w / 2 ∈ nsR D'
            · rw [if_neg (by simp [c2])]
              exact no fun z => z.2.1 c2
            · rw [if_pos (by simp [c2])]
              have gs : (g (t.w / 2)).isSome = true := by rw [gis]; exact decide_eq_true ⟨by omega, c1⟩
              rw [if_pos ⟨c, c2, gs⟩] at nx
              have lD' : D'.length ≤ 60 := by
                have := D6.nd.length_le_of_subset (l₂ := ks) fun n hn => by
                  have h1 : n ∈ keysF (nrR D') := by rw [keysF_nr]; exact hn
                  rw [eD6] at h1
                  obtain ⟨y, hy, e⟩ := List.mem_map.mp h1
                  rcases List.mem_append.mp hy with q | q
                  · have h2 := RO.dw.sF n (List.mem_map.mpr ⟨y, by rw [← hFq]; exact q, e⟩)
                    obtain ⟨r, hr⟩ := h2.some
                    exact N _ _ hr
                  · obtain ⟨w, _, _, _, h3⟩ := bnew_mem q
                    obtain ⟨r, hr⟩ := Option.isSome_iff_exists.mp h3
                    rw [← e]; exact N _ _ hr
                rw [List.length_map] at this
                omega
              walk_at "kk"
              refine dput_i dc6 (lt_line (by rw [kvR_len]; omega)) ?_
              rw [hQI]
              refine ⟨D' ++ [⟨t.w / 2, t.p, t.pa⟩], _, _, rfl, Fr.atN F6 hfl, D6.put tat c2, T6.upd dc6 (by simp) (fun z => by have h1 := T6.li; rw [z, dc6] at h1; cases h1), ?_⟩
              rw [nx]
              unfold nrR at eD6 ⊢
              rw [List.map_append, eD6, List.append_assoc]; rfl
          · rw [if_neg (by simpa using c1)]
            exact no fun z => by
              have := z.2.2
              rw [gis, decide_eq_true_eq] at this
              exact c1 this.2
        · rw [if_neg c]
          exact no fun z => c z.1
      · intro σ H6 hp
        rw [hQI] at hp
        obtain ⟨D', v7, v8, rfl, F6, D6, T6, eD6⟩ := hp
        rw [List.length_map, show Ts.length = Wq.length from by rw [← eT]; simp, List.take_length] at eD6
        walk_at "kk"
        have e2 : nrR D' = (run g R (i + 1)).1 := by rw [e1]; exact eD6
        have RO2 := run_ok g R (i + 1)
        have RL := run_lenF (R := R) N (i + 1)
        rw [← e2, List.length_map] at RL
        rw [show (1 : Int) + (i : Int) = ((1 + i : Nat) : Int) by omega]
        refine ⟨rl, fl, wo, 1 + i, Ls, ws, D', rfl, Y.fr0 F6, D6, fun d hd => ?_, by omega, fun d hd => ?_, fun wl2 H7 T7 n7 f7 W7 e7 => ?_⟩
        · have : d.n ∈ keysF (run g R (i + 1)).1 := by
            rw [← e2, keysF_nr]; exact List.mem_map.mpr ⟨d, hd, rfl⟩
          rw [← hg]; exact (RO2.dw.sF _ this).some
        · have : (d.n, d.r) ∈ (run g R (i + 1)).1 := by rw [← e2]; exact List.mem_map.mpr ⟨d, hd, rfl⟩
          have := RO2.flen _ this
          dsimp only at this
          omega
        · walk_at "kk"
          rw [hPO]
          refine ⟨D', T7, wl2, _, _, _, _, by rw [show ((1 + i : Nat) : Int) = (1 : Int) + (i : Int) by omega], F6.trans f7, D6.fr0 f7, W7, e2, ?_⟩
          rw [e7, ← hg, e2, Nat.add_comm 1 i]
          exact lext_run g R i
    · intro σ H4 hp
      rw [hPO] at hp
      obtain ⟨D, Ts, wl, v5, v6, v7, v8, rfl, F4, D4, T4, eD, eT⟩ := hp
      walk_at "kk"
      exact h fl H4 D _ hfl F4 D4 (by rw [← lk]; exact run_end N) eD
end
end K64

set_option Elab.async false
set_option linter.all false
set_option maxRecDepth 100000
set_option maxHeartbeats 4000000
namespace K64
open PySem PySem.Spec PyProof.Rows L2 KW ST LamX
local macro_rules | `(tactic| walk_at "kw") => `(tactic| simp only [tSeq, tNext, tIfS, tTest, tAnd, tOr, tNot, tAndV, tOrV, tNotV, tIf, tChain, tOp, tUn, tC, tAsg, gName, gSub, gCons, gNil, tRet, tRetN, tDrop, tCons, tNil, tCB, tAug, tSl, tPart, tNoPart, tLst, tTup, tBM, tBM0, uTest, uFor, iRng1, iRng2, iList, uCall, List.map_cons, List.map_nil, List.length_cons, List.length_nil, List.cons_append, List.nil_append, List.replicate, Nat.zero_add, Nat.reduceAdd, Nat.reduceSub, List.getElem?_cons_zero, List.getElem?_cons_succ, List.set_cons_zero, List.set_cons_succ, V.bl.injEq, V.int.injEq, V.str.injEq, V.ref.injEq, V.ty.injEq, List.cons.injEq, and_true, true_and, exists_eq_left', exists_eq_right, exists_eq_left, exists_and_left, exists_and_right, decide_eq_true_eq, Bool.not_eq_true', decide_eq_false_iff_not, Bool.false_eq_true, if_true, if_false, ite_true, ite_false, Bool.not_true, Bool.not_false, reduceCtorEq, decide_true, decide_false, Bool.not_not, isK_int_int, isK_int_bool, isK_int_str, isK_int_list, isK_int_tuple, isK_bool_int, isK_bool_bool, isK_bool_str, isK_str_str, isK_str_int, isK_str_bool, isK_str_tuple, isK_str_list, isK_list_list, isK_list_tuple, isK_tuple_tuple, isK_tuple_list, isOk_int_int, isOk_int_bool, isOk_int_str, isOk_int_list, isOk_int_tuple, isOk_bool_int, isOk_bool_bool, isOk_bool_str, isOk_str_str, isOk_str_int, isOk_str_bool, isOk_str_tuple, isOk_str_list, isOk_list_list, isOk_list_tuple, isOk_tuple_tuple, isOk_tuple_list, isK_dict_dict, isOk_dict_dict, isK_none_int, isK_none_bool, isOk_none_int, isOk_none_bool, tyV, S_inj, S_cat, L2.start, Nat.reduceSub, List.replicate_succ, List.replicate_zero, and_assoc, List.append_nil, Nat.reduceEqDiff, Option.some.injEq, Int.natCast_inj, upd_upd, Int.reducePow, Int.reduceToNat, Int.reduceMul, Int.reduceAdd, Int.reduceSub, Int.reduceLT, Int.reduceLE, Int.reduceNeg, Int.reduceDiv, Int.reduceMod, Nat.reducePow, Nat.reduceMul, S_len, List.length_append, List.length_map, List.length_range, not_true_eq_false, not_false_eq_true, ne_eq, uAdd_e1, uAdd_e2, uSub_e1, uMod_e1, uDiv_e1, uPow_e1, uShl_e1, uNeg_e1, uIAdd_e1, uIAdd_e2, uIAdd_e3, uISub_e1, uLt_e1, uLt_e2, uLe_e1, uGt_e1, uGe_e1, uEq_e1, uEq_e2, uEq_e3, uEq_e4, uEq_e5, uEq_e6, uEq_e7, uEq_e8, uEq_e9, uEq_e10, uEq_e11, uNe_e1, uNe_e2, uNe_e3, uNe_e4, uNe_e5, uNe_e6, uNe_e7, uNe_e8, uNe_e9, uNe_e10, uNe_e11, uIs_e1, uIs_e2, uIs_e3, uIs_e4, uIs_e5, uIs_e6, uIs_e7, uNotIs_e1, uNotIs_e2, uNotIs_e3, uNotIs_e4, uNotIs_e5, uNotIs_e6, uIn_e1, uIn_e2, uIn_e3, uIn_e4, uNotIn_e1, uNotIn_e2, uNotIn_e3, uNotIn_e4, uTru_e1, uTru_e2, uTru_e3, uTru_e4, uIx_e2, uSl_e2, uLen_e1, uAbs_e1, uInt_e1, uInt_e2, uMin2_e1, uIsi_e1, uIsi_e2, uIsi_e3, uIsi_e4, cx_K, uVar_0, uVar_n, uFld, uSFld, uMet, uMake, tDG, tDI, tDNI, tDP, tDD, uMk, uRaise, uDelSl, tCallS, L2.WE, uStr_e1, uStr_e2, uMul2_e1, uMul2_e2, okS_i, okS_s, List.zip_cons_cons, List.zip_nil_left, List.drop_zero, List.drop_succ_cons, List.drop_nil, putF_nil, putF_cons, eq_self, tDNewK, tB, Option.isSome_some, Option.isSome_none, false_and, false_or, or_false, exists_false, Int.zero_add, uLc, wipe, tYes, isEmpty_app, List.isEmpty_cons, List.isEmpty_nil, List.isEmpty_map, Bool.and_false, Bool.and_true, iRev, K64.lit_0, K64.fe_room_entries, K64.fe_room_words, K64.fe_room__places, K64.fe_room__least, K64.fe_entries_room, K64.fe_entries_words, K64.fe_entries__places, K64.fe_entries__least, K64.fe_words_room, K64.fe_words_entries, K64.fe_words__places, K64.fe_words__least, K64.fe__places_room, K64.fe__places_entries, K64.fe__places_words, K64.fe__places__least, K64.fe__least_room, K64.fe__least_entries, K64.fe__least_words, K64.fe__least__places, K64.fe_store_pressure, K64.fe_store_always, K64.fe_store_allocations, K64.fe_store_collections, K64.fe_store__roots, K64.fe_store__held, K64.fe_store__saved, K64.fe_pressure_store, K64.fe_pressure_always, K64.fe_pressure_allocations, K64.fe_pressure_collections, K64.fe_pressure__roots, K64.fe_pressure__held, K64.fe_pressure__saved, K64.fe_always_store, K64.fe_always_pressure, K64.fe_always_allocations, K64.fe_always_collections, K64.fe_always__roots, K64.fe_always__held, K64.fe_always__saved, K64.fe_allocations_store, K64.fe_allocations_pressure, K64.fe_allocations_always, K64.fe_allocations_collections, K64.fe_allocations__roots, K64.fe_allocations__held, K64.fe_allocations__saved, K64.fe_collections_store, K64.fe_collections_pressure, K64.fe_collections_always, K64.fe_collections_allocations, K64.fe_collections__roots, K64.fe_collections__held, K64.fe_collections__saved, K64.fe__roots_store, K64.fe__roots_pressure, K64.fe__roots_always, K64.fe__roots_allocations, K64.fe__roots_collections, K64.fe__roots__held, K64.fe__roots__saved, K64.fe__held_store, K64.fe__held_pressure, K64.fe__held_always, K64.fe__held_allocations, K64.fe__held_collections, K64.fe__held__roots, K64.fe__held__saved, K64.fe__saved_store, K64.fe__saved_pressure, K64.fe__saved_always, K64.fe__saved_allocations, K64.fe__saved_collections, K64.fe__saved__roots, K64.fe__saved__held, tDGF_eq, uDGetF_e1, tLstRg, tRg1, K64.N_is_ref, K64.N_ref_of, K64.N_reached, K64.N_collect, K64.N_object_of, K64.N_row_of, K64.N_word_at, K64.N_paths, K64.N_garbage, K64.N_Store_init, K64.N_Store_exists, K64.N_Store_numbers, K64.N_Store_free_number, K64.N_Store_allocate, K64.N_Store_size, K64.N_Store_kind, K64.N_Store_get, K64.N_Store_put, K64.N_Store_slots, K64.N_Store_drop, K64.N_Store_close_up, K64.N_Space_init, K64.N_Space_root, K64.N_Space_set_root, K64.N_Space_hold, K64.N_Space_drop, K64.N_Space_held, K64.N_Space_all_roots, K64.N_Space_collect, K64.N_Space_collect_with, K64.N_Space_new, K64.N_Space_fitted, K64.N__law_number, K64.N__law_word, K64.N__law_is, K64.N__law_same, K64.N__law_sizes, K64.N__law_rows, K64.N__law_roots, K64.N__law_space, K64.N__law_walk, K64.N__law_extended, K64.N__law_best, K64.N__law_path_is, K64.N__law_told, K64.N__law_drawn, K64.N__law_kept, K64.N__law_long, K64.N_law, sp_is_ref, sp_ref_of])
local macro_rules | `(tactic| walk_at "nn") => `(tactic| first | assumption | exact ne_un (by assumption) | exact ne_un (ne_un (by assumption)) | exact ne_un (ne_un (ne_un (by assumption))) | exact ne_un (ne_un (ne_un (ne_un (by assumption)))))
local macro_rules | `(tactic| walk_at "ne") => `(tactic| first | assumption | (apply Ne.symm; assumption) | exact ne_ud (by assumption) | exact Ne.symm (ne_ud (by assumption)) | exact ne_ud (ne_un (by assumption)) | exact Ne.symm (ne_ud (ne_un (by assumption))) | exact ne_ud (ne_un (ne_un (by assumption))) | exact Ne.symm (ne_ud (ne_un (ne_un (by assumption)))) | exact ne_m (by assumption) (by assumption) | exact Ne.symm (ne_m (by assumption) (by assumption)) | exact ne_n (by assumption) (by walk_at "nn") | exact Ne.symm (ne_n (by assumption) (by walk_at "nn")))
local macro_rules | `(tactic| walk_at "hp") => `(tactic| first | assumption | exact upd_same | (refine Eq.trans (upd_ne ?_) ?_; (focus walk_at "ne"); walk_at "hp"))
local macro_rules | `(tactic| walk_at "sc") => `(tactic| first | (with_reducible assumption) | omega | exact le_line (by (try simp only [List.length_map, List.length_append, List.length_cons, List.length_nil, S_len]); omega) | exact div_s (by omega) | exact mul_r (by omega) | exact mul_l (by omega) | exact pow_s (by omega) | exact mul2_r (by omega) | exact mul2_l (by omega) | exact small4300 (by omega) | exact lt_line (by (try simp only [List.length_map, List.length_append, List.length_cons, List.length_nil, S_len]); omega) | exact ⟨_, by assumption⟩ | (guard_target =~ Exists _; exact ⟨_, .of (by walk_at "hp")⟩) | (guard_target =~ _ ∨ _; exact .inl ⟨_, by assumption⟩) | (guard_target =~ _ ∨ _; exact .inl ⟨_, .of (by walk_at "hp")⟩) | (guard_target =~ _ ∨ _; exact .inr (.inr (.inl ⟨rfl, .inl ⟨_, by walk_at "hp"⟩⟩))) | decide)
local macro_rules | `(tactic| walk_at "kr") => `(tactic| first | (guard_target =~ _ ∧ _; first | refine And.intro (by walk_at "sc") ?_) | (guard_target =~ KW.uIx _ _ _ _ _; first | refine ix_l (by walk_at "hp") (by first | walk_at "hv" | rfl) ?_ | refine ix_t (by walk_at "hp") (by first | walk_at "hv" | rfl) ?_ | refine ix_sl (by assumption) (by walk_at "hv") ?_) | (guard_target =~ KW.uLen _ _ _ _; first | refine len_l (by walk_at "hp") ?_ | refine len_t (by walk_at "hp") ?_ | refine len_sl (by assumption) ?_) | (guard_target =~ KW.uSet _ _ _ _ _; first | refine set_l (by walk_at "hp") (by first | walk_at "hv" | rfl) ?_) | (guard_target =~ L2.gTup _ _ _ _ _ _ _; first | refine tup_l (by walk_at "hp") (by rfl) ?_) | (guard_target =~ KW.uGet _ _ _ _ _; first | refine get_l (by walk_at "hp") (by walk_at "hc") (by decide) (by rfl) ?_) | (guard_target =~ KW.uPut _ _ _ _ _ _; first | refine put_l (by walk_at "hp") (by walk_at "hc") (by decide) (by simp) ?_) | (guard_target =~ KW.uMet.uMt _ _ _ _ _ _ _ _ _; first | refine met_l (by walk_at "hp") (by rfl) ?_) | (guard_target =~ KW.uMet.uMt _ _ _ _ _ _ _ _ _; first | refine ST.met_s (by assumption) (by decide) ?_) | (guard_target =~ ST.spExists _ _ _ _ _; first | refine ST.exists_s (by assumption) ?_) | (guard_target =~ ST.spUsed _ _ _ _ _; first | refine ST.used_s (by assumption) ?_) | (guard_target =~ KW.uGet _ _ _ _ _; first | refine ST.words_s (by assumption) (by walk_at "hc") (by decide) ?_) | (guard_target =~ KW.uDIn _ _ _ _; first | refine din_i (by walk_at "hp") ?_ | refine din_s (by walk_at "hp") ?_) | (guard_target =~ KW.uDGet _ _ _ _; first | refine dget_i (by walk_at "hp") (by walk_at "hv") ?_ | refine dget_s (by walk_at "hp") (by walk_at "hv") ?_) | (guard_target =~ KW.uDPut _ _ _ _ _; first | refine dput_i (by walk_at "hp") (by walk_at "sc") ?_ | refine dput_s (by walk_at "hp") (by walk_at "sc") ?_) | (guard_target =~ KW.uDDel _ _ _ _; first | refine ddel_i (by walk_at "hp") (by walk_at "hv") ?_ | refine ddel_s (by walk_at "hp") (by walk_at "hv") ?_) | (guard_target =~ KW.uMul2 _ _ _ _; first | refine rep_l (by walk_at "hp") (by walk_at "sc") (by walk_at "sc") (by walk_at "sc") ?_) | (guard_target =~ L2.rAppend _ _ _ _; first | refine app_l (by walk_at "hp") (by walk_at "sc") ?_) | (guard_target =~ L2.rPop _ _ _ _; first | refine pop_l (by walk_at "hp") (by walk_at "hv") ?_ | refine pops_l (by walk_at "hp") ?_) | (guard_target =~ L2.rClear _ _ _ _; first | refine clr_l (by walk_at "hp") ?_) | (guard_target =~ L2.rReverse _ _ _ _; first | refine rev_l (by walk_at "hp") ?_) | (guard_target =~ L2.rExtend _ _ _ _; first | refine ext_l (by walk_at "hp") (by walk_at "hp") (by walk_at "sc") ?_) | (guard_target =~ KW.uAdd _ _ _ _ _; first | refine ucat_l (by walk_at "hp") (by walk_at "hp") (by walk_at "sc") ?_) | (guard_target =~ KW.uSl _ _ _ _ _ _; first | refine usl_l (by walk_at "hp") ?_) | (guard_target =~ KW.uTru _ _ _ _; first | refine tru_l (by walk_at "hp") ?_ | refine tru_t (by walk_at "hp") ?_ | refine tru_d (by walk_at "hp") ?_ | refine tru_sl (by assumption) ?_) | (guard_target =~ L2.rIndex _ _ _ _ _; first | refine idx_s (by walk_at "hp") (by assumption) ?_ | refine idx_i (by walk_at "hp") (by assumption) ?_) | (guard_target =~ L2.rIn _ _ _ _ _ _; first | refine in_s (by walk_at "hp") ?_ | refine nin_s (by walk_at "hp") ?_ | refine in_i (by walk_at "hp") ?_ | refine nin_i (by walk_at "hp") ?_) | (guard_target =~ KW.uIsi _ _ _ _; first | refine isi_l (by walk_at "hp") (by decide +kernel) ?_ | refine isi_t (by walk_at "hp") (by decide +kernel) ?_ | refine isi_d (by walk_at "hp") (by decide +kernel) ?_) | (guard_target =~ KW.uList _ _ _ _; first | refine list_l (by walk_at "hp") ?_ | refine list_t (by walk_at "hp") ?_ | refine list_sl (by assumption) ?_) | (guard_target =~ KW.uDict _ _ _; first | refine dict_d (by walk_at "hp") ?_) | (guard_target =~ KW.uSorted _ _ _ _; first | refine srt_l (by walk_at "hp") ?_) | (guard_target =~ KW.uSum _ _ _ _; first | refine sum_l (by walk_at "hp") ?_) | (guard_target =~ KW.uDelC _ _ _ _; first | refine dels_l (by walk_at "hp") (by walk_at "sc") ?_) | (guard_target =~ L2.wAs _ _ _ _ _ _ _ _ _ _; first | refine as_yes (by walk_at "hx") ?_ | refine as_no (by walk_at "hx") ?_) | (guard_target =~ KW.uEf _ _ _ _ _ _ _ _ _; first | refine ef_l (by walk_at "he") (by decide) (by rfl) (by walk_at "hp") (by rfl) ?_) | (guard_target =~ KW.uIsE _ _ _ _ _ _ _; first | refine isE_r (by walk_at "he") (by walk_at "hp") (by walk_at "hk") ?_ | refine isE_t (by walk_at "he") (by walk_at "hp") (by walk_at "hk") ?_))
local macro_rules | `(tactic| walk_at "hv") => `(tactic| first | assumption)
local macro_rules | `(tactic| walk_at "kk") => `(tactic| repeat (first | walk_at "kw" | walk_at "kr"))
local macro_rules | `(tactic| walk_at "hc") => `(tactic| first | exact K64.Txt.c_Store (by assumption) | exact K64.Txt.c_Space (by assumption))
local macro_rules | `(tactic| walk_at "he") => `(tactic| first | exact K64.Txt.e_BadWord (by assumption) | exact K64.Txt.e_NoRoom (by assumption) | exact K64.Txt.e_NoNumber (by assumption) | exact K64.Txt.e_Wrong (by assumption))
local macro_rules | `(tactic| walk_at "hx") => `(tactic| first | exact K64.Txt.x_BadWord_NoNumber (by assumption) | exact K64.Txt.x_BadWord_NoRoom (by assumption) | exact K64.Txt.x_NoRoom_NoNumber (by assumption) | exact K64.Txt.x_NoRoom_NoRoom (by assumption) | exact K64.Txt.x_NoNumber_NoNumber (by assumption) | exact K64.Txt.x_NoNumber_NoRoom (by assumption) | exact K64.Txt.x_Wrong_NoNumber (by assumption) | exact K64.Txt.x_Wrong_NoRoom (by assumption))
local macro_rules | `(tactic| walk_at "hk") => `(tactic| first | fail)

local macro_rules | `(tactic| walk_at "kr") => `(tactic| first | (guard_target =~ KW.uGet _ _ _ _ _; refine ST.get_p (by assumption) (by rfl) (by walk_at "hc") (by decide) (by rfl) ?_) | (guard_target =~ KW.uMet.uMt _ _ _ _ _ _ _ _ _; refine ST.met_p (by assumption) (by rfl) (by decide) ?_))
section
variable {P : Program} {w : World} {K : Frag} {mg : Str → Option Value} {base : Heap} {a : Ads}
theorem ok_word_at (T : Txt P w K mg a) : Cal P w K mg base 4 "word_at" (spWordAt a.Space a.Store) := by
  have M_Space_all_roots := ok_Space_all_roots (P := P) (w := w) (base := base) T
  have C_object_of := ok_object_of (P := P) (w := w) (base := base) T
  have C_row_of := ok_row_of (P := P) (w := w) (base := base) T
  refine T.d_word_at.ok sc_word_at (fun vs H Q E h => ?_) (fun f cdv A outer s H vs Q E hr h => ⟨_, (pss_cons (ps_set (i := 2) sc_word_at.nd rfl (Or.inl rfl) (km0 M_Space_all_roots (hr.mono (by decide)) (kv 0)))
      (pss_cons (ps_set (i := 3) sc_word_at.nd rfl (Or.inl rfl) pe_non)
      (pss_cons (k_for (passes_of rfl) rfl (pi_range1 (by rfl) T.n_range (pa_cons (pe_callB c_len (by rfl) T.n_len (by decide +kernel) (pa_cons (kv 1) pa_nil)) pa_nil)) (pg_name (i := 4) sc_word_at.nd rfl (Or.inl rfl))
      (C8.pss_cut (ps_if (pt_cmpR o_gt (kv 4) pe_int (nomark _))
      (pss_cons (ps_set (i := 5) sc_word_at.nd rfl (Or.inl rfl) (kc C_object_of (hr.mono (by decide)) (pa_cons (kv 0) (pa_cons (kv 3) pa_nil))))
      (pss_cons (ps_if (pt_cmpR o_is (kv 5) pe_non (nomark _))
      (pss_one (ps_ret pe_non))
      pss_nil)
      (pss_one (ps_set (i := 2) sc_word_at.nd rfl (Or.inl rfl) (kc C_row_of (hr.mono (by decide)) (pa_cons (kv 0) (pa_cons (kv 5) pa_nil)))))))
      pss_nil)
      (pss_cons (ps_if (pt_not (pt_chain o_le o_lt pe_int (pe_ix o_ix (kv 1) (kv 4) (fun _ _ => rfl)) (pe_callB c_len (by rfl) T.n_len (by decide +kernel) (pa_cons (kv 2) pa_nil))))
      (pss_one (ps_ret pe_non))
      pss_nil)
      (pss_one (ps_set (i := 3) sc_word_at.nd rfl (Or.inl rfl) (pe_ix o_ix (kv 2) (pe_ix o_ix (kv 1) (kv 4) (fun _ _ => rfl)) (fun _ _ => rfl)))))))
      (pss_one (ps_ret (kv 3)))))), ?_⟩)
  · obtain ⟨_, _, _, rfl, _⟩ := h; rfl
  · obtain ⟨d, p, path, rfl, Z, hp, lp, h⟩ := h
    obtain ⟨g, hg⟩ : ∃ g, g = gB d.B := ⟨_, rfl⟩
    rw [← hg] at h
    have bd := Z.bd
    walk_at "kk"
    refine allRoots_s Z fun wo H2 n2 f2 i2 => ?_
    have p2 := f2 _ _ (by simp) hp
    walk_at "kk"
    rw [Int.toNat_natCast]
    obtain ⟨Pv, hPv⟩ : ∃ Pv : Nat → L2.St → Hp → Prop, Pv = fun k σ H' => ∃ (rl : Addr) (row : List Int) (v : V) (v4 v5 : Option V), σ = [some (.ref d.sp), some (.ref p), some (.ref rl), some v, v4, v5] ∧ KW.Fr [] H H' ∧ IL H' rl row ∧ (k = 0 → row = d.ws) ∧ WaSt g d.ws path k v := ⟨_, rfl⟩
    refine for_rng Pv (by rw [hPv]; exact ⟨wo, d.ws, .non, _, _, rfl, f2, i2, fun _ => rfl, WaSt.init _ _ _⟩) ?_ ?_
    · intro k σ H3 hk hpv
      rw [hPv] at hpv
      obtain ⟨rl, row, v, v4, v5, rfl, f3, i3, hr0, S⟩ := hpv
      have Z3 := Z.fr0 f3
      have p3 := f3 _ _ (by simp) hp
      obtain ⟨z, hz⟩ : ∃ z, path[k]? = some z := ⟨_, List.getElem?_eq_getElem hk⟩
      have hv : atI (path.map V.int) (k : Int) = some (.int z) := atI_map hz
      refine ⟨fun σ H' => ∃ (rl2 : Addr) (row2 : List Int) (v5 : Option V), σ = [some (.ref d.sp), some (.ref p), some (.ref rl2), some v, some (.int k), v5] ∧ KW.Fr [] H H' ∧ IL H' rl2 row2 ∧ row2.length ≤ 100000 ∧ ((k = 0 ∧ row2 = d.ws) ∨ (0 < k ∧ ∃ w, v = .int w ∧ stepG g w = some row2)), ?_, ?_⟩
      · walk_at "kk"
        split
        · rename_i k0
          have k0 : 0 < k := by omega
          obtain ⟨w, rfl, _, _⟩ := S.2 k0
          refine objOf_s Z3 ?_
          have lvg : lv d.B (w / 2) = (g (w / 2)).isSome := by rw [hg, gB_lv]
          by_cases c : w % 2 = 0 ∧ lv d.B (w / 2) = true
          · simp only [if_pos c]
            obtain ⟨r, hr⟩ := Option.isSome_iff_exists.mp (lvg ▸ c.2)
            walk_at "kk"
            refine rowOf_s Z3 (by rw [← hg]; exact hr) fun rl2 H4 n4 f4 i4 => ?_
            have LB := lenB Z.S.nd [([], w)] []
            rw [← hg, bnew_one, if_pos ⟨c.1, by simp, by rw [hr]; rfl⟩] at LB
            have ex : [(w / 2, ([] : List Int))].flatMap (extg g) = ext [] r := by
              show extg g (w / 2, []) ++ [] = _
              rw [List.append_nil]; unfold extg; rw [hr]; rfl
            rw [ex, ext_len] at LB
            walk_at "kk"
            exact ⟨f3.trans f4, r, i4, by omega, .inr ⟨k0, by unfold stepG; rw [if_pos c.1]; exact hr⟩⟩
          · simp only [if_neg c]
            have hs : stepG g w = none := by
              unfold stepG
              split
              · rename_i e
                cases hn : g (w / 2) with
                | none => rfl
                | some r => exact absurd ⟨e, by rw [lvg, hn]; rfl⟩ c
              · rfl
            walk_at "kk"
            have := h H3 f3
            rwa [S.stop k0 hk hs] at this
        · have k0 : k = 0 := by omega
          walk_at "kk"
          have lw : d.ws.length = d.R.length + d.L.length + 1 := by unfold Spd.ws; simp
          have r16 := Z.r16
          have l9 := Z.l9
          have er := hr0 k0
          subst er
          exact ⟨_, i3, by omega, .inl ⟨k0, rfl⟩⟩
      rintro σ H4 ⟨rl2, row2, v5, rfl, f4, i4, lr, hr⟩
      have ST := S.step hz hr
      have p4 := f4 _ _ (by simp) hp
      have i4' : H4 rl2 = some (.lst (row2.map V.int)) := i4
      walk_at "kk"
      have non : ixP row2 z = none → Q .non H4 := fun e => by
        have := h H4 f4
        rwa [ST.1 e] at this
      by_cases z0 : 0 ≤ z
      · rw [if_pos z0]
        obtain ⟨zn, rfl⟩ : ∃ zn : Nat, z = zn := ⟨z.toNat, by omega⟩
        walk_at "kk"
        split
        · rename_i c
          exact non (by unfold ixP; rw [if_pos (by omega), Int.toNat_natCast]; exact List.getElem?_eq_none (by simp at c; omega))
        · rename_i c
          obtain ⟨w', hw'⟩ : ∃ w', row2[zn]? = some w' := ⟨_, List.getElem?_eq_getElem (by simp at c; omega)⟩
          have hv2 : atI (row2.map V.int) (zn : Int) = some (.int w') := atI_map hw'
          walk_at "kk"
          rw [hPv]
          exact ⟨_, _, _, _, _, rfl, f4, i4, fun e => by omega, ST.2 w' (by unfold ixP; rw [if_pos (by omega), Int.toNat_natCast]; exact hw')⟩
      · rw [if_neg z0]
        exact non (by unfold ixP; rw [if_neg z0])
    · intro σ H3 hpv
      rw [hPv] at hpv
      obtain ⟨rl, row, v, v4, v5, rfl, f3, i3, hr0, S⟩ := hpv
      walk_at "kk"
      rw [S.done]
      exact h H3 f3
end
end K64

set_option Elab.async false
set_option linter.all false
set_option maxRecDepth 100000
set_option maxHeartbeats 4000000
namespace K64
open PySem PySem.Spec PyProof.Rows L2 KW ST LamX
local macro_rules | `(tactic| walk_at "kw") => `(tactic| simp only [tSeq, tNext, tIfS, tTest, tAnd, tOr, tNot, tAndV, tOrV, tNotV, tIf, tChain, tOp, tUn, tC, tAsg, gName, gSub, gCons, gNil, tRet, tRetN, tDrop, tCons, tNil, tCB, tAug, tSl, tPart, tNoPart, tLst, tTup, tBM, tBM0, uTest, uFor, iRng1, iRng2, iList, uCall, List.map_cons, List.map_nil, List.length_cons, List.length_nil, List.cons_append, List.nil_append, List.replicate, Nat.zero_add, Nat.reduceAdd, Nat.reduceSub, List.getElem?_cons_zero, List.getElem?_cons_succ, List.set_cons_zero, List.set_cons_succ, V.bl.injEq, V.int.injEq, V.str.injEq, V.ref.injEq, V.ty.injEq, List.cons.injEq, and_true, true_and, exists_eq_left', exists_eq_right, exists_eq_left, exists_and_left, exists_and_right, decide_eq_true_eq, Bool.not_eq_true', decide_eq_false_iff_not, Bool.false_eq_true, if_true, if_false, ite_true, ite_false, Bool.not_true, Bool.not_false, reduceCtorEq, decide_true, decide_false, Bool.not_not, isK_int_int, isK_int_bool, isK_int_str, isK_int_list, isK_int_tuple, isK_bool_int, isK_bool_bool, isK_bool_str, isK_str_str, isK_str_int, isK_str_bool, isK_str_tuple, isK_str_list, isK_list_list, isK_list_tuple, isK_tuple_tuple, isK_tuple_list, isOk_int_int, isOk_int_bool, isOk_int_str, isOk_int_list, isOk_int_tuple, isOk_bool_int, isOk_bool_bool, isOk_bool_str, isOk_str_str, isOk_str_int, isOk_str_bool, isOk_str_tuple, isOk_str_list, isOk_list_list, isOk_list_tuple, isOk_tuple_tuple, isOk_tuple_list, isK_dict_dict, isOk_dict_dict, isK_none_int, isK_none_bool, isOk_none_int, isOk_none_bool, tyV, S_inj, S_cat, L2.start, Nat.reduceSub, List.replicate_succ, List.replicate_zero, and_assoc, List.append_nil, Nat.reduceEqDiff, Option.some.injEq, Int.natCast_inj, upd_upd, Int.reducePow, Int.reduceToNat, Int.reduceMul, Int.reduceAdd, Int.reduceSub, Int.reduceLT, Int.reduceLE, Int.reduceNeg, Int.reduceDiv, Int.reduceMod, Nat.reducePow, Nat.reduceMul, S_len, List.length_append, List.length_map, List.length_range, not_true_eq_false, not_false_eq_true, ne_eq, uAdd_e1, uAdd_e2, uSub_e1, uMod_e1, uDiv_e1, uPow_e1, uShl_e1, uNeg_e1, uIAdd_e1, uIAdd_e2, uIAdd_e3, uISub_e1, uLt_e1, uLt_e2, uLe_e1, uGt_e1, uGe_e1, uEq_e1, uEq_e2, uEq_e3, uEq_e4, uEq_e5, uEq_e6, uEq_e7, uEq_e8, uEq_e9, uEq_e10, uEq_e11, uNe_e1, uNe_e2, uNe_e3, uNe_e4, uNe_e5, uNe_e6, uNe_e7, uNe_e8, uNe_e9, uNe_e10, uNe_e11, uIs_e1, uIs_e2, uIs_e3, uIs_e4, uIs_e5, uIs_e6, uIs_e7, uNotIs_e1, uNotIs_e2, uNotIs_e3, uNotIs_e4, uNotIs_e5, uNotIs_e6, uIn_e1, uIn_e2, uIn_e3, uIn_e4, uNotIn_e1, uNotIn_e2, uNotIn_e3, uNotIn_e4, uTru_e1, uTru_e2, uTru_e3, uTru_e4, uIx_e2, uSl_e2, uLen_e1, uAbs_e1, uInt_e1, uInt_e2, uMin2_e1, uIsi_e1, uIsi_e2, uIsi_e3, uIsi_e4, cx_K, uVar_0, uVar_n, uFld, uSFld, uMet, uMake, tDG, tDI, tDNI, tDP, tDD, uMk, uRaise, uDelSl, tCallS, L2.WE, uStr_e1, uStr_e2, uMul2_e1, uMul2_e2, okS_i, okS_s, List.zip_cons_cons, List.zip_nil_left, List.drop_zero, List.drop_succ_cons, List.drop_nil, putF_nil, putF_cons, eq_self, tDNewK, tB, Option.isSome_some, Option.isSome_none, false_and, false_or, or_false, exists_false, Int.zero_add, uLc, wipe, tYes, isEmpty_app, List.isEmpty_cons, List.isEmpty_nil, List.isEmpty_map, Bool.and_false, Bool.and_true, iRev, K64.lit_0, K64.fe_room_entries, K64.fe_room_words, K64.fe_room__places, K64.fe_room__least, K64.fe_entries_room, K64.fe_entries_words, K64.fe_entries__places, K64.fe_entries__least, K64.fe_words_room, K64.fe_words_entries, K64.fe_words__places, K64.fe_words__least, K64.fe__places_room, K64.fe__places_entries, K64.fe__places_words, K64.fe__places__least, K64.fe__least_room, K64.fe__least_entries, K64.fe__least_words, K64.fe__least__places, K64.fe_store_pressure, K64.fe_store_always, K64.fe_store_allocations, K64.fe_store_collections, K64.fe_store__roots, K64.fe_store__held, K64.fe_store__saved, K64.fe_pressure_store, K64.fe_pressure_always, K64.fe_pressure_allocations, K64.fe_pressure_collections, K64.fe_pressure__roots, K64.fe_pressure__held, K64.fe_pressure__saved, K64.fe_always_store, K64.fe_always_pressure, K64.fe_always_allocations, K64.fe_always_collections, K64.fe_always__roots, K64.fe_always__held, K64.fe_always__saved, K64.fe_allocations_store, K64.fe_allocations_pressure, K64.fe_allocations_always, K64.fe_allocations_collections, K64.fe_allocations__roots, K64.fe_allocations__held, K64.fe_allocations__saved, K64.fe_collections_store, K64.fe_collections_pressure, K64.fe_collections_always, K64.fe_collections_allocations, K64.fe_collections__roots, K64.fe_collections__held, K64.fe_collections__saved, K64.fe__roots_store, K64.fe__roots_pressure, K64.fe__roots_always, K64.fe__roots_allocations, K64.fe__roots_collections, K64.fe__roots__held, K64.fe__roots__saved, K64.fe__held_store, K64.fe__held_pressure, K64.fe__held_always, K64.fe__held_allocations, K64.fe__held_collections, K64.fe__held__roots, K64.fe__held__saved, K64.fe__saved_store, K64.fe__saved_pressure, K64.fe__saved_always, K64.fe__saved_allocations, K64.fe__saved_collections, K64.fe__saved__roots, K64.fe__saved__held, tDGF_eq, uDGetF_e1, tLstRg, tRg1, K64.N_is_ref, K64.N_ref_of, K64.N_reached, K64.N_collect, K64.N_object_of, K64.N_row_of, K64.N_word_at, K64.N_paths, K64.N_garbage, K64.N_Store_init, K64.N_Store_exists, K64.N_Store_numbers, K64.N_Store_free_number, K64.N_Store_allocate, K64.N_Store_size, K64.N_Store_kind, K64.N_Store_get, K64.N_Store_put, K64.N_Store_slots, K64.N_Store_drop, K64.N_Store_close_up, K64.N_Space_init, K64.N_Space_root, K64.N_Space_set_root, K64.N_Space_hold, K64.N_Space_drop, K64.N_Space_held, K64.N_Space_all_roots, K64.N_Space_collect, K64.N_Space_collect_with, K64.N_Space_new, K64.N_Space_fitted, K64.N__law_number, K64.N__law_word, K64.N__law_is, K64.N__law_same, K64.N__law_sizes, K64.N__law_rows, K64.N__law_roots, K64.N__law_space, K64.N__law_walk, K64.N__law_extended, K64.N__law_best, K64.N__law_path_is, K64.N__law_told, K64.N__law_drawn, K64.N__law_kept, K64.N__law_long, K64.N_law, sp_is_ref, sp_ref_of])
local macro_rules | `(tactic| walk_at "nn") => `(tactic| first | assumption | exact ne_un (by assumption) | exact ne_un (ne_un (by assumption)) | exact ne_un (ne_un (ne_un (by assumption))) | exact ne_un (ne_un (ne_un (ne_un (by assumption)))))
local macro_rules | `(tactic| walk_at "ne") => `(tactic| first | assumption | (apply Ne.symm; assumption) | exact ne_ud (by assumption) | exact Ne.symm (ne_ud (by assumption)) | exact ne_ud (ne_un (by assumption)) | exact Ne.symm (ne_ud (ne_un (by assumption))) | exact ne_ud (ne_un (ne_un (by assumption))) | exact Ne.symm (ne_ud (ne_un (ne_un (by assumption)))) | exact ne_m (by assumption) (by assumption) | exact Ne.symm (ne_m (by assumption) (by assumption)) | exact ne_n (by assumption) (by walk_at "nn") | exact Ne.symm (ne_n (by assumption) (by walk_at "nn")))
local macro_rules | `(tactic| walk_at "hp") => `(tactic| first | assumption | exact upd_same | (refine Eq.trans (upd_ne ?_) ?_; (focus walk_at "ne"); walk_at "hp"))
local macro_rules | `(tactic| walk_at "sc") => `(tactic| first | (with_reducible assumption) | omega | exact le_line (by (try simp only [List.length_map, List.length_append, List.length_cons, List.length_nil, S_len]); omega) | exact div_s (by omega) | exact mul_r (by omega) | exact mul_l (by omega) | exact pow_s (by omega) | exact mul2_r (by omega) | exact mul2_l (by omega) | exact small4300 (by omega) | exact lt_line (by (try simp only [List.length_map, List.length_append, List.length_cons, List.length_nil, S_len]); omega) | exact ⟨_, by assumption⟩ | (guard_target =~ Exists _; exact ⟨_, .of (by walk_at "hp")⟩) | (guard_target =~ _ ∨ _; exact .inl ⟨_, by assumption⟩) | (guard_target =~ _ ∨ _; exact .inl ⟨_, .of (by walk_at "hp")⟩) | (guard_target =~ _ ∨ _; exact .inr (.inr (.inl ⟨rfl, .inl ⟨_, by walk_at "hp"⟩⟩))) | decide)
local macro_rules | `(tactic| walk_at "kr") => `(tactic| first | (guard_target =~ _ ∧ _; first | refine And.intro (by walk_at "sc") ?_) | (guard_target =~ KW.uIx _ _ _ _ _; first | refine ix_l (by walk_at "hp") (by first | walk_at "hv" | rfl) ?_ | refine ix_t (by walk_at "hp") (by first | walk_at "hv" | rfl) ?_ | refine ix_sl (by assumption) (by walk_at "hv") ?_) | (guard_target =~ KW.uLen _ _ _ _; first | refine len_l (by walk_at "hp") ?_ | refine len_t (by walk_at "hp") ?_ | refine len_sl (by assumption) ?_) | (guard_target =~ KW.uSet _ _ _ _ _; first | refine set_l (by walk_at "hp") (by first | walk_at "hv" | rfl) ?_) | (guard_target =~ L2.gTup _ _ _ _ _ _ _; first | refine tup_l (by walk_at "hp") (by rfl) ?_) | (guard_target =~ KW.uGet _ _ _ _ _; first | refine get_l (by walk_at "hp") (by walk_at "hc") (by decide) (by rfl) ?_) | (guard_target =~ KW.uPut _ _ _ _ _ _; first | refine put_l (by walk_at "hp") (by walk_at "hc") (by decide) (by simp) ?_) | (guard_target =~ KW.uMet.uMt _ _ _ _ _ _ _ _ _; first | refine met_l (by walk_at "hp") (by rfl) ?_) | (guard_target =~ KW.uMet.uMt _ _ _ _ _ _ _ _ _; first | refine ST.met_s (by assumption) (by decide) ?_) | (guard_target =~ ST.spExists _ _ _ _ _; first | refine ST.exists_s (by assumption) ?_) | (guard_target =~ ST.spUsed _ _ _ _ _; first | refine ST.used_s (by assumption) ?_) | (guard_target =~ KW.uGet _ _ _ _ _; first | refine ST.words_s (by assumption) (by walk_at "hc") (by decide) ?_) | (guard_target =~ KW.uDIn _ _ _ _; first | refine din_i (by walk_at "hp") ?_ | refine din_s (by walk_at "hp") ?_) | (guard_target =~ KW.uDGet _ _ _ _; first | refine dget_i (by walk_at "hp") (by walk_at "hv") ?_ | refine dget_s (by walk_at "hp") (by walk_at "hv") ?_) | (guard_target =~ KW.uDPut _ _ _ _ _; first | refine dput_i (by walk_at "hp") (by walk_at "sc") ?_ | refine dput_s (by walk_at "hp") (by walk_at "sc") ?_) | (guard_target =~ KW.uDDel _ _ _ _; first | refine ddel_i (by walk_at "hp") (by walk_at "hv") ?_ | refine ddel_s (by walk_at "hp") (by walk_at "hv") ?_) | (guard_target =~ KW.uMul2 _ _ _ _; first | refine rep_l (by walk_at "hp") (by walk_at "sc") (by walk_at "sc") (by walk_at "sc") ?_) | (guard_target =~ L2.rAppend _ _ _ _; first | refine app_l (by walk_at "hp") (by walk_at "sc") ?_) | (guard_target =~ L2.rPop _ _ _ _; first | refine pop_l (by walk_at "hp") (by walk_at "hv") ?_ | refine pops_l (by walk_at "hp") ?_) | (guard_target =~ L2.rClear _ _ _ _; first | refine clr_l (by walk_at "hp") ?_) | (guard_target =~ L2.rReverse _ _ _ _; first | refine rev_l (by walk_at "hp") ?_) | (guard_target =~ L2.rExtend _ _ _ _; first | refine ext_l (by walk_at "hp") (by walk_at "hp") (by walk_at "sc") ?_) | (guard_target =~ KW.uAdd _ _ _ _ _; first | refine ucat_l (by walk_at "hp") (by walk_at "hp") (by walk_at "sc") ?_) | (guard_target =~ KW.uSl _ _ _ _ _ _; first | refine usl_l (by walk_at "hp") ?_) | (guard_target =~ KW.uTru _ _ _ _; first | refine tru_l (by walk_at "hp") ?_ | refine tru_t (by walk_at "hp") ?_ | refine tru_d (by walk_at "hp") ?_ | refine tru_sl (by assumption) ?_) | (guard_target =~ L2.rIndex _ _ _ _ _; first | refine idx_s (by walk_at "hp") (by assumption) ?_ | refine idx_i (by walk_at "hp") (by assumption) ?_) | (guard_target =~ L2.rIn _ _ _ _ _ _; first | refine in_s (by walk_at "hp") ?_ | refine nin_s (by walk_at "hp") ?_ | refine in_i (by walk_at "hp") ?_ | refine nin_i (by walk_at "hp") ?_) | (guard_target =~ KW.uIsi _ _ _ _; first | refine isi_l (by walk_at "hp") (by decide +kernel) ?_ | refine isi_t (by walk_at "hp") (by decide +kernel) ?_ | refine isi_d (by walk_at "hp") (by decide +kernel) ?_) | (guard_target =~ KW.uList _ _ _ _; first | refine list_l (by walk_at "hp") ?_ | refine list_t (by walk_at "hp") ?_ | refine list_sl (by assumption) ?_) | (guard_target =~ KW.uDict _ _ _; first | refine dict_d (by walk_at "hp") ?_) | (guard_target =~ KW.uSorted _ _ _ _; first | refine srt_l (by walk_at "hp") ?_) | (guard_target =~ KW.uSum _ _ _ _; first | refine sum_l (by walk_at "hp") ?_) | (guard_target =~ KW.uDelC _ _ _ _; first | refine dels_l (by walk_at "hp") (by walk_at "sc") ?_) | (guard_target =~ L2.wAs _ _ _ _ _ _ _ _ _ _; first | refine as_yes (by walk_at "hx") ?_ | refine as_no (by walk_at "hx") ?_) | (guard_target =~ KW.uEf _ _ _ _ _ _ _ _ _; first | refine ef_l (by walk_at "he") (by decide) (by rfl) (by walk_at "hp") (by rfl) ?_) | (guard_target =~ KW.uIsE _ _ _ _ _ _ _; first | refine isE_r (by walk_at "he") (by walk_at "hp") (by walk_at "hk") ?_ | refine isE_t (by walk_at "he") (by walk_at "hp") (by walk_at "hk") ?_))
local macro_rules | `(tactic| walk_at "hv") => `(tactic| first | assumption)
local macro_rules | `(tactic| walk_at "kk") => `(tactic| repeat (first | walk_at "kw" | walk_at "kr"))
local macro_rules | `(tactic| walk_at "hc") => `(tactic| first | exact K64.Txt.c_Store (by assumption) | exact K64.Txt.c_Space (by assumption))
local macro_rules | `(tactic| walk_at "he") => `(tactic| first | exact K64.Txt.e_BadWord (by assumption) | exact K64.Txt.e_NoRoom (by assumption) | exact K64.Txt.e_NoNumber (by assumption) | exact K64.Txt.e_Wrong (by assumption))
local macro_rules | `(tactic| walk_at "hx") => `(tactic| first | exact K64.Txt.x_BadWord_NoNumber (by assumption) | exact K64.Txt.x_BadWord_NoRoom (by assumption) | exact K64.Txt.x_NoRoom_NoNumber (by assumption) | exact K64.Txt.x_NoRoom_NoRoom (by assumption) | exact K64.Txt.x_NoNumber_NoNumber (by assumption) | exact K64.Txt.x_NoNumber_NoRoom (by assumption) | exact K64.Txt.x_Wrong_NoNumber (by assumption) | exact K64.Txt.x_Wrong_NoRoom (by assumption))
local macro_rules | `(tactic| walk_at "hk") => `(tactic| first | fail)

local macro_rules | `(tactic| walk_at "kr") => `(tactic| first | (guard_target =~ KW.uGet _ _ _ _ _; refine ST.get_p (by assumption) (by rfl) (by walk_at "hc") (by decide) (by rfl) ?_) | (guard_target =~ KW.uMet.uMt _ _ _ _ _ _ _ _ _; refine ST.met_p (by assumption) (by rfl) (by decide) ?_))
section
variable {P : Program} {w : World} {K : Frag} {mg : Str → Option Value} {base : Heap} {a : Ads}
theorem ok__law_walk (T : Txt P w K mg a) : Cal P w K mg base 1 "_law_walk" spWalk := by
  refine T.d__law_walk.ok sc__law_walk (fun vs H Q E h => ?_) (fun f cdv A outer s H vs Q E hr h => ⟨_, (pss_cons (ps_set (i := 3) sc__law_walk.nd rfl (Or.inl rfl) (pe_op o_add (pe_lst (pa_cons pe_int pa_nil)) (kv 1)))
      (pss_cons (ps_set (i := 4) sc__law_walk.nd rfl (Or.inl rfl) pe_non)
      (pss_cons (k_for (passes_of rfl) rfl (pi_range1 (by rfl) T.n_range (pa_cons (pe_callB c_len (by rfl) T.n_len (by decide +kernel) (pa_cons (kv 2) pa_nil)) pa_nil)) (pg_name (i := 5) sc__law_walk.nd rfl (Or.inl rfl))
      (C8.pss_cut (ps_if (pt_cmpR o_gt (kv 5) pe_int (nomark _))
      (pss_cons (ps_if (PW.pt (pw_or (pt_cmpR (o_eq hr.units) (pe_op o_mod (kv 4) pe_int) pe_int (nomark _)) (pw_or1 (pt_cmpR o_ge (pe_op o_fdiv (kv 4) pe_int) (pe_callB c_len (by rfl) T.n_len (by decide +kernel) (pa_cons (kv 0) pa_nil)) (nomark _)))))
      (pss_one (ps_ret pe_non))
      pss_nil)
      (pss_one (ps_set (i := 3) sc__law_walk.nd rfl (Or.inl rfl) (pe_ix o_ix (kv 0) (pe_op o_fdiv (kv 4) pe_int) (fun _ _ => rfl)))))
      pss_nil)
      (pss_cons (ps_if (PW.pt (pw_or (pt_cmpR o_lt (pe_ix o_ix (kv 2) (kv 5) (fun _ _ => rfl)) pe_int (nomark _)) (pw_or1 (pt_cmpR o_ge (pe_ix o_ix (kv 2) (kv 5) (fun _ _ => rfl)) (pe_callB c_len (by rfl) T.n_len (by decide +kernel) (pa_cons (kv 3) pa_nil)) (nomark _)))))
      (pss_one (ps_ret pe_non))
      pss_nil)
      (pss_one (ps_set (i := 4) sc__law_walk.nd rfl (Or.inl rfl) (pe_ix o_ix (kv 3) (pe_ix o_ix (kv 2) (kv 5) (fun _ _ => rfl)) (fun _ _ => rfl)))))))
      (pss_one (ps_ret (kv 4)))))), ?_⟩)
  · obtain ⟨_, _, _, _, _, _, rfl, _⟩ := h; rfl
  · obtain ⟨rl, wo, p, Ls, ws, path, rfl, Y, hp, lp, h⟩ := h
    obtain ⟨g, hg⟩ : ∃ g, g = gL Ls := ⟨_, rfl⟩
    rw [← hg] at h
    have W := Y.W
    have l4 := Y.l4
    have l1 := Y.l1
    walk_at "kk"
    intro t ht
    have t1 : upd H t (.lst [.int 0]) t = some (.lst [.int 0]) := upd_same
    have wt : wo ≠ t := ne_of_none W ht
    have w1 : upd H t (.lst [.int 0]) wo = some (.lst (ws.map V.int)) := by rw [upd_ne wt]; exact W
    refine ucat_l (xs := [.int 0]) (zs := ws.map V.int) t1 w1 (le_line (by simp only [List.length_map, List.length_cons, List.length_nil]; omega)) fun l hl => ?_
    have f2 : KW.Fr [] H (upd (upd H t (.lst [.int 0])) l (.lst ([.int 0] ++ ws.map V.int))) := (Fr.new ht).trans (Fr.new hl)
    have i2 : IL (upd (upd H t (.lst [.int 0])) l (.lst ([.int 0] ++ ws.map V.int))) l (0 :: ws) := by show upd _ _ _ _ = _; rw [upd_same]; rfl
    revert f2 i2
    generalize upd (upd H t (.lst [.int 0])) l (.lst ([.int 0] ++ ws.map V.int)) = H2
    intro f2 i2
    clear t1 w1 hl ht
    have evs : ∀ w ∈ 0 :: ws, Ev w := fun w hw => by
      rcases List.mem_cons.mp hw with q | q
      · subst q; exact fun _ => by omega
      · exact Y.l5 w q
    obtain ⟨Pv, hPv⟩ : ∃ Pv : Nat → L2.St → Hp → Prop, Pv = fun k σ H' => ∃ (ra : Addr) (row : List Int) (v : V) (v5 : Option V), σ = [some (.ref rl), some (.ref wo), some (.ref p), some (.ref ra), some v, v5] ∧ KW.Fr [] H H' ∧ IL H' ra row ∧ (∀ w ∈ row, Ev w) ∧ row.length ≤ 100 ∧ (k = 0 → row = 0 :: ws) ∧ (∀ w, v = .int w → Ev w) ∧ WaSt g (0 :: ws) path k v := ⟨_, rfl⟩
    have P0 : Pv 0 [some (.ref rl), some (.ref wo), some (.ref p), some (.ref l), some .non, none] H2 := by
      rw [hPv]; exact ⟨l, 0 :: ws, .non, _, rfl, f2, i2, evs, by rw [List.length_cons]; omega, fun _ => rfl, (fun _ e => by cases e), WaSt.init _ _ _⟩
    have done : ∀ (v5 : Option V) σ H', Pv path.length σ H' → ∃ ra v, σ = [some (.ref rl), some (.ref wo), some (.ref p), some (.ref ra), some v, (σ[5]?).getD none] ∧ Q v H' := fun v5 σ H' hpv => by
      rw [hPv] at hpv
      obtain ⟨ra, row, v, v5, rfl, f3, i3, ev, lr, hr0, evv, S⟩ := hpv
      refine ⟨ra, v, rfl, ?_⟩
      rw [S.done]
      exact h H' f3
    have hp2 := SqI.fr0 hp f2
    rcases hp with hp | hp
    all_goals
      have p2 := f2 _ _ (by simp) hp
      walk_at "kk"
      rw [Int.toNat_natCast]
      refine for_rng Pv P0 ?_ ?_
      · intro k σ H3 hk hpv
        rw [hPv] at hpv
        obtain ⟨ra, row, v, v5, rfl, f3, i3, ev, lr, hr0, evv, S⟩ := hpv
        have p3 := f3 _ _ (by simp) hp
        have Y3 := Y.fr0 f3
        have rli := Y3.R.li
        obtain ⟨z, hz⟩ : ∃ z, path[k]? = some z := ⟨_, List.getElem?_eq_getElem hk⟩
        have hv : atI (path.map V.int) (k : Int) = some (.int z) := atI_map hz
        refine ⟨fun σ H' => ∃ (ra2 : Addr) (row2 : List Int), σ = [some (.ref rl), some (.ref wo), some (.ref p), some (.ref ra2), some v, some (.int k)] ∧ H' = H3 ∧ IL H3 ra2 row2 ∧ (∀ w ∈ row2, Ev w) ∧ row2.length ≤ 100 ∧ ((k = 0 ∧ row2 = 0 :: ws) ∨ (0 < k ∧ ∃ w, v = .int w ∧ stepG g w = some row2)), ?_, ?_⟩
        · walk_at "kk"
          split
          · rename_i k0
            have k0 : 0 < k := by omega
            obtain ⟨w, rfl, _, _⟩ := S.2 k0
            have evw := evv w rfl
            have stop : stepG g w = none → Q .non H3 := fun e => by
              have := h H3 f3
              rwa [S.stop k0 hk e] at this
            walk_at "kk"
            by_cases c : w % 2 = 1
            · rw [if_pos c]
              exact stop (by unfold stepG; rw [if_neg (by omega)])
            rw [if_neg c]
            have w0 := evw (by omega)
            refine ⟨by walk_at "sc", ?_⟩
            obtain ⟨m, hm⟩ : ∃ m : Nat, w / 2 = m := ⟨(w / 2).toNat, by omega⟩
            rw [hm]
            have gm : stepG g w = (Ls[m]?).map fun x => x.2 := by
              unfold stepG
              rw [if_pos (by omega), hm, hg]
              unfold gL
              rw [if_pos (by omega), Int.toNat_natCast]
            walk_at "kk"
            split
            · rename_i c2
              exact stop (by rw [gm, List.getElem?_eq_none (by simp at c2; omega)]; rfl)
            · rename_i c2
              obtain ⟨⟨pa, r⟩, hx⟩ : ∃ x, Ls[m]? = some x := ⟨_, List.getElem?_eq_getElem (by simp at c2; omega)⟩
              have hvm : atI (Ls.map fun x => V.ref x.1) (m : Int) = some (.ref pa) := atI_map (f := fun x : Addr × List Int => V.ref x.1) hx
              have bx := Y.l2 _ (List.mem_of_getElem? hx)
              rw [hx] at gm
              try refine ⟨by walk_at "sc", ?_⟩
              walk_at "kk"
              exact ⟨r, Y3.R.rs _ (List.mem_of_getElem? hx), bx.2.2, by have := bx.2.1; dsimp only at this; omega, .inr ⟨k0, gm⟩⟩
          · have k0 : k = 0 := by omega
            have er := hr0 k0
            subst er
            exact ⟨_, i3, ev, lr, .inl ⟨k0, rfl⟩⟩
        rintro σ H4 ⟨ra2, row2, rfl, rfl, i4, ev2, lr2, hr⟩
        have ST := S.step hz hr
        have i4' : H4 ra2 = some (.lst (row2.map V.int)) := i4
        walk_at "kk"
        have non : ixP row2 z = none → Q .non H4 := fun e => by
          have := h H4 f3
          rwa [ST.1 e] at this
        by_cases z0 : z < 0
        · rw [if_pos z0]
          exact non (by unfold ixP; rw [if_neg (by omega)])
        · rw [if_neg z0]
          obtain ⟨zn, rfl⟩ : ∃ zn : Nat, z = zn := ⟨z.toNat, by omega⟩
          walk_at "kk"
          split
          · rename_i c
            exact non (by unfold ixP; rw [if_pos (by omega), Int.toNat_natCast]; exact List.getElem?_eq_none (by simp at c; omega))
          · rename_i c
            obtain ⟨w', hw'⟩ : ∃ w', row2[zn]? = some w' := ⟨_, List.getElem?_eq_getElem (by simp at c; omega)⟩
            have hv2 : atI (row2.map V.int) (zn : Int) = some (.int w') := atI_map hw'
            walk_at "kk"
            rw [hPv]
            exact ⟨_, _, _, _, rfl, f3, i4, ev2, lr2, fun e => by omega, (fun w e => by cases e; exact ev2 _ (List.mem_of_getElem? hw')), ST.2 w' (by unfold ixP; rw [if_pos (by omega), Int.toNat_natCast]; exact hw')⟩
      · intro σ H3 hpv
        obtain ⟨ra, v, e, q⟩ := done none σ H3 hpv
        rw [e]
        walk_at "kk"
        exact q
end
end K64

set_option Elab.async false
set_option linter.all false
set_option maxRecDepth 100000
set_option maxHeartbeats 4000000
namespace K64
open PySem PySem.Spec PyProof.Rows L2 KW ST LamX
local macro_rules | `(tactic| walk_at "kw") => `(tactic| simp only [tSeq, tNext, tIfS, tTest, tAnd, tOr, tNot, tAndV, tOrV, tNotV, tIf, tChain, tOp, tUn, tC, tAsg, gName, gSub, gCons, gNil, tRet, tRetN, tDrop, tCons, tNil, tCB, tAug, tSl, tPart, tNoPart, tLst, tTup, tBM, tBM0, uTest, uFor, iRng1, iRng2, iList, uCall, List.map_cons, List.map_nil, List.length_cons, List.length_nil, List.cons_append, List.nil_append, List.replicate, Nat.zero_add, Nat.reduceAdd, Nat.reduceSub, List.getElem?_cons_zero, List.getElem?_cons_succ, List.set_cons_zero, List.set_cons_succ, V.bl.injEq, V.int.injEq, V.str.injEq, V.ref.injEq, V.ty.injEq, List.cons.injEq, and_true, true_and, exists_eq_left', exists_eq_right, exists_eq_left, exists_and_left, exists_and_right, decide_eq_true_eq, Bool.not_eq_true', decide_eq_false_iff_not, Bool.false_eq_true, if_true, if_false, ite_true, ite_false, Bool.not_true, Bool.not_false, reduceCtorEq, decide_true, decide_false, Bool.not_not, isK_int_int, isK_int_bool, isK_int_str, isK_int_list, isK_int_tuple, isK_bool_int, isK_bool_bool, isK_bool_str, isK_str_str, isK_str_int, isK_str_bool, isK_str_tuple, isK_str_list, isK_list_list, isK_list_tuple, isK_tuple_tuple, isK_tuple_list, isOk_int_int, isOk_int_bool, isOk_int_str, isOk_int_list, isOk_int_tuple, isOk_bool_int, isOk_bool_bool, isOk_bool_str, isOk_str_str, isOk_str_int, isOk_str_bool, isOk_str_tuple, isOk_str_list, isOk_list_list, isOk_list_tuple, isOk_tuple_tuple, isOk_tuple_list, isK_dict_dict, isOk_dict_dict, isK_none_int, isK_none_bool, isOk_none_int, isOk_none_bool, tyV, S_inj, S_cat, L2.start, Nat.reduceSub, List.replicate_succ, List.replicate_zero, and_assoc, List.append_nil, Nat.reduceEqDiff, Option.some.injEq, Int.natCast_inj, upd_upd, Int.reducePow, Int.reduceToNat, Int.reduceMul, Int.reduceAdd, Int.reduceSub, Int.reduceLT, Int.reduceLE, Int.reduceNeg, Int.reduceDiv, Int.reduceMod, Nat.reducePow, Nat.reduceMul, S_len, List.length_append, List.length_map, List.length_range, not_true_eq_false, not_false_eq_true, ne_eq, uAdd_e1, uAdd_e2, uSub_e1, uMod_e1, uDiv_e1, uPow_e1, uShl_e1, uNeg_e1, uIAdd_e1, uIAdd_e2, uIAdd_e3, uISub_e1, uLt_e1, uLt_e2, uLe_e1, uGt_e1, uGe_e1, uEq_e1, uEq_e2, uEq_e3, uEq_e4, uEq_e5, uEq_e6, uEq_e7, uEq_e8, uEq_e9, uEq_e10, uEq_e11, uNe_e1, uNe_e2, uNe_e3, uNe_e4, uNe_e5, uNe_e6, uNe_e7, uNe_e8, uNe_e9, uNe_e10, uNe_e11, uIs_e1, uIs_e2, uIs_e3, uIs_e4, uIs_e5, uIs_e6, uIs_e7, uNotIs_e1, uNotIs_e2, uNotIs_e3, uNotIs_e4, uNotIs_e5, uNotIs_e6, uIn_e1, uIn_e2, uIn_e3, uIn_e4, uNotIn_e1, uNotIn_e2, uNotIn_e3, uNotIn_e4, uTru_e1, uTru_e2, uTru_e3, uTru_e4, uIx_e2, uSl_e2, uLen_e1, uAbs_e1, uInt_e1, uInt_e2, uMin2_e1, uIsi_e1, uIsi_e2, uIsi_e3, uIsi_e4, cx_K, uVar_0, uVar_n, uFld, uSFld, uMet, uMake, tDG, tDI, tDNI, tDP, tDD, uMk, uRaise, uDelSl, tCallS, L2.WE, uStr_e1, uStr_e2, uMul2_e1, uMul2_e2, okS_i, okS_s, List.zip_cons_cons, List.zip_nil_left, List.drop_zero, List.drop_succ_cons, List.drop_nil, putF_nil, putF_cons, eq_self, tDNewK, tB, Option.isSome_some, Option.isSome_none, false_and, false_or, or_false, exists_false, Int.zero_add, uLc, wipe, tYes, isEmpty_app, List.isEmpty_cons, List.isEmpty_nil, List.isEmpty_map, Bool.and_false, Bool.and_true, iRev, K64.lit_0, K64.fe_room_entries, K64.fe_room_words, K64.fe_room__places, K64.fe_room__least, K64.fe_entries_room, K64.fe_entries_words, K64.fe_entries__places, K64.fe_entries__least, K64.fe_words_room, K64.fe_words_entries, K64.fe_words__places, K64.fe_words__least, K64.fe__places_room, K64.fe__places_entries, K64.fe__places_words, K64.fe__places__least, K64.fe__least_room, K64.fe__least_entries, K64.fe__least_words, K64.fe__least__places, K64.fe_store_pressure, K64.fe_store_always, K64.fe_store_allocations, K64.fe_store_collections, K64.fe_store__roots, K64.fe_store__held, K64.fe_store__saved, K64.fe_pressure_store, K64.fe_pressure_always, K64.fe_pressure_allocations, K64.fe_pressure_collections, K64.fe_pressure__roots, K64.fe_pressure__held, K64.fe_pressure__saved, K64.fe_always_store, K64.fe_always_pressure, K64.fe_always_allocations, K64.fe_always_collections, K64.fe_always__roots, K64.fe_always__held, K64.fe_always__saved, K64.fe_allocations_store, K64.fe_allocations_pressure, K64.fe_allocations_always, K64.fe_allocations_collections, K64.fe_allocations__roots, K64.fe_allocations__held, K64.fe_allocations__saved, K64.fe_collections_store, K64.fe_collections_pressure, K64.fe_collections_always, K64.fe_collections_allocations, K64.fe_collections__roots, K64.fe_collections__held, K64.fe_collections__saved, K64.fe__roots_store, K64.fe__roots_pressure, K64.fe__roots_always, K64.fe__roots_allocations, K64.fe__roots_collections, K64.fe__roots__held, K64.fe__roots__saved, K64.fe__held_store, K64.fe__held_pressure, K64.fe__held_always, K64.fe__held_allocations, K64.fe__held_collections, K64.fe__held__roots, K64.fe__held__saved, K64.fe__saved_store, K64.fe__saved_pressure, K64.fe__saved_always, K64.fe__saved_allocations, K64.fe__saved_collections, K64.fe__saved__roots, K64.fe__saved__held, tDGF_eq, uDGetF_e1, tLstRg, tRg1, K64.N_is_ref, K64.N_ref_of, K64.N_reached, K64.N_collect, K64.N_object_of, K64.N_row_of, K64.N_word_at, K64.N_paths, K64.N_garbage, K64.N_Store_init, K64.N_Store_exists, K64.N_Store_numbers, K64.N_Store_free_number, K64.N_Store_allocate, K64.N_Store_size, K64.N_Store_kind, K64.N_Store_get, K64.N_Store_put, K64.N_Store_slots, K64.N_Store_drop, K64.N_Store_close_up, K64.N_Space_init, K64.N_Space_root, K64.N_Space_set_root, K64.N_Space_hold, K64.N_Space_drop, K64.N_Space_held, K64.N_Space_all_roots, K64.N_Space_collect, K64.N_Space_collect_with, K64.N_Space_new, K64.N_Space_fitted, K64.N__law_number, K64.N__law_word, K64.N__law_is, K64.N__law_same, K64.N__law_sizes, K64.N__law_rows, K64.N__law_roots, K64.N__law_space, K64.N__law_walk, K64.N__law_extended, K64.N__law_best, K64.N__law_path_is, K64.N__law_told, K64.N__law_drawn, K64.N__law_kept, K64.N__law_long, K64.N_law, sp_is_ref, sp_ref_of])
local macro_rules | `(tactic| walk_at "nn") => `(tactic| first | assumption | exact ne_un (by assumption) | exact ne_un (ne_un (by assumption)) | exact ne_un (ne_un (ne_un (by assumption))) | exact ne_un (ne_un (ne_un (ne_un (by assumption)))))
local macro_rules | `(tactic| walk_at "ne") => `(tactic| first | assumption | (apply Ne.symm; assumption) | exact ne_ud (by assumption) | exact Ne.symm (ne_ud (by assumption)) | exact ne_ud (ne_un (by assumption)) | exact Ne.symm (ne_ud (ne_un (by assumption))) | exact ne_ud (ne_un (ne_un (by assumption))) | exact Ne.symm (ne_ud (ne_un (ne_un (by assumption)))) | exact ne_m (by assumption) (by assumption) | exact Ne.symm (ne_m (by assumption) (by assumption)) | exact ne_n (by assumption) (by walk_at "nn") | exact Ne.symm (ne_n (by assumption) (by walk_at "nn")))
local macro_rules | `(tactic| walk_at "hp") => `(tactic| first | assumption | exact upd_same | (refine Eq.trans (upd_ne ?_) ?_; (focus walk_at "ne"); walk_at "hp"))
local macro_rules | `(tactic| walk_at "sc") => `(tactic| first | (with_reducible assumption) | omega | exact le_line (by (try simp only [List.length_map, List.length_append, List.length_cons, List.length_nil, S_len]); omega) | exact div_s (by omega) | exact mul_r (by omega) | exact mul_l (by omega) | exact pow_s (by omega) | exact mul2_r (by omega) | exact mul2_l (by omega) | exact small4300 (by omega) | exact lt_line (by (try simp only [List.length_map, List.length_append, List.length_cons, List.length_nil, S_len]); omega) | exact ⟨_, by assumption⟩ | (guard_target =~ Exists _; exact ⟨_, .of (by walk_at "hp")⟩) | (guard_target =~ _ ∨ _; exact .inl ⟨_, by assumption⟩) | (guard_target =~ _ ∨ _; exact .inl ⟨_, .of (by walk_at "hp")⟩) | (guard_target =~ _ ∨ _; exact .inr (.inr (.inl ⟨rfl, .inl ⟨_, by walk_at "hp"⟩⟩))) | decide)
local macro_rules | `(tactic| walk_at "kr") => `(tactic| first | (guard_target =~ _ ∧ _; first | refine And.intro (by walk_at "sc") ?_) | (guard_target =~ KW.uIx _ _ _ _ _; first | refine ix_l (by walk_at "hp") (by first | walk_at "hv" | rfl) ?_ | refine ix_t (by walk_at "hp") (by first | walk_at "hv" | rfl) ?_ | refine ix_sl (by assumption) (by walk_at "hv") ?_) | (guard_target =~ KW.uLen _ _ _ _; first | refine len_l (by walk_at "hp") ?_ | refine len_t (by walk_at "hp") ?_ | refine len_sl (by assumption) ?_) | (guard_target =~ KW.uSet _ _ _ _ _; first | refine set_l (by walk_at "hp") (by first | walk_at "hv" | rfl) ?_) | (guard_target =~ L2.gTup _ _ _ _ _ _ _; first | refine tup_l (by walk_at "hp") (by rfl) ?_) | (guard_target =~ KW.uGet _ _ _ _ _; first | refine get_l (by walk_at "hp") (by walk_at "hc") (by decide) (by rfl) ?_) | (guard_target =~ KW.uPut _ _ _ _ _ _; first | refine put_l (by walk_at "hp") (by walk_at "hc") (by decide) (by simp) ?_) | (guard_target =~ KW.uMet.uMt _ _ _ _ _ _ _ _ _; first | refine met_l (by walk_at "hp") (by rfl) ?_) | (guard_target =~ KW.uMet.uMt _ _ _ _ _ _ _ _ _; first | refine ST.met_s (by assumption) (by decide) ?_) | (guard_target =~ ST.spExists _ _ _ _ _; first | refine ST.exists_s (by assumption) ?_) | (guard_target =~ ST.spUsed _ _ _ _ _; first | refine ST.used_s (by assumption) ?_) | (guard_target =~ KW.uGet _ _ _ _ _; first | refine ST.words_s (by assumption) (by walk_at "hc") (by decide) ?_) | (guard_target =~ KW.uDIn _ _ _ _; first | refine din_i (by walk_at "hp") ?_ | refine din_s (by walk_at "hp") ?_) | (guard_target =~ KW.uDGet _ _ _ _; first | refine dget_i (by walk_at "hp") (by walk_at "hv") ?_ | refine dget_s (by walk_at "hp") (by walk_at "hv") ?_) | (guard_target =~ KW.uDPut _ _ _ _ _; first | refine dput_i (by walk_at "hp") (by walk_at "sc") ?_ | refine dput_s (by walk_at "hp") (by walk_at "sc") ?_) | (guard_target =~ KW.uDDel _ _ _ _; first | refine ddel_i (by walk_at "hp") (by walk_at "hv") ?_ | refine ddel_s (by walk_at "hp") (by walk_at "hv") ?_) | (guard_target =~ KW.uMul2 _ _ _ _; first | refine rep_l (by walk_at "hp") (by walk_at "sc") (by walk_at "sc") (by walk_at "sc") ?_) | (guard_target =~ L2.rAppend _ _ _ _; first | refine app_l (by walk_at "hp") (by walk_at "sc") ?_) | (guard_target =~ L2.rPop _ _ _ _; first | refine pop_l (by walk_at "hp") (by walk_at "hv") ?_ | refine pops_l (by walk_at "hp") ?_) | (guard_target =~ L2.rClear _ _ _ _; first | refine clr_l (by walk_at "hp") ?_) | (guard_target =~ L2.rReverse _ _ _ _; first | refine rev_l (by walk_at "hp") ?_) | (guard_target =~ L2.rExtend _ _ _ _; first | refine ext_l (by walk_at "hp") (by walk_at "hp") (by walk_at "sc") ?_) | (guard_target =~ KW.uAdd _ _ _ _ _; first | refine ucat_l (by walk_at "hp") (by walk_at "hp") (by walk_at "sc") ?_) | (guard_target =~ KW.uSl _ _ _ _ _ _; first | refine usl_l (by walk_at "hp") ?_) | (guard_target =~ KW.uTru _ _ _ _; first | refine tru_l (by walk_at "hp") ?_ | refine tru_t (by walk_at "hp") ?_ | refine tru_d (by walk_at "hp") ?_ | refine tru_sl (by assumption) ?_) | (guard_target =~ L2.rIndex _ _ _ _ _; first | refine idx_s (by walk_at "hp") (by assumption) ?_ | refine idx_i (by walk_at "hp") (by assumption) ?_) | (guard_target =~ L2.rIn _ _ _ _ _ _; first | refine in_s (by walk_at "hp") ?_ | refine nin_s (by walk_at "hp") ?_ | refine in_i (by walk_at "hp") ?_ | refine nin_i (by walk_at "hp") ?_) | (guard_target =~ KW.uIsi _ _ _ _; first | refine isi_l (by walk_at "hp") (by decide +kernel) ?_ | refine isi_t (by walk_at "hp") (by decide +kernel) ?_ | refine isi_d (by walk_at "hp") (by decide +kernel) ?_) | (guard_target =~ KW.uList _ _ _ _; first | refine list_l (by walk_at "hp") ?_ | refine list_t (by walk_at "hp") ?_ | refine list_sl (by assumption) ?_) | (guard_target =~ KW.uDict _ _ _; first | refine dict_d (by walk_at "hp") ?_) | (guard_target =~ KW.uSorted _ _ _ _; first | refine srt_l (by walk_at "hp") ?_) | (guard_target =~ KW.uSum _ _ _ _; first | refine sum_l (by walk_at "hp") ?_) | (guard_target =~ KW.uDelC _ _ _ _; first | refine dels_l (by walk_at "hp") (by walk_at "sc") ?_) | (guard_target =~ L2.wAs _ _ _ _ _ _ _ _ _ _; first | refine as_yes (by walk_at "hx") ?_ | refine as_no (by walk_at "hx") ?_) | (guard_target =~ KW.uEf _ _ _ _ _ _ _ _ _; first | refine ef_l (by walk_at "he") (by decide) (by rfl) (by walk_at "hp") (by rfl) ?_) | (guard_target =~ KW.uIsE _ _ _ _ _ _ _; first | refine isE_r (by walk_at "he") (by walk_at "hp") (by walk_at "hk") ?_ | refine isE_t (by walk_at "he") (by walk_at "hp") (by walk_at "hk") ?_))
local macro_rules | `(tactic| walk_at "hv") => `(tactic| first | assumption)
local macro_rules | `(tactic| walk_at "kk") => `(tactic| repeat (first | walk_at "kw" | walk_at "kr"))
local macro_rules | `(tactic| walk_at "hc") => `(tactic| first | exact K64.Txt.c_Store (by assumption) | exact K64.Txt.c_Space (by assumption))
local macro_rules | `(tactic| walk_at "he") => `(tactic| first | exact K64.Txt.e_BadWord (by assumption) | exact K64.Txt.e_NoRoom (by assumption) | exact K64.Txt.e_NoNumber (by assumption) | exact K64.Txt.e_Wrong (by assumption))
local macro_rules | `(tactic| walk_at "hx") => `(tactic| first | exact K64.Txt.x_BadWord_NoNumber (by assumption) | exact K64.Txt.x_BadWord_NoRoom (by assumption) | exact K64.Txt.x_NoRoom_NoNumber (by assumption) | exact K64.Txt.x_NoRoom_NoRoom (by assumption) | exact K64.Txt.x_NoNumber_NoNumber (by assumption) | exact K64.Txt.x_NoNumber_NoRoom (by assumption) | exact K64.Txt.x_Wrong_NoNumber (by assumption) | exact K64.Txt.x_Wrong_NoRoom (by assumption))
local macro_rules | `(tactic| walk_at "hk") => `(tactic| first | fail)

local macro_rules | `(tactic| walk_at "kr") => `(tactic| first | (guard_target =~ KW.uGet _ _ _ _ _; refine ST.get_p (by assumption) (by rfl) (by walk_at "hc") (by decide) (by rfl) ?_) | (guard_target =~ KW.uMet.uMt _ _ _ _ _ _ _ _ _; refine ST.met_p (by assumption) (by rfl) (by decide) ?_))
section
variable {P : Program} {w : World} {K : Frag} {mg : Str → Option Value} {base : Heap} {a : Ads}
theorem ok__law_told (T : Txt P w K mg a) : Cal P w K mg base 5 "_law_told" (spTold a.Space a.Store) := by
  have C__law_walk := ok__law_walk (P := P) (w := w) (base := base) T
  have C_word_at := ok_word_at (P := P) (w := w) (base := base) T
  have C__law_is := ok__law_is (P := P) (w := w) (base := base) T
  refine T.d__law_told.ok sc__law_told (fun vs H Q E h => ?_) (fun f cdv A outer s H vs Q E hr h => ⟨_, (pss_cons (ps_set (i := 4) sc__law_told.nd rfl (Or.inl rfl) (kc C__law_walk (hr.mono (by decide)) (pa_cons (kv 1) (pa_cons (kv 2) (pa_cons (kv 3) pa_nil)))))
      (pss_cons (ps_set (i := 5) sc__law_told.nd rfl (Or.inl rfl) (kc C_word_at (hr.mono (by decide)) (pa_cons (kv 0) (pa_cons (kv 3) pa_nil))))
      (pss_cons (ps_if (pt_cmpR o_is (kv 4) pe_non (nomark _))
      (pss_one (ps_ret (pe_cmpR o_is (kv 5) pe_non (nomark _))))
      pss_nil)
      (pss_one (ps_ret (kc C__law_is (hr.mono (by decide)) (pa_cons (kv 5) (pa_cons (kv 4) pa_nil)))))))), ?_⟩)
  · obtain ⟨_, _, _, _, _, _, _, rfl, _⟩ := h; rfl
  · obtain ⟨d, rl, wo, p, Ls, ws, path, rfl, Z, Y, e1, e2, hp, lp, h⟩ := h
    walk_at "kk"
    refine ⟨rl, wo, p, Ls, ws, path, rfl, Y, .inr hp, lp, fun H1 f1 => ?_⟩
    have Z1 := Z.fr0 f1
    have hp1 := f1 _ _ (by simp) hp
    walk_at "kk"
    refine ⟨d, p, path, rfl, Z1, hp1, lp, fun H2 f2 => ?_⟩
    have ew : wa (gB d.B) d.ws path = wa (gL Ls) (0 :: ws) path := by
      rw [e1]; unfold Spd.ws; rw [e2]
    rw [ew]
    have F2 := f1.trans f2
    cases wa (gL Ls) (0 :: ws) path with
    | none =>
      show _
      unfold optV
      walk_at "kk"
      exact h H2 F2
    | some w =>
      unfold optV
      walk_at "kk"
      refine is_s ?_
      rw [decide_eq_true rfl]
      exact h H2 F2
theorem ok__law_drawn (T : Txt P w K mg a) : Cal P w K mg base 2 "_law_drawn" spDrawn := by
  have C__law_walk := ok__law_walk (P := P) (w := w) (base := base) T
  refine T.d__law_drawn.ok sc__law_drawn (fun vs H Q E h => ?_) (fun f cdv A outer s H vs Q E hr h => ⟨_, (pss_cons (ps_set (i := 3) sc__law_drawn.nd rfl (Or.inl rfl) (pe_lst pa_nil))
      (pss_cons (ps_set (i := 4) sc__law_drawn.nd rfl (Or.inl rfl) (pe_op o_add (pe_lst (pa_cons pe_int pa_nil)) (kv 2)))
      (pss_cons (ps_set (i := 5) sc__law_drawn.nd rfl (Or.inl rfl) (pe_op o_fdiv (kv 0) pe_int))
      (pss_cons (k_for (passes_of rfl) rfl (pi_range1 (by rfl) T.n_range (pa_cons (pe_op o_mod (pe_callTy c_int (by rfl) T.n_int (by decide +kernel) (pa_cons (kv 0) pa_nil)) pe_int) pa_nil)) (pg_name (i := 6) sc__law_drawn.nd rfl (Or.inl rfl))
      (pss_cons (ps_set (i := 7) sc__law_drawn.nd rfl (Or.inl rfl) (pe_op o_sub (pe_op o_mod (pe_callTy c_int (by rfl) T.n_int (by decide +kernel) (pa_cons (kv 5) pa_nil)) (pe_op o_add (pe_callB c_len (by rfl) T.n_len (by decide +kernel) (pa_cons (kv 4) pa_nil)) pe_int)) pe_int))
      (pss_cons (ps_set (i := 5) sc__law_drawn.nd rfl (Or.inl rfl) (pe_op o_fdiv (kv 5) pe_int))
      (pss_cons (ps_expr (pe_bm PySem.F.plainAttrs_list PySem.F.slot_list_append PySem.F.type_list_append mt_append (kv 3) (pa_cons (kv 7) pa_nil)))
      (pss_cons (ps_set (i := 4) sc__law_drawn.nd rfl (Or.inl rfl) (pe_lst pa_nil))
      (pss_cons (ps_set (i := 8) sc__law_drawn.nd rfl (Or.inl rfl) (kc C__law_walk (hr.mono (by decide)) (pa_cons (kv 1) (pa_cons (kv 2) (pa_cons (kv 3) pa_nil)))))
      (pss_one (ps_if (PW.pt (pw_and (pt_cmpR o_isnot (kv 8) pe_non (nomark _)) (pw_and (pt_cmpR (o_eq hr.units) (pe_op o_mod (pe_callTy c_int (by rfl) T.n_int (by decide +kernel) (pa_cons (kv 8) pa_nil)) pe_int) pe_int (nomark _)) (pw_and1 (pt_cmpR o_lt (pe_op o_fdiv (kv 8) pe_int) (pe_callB c_len (by rfl) T.n_len (by decide +kernel) (pa_cons (kv 1) pa_nil)) (nomark _))))))
      (pss_one (ps_set (i := 4) sc__law_drawn.nd rfl (Or.inl rfl) (pe_ix o_ix (kv 1) (pe_op o_fdiv (kv 8) pe_int) (fun _ _ => rfl))))
      pss_nil))))))))
      (pss_one (ps_ret (pe_callTy c_tuple (by rfl) T.n_tuple (by decide +kernel) (pa_cons (kv 3) pa_nil)))))))), ?_⟩)
  · obtain ⟨_, _, _, _, _, rfl, _⟩ := h; rfl
  · obtain ⟨x, rl, wo, Ls, ws, rfl, Y, h⟩ := h
    have l4 := Y.l4
    have l1 := Y.l1
    walk_at "kk"
    intro pl hpl
    have f1 : KW.Fr [] H (upd H pl (.lst [])) := Fr.new hpl
    have p1 : IL (upd H pl (.lst [])) pl [] := upd_same
    revert f1 p1
    generalize upd H pl (.lst []) = H1
    intro f1 p1
    have W := (Y.fr0 f1).W
    walk_at "kk"
    intro t ht
    have t1 : upd H1 t (.lst [.int 0]) t = some (.lst [.int 0]) := upd_same
    have wt : wo ≠ t := ne_of_none W ht
    have w1 : upd H1 t (.lst [.int 0]) wo = some (.lst (ws.map V.int)) := by rw [upd_ne wt]; exact W
    refine ucat_l (xs := [.int 0]) (zs := ws.map V.int) t1 w1 (le_line (by simp only [List.length_map, List.length_cons, List.length_nil]; omega)) fun ra hra => ?_
    have f2 : KW.Fr [] H1 (upd (upd H1 t (.lst [.int 0])) ra (.lst ([.int 0] ++ ws.map V.int))) := (Fr.new ht).trans (Fr.new hra)
    have i2 : IL (upd (upd H1 t (.lst [.int 0])) ra (.lst ([.int 0] ++ ws.map V.int))) ra (0 :: ws) := by show upd _ _ _ _ = _; rw [upd_same]; rfl
    revert f2 i2
    generalize upd (upd H1 t (.lst [.int 0])) ra (.lst ([.int 0] ++ ws.map V.int)) = H2
    intro f2 i2
    clear t1 w1 hra ht W
    have p2 := f2 _ _ (by simp) p1
    have F2 := f1.trans f2
    obtain ⟨QD, hQD⟩ : ∃ QD : Nat → L2.St → Hp → Prop, QD = fun k σ H' => ∃ (ra : Addr) (row path : List Int) (rest : Int) (v6 v7 v8 : Option V), σ = [some (.int x), some (.ref rl), some (.ref wo), some (.ref pl), some (.ref ra), some (.int rest), v6, v7, v8] ∧ KW.Fr [] H H' ∧ IL H' pl path ∧ path.length = k ∧ IL H' ra row ∧ ra ≠ pl ∧ row.length ≤ 100 := ⟨_, rfl⟩
    walk_at "kk"
    have xm : x % 6 = ((x % 6).toNat : Nat) := by omega
    refine for_rng QD (by rw [hQD]; exact ⟨ra, 0 :: ws, [], _, _, _, _, rfl, F2, p2, rfl, i2, fun z => (by unfold IL at i2; rw [z, p2] at i2; cases i2), by rw [List.length_cons]; omega⟩) ?_ ?_
    · intro k σ H3 hk hp
      rw [hQD] at hp
      obtain ⟨ra, row, path, rest, v6, v7, v8, rfl, F3, p3, lp, i3, rp, lr⟩ := hp
      have p3' : H3 pl = some (.lst (path.map V.int)) := p3
      have i3' : H3 ra = some (.lst (row.map V.int)) := i3
      walk_at "kk"
      intro r0 hr0
      have f5 : KW.Fr [] H (upd (upd H3 pl (.lst (path.map V.int ++ [.int (rest % ((row.length : Int) + 2) - 1)]))) r0 (.lst [])) := (Fr.atN F3 hpl).trans (Fr.new hr0)
      have np : pl ≠ r0 := fun z => by rw [z, upd_same] at hr0; cases hr0
      have p5 : IL (upd (upd H3 pl (.lst (path.map V.int ++ [.int (rest % ((row.length : Int) + 2) - 1)]))) r0 (.lst [])) pl (path ++ [rest % ((row.length : Int) + 2) - 1]) := by show upd _ _ _ _ = _; rw [upd_ne np, upd_same, List.map_append]; rfl
      have i5 : IL (upd (upd H3 pl (.lst (path.map V.int ++ [.int (rest % ((row.length : Int) + 2) - 1)]))) r0 (.lst [])) r0 [] := upd_same
      revert f5 p5 i5
      generalize upd (upd H3 pl (.lst (path.map V.int ++ [.int (rest % ((row.length : Int) + 2) - 1)]))) r0 (.lst []) = H5
      intro f5 p5 i5
      have lp5 : (path ++ [rest % ((row.length : Int) + 2) - 1]).length = k + 1 := by rw [List.length_append, lp]; rfl
      refine ⟨rl, wo, pl, Ls, ws, path ++ [rest % ((row.length : Int) + 2) - 1], rfl, Y.fr0 f5, .inl p5, by omega, fun H6 f6 => ?_⟩
      have F6 := f5.trans f6
      have p6 := f6 _ _ (by simp) p5
      have i6 := f6 _ _ (by simp) i5
      have Y6 := Y.fr0 F6
      have li6 := Y6.R.li
      have no : ∀ v8 : Option V, QD (k + 1) [some (.int x), some (.ref rl), some (.ref wo), some (.ref pl), some (.ref r0), some (.int (rest / 23)), some (.int k), some (.int (rest % ((row.length : Int) + 2) - 1)), v8] H6 := fun v8 => by
        rw [hQD]
        exact ⟨_, [], _, _, _, _, _, rfl, F6, p6, lp5, i6, Ne.symm np, by simp⟩
      cases ew : wa (gL Ls) (0 :: ws) (path ++ [rest % ((row.length : Int) + 2) - 1]) with
      | none =>
        simp only [optV]
        walk_at "kk"
        exact no _
      | some w =>
        simp only [optV]
        have ev : Ev w := by
          rcases wa_mem ew with q | ⟨n, r, q1, q2⟩
          · rcases List.mem_cons.mp q with q | q
            · subst q; exact fun _ => by omega
            · exact Y.l5 w q
          · exact (gL_ev Y q1).2 w q2
        walk_at "kk"
        split
        · rename_i e
          have w0 := ev e
          obtain ⟨m, hm⟩ : ∃ m : Nat, w / 2 = m := ⟨(w / 2).toNat, by omega⟩
          walk_at "kk"
          split
          · rename_i c
            obtain ⟨⟨pa, r⟩, hx⟩ : ∃ x, Ls[m]? = some x := ⟨_, List.getElem?_eq_getElem (by omega)⟩
            have hvm : atI (Ls.map fun x => V.ref x.1) (w / 2) = some (.ref pa) := by rw [hm]; exact atI_map (f := fun x : Addr × List Int => V.ref x.1) hx
            have bx := Y.l2 _ (List.mem_of_getElem? hx)
            dsimp only at bx
            refine ⟨by walk_at "sc", ?_⟩
            walk_at "kk"
            rw [hQD]
            have pr := Y6.R.rs _ (List.mem_of_getElem? hx)
            refine ⟨pa, r, _, _, _, _, _, rfl, F6, p6, lp5, pr, fun z => ?_, by omega⟩
            have h1 := Y.R.rs _ (List.mem_of_getElem? hx)
            unfold IL at h1
            dsimp only at h1
            rw [z, hpl] at h1; cases h1
          · exact no _
        · exact no _
    · intro σ H3 hp
      rw [hQD] at hp
      obtain ⟨ra, row, path, rest, v6, v7, v8, rfl, F3, p3, lp, i3, rp, lr⟩ := hp
      have p3' : H3 pl = some (.lst (path.map V.int)) := p3
      walk_at "kk"
      exact ⟨_, .inl ⟨.of p3', fun l hl => h l _ path (F3.trans (Fr.new hl)) upd_same (by omega)⟩⟩
end
end K64

set_option Elab.async false
set_option linter.all false
set_option maxRecDepth 100000
set_option maxHeartbeats 4000000
namespace K64
open PySem PySem.Spec PyProof.Rows L2 KW ST LamX
local macro_rules | `(tactic| walk_at "kw") => `(tactic| simp only [tSeq, tNext, tIfS, tTest, tAnd, tOr, tNot, tAndV, tOrV, tNotV, tIf, tChain, tOp, tUn, tC, tAsg, gName, gSub, gCons, gNil, tRet, tRetN, tDrop, tCons, tNil, tCB, tAug, tSl, tPart, tNoPart, tLst, tTup, tBM, tBM0, uTest, uFor, iRng1, iRng2, iList, uCall, List.map_cons, List.map_nil, List.length_cons, List.length_nil, List.cons_append, List.nil_append, List.replicate, Nat.zero_add, Nat.reduceAdd, Nat.reduceSub, List.getElem?_cons_zero, List.getElem?_cons_succ, List.set_cons_zero, List.set_cons_succ, V.bl.injEq, V.int.injEq, V.str.injEq, V.ref.injEq, V.ty.injEq, List.cons.injEq, and_true, true_and, exists_eq_left', exists_eq_right, exists_eq_left, exists_and_left, exists_and_right, decide_eq_true_eq, Bool.not_eq_true', decide_eq_false_iff_not, Bool.false_eq_true, if_true, if_false, ite_true, ite_false, Bool.not_true, Bool.not_false, reduceCtorEq, decide_true, decide_false, Bool.not_not, isK_int_int, isK_int_bool, isK_int_str, isK_int_list, isK_int_tuple, isK_bool_int, isK_bool_bool, isK_bool_str, isK_str_str, isK_str_int, isK_str_bool, isK_str_tuple, isK_str_list, isK_list_list, isK_list_tuple, isK_tuple_tuple, isK_tuple_list, isOk_int_int, isOk_int_bool, isOk_int_str, isOk_int_list, isOk_int_tuple, isOk_bool_int, isOk_bool_bool, isOk_bool_str, isOk_str_str, isOk_str_int, isOk_str_bool, isOk_str_tuple, isOk_str_list, isOk_list_list, isOk_list_tuple, isOk_tuple_tuple, isOk_tuple_list, isK_dict_dict, isOk_dict_dict, isK_none_int, isK_none_bool, isOk_none_int, isOk_none_bool, tyV, S_inj, S_cat, L2.start, Nat.reduceSub, List.replicate_succ, List.replicate_zero, and_assoc, List.append_nil, Nat.reduceEqDiff, Option.some.injEq, Int.natCast_inj, upd_upd, Int.reducePow, Int.reduceToNat, Int.reduceMul, Int.reduceAdd, Int.reduceSub, Int.reduceLT, Int.reduceLE, Int.reduceNeg, Int.reduceDiv, Int.reduceMod, Nat.reducePow, Nat.reduceMul, S_len, List.length_append, List.length_map, List.length_range, not_true_eq_false, not_false_eq_true, ne_eq, uAdd_e1, uAdd_e2, uSub_e1, uMod_e1, uDiv_e1, uPow_e1, uShl_e1, uNeg_e1, uIAdd_e1, uIAdd_e2, uIAdd_e3, uISub_e1, uLt_e1, uLt_e2, uLe_e1, uGt_e1, uGe_e1, uEq_e1, uEq_e2, uEq_e3, uEq_e4, uEq_e5, uEq_e6, uEq_e7, uEq_e8, uEq_e9, uEq_e10, uEq_e11, uNe_e1, uNe_e2, uNe_e3, uNe_e4, uNe_e5, uNe_e6, uNe_e7, uNe_e8, uNe_e9, uNe_e10, uNe_e11, uIs_e1, uIs_e2, uIs_e3, uIs_e4, uIs_e5, uIs_e6, uIs_e7, uNotIs_e1, uNotIs_e2, uNotIs_e3, uNotIs_e4, uNotIs_e5, uNotIs_e6, uIn_e1, uIn_e2, uIn_e3, uIn_e4, uNotIn_e1, uNotIn_e2, uNotIn_e3, uNotIn_e4, uTru_e1, uTru_e2, uTru_e3, uTru_e4, uIx_e2, uSl_e2, uLen_e1, uAbs_e1, uInt_e1, uInt_e2, uMin2_e1, uIsi_e1, uIsi_e2, uIsi_e3, uIsi_e4, cx_K, uVar_0, uVar_n, uFld, uSFld, uMet, uMake, tDG, tDI, tDNI, tDP, tDD, uMk, uRaise, uDelSl, tCallS, L2.WE, uStr_e1, uStr_e2, uMul2_e1, uMul2_e2, okS_i, okS_s, List.zip_cons_cons, List.zip_nil_left, List.drop_zero, List.drop_succ_cons, List.drop_nil, putF_nil, putF_cons, eq_self, tDNewK, tB, Option.isSome_some, Option.isSome_none, false_and, false_or, or_false, exists_false, Int.zero_add, uLc, wipe, tYes, isEmpty_app, List.isEmpty_cons, List.isEmpty_nil, List.isEmpty_map, Bool.and_false, Bool.and_true, iRev, K64.lit_0, K64.fe_room_entries, K64.fe_room_words, K64.fe_room__places, K64.fe_room__least, K64.fe_entries_room, K64.fe_entries_words, K64.fe_entries__places, K64.fe_entries__least, K64.fe_words_room, K64.fe_words_entries, K64.fe_words__places, K64.fe_words__least, K64.fe__places_room, K64.fe__places_entries, K64.fe__places_words, K64.fe__places__least, K64.fe__least_room, K64.fe__least_entries, K64.fe__least_words, K64.fe__least__places, K64.fe_store_pressure, K64.fe_store_always, K64.fe_store_allocations, K64.fe_store_collections, K64.fe_store__roots, K64.fe_store__held, K64.fe_store__saved, K64.fe_pressure_store, K64.fe_pressure_always, K64.fe_pressure_allocations, K64.fe_pressure_collections, K64.fe_pressure__roots, K64.fe_pressure__held, K64.fe_pressure__saved, K64.fe_always_store, K64.fe_always_pressure, K64.fe_always_allocations, K64.fe_always_collections, K64.fe_always__roots, K64.fe_always__held, K64.fe_always__saved, K64.fe_allocations_store, K64.fe_allocations_pressure, K64.fe_allocations_always, K64.fe_allocations_collections, K64.fe_allocations__roots, K64.fe_allocations__held, K64.fe_allocations__saved, K64.fe_collections_store, K64.fe_collections_pressure, K64.fe_collections_always, K64.fe_collections_allocations, K64.fe_collections__roots, K64.fe_collections__held, K64.fe_collections__saved, K64.fe__roots_store, K64.fe__roots_pressure, K64.fe__roots_always, K64.fe__roots_allocations, K64.fe__roots_collections, K64.fe__roots__held, K64.fe__roots__saved, K64.fe__held_store, K64.fe__held_pressure, K64.fe__held_always, K64.fe__held_allocations, K64.fe__held_collections, K64.fe__held__roots, K64.fe__held__saved, K64.fe__saved_store, K64.fe__saved_pressure, K64.fe__saved_always, K64.fe__saved_allocations, K64.fe__saved_collections, K64.fe__saved__roots, K64.fe__saved__held, tDGF_eq, uDGetF_e1, tLstRg, tRg1, K64.N_is_ref, K64.N_ref_of, K64.N_reached, K64.N_collect, K64.N_object_of, K64.N_row_of, K64.N_word_at, K64.N_paths, K64.N_garbage, K64.N_Store_init, K64.N_Store_exists, K64.N_Store_numbers, K64.N_Store_free_number, K64.N_Store_allocate, K64.N_Store_size, K64.N_Store_kind, K64.N_Store_get, K64.N_Store_put, K64.N_Store_slots, K64.N_Store_drop, K64.N_Store_close_up, K64.N_Space_init, K64.N_Space_root, K64.N_Space_set_root, K64.N_Space_hold, K64.N_Space_drop, K64.N_Space_held, K64.N_Space_all_roots, K64.N_Space_collect, K64.N_Space_collect_with, K64.N_Space_new, K64.N_Space_fitted, K64.N__law_number, K64.N__law_word, K64.N__law_is, K64.N__law_same, K64.N__law_sizes, K64.N__law_rows, K64.N__law_roots, K64.N__law_space, K64.N__law_walk, K64.N__law_extended, K64.N__law_best, K64.N__law_path_is, K64.N__law_told, K64.N__law_drawn, K64.N__law_kept, K64.N__law_long, K64.N_law, sp_is_ref, sp_ref_of])
local macro_rules | `(tactic| walk_at "nn") => `(tactic| first | assumption | exact ne_un (by assumption) | exact ne_un (ne_un (by assumption)) | exact ne_un (ne_un (ne_un (by assumption))) | exact ne_un (ne_un (ne_un (ne_un (by assumption)))))
local macro_rules | `(tactic| walk_at "ne") => `(tactic| first | assumption | (apply Ne.symm; assumption) | exact ne_ud (by assumption) | exact Ne.symm (ne_ud (by assumption)) | exact ne_ud (ne_un (by assumption)) | exact Ne.symm (ne_ud (ne_un (by assumption))) | exact ne_ud (ne_un (ne_un (by assumption))) | exact Ne.symm (ne_ud (ne_un (ne_un (by assumption)))) | exact ne_m (by assumption) (by assumption) | exact Ne.symm (ne_m (by assumption) (by assumption)) | exact ne_n (by assumption) (by walk_at "nn") | exact Ne.symm (ne_n (by assumption) (by walk_at "nn")))
local macro_rules | `(tactic| walk_at "hp") => `(tactic| first | assumption | exact upd_same | (refine Eq.trans (upd_ne ?_) ?_; (focus walk_at "ne"); walk_at "hp"))
local macro_rules | `(tactic| walk_at "sc") => `(tactic| first | (with_reducible assumption) | omega | exact le_line (by (try simp only [List.length_map, List.length_append, List.length_cons, List.length_nil, S_len]); omega) | exact div_s (by omega) | exact mul_r (by omega) | exact mul_l (by omega) | exact pow_s (by omega) | exact mul2_r (by omega) | exact mul2_l (by omega) | exact small4300 (by omega) | exact lt_line (by (try simp only [List.length_map, List.length_append, List.length_cons, List.length_nil, S_len]); omega) | exact ⟨_, by assumption⟩ | (guard_target =~ Exists _; exact ⟨_, .of (by walk_at "hp")⟩) | (guard_target =~ _ ∨ _; exact .inl ⟨_, by assumption⟩) | (guard_target =~ _ ∨ _; exact .inl ⟨_, .of (by walk_at "hp")⟩) | (guard_target =~ _ ∨ _; exact .inr (.inr (.inl ⟨rfl, .inl ⟨_, by walk_at "hp"⟩⟩))) | decide)
local macro_rules | `(tactic| walk_at "kr") => `(tactic| first | (guard_target =~ _ ∧ _; first | refine And.intro (by walk_at "sc") ?_) | (guard_target =~ KW.uIx _ _ _ _ _; first | refine ix_l (by walk_at "hp") (by first | walk_at "hv" | rfl) ?_ | refine ix_t (by walk_at "hp") (by first | walk_at "hv" | rfl) ?_ | refine ix_sl (by assumption) (by walk_at "hv") ?_) | (guard_target =~ KW.uLen _ _ _ _; first | refine len_l (by walk_at "hp") ?_ | refine len_t (by walk_at "hp") ?_ | refine len_sl (by assumption) ?_) | (guard_target =~ KW.uSet _ _ _ _ _; first | refine set_l (by walk_at "hp") (by first | walk_at "hv" | rfl) ?_) | (guard_target =~ L2.gTup _ _ _ _ _ _ _; first | refine tup_l (by walk_at "hp") (by rfl) ?_) | (guard_target =~ KW.uGet _ _ _ _ _; first | refine get_l (by walk_at "hp") (by walk_at "hc") (by decide) (by rfl) ?_) | (guard_target =~ KW.uPut _ _ _ _ _ _; first | refine put_l (by walk_at "hp") (by walk_at "hc") (by decide) (by simp) ?_) | (guard_target =~ KW.uMet.uMt _ _ _ _ _ _ _ _ _; first | refine met_l (by walk_at "hp") (by rfl) ?_) | (guard_target =~ KW.uMet.uMt _ _ _ _ _ _ _ _ _; first | refine ST.met_s (by assumption) (by decide) ?_) | (guard_target =~ ST.spExists _ _ _ _ _; first | refine ST.exists_s (by assumption) ?_) | (guard_target =~ ST.spUsed _ _ _ _ _; first | refine ST.used_s (by assumption) ?_) | (guard_target =~ KW.uGet _ _ _ _ _; first | refine ST.words_s (by assumption) (by walk_at "hc") (by decide) ?_) | (guard_target =~ KW.uDIn _ _ _ _; first | refine din_i (by walk_at "hp") ?_ | refine din_s (by walk_at "hp") ?_) | (guard_target =~ KW.uDGet _ _ _ _; first | refine dget_i (by walk_at "hp") (by walk_at "hv") ?_ | refine dget_s (by walk_at "hp") (by walk_at "hv") ?_) | (guard_target =~ KW.uDPut _ _ _ _ _; first | refine dput_i (by walk_at "hp") (by walk_at "sc") ?_ | refine dput_s (by walk_at "hp") (by walk_at "sc") ?_) | (guard_target =~ KW.uDDel _ _ _ _; first | refine ddel_i (by walk_at "hp") (by walk_at "hv") ?_ | refine ddel_s (by walk_at "hp") (by walk_at "hv") ?_) | (guard_target =~ KW.uMul2 _ _ _ _; first | refine rep_l (by walk_at "hp") (by walk_at "sc") (by walk_at "sc") (by walk_at "sc") ?_) | (guard_target =~ L2.rAppend _ _ _ _; first | refine app_l (by walk_at "hp") (by walk_at "sc") ?_) | (guard_target =~ L2.rPop _ _ _ _; first | refine pop_l (by walk_at "hp") (by walk_at "hv") ?_ | refine pops_l (by walk_at "hp") ?_) | (guard_target =~ L2.rClear _ _ _ _; first | refine clr_l (by walk_at "hp") ?_) | (guard_target =~ L2.rReverse _ _ _ _; first | refine rev_l (by walk_at "hp") ?_) | (guard_target =~ L2.rExtend _ _ _ _; first | refine ext_l (by walk_at "hp") (by walk_at "hp") (by walk_at "sc") ?_) | (guard_target =~ KW.uAdd _ _ _ _ _; first | refine ucat_l (by walk_at "hp") (by walk_at "hp") (by walk_at "sc") ?_) | (guard_target =~ KW.uSl _ _ _ _ _ _; first | refine usl_l (by walk_at "hp") ?_) | (guard_target =~ KW.uTru _ _ _ _; first | refine tru_l (by walk_at "hp") ?_ | refine tru_t (by walk_at "hp") ?_ | refine tru_d (by walk_at "hp") ?_ | refine tru_sl (by assumption) ?_) | (guard_target =~ L2.rIndex _ _ _ _ _; first | refine idx_s (by walk_at "hp") (by assumption) ?_ | refine idx_i (by walk_at "hp") (by assumption) ?_) | (guard_target =~ L2.rIn _ _ _ _ _ _; first | refine in_s (by walk_at "hp") ?_ | refine nin_s (by walk_at "hp") ?_ | refine in_i (by walk_at "hp") ?_ | refine nin_i (by walk_at "hp") ?_) | (guard_target =~ KW.uIsi _ _ _ _; first | refine isi_l (by walk_at "hp") (by decide +kernel) ?_ | refine isi_t (by walk_at "hp") (by decide +kernel) ?_ | refine isi_d (by walk_at "hp") (by decide +kernel) ?_) | (guard_target =~ KW.uList _ _ _ _; first | refine list_l (by walk_at "hp") ?_ | refine list_t (by walk_at "hp") ?_ | refine list_sl (by assumption) ?_) | (guard_target =~ KW.uDict _ _ _; first | refine dict_d (by walk_at "hp") ?_) | (guard_target =~ KW.uSorted _ _ _ _; first | refine srt_l (by walk_at "hp") ?_) | (guard_target =~ KW.uSum _ _ _ _; first | refine sum_l (by walk_at "hp") ?_) | (guard_target =~ KW.uDelC _ _ _ _; first | refine dels_l (by walk_at "hp") (by walk_at "sc") ?_) | (guard_target =~ L2.wAs _ _ _ _ _ _ _ _ _ _; first | refine as_yes (by walk_at "hx") ?_ | refine as_no (by walk_at "hx") ?_) | (guard_target =~ KW.uEf _ _ _ _ _ _ _ _ _; first | refine ef_l (by walk_at "he") (by decide) (by rfl) (by walk_at "hp") (by rfl) ?_) | (guard_target =~ KW.uIsE _ _ _ _ _ _ _; first | refine isE_r (by walk_at "he") (by walk_at "hp") (by walk_at "hk") ?_ | refine isE_t (by walk_at "he") (by walk_at "hp") (by walk_at "hk") ?_))
local macro_rules | `(tactic| walk_at "hv") => `(tactic| first | assumption)
local macro_rules | `(tactic| walk_at "kk") => `(tactic| repeat (first | walk_at "kw" | walk_at "kr"))
local macro_rules | `(tactic| walk_at "hc") => `(tactic| first | exact K64.Txt.c_Store (by assumption) | exact K64.Txt.c_Space (by assumption))
local macro_rules | `(tactic| walk_at "he") => `(tactic| first | exact K64.Txt.e_BadWord (by assumption) | exact K64.Txt.e_NoRoom (by assumption) | exact K64.Txt.e_NoNumber (by assumption) | exact K64.Txt.e_Wrong (by assumption))
local macro_rules | `(tactic| walk_at "hx") => `(tactic| first | exact K64.Txt.x_BadWord_NoNumber (by assumption) | exact K64.Txt.x_BadWord_NoRoom (by assumption) | exact K64.Txt.x_NoRoom_NoNumber (by assumption) | exact K64.Txt.x_NoRoom_NoRoom (by assumption) | exact K64.Txt.x_NoNumber_NoNumber (by assumption) | exact K64.Txt.x_NoNumber_NoRoom (by assumption) | exact K64.Txt.x_Wrong_NoNumber (by assumption) | exact K64.Txt.x_Wrong_NoRoom (by assumption))
local macro_rules | `(tactic| walk_at "hk") => `(tactic| first | fail)

local macro_rules | `(tactic| walk_at "kr") => `(tactic| first | (guard_target =~ KW.uGet _ _ _ _ _; refine ST.get_p (by assumption) (by rfl) (by walk_at "hc") (by decide) (by rfl) ?_) | (guard_target =~ KW.uMet.uMt _ _ _ _ _ _ _ _ _; refine ST.met_p (by assumption) (by rfl) (by decide) ?_))
section
variable {P : Program} {w : World} {K : Frag} {mg : Str → Option Value} {base : Heap} {a : Ads}
theorem ok_paths (T : Txt P w K mg a) : Cal P w K mg base 4 "paths" (spPaths a.Space a.Store) := by
  have M_Space_all_roots := ok_Space_all_roots (P := P) (w := w) (base := base) T
  have C_object_of := ok_object_of (P := P) (w := w) (base := base) T
  have C_row_of := ok_row_of (P := P) (w := w) (base := base) T
  refine T.d_paths.ok sc_paths (fun vs H Q E h => ?_) (fun f cdv A outer s H vs Q E hr h => ⟨_, (pss_cons (ps_set (i := 1) sc_paths.nd rfl (Or.inl rfl) pe_dnewK)
      (pss_cons (ps_set (i := 2) sc_paths.nd rfl (Or.inr rfl) (km0 M_Space_all_roots (hr.mono (by decide)) (kv 0)))
      (pss_cons (k_setLc (i := 3) (own := [("k", 4)]) (g := gName 4) (by rfl) sc_paths.nd rfl rfl (sw_true rfl rfl rfl (by decide +kernel)) (pi_range1 (by rfl) T.n_range (pa_cons (pe_callB c_len (by rfl) T.n_len (by decide +kernel) (pa_cons (kv 2) pa_nil)) pa_nil)) (blkOk_by (own := [("k", 4)]) (N := ["space", "found", "words", "waiting", "k", "later", "path", "word", "number", "row"]) (sc := defScope s_paths) (by decide +kernel)) (fun _ _ _ _ _ => pg_name (i := 4) sc_paths.nd rfl (Or.inl rfl)) (fun _ _ _ _ _ => pts_nil) (fun _ _ _ _ _ => by exact (pe_tup (pa_cons (pe_tup (pa_cons (kv 4) pa_nil)) (pa_cons (pe_ix (o_ixK K) (kv 2) (kv 4) (fun _ _ => rfl)) pa_nil)))))
      (pss_cons (k_while (passes_of rfl) (kt (kv 3))
      (pss_cons (ps_set (i := 5) sc_paths.nd rfl (Or.inl rfl) (pe_lst pa_nil))
      (pss_cons (k_for (passes_of rfl) rfl (pi_list (kv 3)) (pg_tup (n := 2) (by rfl) (pgs_cons (pg_name (i := 6) sc_paths.nd rfl (Or.inr rfl)) (pgs_cons (pg_name (i := 7) sc_paths.nd rfl (Or.inl rfl)) pgs_nil)))
      (pss_cons (ps_set (i := 8) sc_paths.nd rfl (Or.inl rfl) (kc C_object_of (hr.mono (by decide)) (pa_cons (kv 0) (pa_cons (kv 7) pa_nil))))
      (pss_one (ps_if (PW.pt (pw_and (pt_cmpR o_isnot (kv 8) pe_non (nomark _)) (pw_and1 (pt_cmp (k_dnotin (hu_of hr) (kv 8) (kv 1))))))
      (pss_cons (k_dput (hu_of hr) (kv 1) (kv 8) (kv 6))
      (pss_cons (ps_set (i := 9) sc_paths.nd rfl (Or.inr rfl) (kc C_row_of (hr.mono (by decide)) (pa_cons (kv 0) (pa_cons (kv 8) pa_nil))))
      (pss_one (ps_expr (pe_bm PySem.F.plainAttrs_list PySem.F.slot_list_extend PySem.F.type_list_extend mt_extend (kv 5) (pa_cons (k_lc (own := [("k", 4)]) (g := gName 4) (by rfl) sc_paths.nd (pi_range1 (by rfl) T.n_range (pa_cons (pe_callB c_len (by rfl) T.n_len (by decide +kernel) (pa_cons (kv 9) pa_nil)) pa_nil)) (blkOk_by (own := [("k", 4)]) (N := ["space", "found", "words", "waiting", "k", "later", "path", "word", "number", "row"]) (sc := defScope s_paths) (by decide +kernel)) (fun _ _ _ _ _ => pg_name (i := 4) sc_paths.nd rfl (Or.inl rfl)) (fun _ _ _ _ _ => pts_nil) (fun _ _ _ _ _ => by exact (pe_tup (pa_cons (pe_op (o_addK K) (kv 6) (pe_tup (pa_cons (kv 4) pa_nil))) (pa_cons (pe_ix (o_ixK K) (kv 9) (kv 4) (fun _ _ => rfl)) pa_nil))))) pa_nil))))))
      pss_nil))))
      (pss_one (ps_set (i := 3) sc_paths.nd rfl (Or.inl rfl) (kv 5))))))
      (pss_one (ps_ret (kv 1))))))), ?_⟩)
  · obtain ⟨_, rfl, _⟩ := h; rfl
  · obtain ⟨d, rfl, Z, h⟩ := h
    walk_at "kk"
    intro l hl
    have f1 : KW.Fr [] H (upd H l (.dK [])) := Fr.new hl
    have l1 : upd H l (.dK []) l = some (.dK []) := upd_same
    revert f1 l1
    generalize upd H l (.dK []) = H1
    intro f1 l1
    have Z1 := Z.fr0 f1
    have bd := Z.bd
    have r16 := Z.r16
    have l9 := Z.l9
    obtain ⟨g, hg⟩ : ∃ g, g = gB d.B := ⟨_, rfl⟩
    rw [← hg] at h
    walk_at "kk"
    refine allRoots_s Z1 fun wo H2 n2 f2 i2 => ?_
    have F2 := f1.trans f2
    have l2 := f2 _ _ (by simp) l1
    have lw : d.ws.length = d.R.length + d.L.length + 1 := by unfold Spd.ws; simp
    have hw2 : H2 wo = some (.lst (d.ws.map V.int)) := i2
    walk_at "kk"
    rw [Int.toNat_natCast, ← lw]
    refine lc_rG (fun j Dn acc H' => ∃ Ts : List PT, acc = Ts.map (fun t => .ref t.q) ∧ wpT Ts = (ext [] d.ws).take j ∧ Wt H' Dn Ts ∧ KW.Fr [] H2 H') (fun Dn hD => ⟨[], rfl, rfl, ⟨upd_same, by simp⟩, Fr.new hD⟩) ?_ ?_
    · rintro j Dn acc H3 Nx hj hD ⟨Ts, rfl, eT, T3, f3⟩ hnx
      have hw3 := f3 _ _ (by simp) hw2
      obtain ⟨z, hz⟩ : ∃ z, d.ws[j]? = some z := ⟨_, List.getElem?_eq_getElem hj⟩
      have hv : atI (d.ws.map V.int) (0 + (j : Int)) = some (.int z) := by rw [Int.zero_add]; exact atI_map hz
      refine ⟨rfl, ?_⟩
      refine tYes_if ?_
      walk_at "kk"
      intro p1 hp1
      have ft : KW.Fr [] H3 (upd H3 p1 (.tup [.int j])) := Fr.new hp1
      have T4 := T3.fr0 ft
      have hw4 := ft _ _ (by simp) hw3
      have tp : upd H3 p1 (.tup [.int j]) p1 = some (.tup (([] ++ [(j : Int)]).map V.int)) := upd_same
      have F4 := f3.trans ft
      revert T4 hw4 tp F4
      generalize upd H3 p1 (.tup [.int j]) = H4
      intro T4 hw4 tp F4
      rw [Int.zero_add] at hv
      walk_at "kk"
      intro p2 hp2
      obtain ⟨q1, q2, q3⟩ := T4.pair (w := z) tp hp2
      have lT : Ts.length ≤ j := by
        have := congrArg List.length eT
        rw [List.length_map, List.length_take] at this
        omega
      refine ⟨_, q2, lt_line (by rw [List.length_map]; omega), hnx _ _ ⟨Ts ++ [⟨[] ++ [(j : Int)], z, p2, p1⟩], by rw [List.map_append]; first | rfl | skip, ?_, q3, Fr.atN (F4.trans (Fr.new hp2)) hD⟩⟩
      unfold wpT at eT ⊢
      rw [List.map_append, eT, ext_snoc [] d.ws hz]
      try rfl
    intro wl acc H3 hwl hp
    obtain ⟨Ts, rfl, eT, T3, f3⟩ := hp
    rw [List.take_of_length_le (by rw [ext_len]; exact Nat.le_refl _)] at eT
    have F3 := F2.trans f3
    have l3 := f3 _ _ (by simp) l2
    have N := gB_nums (B := d.B)
    rw [← hg] at N
    have ln : (nums d.B).length ≤ 33334 := by have := nums_len d.B; have := len_flat d.B; omega
    obtain ⟨Wv, hW⟩ : ∃ Wv : Nat → L2.St → Hp → Prop, Wv = fun m σ H' => ∃ (i : Nat) (D : List RW) (Ts : List PT) (wl : Addr) (v4 v5 v6 v7 v8 v9 : Option V), σ = [some (.ref d.sp), some (.ref l), some (.ref wo), some (.ref wl), v4, v5, v6, v7, v8, v9] ∧ KW.Fr [] H H' ∧ Fd H' l D ∧ Wt H' wl Ts ∧ nrR D = (run g d.ws i).1 ∧ wpT Ts = (run g d.ws i).2 ∧ m = 2 * ((nums d.B).length - D.length) + (if Ts = [] then 0 else 1) := ⟨_, rfl⟩
    refine ⟨Wv, ⟨_, by rw [hW]; exact ⟨0, [], Ts, wl, _, _, _, _, _, _, rfl, F3, Fd.nil l3, T3, rfl, eT, rfl⟩⟩, ?_⟩
    intro m σ H4 hw
    rw [hW] at hw
    obtain ⟨i, D, Ts, wl, v4, v5, v6, v7, v8, v9, rfl, F4, hD, hT, eD, eT, rfl⟩ := hw
    have wl4 := hT.li
    cases hTs : Ts with
    | nil =>
      subst hTs
      walk_at "kk"
      exact h l H4 D i hl F4 hD eT.symm eD
    | cons t0 Tr =>
      rw [← hTs]
      have nT : Ts ≠ [] := by rw [hTs]; simp
      walk_at "kk"
      rw [if_pos (by simpa using nT)]
      refine ⟨by decide, fun lt hlt => ?_⟩
      have f5 : KW.Fr [] H4 (upd H4 lt (.lst [])) := Fr.new hlt
      have lt5 : Wt (upd H4 lt (.lst [])) lt [] := ⟨upd_same, by simp⟩
      have hT5 := hT.fr0 f5
      have hD5 := hD.fr0 f5
      have F5 := F4.trans f5
      have nlt : wl ≠ lt := ne_of_none wl4 hlt
      have N_lt : H lt = none := F4.none (by simp) hlt
      revert f5 lt5 hT5 hD5 F5
      generalize upd H4 lt (.lst []) = H5
      intro f5 lt5 hT5 hD5 F5
      clear f5 hT hD F4 hlt wl4
      refine ⟨⟨_, .of hT5.li⟩, ?_⟩
      obtain ⟨Fq, hFq⟩ : ∃ Fq, Fq = (run g d.ws i).1 := ⟨_, rfl⟩
      obtain ⟨Wq, hWq⟩ : ∃ Wq, Wq = (run g d.ws i).2 := ⟨_, rfl⟩
      have RO := (run_ok g d.ws i).len
      have RC := run_cnt g d.ws i
      have RL := run_lenF (R := d.ws) N i
      have e1 : run g d.ws (i + 1) = (Fq ++ bnew g (keysF Fq) Wq, (bnew g (keysF Fq) Wq).flatMap (extg g)) := by
        rw [hFq, hWq]; rfl
      rw [← hFq] at eD RC RL
      rw [← hWq] at eT RO RC
      have nW : Wq ≠ [] := by rw [← eT]; simpa using nT
      have li : i ≤ 33334 := by
        rcases RC with q | q
        · exact absurd q nW
        · omega
      obtain ⟨QI, hQI⟩ : ∃ QI : Nat → L2.St → Hp → Prop, QI = fun j σ H' => ∃ (D' : List RW) (T2 : List PT) (v4 v6 v7 v8 v9 : Option V), σ = [some (.ref d.sp), some (.ref l), some (.ref wo), some (.ref wl), v4, some (.ref lt), v6, v7, v8, v9] ∧ KW.Fr [] H H' ∧ Fd H' l D' ∧ Wt H' wl Ts ∧ Wt H' lt T2 ∧ nrR D' = Fq ++ bnew g (keysF Fq) (Wq.take j) ∧ wpT T2 = (bnew g (keysF Fq) (Wq.take j)).flatMap (extg g) := ⟨_, rfl⟩
      refine for_lst (xs := Ts.map fun t => .ref t.q) QI (by rw [hQI]; exact ⟨D, [], _, _, _, _, _, rfl, F5, hD5, hT5, lt5, by simp [bnew, eD], by simp [bnew]⟩) ?_ ?_ ?_
      · rintro j σ H6 - hp
        rw [hQI] at hp
        obtain ⟨_, _, _, _, _, _, _, _, _, _, hT6, _⟩ := hp
        exact .of hT6.li
      · intro j x σ H6 hx hp
        rw [hQI] at hp
        obtain ⟨D', T2, v4, v6, v7, v8, v9, rfl, F6, hD6, hT6, lt6, eD6, eT6⟩ := hp
        rw [List.getElem?_map] at hx
        obtain ⟨t, ht, rfl⟩ := Option.map_eq_some_iff.mp hx
        have tat := hT6.tt t (List.mem_of_getElem? ht)
        have hWj : Wq[j]? = some (t.p, t.w) := by rw [← eT]; unfold wpT; rw [List.getElem?_map, ht]; rfl
        have tq := tat.1
        have Z6 := Z.fr0 F6
        refine tup_l tq rfl ?_
        walk_at "kk"
        refine objOf_s Z6 ?_
        have nx := bnew_next hWj eD6
        have lvg : lv d.B (t.w / 2) = (g (t.w / 2)).isSome := by rw [hg, gB_lv]
        have no : ∀ v8 : Option V, ¬ (t.w % 2 = 0 ∧ t.w / 2 ∉ nsR D' ∧ (g (t.w / 2)).isSome = true) → QI (j + 1) [some (.ref d.sp), some (.ref l), some (.ref wo), some (.ref wl), v4, some (.ref lt), some (.ref t.pa), some (.int t.w), v8, v9] H6 := fun v8 hc => by
          rw [if_neg hc, List.append_nil] at nx
          rw [hQI]
          exact ⟨D', T2, _, _, _, _, _, rfl, F6, hD6, hT6, lt6, by rw [nx]; exact eD6, by rw [nx]; exact eT6⟩
        by_cases c : t.w % 2 = 0 ∧ lv d.B (t.w / 2) = true
        · simp only [if_pos c]
          have dc6 := hD6.dc
          walk_at "kk"
          rw [val_is]
          by_cases c2 : t.w / 2 ∈ nsR D'
          · rw [if_neg (by simp [c2])]
            exact no _ fun z => z.2.1 c2
          · rw [if_pos (by simp [c2])]
            have cc : t.w % 2 = 0 ∧ t.w / 2 ∉ nsR D' ∧ (g (t.w / 2)).isSome = true := ⟨c.1, c2, by rw [← lvg]; exact c.2⟩
            rw [if_pos cc] at nx
            obtain ⟨r, hr⟩ := Option.isSome_iff_exists.mp cc.2.2
            have lD' : D'.length ≤ 33334 := by
              have := hD6.nd.length_le_of_subset (l₂ := nums d.B) fun n hn => by
                have h1 : n ∈ keysF (nrR D') := by rw [keysF_nr]; exact hn
                rw [eD6] at h1
                obtain ⟨y, hy, e⟩ := List.mem_map.mp h1
                rcases List.mem_append.mp hy with q | q
                · have h2 := (run_ok g d.ws i).dw.sF n (List.mem_map.mpr ⟨y, by rw [← hFq]; exact q, e⟩)
                  obtain ⟨r, hr⟩ := h2.some
                  exact N _ _ hr
                · obtain ⟨w, _, _, _, h3⟩ := bnew_mem q
                  obtain ⟨r, hr⟩ := Option.isSome_iff_exists.mp h3
                  rw [← e]; exact N _ _ hr
              rw [List.length_map] at this
              omega
            refine dput_i dc6 (lt_line (by rw [kvR_len]; omega)) ?_
            have wll : wl ≠ l := fun z => by have := hT6.li; rw [z, dc6] at this; cases this
            have ltl : lt ≠ l := fun z => by have := lt6.li; rw [z, dc6] at this; cases this
            have hD7 := hD6.put tat c2
            have hT7 := hT6.upd (o' := .dK (putK (kvR D') (.inl (t.w / 2)) (.ref t.pa))) dc6 (by simp) wll
            have lt7 := lt6.upd (o' := .dK (putK (kvR D') (.inl (t.w / 2)) (.ref t.pa))) dc6 (by simp) ltl
            have tat7 := tat.upd (o' := .dK (putK (kvR D') (.inl (t.w / 2)) (.ref t.pa))) dc6 (by simp)
            have F7 : KW.Fr [] H (upd H6 l (.dK (putK (kvR D') (.inl (t.w / 2)) (.ref t.pa)))) := Fr.atN F6 hl
            revert hD7 hT7 lt7 tat7 F7
            generalize upd H6 l (.dK (putK (kvR D') (.inl (t.w / 2)) (.ref t.pa))) = H7
            intro hD7 hT7 lt7 tat7 F7
            have Z7 := Z.fr0 F7
            refine rowOf_s Z7 (by rw [← hg]; exact hr) fun rl H8 n8 f8 i8 => ?_
            have hD8 := hD7.fr0 f8
            have hT8 := hT7.fr0 f8
            have lt8 := lt7.fr0 f8
            have tat8 := tat7.fr0 f8
            have F8 := F7.trans f8
            clear hD7 hT7 lt7 tat7 F7 f8 hD6 hT6 lt6 tat F6 dc6 Z6 Z7 tq
            refine ⟨.inl ⟨_, .of lt8.li⟩, ?_⟩
            have hw8 : H8 rl = some (.lst (r.map V.int)) := i8
            have LB := lenB Z.S.nd (Wq.take (j + 1)) (keysF Fq)
            rw [← hg, nx, List.flatMap_append, List.length_append, ← eT6] at LB
            have ex : [(t.w / 2, t.p)].flatMap (extg g) = ext t.p r := by
              show extg g (t.w / 2, t.p) ++ [] = _
              rw [List.append_nil]; unfold extg; rw [hr]; rfl
            rw [ex, ext_len, List.length_map] at LB
            walk_at "kk"
            rw [Int.toNat_natCast]
            have tl : t.p.length = i + 1 := RO _ (List.mem_of_getElem? hWj)
            refine lc_rG (fun k Dn acc H' => ∃ T3 : List PT, acc = T3.map (fun t => .ref t.q) ∧ wpT T3 = (ext t.p r).take k ∧ Wt H' Dn T3 ∧ KW.Fr [] H8 H') (fun Dn hD => ⟨[], rfl, rfl, ⟨upd_same, by simp⟩, Fr.new hD⟩) ?_ ?_
            · rintro k Dn acc H9 Nx hk hDn ⟨T3, rfl, eT3, W9, f9⟩ hnx
              have hw9 := f9 _ _ (by simp) hw8
              have tp9 := (tat8.fr0 f9).2
              obtain ⟨z, hz⟩ : ∃ z, r[k]? = some z := ⟨_, List.getElem?_eq_getElem hk⟩
              have hv : atI (r.map V.int) (k : Int) = some (.int z) := atI_map hz
              refine ⟨rfl, ?_⟩
              refine tYes_if ?_
              walk_at "kk"
              intro p1 hp1
              try rw [Int.zero_add]
              have ft : KW.Fr [] H9 (upd H9 p1 (.tup [.int (k : Int)])) := Fr.new hp1
              have W10 := W9.fr0 ft
              have hw10 := ft _ _ (by simp) hw9
              have tp10 := ft _ _ (by simp) tp9
              have k10 : upd H9 p1 (.tup [.int (k : Int)]) p1 = some (.tup [.int (k : Int)]) := upd_same
              have F10 := f9.trans ft
              revert W10 hw10 tp10 k10 F10
              generalize upd H9 p1 (.tup [.int (k : Int)]) = H10
              intro W10 hw10 tp10 k10 F10
              refine ucat_t tp10 k10 (by intro z; have h0 := congrArg List.length z; rw [List.length_map, tl] at h0; exact absurd h0 (by simp)) (by simp) (le_line (by simp only [List.length_map, List.length_cons, List.length_nil]; omega)) fun p2 hp2 => ?_
              have f11 : KW.Fr [] H10 (upd H10 p2 (.tup (t.p.map V.int ++ [.int (k : Int)]))) := Fr.new hp2
              have W11 := W10.fr0 f11
              have hw11 := f11 _ _ (by simp) hw10
              have p11 : upd H10 p2 (.tup (t.p.map V.int ++ [.int (k : Int)])) p2 = some (.tup ((t.p ++ [(k : Int)]).map V.int)) := by rw [upd_same, List.map_append]; rfl
              have F11 := F10.trans f11
              revert W11 hw11 p11 F11
              generalize upd H10 p2 (.tup (t.p.map V.int ++ [.int (k : Int)])) = H11
              intro W11 hw11 p11 F11
              walk_at "kk"
              intro p3 hp3
              obtain ⟨q1, q2, q3⟩ := W11.pair (w := z) p11 hp3
              have lT : T3.length ≤ k := by
                have := congrArg List.length eT3
                rw [List.length_map, List.length_take] at this
                omega
              refine ⟨_, q2, lt_line (by rw [List.length_map]; omega), hnx _ _ ⟨T3 ++ [⟨t.p ++ [(k : Int)], z, p3, p2⟩], by rw [List.map_append]; first | rfl | skip, ?_, q3, Fr.atN (F11.trans (Fr.new hp3)) hDn⟩⟩
              unfold wpT at eT3 ⊢
              rw [List.map_append, eT3, ext_snoc t.p r hz]
              try rfl
            intro el acc H9 hel hp9
            obtain ⟨T3, rfl, eT3, W9, f9⟩ := hp9
            rw [List.take_of_length_le (by rw [ext_len]; exact Nat.le_refl _)] at eT3
            have hD9 := hD8.fr0 f9
            have hT9 := hT8.fr0 f9
            have lt9 := lt8.fr0 f9
            have F9 := F8.trans f9
            have l3 : T3.length = r.length := by
              have := congrArg List.length eT3
              rwa [List.length_map, ext_len] at this
            have lli := lt9.li
            have eli := W9.li
            walk_at "kk"
            rw [hQI]
            have ldl : lt ≠ l := fun z => by have := hD9.dc; rw [← z, lli] at this; cases this
            refine ⟨D' ++ [⟨t.w / 2, t.p, t.pa⟩], T2 ++ T3, _, _, _, _, _, rfl, Fr.atN F9 N_lt, hD9.upd lli (by simp) (Ne.symm ldl), hT9.upd lli (by simp) nlt, lt9.ext W9, ?_, ?_⟩
            · rw [nx]
              unfold nrR at eD6 ⊢
              rw [List.map_append, eD6, List.append_assoc]; rfl
            · rw [nx, List.flatMap_append, ex]
              unfold wpT at eT6 eT3 ⊢
              rw [List.map_append, eT6, eT3]
        · simp only [if_neg c]
          walk_at "kk"
          exact no _ fun z => c ⟨z.1, by rw [lvg]; exact z.2.2⟩
      · intro σ H6 hp
        rw [hQI] at hp
        obtain ⟨D', T2, v4, v6, v7, v8, v9, rfl, F6, hD6, hT6, lt6, eD6, eT6⟩ := hp
        rw [List.length_map, show Ts.length = Wq.length from by rw [← eT]; simp, List.take_length] at eD6 eT6
        walk_at "kk"
        rw [hW, if_neg nT]
        have RL2 := run_lenF (R := d.ws) N (i + 1)
        rw [e1] at RL2
        dsimp only at RL2
        rw [← eD6, List.length_map] at RL2
        have q1 := congrArg List.length eD6
        have q2 := congrArg List.length eD
        rw [List.length_map, List.length_append] at q1
        rw [List.length_map] at q2
        refine ⟨_, ?_, i + 1, D', T2, lt, _, _, _, _, _, _, rfl, F6, hD6, lt6, by rw [e1]; exact eD6, by rw [e1]; exact eT6, rfl⟩
        by_cases c : bnew g (keysF Fq) Wq = []
        · have : T2 = [] := by
            rw [c] at eT6
            exact List.map_eq_nil_iff.mp eT6
          rw [if_pos this]; omega
        · have : 0 < (bnew g (keysF Fq) Wq).length := List.length_pos_iff.mpr c
          split <;> omega
end
end K64

set_option Elab.async false
set_option linter.all false
set_option maxRecDepth 100000
set_option maxHeartbeats 4000000
namespace K64
open PySem PySem.Spec PyProof.Rows L2 KW ST LamX
local macro_rules | `(tactic| walk_at "kw") => `(tactic| simp only [tSeq, tNext, tIfS, tTest, tAnd, tOr, tNot, tAndV, tOrV, tNotV, tIf, tChain, tOp, tUn, tC, tAsg, gName, gSub, gCons, gNil, tRet, tRetN, tDrop, tCons, tNil, tCB, tAug, tSl, tPart, tNoPart, tLst, tTup, tBM, tBM0, uTest, uFor, iRng1, iRng2, iList, uCall, List.map_cons, List.map_nil, List.length_cons, List.length_nil, List.cons_append, List.nil_append, List.replicate, Nat.zero_add, Nat.reduceAdd, Nat.reduceSub, List.getElem?_cons_zero, List.getElem?_cons_succ, List.set_cons_zero, List.set_cons_succ, V.bl.injEq, V.int.injEq, V.str.injEq, V.ref.injEq, V.ty.injEq, List.cons.injEq, and_true, true_and, exists_eq_left', exists_eq_right, exists_eq_left, exists_and_left, exists_and_right, decide_eq_true_eq, Bool.not_eq_true', decide_eq_false_iff_not, Bool.false_eq_true, if_true, if_false, ite_true, ite_false, Bool.not_true, Bool.not_false, reduceCtorEq, decide_true, decide_false, Bool.not_not, isK_int_int, isK_int_bool, isK_int_str, isK_int_list, isK_int_tuple, isK_bool_int, isK_bool_bool, isK_bool_str, isK_str_str, isK_str_int, isK_str_bool, isK_str_tuple, isK_str_list, isK_list_list, isK_list_tuple, isK_tuple_tuple, isK_tuple_list, isOk_int_int, isOk_int_bool, isOk_int_str, isOk_int_list, isOk_int_tuple, isOk_bool_int, isOk_bool_bool, isOk_bool_str, isOk_str_str, isOk_str_int, isOk_str_bool, isOk_str_tuple, isOk_str_list, isOk_list_list, isOk_list_tuple, isOk_tuple_tuple, isOk_tuple_list, isK_dict_dict, isOk_dict_dict, isK_none_int, isK_none_bool, isOk_none_int, isOk_none_bool, tyV, S_inj, S_cat, L2.start, Nat.reduceSub, List.replicate_succ, List.replicate_zero, and_assoc, List.append_nil, Nat.reduceEqDiff, Option.some.injEq, Int.natCast_inj, upd_upd, Int.reducePow, Int.reduceToNat, Int.reduceMul, Int.reduceAdd, Int.reduceSub, Int.reduceLT, Int.reduceLE, Int.reduceNeg, Int.reduceDiv, Int.reduceMod, Nat.reducePow, Nat.reduceMul, S_len, List.length_append, List.length_map, List.length_range, not_true_eq_false, not_false_eq_true, ne_eq, uAdd_e1, uAdd_e2, uSub_e1, uMod_e1, uDiv_e1, uPow_e1, uShl_e1, uNeg_e1, uIAdd_e1, uIAdd_e2, uIAdd_e3, uISub_e1, uLt_e1, uLt_e2, uLe_e1, uGt_e1, uGe_e1, uEq_e1, uEq_e2, uEq_e3, uEq_e4, uEq_e5, uEq_e6, uEq_e7, uEq_e8, uEq_e9, uEq_e10, uEq_e11, uNe_e1, uNe_e2, uNe_e3, uNe_e4, uNe_e5, uNe_e6, uNe_e7, uNe_e8, uNe_e9, uNe_e10, uNe_e11, uIs_e1, uIs_e2, uIs_e3, uIs_e4, uIs_e5, uIs_e6, uIs_e7, uNotIs_e1, uNotIs_e2, uNotIs_e3, uNotIs_e4, uNotIs_e5, uNotIs_e6, uIn_e1, uIn_e2, uIn_e3, uIn_e4, uNotIn_e1, uNotIn_e2, uNotIn_e3, uNotIn_e4, uTru_e1, uTru_e2, uTru_e3, uTru_e4, uIx_e2, uSl_e2, uLen_e1, uAbs_e1, uInt_e1, uInt_e2, uMin2_e1, uIsi_e1, uIsi_e2, uIsi_e3, uIsi_e4, cx_K, uVar_0, uVar_n, uFld, uSFld, uMet, uMake, tDG, tDI, tDNI, tDP, tDD, uMk, uRaise, uDelSl, tCallS, L2.WE, uStr_e1, uStr_e2, uMul2_e1, uMul2_e2, okS_i, okS_s, List.zip_cons_cons, List.zip_nil_left, List.drop_zero, List.drop_succ_cons, List.drop_nil, putF_nil, putF_cons, eq_self, tDNewK, tB, Option.isSome_some, Option.isSome_none, false_and, false_or, or_false, exists_false, Int.zero_add, uLc, wipe, tYes, isEmpty_app, List.isEmpty_cons, List.isEmpty_nil, List.isEmpty_map, Bool.and_false, Bool.and_true, iRev, K64.lit_0, K64.fe_room_entries, K64.fe_room_words, K64.fe_room__places, K64.fe_room__least, K64.fe_entries_room, K64.fe_entries_words, K64.fe_entries__places, K64.fe_entries__least, K64.fe_words_room, K64.fe_words_entries, K64.fe_words__places, K64.fe_words__least, K64.fe__places_room, K64.fe__places_entries, K64.fe__places_words, K64.fe__places__least, K64.fe__least_room, K64.fe__least_entries, K64.fe__least_words, K64.fe__least__places, K64.fe_store_pressure, K64.fe_store_always, K64.fe_store_allocations, K64.fe_store_collections, K64.fe_store__roots, K64.fe_store__held, K64.fe_store__saved, K64.fe_pressure_store, K64.fe_pressure_always, K64.fe_pressure_allocations, K64.fe_pressure_collections, K64.fe_pressure__roots, K64.fe_pressure__held, K64.fe_pressure__saved, K64.fe_always_store, K64.fe_always_pressure, K64.fe_always_allocations, K64.fe_always_collections, K64.fe_always__roots, K64.fe_always__held, K64.fe_always__saved, K64.fe_allocations_store, K64.fe_allocations_pressure, K64.fe_allocations_always, K64.fe_allocations_collections, K64.fe_allocations__roots, K64.fe_allocations__held, K64.fe_allocations__saved, K64.fe_collections_store, K64.fe_collections_pressure, K64.fe_collections_always, K64.fe_collections_allocations, K64.fe_collections__roots, K64.fe_collections__held, K64.fe_collections__saved, K64.fe__roots_store, K64.fe__roots_pressure, K64.fe__roots_always, K64.fe__roots_allocations, K64.fe__roots_collections, K64.fe__roots__held, K64.fe__roots__saved, K64.fe__held_store, K64.fe__held_pressure, K64.fe__held_always, K64.fe__held_allocations, K64.fe__held_collections, K64.fe__held__roots, K64.fe__held__saved, K64.fe__saved_store, K64.fe__saved_pressure, K64.fe__saved_always, K64.fe__saved_allocations, K64.fe__saved_collections, K64.fe__saved__roots, K64.fe__saved__held, tDGF_eq, uDGetF_e1, tLstRg, tRg1, K64.N_is_ref, K64.N_ref_of, K64.N_reached, K64.N_collect, K64.N_object_of, K64.N_row_of, K64.N_word_at, K64.N_paths, K64.N_garbage, K64.N_Store_init, K64.N_Store_exists, K64.N_Store_numbers, K64.N_Store_free_number, K64.N_Store_allocate, K64.N_Store_size, K64.N_Store_kind, K64.N_Store_get, K64.N_Store_put, K64.N_Store_slots, K64.N_Store_drop, K64.N_Store_close_up, K64.N_Space_init, K64.N_Space_root, K64.N_Space_set_root, K64.N_Space_hold, K64.N_Space_drop, K64.N_Space_held, K64.N_Space_all_roots, K64.N_Space_collect, K64.N_Space_collect_with, K64.N_Space_new, K64.N_Space_fitted, K64.N__law_number, K64.N__law_word, K64.N__law_is, K64.N__law_same, K64.N__law_sizes, K64.N__law_rows, K64.N__law_roots, K64.N__law_space, K64.N__law_walk, K64.N__law_extended, K64.N__law_best, K64.N__law_path_is, K64.N__law_told, K64.N__law_drawn, K64.N__law_kept, K64.N__law_long, K64.N_law, sp_is_ref, sp_ref_of])
local macro_rules | `(tactic| walk_at "nn") => `(tactic| first | assumption | exact ne_un (by assumption) | exact ne_un (ne_un (by assumption)) | exact ne_un (ne_un (ne_un (by assumption))) | exact ne_un (ne_un (ne_un (ne_un (by assumption)))))
local macro_rules | `(tactic| walk_at "ne") => `(tactic| first | assumption | (apply Ne.symm; assumption) | exact ne_ud (by assumption) | exact Ne.symm (ne_ud (by assumption)) | exact ne_ud (ne_un (by assumption)) | exact Ne.symm (ne_ud (ne_un (by assumption))) | exact ne_ud (ne_un (ne_un (by assumption))) | exact Ne.symm (ne_ud (ne_un (ne_un (by assumption)))) | exact ne_m (by assumption) (by assumption) | exact Ne.symm (ne_m (by assumption) (by assumption)) | exact ne_n (by assumption) (by walk_at "nn") | exact Ne.symm (ne_n (by assumption) (by walk_at "nn")))
local macro_rules | `(tactic| walk_at "hp") => `(tactic| first | assumption | exact upd_same | (refine Eq.trans (upd_ne ?_) ?_; (focus walk_at "ne"); walk_at "hp"))
local macro_rules | `(tactic| walk_at "sc") => `(tactic| first | (with_reducible assumption) | omega | exact le_line (by (try simp only [List.length_map, List.length_append, List.length_cons, List.length_nil, S_len]); omega) | exact div_s (by omega) | exact mul_r (by omega) | exact mul_l (by omega) | exact pow_s (by omega) | exact mul2_r (by omega) | exact mul2_l (by omega) | exact small4300 (by omega) | exact lt_line (by (try simp only [List.length_map, List.length_append, List.length_cons, List.length_nil, S_len]); omega) | exact ⟨_, by assumption⟩ | (guard_target =~ Exists _; exact ⟨_, .of (by walk_at "hp")⟩) | (guard_target =~ _ ∨ _; exact .inl ⟨_, by assumption⟩) | (guard_target =~ _ ∨ _; exact .inl ⟨_, .of (by walk_at "hp")⟩) | (guard_target =~ _ ∨ _; exact .inr (.inr (.inl ⟨rfl, .inl ⟨_, by walk_at "hp"⟩⟩))) | decide)
local macro_rules | `(tactic| walk_at "kr") => `(tactic| first | (guard_target =~ _ ∧ _; first | refine And.intro (by walk_at "sc") ?_) | (guard_target =~ KW.uIx _ _ _ _ _; first | refine ix_l (by walk_at "hp") (by first | walk_at "hv" | rfl) ?_ | refine ix_t (by walk_at "hp") (by first | walk_at "hv" | rfl) ?_ | refine ix_sl (by assumption) (by walk_at "hv") ?_) | (guard_target =~ KW.uLen _ _ _ _; first | refine len_l (by walk_at "hp") ?_ | refine len_t (by walk_at "hp") ?_ | refine len_sl (by assumption) ?_) | (guard_target =~ KW.uSet _ _ _ _ _; first | refine set_l (by walk_at "hp") (by first | walk_at "hv" | rfl) ?_) | (guard_target =~ L2.gTup _ _ _ _ _ _ _; first | refine tup_l (by walk_at "hp") (by rfl) ?_) | (guard_target =~ KW.uGet _ _ _ _ _; first | refine get_l (by walk_at "hp") (by walk_at "hc") (by decide) (by rfl) ?_) | (guard_target =~ KW.uPut _ _ _ _ _ _; first | refine put_l (by walk_at "hp") (by walk_at "hc") (by decide) (by simp) ?_) | (guard_target =~ KW.uMet.uMt _ _ _ _ _ _ _ _ _; first | refine met_l (by walk_at "hp") (by rfl) ?_) | (guard_target =~ KW.uMet.uMt _ _ _ _ _ _ _ _ _; first | refine ST.met_s (by assumption) (by decide) ?_) | (guard_target =~ ST.spExists _ _ _ _ _; first | refine ST.exists_s (by assumption) ?_) | (guard_target =~ ST.spUsed _ _ _ _ _; first | refine ST.used_s (by assumption) ?_) | (guard_target =~ KW.uGet _ _ _ _ _; first | refine ST.words_s (by assumption) (by walk_at "hc") (by decide) ?_) | (guard_target =~ KW.uDIn _ _ _ _; first | refine din_i (by walk_at "hp") ?_ | refine din_s (by walk_at "hp") ?_) | (guard_target =~ KW.uDGet _ _ _ _; first | refine dget_i (by walk_at "hp") (by walk_at "hv") ?_ | refine dget_s (by walk_at "hp") (by walk_at "hv") ?_) | (guard_target =~ KW.uDPut _ _ _ _ _; first | refine dput_i (by walk_at "hp") (by walk_at "sc") ?_ | refine dput_s (by walk_at "hp") (by walk_at "sc") ?_) | (guard_target =~ KW.uDDel _ _ _ _; first | refine ddel_i (by walk_at "hp") (by walk_at "hv") ?_ | refine ddel_s (by walk_at "hp") (by walk_at "hv") ?_) | (guard_target =~ KW.uMul2 _ _ _ _; first | refine rep_l (by walk_at "hp") (by walk_at "sc") (by walk_at "sc") (by walk_at "sc") ?_) | (guard_target =~ L2.rAppend _ _ _ _; first | refine app_l (by walk_at "hp") (by walk_at "sc") ?_) | (guard_target =~ L2.rPop _ _ _ _; first | refine pop_l (by walk_at "hp") (by walk_at "hv") ?_ | refine pops_l (by walk_at "hp") ?_) | (guard_target =~ L2.rClear _ _ _ _; first | refine clr_l (by walk_at "hp") ?_) | (guard_target =~ L2.rReverse _ _ _ _; first | refine rev_l (by walk_at "hp") ?_) | (guard_target =~ L2.rExtend _ _ _ _; first | refine ext_l (by walk_at "hp") (by walk_at "hp") (by walk_at "sc") ?_) | (guard_target =~ KW.uAdd _ _ _ _ _; first | refine ucat_l (by walk_at "hp") (by walk_at "hp") (by walk_at "sc") ?_) | (guard_target =~ KW.uSl _ _ _ _ _ _; first | refine usl_l (by walk_at "hp") ?_) | (guard_target =~ KW.uTru _ _ _ _; first | refine tru_l (by walk_at "hp") ?_ | refine tru_t (by walk_at "hp") ?_ | refine tru_d (by walk_at "hp") ?_ | refine tru_sl (by assumption) ?_) | (guard_target =~ L2.rIndex _ _ _ _ _; first | refine idx_s (by walk_at "hp") (by assumption) ?_ | refine idx_i (by walk_at "hp") (by assumption) ?_) | (guard_target =~ L2.rIn _ _ _ _ _ _; first | refine in_s (by walk_at "hp") ?_ | refine nin_s (by walk_at "hp") ?_ | refine in_i (by walk_at "hp") ?_ | refine nin_i (by walk_at "hp") ?_) | (guard_target =~ KW.uIsi _ _ _ _; first | refine isi_l (by walk_at "hp") (by decide +kernel) ?_ | refine isi_t (by walk_at "hp") (by decide +kernel) ?_ | refine isi_d (by walk_at "hp") (by decide +kernel) ?_) | (guard_target =~ KW.uList _ _ _ _; first | refine list_l (by walk_at "hp") ?_ | refine list_t (by walk_at "hp") ?_ | refine list_sl (by assumption) ?_) | (guard_target =~ KW.uDict _ _ _; first | refine dict_d (by walk_at "hp") ?_) | (guard_target =~ KW.uSorted _ _ _ _; first | refine srt_l (by walk_at "hp") ?_) | (guard_target =~ KW.uSum _ _ _ _; first | refine sum_l (by walk_at "hp") ?_) | (guard_target =~ KW.uDelC _ _ _ _; first | refine dels_l (by walk_at "hp") (by walk_at "sc") ?_) | (guard_target =~ L2.wAs _ _ _ _ _ _ _ _ _ _; first | refine as_yes (by walk_at "hx") ?_ | refine as_no (by walk_at "hx") ?_) | (guard_target =~ KW.uEf _ _ _ _ _ _ _ _ _; first | refine ef_l (by walk_at "he") (by decide) (by rfl) (by walk_at "hp") (by rfl) ?_) | (guard_target =~ KW.uIsE _ _ _ _ _ _ _; first | refine isE_r (by walk_at "he") (by walk_at "hp") (by walk_at "hk") ?_ | refine isE_t (by walk_at "he") (by walk_at "hp") (by walk_at "hk") ?_))
local macro_rules | `(tactic| walk_at "hv") => `(tactic| first | assumption)
local macro_rules | `(tactic| walk_at "kk") => `(tactic| repeat (first | walk_at "kw" | walk_at "kr"))
local macro_rules | `(tactic| walk_at "hc") => `(tactic| first | exact K64.Txt.c_Store (by assumption) | exact K64.Txt.c_Space (by assumption))
local macro_rules | `(tactic| walk_at "he") => `(tactic| first | exact K64.Txt.e_BadWord (by assumption) | exact K64.Txt.e_NoRoom (by assumption) | exact K64.Txt.e_NoNumber (by assumption) | exact K64.Txt.e_Wrong (by assumption))
local macro_rules | `(tactic| walk_at "hx") => `(tactic| first | exact K64.Txt.x_BadWord_NoNumber (by assumption) | exact K64.Txt.x_BadWord_NoRoom (by assumption) | exact K64.Txt.x_NoRoom_NoNumber (by assumption) | exact K64.Txt.x_NoRoom_NoRoom (by assumption) | exact K64.Txt.x_NoNumber_NoNumber (by assumption) | exact K64.Txt.x_NoNumber_NoRoom (by assumption) | exact K64.Txt.x_Wrong_NoNumber (by assumption) | exact K64.Txt.x_Wrong_NoRoom (by assumption))
local macro_rules | `(tactic| walk_at "hk") => `(tactic| first | fail)

local macro_rules | `(tactic| walk_at "kr") => `(tactic| first | (guard_target =~ KW.uGet _ _ _ _ _; refine ST.get_p (by assumption) (by rfl) (by walk_at "hc") (by decide) (by rfl) ?_) | (guard_target =~ KW.uMet.uMt _ _ _ _ _ _ _ _ _; refine ST.met_p (by assumption) (by rfl) (by decide) ?_))
section
variable {P : Program} {w : World} {K : Frag} {mg : Str → Option Value} {base : Heap} {a : Ads}
theorem ok__law_path_is (T : Txt P w K mg a) : Cal P w K mg base 2 "_law_path_is" spPathIs := by
  have C__law_is := ok__law_is (P := P) (w := w) (base := base) T
  refine T.d__law_path_is.ok sc__law_path_is (fun vs H Q E h => ?_) (fun f cdv A outer s H vs Q E hr h => ⟨_, (pss_cons (ps_if (PW.pt (pw_or (pt_not (kt (pe_callB c_isi (by rfl) T.n_isinstance (by decide +kernel) (pa_cons (kv 0) (pa_cons (pe_bltn (v := .ty "tuple") (by rfl) T.n_tuple (by decide +kernel) rfl) pa_nil))))) (pw_or1 (pt_cmpR (o_ne hr.units) (pe_callB c_len (by rfl) T.n_len (by decide +kernel) (pa_cons (kv 0) pa_nil)) (pe_callB c_len (by rfl) T.n_len (by decide +kernel) (pa_cons (kv 1) pa_nil)) (nomark _)))))
      (pss_one (ps_ret pe_bl))
      pss_nil)
      (pss_cons (k_for (passes_of rfl) rfl (pi_range1 (by rfl) T.n_range (pa_cons (pe_callB c_len (by rfl) T.n_len (by decide +kernel) (pa_cons (kv 1) pa_nil)) pa_nil)) (pg_name (i := 2) sc__law_path_is.nd rfl (Or.inl rfl))
      (pss_one (ps_if (pt_not (kt (kc C__law_is (hr.mono (by decide)) (pa_cons (pe_ix o_ix (kv 0) (kv 2) (fun _ _ => rfl)) (pa_cons (pe_ix o_ix (kv 1) (kv 2) (fun _ _ => rfl)) pa_nil)))))
      (pss_one (ps_ret pe_bl))
      pss_nil)))
      (pss_one (ps_ret pe_bl)))), ?_⟩)
  · obtain ⟨_, _, _, rfl, _⟩ := h; rfl
  · obtain ⟨p, q, xs, rfl, hp, hq, lx, h⟩ := h
    walk_at "kk"
    rw [Int.toNat_natCast]
    refine for_rng (fun i σ H' => ∃ v, σ = [some (.ref p), some (.ref q), v] ∧ H' = H) ⟨_, rfl, rfl⟩ ?_ ?_
    · rintro i σ H' hi ⟨v, rfl, rfl⟩
      obtain ⟨z, hz⟩ : ∃ z, xs[i]? = some z := ⟨_, List.getElem?_eq_getElem hi⟩
      have hv : atI (xs.map V.int) (i : Int) = some (.int z) := atI_map hz
      walk_at "kk"
      refine is_s ?_
      rw [decide_eq_true rfl]
      walk_at "kk"
    · rintro σ H' ⟨v, rfl, rfl⟩
      walk_at "kk"
      exact h
theorem ok__law_kept (T : Txt P w K mg a) : Cal P w K mg base 3 "_law_kept" (spKept a.Space a.Store) := by
  have C__law_same := ok__law_same (P := P) (w := w) (base := base) T
  have M_Store_numbers := ok_Store_numbers (P := P) (w := w) (base := base) T
  have M_Store_kind := ok_Store_kind (P := P) (w := w) (base := base) T
  have M_Store_slots := ok_Store_slots (P := P) (w := w) (base := base) T
  have M_Space_all_roots := ok_Space_all_roots (P := P) (w := w) (base := base) T
  refine T.d__law_kept.ok sc__law_kept (fun vs H Q E h => ?_) (fun f cdv A outer s H vs Q E hr h => ⟨_, (pss_cons (k_for (passes_of rfl) rfl (pi_range1 (by rfl) T.n_range (pa_cons (pe_callB c_len (by rfl) T.n_len (by decide +kernel) (pa_cons (kv 1) pa_nil)) pa_nil)) (pg_name (i := 3) sc__law_kept.nd rfl (Or.inl rfl))
      (pss_one (ps_if (PW.pt (pw_or (pt_cmpR (o_ne hr.units) (km M_Store_kind (hr.mono (by decide)) (k_fld (kv 0) rfl) (pa_cons (kv 3) pa_nil)) (pe_ix o_ix (pe_ix o_ix (kv 1) (kv 3) (fun _ _ => rfl)) pe_int (fun _ _ => rfl)) (nomark _)) (pw_or1 (pt_not (kt (kc C__law_same (hr.mono (by decide)) (pa_cons (km M_Store_slots (hr.mono (by decide)) (k_fld (kv 0) rfl) (pa_cons (kv 3) pa_nil)) (pa_cons (pe_slice o_sl (pe_ix o_ix (kv 1) (kv 3) (fun _ _ => rfl)) (po_some pe_int) po_none) pa_nil))))))))
      (pss_one (ps_ret pe_bl))
      pss_nil)))
      (pss_cons (k_setLc (i := 4) (own := [("k", 3)]) (g := gName 3) (by rfl) sc__law_kept.nd rfl rfl (sw_true rfl rfl rfl (by decide +kernel)) (pi_range1 (by rfl) T.n_range (pa_cons (pe_callB c_len (by rfl) T.n_len (by decide +kernel) (pa_cons (kv 1) pa_nil)) pa_nil)) (blkOk_by (own := [("k", 3)]) (N := ["space", "rows", "words", "k", "numbers"]) (sc := defScope s__law_kept) (by decide +kernel)) (fun _ _ _ _ _ => pg_name (i := 3) sc__law_kept.nd rfl (Or.inl rfl)) (fun _ _ _ _ _ => pts_nil) (fun _ _ _ _ _ => by exact (kv 3)))
      (pss_one (ps_ret (pe_and (kc C__law_same (hr.mono (by decide)) (pa_cons (km0 M_Store_numbers (hr.mono (by decide)) (k_fld (kv 0) rfl)) (pa_cons (kv 4) pa_nil))) (pe_one (kc C__law_same (hr.mono (by decide)) (pa_cons (km0 M_Space_all_roots (hr.mono (by decide)) (kv 0)) (pa_cons (pe_op o_add (pe_lst (pa_cons pe_int pa_nil)) (kv 2)) pa_nil))))))))), ?_⟩)
  · obtain ⟨_, _, _, _, _, rfl, _⟩ := h; rfl
  · obtain ⟨d, rl, wo, Ls, ws, rfl, Z, Y, e1, e2, bd, h⟩ := h
    have li := Y.R.li
    have l1 := Y.l1
    have lm : (Ls.map fun x => V.ref x.1).length = Ls.length := List.length_map ..
    walk_at "kk"
    rw [Int.toNat_natCast]
    obtain ⟨Pv, hPv⟩ : ∃ Pv : Nat → L2.St → Hp → Prop, Pv = fun _ σ H' => ∃ v3, σ = [some (.ref d.sp), some (.ref rl), some (.ref wo), v3, none] ∧ KW.Fr [] H H' := ⟨_, rfl⟩
    refine for_rng Pv (by rw [hPv]; exact ⟨_, rfl, Fr.refl _⟩) ?_ ?_
    · intro i σ H2 hi hp
      rw [hPv] at hp
      obtain ⟨v3, rfl, f2⟩ := hp
      have Z2 := Z.fr0 f2
      have Y2 := Y.fr0 f2
      have li2 := Y2.R.li
      obtain ⟨⟨pa, r⟩, hx⟩ : ∃ x, Ls[i]? = some x := ⟨_, List.getElem?_eq_getElem hi⟩
      have hv : atI (Ls.map fun x => V.ref x.1) (i : Int) = some (.ref pa) := atI_map (f := fun x : Addr × List Int => V.ref x.1) hx
      have bx := Y.l2 _ (List.mem_of_getElem? hx)
      have r2 : H2 pa = some (.lst (r.map V.int)) := Y2.R.rs _ (List.mem_of_getElem? hx)
      have hg : gB d.B (i : Int) = some r := by rw [e1]; unfold gL; rw [if_pos (by omega), Int.toNat_natCast, hx]; rfl
      obtain ⟨j, e, he, ha, hn, hs⟩ := (gB_some Z.S.nd).mp hg
      have hv0 : atI (r.map V.int) 0 = some (.int e.k) := atI_map (f := V.int) (i := 0) (by rw [← hs]; rfl)
      obtain ⟨⟨dx2, lo2, ob2, _⟩, _⟩ := Z2.S
      walk_at "kk"
      refine kind_s Z2.S he ha hn ?_
      walk_at "kk"
      refine slots_s Z2.S he ha hn fun l4 hl4 => ?_
      have i4 : IL (upd H2 l4 (.lst (e.s.map V.int))) l4 e.s := upd_same
      have f4 : KW.Fr [] H2 (upd H2 l4 (.lst (e.s.map V.int))) := Fr.new hl4
      have j4 := f4 _ _ (by simp) r2
      have li4 := f4 _ _ (by simp) li2
      revert i4 f4 j4 li4
      generalize upd H2 l4 (.lst (e.s.map V.int)) = H4
      intro i4 f4 j4 li4
      walk_at "kk"
      intro l5 hl5
      have i5 : IL (upd H4 l5 (.lst (cutV (r.map V.int) (some 1) none))) l5 e.s := by
        show upd _ _ _ _ = _
        rw [upd_same]
        have := cutV_from (r.map V.int) 1
        rw [show ((1 : Nat) : Int) = 1 from rfl] at this
        rw [this, ← hs]; rfl
      have f5 := f4.trans (Fr.new (o := .lst (cutV (r.map V.int) (some 1) none)) hl5)
      have i4' := (Fr.new (l := []) (o := .lst (cutV (r.map V.int) (some 1) none)) hl5) _ _ (by simp) i4
      revert i5 f5 i4'
      generalize upd H4 l5 (.lst (cutV (r.map V.int) (some 1) none)) = H5
      intro i5 f5 i4'
      have bl := bx.2.1
      dsimp only at bl
      rw [← hs, List.length_cons] at bl
      refine same_s (xs := e.s) i4' i5 (by omega) ?_
      walk_at "kk"
      rw [hPv]
      exact ⟨_, rfl, f2.trans f5⟩
    · intro σ H2 hp
      rw [hPv] at hp
      obtain ⟨v3, rfl, f2⟩ := hp
      have Z2 := Z.fr0 f2
      have Y2 := Y.fr0 f2
      have li2 := Y2.R.li
      walk_at "kk"
      rw [Int.toNat_natCast]
      refine lc_pr (fun i => some (.int (i : Int))) (lt_line (by omega)) ?_ ?_
      · intro i D0 acc Cy Cn hi hD h1 h2
        walk_at "kk"
        exact h1 _ rfl
      intro l3 n3
      have ef : (List.range Ls.length).filterMap (fun (i : Nat) => some (V.int (i : Int))) = ((List.range Ls.length).map fun (i : Nat) => (i : Int)).map V.int := by
        rw [List.map_map]
        induction List.range Ls.length with
        | nil => rfl
        | cons x l ih => rw [List.filterMap_cons, ih]; rfl
      rw [ef]
      have f3 : KW.Fr [] H2 (upd H2 l3 (.lst (((List.range Ls.length).map fun (i : Nat) => (i : Int)).map V.int))) := Fr.new n3
      have i3 : IL (upd H2 l3 (.lst (((List.range Ls.length).map fun (i : Nat) => (i : Int)).map V.int))) l3 ((List.range Ls.length).map fun (i : Nat) => (i : Int)) := upd_same
      revert f3 i3
      generalize upd H2 l3 (.lst (((List.range Ls.length).map fun (i : Nat) => (i : Int)).map V.int)) = H3
      intro f3 i3
      have F3 := f2.trans f3
      have Z3 := Z.fr0 F3
      obtain ⟨⟨dx3, lo3, ob3, _⟩, _⟩ := Z3.S
      have lf := len_flat d.B
      walk_at "kk"
      refine numbers_s Z3.S (by omega) fun ys l4 p1 p2 n4 => ?_
      have f4 : KW.Fr [] H3 (upd H3 l4 (.lst (ys.map V.int))) := Fr.new n4
      have i4 : IL (upd H3 l4 (.lst (ys.map V.int))) l4 ys := upd_same
      have i3' := f4 _ _ (by simp) i3
      have ey : ys = (List.range Ls.length).map fun (i : Nat) => (i : Int) := by
        refine srt_uniq (fun n => ?_) (p1.nodup_iff.mpr (nums_nodup Z.S.nd)) ?_ (List.Perm.refl _) (List.Perm.refl _) p2 ?_
        · rw [p1.mem_iff, mem_nums, ← gB_lv, e1, List.mem_map]
          unfold gL
          constructor
          · intro q
            split at q
            · rename_i n0
              rw [Option.isSome_map] at q
              have : n.toNat < Ls.length := by
                by_cases c : n.toNat < Ls.length
                · exact c
                · rw [List.getElem?_eq_none (by omega)] at q; cases q
              exact ⟨n.toNat, by rw [List.mem_range]; exact this, by omega⟩
            · cases q
          · rintro ⟨i, hi, rfl⟩
            rw [List.mem_range] at hi
            rw [if_pos (by omega), Int.toNat_natCast, List.getElem?_eq_getElem hi]; rfl
        · unfold List.Nodup
          rw [List.pairwise_map]
          exact List.pairwise_lt_range.imp fun h => by omega
        · rw [List.pairwise_map]
          exact List.pairwise_lt_range.imp fun h => by omega
      have ly : ys.length ≤ 60 := by rw [ey, List.length_map, List.length_range]; omega
      refine same_s (xs := ys) i4 (by rw [ey] at i3' ⊢; exact i3') (by omega) ?_
      have F4 := F3.trans f4
      revert f4 i4 i3' F4
      generalize upd H3 l4 (.lst (ys.map V.int)) = H4
      intro f4 i4 i3' F4
      have Zd4 := Z.fr0 F4
      refine ⟨_, rfl, ?_⟩
      rw [if_pos rfl]
      walk_at "kk"
      refine allRoots_s Zd4 fun l H5 n5 f5 i5 => ⟨by decide, fun p hp => ?_⟩
      have W5 := (Y.fr0 (F4.trans f5)).W
      have t1 : upd H5 p (.lst [.int 0]) p = some (.lst [.int 0]) := upd_same
      have wp : wo ≠ p := ne_of_none W5 hp
      have w1 : upd H5 p (.lst [.int 0]) wo = some (.lst (ws.map V.int)) := by rw [upd_ne wp]; exact W5
      have lp : l ≠ p := ne_of_none i5 hp
      have l4' := Y.l4
      refine ucat_l (xs := [.int 0]) (zs := ws.map V.int) t1 w1 (le_line (by simp only [List.length_map, List.length_cons, List.length_nil]; omega)) fun q hq => ?_
      have lq : l ≠ q := fun z => by
        rw [← z, upd_ne lp] at hq
        have := i5
        unfold IL at this
        rw [hq] at this; cases this
      have f7 : KW.Fr [] H4 (upd (upd H5 p (.lst [.int 0])) q (.lst ([.int 0] ++ ws.map V.int))) := f5.trans ((Fr.new hp).trans (Fr.new hq))
      refine same_s (xs := d.ws) (by show upd _ _ _ _ = _; rw [upd_ne lq, upd_ne lp]; exact i5) ?_ ?_ ?_
      · show upd _ _ _ _ = _
        rw [upd_same]
        unfold Spd.ws
        rw [e2]; rfl
      · unfold Spd.ws
        rw [e2, List.length_cons]; omega
      · exact h _ (F4.trans f7)
end
end K64

set_option Elab.async false
set_option linter.all false
set_option maxRecDepth 100000
set_option maxHeartbeats 4000000
/-! SpN: a chain of objects -/
namespace ST
open PySem PySem.Spec PyProof.Rows L2 KW LamX
structure Ch (B : List Blk) (m i : Nat) : Prop where
  len : B.length = m
  e : ∀ (j : Nat) (e : Blk), B[j]? = some e → e.n = (j : Int) ∧ e.al = true ∧ e.k = 0 ∧ e.s = [if 1 ≤ j ∧ j < i then 2 * ((j : Int) + 1) else 0]
theorem Ch.nil : Ch [] 0 1 := ⟨rfl, fun j e h => by simp at h⟩
theorem Ch.lv {B : List Blk} {m i : Nat} (s : Ch B m i) (n : Int) : lv B n = decide (0 ≤ n ∧ n < m) := by
  apply Bool.eq_iff_iff.mpr
  rw [decide_eq_true_eq]
  have := s.len
  constructor
  · intro h
    obtain ⟨j, e, h2, h3, h4⟩ := lv_iff.mp h
    have := (s.e j e h2).1
    have := (List.getElem?_eq_some_iff.mp h2).1
    omega
  · rintro ⟨h1, h2⟩
    obtain ⟨e, he⟩ : ∃ e, B[n.toNat]? = some e := ⟨_, List.getElem?_eq_getElem (by omega)⟩
    have q := s.e _ e he
    have e1 : e.n = n := by rw [q.1]; omega
    rw [← e1]; exact lv_at he q.2.1
theorem Ch.free {B : List Blk} {m i : Nat} (s : Ch B m i) : Free B (m : Int) :=
  ⟨by omega, by rw [s.lv]; simp, fun g h1 h2 => by rw [s.lv]; simp; exact ⟨h1, h2⟩⟩
theorem Ch.app {B : List Blk} {m : Nat} (s : Ch B m 1) : Ch (B ++ [⟨m, 0, List.replicate 1 0, true⟩]) (m + 1) 1 := by
  have hl := s.len
  refine ⟨by rw [List.length_append, s.len]; rfl, fun j e h1 => ?_⟩
  rw [List.getElem?_append] at h1
  split at h1
  · exact s.e j e h1
  · have := List.mem_of_getElem? h1
    simp at this
    have lj := (List.getElem?_eq_some_iff.mp h1).1
    simp at lj
    have ej : j = m := by omega
    subst ej
    subst e
    refine ⟨rfl, rfl, rfl, ?_⟩
    rw [if_neg (by omega)]
theorem Ch.put {B : List Blk} {m i : Nat} {e : Blk} (s : Ch B m i) (h : B[i]? = some e) (hi : 1 ≤ i) : Ch (B.set i { e with s := e.s.set 0 (2 * ((i : Int) + 1)) }) m (i + 1) := by
  refine ⟨by rw [List.length_set, s.len], fun j u h1 => ?_⟩
  rw [get_set h] at h1
  split at h1
  · rename_i c; subst c; cases h1
    obtain ⟨q1, q2, q3, q4⟩ := s.e _ e h
    refine ⟨q1, q2, q3, ?_⟩
    dsimp only
    rw [q4, if_neg (by omega), if_pos (by omega)]; rfl
  · rename_i c
    obtain ⟨q1, q2, q3, q4⟩ := s.e _ u h1
    refine ⟨q1, q2, q3, ?_⟩
    rw [q4]
    by_cases d : 1 ≤ j ∧ j < i
    · rw [if_pos d, if_pos (by omega)]
    · rw [if_neg d, if_neg (by omega)]
theorem Ch.flat {B : List Blk} {m i : Nat} (s : Ch B m i) : (ST.flat B).length = 4 * m := by
  have key : ∀ C : List Blk, (∀ e ∈ C, e.s.length = 1) → (ST.flat C).length = 4 * C.length := by
    intro C
    induction C with
    | nil => intro _; simp [flat_nil]
    | cons e C ih =>
      intro hc
      rw [flat_cons, List.length_append, Blk.ws_len, List.length_cons]
      have := ih fun x hx => hc x (by simp [hx])
      have := hc e (by simp)
      omega
  rw [← s.len]
  refine key B fun e he => ?_
  obtain ⟨j, hj⟩ := List.getElem?_of_mem he
  rw [(s.e j e hj).2.2.2]; rfl
theorem Ch.g {B : List Blk} {m i : Nat} (s : Ch B m i) (N : Nd B) {j : Nat} (h : j < m) : gB B (j : Int) = some [0, if 1 ≤ j ∧ j < i then 2 * ((j : Int) + 1) else 0] := by
  obtain ⟨e, he⟩ : ∃ e, B[j]? = some e := ⟨_, List.getElem?_eq_getElem (by rw [s.len]; exact h)⟩
  obtain ⟨q1, q2, q3, q4⟩ := s.e _ e he
  rw [gB_some N]
  exact ⟨j, e, he, q2, q1, by rw [q3, q4]⟩
theorem Ch.rg {B : List Blk} {m : Nat} {R : List Int} (s : Ch B m (m - 1)) (N : Nd B) (h0 : (0 : Int) ∈ R) (h2 : (2 : Int) ∈ R) (n : Int) : Rg (gB B) R n ↔ 0 ≤ n ∧ n < m := by
  constructor
  · intro h
    obtain ⟨r, hr⟩ := h.some
    have := gB_lv (B := B) (n := n)
    rw [hr, s.lv] at this
    exact of_decide_eq_true this.symm
  · rintro ⟨a, b⟩
    have key : ∀ k : Nat, k < m → Rg (gB B) R (k : Int) := by
      intro k
      induction k with
      | zero => intro hk; exact .root (w := 0) h0 rfl (s.g N hk)
      | succ k ih =>
        intro hk
        by_cases c : k = 0
        · subst c; exact .root (w := 2) h2 rfl (s.g N hk)
        · have e1 : (2 * ((k : Int) + 1)) / 2 = ((k + 1 : Nat) : Int) := by omega
          have := Rg.step (w := 2 * ((k : Int) + 1)) (ih (by omega)) (s.g N (by omega)) (by rw [if_pos (by omega)]; simp) (by omega) (by rw [e1]; exact s.g N hk)
          rwa [e1] at this
    have := key n.toNat (by omega)
    rwa [Int.toNat_of_nonneg a] at this
theorem Ch.no {B : List Blk} {m i : Nat} {R : List Int} (s : Ch B m i) (N : Nd B) (h : ∀ w ∈ R, w = 0) (n : Int) (q : Rg ((Plc.root 5).g (gB B)) R n) : n = 0 := by
  have key : ∀ {r : List Int}, (Plc.root 5).g (gB B) 0 = some r → ∀ w ∈ r, w = 0 := fun {r} hr w hw => by
    unfold Plc.g at hr
    obtain ⟨r', h1, h2⟩ := Option.map_eq_some_iff.mp hr
    have hr2 : r' = r := h2
    subst hr2
    have := gB_lv (B := B) (n := 0)
    rw [h1, s.lv] at this
    have hm := of_decide_eq_true this.symm
    have := s.g N (j := 0) (by omega)
    rw [show ((0 : Nat) : Int) = 0 from rfl, h1] at this
    have e := Option.some.inj this
    rw [if_neg (by omega)] at e
    rw [e] at hw
    simpa using hw
  induction q with
  | root hw e hr => rw [h _ hw]; rfl
  | step h1 hr hw e hr' ih => subst ih; rw [key hr _ hw]; rfl
theorem rng1 (n : Nat) : ((List.range n).map fun (i : Nat) => (1 + (i : Int))).Pairwise (· ≤ ·) ∧ ((List.range n).map fun (i : Nat) => (1 + (i : Int))).Nodup ∧ ∀ x : Int, x ∈ ((List.range n).map fun (i : Nat) => (1 + (i : Int))) ↔ 1 ≤ x ∧ x < n + 1 := by
  refine ⟨?_, ?_, fun x => ?_⟩
  · rw [List.pairwise_map]
    exact List.pairwise_lt_range.imp fun h => by omega
  · unfold List.Nodup
    rw [List.pairwise_map]
    exact List.pairwise_lt_range.imp fun h => by omega
  · rw [List.mem_map]
    constructor
    · rintro ⟨i, h, rfl⟩
      rw [List.mem_range] at h
      omega
    · rintro ⟨a, b⟩
      exact ⟨(x - 1).toNat, by rw [List.mem_range]; omega, by omega⟩
end ST

set_option Elab.async false
set_option linter.all false
set_option maxRecDepth 100000
set_option maxHeartbeats 4000000
/-! SpX: paths along a chain -/
namespace ST
open PySem PySem.Spec PyProof.Rows L2 KW LamX
theorem wa_snoc {g : Gr} {z : Int} : ∀ {pre R : List Int}, pre ≠ [] → wa g R (pre ++ [z]) = (wa g R pre).bind fun w => (stepG g w).bind fun r => ixP r z
  | [], R, h => absurd rfl h
  | [k], R, _ => by
    show wa g R (k :: [z]) = _
    rw [wa_more g R k (by simp), wa_one]
    simp only [wa_one]
  | k :: k2 :: ks, R, _ => by
    show wa g R (k :: (k2 :: (ks ++ [z]))) = _
    rw [wa_more g R k (by simp), wa_more g R k (by simp)]
    have ih : ∀ r, wa g r (k2 :: (ks ++ [z])) = _ := fun r => wa_snoc (g := g) (z := z) (pre := k2 :: ks) (R := r) (by simp)
    simp only [ih, Option.bind_assoc]
theorem bnew_dead {g : Gr} : ∀ {W : WP} {K : List Int}, (∀ y ∈ W, ¬ (y.2 % 2 = 0 ∧ y.2 / 2 ∉ K)) → bnew g K W = []
  | [], _, _ => rfl
  | (p, w) :: W, K, h => by
    rw [bnew, if_neg (fun z => h (p, w) (by simp) ⟨z.1, z.2.1⟩)]
    exact bnew_dead fun y hy => h y (by simp [hy])
theorem bnew_none {g : Gr} {K p row : List Int} (h : ∀ v ∈ row, v % 2 = 1 ∨ v / 2 ∈ K) : bnew g K (ext p row) = [] :=
  bnew_dead fun y hy z => by
    obtain ⟨k, _, _, e⟩ := ext_mem hy
    rcases h _ (List.mem_of_getElem? e) with q | q
    · omega
    · exact z.2 q
theorem bnew_ext {g : Gr} {K p row : List Int} {j : Nat} {w : Int} (hj : row[j]? = some w) (hc : w % 2 = 0 ∧ w / 2 ∉ K ∧ (g (w / 2)).isSome = true) (hd : ∀ i v, row[i]? = some v → i ≠ j → v % 2 = 1 ∨ v / 2 ∈ K) : bnew g K (ext p row) = [(w / 2, p ++ [(j : Int)])] := by
  have lj := (List.getElem?_eq_some_iff.mp hj).1
  have e1 : ext p row = (ext p row).take j ++ ((p ++ [(j : Int)], w) :: (ext p row).drop (j + 1)) := by
    have := ext_snoc p row hj
    conv => lhs; rw [← List.take_append_drop (j + 1) (ext p row), this]
    rw [List.append_assoc]; rfl
  have at_ : ∀ (i : Nat) (y : List Int × Int), (ext p row)[i]? = some y → row[i]? = some y.2 := fun i y h => by
    have li := (List.getElem?_eq_some_iff.mp h).1
    rw [ext_len] at li
    obtain ⟨v, hv⟩ : ∃ v, row[i]? = some v := ⟨_, List.getElem?_eq_getElem li⟩
    have := ext_snoc p row hv
    have e2 : (ext p row)[i]? = some (p ++ [(i : Int)], v) := by
      have h2 : ((ext p row).take (i + 1))[i]? = some (p ++ [(i : Int)], v) := by
        rw [this, List.getElem?_append_right (by rw [List.length_take]; omega), List.length_take, ext_len, Nat.min_eq_left (by omega)]; simp
      rwa [List.getElem?_take, if_pos (by omega)] at h2
    rw [e2] at h; cases h; exact hv
  rw [e1, bnew_app]
  have d1 : bnew g K ((ext p row).take j) = [] := bnew_dead fun y hy z => by
    obtain ⟨i, hi⟩ := List.getElem?_of_mem hy
    have li := (List.getElem?_eq_some_iff.mp hi).1
    rw [List.length_take, ext_len, Nat.min_eq_left (by omega)] at li
    rw [List.getElem?_take, if_pos li] at hi
    rcases hd i _ (at_ i y hi) (by omega) with q | q
    · omega
    · exact z.2 q
  rw [d1, List.nil_append, show K ++ keysF ([] : FP) = K from List.append_nil _, bnew, if_pos hc]
  have d2 : bnew g (K ++ [w / 2]) ((ext p row).drop (j + 1)) = [] := bnew_dead fun y hy z => by
    obtain ⟨i, hi⟩ := List.getElem?_of_mem hy
    rw [List.getElem?_drop] at hi
    rcases hd _ _ (at_ _ y hi) (by omega) with q | q
    · omega
    · exact z.2 (by simp [q])
  rw [d2]
/-- the chain's rows -/
def rowC (s a : Nat → Nat) (m k : Nat) : List Int := 1 :: (List.replicate (s k) 0).set (a k) (if 1 ≤ k ∧ k + 1 < m then 2 * (k : Int) + 2 else 0)
def pathC (a : Nat → Nat) : Nat → List Int
  | 0 => [8]
  | i + 1 => pathC a i ++ [(a (i + 1) : Int) + 1]
theorem pathC_len (a : Nat → Nat) : ∀ i, (pathC a i).length = i + 1
  | 0 => rfl
  | i + 1 => by rw [pathC, List.length_append, pathC_len a i]; rfl
def dueC (a : Nat → Nat) (k : Nat) : FP := (0, [0]) :: (List.range k).map fun (i : Nat) => (((i + 1 : Nat) : Int), pathC a i)
theorem dueC_succ (a : Nat → Nat) (k : Nat) : dueC a (k + 1) = dueC a k ++ [(((k + 1 : Nat) : Int), pathC a k)] := by
  unfold dueC
  rw [List.range_succ, List.map_append, List.cons_append]; rfl
theorem dueC_keys (a : Nat → Nat) (k : Nat) (n : Int) : n ∈ keysF (dueC a k) ↔ 0 ≤ n ∧ n ≤ k := by
  unfold keysF dueC
  rw [List.map_cons, List.map_map, List.mem_cons, List.mem_map]
  constructor
  · rintro (h | ⟨i, hi, rfl⟩)
    · simp only at h; omega
    · rw [List.mem_range] at hi
      simp only [Function.comp]; omega
  · rintro ⟨h1, h2⟩
    by_cases c : n = 0
    · exact .inl c
    · exact .inr ⟨(n - 1).toNat, by rw [List.mem_range]; omega, by simp only [Function.comp]; omega⟩
abbrev wsC : List Int := 0 :: ((List.replicate 16 0).set 7 2 ++ [])
structure Lg (s a : Nat → Nat) (m : Nat) (g : Gr) : Prop where
  m2 : 2 ≤ m
  al : ∀ k, a k < s k
  g : ∀ n : Int, g n = if 0 ≤ n ∧ n < m then some (rowC s a m n.toNat) else none
theorem Lg.at {s a : Nat → Nat} {m k : Nat} {g : Gr} (L : Lg s a m g) (h : k < m) : g (k : Int) = some (rowC s a m k) := by
  rw [L.g, if_pos (by omega), Int.toNat_natCast]
theorem rowC_at (s a : Nat → Nat) (m k : Nat) (h : a k < s k) : (rowC s a m k)[a k + 1]? = some (if 1 ≤ k ∧ k + 1 < m then 2 * (k : Int) + 2 else 0) := by
  unfold rowC
  rw [List.getElem?_cons_succ, List.getElem?_set_self (by rw [List.length_replicate]; exact h)]
theorem rowC_ne {s a : Nat → Nat} {m k i : Nat} {v : Int} (h : (rowC s a m k)[i]? = some v) (hi : i ≠ a k + 1) : v = 1 ∨ v = 0 := by
  unfold rowC at h
  cases i with
  | zero => rw [List.getElem?_cons_zero] at h; cases h; exact .inl rfl
  | succ i =>
    rw [List.getElem?_cons_succ, List.getElem?_set_ne (by omega)] at h
    have := List.mem_of_getElem? h
    exact .inr (List.eq_of_mem_replicate this)
theorem rowC_last {s a : Nat → Nat} {m k : Nat} (h : ¬ (1 ≤ k ∧ k + 1 < m)) : ∀ v ∈ rowC s a m k, v = 1 ∨ v = 0 := fun v hv => by
  unfold rowC at hv
  rw [if_neg h] at hv
  rcases List.mem_cons.mp hv with q | q
  · exact .inl q
  · rcases List.mem_or_eq_of_mem_set q with q | q
    · exact .inr (List.eq_of_mem_replicate q)
    · exact .inr q
def waitC (s a : Nat → Nat) (m k : Nat) : WP := (if k = 1 then ext [0] (rowC s a m 0) else []) ++ ext (pathC a (k - 1)) (rowC s a m k)
theorem Lg.one {s a : Nat → Nat} {m : Nat} {g : Gr} (L : Lg s a m g) : run g wsC 1 = (dueC a 1, waitC s a m 1) := by
  have m2 := L.m2
  have h0 : g 0 = some (rowC s a m 0) := L.at (k := 0) (by omega)
  have h1 : g 1 = some (rowC s a m 1) := L.at (k := 1) (by omega)
  have e : bnew g [] (ext [] wsC) = [(0, [0]), (1, [8])] := by
    show bnew g [] [([0], 0), ([1], 0), ([2], 0), ([3], 0), ([4], 0), ([5], 0), ([6], 0), ([7], 0), ([8], 2), ([9], 0), ([10], 0), ([11], 0), ([12], 0), ([13], 0), ([14], 0), ([15], 0), ([16], 0)] = _
    simp [bnew, h0, h1]
  show lvl g ([], ext [] wsC) = _
  unfold lvl
  rw [show keysF ([] : FP) = [] from rfl]
  dsimp only
  rw [e]
  unfold dueC waitC
  simp only [List.flatMap_cons, List.flatMap_nil, List.append_nil, List.nil_append]
  unfold extg
  rw [h0, h1]; rfl
theorem Lg.step {s a : Nat → Nat} {m k : Nat} {g : Gr} (L : Lg s a m g) (k1 : 1 ≤ k) (h : k + 1 < m) (e : run g wsC k = (dueC a k, waitC s a m k)) : run g wsC (k + 1) = (dueC a (k + 1), waitC s a m (k + 1)) := by
  have hk := L.at (k := k + 1) h
  have hb : bnew g (keysF (dueC a k)) (waitC s a m k) = [(((k + 1 : Nat) : Int), pathC a k)] := by
    unfold waitC
    rw [bnew_app]
    have d0 : bnew g (keysF (dueC a k)) (if k = 1 then ext [0] (rowC s a m 0) else []) = [] := by
      split
      · refine bnew_none fun v hv => ?_
        rcases rowC_last (by omega) v hv with q | q
        · left; omega
        · right; rw [dueC_keys]; omega
      · rfl
    rw [d0, List.nil_append, show keysF (dueC a k) ++ keysF ([] : FP) = keysF (dueC a k) from List.append_nil _]
    have r1 := rowC_at s a m k (L.al k)
    rw [if_pos ⟨k1, h⟩] at r1
    have e2 : (2 * (k : Int) + 2) / 2 = ((k + 1 : Nat) : Int) := by omega
    rw [bnew_ext r1 ⟨by omega, by rw [dueC_keys]; omega, by rw [e2, hk]; rfl⟩ fun i v hi ne => ?_]
    · rw [e2]
      obtain ⟨j, rfl⟩ : ∃ j, k = j + 1 := ⟨k - 1, by omega⟩
      show _ = [(_, pathC a j ++ [(a (j + 1) : Int) + 1])]
      simp
    · rcases rowC_ne hi ne with q | q
      · left; omega
      · right; rw [dueC_keys]; omega
  show lvl g (run g wsC k) = _
  rw [e]
  unfold lvl
  dsimp only
  rw [hb, dueC_succ]
  simp only [List.flatMap_cons, List.flatMap_nil, List.append_nil]
  unfold extg waitC
  rw [hk, if_neg (by omega)]; rfl
theorem Lg.all {s a : Nat → Nat} {m : Nat} {g : Gr} (L : Lg s a m g) : ∀ k, 1 ≤ k → k < m → run g wsC k = (dueC a k, waitC s a m k) := by
  intro k
  induction k with
  | zero => intro h; omega
  | succ k ih =>
    intro _ h
    by_cases c : k = 0
    · subst c; exact L.one
    · exact L.step (by omega) h (ih (by omega) (by omega))
theorem Lg.last {s a : Nat → Nat} {m : Nat} {g : Gr} (L : Lg s a m g) : run g wsC m = (dueC a (m - 1), []) := by
  have m2 := L.m2
  obtain ⟨k, rfl⟩ : ∃ k, m = k + 1 := ⟨m - 1, by omega⟩
  have e := L.all k (by omega) (by omega)
  show lvl g (run g wsC k) = _
  rw [e]
  have hb : bnew g (keysF (dueC a k)) (waitC s a (k + 1) k) = [] := by
    unfold waitC
    rw [bnew_app]
    have d0 : bnew g (keysF (dueC a k)) (if k = 1 then ext [0] (rowC s a (k + 1) 0) else []) = [] := by
      split
      · refine bnew_none fun v hv => ?_
        rcases rowC_last (by omega) v hv with q | q
        · left; omega
        · right; rw [dueC_keys]; omega
      · rfl
    rw [d0, List.nil_append, show keysF (dueC a k) ++ keysF ([] : FP) = keysF (dueC a k) from List.append_nil _]
    refine bnew_none fun v hv => ?_
    rcases rowC_last (by omega) v hv with q | q
    · left; omega
    · right; rw [dueC_keys]; omega
  unfold lvl
  dsimp only
  rw [hb]
  simp
theorem Lg.wa {s a : Nat → Nat} {m : Nat} {g : Gr} (L : Lg s a m g) : ∀ i, i + 1 < m → ST.wa g wsC (pathC a i) = some (2 * ((i : Int) + 1))
  | 0, h => by
    show ST.wa g wsC [8] = _
    rw [wa_one]; rfl
  | i + 1, h => by
    have ih := L.wa i (by omega)
    rw [pathC, wa_snoc (by intro z; have := congrArg List.length z; rw [pathC_len] at this; simp at this), ih]
    have hk := L.at (k := i + 1) (by omega)
    have r1 := rowC_at s a m (i + 1) (L.al _)
    rw [if_pos (by omega)] at r1
    have e2 : (2 * ((i : Int) + 1)) / 2 = ((i + 1 : Nat) : Int) := by omega
    simp only [Option.bind_some]
    unfold stepG
    rw [if_pos (by omega), e2, hk]
    simp only [Option.bind_some]
    unfold ixP
    rw [if_pos (by omega), show ((a (i + 1) : Int) + 1).toNat = a (i + 1) + 1 by omega, r1]
    congr 1
def vC (m k : Nat) : Int := if 1 ≤ k ∧ k + 1 < m then 2 * (k : Int) + 2 else 0
structure Cl (s a : Nat → Nat) (m : Nat) (B : List Blk) (i : Nat) : Prop where
  len : B.length = i
  e : ∀ (j : Nat) (e : Blk), B[j]? = some e → e.n = (j : Int) ∧ e.al = true ∧ e.k = 1 ∧ e.s = (List.replicate (s j) 0).set (a j) (vC m j)
theorem Cl.nil (s a : Nat → Nat) (m : Nat) : Cl s a m [] 0 := ⟨rfl, fun j e h => by simp at h⟩
theorem Cl.lv {s a : Nat → Nat} {m i : Nat} {B : List Blk} (c : Cl s a m B i) (n : Int) : lv B n = decide (0 ≤ n ∧ n < i) := by
  apply Bool.eq_iff_iff.mpr
  rw [decide_eq_true_eq]
  have := c.len
  constructor
  · intro h
    obtain ⟨j, e, h2, h3, h4⟩ := lv_iff.mp h
    have := (c.e j e h2).1
    have := (List.getElem?_eq_some_iff.mp h2).1
    omega
  · rintro ⟨h1, h2⟩
    obtain ⟨e, he⟩ : ∃ e, B[n.toNat]? = some e := ⟨_, List.getElem?_eq_getElem (by omega)⟩
    have q := c.e _ e he
    have e1 : e.n = n := by rw [q.1]; omega
    rw [← e1]; exact lv_at he q.2.1
theorem Cl.free {s a : Nat → Nat} {m i : Nat} {B : List Blk} (c : Cl s a m B i) : Free B (i : Int) :=
  ⟨by omega, by rw [c.lv]; simp, fun g h1 h2 => by rw [c.lv]; simp; exact ⟨h1, h2⟩⟩
theorem Cl.app {s a : Nat → Nat} {m i : Nat} {B : List Blk} {e : Blk} (c : Cl s a m B i) (h : e.n = (i : Int) ∧ e.al = true ∧ e.k = 1 ∧ e.s = (List.replicate (s i) 0).set (a i) (vC m i)) : Cl s a m (B ++ [e]) (i + 1) := by
  have hl := c.len
  refine ⟨by rw [List.length_append, c.len]; rfl, fun j u h1 => ?_⟩
  rw [List.getElem?_append] at h1
  split at h1
  · exact c.e j u h1
  · have := List.mem_of_getElem? h1
    simp at this
    have lj := (List.getElem?_eq_some_iff.mp h1).1
    simp at lj
    have ej : j = i := by omega
    subst ej; subst this; exact h
theorem rep0 (n a : Nat) : (List.replicate n (0 : Int)).set a 0 = List.replicate n 0 := by
  apply List.ext_getElem?
  intro t
  rw [List.getElem?_set]
  split
  · rename_i c
    subst c
    rw [List.length_replicate, List.getElem?_replicate]
  · rfl
theorem Cl.flat {s a : Nat → Nat} {m i M : Nat} {B : List Blk} (c : Cl s a m B i) (h : ∀ k, s k ≤ M) : (ST.flat B).length ≤ (M + 3) * i := by
  have key : ∀ C : List Blk, (∀ e ∈ C, e.s.length ≤ M) → (ST.flat C).length ≤ (M + 3) * C.length := by
    intro C
    induction C with
    | nil => intro _; simp [flat_nil]
    | cons e C ih =>
      intro hc
      rw [flat_cons, List.length_append, Blk.ws_len, List.length_cons, Nat.mul_succ]
      have := ih fun x hx => hc x (by simp [hx])
      have := hc e (by simp)
      omega
  rw [← c.len]
  refine key B fun e he => ?_
  obtain ⟨j, hj⟩ := List.getElem?_of_mem he
  rw [(c.e j e hj).2.2.2, List.length_set, List.length_replicate]; exact h j
theorem Cl.lg {s a : Nat → Nat} {m : Nat} {B : List Blk} (c : Cl s a m B m) (N : Nd B) (m2 : 2 ≤ m) (h : ∀ k, a k < s k) : Lg s a m (gB B) := by
  refine ⟨m2, h, fun n => ?_⟩
  by_cases d : 0 ≤ n ∧ n < m
  · rw [if_pos d]
    obtain ⟨e, he⟩ : ∃ e, B[n.toNat]? = some e := ⟨_, List.getElem?_eq_getElem (by have := c.len; omega)⟩
    obtain ⟨q1, q2, q3, q4⟩ := c.e _ e he
    rw [gB_some N]
    refine ⟨_, e, he, q2, by rw [q1]; omega, ?_⟩
    rw [q3, q4]; rfl
  · rw [if_neg d]
    have := gB_lv (B := B) (n := n)
    rw [c.lv, decide_eq_false d] at this
    cases e : gB B n with
    | none => rfl
    | some r => rw [e] at this; cases this
theorem Fd.putP {H : Hp} {l pa : Addr} {D : List RW} {n : Int} {p : List Int} (s : Fd H l D) (ht : H pa = some (.tup (p.map V.int))) (hn : n ∉ nsR D) : Fd (L2.upd H l (.dK (putK (kvR D) (.inl n) (.ref pa)))) l (D ++ [⟨n, p, pa⟩]) := by
  have e : putK (kvR D) (.inl n) (.ref pa) = kvR (D ++ [⟨n, p, pa⟩]) := by rw [kvR_put D n pa p, putR_new (e := ⟨n, p, pa⟩) hn]
  have nt : ∀ {a : Addr} {xs : List V}, H a = some (.tup xs) → a ≠ l := fun h z => by rw [z, s.dc] at h; cases h
  refine ⟨by rw [upd_same, e], fun d hd => ?_, ?_⟩
  · rcases List.mem_append.mp hd with q | q
    · rw [upd_ne (nt (s.tp d q))]; exact s.tp d q
    · simp at q; subst q
      rw [upd_ne (nt ht)]; exact ht
  · unfold nsR
    rw [List.map_append, List.nodup_append]
    exact ⟨s.nd, by simp, fun a ha b hb z => by simp at hb; subst hb; subst z; exact hn ha⟩
theorem Fd.fr {H H' : Hp} {dl : Addr} {D : List RW} {l : List Addr} (s : Fd H dl D) (f : KW.Fr l H H') (h1 : dl ∉ l) (h2 : ∀ a xs, H a = some (.tup xs) → a ∉ l) : Fd H' dl D :=
  ⟨f _ _ h1 s.dc, fun d hd => f _ _ (h2 _ _ (s.tp d hd)) (s.tp d hd), s.nd⟩
end ST

set_option Elab.async false
set_option linter.all false
set_option maxRecDepth 100000
set_option maxHeartbeats 4000000
namespace K64
open PySem PySem.Spec PyProof.Rows L2 KW ST LamX
local macro_rules | `(tactic| walk_at "kw") => `(tactic| simp only [tSeq, tNext, tIfS, tTest, tAnd, tOr, tNot, tAndV, tOrV, tNotV, tIf, tChain, tOp, tUn, tC, tAsg, gName, gSub, gCons, gNil, tRet, tRetN, tDrop, tCons, tNil, tCB, tAug, tSl, tPart, tNoPart, tLst, tTup, tBM, tBM0, uTest, uFor, iRng1, iRng2, iList, uCall, List.map_cons, List.map_nil, List.length_cons, List.length_nil, List.cons_append, List.nil_append, List.replicate, Nat.zero_add, Nat.reduceAdd, Nat.reduceSub, List.getElem?_cons_zero, List.getElem?_cons_succ, List.set_cons_zero, List.set_cons_succ, V.bl.injEq, V.int.injEq, V.str.injEq, V.ref.injEq, V.ty.injEq, List.cons.injEq, and_true, true_and, exists_eq_left', exists_eq_right, exists_eq_left, exists_and_left, exists_and_right, decide_eq_true_eq, Bool.not_eq_true', decide_eq_false_iff_not, Bool.false_eq_true, if_true, if_false, ite_true, ite_false, Bool.not_true, Bool.not_false, reduceCtorEq, decide_true, decide_false, Bool.not_not, isK_int_int, isK_int_bool, isK_int_str, isK_int_list, isK_int_tuple, isK_bool_int, isK_bool_bool, isK_bool_str, isK_str_str, isK_str_int, isK_str_bool, isK_str_tuple, isK_str_list, isK_list_list, isK_list_tuple, isK_tuple_tuple, isK_tuple_list, isOk_int_int, isOk_int_bool, isOk_int_str, isOk_int_list, isOk_int_tuple, isOk_bool_int, isOk_bool_bool, isOk_bool_str, isOk_str_str, isOk_str_int, isOk_str_bool, isOk_str_tuple, isOk_str_list, isOk_list_list, isOk_list_tuple, isOk_tuple_tuple, isOk_tuple_list, isK_dict_dict, isOk_dict_dict, isK_none_int, isK_none_bool, isOk_none_int, isOk_none_bool, tyV, S_inj, S_cat, L2.start, Nat.reduceSub, List.replicate_succ, List.replicate_zero, and_assoc, List.append_nil, Nat.reduceEqDiff, Option.some.injEq, Int.natCast_inj, upd_upd, Int.reducePow, Int.reduceToNat, Int.reduceMul, Int.reduceAdd, Int.reduceSub, Int.reduceLT, Int.reduceLE, Int.reduceNeg, Int.reduceDiv, Int.reduceMod, Nat.reducePow, Nat.reduceMul, S_len, List.length_append, List.length_map, List.length_range, not_true_eq_false, not_false_eq_true, ne_eq, uAdd_e1, uAdd_e2, uSub_e1, uMod_e1, uDiv_e1, uPow_e1, uShl_e1, uNeg_e1, uIAdd_e1, uIAdd_e2, uIAdd_e3, uISub_e1, uLt_e1, uLt_e2, uLe_e1, uGt_e1, uGe_e1, uEq_e1, uEq_e2, uEq_e3, uEq_e4, uEq_e5, uEq_e6, uEq_e7, uEq_e8, uEq_e9, uEq_e10, uEq_e11, uNe_e1, uNe_e2, uNe_e3, uNe_e4, uNe_e5, uNe_e6, uNe_e7, uNe_e8, uNe_e9, uNe_e10, uNe_e11, uIs_e1, uIs_e2, uIs_e3, uIs_e4, uIs_e5, uIs_e6, uIs_e7, uNotIs_e1, uNotIs_e2, uNotIs_e3, uNotIs_e4, uNotIs_e5, uNotIs_e6, uIn_e1, uIn_e2, uIn_e3, uIn_e4, uNotIn_e1, uNotIn_e2, uNotIn_e3, uNotIn_e4, uTru_e1, uTru_e2, uTru_e3, uTru_e4, uIx_e2, uSl_e2, uLen_e1, uAbs_e1, uInt_e1, uInt_e2, uMin2_e1, uIsi_e1, uIsi_e2, uIsi_e3, uIsi_e4, cx_K, uVar_0, uVar_n, uFld, uSFld, uMet, uMake, tDG, tDI, tDNI, tDP, tDD, uMk, uRaise, uDelSl, tCallS, L2.WE, uStr_e1, uStr_e2, uMul2_e1, uMul2_e2, okS_i, okS_s, List.zip_cons_cons, List.zip_nil_left, List.drop_zero, List.drop_succ_cons, List.drop_nil, putF_nil, putF_cons, eq_self, tDNewK, tB, Option.isSome_some, Option.isSome_none, false_and, false_or, or_false, exists_false, Int.zero_add, uLc, wipe, tYes, isEmpty_app, List.isEmpty_cons, List.isEmpty_nil, List.isEmpty_map, Bool.and_false, Bool.and_true, iRev, K64.lit_0, K64.fe_room_entries, K64.fe_room_words, K64.fe_room__places, K64.fe_room__least, K64.fe_entries_room, K64.fe_entries_words, K64.fe_entries__places, K64.fe_entries__least, K64.fe_words_room, K64.fe_words_entries, K64.fe_words__places, K64.fe_words__least, K64.fe__places_room, K64.fe__places_entries, K64.fe__places_words, K64.fe__places__least, K64.fe__least_room, K64.fe__least_entries, K64.fe__least_words, K64.fe__least__places, K64.fe_store_pressure, K64.fe_store_always, K64.fe_store_allocations, K64.fe_store_collections, K64.fe_store__roots, K64.fe_store__held, K64.fe_store__saved, K64.fe_pressure_store, K64.fe_pressure_always, K64.fe_pressure_allocations, K64.fe_pressure_collections, K64.fe_pressure__roots, K64.fe_pressure__held, K64.fe_pressure__saved, K64.fe_always_store, K64.fe_always_pressure, K64.fe_always_allocations, K64.fe_always_collections, K64.fe_always__roots, K64.fe_always__held, K64.fe_always__saved, K64.fe_allocations_store, K64.fe_allocations_pressure, K64.fe_allocations_always, K64.fe_allocations_collections, K64.fe_allocations__roots, K64.fe_allocations__held, K64.fe_allocations__saved, K64.fe_collections_store, K64.fe_collections_pressure, K64.fe_collections_always, K64.fe_collections_allocations, K64.fe_collections__roots, K64.fe_collections__held, K64.fe_collections__saved, K64.fe__roots_store, K64.fe__roots_pressure, K64.fe__roots_always, K64.fe__roots_allocations, K64.fe__roots_collections, K64.fe__roots__held, K64.fe__roots__saved, K64.fe__held_store, K64.fe__held_pressure, K64.fe__held_always, K64.fe__held_allocations, K64.fe__held_collections, K64.fe__held__roots, K64.fe__held__saved, K64.fe__saved_store, K64.fe__saved_pressure, K64.fe__saved_always, K64.fe__saved_allocations, K64.fe__saved_collections, K64.fe__saved__roots, K64.fe__saved__held, tDGF_eq, uDGetF_e1, tLstRg, tRg1, uDict1, uD1_e1, K64.N_is_ref, K64.N_ref_of, K64.N_reached, K64.N_collect, K64.N_object_of, K64.N_row_of, K64.N_word_at, K64.N_paths, K64.N_garbage, K64.N_Store_init, K64.N_Store_exists, K64.N_Store_numbers, K64.N_Store_free_number, K64.N_Store_allocate, K64.N_Store_size, K64.N_Store_kind, K64.N_Store_get, K64.N_Store_put, K64.N_Store_slots, K64.N_Store_drop, K64.N_Store_close_up, K64.N_Space_init, K64.N_Space_root, K64.N_Space_set_root, K64.N_Space_hold, K64.N_Space_drop, K64.N_Space_held, K64.N_Space_all_roots, K64.N_Space_collect, K64.N_Space_collect_with, K64.N_Space_new, K64.N_Space_fitted, K64.N__law_number, K64.N__law_word, K64.N__law_is, K64.N__law_same, K64.N__law_sizes, K64.N__law_rows, K64.N__law_roots, K64.N__law_space, K64.N__law_walk, K64.N__law_extended, K64.N__law_best, K64.N__law_path_is, K64.N__law_told, K64.N__law_drawn, K64.N__law_kept, K64.N__law_long, K64.N_law, sp_is_ref, sp_ref_of])
local macro_rules | `(tactic| walk_at "nn") => `(tactic| first | assumption | exact ne_un (by assumption) | exact ne_un (ne_un (by assumption)) | exact ne_un (ne_un (ne_un (by assumption))) | exact ne_un (ne_un (ne_un (ne_un (by assumption)))))
local macro_rules | `(tactic| walk_at "ne") => `(tactic| first | assumption | (apply Ne.symm; assumption) | exact ne_ud (by assumption) | exact Ne.symm (ne_ud (by assumption)) | exact ne_ud (ne_un (by assumption)) | exact Ne.symm (ne_ud (ne_un (by assumption))) | exact ne_ud (ne_un (ne_un (by assumption))) | exact Ne.symm (ne_ud (ne_un (ne_un (by assumption)))) | exact ne_m (by assumption) (by assumption) | exact Ne.symm (ne_m (by assumption) (by assumption)) | exact ne_n (by assumption) (by walk_at "nn") | exact Ne.symm (ne_n (by assumption) (by walk_at "nn")))
local macro_rules | `(tactic| walk_at "hp") => `(tactic| first | assumption | exact upd_same | (refine Eq.trans (upd_ne ?_) ?_; (focus walk_at "ne"); walk_at "hp"))
local macro_rules | `(tactic| walk_at "sc") => `(tactic| first | (with_reducible assumption) | omega | exact le_line (by (try simp only [List.length_map, List.length_append, List.length_cons, List.length_nil, S_len]); omega) | exact div_s (by omega) | exact mul_r (by omega) | exact mul_l (by omega) | exact pow_s (by omega) | exact mul2_r (by omega) | exact mul2_l (by omega) | exact small4300 (by omega) | exact lt_line (by (try simp only [List.length_map, List.length_append, List.length_cons, List.length_nil, S_len]); omega) | exact ⟨_, by assumption⟩ | (guard_target =~ Exists _; exact ⟨_, .of (by walk_at "hp")⟩) | (guard_target =~ _ ∨ _; exact .inl ⟨_, by assumption⟩) | (guard_target =~ _ ∨ _; exact .inl ⟨_, .of (by walk_at "hp")⟩) | (guard_target =~ _ ∨ _; exact .inr (.inr (.inl ⟨rfl, .inl ⟨_, by walk_at "hp"⟩⟩))) | decide)
local macro_rules | `(tactic| walk_at "kr") => `(tactic| first | (guard_target =~ _ ∧ _; first | refine And.intro (by walk_at "sc") ?_) | (guard_target =~ KW.uIx _ _ _ _ _; first | refine ix_l (by walk_at "hp") (by first | walk_at "hv" | rfl) ?_ | refine ix_t (by walk_at "hp") (by first | walk_at "hv" | rfl) ?_ | refine ix_sl (by assumption) (by walk_at "hv") ?_) | (guard_target =~ KW.uLen _ _ _ _; first | refine len_l (by walk_at "hp") ?_ | refine len_t (by walk_at "hp") ?_ | refine len_sl (by assumption) ?_) | (guard_target =~ KW.uSet _ _ _ _ _; first | refine set_l (by walk_at "hp") (by first | walk_at "hv" | rfl) ?_) | (guard_target =~ L2.gTup _ _ _ _ _ _ _; first | refine tup_l (by walk_at "hp") (by rfl) ?_) | (guard_target =~ KW.uGet _ _ _ _ _; first | refine get_l (by walk_at "hp") (by walk_at "hc") (by decide) (by rfl) ?_) | (guard_target =~ KW.uPut _ _ _ _ _ _; first | refine put_l (by walk_at "hp") (by walk_at "hc") (by decide) (by simp) ?_) | (guard_target =~ KW.uMet.uMt _ _ _ _ _ _ _ _ _; first | refine met_l (by walk_at "hp") (by rfl) ?_) | (guard_target =~ KW.uMet.uMt _ _ _ _ _ _ _ _ _; first | refine ST.met_s (by assumption) (by decide) ?_) | (guard_target =~ ST.spExists _ _ _ _ _; first | refine ST.exists_s (by assumption) ?_) | (guard_target =~ ST.spUsed _ _ _ _ _; first | refine ST.used_s (by assumption) ?_) | (guard_target =~ KW.uGet _ _ _ _ _; first | refine ST.words_s (by assumption) (by walk_at "hc") (by decide) ?_) | (guard_target =~ KW.uDIn _ _ _ _; first | refine din_i (by walk_at "hp") ?_ | refine din_s (by walk_at "hp") ?_) | (guard_target =~ KW.uDGet _ _ _ _; first | refine dget_i (by walk_at "hp") (by walk_at "hv") ?_ | refine dget_s (by walk_at "hp") (by walk_at "hv") ?_) | (guard_target =~ KW.uDPut _ _ _ _ _; first | refine dput_i (by walk_at "hp") (by walk_at "sc") ?_ | refine dput_s (by walk_at "hp") (by walk_at "sc") ?_) | (guard_target =~ KW.uDDel _ _ _ _; first | refine ddel_i (by walk_at "hp") (by walk_at "hv") ?_ | refine ddel_s (by walk_at "hp") (by walk_at "hv") ?_) | (guard_target =~ KW.uMul2 _ _ _ _; first | refine rep_l (by walk_at "hp") (by walk_at "sc") (by walk_at "sc") (by walk_at "sc") ?_) | (guard_target =~ L2.rAppend _ _ _ _; first | refine app_l (by walk_at "hp") (by walk_at "sc") ?_) | (guard_target =~ L2.rPop _ _ _ _; first | refine pop_l (by walk_at "hp") (by walk_at "hv") ?_ | refine pops_l (by walk_at "hp") ?_) | (guard_target =~ L2.rClear _ _ _ _; first | refine clr_l (by walk_at "hp") ?_) | (guard_target =~ L2.rReverse _ _ _ _; first | refine rev_l (by walk_at "hp") ?_) | (guard_target =~ L2.rExtend _ _ _ _; first | refine ext_l (by walk_at "hp") (by walk_at "hp") (by walk_at "sc") ?_) | (guard_target =~ KW.uAdd _ _ _ _ _; first | refine ucat_l (by walk_at "hp") (by walk_at "hp") (by walk_at "sc") ?_) | (guard_target =~ KW.uSl _ _ _ _ _ _; first | refine usl_l (by walk_at "hp") ?_) | (guard_target =~ KW.uTru _ _ _ _; first | refine tru_l (by walk_at "hp") ?_ | refine tru_t (by walk_at "hp") ?_ | refine tru_d (by walk_at "hp") ?_ | refine tru_sl (by assumption) ?_) | (guard_target =~ L2.rIndex _ _ _ _ _; first | refine idx_s (by walk_at "hp") (by assumption) ?_ | refine idx_i (by walk_at "hp") (by assumption) ?_) | (guard_target =~ L2.rIn _ _ _ _ _ _; first | refine in_s (by walk_at "hp") ?_ | refine nin_s (by walk_at "hp") ?_ | refine in_i (by walk_at "hp") ?_ | refine nin_i (by walk_at "hp") ?_) | (guard_target =~ KW.uIsi _ _ _ _; first | refine isi_l (by walk_at "hp") (by decide +kernel) ?_ | refine isi_t (by walk_at "hp") (by decide +kernel) ?_ | refine isi_d (by walk_at "hp") (by decide +kernel) ?_) | (guard_target =~ KW.uList _ _ _ _; first | refine list_l (by walk_at "hp") ?_ | refine list_t (by walk_at "hp") ?_ | refine list_sl (by assumption) ?_) | (guard_target =~ KW.uDict _ _ _; first | refine dict_d (by walk_at "hp") ?_) | (guard_target =~ KW.uSorted _ _ _ _; first | refine srt_l (by walk_at "hp") ?_) | (guard_target =~ KW.uSum _ _ _ _; first | refine sum_l (by walk_at "hp") ?_) | (guard_target =~ KW.uDelC _ _ _ _; first | refine dels_l (by walk_at "hp") (by walk_at "sc") ?_) | (guard_target =~ L2.wAs _ _ _ _ _ _ _ _ _ _; first | refine as_yes (by walk_at "hx") ?_ | refine as_no (by walk_at "hx") ?_) | (guard_target =~ KW.uEf _ _ _ _ _ _ _ _ _; first | refine ef_l (by walk_at "he") (by decide) (by rfl) (by walk_at "hp") (by rfl) ?_) | (guard_target =~ KW.uIsE _ _ _ _ _ _ _; first | refine isE_r (by walk_at "he") (by walk_at "hp") (by walk_at "hk") ?_ | refine isE_t (by walk_at "he") (by walk_at "hp") (by walk_at "hk") ?_))
local macro_rules | `(tactic| walk_at "hv") => `(tactic| first | assumption)
local macro_rules | `(tactic| walk_at "kk") => `(tactic| repeat (first | walk_at "kw" | walk_at "kr"))
local macro_rules | `(tactic| walk_at "hc") => `(tactic| first | exact K64.Txt.c_Store (by assumption) | exact K64.Txt.c_Space (by assumption))
local macro_rules | `(tactic| walk_at "he") => `(tactic| first | exact K64.Txt.e_BadWord (by assumption) | exact K64.Txt.e_NoRoom (by assumption) | exact K64.Txt.e_NoNumber (by assumption) | exact K64.Txt.e_Wrong (by assumption))
local macro_rules | `(tactic| walk_at "hx") => `(tactic| first | exact K64.Txt.x_BadWord_NoNumber (by assumption) | exact K64.Txt.x_BadWord_NoRoom (by assumption) | exact K64.Txt.x_NoRoom_NoNumber (by assumption) | exact K64.Txt.x_NoRoom_NoRoom (by assumption) | exact K64.Txt.x_NoNumber_NoNumber (by assumption) | exact K64.Txt.x_NoNumber_NoRoom (by assumption) | exact K64.Txt.x_Wrong_NoNumber (by assumption) | exact K64.Txt.x_Wrong_NoRoom (by assumption))
local macro_rules | `(tactic| walk_at "hk") => `(tactic| first | fail)

local macro_rules | `(tactic| walk_at "kr") => `(tactic| first | (guard_target =~ KW.uGet _ _ _ _ _; refine ST.get_p (by assumption) (by rfl) (by walk_at "hc") (by decide) (by rfl) ?_) | (guard_target =~ KW.uMet.uMt _ _ _ _ _ _ _ _ _; refine ST.met_p (by assumption) (by rfl) (by decide) ?_))
section
variable {P : Program} {w : World} {K : Frag} {mg : Str → Option Value} {base : Heap} {a : Ads}
theorem ok__law_long (T : Txt P w K mg a) : Cal P w K mg base 5 "_law_long" spLong := by
  have C__law_is := ok__law_is (P := P) (w := w) (base := base) T
  have C__law_same := ok__law_same (P := P) (w := w) (base := base) T
  have C__law_path_is := ok__law_path_is (P := P) (w := w) (base := base) T
  have C_paths := ok_paths (P := P) (w := w) (base := base) T
  have C_word_at := ok_word_at (P := P) (w := w) (base := base) T
  have C_garbage := ok_garbage (P := P) (w := w) (base := base) T
  have I_Space := ok_Space_init (P := P) (w := w) (base := base) T
  have M_Space_new := ok_Space_new (P := P) (w := w) (base := base) T
  have M_Store_put := ok_Store_put (P := P) (w := w) (base := base) T
  have M_Space_set_root := ok_Space_set_root (P := P) (w := w) (base := base) T
  refine T.d__law_long.ok sc__law_long (fun vs H Q E h => ?_) (fun f cdv A outer s H vs Q E hr h => ⟨_, (pss_cons (ps_set (i := 1) sc__law_long.nd rfl (Or.inl rfl) (kmk 0 I_Space (hr.mono (by decide)) (pa_cons pe_int (pa_cons pe_int pa_nil))))
      (pss_cons (ps_set (i := 2) sc__law_long.nd rfl (Or.inl rfl) (pe_op o_add pe_int (pe_op o_mod (pe_callTy c_int (by rfl) T.n_int (by decide +kernel) (pa_cons (kv 0) pa_nil)) pe_int)))
      (pss_cons (ps_set (i := 3) sc__law_long.nd rfl (Or.inl rfl) (k_dict1 pe_int (pe_tup (pa_cons pe_int pa_nil))))
      (pss_cons (ps_set (i := 4) sc__law_long.nd rfl (Or.inl rfl) (pe_tup (pa_cons pe_int pa_nil)))
      (pss_cons (k_for (passes_of rfl) rfl (pi_range1 (by rfl) T.n_range (pa_cons (kv 2) pa_nil)) (pg_name (i := 5) sc__law_long.nd rfl (Or.inl rfl))
      (pss_cons (ps_set (i := 6) sc__law_long.nd rfl (Or.inl rfl) (pe_op o_add pe_int (pe_op o_mod (pe_callTy c_int (by rfl) T.n_int (by decide +kernel) (pa_cons (pe_op o_fdiv (kv 0) (pe_op o_add (kv 5) pe_int)) pa_nil)) pe_int)))
      (pss_cons (ps_set (i := 7) sc__law_long.nd rfl (Or.inl rfl) (pe_op o_mod (pe_callTy c_int (by rfl) T.n_int (by decide +kernel) (pa_cons (pe_op o_fdiv (kv 0) (pe_op o_add (kv 5) pe_int)) pa_nil)) (kv 6)))
      (pss_cons (ps_if (pt_not (kt (kc C__law_is (hr.mono (by decide)) (pa_cons (km M_Space_new (hr.mono (by decide)) (kv 1) (pa_cons pe_int (pa_cons (kv 6) pa_nil))) (pa_cons (kv 5) pa_nil)))))
      (pss_one (ps_ret pe_bl))
      pss_nil)
      (pss_one (ps_if (pt_cmpR o_gt (kv 5) pe_int (nomark _))
      (pss_cons (k_dput (hu_of hr) (kv 3) (kv 5) (kv 4))
      (pss_cons (ps_set (i := 4) sc__law_long.nd rfl (Or.inl rfl) (pe_op o_add (kv 4) (pe_tup (pa_cons (pe_op o_add (kv 7) pe_int) pa_nil))))
      (pss_one (ps_if (pt_cmpR o_lt (pe_op o_add (kv 5) pe_int) (kv 2) (nomark _))
      (pss_one (ps_expr (km M_Store_put (hr.mono (by decide)) (k_fld (kv 1) rfl) (pa_cons (kv 5) (pa_cons (kv 7) (pa_cons (pe_op o_add (pe_op o_mul2 pe_int (kv 5)) pe_int) pa_nil))))))
      pss_nil))))
      pss_nil))))))
      (pss_cons (ps_expr (km M_Space_set_root (hr.mono (by decide)) (kv 1) (pa_cons pe_int (pa_cons pe_int pa_nil))))
      (pss_cons (ps_set (i := 8) sc__law_long.nd rfl (Or.inl rfl) (kc C_paths (hr.mono (by decide)) (pa_cons (kv 1) pa_nil)))
      (pss_cons (ps_if (PW.pt (pw_or (pt_not (kt (pe_callB c_isi (by rfl) T.n_isinstance (by decide +kernel) (pa_cons (kv 8) (pa_cons (pe_bltn (v := .ty "dict") (by rfl) T.n_dict (by decide +kernel) rfl) pa_nil))))) (pw_or1 (pt_not (kt (kc C__law_same (hr.mono (by decide)) (pa_cons (pe_callB (c_sorted rfl) (by rfl) T.n_sorted (by decide +kernel) (pa_cons (kv 8) pa_nil)) (pa_cons (pe_listRg rfl (by rfl) T.n_list (prg_1 (by rfl) T.n_range (kv 2))) pa_nil))))))))
      (pss_one (ps_ret pe_bl))
      pss_nil)
      (pss_cons (ps_lock (k_for (passes_of rfl) rfl (pi_keys (kv 3)) (pg_name (i := 9) sc__law_long.nd rfl (Or.inl rfl))
      (pss_one (ps_if (pt_not (kt (kc C__law_path_is (hr.mono (by decide)) (pa_cons (k_dget (hu_of hr) (kv 8) (kv 9)) (pa_cons (k_dgetF (hu_of hr) (kv 3) (kv 9)) pa_nil)))))
      (pss_one (ps_ret pe_bl))
      pss_nil))))
      (pss_one (ps_ret (pe_and (kc C__law_is (hr.mono (by decide)) (pa_cons (kc C_word_at (hr.mono (by decide)) (pa_cons (kv 1) (pa_cons (k_dget (hu_of hr) (kv 3) (pe_op o_sub (kv 2) pe_int)) pa_nil))) (pa_cons (pe_op o_sub (pe_op o_mul2 pe_int (kv 2)) pe_int) pa_nil))) (pe_one (kc C__law_same (hr.mono (by decide)) (pa_cons (kc C_garbage (hr.mono (by decide)) (pa_cons (kv 1) pa_nil)) (pa_cons (pe_lst pa_nil) pa_nil)))))))))))))))), ?_⟩)
  · obtain ⟨_, rfl, _⟩ := h; rfl
  · obtain ⟨x, rfl, x0, h⟩ := h
    walk_at "kk"
    intro sp dx hs hd hne
    refine ⟨sp, dx, rfl, upd_same, fun d H1 e1 _ _ e4 e5 e6 Z f1 hf => ⟨rfl, ?_⟩⟩
    have F1 : KW.Fr [] H H1 := Fr.frs ((Fr.new (o := .own sp) hd).trans (Fr.new (by rw [upd_ne (Ne.symm hne)]; exact hs))) f1 (by simp; exact hs)
    have P1 : ∀ x ∈ fpP d, H x = none := fun x hx => by
      by_cases c : x = sp
      · rw [c]; exact hs
      · have := hf x hx c
        rw [upd_ne c] at this
        exact ne_un this
    clear f1 hf
    subst e1
    obtain ⟨m, hm⟩ : ∃ m : Nat, 2 + x % 200 = m := ⟨(2 + x % 200).toNat, by omega⟩
    have m2 : 2 ≤ m := by omega
    have m3 : m ≤ 201 := by omega
    rw [hm]
    intro dl hdl
    refine ⟨by decide, fun t0 ht0 => ⟨by rw [upd_ne (ne_ud ht0).symm]; exact upd_same, by decide, fun t8 ht8 => ⟨by omega, by omega, ?_⟩⟩⟩
    rw [Int.toNat_natCast]
    have nd0 : t0 ≠ dl := ne_ud ht0
    have f2 : KW.Fr [] H1 (upd (upd (upd H1 dl (.dK [])) t0 (.tup [.int 0])) dl (.dK [(.inl 0, .ref t0)])) := Fr.atN ((Fr.new hdl).trans (Fr.new ht0)) hdl
    have D2 : Fd (upd (upd (upd H1 dl (.dK [])) t0 (.tup [.int 0])) dl (.dK [(.inl 0, .ref t0)])) dl [⟨0, [0], t0⟩] := ⟨upd_same, fun d hd => by simp at hd; subst hd; dsimp only; rw [upd_ne nd0, upd_same]; rfl, by simp⟩
    revert f2 D2 ht8
    generalize upd (upd (upd H1 dl (.dK [])) t0 (.tup [.int 0])) dl (.dK [(.inl 0, .ref t0)]) = H2
    intro ht8 f2 D2
    have f3 : KW.Fr [] H2 (upd H2 t8 (.tup [.int 8])) := Fr.new ht8
    have D3 := D2.fr0 f3
    have p3 : upd H2 t8 (.tup [.int 8]) t8 = some (.tup ([8].map V.int)) := upd_same
    have F3 := F1.trans (f2.trans f3)
    have Z3 := Z.fr0 (f2.trans f3)
    have ndl := notin_of hdl Z.there
    have N_dl : H dl = none := F1.none (by simp) hdl
    revert D3 p3 F3 Z3
    generalize upd H2 t8 (.tup [.int 8]) = H3
    intro D3 p3 F3 Z3
    clear f3 f2 D2 ht8 ht0 nd0 Z F1
    obtain ⟨s, hs_⟩ : ∃ s : Nat → Nat, s = fun (k : Nat) => (1 + x / ((k : Int) + 7) % 3).toNat := ⟨_, rfl⟩
    obtain ⟨a_, ha_⟩ : ∃ a_ : Nat → Nat, a_ = fun (k : Nat) => (x / ((k : Int) + 11) % (1 + x / ((k : Int) + 7) % 3)).toNat := ⟨_, rfl⟩
    have es : ∀ k : Nat, 1 + x / ((k : Int) + 7) % 3 = (s k : Int) := fun k => by rw [hs_]; dsimp only; omega
    have sb : ∀ k : Nat, s k ≤ 3 := fun k => by have := es k; omega
    have sp1 : ∀ k : Nat, 1 ≤ s k := fun k => by have := es k; omega
    have ea : ∀ k : Nat, x / ((k : Int) + 11) % (s k : Int) = (a_ k : Int) := fun k => by
      rw [ha_]; dsimp only; rw [es k]
      have := Int.emod_nonneg (x / ((k : Int) + 11)) (show (s k : Int) ≠ 0 by have := sp1 k; omega)
      omega
    have al : ∀ k : Nat, a_ k < s k := fun k => by
      have := Int.emod_lt_of_pos (x / ((k : Int) + 11)) (show 0 < (s k : Int) by have := sp1 k; omega)
      rw [ea k] at this; omega
    obtain ⟨QL, hQL⟩ : ∃ QL : Nat → L2.St → Hp → Prop, QL = fun i σ H' => ∃ (d' : Spd) (D : List RW) (pa : Addr) (v5 v6 v7 : Option V), σ = [some (.int x), some (.ref d'.sp), some (.int m), some (.ref dl), some (.ref pa), v5, v6, v7, none, none] ∧ Spc a.Space a.Store H' d' ∧ d'.R = d.R ∧ d'.L = d.L ∧ (∀ x ∈ fpP d', H x = none) ∧ KW.Fr [] H H' ∧ Cl s a_ m d'.B i ∧ Fd H' dl D ∧ nrR D = dueC a_ (i - 1) ∧ H' pa = some (.tup ((pathC a_ (i - 1)).map V.int)) ∧ dl ∉ fpP d' := ⟨_, rfl⟩
    refine for_rng QL (by rw [hQL]; exact ⟨d, _, t8, _, _, _, rfl, Z3, rfl, rfl, P1, F3, by rw [e4]; exact Cl.nil _ _ _, D3, rfl, p3, ndl⟩) ?_ ?_
    · intro i σ H4 hi hp
      rw [hQL] at hp
      obtain ⟨d2, D, pa, v5, v6, v7, rfl, Z4, eR, eL, P2, F4, C4, D4, eD, p4, nd4⟩ := hp
      have e7 := es i
      have e11 := ea i
      have a7 := al i
      have s7 := sb i
      walk_at "kk"
      rw [e7, e11]
      have bf := C4.flat sb
      have lenB := C4.len
      refine new_s (n := s i) Z4 (by omega) fun f0 H5 fr Z5 f5 => ?_
      obtain rfl : f0 = (i : Int) := fr.uniq C4.free
      have sub : ∀ x ∈ [d2.sp, d2.st, d2.wd, d2.pl], x ∈ fpP d2 := fun x hx => by simp at hx ⊢; rcases hx with rfl | rfl | rfl | rfl <;> simp
      have F5 := Fr.frs F4 f5 fun x hx => P2 x (sub x hx)
      have D5 := D4.fr f5 (fun m => nd4 (sub _ m)) (fun a xs q m => Z4.nt q (sub _ m))
      have p5 := f5 _ _ (fun m => Z4.nt p4 (sub _ m)) p4
      refine is_s ?_
      rw [decide_eq_true rfl]
      walk_at "kk"
      by_cases i0 : i = 0
      · subst i0
        rw [if_neg (by omega)]
        rw [hQL]
        exact ⟨{ d2 with al := d2.al + 1, B := d2.B ++ [⟨(0 : Nat), 1, List.replicate (s 0) 0, true⟩] }, D, pa, _, _, _, rfl, Z5, eR, eL, P2, F5, C4.app ⟨rfl, rfl, rfl, by unfold vC; rw [if_neg (by omega), rep0]⟩, D5, eD, p5, nd4⟩
      · rw [if_pos (by omega)]
        have ni : (i : Int) ∉ nsR D := by rw [← keysF_nr, eD, dueC_keys]; omega
        have lD : D.length ≤ 300 := by
          have := congrArg List.length eD
          unfold dueC at this
          rw [List.length_map, List.length_cons, List.length_map, List.length_range] at this
          omega
        refine dput_i D5.dc (lt_line (by rw [kvR_len]; omega)) ?_
        have D6 := D5.putP p5 ni
        have npd : pa ≠ dl := fun z => by have := D5.dc; rw [← z, p5] at this; cases this
        have p6 : upd H5 dl (.dK (putK (kvR D) (.inl (i : Int)) (.ref pa))) pa = some (.tup ((pathC a_ (i - 1)).map V.int)) := by rw [upd_ne npd]; exact p5
        have Z6 := Z5.fr (l := [dl]) (Fr.upd (a := dl) (o := .dK (putK (kvR D) (.inl (i : Int)) (.ref pa))) (by simp)) (fun x hx m => by simp only [List.mem_singleton] at m; subst m; exact nd4 hx)
        have F6 : KW.Fr [] H (upd H5 dl (.dK (putK (kvR D) (.inl (i : Int)) (.ref pa)))) := Fr.atN F5 N_dl
        revert D6 p6 Z6 F6
        generalize upd H5 dl (.dK (putK (kvR D) (.inl (i : Int)) (.ref pa))) = H6
        intro D6 p6 Z6 F6
        refine ⟨by decide, fun t1 ht1 => ?_⟩
        have f7 : KW.Fr [] H6 (upd H6 t1 (.tup [.int ((a_ i : Int) + 1)])) := Fr.new ht1
        have q7 : upd H6 t1 (.tup [.int ((a_ i : Int) + 1)]) t1 = some (.tup [.int ((a_ i : Int) + 1)]) := upd_same
        have p7 := f7 _ _ (by simp) p6
        have D7 := D6.fr0 f7
        have Z7 := Z6.fr0 f7
        have F7 := F6.trans f7
        revert q7 p7 D7 Z7 F7
        generalize upd H6 t1 (.tup [.int ((a_ i : Int) + 1)]) = H7
        intro q7 p7 D7 Z7 F7
        refine ucat_t p7 q7 (by intro z; have h0 := congrArg List.length z; rw [List.length_map, pathC_len] at h0; exact absurd h0 (by simp)) (by simp) (le_line (by simp only [List.length_map, List.length_cons, List.length_nil, pathC_len]; omega)) fun t2 ht2 => ?_
        have f8 : KW.Fr [] H7 (upd H7 t2 (.tup ((pathC a_ (i - 1)).map V.int ++ [.int ((a_ i : Int) + 1)]))) := Fr.new ht2
        have p8 : upd H7 t2 (.tup ((pathC a_ (i - 1)).map V.int ++ [.int ((a_ i : Int) + 1)])) t2 = some (.tup ((pathC a_ (i + 1 - 1)).map V.int)) := by
          rw [upd_same]
          obtain ⟨j, rfl⟩ : ∃ j, i = j + 1 := ⟨i - 1, by omega⟩
          show _ = some (HO.tup ((pathC a_ j ++ [(a_ (j + 1) : Int) + 1]).map V.int))
          rw [List.map_append]; rfl
        have D8 := D7.fr0 f8
        have Z8 := Z7.fr0 f8
        have F8 := F7.trans f8
        revert p8 D8 Z8 F8
        generalize upd H7 t2 (.tup ((pathC a_ (i - 1)).map V.int ++ [.int ((a_ i : Int) + 1)])) = H8
        intro p8 D8 Z8 F8
        have eD8 : nrR (D ++ [⟨(i : Int), pathC a_ (i - 1), pa⟩]) = dueC a_ (i + 1 - 1) := by
          obtain ⟨j, rfl⟩ : ∃ j, i = j + 1 := ⟨i - 1, by omega⟩
          show _ = dueC a_ (j + 1)
          rw [dueC_succ]
          unfold nrR at eD ⊢
          rw [List.map_append, eD]; rfl
        by_cases im : i + 1 < m
        · rw [if_pos (by omega)]
          obtain ⟨⟨dxs, los, obs, _⟩, _⟩ := Z8.S
          walk_at "kk"
          have he : (d2.B ++ [(⟨(i : Int), 1, List.replicate (s i) 0, true⟩ : Blk)])[i]? = some ⟨(i : Int), 1, List.replicate (s i) 0, true⟩ := by
            rw [List.getElem?_append_right (by omega), lenB, Nat.sub_self]; rfl
          have C9 := C4.app (e := ⟨(i : Int), 1, (List.replicate (s i) 0).set (a_ i) (2 * (i : Int) + 2), true⟩) ⟨rfl, rfl, rfl, by unfold vC; rw [if_pos ⟨by omega, im⟩]⟩
          have eB : (d2.B ++ [(⟨(i : Int), 1, List.replicate (s i) 0, true⟩ : Blk)]).set i ⟨(i : Int), 1, (List.replicate (s i) 0).set (a_ i) (2 * (i : Int) + 2), true⟩ = d2.B ++ [⟨(i : Int), 1, (List.replicate (s i) 0).set (a_ i) (2 * (i : Int) + 2), true⟩] := by
            rw [List.set_append_right _ _ (by omega), lenB, Nat.sub_self]; rfl
          have S8 : Sto a.Store H8 d2.st d2.wd d2.pl 100000 100000 (d2.B ++ [⟨(i : Int), 1, List.replicate (s i) 0, true⟩]) := Z8.S
          refine put_s S8 he rfl rfl (by dsimp only; rw [List.length_replicate]; exact a7) fun H9 S9 f9 => ?_
          dsimp only at S9
          rw [eB] at S9
          have bf9 := C9.flat sb
          have Z9 := Z8.word S9 f9 (by omega)
          have sub9 : ∀ x ∈ [d2.wd], x ∈ fpP d2 := fun x hx => by simp at hx ⊢; simp [hx]
          have D9 := D8.fr f9 (fun m => nd4 (sub9 _ m)) (fun a xs q m => Z8.nt q (sub9 _ m))
          have p9 := f9 _ _ (fun m => Z8.nt p8 (sub9 _ m)) p8
          rw [hQL]
          exact ⟨{ d2 with al := d2.al + 1, B := d2.B ++ [⟨(i : Int), 1, (List.replicate (s i) 0).set (a_ i) (2 * (i : Int) + 2), true⟩] }, _, t2, _, _, _, rfl, Z9, eR, eL, P2, Fr.frs F8 f9 fun x hx => P2 x (sub9 x hx), C9, D9, eD8, p9, nd4⟩
        · rw [if_neg (by omega)]
          rw [hQL]
          exact ⟨{ d2 with al := d2.al + 1, B := d2.B ++ [⟨(i : Int), 1, List.replicate (s i) 0, true⟩] }, _, t2, _, _, _, rfl, Z8, eR, eL, P2, F8, C4.app ⟨rfl, rfl, rfl, by unfold vC; rw [if_neg (by omega), rep0]⟩, D8, eD8, p8, nd4⟩
    · intro σ H4 hp
      rw [hQL] at hp
      obtain ⟨d2, D, pa, v5, v6, v7, rfl, Z4, eR, eL, P2, F4, C4, D4, eD, p4, nd4⟩ := hp
      walk_at "kk"
      refine setRoot_s (k := 7) Z4 (by decide) fun H5 Z5 f5 => ?_
      have F5 := Fr.frs F4 f5 fun x hx => P2 x (by simp at hx ⊢; simp [hx])
      have sub : ∀ x ∈ [d2.ro], x ∈ fpP d2 := fun x hx => by simp at hx ⊢; simp [hx]
      have D5 := D4.fr f5 (fun m => nd4 (sub _ m)) (fun a xs q m => Z4.nt q (sub _ m))
      have L := C4.lg Z4.S.nd m2 al
      have ew : ({ d2 with R := d2.R.set 7 2 } : Spd).ws = wsC := by
        unfold Spd.ws
        show 0 :: (d2.R.set 7 2 ++ d2.L) = _
        rw [eR, eL, e5, e6]
      walk_at "kk"
      refine ⟨{ d2 with R := d2.R.set 7 2 }, rfl, Z5, fun l6 H6 D6 i6 n6 f6 T6 r6 e6 => ?_⟩
      rw [ew] at r6 e6
      have LL := L.last
      have eD6 : nrR D6 = dueC a_ (m - 1) := by rw [e6, run_uniq r6 (by rw [LL]), LL]
      have D6d := D5.fr0 f6
      have F6 := F5.trans f6
      have Z6 := Z5.fr0 f6
      have dc6 := T6.dc
      walk_at "kk"
      have nl6 : l6 ≠ dl := Ne.symm (ne_of_none D5.dc n6)
      obtain ⟨rr, hrr⟩ : ∃ rr : List Int, rr = (List.range m).map fun (i : Nat) => (i : Int) := ⟨_, rfl⟩
      have rs : rr.Pairwise (· ≤ ·) := by
        rw [hrr, List.pairwise_map]
        exact List.pairwise_lt_range.imp fun h => by omega
      have rn : rr.Nodup := by
        rw [hrr]; unfold List.Nodup
        rw [List.pairwise_map]
        exact List.pairwise_lt_range.imp fun h => by omega
      have lrr : rr.length = m := by rw [hrr, List.length_map, List.length_range]
      have rgv : rgV 0 (m : Int) = rr.map V.int := by
        unfold rgV
        rw [hrr, List.map_map, show ((m : Int) - 0).toNat = m by omega]
        apply List.map_congr_left
        intro i _
        simp
      have k6 : ∀ n, n ∈ nsR D6 ↔ n ∈ rr := fun n => by
        rw [← keysF_nr, eD6, dueC_keys, hrr, List.mem_map]
        constructor
        · rintro ⟨h1, h2⟩
          exact ⟨n.toNat, by rw [List.mem_range]; omega, by omega⟩
        · rintro ⟨i, hi, rfl⟩
          rw [List.mem_range] at hi; omega
      have l6l : D6.length ≤ 300 := by
        have := T6.nd.length_le_of_subset (l₂ := rr) fun n hn => (k6 n).mp hn
        rw [List.length_map, lrr] at this; omega
      refine srt_d dc6 (kvR_keys D6) (le_line (by rw [List.length_map]; omega)) fun zs l7 q1 q2 n7 => ?_
      have ez : zs = rr := srt_uniq k6 T6.nd rn q1 (List.Perm.refl _) q2 rs
      subst ez
      have f7 : KW.Fr [] H6 (upd H6 l7 (.lst (zs.map V.int))) := Fr.new n7
      have i7 : IL (upd H6 l7 (.lst (zs.map V.int))) l7 zs := upd_same
      revert f7 i7
      generalize upd H6 l7 (.lst (zs.map V.int)) = H7
      intro f7 i7
      refine ⟨RgOk.of_le (by omega) (by omega) (by omega) (by omega), fun l8 n8 => ?_⟩
      rw [rgv]
      have f8 := f7.trans (Fr.new (o := .lst (zs.map V.int)) n8)
      have i8 := (Fr.new (l := []) (o := .lst (zs.map V.int)) n8) _ _ (by simp) i7
      have j8 : IL (upd H7 l8 (.lst (zs.map V.int))) l8 zs := upd_same
      revert f8 i8 j8
      generalize upd H7 l8 (.lst (zs.map V.int)) = H8
      intro f8 i8 j8
      refine same_s (xs := zs) i8 j8 (by omega) ?_
      have T8 := T6.fr0 f8
      have D8 := D6d.fr0 f8
      have Z8 := Z6.fr0 f8
      have F8 := F6.trans f8
      clear T6 D6d Z6 F6 f8 i8 j8 f7 i7 dc6 n7 n8 Z5 D5 F5 f5 f6 D4 p4 Z4 F4
      walk_at "kk"
      refine ⟨dl, .dK (kvR D), D8.dc, trivial, fun od => ?_⟩
      obtain ⟨Pv, hPv⟩ : ∃ Pv : Nat → L2.St → Hp → Prop, Pv = fun _ σ H' => ∃ v9 : Option V, σ = [some (.int x), some (.ref d2.sp), some (.int m), some (.ref dl), some (.ref pa), v5, v6, v7, some (.ref l6), v9] ∧ H' dl = some (.frz od (.dK (kvR D))) ∧ KW.Fr [dl] H8 H' := ⟨_, rfl⟩
      refine ⟨dl, od, rfl, .inl ⟨kvR D, upd_same, ?_⟩⟩
      refine for_pk (kvR_keys D) Pv ?_ ?_ ?_ ?_
      · rw [hPv]
        exact ⟨_, rfl, upd_same, Fr.upd (by simp)⟩
      · rintro i σ H2 - hp
        rw [hPv] at hp
        obtain ⟨_, _, k2, _⟩ := hp
        exact k2
      · intro i n σ H9 hx hp
        rw [hPv] at hp
        obtain ⟨v9, rfl, k9, f9⟩ := hp
        obtain ⟨dd, hdi, rfl⟩ := nsR_i hx
        have hdd := List.mem_of_getElem? hdi
        have hv := val_at D8.nd hdd
        have eN : nrR D6 = nrR D := eD6.trans eD.symm
        obtain ⟨d6, hd6, e6n, e6r⟩ : ∃ d6 ∈ D6, d6.n = dd.n ∧ d6.r = dd.r := by
          have : (dd.n, dd.r) ∈ nrR D6 := by rw [eN]; exact List.mem_map.mpr ⟨dd, hdd, rfl⟩
          obtain ⟨y, hy, e⟩ := List.mem_map.mp this
          exact ⟨y, hy, congrArg Prod.fst e, congrArg Prod.snd e⟩
        have hv6 : valV (kvR D6) (.inl dd.n) = some (.ref d6.a) := by rw [← e6n]; exact val_at T8.nd hd6
        have nt : ∀ {b : Addr} {xs : List V}, H8 b = some (.tup xs) → H9 b = some (.tup xs) := fun h1 => f9 _ _ (by simp; intro z; rw [z, D8.dc] at h1; cases h1) h1
        have t6 := nt (T8.tp d6 hd6)
        have tD := nt (D8.tp dd hdd)
        rw [e6r] at t6
        have c9 : H9 l6 = some (.dK (kvR D6)) := f9 _ _ (by simpa using nl6) T8.dc
        walk_at "kk"
        have lr : dd.r.length ≤ 300 := by
          have : (dd.n, dd.r) ∈ dueC a_ (m - 1) := by rw [← eD]; exact List.mem_map.mpr ⟨dd, hdd, rfl⟩
          unfold dueC at this
          rcases List.mem_cons.mp this with q | q
          · have e2 : dd.r = [0] := congrArg Prod.snd q
            rw [e2]; simp
          · obtain ⟨j, hj, e⟩ := List.mem_map.mp q
            have e2 : pathC a_ j = dd.r := congrArg Prod.snd e
            rw [List.mem_range] at hj
            rw [← e2, pathC_len]; omega
        refine ⟨_, _, k9, _, hv, d6.a, dd.a, dd.r, rfl, t6, tD, by omega, ?_⟩
        walk_at "kk"
        rw [hPv]
        exact ⟨_, rfl, k9, f9⟩
      · intro σ H9 hp
        rw [hPv] at hp
        obtain ⟨v9, rfl, k9, f9⟩ := hp
        refine ⟨k9, ?_⟩
        have f10 : KW.Fr [] H8 (upd H9 dl (.dK (kvR D))) := Fr.unl D8.dc f9
        revert f10
        generalize upd H9 dl (.dK (kvR D)) = H10
        intro f10
        have D10 := D8.fr0 f10
        have Z10 := Z8.fr0 f10
        have F10 := F8.trans f10
        have dc10 := D10.dc
        obtain ⟨j, hj⟩ : ∃ j, m = j + 2 := ⟨m - 2, by omega⟩
        have inn : (((m : Int) - 1), pathC a_ j) ∈ nrR D := by
          rw [eD]
          unfold dueC
          refine List.mem_cons_of_mem _ (List.mem_map.mpr ⟨j, by rw [List.mem_range]; omega, ?_⟩)
          rw [show ((j + 1 : Nat) : Int) = (m : Int) - 1 by omega]
        obtain ⟨dd, hdd, edd⟩ := List.mem_map.mp inn
        have en : dd.n = (m : Int) - 1 := congrArg Prod.fst edd
        have er : dd.r = pathC a_ j := congrArg Prod.snd edd
        have hv := val_at D10.nd hdd
        rw [en] at hv
        have tp := D10.tp dd hdd
        rw [er] at tp
        walk_at "kk"
        refine ⟨{ d2 with R := d2.R.set 7 2 }, dd.a, pathC a_ j, rfl, Z10, tp, by rw [pathC_len]; omega, fun H11 f11 => ?_⟩
        rw [ew, L.wa j (by omega)]
        simp only [optV]
        walk_at "kk"
        refine is_s ?_
        refine ⟨_, rfl, ?_⟩
        rw [if_pos (by rw [decide_eq_true_eq]; omega)]
        have Z11 := Z10.fr0 f11
        refine garbage_s Z11 fun l12 H12 gs n12 f12 i12 _ _ m12 => ⟨by decide, fun p hp => ?_⟩
        have eg : gs = [] := by
          cases gs with
          | nil => rfl
          | cons z gs =>
            have q := (m12 z).mp (by simp)
            rw [ew] at q
            dsimp only at q
            have r1 := run_keys (g := gB d2.B) (R := wsC) (k := m) (by rw [LL]) z
            rw [LL] at r1
            dsimp only at r1
            rw [dueC_keys] at r1
            rw [C4.lv, decide_eq_true_eq] at q
            exact absurd (r1.mp (by omega)) q.2
        subst eg
        have i13 := (Fr.new (l := []) (o := .lst []) hp) _ _ (by simp) i12
        refine same_s (xs := []) i13 upd_same (by simp) ?_
        exact h _ (F10.trans (f11.trans (f12.trans (Fr.new hp))))
end
end K64

set_option Elab.async false
set_option linter.all false
set_option maxRecDepth 100000
set_option maxHeartbeats 4000000
namespace K64
open PySem PySem.Spec PyProof.Rows L2 KW ST LamX
local macro_rules | `(tactic| walk_at "kw") => `(tactic| simp only [tSeq, tNext, tIfS, tTest, tAnd, tOr, tNot, tAndV, tOrV, tNotV, tIf, tChain, tOp, tUn, tC, tAsg, gName, gSub, gCons, gNil, tRet, tRetN, tDrop, tCons, tNil, tCB, tAug, tSl, tPart, tNoPart, tLst, tTup, tBM, tBM0, uTest, uFor, iRng1, iRng2, iList, uCall, List.map_cons, List.map_nil, List.length_cons, List.length_nil, List.cons_append, List.nil_append, List.replicate, Nat.zero_add, Nat.reduceAdd, Nat.reduceSub, List.getElem?_cons_zero, List.getElem?_cons_succ, List.set_cons_zero, List.set_cons_succ, V.bl.injEq, V.int.injEq, V.str.injEq, V.ref.injEq, V.ty.injEq, List.cons.injEq, and_true, true_and, exists_eq_left', exists_eq_right, exists_eq_left, exists_and_left, exists_and_right, decide_eq_true_eq, Bool.not_eq_true', decide_eq_false_iff_not, Bool.false_eq_true, if_true, if_false, ite_true, ite_false, Bool.not_true, Bool.not_false, reduceCtorEq, decide_true, decide_false, Bool.not_not, isK_int_int, isK_int_bool, isK_int_str, isK_int_list, isK_int_tuple, isK_bool_int, isK_bool_bool, isK_bool_str, isK_str_str, isK_str_int, isK_str_bool, isK_str_tuple, isK_str_list, isK_list_list, isK_list_tuple, isK_tuple_tuple, isK_tuple_list, isOk_int_int, isOk_int_bool, isOk_int_str, isOk_int_list, isOk_int_tuple, isOk_bool_int, isOk_bool_bool, isOk_bool_str, isOk_str_str, isOk_str_int, isOk_str_bool, isOk_str_tuple, isOk_str_list, isOk_list_list, isOk_list_tuple, isOk_tuple_tuple, isOk_tuple_list, isK_dict_dict, isOk_dict_dict, isK_none_int, isK_none_bool, isOk_none_int, isOk_none_bool, tyV, S_inj, S_cat, L2.start, Nat.reduceSub, List.replicate_succ, List.replicate_zero, and_assoc, List.append_nil, Nat.reduceEqDiff, Option.some.injEq, Int.natCast_inj, upd_upd, Int.reducePow, Int.reduceToNat, Int.reduceMul, Int.reduceAdd, Int.reduceSub, Int.reduceLT, Int.reduceLE, Int.reduceNeg, Int.reduceDiv, Int.reduceMod, Nat.reducePow, Nat.reduceMul, S_len, List.length_append, List.length_map, List.length_range, not_true_eq_false, not_false_eq_true, ne_eq, uAdd_e1, uAdd_e2, uSub_e1, uMod_e1, uDiv_e1, uPow_e1, uShl_e1, uNeg_e1, uIAdd_e1, uIAdd_e2, uIAdd_e3, uISub_e1, uLt_e1, uLt_e2, uLe_e1, uGt_e1, uGe_e1, uEq_e1, uEq_e2, uEq_e3, uEq_e4, uEq_e5, uEq_e6, uEq_e7, uEq_e8, uEq_e9, uEq_e10, uEq_e11, uNe_e1, uNe_e2, uNe_e3, uNe_e4, uNe_e5, uNe_e6, uNe_e7, uNe_e8, uNe_e9, uNe_e10, uNe_e11, uIs_e1, uIs_e2, uIs_e3, uIs_e4, uIs_e5, uIs_e6, uIs_e7, uNotIs_e1, uNotIs_e2, uNotIs_e3, uNotIs_e4, uNotIs_e5, uNotIs_e6, uIn_e1, uIn_e2, uIn_e3, uIn_e4, uNotIn_e1, uNotIn_e2, uNotIn_e3, uNotIn_e4, uTru_e1, uTru_e2, uTru_e3, uTru_e4, uIx_e2, uSl_e2, uLen_e1, uAbs_e1, uInt_e1, uInt_e2, uMin2_e1, uIsi_e1, uIsi_e2, uIsi_e3, uIsi_e4, cx_K, uVar_0, uVar_n, uFld, uSFld, uMet, uMake, tDG, tDI, tDNI, tDP, tDD, uMk, uRaise, uDelSl, tCallS, L2.WE, uStr_e1, uStr_e2, uMul2_e1, uMul2_e2, okS_i, okS_s, List.zip_cons_cons, List.zip_nil_left, List.drop_zero, List.drop_succ_cons, List.drop_nil, putF_nil, putF_cons, eq_self, tDNewK, tB, Option.isSome_some, Option.isSome_none, false_and, false_or, or_false, exists_false, Int.zero_add, uLc, wipe, tYes, isEmpty_app, List.isEmpty_cons, List.isEmpty_nil, List.isEmpty_map, Bool.and_false, Bool.and_true, iRev, K64.lit_0, K64.fe_room_entries, K64.fe_room_words, K64.fe_room__places, K64.fe_room__least, K64.fe_entries_room, K64.fe_entries_words, K64.fe_entries__places, K64.fe_entries__least, K64.fe_words_room, K64.fe_words_entries, K64.fe_words__places, K64.fe_words__least, K64.fe__places_room, K64.fe__places_entries, K64.fe__places_words, K64.fe__places__least, K64.fe__least_room, K64.fe__least_entries, K64.fe__least_words, K64.fe__least__places, K64.fe_store_pressure, K64.fe_store_always, K64.fe_store_allocations, K64.fe_store_collections, K64.fe_store__roots, K64.fe_store__held, K64.fe_store__saved, K64.fe_pressure_store, K64.fe_pressure_always, K64.fe_pressure_allocations, K64.fe_pressure_collections, K64.fe_pressure__roots, K64.fe_pressure__held, K64.fe_pressure__saved, K64.fe_always_store, K64.fe_always_pressure, K64.fe_always_allocations, K64.fe_always_collections, K64.fe_always__roots, K64.fe_always__held, K64.fe_always__saved, K64.fe_allocations_store, K64.fe_allocations_pressure, K64.fe_allocations_always, K64.fe_allocations_collections, K64.fe_allocations__roots, K64.fe_allocations__held, K64.fe_allocations__saved, K64.fe_collections_store, K64.fe_collections_pressure, K64.fe_collections_always, K64.fe_collections_allocations, K64.fe_collections__roots, K64.fe_collections__held, K64.fe_collections__saved, K64.fe__roots_store, K64.fe__roots_pressure, K64.fe__roots_always, K64.fe__roots_allocations, K64.fe__roots_collections, K64.fe__roots__held, K64.fe__roots__saved, K64.fe__held_store, K64.fe__held_pressure, K64.fe__held_always, K64.fe__held_allocations, K64.fe__held_collections, K64.fe__held__roots, K64.fe__held__saved, K64.fe__saved_store, K64.fe__saved_pressure, K64.fe__saved_always, K64.fe__saved_allocations, K64.fe__saved_collections, K64.fe__saved__roots, K64.fe__saved__held, tDGF_eq, uDGetF_e1, tLstRg, tRg1, uDict1, uD1_e1, K64.N_is_ref, K64.N_ref_of, K64.N_reached, K64.N_collect, K64.N_object_of, K64.N_row_of, K64.N_word_at, K64.N_paths, K64.N_garbage, K64.N_Store_init, K64.N_Store_exists, K64.N_Store_numbers, K64.N_Store_free_number, K64.N_Store_allocate, K64.N_Store_size, K64.N_Store_kind, K64.N_Store_get, K64.N_Store_put, K64.N_Store_slots, K64.N_Store_drop, K64.N_Store_close_up, K64.N_Space_init, K64.N_Space_root, K64.N_Space_set_root, K64.N_Space_hold, K64.N_Space_drop, K64.N_Space_held, K64.N_Space_all_roots, K64.N_Space_collect, K64.N_Space_collect_with, K64.N_Space_new, K64.N_Space_fitted, K64.N__law_number, K64.N__law_word, K64.N__law_is, K64.N__law_same, K64.N__law_sizes, K64.N__law_rows, K64.N__law_roots, K64.N__law_space, K64.N__law_walk, K64.N__law_extended, K64.N__law_best, K64.N__law_path_is, K64.N__law_told, K64.N__law_drawn, K64.N__law_kept, K64.N__law_long, K64.N_law, sp_is_ref, sp_ref_of])
local macro_rules | `(tactic| walk_at "nn") => `(tactic| first | assumption | exact ne_un (by assumption) | exact ne_un (ne_un (by assumption)) | exact ne_un (ne_un (ne_un (by assumption))) | exact ne_un (ne_un (ne_un (ne_un (by assumption)))))
local macro_rules | `(tactic| walk_at "ne") => `(tactic| first | assumption | (apply Ne.symm; assumption) | exact ne_ud (by assumption) | exact Ne.symm (ne_ud (by assumption)) | exact ne_ud (ne_un (by assumption)) | exact Ne.symm (ne_ud (ne_un (by assumption))) | exact ne_ud (ne_un (ne_un (by assumption))) | exact Ne.symm (ne_ud (ne_un (ne_un (by assumption)))) | exact ne_m (by assumption) (by assumption) | exact Ne.symm (ne_m (by assumption) (by assumption)) | exact ne_n (by assumption) (by walk_at "nn") | exact Ne.symm (ne_n (by assumption) (by walk_at "nn")))
local macro_rules | `(tactic| walk_at "hp") => `(tactic| first | assumption | exact upd_same | (refine Eq.trans (upd_ne ?_) ?_; (focus walk_at "ne"); walk_at "hp"))
local macro_rules | `(tactic| walk_at "sc") => `(tactic| first | (with_reducible assumption) | omega | exact le_line (by (try simp only [List.length_map, List.length_append, List.length_cons, List.length_nil, S_len]); omega) | exact div_s (by omega) | exact mul_r (by omega) | exact mul_l (by omega) | exact pow_s (by omega) | exact mul2_r (by omega) | exact mul2_l (by omega) | exact small4300 (by omega) | exact lt_line (by (try simp only [List.length_map, List.length_append, List.length_cons, List.length_nil, S_len]); omega) | exact ⟨_, by assumption⟩ | (guard_target =~ Exists _; exact ⟨_, .of (by walk_at "hp")⟩) | (guard_target =~ _ ∨ _; exact .inl ⟨_, by assumption⟩) | (guard_target =~ _ ∨ _; exact .inl ⟨_, .of (by walk_at "hp")⟩) | (guard_target =~ _ ∨ _; exact .inr (.inr (.inl ⟨rfl, .inl ⟨_, by walk_at "hp"⟩⟩))) | decide)
local macro_rules | `(tactic| walk_at "kr") => `(tactic| first | (guard_target =~ _ ∧ _; first | refine And.intro (by walk_at "sc") ?_) | (guard_target =~ KW.uIx _ _ _ _ _; first | refine ix_l (by walk_at "hp") (by first | walk_at "hv" | rfl) ?_ | refine ix_t (by walk_at "hp") (by first | walk_at "hv" | rfl) ?_ | refine ix_sl (by assumption) (by walk_at "hv") ?_) | (guard_target =~ KW.uLen _ _ _ _; first | refine len_l (by walk_at "hp") ?_ | refine len_t (by walk_at "hp") ?_ | refine len_sl (by assumption) ?_) | (guard_target =~ KW.uSet _ _ _ _ _; first | refine set_l (by walk_at "hp") (by first | walk_at "hv" | rfl) ?_) | (guard_target =~ L2.gTup _ _ _ _ _ _ _; first | refine tup_l (by walk_at "hp") (by rfl) ?_) | (guard_target =~ KW.uGet _ _ _ _ _; first | refine get_l (by walk_at "hp") (by walk_at "hc") (by decide) (by rfl) ?_) | (guard_target =~ KW.uPut _ _ _ _ _ _; first | refine put_l (by walk_at "hp") (by walk_at "hc") (by decide) (by simp) ?_) | (guard_target =~ KW.uMet.uMt _ _ _ _ _ _ _ _ _; first | refine met_l (by walk_at "hp") (by rfl) ?_) | (guard_target =~ KW.uMet.uMt _ _ _ _ _ _ _ _ _; first | refine ST.met_s (by assumption) (by decide) ?_) | (guard_target =~ ST.spExists _ _ _ _ _; first | refine ST.exists_s (by assumption) ?_) | (guard_target =~ ST.spUsed _ _ _ _ _; first | refine ST.used_s (by assumption) ?_) | (guard_target =~ KW.uGet _ _ _ _ _; first | refine ST.words_s (by assumption) (by walk_at "hc") (by decide) ?_) | (guard_target =~ KW.uDIn _ _ _ _; first | refine din_i (by walk_at "hp") ?_ | refine din_s (by walk_at "hp") ?_) | (guard_target =~ KW.uDGet _ _ _ _; first | refine dget_i (by walk_at "hp") (by walk_at "hv") ?_ | refine dget_s (by walk_at "hp") (by walk_at "hv") ?_) | (guard_target =~ KW.uDPut _ _ _ _ _; first | refine dput_i (by walk_at "hp") (by walk_at "sc") ?_ | refine dput_s (by walk_at "hp") (by walk_at "sc") ?_) | (guard_target =~ KW.uDDel _ _ _ _; first | refine ddel_i (by walk_at "hp") (by walk_at "hv") ?_ | refine ddel_s (by walk_at "hp") (by walk_at "hv") ?_) | (guard_target =~ KW.uMul2 _ _ _ _; first | refine rep_l (by walk_at "hp") (by walk_at "sc") (by walk_at "sc") (by walk_at "sc") ?_) | (guard_target =~ L2.rAppend _ _ _ _; first | refine app_l (by walk_at "hp") (by walk_at "sc") ?_) | (guard_target =~ L2.rPop _ _ _ _; first | refine pop_l (by walk_at "hp") (by walk_at "hv") ?_ | refine pops_l (by walk_at "hp") ?_) | (guard_target =~ L2.rClear _ _ _ _; first | refine clr_l (by walk_at "hp") ?_) | (guard_target =~ L2.rReverse _ _ _ _; first | refine rev_l (by walk_at "hp") ?_) | (guard_target =~ L2.rExtend _ _ _ _; first | refine ext_l (by walk_at "hp") (by walk_at "hp") (by walk_at "sc") ?_) | (guard_target =~ KW.uAdd _ _ _ _ _; first | refine ucat_l (by walk_at "hp") (by walk_at "hp") (by walk_at "sc") ?_) | (guard_target =~ KW.uSl _ _ _ _ _ _; first | refine usl_l (by walk_at "hp") ?_) | (guard_target =~ KW.uTru _ _ _ _; first | refine tru_l (by walk_at "hp") ?_ | refine tru_t (by walk_at "hp") ?_ | refine tru_d (by walk_at "hp") ?_ | refine tru_sl (by assumption) ?_) | (guard_target =~ L2.rIndex _ _ _ _ _; first | refine idx_s (by walk_at "hp") (by assumption) ?_ | refine idx_i (by walk_at "hp") (by assumption) ?_) | (guard_target =~ L2.rIn _ _ _ _ _ _; first | refine in_s (by walk_at "hp") ?_ | refine nin_s (by walk_at "hp") ?_ | refine in_i (by walk_at "hp") ?_ | refine nin_i (by walk_at "hp") ?_) | (guard_target =~ KW.uIsi _ _ _ _; first | refine isi_l (by walk_at "hp") (by decide +kernel) ?_ | refine isi_t (by walk_at "hp") (by decide +kernel) ?_ | refine isi_d (by walk_at "hp") (by decide +kernel) ?_) | (guard_target =~ KW.uList _ _ _ _; first | refine list_l (by walk_at "hp") ?_ | refine list_t (by walk_at "hp") ?_ | refine list_sl (by assumption) ?_) | (guard_target =~ KW.uDict _ _ _; first | refine dict_d (by walk_at "hp") ?_) | (guard_target =~ KW.uSorted _ _ _ _; first | refine srt_l (by walk_at "hp") ?_) | (guard_target =~ KW.uSum _ _ _ _; first | refine sum_l (by walk_at "hp") ?_) | (guard_target =~ KW.uDelC _ _ _ _; first | refine dels_l (by walk_at "hp") (by walk_at "sc") ?_) | (guard_target =~ L2.wAs _ _ _ _ _ _ _ _ _ _; first | refine as_yes (by walk_at "hx") ?_ | refine as_no (by walk_at "hx") ?_) | (guard_target =~ KW.uEf _ _ _ _ _ _ _ _ _; first | refine ef_l (by walk_at "he") (by decide) (by rfl) (by walk_at "hp") (by rfl) ?_) | (guard_target =~ KW.uIsE _ _ _ _ _ _ _; first | refine isE_r (by walk_at "he") (by walk_at "hp") (by walk_at "hk") ?_ | refine isE_t (by walk_at "he") (by walk_at "hp") (by walk_at "hk") ?_))
local macro_rules | `(tactic| walk_at "hv") => `(tactic| first | assumption)
local macro_rules | `(tactic| walk_at "kk") => `(tactic| repeat (first | walk_at "kw" | walk_at "kr"))
local macro_rules | `(tactic| walk_at "hc") => `(tactic| first | exact K64.Txt.c_Store (by assumption) | exact K64.Txt.c_Space (by assumption))
local macro_rules | `(tactic| walk_at "he") => `(tactic| first | exact K64.Txt.e_BadWord (by assumption) | exact K64.Txt.e_NoRoom (by assumption) | exact K64.Txt.e_NoNumber (by assumption) | exact K64.Txt.e_Wrong (by assumption))
local macro_rules | `(tactic| walk_at "hx") => `(tactic| first | exact K64.Txt.x_BadWord_NoNumber (by assumption) | exact K64.Txt.x_BadWord_NoRoom (by assumption) | exact K64.Txt.x_NoRoom_NoNumber (by assumption) | exact K64.Txt.x_NoRoom_NoRoom (by assumption) | exact K64.Txt.x_NoNumber_NoNumber (by assumption) | exact K64.Txt.x_NoNumber_NoRoom (by assumption) | exact K64.Txt.x_Wrong_NoNumber (by assumption) | exact K64.Txt.x_Wrong_NoRoom (by assumption))
local macro_rules | `(tactic| walk_at "hk") => `(tactic| first | fail)

local macro_rules | `(tactic| walk_at "kr") => `(tactic| first | (guard_target =~ KW.uGet _ _ _ _ _; refine ST.get_p (by assumption) (by rfl) (by walk_at "hc") (by decide) (by rfl) ?_) | (guard_target =~ KW.uMet.uMt _ _ _ _ _ _ _ _ _; refine ST.met_p (by assumption) (by rfl) (by decide) ?_))
section
variable {P : Program} {w : World} {K : Frag} {mg : Str → Option Value} {base : Heap} {a : Ads}
theorem ok_law (T : Txt P w K mg a) (TB : LamX.TabB base mg a.c_Store_close_up a.p_Store_close_up) : ∀ f fd, Fun K "law" "law" s_law f fd → FnOk P w K mg base (L2N.CX P w) 6 f fd ["script"] (sp_law63T K a.p_Store_close_up ("Store.close_up" ++ ".<locals>." ++ "<lambda>")) := by
  have C__law_same := ok__law_same (P := P) (w := w) (base := base) T
  have C__law_number := ok__law_number (P := P) (w := w) (base := base) T
  have C__law_sizes := ok__law_sizes (P := P) (w := w) (base := base) T
  have C__law_rows := ok__law_rows (P := P) (w := w) (base := base) T
  have C__law_roots := ok__law_roots (P := P) (w := w) (base := base) T
  have C__law_space := ok__law_space (P := P) (w := w) (base := base) T
  have C__law_long := ok__law_long (P := P) (w := w) (base := base) T
  have C__law_best := ok__law_best (P := P) (w := w) (base := base) T
  have C__law_path_is := ok__law_path_is (P := P) (w := w) (base := base) T
  have C__law_told := ok__law_told (P := P) (w := w) (base := base) T
  have C__law_drawn := ok__law_drawn (P := P) (w := w) (base := base) T
  have C__law_kept := ok__law_kept (P := P) (w := w) (base := base) T
  have C_paths := ok_paths (P := P) (w := w) (base := base) T
  have C_garbage := ok_garbage (P := P) (w := w) (base := base) T
  have C_word_at := ok_word_at (P := P) (w := w) (base := base) T
  refine DefAt.fn sc_law (fun vs H Q E h => ?_) (fun f cdv A outer s H vs Q E hr h => ⟨_, (pss_cons (k_setLc (i := 1) (own := [("cell", 2)]) (g := gName 2) (by rfl) sc_law.nd rfl rfl (sw_true rfl rfl rfl (by decide +kernel)) (pi_list (kv 0)) (blkOk_by (own := [("cell", 2)]) (N := ["script", "cells", "cell", "x", "rows", "words", "space", "due", "told", "number", "k"]) (sc := defScope s_law) (by decide +kernel)) (fun _ _ _ _ _ => pg_name (i := 2) sc_law.nd rfl (Or.inl rfl)) (fun _ _ _ _ _ => pts_nil) (fun _ _ _ _ _ => by exact (pe_callTy c_int (by rfl) T.n_int (by decide +kernel) (pa_cons (kv 2) pa_nil))))
      (C8.pss_cut (k_while (passes_of rfl) (pt_cmpR o_lt (pe_callB c_len (by rfl) T.n_len (by decide +kernel) (pa_cons (kv 1) pa_nil)) pe_int (nomark _))
      (pss_one (ps_expr (pe_bm PySem.F.plainAttrs_list PySem.F.slot_list_append PySem.F.type_list_append mt_append (kv 1) (pa_cons pe_int pa_nil)))))
      (pss_cons (ps_set (i := 3) sc_law.nd rfl (Or.inl rfl) (kc C__law_number (hr.mono (by decide)) (pa_cons (pe_ix o_ix (kv 1) pe_int (fun _ _ => rfl)) (pa_cons pe_int pa_nil))))
      (C8.pss_cut (ps_if (PW.pt (pw_and (pt_cmpR (o_eq hr.units) (pe_op o_mod (pe_op o_fdiv (kv 3) pe_int) pe_int) pe_int (nomark _)) (pw_and1 (pt_not (kt (kc C__law_long (hr.mono (by decide)) (pa_cons (pe_op o_fdiv (kv 3) pe_int) pa_nil)))))))
      (pss_one (ps_ret pe_bl))
      pss_nil)
      (pss_cons (ps_set (i := 4) sc_law.nd rfl (Or.inl rfl) (kc C__law_rows (hr.mono (by decide)) (pa_cons (kc C__law_sizes (hr.mono (by decide)) (pa_cons (kc C__law_number (hr.mono (by decide)) (pa_cons (pe_ix o_ix (kv 1) pe_int (fun _ _ => rfl)) (pa_cons pe_int pa_nil))) pa_nil)) (pa_cons (pe_ix o_ix (kv 1) pe_int (fun _ _ => rfl)) pa_nil))))
      (pss_cons (ps_set (i := 5) sc_law.nd rfl (Or.inl rfl) (kc C__law_roots (hr.mono (by decide)) (pa_cons (pe_callB c_len (by rfl) T.n_len (by decide +kernel) (pa_cons (kv 4) pa_nil)) (pa_cons (pe_ix o_ix (kv 1) pe_int (fun _ _ => rfl)) pa_nil))))
      (pss_cons (ps_set (i := 6) sc_law.nd rfl (Or.inl rfl) (kc C__law_space (hr.mono (by decide)) (pa_cons (kv 4) (pa_cons (kv 5) pa_nil))))
      (pss_cons (ps_if (pt_cmpR o_is (kv 6) pe_non (nomark _))
      (pss_one (ps_ret pe_bl))
      pss_nil)
      (pss_cons (ps_set (i := 7) sc_law.nd rfl (Or.inr rfl) (kc C__law_best (hr.mono (by decide)) (pa_cons (kv 4) (pa_cons (kv 5) pa_nil))))
      (pss_cons (ps_set (i := 8) sc_law.nd rfl (Or.inl rfl) (kc C_paths (hr.mono (by decide)) (pa_cons (kv 6) pa_nil)))
      (pss_cons (ps_if (PW.pt (pw_or (pt_not (kt (pe_callB c_isi (by rfl) T.n_isinstance (by decide +kernel) (pa_cons (kv 8) (pa_cons (pe_bltn (v := .ty "dict") (by rfl) T.n_dict (by decide +kernel) rfl) pa_nil))))) (pw_or1 (pt_not (kt (kc C__law_same (hr.mono (by decide)) (pa_cons (pe_callB (c_sorted rfl) (by rfl) T.n_sorted (by decide +kernel) (pa_cons (kv 8) pa_nil)) (pa_cons (pe_callB (c_sorted rfl) (by rfl) T.n_sorted (by decide +kernel) (pa_cons (kv 7) pa_nil)) pa_nil))))))))
      (pss_one (ps_ret pe_bl))
      pss_nil)
      (pss_cons (ps_lock (k_for (passes_of rfl) rfl (pi_keys (kv 7)) (pg_name (i := 9) sc_law.nd rfl (Or.inl rfl))
      (pss_one (ps_if (PW.pt (pw_or (pt_not (kt (kc C__law_path_is (hr.mono (by decide)) (pa_cons (k_dget (hu_of hr) (kv 8) (kv 9)) (pa_cons (k_dgetF (hu_of hr) (kv 7) (kv 9)) pa_nil))))) (pw_or1 (pt_not (kt (kc C__law_told (hr.mono (by decide)) (pa_cons (kv 6) (pa_cons (kv 4) (pa_cons (kv 5) (pa_cons (k_dgetF (hu_of hr) (kv 7) (kv 9)) pa_nil))))))))))
      (pss_one (ps_ret pe_bl))
      pss_nil))))
      (pss_cons (ps_if (pt_not (kt (kc C__law_same (hr.mono (by decide)) (pa_cons (kc C_garbage (hr.mono (by decide)) (pa_cons (kv 6) pa_nil)) (pa_cons (k_lc (own := [("k", 10)]) (g := gName 10) (by rfl) sc_law.nd (pi_range1 (by rfl) T.n_range (pa_cons (pe_callB c_len (by rfl) T.n_len (by decide +kernel) (pa_cons (kv 4) pa_nil)) pa_nil)) (blkOk_by (own := [("k", 10)]) (N := ["script", "cells", "cell", "x", "rows", "words", "space", "due", "told", "number", "k"]) (sc := defScope s_law) (by decide +kernel)) (fun _ _ _ _ _ => pg_name (i := 10) sc_law.nd rfl (Or.inl rfl)) (fun _ _ _ _ _ => by exact pts_one (pt_cmp (k_dnotin (hu_of hr) (kv 10) (kv 7)))) (fun _ _ _ _ _ => by exact (kv 10))) pa_nil)))))
      (pss_one (ps_ret pe_bl))
      pss_nil)
      (pss_cons (k_for (passes_of rfl) rfl (pi_range2 (by rfl) T.n_range (pa_cons pe_int (pa_cons (pe_callB c_len (by rfl) T.n_len (by decide +kernel) (pa_cons (kv 1) pa_nil)) pa_nil))) (pg_name (i := 10) sc_law.nd rfl (Or.inl rfl))
      (pss_cons (ps_set (i := 3) sc_law.nd rfl (Or.inl rfl) (kc C__law_number (hr.mono (by decide)) (pa_cons (pe_ix o_ix (kv 1) (kv 10) (fun _ _ => rfl)) (pa_cons (kv 10) pa_nil))))
      (pss_cons (ps_if (pt_not (kt (kc C__law_told (hr.mono (by decide)) (pa_cons (kv 6) (pa_cons (kv 4) (pa_cons (kv 5) (pa_cons (kc C__law_drawn (hr.mono (by decide)) (pa_cons (kv 3) (pa_cons (kv 4) (pa_cons (kv 5) pa_nil)))) pa_nil)))))))
      (pss_one (ps_ret pe_bl))
      pss_nil)
      (pss_one (ps_if (pt_not (kt (kc C__law_told (hr.mono (by decide)) (pa_cons (kv 6) (pa_cons (kv 4) (pa_cons (kv 5) (pa_cons (kc C__law_drawn (hr.mono (by decide)) (pa_cons (pe_op o_fdiv (kv 3) pe_int) (pa_cons (kv 4) (pa_cons (kv 5) pa_nil)))) pa_nil)))))))
      (pss_one (ps_ret pe_bl))
      pss_nil)))))
      (pss_cons (ps_if (pt_cmpR o_isnot (kc C_word_at (hr.mono (by decide)) (pa_cons (kv 6) (pa_cons (pe_tup pa_nil) pa_nil))) pe_non (nomark _))
      (pss_one (ps_ret pe_bl))
      pss_nil)
      (pss_one (ps_ret (kc C__law_kept (hr.mono (by decide)) (pa_cons (kv 6) (pa_cons (kv 4) (pa_cons (kv 5) pa_nil))))))))))))))))))))), ?_⟩)
  · obtain ⟨sc, ns, rfl, _⟩ := h; rfl
  · obtain ⟨sc, ns, rfl, hS, hn, _, h⟩ := h
    walk_at "kw"
    refine ⟨⟨_, hS⟩, ?_⟩
    refine lc_ii (fun n => some n) hS (lt_line (by omega)) ?_ ?_
    · intro i x D acc Cy Cn hx hD h1 h2
      walk_at "kk"
      exact h1 _ rfl
    intro ce hD
    rw [List.filterMap_some]
    have h0 : IL (upd H ce (.lst (ns.map V.int))) ce ns := upd_same
    revert h0
    generalize upd H ce (.lst (ns.map V.int)) = H0
    intro h0
    refine ⟨fun σ H' => ∃ cs, σ = [some (.ref sc), some (.ref ce), none, none, none, none, none, none, none, none, none] ∧ IL H' ce cs ∧ 3 ≤ cs.length ∧ cs.length ≤ 64, ?_, ?_⟩
    · refine ⟨fun m σ H' => ∃ cs, σ = [some (.ref sc), some (.ref ce), none, none, none, none, none, none, none, none, none] ∧ IL H' ce cs ∧ cs.length ≤ 64 ∧ m = 3 - cs.length, ⟨_, ns, rfl, h0, by omega, rfl⟩, ?_⟩
      rintro m σ H' ⟨cs, rfl, h1, hl1, rfl⟩
      walk_at "kk"
      split
      · walk_at "kk"
        refine ⟨_, ?_, cs ++ [7], ?_, by simp; omega, rfl⟩
        · simp; omega
        · show _ = _
          rw [upd_same]; simp
      · walk_at "kk"
        exact ⟨cs, h1, by omega, hl1⟩
    clear h0
    rintro σ H0 ⟨cs, rfl, h0, c3, c64⟩
    obtain ⟨z0, z1, z2, cr, rfl⟩ : ∃ z0 z1 z2 cr, cs = z0 :: z1 :: z2 :: cr := by
      match cs, c3 with
      | z0 :: z1 :: z2 :: cr, _ => exact ⟨_, _, _, _, rfl⟩
    have a0 : atI ((z0 :: z1 :: z2 :: cr).map V.int) 0 = some (.int z0) := atI_map (f := V.int) (i := 0) rfl
    have a1 : atI ((z0 :: z1 :: z2 :: cr).map V.int) 1 = some (.int z1) := atI_map (f := V.int) (i := 1) rfl
    have a2 : atI ((z0 :: z1 :: z2 :: cr).map V.int) 2 = some (.int z2) := atI_map (f := V.int) (i := 2) rfl
    generalize z0 :: z1 :: z2 :: cr = cs at *
    walk_at "kk"
    refine num_s (by omega) (by omega) fun x hx => ?_
    walk_at "kk"
    refine ⟨fun σ H' => σ = [some (.ref sc), some (.ref ce), none, some (.int x), none, none, none, none, none, none, none] ∧ KW.Fr [] H0 H', ?_, ?_⟩
    · walk_at "kk"
      split
      · refine ⟨by walk_at "sc", _, rfl, by omega, fun H6 f6 => ?_⟩
        walk_at "kk"
        exact f6
      · exact Fr.refl _
    rintro σ H1 ⟨rfl, f1⟩
    have h1 := f1 _ _ (by simp) h0
    clear h0
    walk_at "kk"
    refine num_s (by omega) (by omega) fun y0 hy0 => ?_
    walk_at "kk"
    refine ⟨y0, rfl, fun sz H2 zs n2 f2 i2 lz bz => ?_⟩
    have h2 := f2 _ _ (by simp) h1
    walk_at "kk"
    refine ⟨sz, z1, zs, rfl, i2, lz, bz, fun rl H3 Ls n3 f3 R3 lL bL => ?_⟩
    have h3 := f3 _ _ (by simp) h2
    have li3 := R3.li
    walk_at "kk"
    refine ⟨Ls.length, z2, rfl, by omega, by omega, fun wo H4 ws n4 f4 W4 w16 w20 evw => ?_⟩
    have h4 := f4 _ _ (by simp) h3
    have R4 := R3.fr0 f4
    walk_at "kk"
    have Y4 : LE H4 rl wo Ls ws := ⟨R4, W4, by omega, fun x hx => (bL x hx).2, w16, w20, evw⟩
    refine ⟨rl, wo, Ls, ws, rfl, R4, by omega, fun x hx => ⟨(bL x hx).2.1, (bL x hx).2.2.1⟩, W4, w16, w20, fun d H5 Z5 g5 r5 b5 f5 p5 => ?_⟩
    have h5 := f5 _ _ (by simp) h4
    have Y5 := Y4.fr0 f5
    clear h1 h2 h3 h4 R3 R4 Y4 W4 i2 li3 f1 f2 f3 f4
    obtain ⟨g, hg⟩ : ∃ g, g = gL Ls := ⟨_, rfl⟩
    have ew : d.ws = 0 :: ws := by unfold Spd.ws; rw [r5]
    walk_at "kk"
    refine ⟨rl, wo, Ls, ws, rfl, Y5, fun dl H6 D io n6 f6 D6 q6 e6 => ?_⟩
    have ndl := notin_of n6 Z5.there
    have Z6 := Z5.fr0 f6
    have Y6 := Y5.fr0 f6
    have h6 := f6 _ _ (by simp) h5
    walk_at "kk"
    refine ⟨d, rfl, Z6, fun tl H7 T j n7 f7 T7 q7 e7 => ?_⟩
    rw [g5, ew] at q7 e7
    have eTD : nrR T = nrR D := by rw [e7, e6, run_uniq q7 q6]
    have D7 := D6.fr0 f7
    have Z7 := Z6.fr0 f7
    have Y7 := Y6.fr0 f7
    have h7 := f7 _ _ (by simp) h6
    have nld : dl ≠ tl := ne_of_none D6.dc n7
    have tc7 := T7.dc
    have dc7 := D7.dc
    clear Z5 Y5 h5 D6 Z6 Y6 h6
    walk_at "kk"
    have eN : nsR T = nsR D := nsR_eq eTD
    have lkk : ((List.range Ls.length).map (fun (i : Nat) => (i : Int))).length = Ls.length := by rw [List.length_map, List.length_range]
    have NK : ∀ n r, gL Ls n = some r → n ∈ (List.range Ls.length).map (fun (i : Nat) => (i : Int)) := fun n r => gL_in n r
    have lD : D.length ≤ 60 := by
      have := run_lenF (R := 0 :: ws) NK io
      rw [← e6, List.length_map, lkk] at this
      omega
    have lT : T.length ≤ 60 := by
      have := congrArg List.length eN
      rw [List.length_map, List.length_map] at this
      omega
    refine srt_d tc7 (kvR_keys T) (le_line (by rw [List.length_map]; omega)) fun zs8 l8 q1 q2 n8 => ?_
    have f8 : KW.Fr [] H7 (upd H7 l8 (.lst (zs8.map V.int))) := Fr.new n8
    have i8 : IL (upd H7 l8 (.lst (zs8.map V.int))) l8 zs8 := upd_same
    revert f8 i8
    generalize upd H7 l8 (.lst (zs8.map V.int)) = H8
    intro f8 i8
    refine srt_d (f8 _ _ (by simp) dc7) (kvR_keys D) (le_line (by rw [List.length_map]; omega)) fun zs9 l9 q3 q4 n9 => ?_
    have f9 := f8.trans (Fr.new (o := .lst (zs9.map V.int)) n9)
    have i9 := (Fr.new (l := []) (o := .lst (zs9.map V.int)) n9) _ _ (by simp) i8
    have j9 : IL (upd H8 l9 (.lst (zs9.map V.int))) l9 zs9 := upd_same
    revert f9 i9 j9
    generalize upd H8 l9 (.lst (zs9.map V.int)) = H9
    intro f9 i9 j9
    have ez : zs8 = zs9 := srt_uniq (fun n => by rw [eN]) T7.nd D7.nd q1 q3 q2 q4
    subst ez
    have lz := q1.length_eq
    rw [List.length_map] at lz
    refine same_s (xs := zs8) i9 j9 (by omega) ?_
    have D9 := D7.fr0 f9
    have T9 := T7.fr0 f9
    have Z9 := Z7.fr0 f9
    have Y9 := Y7.fr0 f9
    have h9 := f9 _ _ (by simp) h7
    clear D7 T7 Z7 Y7 h7 tc7 dc7 n8 n9 f8 i8 i9 j9 f9 f5 f6 f7 n6 n7
    walk_at "kk"
    refine ⟨dl, .dK (kvR D), D9.dc, trivial, fun od => ?_⟩
    obtain ⟨Pv, hPv⟩ : ∃ Pv : Nat → L2.St → Hp → Prop, Pv = fun _ σ H' => ∃ v9 v10 : Option V, σ = [some (.ref sc), some (.ref ce), none, some (.int x), some (.ref rl), some (.ref wo), some (.ref d.sp), some (.ref dl), some (.ref tl), v9, v10] ∧ H' dl = some (.frz od (.dK (kvR D))) ∧ KW.Fr [dl] H9 H' := ⟨_, rfl⟩
    refine ⟨dl, od, rfl, .inl ⟨kvR D, upd_same, ?_⟩⟩
    refine for_pk (kvR_keys D) Pv ?_ ?_ ?_ ?_
    · rw [hPv]
      exact ⟨_, _, rfl, upd_same, Fr.upd (by simp)⟩
    · rintro i σ H2 - hp
      rw [hPv] at hp
      obtain ⟨_, _, _, k2, _⟩ := hp
      exact k2
    · intro i n σ H10 hx hp
      rw [hPv] at hp
      obtain ⟨v9, v10, rfl, k10, f10⟩ := hp
      obtain ⟨dd, hdi, rfl⟩ := nsR_i hx
      have hdd := List.mem_of_getElem? hdi
      have hv := val_at D9.nd hdd
      obtain ⟨d6, hd6, e6n, e6r⟩ : ∃ d6 ∈ T, d6.n = dd.n ∧ d6.r = dd.r := by
        have : (dd.n, dd.r) ∈ nrR T := by rw [eTD]; exact List.mem_map.mpr ⟨dd, hdd, rfl⟩
        obtain ⟨y, hy, e⟩ := List.mem_map.mp this
        exact ⟨y, hy, congrArg Prod.fst e, congrArg Prod.snd e⟩
      have hv6 : valV (kvR T) (.inl dd.n) = some (.ref d6.a) := by rw [← e6n]; exact val_at T9.nd hd6
      have ntd : ∀ {b : Addr} {o : HO}, H9 b = some o → (∀ kvs, o ≠ .dK kvs) → H10 b = some o := fun h1 h2 => f10 _ _ (by simp; intro z; rw [z, D9.dc] at h1; exact h2 _ (Option.some.inj h1).symm) h1
      have t6 := ntd (T9.tp d6 hd6) (by simp)
      have tD := ntd (D9.tp dd hdd) (by simp)
      rw [e6r] at t6
      have c9 : H10 tl = some (.dK (kvR T)) := f10 _ _ (by simpa using Ne.symm nld) T9.dc
      have lr : dd.r.length ≤ 100 := by
        have q8 := run_end (R := 0 :: ws) NK
        have : (dd.n, dd.r) ∈ (ST.run (gL Ls) (0 :: ws) (((List.range Ls.length).map (fun (i : Nat) => (i : Int))).length + 1)).1 := by
          rw [← run_uniq q6 q8, ← e6]; exact List.mem_map.mpr ⟨dd, hdd, rfl⟩
        have := ((run_ok (gL Ls) (0 :: ws) _).flen _ this).2
        rw [lkk] at this
        dsimp only at this
        omega
      have Z10 : Spc a.Space a.Store H10 d := Z9.fr f10 fun y hy m => by
        simp only [List.mem_singleton] at m
        subst m; exact ndl hy
      have Y10 : LE H10 rl wo Ls ws := ⟨⟨ntd Y9.R.li (by simp), fun y hy => ntd (Y9.R.rs y hy) (by simp)⟩, ntd Y9.W (by simp), Y9.l1, Y9.l2, Y9.l3, Y9.l4, Y9.l5⟩
      walk_at "kk"
      refine ⟨_, _, k10, _, hv, d6.a, dd.a, dd.r, rfl, t6, tD, by omega, ?_⟩
      walk_at "kk"
      refine ⟨_, _, k10, _, hv, d, rl, wo, dd.a, Ls, ws, dd.r, rfl, Z10, Y10, g5, r5, tD, by omega, fun H11 f11 => ?_⟩
      walk_at "kk"
      rw [hPv]
      exact ⟨_, _, rfl, f11 _ _ (by simp) k10, f10.trans (f11.mono (by simp))⟩
    · intro σ H10 hp
      rw [hPv] at hp
      obtain ⟨v9, v10, rfl, k10, f10⟩ := hp
      refine ⟨k10, ?_⟩
      have f11 : KW.Fr [] H9 (upd H10 dl (.dK (kvR D))) := Fr.unl D9.dc f10
      revert f11
      generalize upd H10 dl (.dK (kvR D)) = H11
      intro f11
      have D11 := D9.fr0 f11
      have Z11 := Z9.fr0 f11
      have Y11 := Y9.fr0 f11
      have h11 := f11 _ _ (by simp) h9
      have dc11 := D11.dc
      have li11 := Y11.R.li
      walk_at "kk"
      refine garbage_s Z11 fun ql H12 gs n12 f12 i12 p12 nd12 m12 => ?_
      have Z12 := Z11.fr0 f12
      have Y12 := Y11.fr0 f12
      have h12 := f12 _ _ (by simp) h11
      have dc12 := f12 _ _ (by simp) dc11
      have li12 := Y12.R.li
      have lm : (Ls.map fun x => V.ref x.1).length = Ls.length := List.length_map ..
      clear Z11 Y11 h11 dc11 li11
      walk_at "kk"
      rw [Int.toNat_natCast]
      refine lc_pr (fun i => if (!decide ((i : Int) ∈ nsR D)) = true then some (.int (i : Int)) else none) (lt_line (by omega)) ?_ ?_
      · intro i D0 acc Cy Cn hi hD0 h1 h2
        have pD : dl ≠ D0 := ne_of_none dc12 hD0
        walk_at "kk"
        rw [val_is]
        by_cases c : (i : Int) ∈ nsR D
        · rw [if_neg (by simp [c])]
          exact h2 (if_neg (by simp [c]))
        · rw [if_pos (by simp [c])]
          exact h1 _ (if_pos (by simp [c]))
      intro l13 n13
      obtain ⟨qs, hqs⟩ : ∃ qs : List Int, qs = ((List.range Ls.length).map (fun (i : Nat) => (i : Int))).filter fun n => !decide (n ∈ nsR D) := ⟨_, rfl⟩
      have ef : (List.range Ls.length).filterMap (fun (i : Nat) => if (!decide ((i : Int) ∈ nsR D)) = true then some (V.int (i : Int)) else none) = qs.map V.int := by
        rw [hqs]
        induction List.range Ls.length with
        | nil => rfl
        | cons y l ih =>
          rw [List.filterMap_cons, List.map_cons, List.filter_cons]
          by_cases c : (y : Int) ∈ nsR D
          · rw [if_neg (by simp [c]), if_neg (by simp [c])]; exact ih
          · rw [if_pos (by simp [c]), if_pos (by simp [c]), List.map_cons, ih]
      rw [ef]
      have rrs : ((List.range Ls.length).map (fun (i : Nat) => (i : Int))).Pairwise (· ≤ ·) := by
        rw [List.pairwise_map]
        exact List.pairwise_lt_range.imp fun h => by omega
      have rrn : ((List.range Ls.length).map (fun (i : Nat) => (i : Int))).Nodup := by
        unfold List.Nodup
        rw [List.pairwise_map]
        exact List.pairwise_lt_range.imp fun h => by omega
      have rk := fun n => run_keys q6 n
      have eq_ : gs = qs := by
        refine srt_uniq (fun n => ?_) nd12 (by rw [hqs]; exact rrn.sublist List.filter_sublist) (List.Perm.refl _) (List.Perm.refl _) p12 (by rw [hqs]; exact rrs.sublist List.filter_sublist)
        rw [m12, hqs, List.mem_filter, ← gB_lv, g5, gL_is, decide_eq_true_eq, ew, ← rk, ← e6, keysF_nr]
        simp only [Bool.not_eq_true', decide_eq_false_iff_not, List.mem_map, List.mem_range]
        constructor
        · rintro ⟨⟨h1, h2⟩, h3⟩
          exact ⟨⟨n.toNat, by omega, by omega⟩, h3⟩
        · rintro ⟨⟨i, h1, rfl⟩, h3⟩
          exact ⟨⟨by omega, by omega⟩, h3⟩
      subst eq_
      have lg : gs.length ≤ 60 := by
        have : gs.length ≤ _ := hqs ▸ List.length_filter_le _ _
        rw [lkk] at this; omega
      have i13 := (Fr.new (l := []) (o := .lst (gs.map V.int)) n13) _ _ (by simp) i12
      have j13 : IL (upd H12 l13 (.lst (gs.map V.int))) l13 gs := upd_same
      have f13 : KW.Fr [] H12 (upd H12 l13 (.lst (gs.map V.int))) := Fr.new n13
      revert i13 j13 f13
      generalize upd H12 l13 (.lst (gs.map V.int)) = H13
      intro i13 j13 f13
      refine same_s (xs := gs) i13 j13 (by omega) ?_
      have Z13 := Z12.fr0 f13
      have Y13 := Y12.fr0 f13
      have h13 := f13 _ _ (by simp) h12
      clear Z12 Y12 h12 dc12 li12
      walk_at "kk"
      obtain ⟨QM, hQM⟩ : ∃ QM : Nat → L2.St → Hp → Prop, QM = fun _ σ H' => ∃ v3 v10 : Option V, σ = [some (.ref sc), some (.ref ce), none, v3, some (.ref rl), some (.ref wo), some (.ref d.sp), some (.ref dl), some (.ref tl), v9, v10] ∧ KW.Fr [] H13 H' := ⟨_, rfl⟩
      refine for_rng QM (by rw [hQM]; exact ⟨_, _, rfl, Fr.refl _⟩) ?_ ?_
      · intro k σ H14 hk hp
        rw [hQM] at hp
        obtain ⟨v3, v10, rfl, f14⟩ := hp
        have Z14 := Z13.fr0 f14
        have Y14 := Y13.fr0 f14
        have h14 := f14 _ _ (by simp) h13
        have ek : (3 : Int) + (k : Int) = ((3 + k : Nat) : Int) := by omega
        rw [ek]
        obtain ⟨z, hz⟩ : ∃ z, cs[3 + k]? = some z := ⟨_, List.getElem?_eq_getElem (by omega)⟩
        have hvz : atI (cs.map V.int) ((3 + k : Nat) : Int) = some (.int z) := atI_map hz
        walk_at "kk"
        refine num_s (by omega) (by omega) fun x2 hx2 => ?_
        walk_at "kk"
        refine ⟨x2, rl, wo, Ls, ws, rfl, Y14, fun p H15 path f15 t15 l15 => ?_⟩
        have F15 := f14.trans f15
        refine ⟨d, rl, wo, p, Ls, ws, path, rfl, Z13.fr0 F15, Y13.fr0 F15, g5, r5, t15, by omega, fun H16 f16 => ?_⟩
        have F16 := F15.trans f16
        walk_at "kk"
        refine ⟨x2 / 1000003, rl, wo, Ls, ws, rfl, Y13.fr0 F16, fun p H17 path f17 t17 l17 => ?_⟩
        have F17 := F16.trans f17
        refine ⟨d, rl, wo, p, Ls, ws, path, rfl, Z13.fr0 F17, Y13.fr0 F17, g5, r5, t17, by omega, fun H18 f18 => ?_⟩
        have F18 := F17.trans f18
        walk_at "kk"
        rw [hQM]
        exact ⟨_, _, rfl, F18⟩
      · intro σ H14 hp
        rw [hQM] at hp
        obtain ⟨v3, v10, rfl, f14⟩ := hp
        have Z14 := Z13.fr0 f14
        have Y14 := Y13.fr0 f14
        walk_at "kk"
        intro p hp
        have f15 : KW.Fr [] H14 (upd H14 p (.tup [])) := Fr.new hp
        have t15 : upd H14 p (.tup []) p = some (.tup (([] : List Int).map V.int)) := upd_same
        have Z15 := Z14.fr0 f15
        have Y15 := Y14.fr0 f15
        refine ⟨d, p, [], rfl, Z15, t15, by simp, fun H16 f16 => ?_⟩
        rw [show wa (gB d.B) d.ws [] = none from rfl]
        simp only [optV]
        walk_at "kk"
        exact ⟨d, rl, wo, Ls, ws, rfl, Z15.fr0 f16, Y15.fr0 f16, g5, r5, b5, fun H17 f17 => h H17⟩
end
end K64

set_option Elab.async false
set_option linter.all false
set_option maxRecDepth 100000
namespace K64
end K64
open PySem PySem.W PyProof.Rows
set_option maxRecDepth 100000 in
set_option maxHeartbeats 0 in
theorem PySem.Challenge.cw_kilnwarden_k64_best_paths_holds : PySem.Challenge.rw_kilnwarden_k64_best_paths.Holds := by
  w_on; o_law; k_head; (case hw => w_witness2)
  k_fill
  refine KW.walk63T (k := 6) (l := PySem.Challenge.rw_kilnwarden_k64_best_paths) (st := K64.s_law) rfl rfl rfl ⟨rfl, by decide, by decide⟩ (fun w h Y => PySem.W.km_in_of Y) (fun _ _ _ _ _ _ us hl => match us, hl with | [_], _ => rfl) ?F
  case F =>
    intro w mg h Y KX G
    have hT8 := PySem.W.km_tabs_of Y
    have T : ∃ a : K64.Ads, K64.Txt PySem.Challenge.rw_kilnwarden_k64_best_paths.prog w (L2.KOf KX) mg a ∧ h.get? a.p_Store_close_up = some { cls := .none, data := .fields #[] } := by
      delta L2.KOf
      refine' K64.Txt.exT ?T ?hp
      case hp => exact hT8 _ (List.Mem.head _)
      case T =>
        constructor
        all_goals (try dsimp only)
        case g_KilnwardenError => refine' PySem.W.mg_of KX G ?za; (case za => k_is)
        case g_BadWord => refine' PySem.W.mg_of KX G ?za; (case za => k_is)
        case g_NoRoom => refine' PySem.W.mg_of KX G ?za; (case za => k_is)
        case g_NoNumber => refine' PySem.W.mg_of KX G ?za; (case za => k_is)
        case g_Wrong => refine' PySem.W.mg_of KX G ?za; (case za => k_is)
        case g_Store => refine' PySem.W.mg_of KX G ?za; (case za => k_is)
        case g_Space => refine' PySem.W.mg_of KX G ?za; (case za => k_is)
        case e_BadWord =>
          refine' PySem.KErr_word.err_mk K64.s_BadWord_init KX G ?zaC ?zxL ?zbmv ?zsup ?zsa ?zno ?za1 ?zt1 ?zkC ?zeC ?zvC ?ztC ?zown ?ztp ?zdg ?znsup ?znstr ?zhst ?zl1 ?zc1 ?zmc ?zac ?zce ?zco ?zcf ?zcg ?ztop ?zhg ?zhk ?zhd ?zha ?zhn ?zht ?zhm
          (case zaC => k_is)
          (case zxL => k_is)
          (case zbmv => first | rfl | decide +kernel)
          (case zsup => ks_is)
          (case zsa => k_is)
          (case zno => k_is)
          (case za1 => k_is)
          (case zt1 => k_is)
          (case zkC => k_is)
          (case zeC => k_is)
          (case zvC => k_is)
          (case ztC => k_is)
          (case zown => k_is)
          (case ztp => k_is)
          (case zdg => k_is)
          (case znsup => k_is)
          (case znstr => k_is)
          (case zhst => exact ⟨rfl, rfl, rfl⟩)
          (case zl1 => k_is)
          (case zc1 => k_is)
          (case zmc => exact fun env => ⟨_, rfl⟩)
          (case zac => exact fun env => rfl)
          (case zce => k_is)
          (case zco => k_is)
          (case zcf => first | rfl | k_is)
          (case zcg => first | decide +kernel | k_is)
          (case ztop => first | decide +kernel | k_is)
          (case zhg => k_is)
          (case zhk => k_is)
          (case zhd => k_is)
          (case zha => k_is)
          (case zhn => k_is)
          (case zht => k_is)
          (case zhm => k_is)
        case x_BadWord_NoNumber => refine' PySem.W.exm_ref ?za ?zb ?zc ?zd; (case za => k_is); (case zb => k_is); (case zc => k_is); (case zd => k_is)
        case x_BadWord_NoRoom => refine' PySem.W.exm_ref ?za ?zb ?zc ?zd; (case za => k_is); (case zb => k_is); (case zc => k_is); (case zd => k_is)
        case e_NoRoom =>
          refine' PySem.KErr_need.err_mk K64.s_NoRoom_init KX G ?zaC ?zxL ?zbmv ?zsup ?zsa ?zno ?za1 ?zt1 ?zkC ?zeC ?zvC ?ztC ?zown ?ztp ?zdg ?znsup ?znstr ?zhst ?zl1 ?zc1 ?zmc ?zac ?zce ?zco ?zcf ?zcg ?ztop ?zhg ?zhk ?zhd ?zha ?zhn ?zht ?zhm
          (case zaC => k_is)
          (case zxL => k_is)
          (case zbmv => first | rfl | decide +kernel)
          (case zsup => ks_is)
          (case zsa => k_is)
          (case zno => k_is)
          (case za1 => k_is)
          (case zt1 => k_is)
          (case zkC => k_is)
          (case zeC => k_is)
          (case zvC => k_is)
          (case ztC => k_is)
          (case zown => k_is)
          (case ztp => k_is)
          (case zdg => k_is)
          (case znsup => k_is)
          (case znstr => k_is)
          (case zhst => exact ⟨rfl, rfl, rfl⟩)
          (case zl1 => k_is)
          (case zc1 => k_is)
          (case zmc => exact fun env => ⟨_, rfl⟩)
          (case zac => exact fun env => rfl)
          (case zce => k_is)
          (case zco => k_is)
          (case zcf => first | rfl | k_is)
          (case zcg => first | decide +kernel | k_is)
          (case ztop => first | decide +kernel | k_is)
          (case zhg => k_is)
          (case zhk => k_is)
          (case zhd => k_is)
          (case zha => k_is)
          (case zhn => k_is)
          (case zht => k_is)
          (case zhm => k_is)
        case x_NoRoom_NoNumber => refine' PySem.W.exm_ref ?za ?zb ?zc ?zd; (case za => k_is); (case zb => k_is); (case zc => k_is); (case zd => k_is)
        case x_NoRoom_NoRoom => refine' PySem.W.exm_ref ?za ?zb ?zc ?zd; (case za => k_is); (case zb => k_is); (case zc => k_is); (case zd => k_is)
        case e_NoNumber =>
          refine' PySem.KErr_limit.err_mk K64.s_NoNumber_init KX G ?zaC ?zxL ?zbmv ?zsup ?zsa ?zno ?za1 ?zt1 ?zkC ?zeC ?zvC ?ztC ?zown ?ztp ?zdg ?znsup ?znstr ?zhst ?zl1 ?zc1 ?zmc ?zac ?zce ?zco ?zcf ?zcg ?ztop ?zhg ?zhk ?zhd ?zha ?zhn ?zht ?zhm
          (case zaC => k_is)
          (case zxL => k_is)
          (case zbmv => first | rfl | decide +kernel)
          (case zsup => ks_is)
          (case zsa => k_is)
          (case zno => k_is)
          (case za1 => k_is)
          (case zt1 => k_is)
          (case zkC => k_is)
          (case zeC => k_is)
          (case zvC => k_is)
          (case ztC => k_is)
          (case zown => k_is)
          (case ztp => k_is)
          (case zdg => k_is)
          (case znsup => k_is)
          (case znstr => k_is)
          (case zhst => exact ⟨rfl, rfl, rfl⟩)
          (case zl1 => k_is)
          (case zc1 => k_is)
          (case zmc => exact fun env => ⟨_, rfl⟩)
          (case zac => exact fun env => rfl)
          (case zce => k_is)
          (case zco => k_is)
          (case zcf => first | rfl | k_is)
          (case zcg => first | decide +kernel | k_is)
          (case ztop => first | decide +kernel | k_is)
          (case zhg => k_is)
          (case zhk => k_is)
          (case zhd => k_is)
          (case zha => k_is)
          (case zhn => k_is)
          (case zht => k_is)
          (case zhm => k_is)
        case x_NoNumber_NoNumber => refine' PySem.W.exm_ref ?za ?zb ?zc ?zd; (case za => k_is); (case zb => k_is); (case zc => k_is); (case zd => k_is)
        case x_NoNumber_NoRoom => refine' PySem.W.exm_ref ?za ?zb ?zc ?zd; (case za => k_is); (case zb => k_is); (case zc => k_is); (case zd => k_is)
        case e_Wrong =>
          refine' PySem.KErr_why.err_mk K64.s_Wrong_init KX G ?zaC ?zxL ?zbmv ?zsup ?zsa ?zno ?za1 ?zt1 ?zkC ?zeC ?zvC ?ztC ?zown ?ztp ?zdg ?znsup ?znstr ?zhst ?zl1 ?zc1 ?zmc ?zac ?zce ?zco ?zcf ?zcg ?ztop ?zhg ?zhk ?zhd ?zha ?zhn ?zht ?zhm
          (case zaC => k_is)
          (case zxL => k_is)
          (case zbmv => first | rfl | decide +kernel)
          (case zsup => ks_is)
          (case zsa => k_is)
          (case zno => k_is)
          (case za1 => k_is)
          (case zt1 => k_is)
          (case zkC => k_is)
          (case zeC => k_is)
          (case zvC => k_is)
          (case ztC => k_is)
          (case zown => k_is)
          (case ztp => k_is)
          (case zdg => k_is)
          (case znsup => k_is)
          (case znstr => k_is)
          (case zhst => exact ⟨rfl, rfl, rfl⟩)
          (case zl1 => k_is)
          (case zc1 => k_is)
          (case zmc => exact fun env => ⟨_, rfl⟩)
          (case zac => exact fun env => rfl)
          (case zce => k_is)
          (case zco => k_is)
          (case zcf => first | rfl | k_is)
          (case zcg => first | decide +kernel | k_is)
          (case ztop => first | decide +kernel | k_is)
          (case zhg => k_is)
          (case zhk => k_is)
          (case zhd => k_is)
          (case zha => k_is)
          (case zhn => k_is)
          (case zht => k_is)
          (case zhm => k_is)
        case x_Wrong_NoNumber => refine' PySem.W.exm_ref ?za ?zb ?zc ?zd; (case za => k_is); (case zb => k_is); (case zc => k_is); (case zd => k_is)
        case x_Wrong_NoRoom => refine' PySem.W.exm_ref ?za ?zb ?zc ?zd; (case za => k_is); (case zb => k_is); (case zc => k_is); (case zd => k_is)
        case c_Store => refine' KW.clsA_mk KX G ?za ?zb ?zc ?zd ?ze ?zf; (case za => k_is); (case zb => k_is); (case zc => k_is); (case zd => k_is); (case ze => k_is); (case zf => (intro f hf; simp only [List.mem_cons, List.not_mem_nil, or_false] at hf; rcases hf with rfl | rfl | rfl | rfl | rfl <;> k_is))
        case c_Space => refine' KW.clsA_mk KX G ?za ?zb ?zc ?zd ?ze ?zf; (case za => k_is); (case zb => k_is); (case zc => k_is); (case zd => k_is); (case ze => k_is); (case zf => (intro f hf; simp only [List.mem_cons, List.not_mem_nil, or_false] at hf; rcases hf with rfl | rfl | rfl | rfl | rfl | rfl | rfl | rfl <;> k_is))
        case ini_Store => refine' KW.iniAt_mk ?zkc ?zmk ?za ?zf ?zk ?zl ?zc ?zb; (case zkc => k_is); (case zmk => k_is); (case za => k_is); (case zf => k_is); (case zk => k_is); (case zl => k_is); (case zc => k_is); (case zb => exact fun _ _ _ _ _ _ us hl => match us, hl with | [_, _, _], _ => rfl)
        case m_Store_exists => refine' KW.metAt_mk ?za ?zf ?zk ?zl ?zc ?zb; (case za => k_is); (case zf => k_is); (case zk => k_is); (case zl => k_is); (case zc => k_is); (case zb => exact fun _ _ _ _ _ _ us hl => match us, hl with | [_, _], _ => rfl)
        case m_Store_numbers => refine' KW.metAt_mk ?za ?zf ?zk ?zl ?zc ?zb; (case za => k_is); (case zf => k_is); (case zk => k_is); (case zl => k_is); (case zc => k_is); (case zb => exact fun _ _ _ _ _ _ us hl => match us, hl with | [_], _ => rfl)
        case m_Store_free_number => refine' KW.metAt_mk ?za ?zf ?zk ?zl ?zc ?zb; (case za => k_is); (case zf => k_is); (case zk => k_is); (case zl => k_is); (case zc => k_is); (case zb => exact fun _ _ _ _ _ _ us hl => match us, hl with | [_], _ => rfl)
        case m_Store_allocate => refine' KW.metAt_mk ?za ?zf ?zk ?zl ?zc ?zb; (case za => k_is); (case zf => k_is); (case zk => k_is); (case zl => k_is); (case zc => k_is); (case zb => exact fun _ _ _ _ _ _ us hl => match us, hl with | [_, _, _], _ => rfl)
        case m_Store_size => refine' KW.metAt_mk ?za ?zf ?zk ?zl ?zc ?zb; (case za => k_is); (case zf => k_is); (case zk => k_is); (case zl => k_is); (case zc => k_is); (case zb => exact fun _ _ _ _ _ _ us hl => match us, hl with | [_, _], _ => rfl)
        case m_Store_kind => refine' KW.metAt_mk ?za ?zf ?zk ?zl ?zc ?zb; (case za => k_is); (case zf => k_is); (case zk => k_is); (case zl => k_is); (case zc => k_is); (case zb => exact fun _ _ _ _ _ _ us hl => match us, hl with | [_, _], _ => rfl)
        case m_Store_get => refine' KW.metAt_mk ?za ?zf ?zk ?zl ?zc ?zb; (case za => k_is); (case zf => k_is); (case zk => k_is); (case zl => k_is); (case zc => k_is); (case zb => exact fun _ _ _ _ _ _ us hl => match us, hl with | [_, _, _], _ => rfl)
        case m_Store_put => refine' KW.metAt_mk ?za ?zf ?zk ?zl ?zc ?zb; (case za => k_is); (case zf => k_is); (case zk => k_is); (case zl => k_is); (case zc => k_is); (case zb => exact fun _ _ _ _ _ _ us hl => match us, hl with | [_, _, _, _], _ => rfl)
        case m_Store_slots => refine' KW.metAt_mk ?za ?zf ?zk ?zl ?zc ?zb; (case za => k_is); (case zf => k_is); (case zk => k_is); (case zl => k_is); (case zc => k_is); (case zb => exact fun _ _ _ _ _ _ us hl => match us, hl with | [_, _], _ => rfl)
        case m_Store_drop => refine' KW.metAt_mk ?za ?zf ?zk ?zl ?zc ?zb; (case za => k_is); (case zf => k_is); (case zk => k_is); (case zl => k_is); (case zc => k_is); (case zb => exact fun _ _ _ _ _ _ us hl => match us, hl with | [_, _], _ => rfl)
        case m_Store_close_up => refine' KW.metAtC_mk ?za ?zf ?zk ?zl ?zc ?zb; (case za => k_is); (case zf => k_is); (case zk => k_is); (case zl => k_is); (case zc => k_is); (case zb => exact fun _ _ _ _ _ _ us hl => match us, hl with | [_], _ => rfl)
        case kd_Store_close_up => first | k_is | kernel_rfl
        case kn_Store_close_up => first | k_is | kernel_rfl
        case ini_Space => refine' KW.iniAt_mk ?zkc ?zmk ?za ?zf ?zk ?zl ?zc ?zb; (case zkc => k_is); (case zmk => k_is); (case za => k_is); (case zf => k_is); (case zk => k_is); (case zl => k_is); (case zc => k_is); (case zb => exact fun _ _ _ _ _ _ us hl => match us, hl with | [_, _, _], _ => rfl)
        case m_Space_root => refine' KW.metAt_mk ?za ?zf ?zk ?zl ?zc ?zb; (case za => k_is); (case zf => k_is); (case zk => k_is); (case zl => k_is); (case zc => k_is); (case zb => exact fun _ _ _ _ _ _ us hl => match us, hl with | [_, _], _ => rfl)
        case m_Space_set_root => refine' KW.metAt_mk ?za ?zf ?zk ?zl ?zc ?zb; (case za => k_is); (case zf => k_is); (case zk => k_is); (case zl => k_is); (case zc => k_is); (case zb => exact fun _ _ _ _ _ _ us hl => match us, hl with | [_, _, _], _ => rfl)
        case m_Space_hold => refine' KW.metAt_mk ?za ?zf ?zk ?zl ?zc ?zb; (case za => k_is); (case zf => k_is); (case zk => k_is); (case zl => k_is); (case zc => k_is); (case zb => exact fun _ _ _ _ _ _ us hl => match us, hl with | [_, _], _ => rfl)
        case m_Space_drop => refine' KW.metAt_mk ?za ?zf ?zk ?zl ?zc ?zb; (case za => k_is); (case zf => k_is); (case zk => k_is); (case zl => k_is); (case zc => k_is); (case zb => exact fun _ _ _ _ _ _ us hl => match us, hl with | [_, _], _ => rfl)
        case m_Space_held => refine' KW.metAt_mk ?za ?zf ?zk ?zl ?zc ?zb; (case za => k_is); (case zf => k_is); (case zk => k_is); (case zl => k_is); (case zc => k_is); (case zb => exact fun _ _ _ _ _ _ us hl => match us, hl with | [_], _ => rfl)
        case m_Space_all_roots => refine' KW.metAt_mk ?za ?zf ?zk ?zl ?zc ?zb; (case za => k_is); (case zf => k_is); (case zk => k_is); (case zl => k_is); (case zc => k_is); (case zb => exact fun _ _ _ _ _ _ us hl => match us, hl with | [_], _ => rfl)
        case m_Space_collect => refine' KW.metAt_mk ?za ?zf ?zk ?zl ?zc ?zb; (case za => k_is); (case zf => k_is); (case zk => k_is); (case zl => k_is); (case zc => k_is); (case zb => exact fun _ _ _ _ _ _ us hl => match us, hl with | [_], _ => rfl)
        case m_Space_collect_with => refine' KW.metAt_mk ?za ?zf ?zk ?zl ?zc ?zb; (case za => k_is); (case zf => k_is); (case zk => k_is); (case zl => k_is); (case zc => k_is); (case zb => exact fun _ _ _ _ _ _ us hl => match us, hl with | [_, _], _ => rfl)
        case m_Space_new => refine' KW.metAt_mk ?za ?zf ?zk ?zl ?zc ?zb; (case za => k_is); (case zf => k_is); (case zk => k_is); (case zl => k_is); (case zc => k_is); (case zb => exact fun _ _ _ _ _ _ us hl => match us, hl with | [_, _, _], _ => rfl)
        case m_Space_fitted => refine' KW.metAt_mk ?za ?zf ?zk ?zl ?zc ?zb; (case za => k_is); (case zf => k_is); (case zk => k_is); (case zl => k_is); (case zc => k_is); (case zb => exact fun _ _ _ _ _ _ us hl => match us, hl with | [_, _, _], _ => rfl)
        case n_bool => exact PySem.W.mg_none_of KX G (by k_is)
        case n_dict => exact PySem.W.mg_none_of KX G (by k_is)
        case n_int => exact PySem.W.mg_none_of KX G (by k_is)
        case n_isinstance => exact PySem.W.mg_none_of KX G (by k_is)
        case n_len => exact PySem.W.mg_none_of KX G (by k_is)
        case n_list => exact PySem.W.mg_none_of KX G (by k_is)
        case n_min => exact PySem.W.mg_none_of KX G (by k_is)
        case n_range => exact PySem.W.mg_none_of KX G (by k_is)
        case n_sorted => exact PySem.W.mg_none_of KX G (by k_is)
        case n_tuple => exact PySem.W.mg_none_of KX G (by k_is)
        case g_NIL => refine' KW.gv_mk KX G ?za ?zr; (case za => k_is); (case zr => exact ⟨_, rfl⟩)
        case g_HEADER => refine' KW.gv_mk KX G ?za ?zr; (case za => k_is); (case zr => exact ⟨_, rfl⟩)
        case g_ROOTS => refine' KW.gv_mk KX G ?za ?zr; (case za => k_is); (case zr => exact ⟨_, rfl⟩)
        case d_is_ref => refine' KW.defAt_mk KX G ?za ?zl ?zc ?zk ?zb; (case za => k_is); (case zl => k_is); (case zc => k_is); (case zk => k_is); (case zb => exact fun _ _ _ _ _ _ us hl => match us, hl with | [_], _ => rfl)
        case d_ref_of => refine' KW.defAt_mk KX G ?za ?zl ?zc ?zk ?zb; (case za => k_is); (case zl => k_is); (case zc => k_is); (case zk => k_is); (case zb => exact fun _ _ _ _ _ _ us hl => match us, hl with | [_], _ => rfl)
        case d_reached => refine' KW.defAt_mk KX G ?za ?zl ?zc ?zk ?zb; (case za => k_is); (case zl => k_is); (case zc => k_is); (case zk => k_is); (case zb => exact fun _ _ _ _ _ _ us hl => match us, hl with | [_, _], _ => rfl)
        case d_collect => refine' KW.defAt_mk KX G ?za ?zl ?zc ?zk ?zb; (case za => k_is); (case zl => k_is); (case zc => k_is); (case zk => k_is); (case zb => exact fun _ _ _ _ _ _ us hl => match us, hl with | [_, _], _ => rfl)
        case d_object_of => refine' KW.defAt_mk KX G ?za ?zl ?zc ?zk ?zb; (case za => k_is); (case zl => k_is); (case zc => k_is); (case zk => k_is); (case zb => exact fun _ _ _ _ _ _ us hl => match us, hl with | [_, _], _ => rfl)
        case d_row_of => refine' KW.defAt_mk KX G ?za ?zl ?zc ?zk ?zb; (case za => k_is); (case zl => k_is); (case zc => k_is); (case zk => k_is); (case zb => exact fun _ _ _ _ _ _ us hl => match us, hl with | [_, _], _ => rfl)
        case d_word_at => refine' KW.defAt_mk KX G ?za ?zl ?zc ?zk ?zb; (case za => k_is); (case zl => k_is); (case zc => k_is); (case zk => k_is); (case zb => exact fun _ _ _ _ _ _ us hl => match us, hl with | [_, _], _ => rfl)
        case d_paths => refine' KW.defAt_mk KX G ?za ?zl ?zc ?zk ?zb; (case za => k_is); (case zl => k_is); (case zc => k_is); (case zk => k_is); (case zb => exact fun _ _ _ _ _ _ us hl => match us, hl with | [_], _ => rfl)
        case d_garbage => refine' KW.defAt_mk KX G ?za ?zl ?zc ?zk ?zb; (case za => k_is); (case zl => k_is); (case zc => k_is); (case zk => k_is); (case zb => exact fun _ _ _ _ _ _ us hl => match us, hl with | [_], _ => rfl)
        case d__law_number => refine' KW.defAt_mk KX G ?za ?zl ?zc ?zk ?zb; (case za => k_is); (case zl => k_is); (case zc => k_is); (case zk => k_is); (case zb => exact fun _ _ _ _ _ _ us hl => match us, hl with | [_, _], _ => rfl)
        case d__law_word => refine' KW.defAt_mk KX G ?za ?zl ?zc ?zk ?zb; (case za => k_is); (case zl => k_is); (case zc => k_is); (case zk => k_is); (case zb => exact fun _ _ _ _ _ _ us hl => match us, hl with | [_, _], _ => rfl)
        case d__law_is => refine' KW.defAt_mk KX G ?za ?zl ?zc ?zk ?zb; (case za => k_is); (case zl => k_is); (case zc => k_is); (case zk => k_is); (case zb => exact fun _ _ _ _ _ _ us hl => match us, hl with | [_, _], _ => rfl)
        case d__law_same => refine' KW.defAt_mk KX G ?za ?zl ?zc ?zk ?zb; (case za => k_is); (case zl => k_is); (case zc => k_is); (case zk => k_is); (case zb => exact fun _ _ _ _ _ _ us hl => match us, hl with | [_, _], _ => rfl)
        case d__law_sizes => refine' KW.defAt_mk KX G ?za ?zl ?zc ?zk ?zb; (case za => k_is); (case zl => k_is); (case zc => k_is); (case zk => k_is); (case zb => exact fun _ _ _ _ _ _ us hl => match us, hl with | [_], _ => rfl)
        case d__law_rows => refine' KW.defAt_mk KX G ?za ?zl ?zc ?zk ?zb; (case za => k_is); (case zl => k_is); (case zc => k_is); (case zk => k_is); (case zb => exact fun _ _ _ _ _ _ us hl => match us, hl with | [_, _], _ => rfl)
        case d__law_roots => refine' KW.defAt_mk KX G ?za ?zl ?zc ?zk ?zb; (case za => k_is); (case zl => k_is); (case zc => k_is); (case zk => k_is); (case zb => exact fun _ _ _ _ _ _ us hl => match us, hl with | [_, _], _ => rfl)
        case d__law_space => refine' KW.defAt_mk KX G ?za ?zl ?zc ?zk ?zb; (case za => k_is); (case zl => k_is); (case zc => k_is); (case zk => k_is); (case zb => exact fun _ _ _ _ _ _ us hl => match us, hl with | [_, _], _ => rfl)
        case d__law_walk => refine' KW.defAt_mk KX G ?za ?zl ?zc ?zk ?zb; (case za => k_is); (case zl => k_is); (case zc => k_is); (case zk => k_is); (case zb => exact fun _ _ _ _ _ _ us hl => match us, hl with | [_, _, _], _ => rfl)
        case d__law_extended => refine' KW.defAt_mk KX G ?za ?zl ?zc ?zk ?zb; (case za => k_is); (case zl => k_is); (case zc => k_is); (case zk => k_is); (case zb => exact fun _ _ _ _ _ _ us hl => match us, hl with | [_, _, _], _ => rfl)
        case d__law_best => refine' KW.defAt_mk KX G ?za ?zl ?zc ?zk ?zb; (case za => k_is); (case zl => k_is); (case zc => k_is); (case zk => k_is); (case zb => exact fun _ _ _ _ _ _ us hl => match us, hl with | [_, _], _ => rfl)
        case d__law_path_is => refine' KW.defAt_mk KX G ?za ?zl ?zc ?zk ?zb; (case za => k_is); (case zl => k_is); (case zc => k_is); (case zk => k_is); (case zb => exact fun _ _ _ _ _ _ us hl => match us, hl with | [_, _], _ => rfl)
        case d__law_told => refine' KW.defAt_mk KX G ?za ?zl ?zc ?zk ?zb; (case za => k_is); (case zl => k_is); (case zc => k_is); (case zk => k_is); (case zb => exact fun _ _ _ _ _ _ us hl => match us, hl with | [_, _, _, _], _ => rfl)
        case d__law_drawn => refine' KW.defAt_mk KX G ?za ?zl ?zc ?zk ?zb; (case za => k_is); (case zl => k_is); (case zc => k_is); (case zk => k_is); (case zb => exact fun _ _ _ _ _ _ us hl => match us, hl with | [_, _, _], _ => rfl)
        case d__law_kept => refine' KW.defAt_mk KX G ?za ?zl ?zc ?zk ?zb; (case za => k_is); (case zl => k_is); (case zc => k_is); (case zk => k_is); (case zb => exact fun _ _ _ _ _ _ us hl => match us, hl with | [_, _, _], _ => rfl)
        case d__law_long => refine' KW.defAt_mk KX G ?za ?zl ?zc ?zk ?zb; (case za => k_is); (case zl => k_is); (case zc => k_is); (case zk => k_is); (case zb => exact fun _ _ _ _ _ _ us hl => match us, hl with | [_], _ => rfl)
        case d_law => refine' KW.defAt_mk KX G ?za ?zl ?zc ?zk ?zb; (case za => k_is); (case zl => k_is); (case zc => k_is); (case zk => k_is); (case zb => exact fun _ _ _ _ _ _ us hl => match us, hl with | [_], _ => rfl)
        case d_collect_collecting => refine' KW.defAtA_mk KX G ?za ?zl ?zc ?zk ?zb; (case za => k_is); (case zl => k_is); (case zc => k_is); (case zk => k_is); (case zb => exact fun _ _ _ _ _ _ us hl => match us, hl with | [_, _], _ => rfl)
    obtain ⟨a, T, hp⟩ := T
    exact ⟨T.d_law, a.c_Store_close_up, a.p_Store_close_up, _, hp, T.kn_Store_close_up, T.kd_Store_close_up, fun base f fd TB F => K64.ok_law T TB f fd F⟩
#print axioms PySem.Challenge.cw_kilnwarden_k64_best_paths_holds
