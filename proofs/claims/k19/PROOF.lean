import PyProof.Rows.All
import Wide.All
import OpenK.AllK
import Wide.FinOn
import HandS.Base
import HandS.Call
import HandS.List
import HandS.Comp
import HandS.Ends
import HandS.Dict
import HandS.Iter
import HandS.Text
import HandS.Words
import HandS.WordsList
import HandS.More
import HandS.Codes
import HandS.Defaults
import HandS.Property
import HandS.WordsDict
import HandS.ClsMeth
import HandS.Style
import HandS.HeadHook1
import HandS.HeadHook2
import HandS.HeadEnd
import HandS.Head2
import KE.KStateDown
import HandS.IsInst
import HandS.Exc
import HandS.ExcOwn
import HandS.ExcIs
import HandS.MakeKw
import HandS.Lambda
import HandS.EndTab
import HandS.WordsExc
import HandS.HeadWalk
import HandS.HeadHook4
import HandS.HeadNt
import HandS.GenList
import HandS.OwnEq
import HandS.Conv
import HandS.FStr
import HandS.TryOnly
import HandS.ExcInit
import HandS.ExcField
import KE.KExcInit
import HandS.TryMany
import HandS.SortKw
import KE.DataMinMax
import HandS.MakeKwOnly
import PyProof.ReprNest
import HandS.Nested
import HandS.SortRule
import PyProof.IsiH_set
import PyProof.EqKinds
import PyProof.InstEq
import PyProof.ReprRoads
import HandS.RaiseMore
import PySem.Challenge.RW_devicewindows_k19_books_and_settings_mad
set_option Elab.async false
set_option linter.all false
set_option maxRecDepth 100000
set_option maxHeartbeats 4000000
namespace Z
open PySem PySem.Spec PyProof.Rows L2

/-! ### weaker readings -/
section
variable {X : Cx} {e : Expr}
theorem pe_imp {t t' : TE} (h : PE X e t) (k : ∀ σ H Q, t' σ H Q → t σ H Q) : PE X e t' := ⟨fun pins s σ H Q I q => h.run pins s σ H Q I (k σ H Q q)⟩
theorem pt_imp {t t' : TT} (h : PT X e t) (k : ∀ σ H Q, t' σ H Q → t σ H Q) : PT X e t' := ⟨fun pins s σ H Q I q => h.run pins s σ H Q I (k σ H Q q)⟩
theorem ps_imp {st : Stmt} {t t' : TS} (h : PS X st t) (k : ∀ D σ H, t' D σ H → t D σ H) : PS X st t' := ⟨fun pins s σ H D I q => h.run pins s σ H D I (k D σ H q)⟩
theorem or_imp {f : Value → Value → Sem Value} {r r' : R2} (h : OpR X f r) (k : ∀ x y H Q, r' x y H Q → r x y H Q) : OpR X f r' := fun pins s σ H x y v u Q I rx ry q => h pins s σ H x y v u Q I rx ry (k x y H Q q)
theorem or_or {f : Value → Value → Sem Value} {r r' : R2} (h : OpR X f r) (h' : OpR X f r') : OpR X f (fun x y H Q => r x y H Q ∨ r' x y H Q) := fun pins s σ H x y v u Q I rx ry q => q.elim (h pins s σ H x y v u Q I rx ry) (h' pins s σ H x y v u Q I rx ry)
theorem cr_imp {f : Value} {r r' : List V → Hp → VK → Prop} (h : CallR X f r) (k : ∀ xs H Q, r' xs H Q → r xs H Q) : CallR X f r' := fun pins s σ H xs us Q I rv q => h pins s σ H xs us Q I rv (k xs H Q q)
theorem cr_or {f : Value} {r r' : List V → Hp → VK → Prop} (h : CallR X f r) (h' : CallR X f r') : CallR X f (fun xs H Q => r xs H Q ∨ r' xs H Q) := fun pins s σ H xs us Q I rv q => q.elim (h pins s σ H xs us Q I rv) (h' pins s σ H xs us Q I rv)
theorem ix_imp {r r' : R2} (h : IxR X r) (k : ∀ x y H Q, r' x y H Q → r x y H Q) : IxR X r' := fun value slice pins s σ H x y v u Q I rx ry q hs => h value slice pins s σ H x y v u Q I rx ry (k x y H Q q) hs
theorem set_imp {t t' : TSet} (h : PSet X t) (k : ∀ o i v H Q, t' o i v H Q → t o i v H Q) : PSet X t' := fun pins s σ H o i v ov iv u Q I ro ri rv q => h pins s σ H o i v ov iv u Q I ro ri rv (k o i v H Q q)
theorem mt_imp {id : String} {r r' : V → List V → Hp → VK → Prop} (h : MtR X id r) (k : ∀ x xs H Q, r' x xs H Q → r x xs H Q) : MtR X id r' := fun pins s σ H x xs v us Q I rx rs q => h pins s σ H x xs v us Q I rx rs (k x xs H Q q)
end

/-! ### names -/
def zV (i : Nat) : TE := fun σ H Q => match σ[i]? with
  | some (some v) => Q v H
  | _ => False
theorem pz {X : Cx} (i : Nat) {x : Str} {pos : Pos} (hN : X.N[i]? = some x := by rfl) (hv : Vis X.env.scope x := by first | exact Or.inl rfl | exact Or.inr (Or.inl rfl) | exact Or.inr (Or.inr rfl)) (hd : (x == ("__debug__" : Str)) = false := by decide)
    (hcd : (x == ("__classdict__" : Str)) = false := by decide) : PE X (.Name x pos) (zV i) := pe_imp (pe_var hN hv hd hcd) fun σ H Q q => by
  unfold zV at q
  split at q
  · exact ⟨_, by assumption, q⟩
  · exact q.elim

/-! ### operators on values -/
def yAdd : R2 := fun x y H Q => match x, y with
  | .int i, .int j => Q (.int (i + j)) H
  | .str a, .str b => a.length + b.length ≤ sizeLine ∧ Q (.str (a ++ b)) H
  | .ref p, .ref q => (match H p, H q with
    | some (.lst xs), some (.lst ys) => xs.length + ys.length ≤ sizeLine ∧ ∀ l, H l = none → Q (.ref l) (upd H l (.lst (xs ++ ys)))
    | _, _ => False)
  | _, _ => False
def ySub : R2 := fun x y H Q => match x, y with
  | .int i, .int j => Q (.int (i - j)) H
  | _, _ => False
def yMul : R2 := fun x y H Q => match x, y with
  | .int i, .int j => CMul i j ∧ Q (.int (i * j)) H
  | .ref p, .int k => (match H p with
    | some (.lst xs) => (-(2 ^ 63) ≤ k ∧ k < 2 ^ 63 ∧ xs.length * k.toNat ≤ sizeLine) ∧ ∀ l, H l = none → Q (.ref l) (upd H l (.lst ((List.replicate k.toNat xs).flatten)))
    | _ => False)
  | _, _ => False
def yDiv : R2 := fun x y H Q => match x, y with
  | .int i, .int j => (0 < j ∧ j < 1073741824) ∧ Q (.int (i / j)) H
  | _, _ => False
def yMod : R2 := fun x y H Q => match x, y with
  | .int i, .int j => 0 < j ∧ Q (.int (i % j)) H
  | _, _ => False
def yPow : R2 := fun x y H Q => match x, y with
  | .int i, .int j => CPow i j ∧ Q (.int (i ^ j.toNat)) H
  | _, _ => False
def yNeg : V → Hp → VK → Prop := fun x H Q => match x with
  | .int i => Q (.int (-i)) H
  | _ => False
def yLt : R2 := fun x y H Q => match x, y with
  | .int i, .int j => Q (.bl (decide (i < j))) H
  | _, _ => False
def yLe : R2 := fun x y H Q => match x, y with
  | .int i, .int j => Q (.bl (decide (i ≤ j))) H
  | _, _ => False
def yGt : R2 := fun x y H Q => match x, y with
  | .int i, .int j => Q (.bl (decide (j < i))) H
  | _, _ => False
def yGe : R2 := fun x y H Q => match x, y with
  | .int i, .int j => Q (.bl (decide (j ≤ i))) H
  | _, _ => False
/-- == of scalars; of data at addresses -/
def yEq (K : PySem.W.Frag) : R2 := fun x y H Q => match x, y with
  | .int i, .int j => Q (.bl (decide (i = j))) H
  | .bl i, .bl j => Q (.bl (decide (i = j))) H
  | .str i, .str j => Q (.bl (decide (i = j))) H
  | .non, .non => Q (.bl true) H
  | .non, .int _ => Q (.bl false) H
  | .int _, .non => Q (.bl false) H
  | .non, .str _ => Q (.bl false) H
  | .str _, .non => Q (.bl false) H
  | .int _, .str _ => Q (.bl false) H
  | .str _, .int _ => Q (.bl false) H
  | _, _ => rEqD K x y H Q
def yNe (K : PySem.W.Frag) : R2 := fun x y H Q => match x, y with
  | .int i, .int j => Q (.bl (!decide (i = j))) H
  | .bl i, .bl j => Q (.bl (!decide (i = j))) H
  | .str i, .str j => Q (.bl (!decide (i = j))) H
  | .non, .non => Q (.bl false) H
  | .non, .int _ => Q (.bl true) H
  | .int _, .non => Q (.bl true) H
  | .non, .str _ => Q (.bl true) H
  | .str _, .non => Q (.bl true) H
  | .int _, .str _ => Q (.bl true) H
  | .str _, .int _ => Q (.bl true) H
  | _, _ => rNeD K x y H Q
def yIs0 : R2 := fun x y H Q => y = .non ∧ Q (.bl (decide (x = .non))) H
def yNotIs0 : R2 := fun x y H Q => y = .non ∧ Q (.bl (!decide (x = .non))) H

section
variable {X : Cx}
theorem o_add : OpR X (binaryOp .Add) yAdd := or_imp (or_or op_add (or_or op_add_str op_cat)) fun x y H Q q => by
  unfold yAdd at q
  split at q
  · exact .inl ⟨_, _, rfl, rfl, q⟩
  · exact .inr (.inl ⟨_, _, rfl, rfl, q.1, q.2⟩)
  · rename_i p r
    cases h1 : H p with
    | none => rw [h1] at q; exact q.elim
    | some o1 =>
      cases h2 : H r with
      | none => rw [h1, h2] at q; cases o1 <;> exact q.elim
      | some o2 =>
        rw [h1, h2] at q
        cases o1 <;> cases o2 <;> first | exact q.elim | exact .inr (.inr ⟨_, _, _, _, rfl, rfl, h1, h2, q.1, q.2⟩)
  · exact q.elim
theorem o_sub : OpR X (binaryOp .Sub) ySub := or_imp op_sub fun x y H Q q => by
  unfold ySub at q; split at q
  · exact ⟨_, _, rfl, rfl, q⟩
  · exact q.elim
theorem o_mul : OpR X (binaryOp .Mult) yMul := or_imp (or_or op_mul op_rep) fun x y H Q q => by
  unfold yMul at q; split at q
  · exact .inl ⟨_, _, rfl, rfl, q.1, q.2⟩
  · rename_i p k
    cases h1 : H p with
    | none => rw [h1] at q; exact q.elim
    | some o1 =>
      rw [h1] at q
      cases o1 with
      | lst xs => exact .inr ⟨_, _, _, rfl, rfl, h1, q.1.1, q.1.2.1, q.1.2.2, q.2⟩
      | _ => exact q.elim
  · exact q.elim
theorem o_div : OpR X (binaryOp .FloorDiv) yDiv := or_imp op_fdiv fun x y H Q q => by
  unfold yDiv at q; split at q
  · exact ⟨_, _, rfl, rfl, q.1, q.2⟩
  · exact q.elim
theorem o_mod : OpR X (binaryOp .Mod) yMod := or_imp op_mod fun x y H Q q => by
  unfold yMod at q; split at q
  · exact ⟨_, _, rfl, rfl, q.1, q.2⟩
  · exact q.elim
theorem o_pow : OpR X (binaryOp .Pow) yPow := or_imp op_pow fun x y H Q q => by
  unfold yPow at q; split at q
  · exact ⟨_, _, rfl, rfl, q.1, q.2⟩
  · exact q.elim
theorem u_neg : UnR X (unaryOp .USub) yNeg := fun pins s σ H x v Q I rx q => un_neg pins s σ H x v Q I rx (by
  unfold yNeg at q; split at q
  · exact ⟨_, rfl, q⟩
  · exact q.elim)
theorem o_lt : OpR X (compareOp .Lt) yLt := or_imp op_lt fun x y H Q q => by
  unfold yLt at q; split at q
  · exact ⟨_, _, rfl, rfl, q⟩
  · exact q.elim
theorem o_le : OpR X (compareOp .LtE) yLe := or_imp op_le fun x y H Q q => by
  unfold yLe at q; split at q
  · exact ⟨_, _, rfl, rfl, q⟩
  · exact q.elim
theorem o_gt : OpR X (compareOp .Gt) yGt := or_imp op_gt fun x y H Q q => by
  unfold yGt at q; split at q
  · exact ⟨_, _, rfl, rfl, q⟩
  · exact q.elim
theorem o_ge : OpR X (compareOp .GtE) yGe := or_imp op_ge fun x y H Q q => by
  unfold yGe at q; split at q
  · exact ⟨_, _, rfl, rfl, q⟩
  · exact q.elim
theorem o_eq (hu : X.A.units + 64 < cLine) : OpR X (compareOp .Eq) (yEq X.K) := or_imp (or_or op_eq (op_eqD hu)) fun x y H Q q => by
  unfold yEq at q
  split at q <;> first | exact .inr q | exact .inl ⟨rfl, by simpa using q⟩
theorem o_ne (hu : X.A.units + 64 < cLine) : OpR X (compareOp .NotEq) (yNe X.K) := or_imp (or_or op_ne (op_neD hu)) fun x y H Q q => by
  unfold yNe at q
  split at q <;> first | exact .inr q | exact .inl ⟨rfl, by simpa using q⟩
theorem o_is0 : OpR X (compareOp .Is) yIs0 := op_isN
theorem o_isnot0 : OpR X (compareOp .IsNot) yNotIs0 := op_notN
end

/-! ### a reading, closed under what follows -/
def up (t : TE) : TE := fun σ H Q => ∃ Q0 : VK, (∀ v H', Q0 v H' → Q v H') ∧ t σ H Q0
def upT (t : TT) : TT := fun σ H Q => ∃ Q0 : Bool → Hp → Prop, (∀ v H', Q0 v H' → Q v H') ∧ t σ H Q0
def upA (t : TA) : TA := fun σ H Q => ∃ Q0 : List V → Hp → Prop, (∀ v H', Q0 v H' → Q v H') ∧ t σ H Q0
def upR (r : R2) : R2 := fun x y H Q => ∃ Q0 : VK, (∀ v H', Q0 v H' → Q v H') ∧ r x y H Q0
section
variable {X : Cx} {e : Expr}
theorem pe_up {t : TE} (h : PE X e t) : PE X e (up t) := ⟨fun pins s σ H Q I ⟨Q0, k, q⟩ => thn (h.run pins s σ H Q0 I q) fun u s' ⟨v, H', I', r, q'⟩ => ⟨v, H', I', r, k v H' q'⟩⟩
theorem pt_up {t : TT} (h : PT X e t) : PT X e (upT t) := ⟨fun pins s σ H Q I ⟨Q0, k, q⟩ => thn (h.run pins s σ H Q0 I q) fun u s' ⟨H', I', q'⟩ => ⟨H', I', k u H' q'⟩⟩
theorem pa_up {es : List Expr} {t : TA} (h : PA X es t) : PA X es (upA t) := ⟨fun pos pins s σ H Q I ⟨Q0, k, q⟩ => thn (h.run pos pins s σ H Q0 I q) fun u s' ⟨v, H', I', r, q'⟩ => ⟨v, H', I', r, k v H' q'⟩⟩
theorem or_up {f : Value → Value → Sem Value} {r : R2} (h : OpR X f r) : OpR X f (upR r) := fun pins s σ H x y v u Q I rx ry ⟨Q0, k, q⟩ => thn (h pins s σ H x y v u Q0 I rx ry q) fun w s' ⟨z, H', I', rz, q'⟩ => ⟨z, H', I', rz, k z H' q'⟩
end

/-! ### tests -/
def zB (t : TE) : TT := fun σ H Q => t σ H fun x H' => match x with
  | .bl k => Q k H'
  | _ => False
section
variable {X : Cx} {a b c e : Expr} {ta tb tc t : TE} {pos : Pos}
theorem zB_imp {t : TE} {σ : L2.St} {H : Hp} {Q : Bool → Hp → Prop} (q : zB t σ H Q) : L2.tB (up t) σ H Q := ⟨_, fun v H' q => by
  split at q
  · exact ⟨_, rfl, q⟩
  · exact q.elim, q⟩
/-- a comparison as a test -/
theorem t_cmp {op : CmpOp} {r : R2} (ho : OpR X (compareOp op) r) (ha : PE X a ta) (hb : PE X b tb) (hm : behindInMarks op b = false) : PT X (.Compare a [op] [b] pos) (zB (tOp r ta tb)) :=
  pt_imp (pt_cmpR (or_up ho) (pe_up ha) (pe_up hb) hm) fun σ H Q q => ⟨_, fun x H1 q => ⟨_, fun y H2 q => ⟨_, fun z H3 q => by
    split at q
    · exact ⟨_, rfl, q⟩
    · exact q.elim, q⟩, q⟩, q⟩
/-- a value that is a bool, as a test -/
theorem t_val (h : PE X e t) (he : ∀ whole, isTrue e X.env whole = (do let v ← whole; standAt e.pos; holding [v] (truthy v)) := by intro _; rfl) : PT X e (zB t) :=
  pt_imp (pt_val (pe_up h) he) fun _ _ _ q => zB_imp q
/-- a op b op c -/
def zChain (r r' : R2) (ta tb tc : TE) : TE := fun σ H Q => ta σ H fun x H1 => tb σ H1 fun y H2 => r x y H2 fun z H3 => match z with
  | .bl k => (if k = true then tc σ H3 fun w' H4 => r' y w' H4 Q else Q (.bl false) H3)
  | _ => False
theorem zChain_imp {r r' : R2} {σ : L2.St} {H : Hp} {Q : VK} (q : zChain r r' ta tb tc σ H Q) : tChain (upR r) r' (up ta) (up tb) tc σ H Q := ⟨_, fun x H1 q => ⟨_, fun y H2 q => ⟨_, fun z H3 q => by
    split at q
    · exact ⟨_, rfl, q⟩
    · exact q.elim, q⟩, q⟩, q⟩
theorem e_chain {op op' : CmpOp} {r r' : R2} (ho : OpR X (compareOp op) r) (ho' : OpR X (compareOp op') r') (ha : PE X a ta) (hb : PE X b tb) (hc : PE X c tc)
    (hm : lastMarks [op, op'] [b, c] = false := by with_unfolding_all rfl) : PE X (.Compare a [op, op'] [b, c] pos) (zChain r r' ta tb tc) :=
  pe_imp (pe_chain (or_up ho) ho' (pe_up ha) (pe_up hb) hc hm) fun _ _ _ q => zChain_imp q
theorem t_chain {op op' : CmpOp} {r r' : R2} (ho : OpR X (compareOp op) r) (ho' : OpR X (compareOp op') r') (ha : PE X a ta) (hb : PE X b tb) (hc : PE X c tc)
    (hm : lastMarks [op, op'] [b, c] = false := by with_unfolding_all rfl) : PT X (.Compare a [op, op'] [b, c] pos) (zB (zChain r r' ta tb tc)) :=
  pt_imp (pt_chain (or_up ho) (or_up ho') (pe_up ha) (pe_up hb) (pe_up hc) hm) fun σ H Q q => ⟨_, fun x H1 q => ⟨_, fun y H2 q => ⟨_, fun z H3 q => by
    split at q
    · rename_i k
      refine ⟨k, rfl, ?_⟩
      cases k with
      | true =>
        rw [if_pos rfl] at q ⊢
        exact ⟨_, fun w H4 q => ⟨_, fun z2 H5 q => by
          split at q
          · exact ⟨_, rfl, q⟩
          · exact q.elim, q⟩, q⟩
      | false =>
        rw [if_neg Bool.false_ne_true] at q ⊢
        exact ⟨_, rfl, q⟩
    · exact q.elim, q⟩, q⟩, q⟩
def zAnd (ta tb : TE) : TE := fun σ H Q => ta σ H fun x H1 => match x with
  | .bl c => (if c = true then tb σ H1 Q else Q (.bl false) H1)
  | _ => False
def zOr (ta tb : TE) : TE := fun σ H Q => ta σ H fun x H1 => match x with
  | .bl c => (if c = true then Q (.bl true) H1 else tb σ H1 Q)
  | _ => False
def zNot (ta : TE) : TE := fun σ H Q => ta σ H fun x H1 => match x with
  | .bl c => Q (.bl (!c)) H1
  | _ => False
variable {rest : List Expr}
theorem e_and (ha : PE X a ta) (hb : PE X (.BoolOp .And (b :: rest) pos) tb) : PE X (.BoolOp .And (a :: b :: rest) pos) (zAnd ta tb) :=
  pe_imp (pe_and (pe_up ha) hb) fun σ H Q q => ⟨_, fun v H' q => by
    split at q
    · exact ⟨_, rfl, q⟩
    · exact q.elim, q⟩
theorem e_or (ha : PE X a ta) (hb : PE X (.BoolOp .Or (b :: rest) pos) tb) : PE X (.BoolOp .Or (a :: b :: rest) pos) (zOr ta tb) :=
  pe_imp (pe_or (pe_up ha) hb) fun σ H Q q => ⟨_, fun v H' q => by
    split at q
    · exact ⟨_, rfl, q⟩
    · exact q.elim, q⟩
theorem e_not (ha : PE X a ta) : PE X (.UnaryOp .Not a pos) (zNot ta) :=
  pe_imp (pe_not (pe_up ha)) fun σ H Q q => ⟨_, fun v H' q => by
    split at q
    · exact ⟨_, rfl, q⟩
    · exact q.elim, q⟩
end

/-! ### what stands at an address: a list or tuple that is read -/
def sqAt (K : PySem.W.Frag) (H : Hp) (p : Addr) (R : List V → Prop) : Prop := match H p with
  | some (.lst xs) => R xs
  | some (.tup xs) => R xs
  | _ => ∃ xs, (SqL K H p xs ∨ SqT K H p xs) ∧ R xs
theorem sqAt_ok {K : PySem.W.Frag} {H : Hp} {p : Addr} {R : List V → Prop} (h : sqAt K H p R) : ∃ xs, (SqL K H p xs ∨ SqT K H p xs) ∧ R xs := by
  unfold sqAt at h
  split at h
  · exact ⟨_, .inl (SqL.of (by assumption)), h⟩
  · exact ⟨_, .inr (SqT.of (by assumption)), h⟩
  · exact h
theorem sqAt_l {K : PySem.W.Frag} {H : Hp} {p : Addr} {R : List V → Prop} {xs : List V} (h : H p = some (.lst xs)) : sqAt K H p R = R xs := by unfold sqAt; rw [h]
theorem sqAt_t {K : PySem.W.Frag} {H : Hp} {p : Addr} {R : List V → Prop} {xs : List V} (h : H p = some (.tup xs)) : sqAt K H p R = R xs := by unfold sqAt; rw [h]
theorem sqAt_of {K : PySem.W.Frag} {H : Hp} {p : Addr} {R : List V → Prop} {xs : List V} (h : SqL K H p xs) (hn : ∀ ys, H p ≠ some (.lst ys)) (hm : ∀ ys, H p ≠ some (.tup ys)) (r : R xs) : sqAt K H p R := by
  unfold sqAt
  split
  · exact absurd (by assumption) (hn _)
  · exact absurd (by assumption) (hm _)
  · exact ⟨xs, .inl h, r⟩

/-! ### a[b] -/
def isNone {α : Type} (o : Option α) (Q : α → Prop) : Prop := match o with
  | some v => Q v
  | none => False
theorem isNone_some {α : Type} {v : α} {Q : α → Prop} : isNone (some v) Q = Q v := rfl
def yIx (K : PySem.W.Frag) : R2 := fun x y H Q => match x, y with
  | .ref p, .int i => (match H p with
    | some (.dK kvs) => isNone (valV kvs (Sum.inl i)) fun v => Q v H
    | _ => sqAt K H p fun xs => isNone (atI xs i) fun v => Q v H)
  | .ref p, .str k => (match H p with
    | some (.dK kvs) => isNone (valV kvs (Sum.inr k)) fun v => Q v H
    | _ => False)
  | .str z, .int i => z.length ≤ sizeLine ∧ isNone (atI z.cps.toList i) fun c => Q (.str ⟨#[c]⟩) H
  | _, _ => False
theorem isNone_ok {α : Type} {o : Option α} {Q : α → Prop} (h : isNone o Q) : ∃ v, o = some v ∧ Q v := by
  cases o with
  | none => exact h.elim
  | some v => exact ⟨v, rfl, h⟩
section
variable {X : Cx} {a b : Expr} {ta tb : TE} {pos : Pos}
theorem ix_dict (hu : X.A.units + 1 < cLine) : IxR X (fun x y H Q => ∃ p v, x = .ref p ∧ DGet H p y (some v) ∧ Q v H) := by
  intro value slice pins s σ H x y v u Q I rx ry h hs
  obtain ⟨p, w, rfl, g, q⟩ := h
  cases rx
  exact tail_any (dict_typeIs I g) PySem.F.slot_dict_getitem.lookup (d_getItem hu I g ry fun w' s3 I3 rw' => ⟨w, H, I3, rw', q⟩) hs
theorem ix_any (hu : X.A.units + 1 < cLine) : IxR X (yIx X.K) := ix_imp ((ix_list.or ix_tup).or (ix_str.or (ix_dict hu))) fun x y H Q q => by
  unfold yIx at q
  split at q
  · rename_i p i
    split at q
    · rename_i kvs hp
      obtain ⟨v, hv, q⟩ := isNone_ok q
      exact .inr (.inr ⟨p, v, rfl, by rw [← hv]; exact DGet.k (k := Sum.inl i) hp, q⟩)
    · obtain ⟨xs, hx, q⟩ := sqAt_ok q
      obtain ⟨v, hv, q⟩ := isNone_ok q
      rcases hx with hx | hx
      · exact .inl (.inl ⟨p, xs, i, v, rfl, rfl, hx, hv, q⟩)
      · exact .inl (.inr ⟨p, xs, i, v, rfl, rfl, hx, hv, q⟩)
  · rename_i p k
    split at q
    · rename_i kvs hp
      obtain ⟨v, hv, q⟩ := isNone_ok q
      exact .inr (.inr ⟨p, v, rfl, by rw [← hv]; exact DGet.k (k := Sum.inr k) hp, q⟩)
    · exact q.elim
  · rename_i z i
    obtain ⟨v, hv, q2⟩ := isNone_ok q.2
    exact .inr (.inl ⟨z, i, v, rfl, rfl, q.1, hv, q2⟩)
  · exact q.elim
theorem e_ix (hu : X.A.units + 1 < cLine) (ha : PE X a ta) (hb : PE X b tb) (hs : PlainIx b) : PE X (.Subscript a b pos) (tOp (yIx X.K) ta tb) := pe_ix (ix_any hu) ha hb hs
end

/-! ### a[b] = c -/
def ySet : V → V → V → Hp → (Hp → Prop) → Prop := fun o i v H Q => match o, i with
  | .ref p, .int k => (match H p with
    | some (.lst xs) => isNone (ixN xs.length k) fun j => Q (upd H p (.lst (xs.set j v)))
    | some (.dK kvs) => kvs.length < sizeLine ∧ Q (upd H p (.dK (putK kvs (Sum.inl k) v)))
    | _ => False)
  | .ref p, .str k => (match H p with
    | some (.dK kvs) => kvs.length < sizeLine ∧ Q (upd H p (.dK (putK kvs (Sum.inr k) v)))
    | _ => False)
  | _, _ => False
theorem set_any {X : Cx} (hu : X.A.units + 1 < cLine) : PSet X ySet := by
  intro pins s σ H o i v ov iv u Q I ro ri rv q
  unfold ySet at q
  split at q
  · rename_i p k
    split at q
    · rename_i xs hp
      obtain ⟨j, hj, q⟩ := isNone_ok q
      exact set_list pins s σ H _ _ v ov iv u Q I ro ri rv ⟨p, xs, k, j, rfl, rfl, hp, hj, q⟩
    · rename_i kvs hp
      cases ro
      exact d_setItem hu I (DPut.k (k := Sum.inl k) hp q.1) ri rv fun s' I' => ⟨_, I', q.2⟩
    · exact q.elim
  · rename_i p k
    split at q
    · rename_i kvs hp
      cases ro
      exact d_setItem hu I (DPut.k (k := Sum.inr k) hp q.1) ri rv fun s' I' => ⟨_, I', q.2⟩
    · exact q.elim
  · exact q.elim

/-! ### in, not in -/
def yIn (K : PySem.W.Frag) (neg : Bool) : R2 := fun x y H Q => match y with
  | .ref p => (match H p with
    | some (.dK kvs) => (match x with
      | .int i => Q (.bl (if neg then !(valV kvs (Sum.inl i)).isSome else (valV kvs (Sum.inl i)).isSome)) H
      | .str i => Q (.bl (if neg then !(valV kvs (Sum.inr i)).isSome else (valV kvs (Sum.inr i)).isSome)) H
      | _ => False)
    | _ => sqAt K H p fun xs => flatV x = true ∧ xs.all flatV = true ∧ Q (.bl (if neg then !inV x xs else inV x xs)) H)
  | _ => False
section
variable {X : Cx}
theorem o_in (hu : X.A.units + 1 < cLine) : OpR X (compareOp .In) (yIn X.K false) := by
  intro pins s σ H x y v u Q I rx ry q
  unfold yIn at q
  split at q
  · rename_i p
    split at q
    · rename_i kvs hp
      cases ry
      split at q
      · rename_i i
        exact d_in hu I (DGet.k (k := Sum.inl i) hp) rx fun s3 I3 => ⟨.bl _, H, I3, rfl, q⟩
      · rename_i i
        exact d_in hu I (DGet.k (k := Sum.inr i) hp) rx fun s3 I3 => ⟨.bl _, H, I3, rfl, q⟩
      · exact q.elim
    · obtain ⟨xs, hx, q1, q2, q⟩ := sqAt_ok q
      exact op_in_seq pins s σ H x _ v u Q I rx ry ⟨p, xs, rfl, hx, q1, q2, q⟩
  · exact q.elim
theorem o_notin (hu : X.A.units + 1 < cLine) : OpR X (compareOp .NotIn) (yIn X.K true) := by
  intro pins s σ H x y v u Q I rx ry q
  unfold yIn at q
  split at q
  · rename_i p
    split at q
    · rename_i kvs hp
      cases ry
      split at q
      · rename_i i
        exact d_notIn hu I (DGet.k (k := Sum.inl i) hp) rx fun s3 I3 => ⟨.bl _, H, I3, rfl, q⟩
      · rename_i i
        exact d_notIn hu I (DGet.k (k := Sum.inr i) hp) rx fun s3 I3 => ⟨.bl _, H, I3, rfl, q⟩
      · exact q.elim
    · obtain ⟨xs, hx, q1, q2, q⟩ := sqAt_ok q
      exact op_notIn_seq pins s σ H x _ v u Q I rx ry ⟨p, xs, rfl, hx, q1, q2, q⟩
  · exact q.elim
end

/-! ### fields and methods -/
def insAt (H : Hp) (x : V) (R : Addr → Addr → Addr → List (Str × V) → Prop) : Prop := match x with
  | .ref a => (match H a with
    | some (.ins C dx fs) => R a C dx fs
    | _ => False)
  | _ => False
theorem insAt_ok {H : Hp} {x : V} {R : Addr → Addr → Addr → List (Str × V) → Prop} (h : insAt H x R) : ∃ a C dx fs, x = .ref a ∧ H a = some (.ins C dx fs) ∧ R a C dx fs := by
  unfold insAt at h
  split at h
  · split at h
    · exact ⟨_, _, _, _, rfl, by assumption, h⟩
    · exact h.elim
  · exact h.elim
def zFld (K : PySem.W.Frag) (ta : TE) (f : Str) : TE := fun σ H Q => ta σ H fun x H1 => insAt H1 x fun a C dx fs => (Cls K C ∧ NoAttr K C f) ∧ isNone (fs.lookup f) fun v => Q v H1
def zSetF (K : PySem.W.Frag) (ta tv : TE) (f : Str) : TS := fun D σ H => tv σ H fun y H1 => ta σ H1 fun x H2 => insAt H2 x fun a C dx fs => (Cls K C ∧ NoAttr K C f ∧ fs.length < 1000) ∧ D.nx σ (upd H2 a (.ins C dx (putF f y fs)))
def zMeth (C : Addr) (m : Str) (sp : Sp) (dvs : List V) (E : XK) (ta : TE) (t : TA) : TE := fun σ H Q => ta σ H fun x H1 => insAt H1 x fun a C' dx fs => (C' = C ∧ fs.lookup m = none) ∧ t σ H1 fun vs H2 => sp (x :: (vs ++ dvs)) H2 Q E
section
variable {X : Cx} {e o value : Expr} {ta tv : TE} {f : Str} {pos pos' : Pos}
theorem e_fld (he : PE X e ta) (hb : attributeBase e f X.env (eval e X.env) = eval e X.env) : PE X (.Attribute e f pos) (zFld X.K ta f) :=
  pe_imp (pe_fld (pe_up he) hb) fun σ H Q q => ⟨_, fun x H1 q => by
    obtain ⟨a, C, dx, fs, rfl, ha, ⟨q1, q2⟩, q⟩ := insAt_ok q
    obtain ⟨v, hv, q⟩ := isNone_ok q
    exact ⟨a, C, dx, fs, v, rfl, ha, q1, q2, hv, q⟩, q⟩
theorem s_fld (ha : PE X o ta) (hv : PE X value tv) (hs : swapsWith value (some (.Attribute o f pos')) pos.line X.env = pure false) : PS X (.Assign [.Attribute o f pos'] value pos) (zSetF X.K ta tv f) :=
  ps_imp (ps_fld (pe_up ha) (pe_up hv) hs) fun D σ H q => ⟨_, fun y H1 q => ⟨_, fun x H2 q => by
    obtain ⟨a, C, dx, fs, rfl, ha, ⟨q1, q2, q3⟩, q⟩ := insAt_ok q
    exact ⟨a, C, dx, fs, rfl, ha, q1, q2, q3, q⟩, q⟩, q⟩
variable {k j : Nat} {C : Addr} {m : Str} {sp : Sp} {dvs : List V} {apos : Pos} {es : List Expr} {t : TA}
theorem e_mt {pl : Sem Bool} (c : C8.Met X.prog X.w X.K X.mg X.base k C m sp dvs) (hr : Room j X.A) (hk : k ≤ j) (he : PE X o ta) (ha : PA X (e :: es) t)
    (hst : starEach (e :: es) X.env = (false, eval e X.env) :: starEach es X.env := by rfl) (hpl : (backTo pos (starEach es X.env)).any (·.1) = false := by rfl)
    (ht : eval (.Call (.Attribute o m apos) (e :: es) [] pos) X.env = (do
      let ov ← eval o X.env
      standAt apos.atName
      let (f, first) ← holding [ov] (getMethod ov m pl)
      callWith pos f first (backTo pos (starEach (e :: es) X.env)) (backToKw pos (keywordEach [] X.env))) := by rfl) :
    PE X (.Call (.Attribute o m apos) (e :: es) [] pos) (zMeth C m sp dvs C8.E0 ta t) :=
  pe_imp (C8.pe_mt (pl := pl) c hr hk (pe_up he) ha hst hpl ht) fun σ H Q q => ⟨_, fun x H1 q => by
    obtain ⟨a, C', dx, fs, ex, ha, ⟨ec, q2⟩, q3⟩ := insAt_ok q
    subst ec
    exact ⟨a, dx, fs, ex, ha, q2, q3⟩, q⟩
theorem e_mt0 {pl : Sem Bool} (c : C8.Met X.prog X.w X.K X.mg X.base k C m sp dvs) (hr : Room j X.A) (hk : k ≤ j) (he : PE X o ta)
    (ht : eval (.Call (.Attribute o m apos) [] [] pos) X.env = (do
      let ov ← eval o X.env
      standAt apos.atName
      let (f, first) ← holding [ov] (getMethod ov m pl)
      callWith pos f first (backTo pos (starEach [] X.env)) (backToKw pos (keywordEach [] X.env))) := by rfl) :
    PE X (.Call (.Attribute o m apos) [] [] pos) (zMeth C m sp dvs C8.E0 ta tNil) :=
  pe_imp (C8.pe_mt0 (pl := pl) c hr hk (pe_up he) ht) fun σ H Q q => ⟨_, fun x H1 q => by
    obtain ⟨a, C', dx, fs, ex, ha, ⟨ec, q2⟩, q3⟩ := insAt_ok q
    subst ec
    exact ⟨a, dx, fs, ex, ha, q2, q3⟩, q⟩
end

/-! ### built-in functions -/
def yLen (K : PySem.W.Frag) : List V → Hp → VK → Prop := fun vs H Q => match vs with
  | [.ref p] => (match H p with
    | some (.dK kvs) => Q (.int kvs.length) H
    | _ => sqAt K H p fun xs => Q (.int xs.length) H)
  | [.str z] => z.length ≤ sizeLine ∧ Q (.int z.length) H
  | _ => False
/-- len of a list that may be the script -/
def yLenS (K : PySem.W.Frag) : List V → Hp → VK → Prop := fun vs H Q => ∃ p ys, vs = [.ref p] ∧ SqL K H p ys ∧ Q (.int ys.length) H
theorem c_lenS {X : Cx} : CallR X (.builtin "len") (yLenS X.K) := cr_imp call_len_seq fun xs H Q q => by
  obtain ⟨p, ys, rfl, h, q⟩ := q
  exact ⟨p, ys, rfl, .inl h, q⟩
def yAbs : List V → Hp → VK → Prop := fun vs H Q => match vs with
  | [.int i] => Q (.int (if i < 0 then -i else i)) H
  | _ => False
def yMax2 : List V → Hp → VK → Prop := fun vs H Q => match vs with
  | [.int i, .int j] => Q (.int (if j > i then j else i)) H
  | _ => False
def yMin2 : List V → Hp → VK → Prop := fun vs H Q => match vs with
  | [.int i, .int j] => Q (.int (if j < i then j else i)) H
  | _ => False
def yList (K : PySem.W.Frag) : List V → Hp → VK → Prop := fun vs H Q => match vs with
  | [.ref p] => sqAt K H p fun xs => ∀ l, H l = none → Q (.ref l) (upd H l (.lst xs))
  | _ => False
def yTuple (K : PySem.W.Frag) : List V → Hp → VK → Prop := fun vs H Q => match vs with
  | [.ref p] => (match H p with
    | some (.lst xs) => ∀ l, H l = none → Q (.ref l) (upd H l (.tup xs))
    | some (.tup _) => Q (.ref p) H
    | _ => False)
  | _ => False
/-- sorted of the int keys of a dict -/
def ySortedKeys : List V → Hp → VK → Prop := fun vs H Q => match vs with
  | [.ref p] => (match H p with
    | some (.dK kvs) => ∃ ks : List Int, kvs.map (·.1) = ks.map Sum.inl ∧ ks.length < 64 ∧ ∀ (ys : List Int) (l : Addr), ys.Perm ks → ys.Pairwise (· ≤ ·) → H l = none → Q (.ref l) (upd H l (.lst (ys.map V.int)))
    | _ => False)
  | _ => False
def yDict0 : List V → Hp → VK → Prop := fun vs H Q => match vs with
  | [] => ∀ p, H p = none → Q (.ref p) (upd H p (.dK []))
  | _ => False
section
variable {X : Cx}
theorem c_len : CallR X (.builtin "len") (yLen X.K) := cr_imp (cr_or call_len call_lenD) fun xs H Q q => by
  unfold yLen at q
  split at q
  · split at q
    · exact .inr ⟨_, _, rfl, by assumption, q⟩
    · obtain ⟨xs, hx, q⟩ := sqAt_ok q
      exact .inl ⟨_, xs.length, rfl, hx.elim (fun h => .inl ⟨xs, h, rfl⟩) (fun h => .inr ⟨xs, h, rfl⟩), q⟩
  · exact .inl ⟨_, _, rfl, ⟨q.1, rfl⟩, q.2⟩
  · exact q.elim
theorem c_abs : CallR X (.builtin "abs") yAbs := cr_imp call_abs fun xs H Q q => by
  unfold yAbs at q; split at q
  · exact ⟨_, rfl, q⟩
  · exact q.elim
theorem c_max2 (hc : X.calm = true) : CallR X (.builtin "max") yMax2 := cr_imp (call_max2 hc) fun xs H Q q => by
  unfold yMax2 at q; split at q
  · exact ⟨_, _, rfl, q⟩
  · exact q.elim
theorem c_min2 (hc : X.calm = true) : CallR X (.builtin "min") yMin2 := cr_imp (call_min2 hc) fun xs H Q q => by
  unfold yMin2 at q; split at q
  · exact ⟨_, _, rfl, q⟩
  · exact q.elim
theorem c_list : CallR X (.type "list") (yList X.K) := cr_imp call_list_of fun xs H Q q => by
  unfold yList at q; split at q
  · obtain ⟨xs, hx, q⟩ := sqAt_ok q
    exact ⟨_, xs, rfl, hx, q⟩
  · exact q.elim
theorem c_tuple : CallR X (.type "tuple") (yTuple X.K) := cr_imp call_tuple_of fun xs H Q q => by
  unfold yTuple at q; split at q
  · split at q
    · exact ⟨_, _, rfl, .inl ⟨SqL.of (by assumption), q⟩⟩
    · exact ⟨_, _, rfl, .inr ⟨SqT.of (by assumption), q⟩⟩
    · exact q.elim
  · exact q.elim
theorem c_sortedKeys (hc : X.calm = true) : CallR X (.builtin "sorted") ySortedKeys := cr_imp (call_sortedDI hc) fun xs H Q q => by
  unfold ySortedKeys at q; split at q
  · split at q
    · obtain ⟨ks, h1, h2, q⟩ := q
      exact ⟨_, _, ks, rfl, .inl (by assumption), h1, h2, q⟩
    · exact q.elim
  · exact q.elim
theorem c_dict0 : CallR X (.type "dict") yDict0 := by
  intro pins s σ H xs us Q I r q
  unfold yDict0 at q
  split at q
  · obtain rfl := Vals.zero r
    exact L2.FK.call_dict0 ⟨.ref s.heap.objs.size, _, I.laid (a := s.heap.objs.size) (o := .dK []) (t' := s.toks) (fun _ _ q => Heap.get?_push_of_some _ q) (Nat.le_refl _) (dk_empty s.heap I.big), rfl, q _ (I.hok.fresh (Nat.le_refl _))⟩
  · exact q.elim
end

/-! ### list methods -/
def isLst (H : Hp) (x : V) : Prop := match x with
  | .ref p => (match H p with
    | some (.lst _) => True
    | _ => False)
  | _ => False
theorem isLst_ok {K : PySem.W.Frag} {H : Hp} {x : V} (h : isLst H x) : tyV K "list" x H := by
  unfold isLst at h
  split at h
  · split at h
    · exact .inl ⟨rfl, _, SqL.of (by assumption)⟩
    · exact h.elim
  · exact h.elim
def yApp : V → List V → Hp → VK → Prop := fun x vs H Q => match x, vs with
  | .ref l, [y] => (match H l with
    | some (.lst xs) => xs.length < sizeLine ∧ Q .non (upd H l (.lst (xs ++ [y])))
    | _ => False)
  | _, _ => False
def zLM (r : V → List V → Hp → VK → Prop) (to : TE) (t : TA) : TE := fun σ H Q => to σ H fun x H1 => isLst H1 x ∧ t σ H1 fun xs H2 => r x xs H2 Q
section
variable {X : Cx} {o e : Expr} {to te : TE} {apos cpos : Pos}
theorem m_app : MtR X "list.append" yApp := mt_imp mt_append fun x xs H Q q => by
  unfold yApp at q
  split at q
  · split at q
    · exact ⟨_, _, _, rfl, rfl, by assumption, q.1, q.2⟩
    · exact q.elim
  · exact q.elim
theorem e_app (ho : PE X o to) (he : PE X e te)
    (hbase : attributeBase o "append" X.env (eval o X.env) = eval o X.env := by rfl)
    (hfew : ((backTo cpos (starEach [e] X.env)).all (fun x => !x.1) && (backToKw cpos (keywordEach [] X.env)).all (fun x => x.1.isSome)
      && decide ([e].length + ([] : List Keyword).length + (if ([] : List Keyword).isEmpty then 0 else 1) < 30)) = true := by rfl)
    (hline : (apos.endLine == cpos.line) = true := by rfl) (hs : starEach [e] X.env = (false, eval e X.env) :: starEach [] X.env := by rfl) (hplain : (backTo cpos (starEach [] X.env)).any (·.1) = false := by rfl) :
    PE X (.Call (.Attribute o "append" apos) [e] [] cpos) (zLM yApp to (tCons te tNil)) :=
  pe_imp (pe_bm PySem.F.plainAttrs_list PySem.F.slot_list_append PySem.F.type_list_append m_app (pe_up ho) (pa_cons he pa_nil hs) hbase hfew hline hs hplain) fun σ H Q q => ⟨_, fun x H1 q => ⟨isLst_ok q.1, q.2⟩, q⟩
end

/-! ### dict methods -/
def dkAt (H : Hp) (x : V) (R : Addr → List (Key × V) → Prop) : Prop := match x with
  | .ref p => (match H p with
    | some (.dK kvs) => R p kvs
    | _ => False)
  | _ => False
theorem dkAt_ok {H : Hp} {x : V} {R : Addr → List (Key × V) → Prop} (h : dkAt H x R) : ∃ p kvs, x = .ref p ∧ H p = some (.dK kvs) ∧ R p kvs := by
  unfold dkAt at h
  split at h
  · split at h
    · exact ⟨_, _, rfl, by assumption, h⟩
    · exact h.elim
  · exact h.elim
def keyOf (y : V) (R : Key → Prop) : Prop := match y with
  | .int i => R (Sum.inl i)
  | .str i => R (Sum.inr i)
  | _ => False
theorem keyOf_ok {y : V} {R : Key → Prop} (h : keyOf y R) : ∃ k, y = kV k ∧ R k := by
  unfold keyOf at h
  split at h
  · exact ⟨Sum.inl _, rfl, h⟩
  · exact ⟨Sum.inr _, rfl, h⟩
  · exact h.elim
/-- d.get(k), d.get(k, x), d.pop(k), d.pop(k, x) -/
def zGet1 (td ty : TE) : TE := fun σ H Q => td σ H fun x H1 => dkAt H1 x (fun _ _ => True) ∧ ty σ H1 fun y H2 => dkAt H2 x fun p kvs => keyOf y fun k => Q ((valV kvs k).getD .non) H2
def zGet2 (td ty tx : TE) : TE := fun σ H Q => td σ H fun x H1 => dkAt H1 x (fun _ _ => True) ∧ ty σ H1 fun y H2 => tx σ H2 fun z H3 => dkAt H3 x fun p kvs => keyOf y fun k => Q ((valV kvs k).getD z) H3
def zPop1 (td ty : TE) : TE := fun σ H Q => td σ H fun x H1 => dkAt H1 x (fun _ _ => True) ∧ ty σ H1 fun y H2 => dkAt H2 x fun p kvs => keyOf y fun k => isNone (valV kvs k) fun v => Q v (upd H2 p (.dK (dropK kvs k)))
def zPop2 (td ty tx : TE) : TE := fun σ H Q => td σ H fun x H1 => dkAt H1 x (fun _ _ => True) ∧ ty σ H1 fun y H2 => tx σ H2 fun z H3 => dkAt H3 x fun p kvs => keyOf y fun k =>
  (∀ v, valV kvs k = some v → Q v (upd H3 p (.dK (dropK kvs k)))) ∧ (valV kvs k = none → Q z H3)
section
variable {X : Cx} {o e f : Expr} {apos cpos : Pos} {td ty tx : TE}
theorem e_get1 (hu : X.A.units + 1 < cLine) (ho : PE X o td) (he : PE X e ty) (m : M1 X o "get" apos e cpos) : PE X (.Call (.Attribute o "get" apos) [e] [] cpos) (zGet1 td ty) :=
  pe_imp (pe_dget1 hu (pe_up ho) (pe_up he) m) fun σ H Q q => ⟨_, fun x H1 q => by
    obtain ⟨h1, q⟩ := q
    obtain ⟨p, kvs, rfl, hp, _⟩ := dkAt_ok h1
    refine ⟨p, rfl, .inl ⟨kvs, .inl hp⟩, _, fun y H2 q => ?_, q⟩
    obtain ⟨p', kvs', e, hp', q⟩ := dkAt_ok q
    cases e
    obtain ⟨k, ek, q5⟩ := keyOf_ok q
    subst ek
    exact ⟨_, DGet.k hp', q5⟩, q⟩
theorem e_get2 (hu : X.A.units + 1 < cLine) (ho : PE X o td) (he : PE X e ty) (hf : PE X f tx) (m : M2 X o "get" apos e f cpos) : PE X (.Call (.Attribute o "get" apos) [e, f] [] cpos) (zGet2 td ty tx) :=
  pe_imp (pe_dget2 hu (pe_up ho) (pe_up he) (pe_up hf) m) fun σ H Q q => ⟨_, fun x H1 q => by
    obtain ⟨h1, q⟩ := q
    obtain ⟨p, kvs, rfl, hp, _⟩ := dkAt_ok h1
    refine ⟨p, rfl, .inl ⟨kvs, .inl hp⟩, _, fun y H2 q => ⟨_, fun z H3 q => ?_, q⟩, q⟩
    obtain ⟨p', kvs', e, hp', q⟩ := dkAt_ok q
    cases e
    obtain ⟨k, ek, q5⟩ := keyOf_ok q
    subst ek
    exact ⟨_, DGet.k hp', q5⟩, q⟩
theorem e_pop1 (ho : PE X o td) (he : PE X e ty) (m : M1 X o "pop" apos e cpos) : PE X (.Call (.Attribute o "pop" apos) [e] [] cpos) (zPop1 td ty) :=
  pe_imp (pe_dpop1 (pe_up ho) (pe_up he) m) fun σ H Q q => ⟨_, fun x H1 q => by
    obtain ⟨h1, q⟩ := q
    obtain ⟨p, kvs, rfl, hp, _⟩ := dkAt_ok h1
    refine ⟨p, rfl, .inl ⟨kvs, .inl hp⟩, _, fun y H2 q => ?_, q⟩
    obtain ⟨p', kvs', e, hp', q⟩ := dkAt_ok q
    cases e
    obtain ⟨k, ek, q5⟩ := keyOf_ok q
    subst ek
    obtain ⟨v, hv, q6⟩ := isNone_ok q5
    exact ⟨_, _, _, hp', rfl, hv, q6⟩, q⟩
theorem e_pop2 (ho : PE X o td) (he : PE X e ty) (hf : PE X f tx) (m : M2 X o "pop" apos e f cpos) : PE X (.Call (.Attribute o "pop" apos) [e, f] [] cpos) (zPop2 td ty tx) :=
  pe_imp (pe_dpop2 (pe_up ho) (pe_up he) (pe_up hf) m) fun σ H Q q => ⟨_, fun x H1 q => by
    obtain ⟨h1, q⟩ := q
    obtain ⟨p, kvs, rfl, hp, _⟩ := dkAt_ok h1
    refine ⟨p, rfl, .inl ⟨kvs, .inl hp⟩, _, fun y H2 q => ⟨_, fun z H3 q => ?_, q⟩, q⟩
    obtain ⟨p', kvs', e, hp', q⟩ := dkAt_ok q
    cases e
    obtain ⟨k, ek, q5⟩ := keyOf_ok q
    subst ek
    exact ⟨_, _, hp', rfl, q5.1, q5.2⟩, q⟩
end

/-! ### for over a range, a list -/
def loopOn (J : It) (g : TG) (tb : TS) : TS := fun D σ H => ∃ W : Nat → Nat → L2.St → Hp → Prop, (∃ m, W 0 m σ H) ∧ ∀ i m σ H, W i m σ H →
  (J.stop i H ∧ D.nx σ H) ∨ (J.go i H ∧ ∃ N : L2.St → Hp → Prop, (∀ σ' H', N σ' H' → ∃ m', m' < m ∧ W (i + 1) m' σ' H') ∧ ∀ x H', J.yld i H x H' → g x σ H' fun σ2 H2 => tb { D with nx := N, ct := N, bk := D.nx } σ2 H2)
def intAt (v : V) (R : Int → Prop) : Prop := match v with
  | .int n => R n
  | _ => False
def refAt (v : V) (R : Addr → Prop) : Prop := match v with
  | .ref n => R n
  | _ => False
def zForR1 (te : TE) (g : TG) (tb : TS) : TS := fun D σ H => te σ H fun v H1 => intAt v fun n => (-(2 ^ 62) ≤ n ∧ n < 2 ^ 62) ∧ loopOn (Itr 0 n.toNat) g tb D σ H1
def zForR2 (ta te : TE) (g : TG) (tb : TS) : TS := fun D σ H => ta σ H fun u H1 => te σ H1 fun v H2 => intAt u fun m => intAt v fun n => (-(2 ^ 62) ≤ m ∧ m < 2 ^ 62 ∧ -(2 ^ 62) ≤ n ∧ n < 2 ^ 62) ∧ loopOn (Itr m (n - m).toNat) g tb D σ H2
def zForL (K : PySem.W.Frag) (te : TE) (g : TG) (tb : TS) : TS := fun D σ H => te σ H fun v H1 => refAt v fun a => (∃ xs, SqL K H1 a xs) ∧ loopOn (Itl K a) g tb D σ H1
def zForT (K : PySem.W.Frag) (te : TE) (g : TG) (tb : TS) : TS := fun D σ H => te σ H fun v H1 => refAt v fun a => (∃ xs, SqT K H1 a xs) ∧ loopOn (Itt K a) g tb D σ H1
theorem intAt_ok {v : V} {R : Int → Prop} (h : intAt v R) : ∃ n, v = .int n ∧ R n := by
  unfold intAt at h; split at h
  · exact ⟨_, rfl, h⟩
  · exact h.elim
theorem refAt_ok {v : V} {R : Addr → Prop} (h : refAt v R) : ∃ n, v = .ref n ∧ R n := by
  unfold refAt at h; split at h
  · exact ⟨_, rfl, h⟩
  · exact h.elim
section
variable {X : Cx} {tg e e2 : Expr} {body : List Stmt} {te ta : TE} {g : TG} {tb : TS} {pos p pos2 : Pos}
theorem s_forR1 (hp : PassesOwn (model X.prog X.w) X.A X.env X.xe) (hc : X.calm = true) (hg : Gl X "range") (hm : X.mg "range" = none) (he : PE X e te) (hgt : PG X tg g) (hb : PSs X body tb)
    (hst : starEach [e] X.env = [(false, eval e X.env)] := by rfl) (hs : ∀ x, foldedSetIterable (.Call (.Name "range" p) [e] [] pos2) X.env x = pure x := by intro _; rfl) :
    PS X (.For tg (.Call (.Name "range" p) [e] [] pos2) body [] pos) (zForR1 te g tb) :=
  ps_imp (ps_for hp hc (pi_range1 hg hm (pa_cons (pe_up he) pa_nil hst) hst) hgt hb hs) fun D σ H q => ⟨_, fun v H1 q => by
    obtain ⟨n, en, ⟨h1, h2⟩, q6⟩ := intAt_ok q
    subst en
    exact ⟨n, rfl, h1, h2, q6⟩, q⟩
theorem s_forR2 (hp : PassesOwn (model X.prog X.w) X.A X.env X.xe) (hc : X.calm = true) (hg : Gl X "range") (hm : X.mg "range" = none) (ha : PE X e2 ta) (he : PE X e te) (hgt : PG X tg g) (hb : PSs X body tb)
    (hst : starEach [e2, e] X.env = [(false, eval e2 X.env), (false, eval e X.env)] := by rfl) (hst2 : starEach [e] X.env = [(false, eval e X.env)] := by rfl) (hs : ∀ x, foldedSetIterable (.Call (.Name "range" p) [e2, e] [] pos2) X.env x = pure x := by intro _; rfl) :
    PS X (.For tg (.Call (.Name "range" p) [e2, e] [] pos2) body [] pos) (zForR2 ta te g tb) :=
  ps_imp (ps_for hp hc (pi_range2 hg hm (pa_cons (pe_up ha) (pa_cons (pe_up he) pa_nil hst2) (hst.trans (by rw [hst2]))) hst hst2) hgt hb hs) fun D σ H q => ⟨_, fun u H1 q => ⟨_, fun v H2 q => by
    obtain ⟨m, em, q5⟩ := intAt_ok q
    obtain ⟨n, en, ⟨h1, h2⟩, q6⟩ := intAt_ok q5
    subst em en
    exact ⟨m, n, rfl, ⟨h1, h2⟩, q6⟩, q⟩, q⟩
theorem s_forL (hp : PassesOwn (model X.prog X.w) X.A X.env X.xe) (hc : X.calm = true) (he : PE X e te) (hgt : PG X tg g) (hb : PSs X body tb)
    (hs : ∀ x, foldedSetIterable e X.env x = pure x := by intro _; rfl) : PS X (.For tg e body [] pos) (zForL X.K te g tb) :=
  ps_imp (ps_for hp hc (pi_list (pe_up he)) hgt hb hs) fun D σ H q => ⟨_, fun v H1 q => by
    obtain ⟨a, en, h1, q6⟩ := refAt_ok q
    subst en
    exact ⟨a, rfl, h1, q6⟩, q⟩
theorem s_forT (hp : PassesOwn (model X.prog X.w) X.A X.env X.xe) (hc : X.calm = true) (he : PE X e te) (hgt : PG X tg g) (hb : PSs X body tb)
    (hs : ∀ x, foldedSetIterable e X.env x = pure x := by intro _; rfl) : PS X (.For tg e body [] pos) (zForT X.K te g tb) :=
  ps_imp (ps_for hp hc (pi_tup (pe_up he)) hgt hb hs) fun D σ H q => ⟨_, fun v H1 q => by
    obtain ⟨a, en, h1, q6⟩ := refAt_ok q
    subst en
    exact ⟨a, rfl, h1, q6⟩, q⟩
end
theorem loopR {lo : Int} {n : Nat} {g : TG} {tb : TS} {D : Ends} {σ : L2.St} {H : Hp} (Pv : Nat → L2.St → Hp → Prop) (h0 : Pv 0 σ H)
    (hs : ∀ i σ H, i < n → Pv i σ H → g (.int (lo + i)) σ H fun σ2 H2 => tb { D with nx := Pv (i + 1), ct := Pv (i + 1), bk := D.nx } σ2 H2) (hd : ∀ σ H, Pv n σ H → D.nx σ H) : loopOn (Itr lo n) g tb D σ H := for_range Pv h0 hs hd
theorem loopL {K : PySem.W.Frag} {a : Addr} {xs : List V} {g : TG} {tb : TS} {D : Ends} {σ : L2.St} {H : Hp} (Pv : Nat → L2.St → Hp → Prop) (h0 : Pv 0 σ H) (hl : ∀ i σ H, i ≤ xs.length → Pv i σ H → SqL K H a xs)
    (hs : ∀ i x σ H, xs[i]? = some x → Pv i σ H → g x σ H fun σ2 H2 => tb { D with nx := Pv (i + 1), ct := Pv (i + 1), bk := D.nx } σ2 H2) (hd : ∀ σ H, Pv xs.length σ H → D.nx σ H) : loopOn (Itl K a) g tb D σ H := for_list Pv h0 hl hs hd
theorem loopT {K : PySem.W.Frag} {a : Addr} {xs : List V} {g : TG} {tb : TS} {D : Ends} {σ : L2.St} {H : Hp} (Pv : Nat → L2.St → Hp → Prop) (h0 : Pv 0 σ H) (hl : ∀ i σ H, i ≤ xs.length → Pv i σ H → SqT K H a xs)
    (hs : ∀ i x σ H, xs[i]? = some x → Pv i σ H → g x σ H fun σ2 H2 => tb { D with nx := Pv (i + 1), ct := Pv (i + 1), bk := D.nx } σ2 H2) (hd : ∀ σ H, Pv xs.length σ H → D.nx σ H) : loopOn (Itt K a) g tb D σ H := for_tup Pv h0 hl hs hd

/-! ### comprehensions -/
def compOn (J : It) (g : TG) (tt : TT) (te : TE) (vs : List Nat) : TE := fun σ H1 Q => ∀ D, H1 D = none → ∃ W : Nat → Nat → Hp → Prop, (∃ m, W 0 m (upd H1 D (.lst []))) ∧ ∀ i m H, W i m H →
  (J.stop i H ∧ Q (.ref D) H) ∨ (J.go i H ∧ ∃ Nx : Hp → Prop, (∀ H', Nx H' → ∃ m', m' < m ∧ W (i + 1) m' H') ∧ ∀ x H', J.yld i H x H' → g x (wipe σ vs) H' fun σ2 H2 => wipe σ2 vs = wipe σ vs ∧ tt σ2 H2 fun b H3 =>
    if b = true then te σ2 H3 fun y H4 => ∃ acc, H4 D = some (.lst acc) ∧ acc.length < sizeLine ∧ Nx (upd H4 D (.lst (acc ++ [y]))) else Nx H3)
def iR1 (te : TE) : TI := fun σ H R => te σ H fun v H1 => intAt v fun n => (-(2 ^ 62) ≤ n ∧ n < 2 ^ 62) ∧ R (Itr 0 n.toNat) H1
def iR2 (ta te : TE) : TI := fun σ H R => ta σ H fun u H1 => te σ H1 fun v H2 => intAt u fun m => intAt v fun n => (-(2 ^ 62) ≤ m ∧ m < 2 ^ 62 ∧ -(2 ^ 62) ≤ n ∧ n < 2 ^ 62) ∧ R (Itr m (n - m).toNat) H2
def iL (K : PySem.W.Frag) (te : TE) : TI := fun σ H R => te σ H fun v H1 => refAt v fun a => (∃ xs, SqL K H1 a xs) ∧ R (Itl K a) H1
def iT (K : PySem.W.Frag) (te : TE) : TI := fun σ H R => te σ H fun v H1 => refAt v fun a => (∃ xs, SqT K H1 a xs) ∧ R (Itt K a) H1
def zLc (wi : TI) (g : TG) (tt : TT) (te : TE) (vs : List Nat) : TE := fun σ H Q => wi σ H fun J H1 => compOn J g tt te vs σ H1 Q
theorem pi_imp {X : Cx} {tg it : Expr} {w w' : TI} (h : PI X tg it w) (k : ∀ σ H R, w' σ H R → w σ H R) : PI X tg it w' := ⟨fun pins s σ H R I q => h.run pins s σ H R I (k σ H R q)⟩
section
variable {X : Cx} {tg e e2 : Expr} {te ta : TE} {p pos2 : Pos}
theorem i_r1 (hg : Gl X "range") (hm : X.mg "range" = none) (he : PE X e te) (hst : starEach [e] X.env = [(false, eval e X.env)] := by rfl) : PI X tg (.Call (.Name "range" p) [e] [] pos2) (iR1 te) :=
  pi_imp (pi_range1 hg hm (pa_cons (pe_up he) pa_nil hst) hst) fun σ H R q => ⟨_, fun v H1 q => by
    obtain ⟨n, en, ⟨h1, h2⟩, q6⟩ := intAt_ok q
    subst en
    exact ⟨n, rfl, h1, h2, q6⟩, q⟩
theorem i_r2 (hg : Gl X "range") (hm : X.mg "range" = none) (ha : PE X e2 ta) (he : PE X e te) (hst : starEach [e2, e] X.env = [(false, eval e2 X.env), (false, eval e X.env)] := by rfl) (hst2 : starEach [e] X.env = [(false, eval e X.env)] := by rfl) : PI X tg (.Call (.Name "range" p) [e2, e] [] pos2) (iR2 ta te) :=
  pi_imp (pi_range2 hg hm (pa_cons (pe_up ha) (pa_cons (pe_up he) pa_nil hst2) (hst.trans (by rw [hst2]))) hst hst2) fun σ H R q => ⟨_, fun u H1 q => ⟨_, fun v H2 q => by
    obtain ⟨m, em, q5⟩ := intAt_ok q
    obtain ⟨n, en, ⟨h1, h2⟩, q6⟩ := intAt_ok q5
    subst em en
    exact ⟨m, n, rfl, ⟨h1, h2⟩, q6⟩, q⟩, q⟩
theorem i_l (he : PE X e te) : PI X tg e (iL X.K te) := pi_imp (pi_list (pe_up he)) fun σ H R q => ⟨_, fun v H1 q => by
    obtain ⟨a, en, h1, q6⟩ := refAt_ok q
    subst en
    exact ⟨a, rfl, h1, q6⟩, q⟩
theorem i_t (he : PE X e te) : PI X tg e (iT X.K te) := pi_imp (pi_tup (pe_up he)) fun σ H R q => ⟨_, fun v H1 q => by
    obtain ⟨a, en, h1, q6⟩ := refAt_ok q
    subst en
    exact ⟨a, rfl, h1, q6⟩, q⟩
end
theorem compR {lo : Int} {n : Nat} {g : TG} {tt : TT} {te : TE} {vs : List Nat} {σ : L2.St} {H1 : Hp} {Q : VK} (Pv : Addr → Nat → Hp → Prop) (h0 : ∀ D, H1 D = none → Pv D 0 (upd H1 D (.lst [])))
    (hs : ∀ D i H, H1 D = none → i < n → Pv D i H → g (.int (lo + i)) (wipe σ vs) H fun σ2 H2 => wipe σ2 vs = wipe σ vs ∧ tt σ2 H2 fun b H3 =>
      if b = true then te σ2 H3 fun y H4 => ∃ acc, H4 D = some (.lst acc) ∧ acc.length < sizeLine ∧ Pv D (i + 1) (upd H4 D (.lst (acc ++ [y]))) else Pv D (i + 1) H3) (hd : ∀ D H, H1 D = none → Pv D n H → Q (.ref D) H) :
    compOn (Itr lo n) g tt te vs σ H1 Q := fun D hD => lc_range (Pv D) (h0 D hD) (fun i H hi p => hs D i H hD hi p) (fun H p => hd D H hD p)
theorem compL {K : PySem.W.Frag} {a : Addr} {xs : List V} {g : TG} {tt : TT} {te : TE} {vs : List Nat} {σ : L2.St} {H1 : Hp} {Q : VK} (Pv : Addr → Nat → Hp → Prop) (h0 : ∀ D, H1 D = none → Pv D 0 (upd H1 D (.lst []))) (hl : ∀ D i H, H1 D = none → i ≤ xs.length → Pv D i H → SqL K H a xs)
    (hs : ∀ D i x H, H1 D = none → xs[i]? = some x → Pv D i H → g x (wipe σ vs) H fun σ2 H2 => wipe σ2 vs = wipe σ vs ∧ tt σ2 H2 fun b H3 =>
      if b = true then te σ2 H3 fun y H4 => ∃ acc, H4 D = some (.lst acc) ∧ acc.length < sizeLine ∧ Pv D (i + 1) (upd H4 D (.lst (acc ++ [y]))) else Pv D (i + 1) H3) (hd : ∀ D H, H1 D = none → Pv D xs.length H → Q (.ref D) H) :
    compOn (Itl K a) g tt te vs σ H1 Q := fun D hD => lc_list (Pv D) (h0 D hD) (fun i H hi p => hl D i H hD hi p) (fun i x H hx p => hs D i x H hD hx p) (fun H p => hd D H hD p)

/-! ### properties, constants of a class -/
def zProp (C : Addr) (sp : Sp) (dvs : List V) (E : XK) (ta : TE) : TE := fun σ H Q => ta σ H fun x H1 => insAt H1 x fun a C' dx fs => C' = C ∧ sp (.ref a :: dvs) H1 Q E
section
variable {X : Cx} {k j : Nat} {C p g : Addr} {f : Str} {fd : FuncData} {ps : List Str} {sp : Sp} {dvs : List V} {ds : List Value} {E : XK} {e : Expr} {pos : Pos} {ta : TE}
theorem e_prop (he : PE X e ta) (c : Cls X.K C) (hp : PropOf X.K C f p g) (F : FnOk X.prog X.w X.K X.mg X.base C8.CX0 k g fd ps sp) (hr : Room j X.A) (hk : k + 1 ≤ j) (hb : Binds X.K fd ps ds) (hd : Vals dvs ds)
    (hab : attributeBase e f X.env (eval e X.env) = eval e X.env := by rfl) : PE X (.Attribute e f pos) (zProp C sp dvs E ta) :=
  pe_imp (pe_prop (pe_up he) c hp F (hr.mono hk) hb hd (C8.pass0 (X := X.nox) (E := E)) hab) fun σ H Q q => ⟨_, fun x H1 q => by
    obtain ⟨a, C', dx, fs, ex, ha, ec, q3⟩ := insAt_ok q
    rw [ec] at ha
    exact ⟨a, dx, fs, ex, ha, q3⟩, q⟩
theorem e_propC (he : PE X e ta) (c : Cls X.K C) (hp : PropOf X.K C f p g) (F : ∃ fd, FnOk X.prog X.w X.K X.mg X.base C8.CX0 k g fd ps sp ∧ PySem.W.keepIn X.K (.ref g) = true ∧ L2.Binds X.K fd ps []) (hr : Room j X.A) (hk : k + 1 ≤ j)
    (hab : attributeBase e f X.env (eval e X.env) = eval e X.env := by rfl) : PE X (.Attribute e f pos) (zProp C sp [] E ta) := by
  obtain ⟨fd, F, _, b⟩ := F
  exact e_prop he c hp F hr hk b .nil hab
end

/-! ### small facts for readings -/
theorem at0 {α : Type} {a : α} {l : List α} : atI (a :: l) 0 = some a := by
  unfold atI ixN; rw [if_pos (by decide), if_pos (by simp only [List.length_cons]; omega)]; rfl
theorem at1 {α : Type} {a b : α} {l : List α} : atI (a :: b :: l) 1 = some b := by
  unfold atI ixN; rw [if_pos (by decide), if_pos (by simp only [List.length_cons]; omega)]; rfl
theorem at2 {α : Type} {a b c : α} {l : List α} : atI (a :: b :: c :: l) 2 = some c := by
  unfold atI ixN; rw [if_pos (by decide), if_pos (by simp only [List.length_cons]; omega)]; rfl
theorem ix0 {α : Type} {a : α} {l : List α} : ixN (a :: l).length 0 = some 0 := by
  unfold ixN; rw [if_pos (by decide), if_pos (by simp only [List.length_cons]; omega)]; rfl
theorem ix1 {α : Type} {a b : α} {l : List α} : ixN (a :: b :: l).length 1 = some 1 := by
  unfold ixN; rw [if_pos (by decide), if_pos (by simp only [List.length_cons]; omega)]; rfl
theorem ix2 {α : Type} {a b c : α} {l : List α} : ixN (a :: b :: c :: l).length 2 = some 2 := by
  unfold ixN; rw [if_pos (by decide), if_pos (by simp only [List.length_cons]; omega)]; rfl
theorem upd_comm {H : Hp} {a b : Addr} {o u : HO} (h : a ≠ b) : upd (upd H a o) b u = upd (upd H b u) a o := by
  funext c
  unfold upd
  by_cases h1 : c = b
  · by_cases h2 : c = a
    · exact absurd (h2.symm.trans h1) h
    · simp [h1, h2, Ne.symm h]
  · simp [h1]

/-! ### comprehensions that leave what stood -/
/-- J gives item 0 .. item (n - 1), whatever is new -/
def Steady (J : It) (n : Nat) (item : Nat → V) (H1 : Hp) : Prop := ∀ H', Same H1 H' → (∀ i, n ≤ i → J.stop i H') ∧ (∀ i, i < n → J.go i H') ∧ ∀ i x H'', i < n → J.yld i H' x H'' → H'' = H' ∧ x = item i
theorem steady_l {K : PySem.W.Frag} {a : Addr} {xs : List V} {H1 : Hp} (h : SqL K H1 a xs) : Steady (Itl K a) xs.length (fun i => xs.getD i .non) H1 := fun H' s => by
  have h' := s.seq h
  refine ⟨fun i hi => ⟨xs, h', hi⟩, fun i hi => ⟨xs, xs[i], h', by simp [hi]⟩, fun i x H'' hi y => ?_⟩
  obtain ⟨e, y⟩ := y
  have e2 := y xs h'
  refine ⟨e, ?_⟩
  show x = xs.getD i V.non
  rw [List.getD_eq_getElem?_getD, e2] <;> rfl
theorem steady_t {K : PySem.W.Frag} {a : Addr} {xs : List V} {H1 : Hp} (h : H1 a = some (.tup xs)) : Steady (Itt K a) xs.length (fun i => xs.getD i .non) H1 := fun H' s => by
  have h' : SqT K H' a xs := SqT.of (s _ _ h)
  refine ⟨fun i hi => ⟨xs, h', hi⟩, fun i hi => ⟨xs, xs[i], h', by simp [hi]⟩, fun i x H'' hi y => ?_⟩
  obtain ⟨e, y⟩ := y
  have e2 := y xs h'
  refine ⟨e, ?_⟩
  show x = xs.getD i V.non
  rw [List.getD_eq_getElem?_getD, e2] <;> rfl
theorem steady_r {lo : Int} {n : Nat} {H1 : Hp} : Steady (Itr lo n) n (fun i => .int (lo + i)) H1 := fun H' _ => ⟨fun _ hi => hi, fun _ hi => hi, fun _ _ _ _ y => y⟩
theorem comp_core {J : It} {n : Nat} {item : Nat → V} {g : TG} {tt : TT} {te : TE} {vs : List Nat} {σ : L2.St} {H1 : Hp} {Q : VK} (S : Steady J n item H1) (Pv : Addr → Nat → Hp → Prop) (hsame : ∀ D i H, H1 D = none → Pv D i H → Same H1 H)
    (h0 : ∀ D, H1 D = none → Pv D 0 (upd H1 D (.lst [])))
    (hs : ∀ D i H, H1 D = none → i < n → Pv D i H → g (item i) (wipe σ vs) H fun σ2 H2 => wipe σ2 vs = wipe σ vs ∧ tt σ2 H2 fun b H3 =>
      if b = true then te σ2 H3 fun y H4 => ∃ acc, H4 D = some (.lst acc) ∧ acc.length < sizeLine ∧ Pv D (i + 1) (upd H4 D (.lst (acc ++ [y]))) else Pv D (i + 1) H3) (hd : ∀ D H, H1 D = none → Pv D n H → Q (.ref D) H) :
    compOn J g tt te vs σ H1 Q := by
  intro D hD
  refine ⟨fun i m H => m = n - i ∧ i ≤ n ∧ Pv D i H, ⟨n, by simp, Nat.zero_le _, h0 D hD⟩, ?_⟩
  rintro i m H ⟨rfl, hi, p⟩
  obtain ⟨s1, s2, s3⟩ := S H (hsame D i H hD p)
  by_cases hlt : i < n
  · refine .inr ⟨s2 i hlt, Pv D (i + 1), fun H' p' => ⟨n - (i + 1), by omega, rfl, hlt, p'⟩, fun x H' y => ?_⟩
    obtain ⟨e1, e2⟩ := s3 i x H' hlt y
    rw [e1, e2]
    exact hs D i H hD hlt p
  · have e : i = n := by omega
    subst e
    exact .inl ⟨s1 i (Nat.le_refl _), hd D H hD p⟩
/-- elements that are new tuples -/
theorem comp_tups {J : It} {n j : Nat} {item : Nat → V} {te : TE} {vs : List Nat} {σ : L2.St} {H1 : Hp} {Q : VK} (S : Steady J n item H1) (hn : n < sizeLine) (f : Nat → List V) (hw : ∀ x, wipe ((wipe σ vs).set j (some x)) vs = wipe σ vs)
    (he : ∀ i H', i < n → Same H1 H' → ∀ Q' : VK, (∀ t, H' t = none → Q' (.ref t) (upd H' t (.tup (f i)))) → te ((wipe σ vs).set j (some (item i))) H' Q')
    (k : ∀ (D : Addr) (H' : Hp) (ts : List Addr), H1 D = none → Same H1 H' → ts.length = n → H' D = some (.lst (ts.map V.ref)) → (∀ (i : Nat) t, ts[i]? = some t → H' t = some (.tup (f i))) → Q (.ref D) H') : compOn J (gName j) tYes te vs σ H1 Q := by
  refine comp_core S (fun D i H' => Same H1 H' ∧ ∃ ts : List Addr, ts.length = i ∧ H' D = some (.lst (ts.map V.ref)) ∧ ∀ (j : Nat) t, ts[j]? = some t → H' t = some (.tup (f j))) (fun D i H _ p => p.1) ?_ ?_ ?_
  · intro D hD
    refine ⟨fun b o e => by rw [upd_ne (ne_of_none e hD)]; exact e, [], rfl, upd_same, fun j t h => by simp at h⟩
  · rintro D i H hD hi ⟨s, ts, hl, hDl, ht⟩
    refine ⟨hw _, ?_⟩
    show te ((wipe σ vs).set j (some (item i))) H _
    refine he i H hi s _ fun t htn => ?_
    have nDt : D ≠ t := ne_of_none hDl htn
    refine ⟨ts.map V.ref, by rw [upd_ne nDt]; exact hDl, by rw [List.length_map]; omega, fun b o e => ?_, ts ++ [t], by rw [List.length_append, hl] <;> rfl, by rw [upd_same, List.map_append] <;> rfl, fun j' t' h => ?_⟩
    · rw [upd_ne (ne_of_none e hD), upd_ne (ne_of_none (s b o e) htn)]
      exact s b o e
    · by_cases hj : j' < ts.length
      · rw [List.getElem?_append_left hj] at h
        have h' := ht j' t' h
        rw [upd_ne (ne_of h' hDl (by intro z; cases z)), upd_ne (ne_of_none h' htn)]
        exact h'
      · rw [List.getElem?_append_right (by omega)] at h
        have hj2 : j' - ts.length = 0 := by
          have := (List.getElem?_eq_some_iff.mp h).1
          simp at this
          omega
        rw [hj2] at h
        have e1 : t = t' := by simpa using h
        subst e1
        rw [upd_ne nDt.symm, upd_same]
        have : j' = i := by omega
        rw [this]
  · rintro D H hD ⟨s, ts, hl, hDl, ht⟩
    exact k D H ts hD s hl hDl ht
/-- elements that are values -/
theorem comp_vals {J : It} {n j : Nat} {item : Nat → V} {te : TE} {vs : List Nat} {σ : L2.St} {H1 : Hp} {Q : VK} (S : Steady J n item H1) (hn : n < sizeLine) (f : Nat → V) (hw : ∀ x, wipe ((wipe σ vs).set j (some x)) vs = wipe σ vs)
    (he : ∀ i H', i < n → Same H1 H' → ∀ Q' : VK, Q' (f i) H' → te ((wipe σ vs).set j (some (item i))) H' Q')
    (k : ∀ D, H1 D = none → Q (.ref D) (upd H1 D (.lst ((List.range n).map f)))) : compOn J (gName j) tYes te vs σ H1 Q := by
  refine comp_core S (fun D i H' => H' = upd H1 D (.lst ((List.range i).map f))) (fun D i H hD p b o e => ?_) (fun D _ => rfl) ?_ ?_
  · rw [p, upd_ne (ne_of_none e hD)]
    exact e
  · rintro D i H hD hi rfl
    refine ⟨hw _, ?_⟩
    show te ((wipe σ vs).set j (some (item i))) _ _
    refine he i _ hi (fun b o e => by rw [upd_ne (ne_of_none e hD)]; exact e) _ ⟨_, upd_same, by rw [List.length_map, List.length_range]; omega, ?_⟩
    rw [upd_upd, List.range_succ, List.map_append] <;> rfl
  · rintro D H hD rfl
    exact k D hD
/-- a tuple of tuples of flat things, as data -/
theorem dp_all {K : PySem.W.Frag} {H : Hp} : ∀ {vs : List V} {ds : List PyData}, vs.length = ds.length → (∀ (i : Nat) v d, vs[i]? = some v → ds[i]? = some d → Dp K H v d) → DpAll K H vs ds
  | [], [], _, _ => .nil
  | [], _ :: _, h, _ => by cases h
  | _ :: _, [], h, _ => by cases h
  | v :: vs, d :: ds, h, k => .cons (k 0 v d rfl rfl) (dp_all (by simpa using h) fun i v' d' h1 h2 => k (i + 1) v' d' (by simpa using h1) (by simpa using h2))

/-! ### data that == takes -/
theorem shaped_of {d : PyData} {n : Nat} (h1 : d.canLay0 = true) (h2 : d.depth ≤ n) (hn : n ≤ 64) : SeqAt.shaped d = true := by
  unfold SeqAt.shaped
  rw [h1, Bool.true_and]
  exact decide_eq_true (Nat.le_trans h2 hn)
theorem lay_all : ∀ {l : List PyData}, (∀ x ∈ l, x.canLay0 = true) → PyData.canLayAll0 l = true
  | [], _ => by simp only [PyData.canLayAll0]
  | x :: r, h => by
    simp only [PyData.canLayAll0, Bool.and_eq_true]
    exact ⟨h x (List.mem_cons_self ..), lay_all fun y hy => h y (List.mem_cons_of_mem _ hy)⟩
theorem depth_all {n : Nat} : ∀ {l : List PyData}, (∀ x ∈ l, x.depth ≤ n) → PyData.depthAll l ≤ n
  | [], _ => by simp only [PyData.depthAll]; exact Nat.zero_le _
  | x :: r, h => by
    simp only [PyData.depthAll]
    exact Nat.max_le.mpr ⟨h x (List.mem_cons_self ..), depth_all fun y hy => h y (List.mem_cons_of_mem _ hy)⟩
theorem lay_list {l : List PyData} (h : ∀ x ∈ l, x.canLay0 = true) : (PyData.list l).canLay0 = true := by simp only [PyData.canLay0]; exact lay_all h
theorem lay_tuple {l : List PyData} (h : ∀ x ∈ l, x.canLay0 = true) : (PyData.tuple l).canLay0 = true := by simp only [PyData.canLay0]; exact lay_all h
theorem depth_list {n : Nat} {l : List PyData} (h : ∀ x ∈ l, x.depth ≤ n) : (PyData.list l).depth ≤ n + 1 := by simp only [PyData.depth]; exact Nat.succ_le_succ (depth_all h)
theorem depth_tuple {n : Nat} {l : List PyData} (h : ∀ x ∈ l, x.depth ≤ n) : (PyData.tuple l).depth ≤ n + 1 := by simp only [PyData.depth]; exact Nat.succ_le_succ (depth_all h)
/-- two equal data -/
theorem ne_same {K : PySem.W.Frag} {x y : V} {H : Hp} {Q : VK} {d : PyData} (h1 : Dp K H x d) (h2 : Dp K H y d) (hs : SeqAt.shaped d = true) (q : Q (.bl false) H) : rNeD K x y H Q :=
  ⟨d, d, h1, h2, hs, hs, by rw [SeqAt.eqv_refl d (SeqAt.canLay_of_shaped hs)]; exact q⟩
theorem eq_same {K : PySem.W.Frag} {x y : V} {H : Hp} {Q : VK} {d : PyData} (h1 : Dp K H x d) (h2 : Dp K H y d) (hs : SeqAt.shaped d = true) (q : Q (.bl true) H) : rEqD K x y H Q :=
  ⟨d, d, h1, h2, hs, hs, by rw [SeqAt.eqv_refl d (SeqAt.canLay_of_shaped hs)]; exact q⟩

theorem sqT_same {K : PySem.W.Frag} {H H' : Hp} {a : Addr} {xs : List V} (e : Same H H') (h : SqT K H a xs) : SqT K H' a xs := by
  rcases h with (h | ⟨o, h⟩) | h
  · exact .inl (.inl (e _ _ h))
  · exact .inl (.inr ⟨o, e _ _ h⟩)
  · exact .inr h
mutual
theorem dp_same {K : PySem.W.Frag} {H H' : Hp} (s : Same H H') : ∀ (d : PyData) (v : V), Dp K H v d → Dp K H' v d
  | .none, _, h => by cases h; exact .non
  | .bool b, _, h => by cases h; exact .bl b
  | .int i, _, h => by cases h; exact .int i
  | .str x, _, h => by cases h; exact .str x
  | .list ds, _, h => by
    cases h with
    | lst hs ha => exact .lst (s.seq hs) (dpAll_same s ds _ ha)
  | .tuple ds, _, h => by
    cases h with
    | tup hs ha => exact .tup (sqT_same s hs) (dpAll_same s ds _ ha)
  | .dict _, _, h => by cases h
theorem dpAll_same {K : PySem.W.Frag} {H H' : Hp} (s : Same H H') : ∀ (ds : List PyData) (vs : List V), DpAll K H vs ds → DpAll K H' vs ds
  | [], _, h => by cases h; exact .nil
  | d :: ds, _, h => by
    cases h with
    | cons h1 h2 => exact .cons (dp_same s d _ h1) (dpAll_same s ds _ h2)
end
end Z
namespace Hk
open PySem PySem.Spec PyProof.Rows L2
/-! ### a def at a path -/
structure DP where
  at_ : PySem.W.Frag → Addr
  name : Str
  qual : Str
  params : Arguments
  body : List Stmt
  scope : Scope
  dfl : List He.Dv := []
  kwd : List (Str × He.Dv) := []
def fnW (K : PySem.W.Frag) (a : Addr) : He.FnW := match K.lookup a with
  | some ⟨_, _, .func fd, _⟩ => some (fd.name, fd.qualname, fd.params, fd.body, fd.scope, fd.globals, fd.closure, fd.builtins)
  | _ => none
def DP.val (d : DP) : He.FnW := some (d.name, d.qual, d.params, .stmts d.body, d.scope, mainGlobals, [], builtinsNs)
def DP.dvs (K : PySem.W.Frag) (d : DP) : List V := d.dfl.map (He.Dv.v K)
def DP.kws (K : PySem.W.Frag) (d : DP) : List (Str × V) := d.kwd.map fun q => (q.1, q.2.v K)
def DP.ok (K : PySem.W.Frag) (d : DP) : Bool := PySem.W.keepIn K (.ref (d.at_ K)) && (match K.lookup (d.at_ K) with
  | some ⟨_, _, .func fd, _⟩ => PySem.W.codeIn K fd.code d.qual && (He.dflB K fd.defaults (d.dvs K) && He.kwdB K fd.kwdefaults (d.kws K))
  | _ => false)
theorem DP.funD {K : PySem.W.Frag} {d : DP} (e : fnW K (d.at_ K) = d.val) (c : d.ok K = true) : ∃ fd, FunD K d.name d.qual d.params d.body d.scope (d.dvs K) (d.kws K) (d.at_ K) fd := by
  obtain ⟨kp, c2⟩ := He.ba c
  unfold fnW at e
  cases q : K.lookup (d.at_ K) with
  | none =>
    rw [q] at c2
    cases c2
  | some o =>
    obtain ⟨oc, od, dt, osl⟩ := o
    rw [q] at c2 e
    cases dt with
    | func fd =>
      obtain ⟨n1, n2, n3, n4, n5, n6, n7, n8, n9, n10, n11, n12, n13, n14, n15⟩ := fd
      have e2 : (some (n1, n2, n3, n4, n5, n6, n7, n15) : He.FnW) = some (d.name, d.qual, d.params, .stmts d.body, d.scope, mainGlobals, [], builtinsNs) := e
      simp only [Option.some.injEq, Prod.mk.injEq] at e2
      obtain ⟨h1, h2, h3, h4, h5, h6, h7, h8⟩ := e2
      subst h1 h2 h3 h4 h5 h6 h7 h8
      have c3 : (PySem.W.codeIn K n13 d.qual && (He.dflB K n8 (d.dvs K) && He.kwdB K n9 (d.kws K))) = true := c2
      obtain ⟨k1, k2⟩ := He.ba c3
      obtain ⟨k3, k4⟩ := He.ba k2
      exact ⟨_, ⟨oc, od, n8, n9, n10, n11, n12, n13, n14, osl, rfl, q, k1, He.dflB_ok k3, He.kwdB_ok k4⟩, kp⟩
    | _ => cases c2
/-! ### facts -/
abbrev Fact := PySem.W.Frag → Bool
def Fact.of (f : He.Fa) : Fact := fun K => f.ok K
/-- a property's own address, its getter's -/
def prG (C f : Str) (K : PySem.W.Frag) : Addr := match PySem.W.recIn K (He.ma K (He.ga K C) f) "property" with
  | some (.ref g :: _) => g
  | _ => 0
def propB (C f : Str) : Fact := fun K => He.eqO (PySem.W.findIn K (.ref (He.ga K C)) f) (some (some (.ref (He.ma K (He.ga K C) f)))) &&
  (He.eqO (PySem.W.specialIn K (.ref (He.ma K (He.ga K C) f)) "__get__") (some (some (.builtin "property.__get__"))) &&
  (decide (PySem.W.takesIn K (.ref (He.ma K (He.ga K C) f)) = some true) && (match PySem.W.recIn K (He.ma K (He.ga K C) f) "property" with
    | some (.ref _ :: _) => true
    | _ => false)))
theorem propB_ok {K : PySem.W.Frag} {C f : Str} (h : propB C f K = true) : PropOf K (He.ga K C) f (He.ma K (He.ga K C) f) (prG C f K) := by
  obtain ⟨h1, h⟩ := He.ba h
  obtain ⟨h2, h⟩ := He.ba h
  obtain ⟨h3, h4⟩ := He.ba h
  refine ⟨He.eqO_ok h1, He.eqO_ok h2, of_decide_eq_true h3, ?_⟩
  unfold prG
  split at h4
  · rename_i g rest e
    rw [e]
    exact ⟨rest, rfl⟩
  · cases h4
/-- C.f is a constant of the class -/
def CK (K : PySem.W.Frag) (C : Addr) (f : Str) (v : V) : Prop := ∃ mc u, ClX.CRead K C mc ∧ ClX.CVal K C mc f v u
def cvalB (C f : Str) (v : V) : Fact := fun K => PySem.W.readsIn K (He.ga K C) (.type "type") && (He.eqO (PySem.W.specialIn K (.ref (He.ga K C)) "__getattribute__") (some (some (.builtin "type.__getattribute__"))) &&
  (match PySem.W.findCls K (.ref (He.ga K C)) (.type "type") f with
    | some (.val u) => He.relB v u
    | _ => false))
theorem cvalB_ok {K : PySem.W.Frag} {C f : Str} {v : V} (h : cvalB C f v K = true) : CK K (He.ga K C) f v := by
  obtain ⟨h1, h⟩ := He.ba h
  obtain ⟨h2, h3⟩ := He.ba h
  split at h3
  · rename_i u e
    exact ⟨_, u, ⟨h1, He.eqO_ok h2⟩, ⟨e, He.relB_ok h3⟩⟩
  · cases h3
theorem e_cval {X : Cx} {C : Addr} {x f : Str} {v : V} {p pos : Pos} (hg : Gl X x) (hm : X.mg x = some (.ref C)) (k : CK X.K C f v) (hd : (x == ("__debug__" : Str)) = false := by decide) (hb : attributeBase (.Name x p) f X.env (eval (.Name x p) X.env) = eval (.Name x p) X.env := by rfl) :
    PE X (.Attribute (.Name x p) f pos) (tC v) := by
  obtain ⟨mc, u, r, c⟩ := k
  exact Z.pe_imp (ClX.pe_cval (pe_glob (v := .ref C) hg hm rfl hd) hb) fun σ H Q q => ⟨C, mc, v, u, rfl, r, c, q⟩
/-! ### the Hook -/
def frag (n : Nat) (g : Addr → Option Obj) : PySem.W.Frag := He.frG g (He.asD g n ++ [cStatics])
abbrev Al : Type := Bool × List He.FnW
def obsP (fa : List Fact) (fn : List DP) (K : PySem.W.Frag) : Al := ((fa.all fun f => f K) && fn.all fun d => d.ok K, fn.map fun d => fnW K (d.at_ K))
def valP (fn : List DP) : Al := (true, fn.map DP.val)
def Says (fa : List Fact) (fn : List DP) (K : PySem.W.Frag) : Prop := obsP fa fn K = valP fn
def obsG (n : Nat) (fa : List Fact) (fn : List DP) (g : Addr → Option Obj) : Al := obsP fa fn (frag n g)
def hook (n : Nat) (fa : List Fact) (fn : List DP) : PySem.W.Hook where
  α := Al
  obs := fun s => obsG n fa fn s.heap.get?
  val := fun _ => valP fn
  says := fun _ h => ∃ K : PySem.W.Frag, K.In h ∧ Says fa fn K
  of := fun _ _ e => ⟨_, He.frG_in, e⟩
  keeps := fun _ _ _ ⟨K, hK, c⟩ k => ⟨K, PySem.W.Frag.In.keeps hK k, c⟩
theorem obsG_eq {n : Nat} {fa : List Fact} {fn : List DP} {g : Addr → Option Obj} {s : Shared} (h : ∀ a, g a = s.heap.get? a) : obsG n fa fn g = (hook n fa fn).obs s := by
  have e : g = s.heap.get? := funext h
  rw [e] <;> rfl
section
variable {fa : List Fact} {fn : List DP} {K : PySem.W.Frag}
theorem Says.fact (c : Says fa fn K) (i : Nat) {f : Fact} (h : fa[i]? = some f := by rfl) : f K = true := by
  have c1 := (He.ba (show ((fa.all fun f => f K) && fn.all fun d => d.ok K) = true from congrArg (fun z : Al => z.1) c)).1
  exact List.all_eq_true.mp c1 f (List.mem_of_getElem? h)
theorem Says.def_ (c : Says fa fn K) (i : Nat) {d : DP} (h : fn[i]? = some d := by rfl) : ∃ fd, FunD K d.name d.qual d.params d.body d.scope (d.dvs K) (d.kws K) (d.at_ K) fd := by
  have c2 := (He.ba (show ((fa.all fun f => f K) && fn.all fun d => d.ok K) = true from congrArg (fun z : Al => z.1) c)).2
  have e : fn.map (fun d => fnW K (d.at_ K)) = fn.map DP.val := congrArg (fun z : Al => z.2) c
  have e2 : (fn.map fun d => fnW K (d.at_ K))[i]? = (fn.map DP.val)[i]? := by rw [e]
  rw [List.getElem?_map, List.getElem?_map, h] at e2
  exact DP.funD (Option.some.inj e2) (List.all_eq_true.mp c2 d (List.mem_of_getElem? h))
end
theorem putF_ne {f g : Str} {a b : V} {r : List (Str × V)} (h : ¬ g = f) : putF f a ((g, b) :: r) = (g, b) :: putF f a r := by
  show (if g = f then (g, a) :: r else (g, b) :: putF f a r) = _
  rw [if_neg h]
theorem putF_eq {f : Str} {a b : V} {r : List (Str × V)} : putF f a ((f, b) :: r) = (f, a) :: r := by
  show (if f = f then (f, a) :: r else (f, b) :: putF f a r) = _
  rw [if_pos rfl]
/-! ### calls by names, from a def's promise -/
section
variable {P : Program} {w : World} {K : PySem.W.Frag} {mg : Str → Option Value} {base : Heap} {x qual : Str} {f C : Addr} {st : Stmt}
/-- what of the text a def is -/
abbrev FN (K : PySem.W.Frag) (x qual : Str) (st : Stmt) (f : Addr) : Prop := ∃ fd, FunD K x qual (defArgs st) (defBody st) (defScope st) [] [] f fd
theorem fn_ok {N ps : List Str} {k : Nat} {sp : Sp} {fd : FuncData} (F : FunD K x qual (defArgs st) (defBody st) (defScope st) [] [] f fd) (S : FnScope N ps (defScope st)) (len : ∀ vs H Q E, sp vs H Q E → vs.length = ps.length) {t : TS}
    (hd : ∀ (cdv : Value) (A : Around) (outer : List Env) (s : Shared) (H : Hp) (E : XK), Room k (A.deeper (envOfC qual (defScope st) s.heap.objs.size f cdv)) → PSs (cxOf C8.CX0 P w K mg base N qual (defScope st) f cdv A outer s H E).nox (defBody st) t)
    (hrd : ∀ vs H Q E, sp vs H Q E → t { nx := fun _ H' => Q .non H', rt := Q } (start N vs) H) : FnOk P w K mg base C8.CX0 (k + 1) f fd ps sp :=
  F.ok S len fun cdv A outer s H vs Q E hr h => ⟨t, PSs.nox (hd cdv A outer s H E hr), hrd vs H Q E h⟩
end
end Hk
namespace Z
open PySem PySem.Spec PyProof.Rows L2
/-! ### isinstance -/
structure InsF (K : PySem.W.Frag) (C : Addr) : Prop where
  cl : Cls K C
  ha : PySem.W.findIn K (.ref C) "__class__" = some (some (.builtin "object.__class__"))
  hn : PySem.W.specialIn K (.builtin "object.__class__") "__get__" = some (some (.builtin "getset_descriptor.__get__"))
  htk : PySem.W.takesIn K (.builtin "object.__class__") = some true
  hm : PySem.W.mroIn K C (.type "object") = some true
def tyAt (K : PySem.W.Frag) (H : Hp) (x : V) (R : Value → Prop) : Prop := match x with
  | .int _ => R (.type "int")
  | .bl _ => R (.type "bool")
  | .non => R (.type "NoneType")
  | .str _ => R (.type "str")
  | .ref a => (match H a with
    | some (.lst _) => R (.type "list")
    | some (.tup _) => R (.type "tuple")
    | some (.dK _) => R (.type "dict")
    | some (.ins C _ _) => InsF K C ∧ R (.ref C)
    | _ => False)
  | _ => False
theorem tyAt_ok {K : PySem.W.Frag} {H : Hp} {x : V} {R : Value → Prop} (h : tyAt K H x R) : ∃ t, TyX K H x t ∧ R t := by
  unfold tyAt at h
  split at h
  · exact ⟨_, .base (.int _), h⟩
  · exact ⟨_, .base (.bl _), h⟩
  · exact ⟨_, .base .non, h⟩
  · exact ⟨_, .base (.str _), h⟩
  · split at h
    · exact ⟨_, .base (.lst (by assumption)), h⟩
    · exact ⟨_, .base (.tup (by assumption)), h⟩
    · exact ⟨_, .base (.dK (by assumption)), h⟩
    · exact ⟨_, .base (.ins (by assumption) h.1.cl h.1.ha h.1.hn h.1.htk h.1.hm), h.2⟩
    · exact h.elim
  · exact h.elim
def clsAt (c : V) (R : Value → Prop) : Prop := match c with
  | .ty n => R (.type n)
  | .ref C => R (.ref C)
  | _ => False
theorem clsAt_ok {c : V} {R : Value → Prop} (h : clsAt c R) : ∃ u, ClsV c u ∧ R u := by
  unfold clsAt at h
  split at h
  · exact ⟨_, .ty _, h⟩
  · exact ⟨_, .own _, h⟩
  · exact h.elim
def yIsi (K : PySem.W.Frag) : List V → Hp → VK → Prop := fun vs H Q => match vs with
  | [x, c] => clsAt c fun u => tyAt K H x fun t => isNone (PySem.W.kitOne K t u) fun b => Q (.bl b) H
  | _ => False
theorem c_isi {X : Cx} : CallR X (.builtin "isinstance") (yIsi X.K) := cr_imp call_isi fun xs H Q q => by
  unfold yIsi at q
  split at q
  · obtain ⟨u, hu, q⟩ := clsAt_ok q
    obtain ⟨t, ht, q⟩ := tyAt_ok q
    obtain ⟨b, hb, q⟩ := isNone_ok q
    exact ⟨_, _, t, u, b, rfl, hu, ht, hb, q⟩
  · exact q.elim
theorem ki_int_int {K : PySem.W.Frag} : PySem.W.kitOne K (.type "int") (.type "int") = some true := kit_ty (by decide +kernel)
theorem ki_bool_int {K : PySem.W.Frag} : PySem.W.kitOne K (.type "bool") (.type "int") = some true := kit_ty (by decide +kernel)
theorem ki_none_int {K : PySem.W.Frag} : PySem.W.kitOne K (.type "NoneType") (.type "int") = some false := kit_ty (by decide +kernel)
theorem ki_str_int {K : PySem.W.Frag} : PySem.W.kitOne K (.type "str") (.type "int") = some false := kit_ty (by decide +kernel)
theorem ki_list_int {K : PySem.W.Frag} : PySem.W.kitOne K (.type "list") (.type "int") = some false := kit_ty (by decide +kernel)
theorem ki_tuple_int {K : PySem.W.Frag} : PySem.W.kitOne K (.type "tuple") (.type "int") = some false := kit_ty (by decide +kernel)
theorem ki_int_bool {K : PySem.W.Frag} : PySem.W.kitOne K (.type "int") (.type "bool") = some false := kit_ty (by decide +kernel)
theorem ki_bool_bool {K : PySem.W.Frag} : PySem.W.kitOne K (.type "bool") (.type "bool") = some true := kit_ty (by decide +kernel)
theorem ki_none_bool {K : PySem.W.Frag} : PySem.W.kitOne K (.type "NoneType") (.type "bool") = some false := kit_ty (by decide +kernel)
theorem ki_str_bool {K : PySem.W.Frag} : PySem.W.kitOne K (.type "str") (.type "bool") = some false := kit_ty (by decide +kernel)
theorem ki_list_bool {K : PySem.W.Frag} : PySem.W.kitOne K (.type "list") (.type "bool") = some false := kit_ty (by decide +kernel)
theorem ki_tuple_bool {K : PySem.W.Frag} : PySem.W.kitOne K (.type "tuple") (.type "bool") = some false := kit_ty (by decide +kernel)
/-- a built-in type, by its name -/
theorem pe_ty {X : Cx} {x : Str} {n : String} {pos : Pos} (hg : Gl X x) (hm : X.mg x = none) (hv : bootBuiltins x = some (.type n)) (hnm : x ≠ "__name__" := by decide) (hdb : (x == ("__debug__" : Str)) = false := by decide) : PE X (.Name x pos) (tC (.ty n)) := by
  refine ⟨fun pins s σ H Q I q => ?_⟩
  exact ld_blt I hg hm hv ⟨.ty n, H, I, rfl, q⟩ hnm hdb
/-! ### what is never reached; raise -/
def zNever : TS := fun _ _ _ => False
theorem ps_never {X : Cx} {st : Stmt} : PS X st zNever := ⟨fun _ _ _ _ _ _ q => q.elim⟩
def tRz (E : XK) (C : Addr) : TS := fun _ _ H => E (.ref C) none H
theorem s_raise {X : Cx} {x m : Str} {C : Addr} {E : XK} {j : Nat} {p p2 pos pos2 : Pos} (hc : X.calm = true) (tk : Takes X (fun cls d _ H => E cls d H))
    (q : PySem.W.excIn X.K C He.veBase "ValueError.__new__" = true ∧ PySem.W.keepIn X.K (.ref C) = true ∧ PySem.W.subIn X.K (.ref C) (.type "BaseException") = some true ∧ PySem.W.typeIn X.K (.ref C) = some (.type "type"))
    (gC : X.mg x = some (.ref C)) (hg : Gl X x) (hdb : (x == ("__debug__" : Str)) = false := by decide) : PS X (.Raise (some (.Call (.Name x p) [.Constant (.str m) j p2] [] pos)) none pos2) (tRz E C) :=
  ps_imp (ps_raise hc tk (pmk_own F.excBase_ValueError q.1 gC q.2.1 (raises_own q.2.2.1 q.2.2.2) hg hdb)) fun D σ H q => q
/-! ### a def that may raise -/
theorem fn_okX {P : Program} {w : World} {K : PySem.W.Frag} {mg : Str → Option Value} {base : Heap} {x qual : Str} {f : Addr} {st : Stmt} {N ps : List Str} {k : Nat} {sp : Sp} {fd : FuncData} (F : FunD K x qual (defArgs st) (defBody st) (defScope st) [] [] f fd) (S : FnScope N ps (defScope st)) (len : ∀ vs H Q E, sp vs H Q E → vs.length = ps.length) {t : XK → TS}
    (hd : ∀ (cdv : Value) (A : Around) (outer : List Env) (s : Shared) (H : Hp) (E : XK), Room k (A.deeper (envOfC qual (defScope st) s.heap.objs.size f cdv)) → Takes (cxOf (L2.CX P w) P w K mg base N qual (defScope st) f cdv A outer s H E) (fun cls d _ H => E cls d H) → PassesOwn (model P w) (cxOf (L2.CX P w) P w K mg base N qual (defScope st) f cdv A outer s H E).A (cxOf (L2.CX P w) P w K mg base N qual (defScope st) f cdv A outer s H E).env (cxOf (L2.CX P w) P w K mg base N qual (defScope st) f cdv A outer s H E).xe → PSs (cxOf (L2.CX P w) P w K mg base N qual (defScope st) f cdv A outer s H E) (defBody st) (t E))
    (hrd : ∀ vs H Q E, sp vs H Q E → t E { nx := fun _ H' => Q .non H', rt := Q } (start N vs) H) : FnOk P w K mg base (L2.CX P w) (k + 1) f fd ps sp :=
  F.ok S len fun cdv A outer s H vs Q E hr h => ⟨t E, hd cdv A outer s H E hr (takes_of rfl rfl rfl rfl) (passes_of rfl), hrd vs H Q E h⟩
/-! ### a class in a variable; by keywords -/
section
variable {X : Cx} {CX : CXT} {k i : Nat} {f C : Addr} {fd : FuncData} {ps ks : List Str} {sp : Sp} {E : XK} {x m : Str} {p pos apos : Pos} {e o : Expr} {es : List Expr} {kws : List Keyword} {ta : TE} {t tk : TA} {g : List Value → List Value → List Value} {gV : List V → List V → List V}
def zMakeV (i : Nat) (C : Addr) (sp : Sp) (E : XK) (t : TA) : TE := fun σ H Q => (match σ[i]? with
  | some (some v) => v = .ref C
  | _ => False) ∧ tMake C sp [] E t σ H Q
theorem e_makeV (M : Mk X.K C f) (F : FnOk X.prog X.w X.K X.mg X.base CX k f fd ps sp) (hr : Room (k + 1) X.A) (hb : Binds X.K fd ps []) (hx : Passes CX X E) (hN : X.N[i]? = some x) (hv : Vis X.env.scope x) (ha : PA X (e :: es) t)
    (hd : (x == ("__debug__" : Str)) = false := by decide) (hcd : (x == ("__classdict__" : Str)) = false := by decide)
    (he : starEach (e :: es) X.env = (false, eval e X.env) :: starEach es X.env := by rfl) (hpl : (backTo pos (starEach es X.env)).any (·.1) = false := by rfl) :
    PE X (.Call (.Name x p) (e :: es) [] pos) (zMakeV i C sp E t) := by
  refine ⟨fun pins s σ H Q I h => ?_⟩
  obtain ⟨hs, ht⟩ := h
  have hs' : σ[i]? = some (some (.ref C)) := by
    split at hs
    · rename_i e1
      rw [e1, hs]
    · exact hs.elim
  refine wpAny_Call_Name_kw (thn ((pe_var (pos := p) hN hv hd hcd).run pins s σ H (fun v H1 => v = .ref C ∧ H1 = H) I ⟨.ref C, hs', rfl, rfl⟩) fun u s1 ⟨v, H1, I1, r1, q1⟩ => ?_)
  obtain ⟨rfl, rfl⟩ := q1
  cases r1
  refine PySem.W.callWith_K (h₀ := X.base) I.ok.mod.kin M.kp (thn (ha.run pos pins s1 σ _ _ I1 ht) fun us s2 ⟨vs, H2, I2, r, q⟩ => ⟨I2.kIn, ?_⟩) he hpl
  exact run_make M F hr hb .nil hx I2 r q
/-- C(k = v, ..) -/
theorem e_make0N (M : Mk X.K C f) (F : FnOk X.prog X.w X.K X.mg X.base CX k f fd ps sp) (hr : Room (k + 1) X.A) (hg : Gl X x) (hm : X.mg x = some (.ref C)) (hb : KBn X.K fd ps 1 ks g gV) (hx : Passes CX X E)
    (hkw : PK X kws tk) (hall : (backToKw pos (keywordEach kws X.env)).all (·.1.isSome) = true := by rfl) (hks : (backToKw pos (keywordEach kws X.env)).filterMap (·.1) = ks := by rfl)
    (hdb : (x == ("__debug__" : Str)) = false := by decide)
    (hpl : ((backTo pos (starEach [] X.env)).any (·.1) || (backToKw pos (keywordEach kws X.env)).any (·.1.isNone)) = false := by rfl) :
    PE X (.Call (.Name x p) [] kws pos) (tMakeN C 0 ks.length sp gV E tNil tk) := by
  refine ⟨fun pins s σ H Q I h => ?_⟩
  refine wpAny_Call_Name_kw (ld_glob I hg hm ?_ hdb)
  refine PySem.W.callWith_KW0 (h₀ := X.base) I.ok.mod.kin M.kp hall (thn (hkw.run pos pins s σ H _ I h) fun ws s2 ⟨zs, H2, I2, rz, l1, l2, q2⟩ => ⟨I2.kIn, ?_⟩) hpl
  rw [hks]
  exact run_makeN (us := []) (vs := []) M F hr hb hx I2 .nil rz l1 l2 q2
/-! ### a class whose __init__ may raise -/
def MakX (P : Program) (w : World) (K : PySem.W.Frag) (mg : Str → Option Value) (base : Heap) (k : Nat) (x : Str) (C : Addr) (sp : Sp) : Prop := ∃ f fd ps, Mk K C f ∧ FnOk P w K mg base (L2.CX P w) k f fd ps sp ∧ mg x = some (.ref C) ∧ Binds K fd ps []
theorem e_mkX {j : Nat} (c : MakX X.prog X.w X.K X.mg X.base k x C sp) (hr : Room j X.A) (hk : k + 1 ≤ j) (hg : Gl X x) (hx : Passes (L2.CX X.prog X.w) X E) (ha : PA X (e :: es) t)
    (hdb : (x == ("__debug__" : Str)) = false := by decide) (he : starEach (e :: es) X.env = (false, eval e X.env) :: starEach es X.env := by rfl) (hpl : (backTo pos (starEach es X.env)).any (·.1) = false := by rfl) :
    PE X (.Call (.Name x p) (e :: es) [] pos) (tMake C sp [] E t) := by
  obtain ⟨f, fd, ps, M, F, hm, b⟩ := c
  exact pe_make M F (hr.mono hk) hg hm b .nil hx ha hdb he hpl
theorem e_mkV {j : Nat} (c : MakX X.prog X.w X.K X.mg X.base k m C sp) (hr : Room j X.A) (hk : k + 1 ≤ j) (hx : Passes (L2.CX X.prog X.w) X E) (hN : X.N[i]? = some x) (hv : Vis X.env.scope x) (ha : PA X (e :: es) t)
    (hd : (x == ("__debug__" : Str)) = false := by decide) (hcd : (x == ("__classdict__" : Str)) = false := by decide)
    (he : starEach (e :: es) X.env = (false, eval e X.env) :: starEach es X.env := by rfl) (hpl : (backTo pos (starEach es X.env)).any (·.1) = false := by rfl) :
    PE X (.Call (.Name x p) (e :: es) [] pos) (zMakeV i C sp E t) := by
  obtain ⟨f, fd, ps, M, F, hm, b⟩ := c
  exact e_makeV M F (hr.mono hk) b hx hN hv ha hd hcd he hpl
/-! ### classmethods -/
theorem fnR_of (F : FnOk X.prog X.w X.K X.mg X.base CX k f fd ps sp) (hb : Binds X.K fd ps []) : FnR X.prog X.w X.K X.mg X.base CX k f sp := fun A outer s H us vs Q E hr e0 r h => by
  have hl : us.length = ps.length := by rw [← r.length]; exact F.len _ _ _ _ h
  have kin : X.K.In s.heap := e0.mod.kin.keeps fun b o e => (e0.bs b o e).1
  have b := hb s us kin (by rw [List.append_nil]; exact hl)
  rw [List.append_nil] at b
  exact F.run A outer s H ⟨us, []⟩ us vs Q E hr e0 b r h
def zCMethN (C : Addr) (n : Nat) (sp : Sp) (gV : List V → List V → List V) (E : XK) (tk : TA) : TE := fun σ H Q => tk σ H fun zs H2 => zs.length = n ∧ sp (gV [.ref C] zs) H2 Q E
/-- C.m(k = v, ..) -/
theorem e_cmethN {mc : Value} {cp : Addr} {pl : Sem Bool} (hg : Gl X x) (hm : X.mg x = some (.ref C)) (r : ClX.CRead X.K C mc) (c : ClX.CMet X.K C mc m cp f) (F : FnOk X.prog X.w X.K X.mg X.base CX k f fd ps sp) (hr : Room k X.A) (hx : Passes CX X E) (hb : KBn X.K fd ps 1 ks g gV)
    (hkw : PK X kws tk) (hall : (backToKw pos (keywordEach kws X.env)).all (·.1.isSome) = true := by rfl) (hks : (backToKw pos (keywordEach kws X.env)).filterMap (·.1) = ks := by rfl)
    (hpl : ((backTo pos (starEach [] X.env)).any (·.1) || (backToKw pos (keywordEach kws X.env)).any (·.1.isNone)) = false := by rfl) (hdb : (x == ("__debug__" : Str)) = false := by decide)
    (ht : eval (.Call (.Attribute (.Name x p) m apos) [] kws pos) X.env = (do
      let ov ← eval (.Name x p) X.env
      standAt apos.atName
      let (f, first) ← holding [ov] (getMethod ov m pl)
      callWith pos f first (backTo pos (starEach [] X.env)) (backToKw pos (keywordEach kws X.env))) := by rfl) :
    PE X (.Call (.Attribute (.Name x p) m apos) [] kws pos) (zCMethN C ks.length sp gV E tk) := by
  refine ⟨fun pins s σ H Q I h => ?_⟩
  rw [ht]
  refine wpAny_bind (ld_glob I hg hm ?_ hdb)
  refine wpAny_bind (wpAny_standAt (wpAny_bind (wpAny_holding ?_)))
  refine ClX.getmethcm_ok I r c fun s2 I2 => ?_
  refine PySem.W.callWith_of hpl (PySem.W.keeps_M (self := .ref C) c.fi) (evalArgs_kw2_nil hall (thn (hkw.run pos _ s2 σ H _ I2 h) fun ws s3 ⟨zs, H2, I3, rz, l2, q2⟩ => ⟨⟨ClX.pin_at I3, I3.kIn⟩, ?_⟩))
  rw [hks]
  have r1 : Vals [V.ref C] [Value.ref C] := .cons rfl .nil
  have e2 : ws.length = ks.length := rz.length.symm.trans l2
  refine wpAny_call (PySem.W.method_call (ClX.pin_at I3) (codeAny_mono (F.run X.A X.stack s3 H2 ⟨[.ref C], ks.zip ws⟩ (g [.ref C] ws) (gV [.ref C] zs) Q E hr I3.env0 (hb.to _ [.ref C] ws I3.kIn rfl e2) (hb.rel r1 rz) q2) fun r s' hq => ?_))
  have I4 := ClX.unpin I3
  cases r with
  | error e => exact hx pins σ H2 s3 e s' I4 hq
  | ok fl =>
    cases fl with
    | ret u => exact I4.after hq
    | next => exact False.elim hq
    | brk => exact False.elim hq
    | cont => exact False.elim hq
end
end Z
namespace Hk
open PySem PySem.Spec PyProof.Rows L2
/-! ### more facts -/
def insB (C : Str) : Fact := fun K => (He.Fa.cls C).ok K && (He.eqO (PySem.W.findIn K (.ref (He.ga K C)) "__class__") (some (some (.builtin "object.__class__"))) && (He.eqO (PySem.W.specialIn K (.builtin "object.__class__") "__get__") (some (some (.builtin "getset_descriptor.__get__"))) &&
  (decide (PySem.W.takesIn K (.builtin "object.__class__") = some true) && decide (PySem.W.mroIn K (He.ga K C) (.type "object") = some true))))
theorem insB_ok {K : PySem.W.Frag} {C : Str} (h : insB C K = true) : Z.InsF K (He.ga K C) := by
  obtain ⟨h1, h⟩ := He.ba h
  obtain ⟨h2, h⟩ := He.ba h
  obtain ⟨h3, h⟩ := He.ba h
  obtain ⟨h4, h5⟩ := He.ba h
  exact ⟨He.cls_ok h1, He.eqO_ok h2, He.eqO_ok h3, of_decide_eq_true h4, of_decide_eq_true h5⟩
def kitTB (C : Str) (T : String) (b : Bool) : Fact := fun K => decide (PySem.W.kitOne K (.ref (He.ga K C)) (.type T) = some b)
theorem kitTB_ok {K : PySem.W.Frag} {C : Str} {T : String} {b : Bool} (h : kitTB C T b K = true) : PySem.W.kitOne K (.ref (He.ga K C)) (.type T) = some b := of_decide_eq_true h
def kitCB (C D : Str) (b : Bool) : Fact := fun K => decide (PySem.W.kitOne K (.ref (He.ga K C)) (.ref (He.ga K D)) = some b)
theorem kitCB_ok {K : PySem.W.Frag} {C D : Str} {b : Bool} (h : kitCB C D b K = true) : PySem.W.kitOne K (.ref (He.ga K C)) (.ref (He.ga K D)) = some b := of_decide_eq_true h
def excCB (C : Str) : Fact := fun K => He.eqO (PySem.W.findIn K (.ref (He.ga K C)) "__getattribute__") (some (some (.builtin "BaseException.__getattribute__"))) && (He.eqO (PySem.W.findIn K (.ref (He.ga K C)) "__getattr__") (some none) &&
  (decide (PySem.W.subIn K (.ref (He.ga K C)) (.type "BaseException") = some true) && (PySem.W.hasDictIn K (He.ga K C) && (He.eqO (PySem.W.findIn K (.ref (He.ga K C)) "__class__") (some (some (.builtin "object.__class__"))) &&
  (He.eqO (PySem.W.specialIn K (.builtin "object.__class__") "__get__") (some (some (.builtin "getset_descriptor.__get__"))) && (decide (PySem.W.takesIn K (.builtin "object.__class__") = some true) && decide (PySem.W.mroIn K (He.ga K C) (.type "object") = some true)))))))
theorem excCB_ok {K : PySem.W.Frag} {C : Str} (h : excCB C K = true) : ExcC K (He.ga K C) := by
  obtain ⟨h1, h⟩ := He.ba h
  obtain ⟨h2, h⟩ := He.ba h
  obtain ⟨h3, h⟩ := He.ba h
  obtain ⟨h4, h⟩ := He.ba h
  obtain ⟨h5, h⟩ := He.ba h
  obtain ⟨h6, h⟩ := He.ba h
  obtain ⟨h7, h8⟩ := He.ba h
  exact ⟨He.eqO_ok h1, He.eqO_ok h2, of_decide_eq_true h3, h4, He.eqO_ok h5, He.eqO_ok h6, of_decide_eq_true h7, of_decide_eq_true h8⟩
/-- a classmethod -/
def cmG (C m : Str) (K : PySem.W.Frag) : Addr := He5.wf K (He.ga K C) "classmethod" m
def cmB (C m : Str) : Fact := fun K => PySem.W.readsIn K (He.ga K C) (.type "type") && (He.eqO (PySem.W.specialIn K (.ref (He.ga K C)) "__getattribute__") (some (some (.builtin "type.__getattribute__"))) &&
  (He5.wrapB K (He.ga K C) "classmethod" "classmethod.__get__" m && PySem.W.fnIn K (cmG C m K)))
theorem cmB_ok {K : PySem.W.Frag} {C m : Str} (h : cmB C m K = true) : ClX.CRead K (He.ga K C) (.type "type") ∧ ClX.CMet K (He.ga K C) (.type "type") m (He.ma K (He.ga K C) m) (cmG C m K) := by
  obtain ⟨h1, h⟩ := He.ba h
  obtain ⟨h2, h⟩ := He.ba h
  obtain ⟨h3, h4⟩ := He.ba h
  exact ⟨⟨h1, He.eqO_ok h2⟩, He5.cmet_of h3 h4⟩
/-- a def of the top, its code object known -/
theorem fn_okC {P : Program} {w : World} {K : PySem.W.Frag} {mg : Str → Option Value} {base : Heap} {x qual : Str} {st : Stmt} {N ps : List Str} {k : Nat} {sp : Sp} {fd : FuncData} (F : FunD K x qual (defArgs st) (defBody st) (defScope st) [] [] (He.ga K x) fd) (S : FnScope N ps (defScope st)) (len : ∀ vs H Q E, sp vs H Q E → vs.length = ps.length) {t : TS}
    (hd : ∀ (A : Around) (outer : List Env) (s : Shared) (H : Hp) (E : XK), Room k (A.deeper (envOfC qual (defScope st) s.heap.objs.size (He.ga K x) (.ref (He.cT K (x, none)).1))) → PSs (cxOf C8.CX0 P w K mg base N qual (defScope st) (He.ga K x) (.ref (He.cT K (x, none)).1) A outer s H E).nox (defBody st) t)
    (hrd : ∀ vs H Q E, sp vs H Q E → t { nx := fun _ H' => Q .non H', rt := Q } (start N vs) H) : FnOk P w K mg base C8.CX0 (k + 1) (He.ga K x) fd ps sp := by
  obtain ⟨oc, od, dV, kV, doc, pm, an, cdv, ct, osl, rfl, lk, hcd, _, _⟩ := F.ex
  obtain ⟨c, rfl⟩ := He.codeIn_ref hcd
  have ec : He.codeOf K (x, none) = c := He.codeOf_eq (p := (x, none)) lk rfl
  refine fn_of lk hcd S len fun A outer s H vs Q E hr hsp => ⟨t, PSs.nox ?_, hrd vs H Q E hsp⟩
  have h := hd A outer s H E
  rw [show (He.cT K (x, none)).1 = c from ec] at h
  exact h hr
/-! ### the Hook with tables -/
def fragT (n : Nat) (g : Addr → Option Obj) : PySem.W.Frag := He.frT g (He.asD g n ++ [cStatics])
def obsTT (n : Nat) (fa : List Fact) (fn : List DP) (tf : List He.Defn) (g : Addr → Option Obj) : Al × Bool := (obsP fa fn (fragT n g), He.tabsB g tf (fragT n g))
structure SaysT (fa : List Fact) (fn : List DP) (tf : List He.Defn) (h : Heap) (K : PySem.W.Frag) : Prop where
  t : Says fa fn K
  hd : ∀ p ∈ tf, PySem.W.codeHdIn K (He.cT K p).1 (He.cT K p).2 = true
  out : ∀ p ∈ tf, K.lookup (He.cT K p).2 = none
  empty : ∀ p ∈ tf, h.get? (He.cT K p).2 = some { cls := .none, data := .fields #[] }
theorem saysT_of {n : Nat} {fa : List Fact} {fn : List DP} {tf : List He.Defn} {h : Heap} (e : obsTT n fa fn tf h.get? = (valP fn, true)) : SaysT fa fn tf h (fragT n h.get?) := by
  have e1 : obsP fa fn (fragT n h.get?) = valP fn := congrArg (fun z : Al × Bool => z.1) e
  have e2 : He.tabsB h.get? tf (fragT n h.get?) = true := congrArg (fun z : Al × Bool => z.2) e
  have key : ∀ p ∈ tf, PySem.W.codeHdIn (fragT n h.get?) (He.cT (fragT n h.get?) p).1 (He.cT (fragT n h.get?) p).2 = true ∧ ∃ o, h.get? (He.cT (fragT n h.get?) p).2 = some o ∧ He.emptyTab o = true := fun p hp => by
    obtain ⟨h3, h4⟩ := He.ba (List.all_eq_true.mp e2 p hp)
    refine ⟨h3, ?_⟩
    cases q : h.get? (He.cT (fragT n h.get?) p).2 with
    | none =>
      rw [q] at h4
      cases h4
    | some o =>
      rw [q] at h4
      exact ⟨o, rfl, h4⟩
  exact ⟨e1, fun p hp => (key p hp).1, fun p hp => by
    obtain ⟨_, o, q, z⟩ := key p hp
    exact He.frT_none q z, fun p hp => by
    obtain ⟨_, o, q, z⟩ := key p hp
    rw [q, He.emptyTab_eq z]⟩
def hookT (n : Nat) (fa : List Fact) (fn : List DP) (tf : List He.Defn) : PySem.W.Hook where
  α := Al × Bool
  obs := fun s => obsTT n fa fn tf s.heap.get?
  val := fun _ => (valP fn, true)
  says := fun _ h => ∃ K : PySem.W.Frag, K.In h ∧ SaysT fa fn tf h K
  of := fun _ _ e => ⟨_, He.frT_in, saysT_of e⟩
  keeps := fun _ _ _ ⟨K, hK, c⟩ k => ⟨K, PySem.W.Frag.In.keeps hK k, ⟨c.t, c.hd, c.out, fun p hp => k _ _ (c.empty p hp)⟩⟩
theorem obsTT_eq {n : Nat} {fa : List Fact} {fn : List DP} {tf : List He.Defn} {g : Addr → Option Obj} {s : Shared} (h : ∀ a, g a = s.heap.get? a) : obsTT n fa fn tf g = (hookT n fa fn tf).obs s := by
  have e : g = s.heap.get? := funext h
  rw [e] <;> rfl
end Hk
/-! Sleeping generators stay as they are: a run that never wakes them does not change them. -/
namespace GF
open PySem PyProof.Rows L2
open Sem (wp)
/-- a sleeper that cannot be woken -/
def stuck : GenState → GenState
  | .suspended _ l c p fs cl => .suspended (fun _ => .unsupported "asleep") l c p fs cl
  | x => x
def susp : GenState → Bool
  | .suspended .. => true
  | _ => false
theorem seen_stuck (x : GenState) : (stuck x).seen = x.seen := by cases x <;> rfl
theorem bare_stuck (x : GenState) : (stuck x).bare = x.bare := by cases x <;> rfl
theorem never {M : Model} {Γ : Ctx} {p : Pos} {t : Sem PySem.Fin} {fs : List Frame} {s s' : Shared} {e : End} {m : String} (h : Runs M Γ p t fs s e s') : t = .unsupported m → False := by
  induction h <;> intro q <;> first | (cases q; done) | (rename_i ih _; exact ih q) | (rename_i ih; exact ih q) | (rename_i ih _ _; exact ih q)
/-- G is y's table with the sleepers o awake again -/
structure RelG (o : Nat → Option GenState) (Y G : Array GenState) : Prop where
  size : G.size = Y.size
  some_ : ∀ i gs, o i = some gs → susp gs = true ∧ G[i]? = some gs ∧ Y[i]? = some (stuck gs)
  none_ : ∀ i, o i = none → G[i]? = Y[i]?
def OkG (o : Nat → Option GenState) (Y : Array GenState) : Prop := ∀ i k l c p fs cl, o i = none → Y[i]? = some (.suspended k l c p fs cl) → splitAtGen fs = none
def EndOk : End → Prop
  | .ret _ => True
  | .susp _ _ _ _ _ _ fs => splitAtGen fs = none
theorem split_cons {F : Frame} {fs : List Frame} (h : splitAtGen (F :: fs) = none) : (∃ k hd g l c p kp, F = .ret k hd g l c p kp) ∧ splitAtGen fs = none := by
  cases F with
  | gen g k l c p => cases h
  | ret k hd g l c p kp =>
    refine ⟨⟨_, _, _, _, _, _, _, rfl⟩, ?_⟩
    have h' : (splitAtGen fs).map _ = none := h
    cases e : splitAtGen fs with
    | none => rfl
    | some x => rw [e] at h'; cases h'
theorem split_app {xs ys : List Frame} (h1 : splitAtGen xs = none) (h2 : splitAtGen ys = none) : splitAtGen (xs ++ ys) = none := by
  induction xs with
  | nil => exact h2
  | cons F fs ih =>
    obtain ⟨⟨k, hd, g, l, c, p, kp, rfl⟩, h3⟩ := split_cons h1
    show (splitAtGen (fs ++ ys)).map _ = none
    rw [ih h3]
    rfl
section
variable {o : Nat → Option GenState} {Y G : Array GenState}
theorem RelG.set (r : RelG o Y G) {g : Nat} (hg : o g = none) (x : GenState) : RelG o (Y.setIfInBounds g x) (G.setIfInBounds g x) := by
  refine ⟨by rw [Array.size_setIfInBounds, Array.size_setIfInBounds, r.size], fun i gs h => ?_, fun i h => ?_⟩
  · obtain ⟨h1, h2, h3⟩ := r.some_ i gs h
    have ne : g ≠ i := fun e => by rw [e, h] at hg; cases hg
    refine ⟨h1, ?_, ?_⟩
    · rw [Array.getElem?_setIfInBounds_ne ne]; exact h2
    · rw [Array.getElem?_setIfInBounds_ne ne]; exact h3
  · by_cases e : g = i
    · subst e
      rw [Array.getElem?_setIfInBounds_self, Array.getElem?_setIfInBounds_self, r.size]
    · rw [Array.getElem?_setIfInBounds_ne e, Array.getElem?_setIfInBounds_ne e]; exact r.none_ i h
theorem RelG.push (r : RelG o Y G) (c : Code) : RelG o (Y.push (.fresh c)) (G.push (.fresh c)) := by
  refine ⟨by rw [Array.size_push, Array.size_push, r.size], fun i gs h => ?_, fun i h => ?_⟩
  · obtain ⟨h1, h2, h3⟩ := r.some_ i gs h
    have hlt : i < Y.size := (Array.getElem?_eq_some_iff.mp h3).1
    refine ⟨h1, ?_, ?_⟩
    · rw [Array.getElem?_push, if_neg (by rw [r.size]; omega)]; exact h2
    · rw [Array.getElem?_push, if_neg (by omega)]; exact h3
  · rw [Array.getElem?_push, Array.getElem?_push, r.size, r.none_ i h]
theorem OkG.set (k : OkG o Y) {g : Nat} {x : GenState} (h : ∀ k l c p fs cl, x = .suspended k l c p fs cl → splitAtGen fs = none) : OkG o (Y.setIfInBounds g x) := fun i k' l c p fs cl hi e => by
  by_cases q : g = i
  · subst q
    rw [Array.getElem?_setIfInBounds_self] at e
    split at e
    · exact h _ _ _ _ _ _ (Option.some.inj e)
    · cases e
  · rw [Array.getElem?_setIfInBounds_ne q] at e
    exact k i _ _ _ _ _ _ hi e
theorem OkG.push (k : OkG o Y) (c : Code) : OkG o (Y.push (.fresh c)) := fun i k' l c' p fs cl hi e => by
  rw [Array.getElem?_push] at e
  split at e
  · cases e
  · exact k i _ _ _ _ _ _ hi e
/-- a state that is no sleeper of ours is the same in both -/
theorem RelG.same (r : RelG o Y G) {g : Nat} {x : GenState} (h : Y[g]? = some x) (hx : susp x = false) : o g = none ∧ G[g]? = some x := by
  cases q : o g with
  | none => exact ⟨rfl, (r.none_ g q).trans h⟩
  | some gs =>
    obtain ⟨h1, _, h3⟩ := r.some_ g gs q
    rw [h] at h3
    cases h3
    cases gs <;> first | (cases h1; done) | cases hx
end
def st (s : Shared) (G : Array GenState) : Shared := { s with gens := G }
theorem endSet {e : End} (h : EndOk e) : ∀ k l c p fs cl, e.genState = .suspended k l c p fs cl → splitAtGen fs = none := fun k l c p fs cl q => by
  cases e with
  | ret r => cases q
  | susp v g l' k' c' p' fs' =>
    have q' : GenState.suspended k' l' c' p' fs' _ = .suspended k l c p fs cl := q
    injection q' with _ _ _ _ e5 _
    rw [← e5]
    exact h
theorem runs_frame {M : Model} {o : Nat → Option GenState} {Γ : Ctx} {p : Pos} {t : Sem PySem.Fin} {fs : List Frame} {y y' : Shared} {e : End} (h : Runs M Γ p t fs y e y') : splitAtGen fs = none → OkG o y.gens → ∀ G, RelG o y.gens G →
    ∃ G', Runs M Γ p t fs (st y G) e (st y' G') ∧ RelG o y'.gens G' ∧ OkG o y'.gens ∧ EndOk e := by
  induction h with
  | done => exact fun _ k G r => ⟨G, .done, r, k, trivial⟩
  | raise => exact fun _ k G r => ⟨G, .raise, r, k, trivial⟩
  | again hq _ ih => exact fun hf k G r => let ⟨G', a, b⟩ := ih hf k G r; ⟨G', .again hq a, b⟩
  | rule _ ih => exact fun hf k G r => let ⟨G', a, b⟩ := ih hf k G r; ⟨G', .rule a, b⟩
  | «at» _ ih => exact fun hf k G r => let ⟨G', a, b⟩ := ih hf k G r; ⟨G', .at a, b⟩
  | load ho _ ih => exact fun hf k G r => let ⟨G', a, b⟩ := ih hf k G r; ⟨G', .load ho a, b⟩
  | update ho _ ih => exact fun hf k G r => let ⟨G', a, b⟩ := ih hf k G r; ⟨G', .update ho a, b⟩
  | loadIfAlive _ ih => exact fun hf k G r => let ⟨G', a, b⟩ := ih hf k G r; ⟨G', .loadIfAlive a, b⟩
  | point _ ih => exact fun hf k G r => let ⟨G', a, b⟩ := ih hf k G r; ⟨G', .point a, b⟩
  | alloc _ ih => exact fun hf k G r => let ⟨G', a, b⟩ := ih hf k G r; ⟨G', .alloc a, b⟩
  | fresh _ ih => exact fun hf k G r => let ⟨G', a, b⟩ := ih hf k G r; ⟨G', .fresh a, b⟩
  | ask _ ih => exact fun hf k G r => let ⟨G', a, b⟩ := ih hf k G r; ⟨G', .ask a, b⟩
  | choose hn _ ih => exact fun hf k G r => let ⟨G', a, b⟩ := ih hf k G r; ⟨G', .choose hn a, b⟩
  | os _ ih => exact fun hf k G r => let ⟨G', a, b⟩ := ih hf k G r; ⟨G', .os a, b⟩
  | handled _ ih => exact fun hf k G r => let ⟨G', a, b⟩ := ih hf k G r; ⟨G', .handled a, b⟩
  | @genState g st' Γ p k s e s' hs _ ih =>
    intro hf kk G r
    obtain ⟨G', a, b⟩ := ih hf kk G r
    cases q : o g with
    | none => exact ⟨G', .genState (st := st') ((r.none_ g q).trans hs) a, b⟩
    | some gs =>
      obtain ⟨h1, h2, h3⟩ := r.some_ g gs q
      rw [hs] at h3
      have e3 : st' = stuck gs := Option.some.inj h3
      refine ⟨G', .genState (st := gs) h2 ?_, b⟩
      rw [← seen_stuck gs, ← e3]
      exact a
  | stack _ ih => exact fun hf k G r => let ⟨G', a, b⟩ := ih hf k G r; ⟨G', .stack a, b⟩
  | thread _ ih => exact fun hf k G r => let ⟨G', a, b⟩ := ih hf k G r; ⟨G', .thread a, b⟩
  | @newGen Γ p k s e s' c _ ih =>
    intro hf kk G r
    obtain ⟨G', a, b⟩ := ih hf (kk.push c) _ (r.push c)
    refine ⟨G', .newGen ?_, b⟩
    have e1 : (st s G).gens.size = s.gens.size := r.size
    rw [e1]
    exact a
  | call _ _ ih1 ih2 =>
    intro hf k G r
    obtain ⟨G1, a1, r1, k1, _⟩ := ih1 rfl k G r
    obtain ⟨G2, a2, b⟩ := ih2 hf k1 G1 r1
    exact ⟨G2, .call a1 a2, b⟩
  | callSusp _ ih1 =>
    intro hf k G r
    obtain ⟨G1, a1, r1, k1, e1⟩ := ih1 rfl k G r
    exact ⟨G1, .callSusp a1, r1, k1, split_app e1 rfl⟩
  | yield => exact fun _ k G r => ⟨G, .yield, r, k, rfl⟩
  | @resumeFresh Γ p g l k s c e₁ s₁ e s' hs _ hq _ ih1 ih2 =>
    intro hf kk G r
    obtain ⟨og, hG⟩ := r.same hs rfl
    obtain ⟨G1, a1, r1, k1, e1⟩ := ih1 rfl (kk.set fun _ _ _ _ _ _ z => by cases z) _ (r.set og .running)
    obtain ⟨G2, a2, b⟩ := ih2 hf (k1.set (endSet e1)) _ (r1.set og e₁.genState)
    exact ⟨G2, .resumeFresh hG a1 hq a2, b⟩
  | @resumeSuspended Γ p g rr l k s k₀ l₀ c₀ p₀ fs cl e₁ s₁ e s' hs h1 hq _ ih1 ih2 =>
    intro hf kk G r
    cases q : o g with
    | some gs =>
      obtain ⟨g1, g2, g3⟩ := r.some_ g gs q
      rw [hs] at g3
      cases gs with
      | suspended k' l' c' p' fs' cl' =>
        have g4 := Option.some.inj g3
        injection g4 with z1 _ _ _ _ _
        rw [z1] at h1
        exact (never h1 rfl).elim
      | _ => cases g1
    | none =>
      have hG : G[g]? = _ := (r.none_ g q).trans hs
      obtain ⟨G1, a1, r1, k1, e1⟩ := ih1 (kk g _ _ _ _ _ _ q hs) (kk.set fun _ _ _ _ _ _ z => by cases z) _ (r.set q .running)
      obtain ⟨G2, a2, b⟩ := ih2 hf (k1.set (endSet e1)) _ (r1.set q e₁.genState)
      exact ⟨G2, .resumeSuspended hG a1 hq a2, b⟩
  | resumeJustStarted hs hv _ ih => exact fun hf k G r => let ⟨G', a, b⟩ := ih hf k G r; ⟨G', .resumeJustStarted (r.same hs rfl).2 hv a, b⟩
  | resumeThrowFresh hs _ ih =>
    intro hf k G r
    obtain ⟨og, hG⟩ := r.same hs rfl
    obtain ⟨G', a, b⟩ := ih hf (k.set fun _ _ _ _ _ _ z => by cases z) _ (r.set og .finished)
    exact ⟨G', .resumeThrowFresh hG a, b⟩
  | resumeRunning hs _ ih => exact fun hf k G r => let ⟨G', a, b⟩ := ih hf k G r; ⟨G', .resumeRunning (r.same hs rfl).2 a, b⟩
  | resumeFinished hs _ ih => exact fun hf k G r => let ⟨G', a, b⟩ := ih hf k G r; ⟨G', .resumeFinished (r.same hs rfl).2 a, b⟩
  | segRet _ _ ih1 ih2 =>
    intro hf k G r
    obtain ⟨_, hf2⟩ := split_cons hf
    obtain ⟨G1, a1, r1, k1, _⟩ := ih1 rfl k G r
    obtain ⟨G2, a2, b⟩ := ih2 hf2 k1 G1 r1
    exact ⟨G2, .segRet a1 a2, b⟩
  | segGen _ _ _ _ => exact fun hf => by cases hf
  | segSuspOut hs _ ih1 =>
    intro hf k G r
    obtain ⟨G1, a1, r1, k1, e1⟩ := ih1 rfl k G r
    exact ⟨G1, .segSuspOut hs a1, r1, k1, split_app e1 hf⟩
  | segSuspGen hs _ _ _ _ _ => exact fun hf => by rw [hf] at hs; cases hs
/-! ### at the level of wp -/
theorem wakes_frame {M : Model} {o : Nat → Option GenState} {Γ : Ctx} {p : Pos} {g : Nat} {r : Resume} {s s' : Shared} {res : GenResult} (h : Wakes M Γ p g r s res s') (k : OkG o s.gens) {G : Array GenState} (rl : RelG o s.gens G) :
    ∃ G', Wakes M Γ p g r (st s G) res (st s' G') ∧ RelG o s'.gens G' ∧ OkG o s'.gens := by
  unfold Wakes at h
  cases q : s.gens[g]? with
  | none => rw [q] at h; exact h.elim
  | some x =>
    rw [q] at h
    cases x with
    | fresh c =>
      obtain ⟨og, hG⟩ := rl.same q rfl
      cases r with
      | send v =>
        by_cases hv : v = .none
        · subst hv
          obtain ⟨e₁, s₁, hr, hq, h1, h2⟩ := h
          obtain ⟨G1, a1, r1, k1, e1⟩ := runs_frame hr rfl (k.set fun _ _ _ _ _ _ z => by cases z) _ (rl.set og .running)
          refine ⟨G1.setIfInBounds g e₁.genState, ?_, ?_, ?_⟩
          · unfold Wakes
            rw [show (st s G).gens[g]? = _ from hG]
            exact ⟨e₁, _, a1, hq, h1, by rw [h2]; rfl⟩
          · rw [h2]; exact r1.set og _
          · rw [h2]; exact k1.set (endSet e1)
        · have h' : res = .justStarted ∧ s' = s := by
            cases v <;> first | exact absurd rfl hv | exact h
          obtain ⟨h1, h2⟩ := h'
          refine ⟨G, ?_, by rw [h2]; exact rl, by rw [h2]; exact k⟩
          unfold Wakes
          rw [show (st s G).gens[g]? = _ from hG]
          cases v <;> first | exact absurd rfl hv | exact ⟨h1, by rw [h2]⟩
      | throw x =>
        obtain ⟨h1, h2⟩ := h
        refine ⟨G.setIfInBounds g .finished, ?_, by rw [h2]; exact rl.set og _, by rw [h2]; exact k.set fun _ _ _ _ _ _ z => by cases z⟩
        unfold Wakes
        rw [show (st s G).gens[g]? = _ from hG]
        exact ⟨h1, by rw [h2]; rfl⟩
    | suspended k₀ l₀ c₀ p₀ fs cl =>
      obtain ⟨e₁, s₁, hr, hq, h1, h2⟩ := h
      cases qo : o g with
      | some gs =>
        obtain ⟨g1, g2, g3⟩ := rl.some_ g gs qo
        rw [q] at g3
        cases gs with
        | suspended k' l' c' p' fs' cl' =>
          have g4 := Option.some.inj g3
          injection g4 with z1 _ _ _ _ _
          rw [z1] at hr
          exact (never hr rfl).elim
        | _ => cases g1
      | none =>
        have hG : G[g]? = _ := (rl.none_ g qo).trans q
        obtain ⟨G1, a1, r1, k1, e1⟩ := runs_frame hr (k g _ _ _ _ _ _ qo q) (k.set fun _ _ _ _ _ _ z => by cases z) _ (rl.set qo .running)
        refine ⟨G1.setIfInBounds g e₁.genState, ?_, ?_, ?_⟩
        · unfold Wakes
          rw [show (st s G).gens[g]? = _ from hG]
          exact ⟨e₁, _, a1, hq, h1, by rw [h2]; rfl⟩
        · rw [h2]; exact r1.set qo _
        · rw [h2]; exact k1.set (endSet e1)
    | running =>
      obtain ⟨og, hG⟩ := rl.same q rfl
      obtain ⟨h1, h2⟩ := h
      refine ⟨G, ?_, by rw [h2]; exact rl, by rw [h2]; exact k⟩
      unfold Wakes
      rw [show (st s G).gens[g]? = _ from hG]
      exact ⟨h1, by rw [h2]⟩
    | finished =>
      obtain ⟨og, hG⟩ := rl.same q rfl
      obtain ⟨h1, h2⟩ := h
      refine ⟨G, ?_, by rw [h2]; exact rl, by rw [h2]; exact k⟩
      unfold Wakes
      rw [show (st s G).gens[g]? = _ from hG]
      exact ⟨h1, by rw [h2]⟩
theorem wp_frame {α : Type} {M : Model} {Γ : Ctx} {o : Nat → Option GenState} (t : Sem α) : ∀ (Q : α → Pos → Shared → Prop) (E : Value → Pos → Shared → Prop) (p : Pos) (s : Shared) (G : Array GenState), wp M Γ t Q E p s → OkG o s.gens → RelG o s.gens G →
    wp M Γ t (fun a p' x => ∃ y G', x = st y G' ∧ Q a p' y ∧ RelG o y.gens G' ∧ OkG o y.gens) (fun e p' x => ∃ y G', x = st y G' ∧ E e p' y ∧ RelG o y.gens G' ∧ OkG o y.gens) p (st s G) := by
  induction t with
  | pure a => intro Q E p s G h k r; exact ⟨s, G, rfl, h, r, k⟩
  | raise e => intro Q E p s G h k r; exact ⟨s, G, rfl, h, r, k⟩
  | unsupported _ => intro Q E p s G h k r; exact h
  | finish _ => intro Q E p s G h k r; exact h
  | rule _ kk ih => intro Q E p s G h k r; exact ih () Q E p s G h k r
  | «at» p' kk ih => intro Q E p s G h k r; exact ih () Q E p' s G h k r
  | load a _ kk ih => intro Q E p s G h k r; obtain ⟨ob, ho, h⟩ := h; exact ⟨ob, ho, ih ob Q E p s G h k r⟩
  | update a _ f kk ih => intro Q E p s G h k r; exact ⟨h.1, ih () Q E p _ G h.2 k r⟩
  | loadIfAlive a kk ih => intro Q E p s G h k r; exact ih _ Q E p s G h k r
  | point _ kk ih => intro Q E p s G h k r; exact ih () Q E p s G h k r
  | register _ _ => intro Q E p s G h k r; exact h
  | alloc ob kk ih => intro Q E p s G h k r; exact ih _ Q E p { s with heap := s.heap.push ob } G h k r
  | fresh kk ih => intro Q E p s G h k r; exact ih _ Q E p { s with toks := s.toks + 1 } G h k r
  | ask kk ih => intro Q E p s G h k r; exact ih _ Q E p s G h k r
  | choose src m kk ih => intro Q E p s G h k r; exact ⟨h.1, ih _ Q E p { s with drawn := s.drawn.bump src } G h.2 k r⟩
  | os q _ kk ih => intro Q E p s G h k r; exact ih _ Q E p { s with os := (Os.step s.os q).1 } G h k r
  | call c hd _ _ kk ih =>
    intro Q E p s G h k r
    obtain ⟨res, s', hr, h⟩ := h
    obtain ⟨G', a, r', k', _⟩ := runs_frame hr rfl k G r
    exact ⟨res, _, a, ih res Q E p s' G' h k' r'⟩
  | handled own kk ih => intro Q E p s G h k r; exact ih _ Q E p s G h k r
  | genState g kk ih =>
    intro Q E p s G h k r
    obtain ⟨x, hs, h⟩ := h
    cases q : o g with
    | none => exact ⟨x, (r.none_ g q).trans hs, ih _ Q E p s G h k r⟩
    | some gs =>
      obtain ⟨h1, h2, h3⟩ := r.some_ g gs q
      rw [hs] at h3
      have e3 : x = stuck gs := Option.some.inj h3
      refine ⟨gs, h2, ?_⟩
      rw [← seen_stuck gs, ← e3]
      exact ih _ Q E p s G h k r
  | newGen c kk ih =>
    intro Q E p s G h k r
    have e1 : (st s G).gens.size = s.gens.size := r.size
    show wp M Γ (kk (st s G).gens.size) _ _ p _
    rw [e1]
    exact ih _ Q E p { s with gens := s.gens.push (.fresh c) } (G.push (.fresh c)) h (k.push c) (r.push c)
  | resume g rr _ kk ih =>
    intro Q E p s G h k r
    obtain ⟨res, s', hw, h⟩ := h
    obtain ⟨G', a, r', k'⟩ := wakes_frame hw k r
    exact ⟨res, _, a, ih res Q E p s' G' h k' r'⟩
  | yield _ _ _ _ => intro Q E p s G h k r; exact h
  | stack kk ih => intro Q E p s G h k r; exact ih _ Q E p s G h k r
  | fork _ _ => intro Q E p s G h k r; exact h
  | thread kk ih => intro Q E p s G h k r; exact ih _ Q E p s G h k r
  | await _ _ _ _ _ => intro Q E p s G h k r; exact h
theorem wpAny_frame {α : Type} {M : Model} {A : Around} {o : Nat → Option GenState} {t : Sem α} {Q : α → Shared → Prop} {E : Value → Shared → Prop} {s : Shared} {G : Array GenState} (h : wpAny M A t Q E s) (k : OkG o s.gens) (r : RelG o s.gens G) :
    wpAny M A t (fun a x => ∃ y G', x = st y G' ∧ Q a y ∧ RelG o y.gens G' ∧ OkG o y.gens) (fun e x => ∃ y G', x = st y G' ∧ E e y ∧ RelG o y.gens G' ∧ OkG o y.gens) (st s G) := fun Γ p hΓ =>
  wp_frame t _ _ p s G (h Γ p hΓ) k r
/-- every sleeper of G, put to sleep for good -/
def asleep (G : Array GenState) : Array GenState := G.map stuck
def orig (G : Array GenState) : Nat → Option GenState := fun i => match G[i]? with
  | some gs => if susp gs = true then some gs else none
  | none => none
theorem rel_asleep (G : Array GenState) : RelG (orig G) (asleep G) G := by
  unfold asleep
  refine ⟨by rw [Array.size_map], fun i gs h => ?_, fun i h => ?_⟩
  · unfold orig at h
    split at h
    · rename_i x e
      split at h
      · cases h
        refine ⟨by assumption, e, ?_⟩
        rw [Array.getElem?_map, e] <;> rfl
      · cases h
    · cases h
  · rw [Array.getElem?_map]
    unfold orig at h
    split at h
    · rename_i x e
      split at h
      · cases h
      · rename_i hs
        rw [e]
        cases x <;> first | rfl | exact absurd rfl hs
    · rename_i e
      rw [e] <;> rfl
theorem ok_asleep (G : Array GenState) : OkG (orig G) (asleep G) := fun i k l c p fs cl hi e => by
  unfold asleep at e
  rw [Array.getElem?_map] at e
  unfold orig at hi
  cases q : G[i]? with
  | none => rw [q] at e; cases e
  | some x =>
    rw [q] at e hi
    cases x with
    | suspended _ _ _ _ _ _ => cases hi
    | _ => cases e
theorem bare_asleep {G : Array GenState} (h : AllBare G) : AllBare (asleep G) := fun x hx => by
  unfold asleep at hx
  obtain ⟨y, hy, rfl⟩ := Array.mem_map.mp hx
  rw [bare_stuck]
  exact h y hy
/-- what was asleep stands as it was; all is bare if the new ones are -/
theorem RelG.at {G0 Y G : Array GenState} (r : RelG (orig G0) Y G) {g : Nat} {gs : GenState} (h : G0[g]? = some gs) (hs : susp gs = true) : G[g]? = some gs := (r.some_ g gs (by unfold orig; rw [h]; simp only [hs, if_true])).2.1
theorem RelG.bare {G0 Y G : Array GenState} (r : RelG (orig G0) Y G) (h0 : AllBare G0) (hY : AllBare Y) : AllBare G := fun x hx => by
  obtain ⟨i, hi, e⟩ := Array.mem_iff_getElem.mp hx
  have e' : G[i]? = some x := by rw [Array.getElem?_eq_getElem hi, e]
  cases q : orig G0 i with
  | some gs =>
    obtain ⟨_, h2, _⟩ := r.some_ i gs q
    rw [e'] at h2
    cases h2
    unfold orig at q
    split at q
    · rename_i y ey
      split at q
      · cases q
        exact h0 _ (Array.mem_of_getElem? ey)
      · cases q
    · cases q
  | none =>
    have h2 := r.none_ i q
    rw [e'] at h2
    exact hY x (Array.mem_of_getElem? h2.symm)
end GF
/-! One piece of a generator's run: up to its next yield, or its end. -/
namespace GF
open PySem PyProof.Rows L2
open Sem (wp)
def Seg1 (M : Model) (A : Around) (Φ : End → Shared → Prop) (c : Code) (t : Sem PySem.Fin) (fs : List Frame) (s : Shared) : Prop := ∀ Γ p, Γ.code = c → Γ.Woken A → ∃ e s', Runs M Γ p t fs s e s' ∧ Φ e s'
section
variable {M : Model} {A : Around} {Φ : End → Shared → Prop} {c : Code} {fs : List Frame} {s : Shared}
theorem s1_wrap {α : Type} {m : Sem α} {K : α → Sem PySem.Fin} {H : Value → Sem PySem.Fin} {gd lv} (h : wpAny M (A.over c fs) m (fun a s' => Seg1 M A Φ c (K a) fs s') (fun x s' => Seg1 M A Φ c (H x) fs s') s) : Seg1 M A Φ c (m.wrap K H gd lv) fs s := by
  rintro Γ p rfl hΓ
  exact runs_wrap_of_wp K H gd lv m (h (Γ.over fs) p (hΓ.over fs)) (fun a p' s' h' => h' Γ p' rfl hΓ) (fun x p' s' h' => h' Γ p' rfl hΓ)
theorem s1_bind {α : Type} {m : Sem α} {K : α → Sem PySem.Fin} (h : wpAny M (A.over c fs) m (fun a s' => Seg1 M A Φ c (K a) fs s') (fun x s' => Seg1 M A Φ c (.raise x) fs s') s) : Seg1 M A Φ c (m >>= K) fs s := by
  rw [Sem.bind_eq_wrap']; exact s1_wrap h
theorem s1_bind_wrap {α β : Type} {m : Sem α} {K : α → Sem β} {K' : β → Sem PySem.Fin} {H' : Value → Sem PySem.Fin} {gd lv} (h : wpAny M (A.over c fs) m (fun a s' => Seg1 M A Φ c ((K a).wrap K' H' gd lv) fs s') (fun x s' => Seg1 M A Φ c (H' x) fs s') s) :
    Seg1 M A Φ c ((m >>= K).wrap K' H' gd lv) fs s := by
  rw [Sem.bind_eq_wrap', Sem.wrap_wrap]
  exact s1_wrap h
theorem s1_at {p' : Pos} {k : Unit → Sem PySem.Fin} (h : Seg1 M A Φ c (k ()) fs s) : Seg1 M A Φ c (.at p' k) fs s :=
  s1_wrap (m := standAt p') (K := k) (H := .raise) (gd := id) (lv := id) (wpAny_standAt h)
theorem s1_point {l : List Value} {k : Unit → Sem PySem.Fin} (h : Seg1 M A Φ c (k ()) fs s) : Seg1 M A Φ c (.point l k) fs s :=
  s1_wrap (m := point) (K := k) (H := .raise) (gd := id) (lv := fun _ => l) (wpAny_point h)
theorem s1_call {c' : Code} {h g l} {k : Result → Sem PySem.Fin} (hc : ∀ p, Seg1 M A Φ c' (M.den c') (.ret k h g l c p [] :: fs) s) : Seg1 M A Φ c (.call c' h g l k) fs s := by
  rintro Γ p rfl hΓ
  obtain ⟨e, s', hr, he⟩ := hc p (Γ.goto c') p rfl (hΓ.goto c')
  exact ⟨e, s', runs_call_seg hr, he⟩
theorem s1_leaf {k h g l c₁ p₁ kp} (r : Result) (hk : Seg1 M A Φ c₁ (k r) fs s) : Seg1 M A Φ c (leafOf r) (.ret k h g l c₁ p₁ kp :: fs) s := by
  rintro Γ p rfl hΓ
  obtain ⟨e, s', hr, he⟩ := hk (Γ.goto c₁) p₁ rfl (hΓ.goto c₁)
  exact ⟨e, s', Runs.pop r hr, he⟩
theorem s1_again {c' : Code} (hq : c'.quiet = true) (hc : Seg1 M A Φ c' (M.den c') fs s) : Seg1 M A Φ c (.pure (.again c')) fs s := by
  rintro Γ p rfl hΓ
  obtain ⟨e, s', hr, he⟩ := hc (Γ.goto c') p rfl (hΓ.goto c')
  exact ⟨e, s', Runs.head (c₁ := c') (fun _ _ x => .again hq x) hr, he⟩
theorem s1_end (r : Result) (h : Φ (.ret r) s) : Seg1 M A Φ c (leafOf r) [] s := by
  rintro Γ p rfl _
  exact ⟨.ret r, s, Runs.leaf r, h⟩
theorem s1_yield {v g l} {k : Resume → Sem PySem.Fin} (hfs : splitAtGen fs = none) (h : ∀ p, Φ (.susp v g l k c p fs) s) : Seg1 M A Φ c (.yield v g l k) fs s := by
  rintro Γ p rfl _
  exact ⟨_, s, Runs.yield' fs hfs, h p⟩
end
/-- a state goes on by r -/
def Goes1 (M : Model) (A : Around) (Φ : End → Shared → Prop) (gs : GenState) (r : Resume) (s : Shared) : Prop := match gs with
  | .fresh c => r = .send .none ∧ Seg1 M A Φ c (M.den c) [] s
  | .suspended k _ c _ fs _ => Seg1 M A Φ c (k r) fs s
  | _ => False
theorem resume1 {M : Model} {A : Around} {Φ : End → Shared → Prop} {E : Value → Shared → Prop} {s : Shared} {g : Nat} {gs : GenState} {r : Resume} {l : List Value} {α : Type} {k : GenResult → Sem α} {Q : α → Shared → Prop} (hg : s.gens[g]? = some gs)
    (hgo : Goes1 M A Φ gs r (s.setGen g .running)) (hΦ : ∀ e s₁, Φ e s₁ → e.quiet = true ∧ wpAny M A (k e.result) Q E (s₁.setGen g e.genState)) : wpAny M A (.resume g r l k) Q E s := by
  intro Γ p hΓ
  rw [Sem.wp_resume]
  have hB : ∀ c, (Γ.wake c p).Woken A := fun c => hΓ.wake c p
  cases gs with
  | fresh c =>
    obtain ⟨rfl, hs⟩ := hgo
    obtain ⟨e₁, s₁, hr, he⟩ := hs (Γ.wake c p) p rfl (hB c)
    obtain ⟨h1, h2⟩ := hΦ e₁ s₁ he
    exact ⟨_, _, by unfold Wakes; rw [hg]; exact ⟨e₁, s₁, hr, h1, rfl, rfl⟩, h2 Γ p hΓ⟩
  | suspended k₀ l₀ c₀ p₀ fs₀ cl =>
    obtain ⟨e₁, s₁, hr, he⟩ := hgo (Γ.wake c₀ p) p₀ rfl (hB c₀)
    obtain ⟨h1, h2⟩ := hΦ e₁ s₁ he
    exact ⟨_, _, by unfold Wakes; rw [hg]; exact ⟨e₁, s₁, hr, h1, rfl, rfl⟩, h2 Γ p hΓ⟩
  | running => exact hgo.elim
  | finished => exact hgo.elim
/-- next(g): a yield, or the end -/
theorem next1 {P : Program} {w : World} {A : Around} {E : Value → Shared → Prop} {s : Shared} {a : Addr} {g : Nat} {gs : GenState} {Φ : End → Shared → Prop} {Q : Option Value → Shared → Prop} (hh : A.handled = none) (hl : s.heap.NoLimit) (hroom : A.depth < recursionLimit) (hg : s.heap.IsGen a g) (hgs : s.gens[g]? = some gs)
    (hgo : Goes1 (model P w) A.in1 Φ gs (.send .none) (s.setGen g .running))
    (hΦ : ∀ e s₁, Φ e s₁ → e.quiet = true ∧ match e with
      | .ret r => (r = .ok (.ret .none) ∨ r = .ok .next) ∧ ∀ h', (∀ b o, s₁.heap.get? b = some o → h'.get? b = some o) → Q none { s₁.setGen g .finished with heap := h' }
      | .susp v .. => Q (some v) (s₁.setGen g e.genState)) : wpAny (model P w) A (pyNext (.ref a)) Q E s := by
  unfold pyNext
  refine wpAny_bind (wpAny_attempt (wpAny_callSpecial?_slot (name := Str.ofString "__next__") hg.typeIs slot_gen_next
    (wpAny_call_entry slot_gen_next hg.typeIs entry_gen_next ?_ (args_gen_next _))))
  show wpAny _ A.in1 (Builtin.Generator.genWake (.ref a) (.send .none)) _ _ s
  unfold Builtin.Generator.genWake
  refine wpAny_bind (wpAny_holding (wpAny_genNumber hg (wpAny_bind (wpAny_genState hgs ?_))))
  cases gs with
  | running => exact hgo.elim
  | finished => exact hgo.elim
  | _ =>
    refine wpAny_bind (wpAny_roomToWake hl hroom ?_)
    show wpAny _ A.in1 (.resume g (.send .none) [] _) _ _ s
    refine resume1 hgs hgo fun e s₁ he => ?_
    obtain ⟨hq, he⟩ := hΦ e s₁ he
    refine ⟨hq, ?_⟩
    cases e with
    | ret r =>
      obtain ⟨hr, hp⟩ := he
      have hres : End.result (.ret r) = .returned .none := by
        rcases hr with hr | hr <;> rw [hr] <;> rfl
      first | rw [hres] | simp only [hres]
      show wpAny _ A.in1 (newExc (.type "StopIteration") [] >>= _) _ _ _
      refine wpAny_bind ?_
      simp only [newExc, newTuple]
      refine wpAny_bind (wpAny_newObj_type ?_ (by size_fits))
      refine wpAny_bind (m := firstArgMember _ _) (wpAny_of_eq (a := Value.none) (by first | rfl | (simp only [firstArgMember]; rfl)) ?_)
      refine wpAny_newObj_type ?_ (by size_fits)
      simp only [raiseNew]
      refine wpAny_bind (wpAny_bind (wpAny_handled ?_))
      first | rw [show A.in1.handled = none from hh] | rw [hh]
      refine wpAny_throw ?_
      refine wpAny_bind (wpAny_isInstance (T := "StopIteration") (b := true) ⟨_, Heap.get?_push_size _ rfl, rfl⟩ isSubtype_stop ?_)
      exact wpAny_pure (hp _ fun b o hb => Heap.get?_push_of_some _ (Heap.get?_push_of_some _ hb))
    | susp v g₀ l₀ k₀ c₀ p₀ fs₀ => exact wpAny_pure ⟨v, rfl, wpAny_pure he⟩
end GF
/-! for x in ITER: yield x -/
namespace GF
open PySem PyProof.Rows L2
open Sem (wp)
section
variable {prog : Program} {w : World} {A : Around} {Φ : End → Shared → Prop} {c : Code} {fs : List Frame} {s : Shared} {env : Env} {K : Flow → Sem PySem.Fin} {H : Value → Sem PySem.Fin} {gd : Bool → Bool} {lv : List Value → List Value}
theorem s1_execs_nil {M : Model} (h : Seg1 M A Φ c (K .next) fs s) : Seg1 M A Φ c ((execs [] env).wrap K H gd lv) fs s := h
theorem s1_execs_cons {M : Model} {st : Stmt} {rest : List Stmt} (h : Seg1 M A Φ c ((exec st env).wrap (fun f => match f with | .next => (execs rest env).wrap K H gd lv | f => K f) H gd lv) fs s) : Seg1 M A Φ c ((execs (st :: rest) env).wrap K H gd lv) fs s := by
  rw [execs_cons_wrap]; exact h
theorem s1_func {body : List Stmt} (h : Seg1 (model prog w) A Φ (.func body env) ((execs body env).wrap (fun f => .pure (.done (.ret (match f with | .ret v => v | _ => .none)))) (fun e => (leaving env e).wrap (fun _ => .raise e) .raise id id) id id) fs s) :
    Seg1 (model prog w) A Φ (.func body env) ((model prog w).den (.func body env)) fs s := by
  show Seg1 _ A Φ _ (.point [] fun _ => ((execs body env).onRaise (leaving env)) >>= _) fs s
  refine s1_point ?_
  rw [Sem.onRaise_eq_wrap, Sem.bind_eq_wrap', Sem.wrap_wrap]
  rw [Sem.wrap_congr (execs body env) _ _ (K' := fun f => .pure (.done (.ret (match f with | .ret v => v | _ => .none))))
    (H' := fun e => (leaving env e).wrap (fun _ => .raise e) .raise id id) (fun f => by cases f <;> rfl)
    (fun e => by rw [Sem.bind_eq_wrap, Sem.wrap_wrap]; rfl)]
  exact h
/-- what stands under a loop's code -/
def ownFrame (env : Env) (K : Flow → Sem PySem.Fin) (H : Value → Sem PySem.Fin) (gd : Bool → Bool) (lv : List Value → List Value) (c : Code) (p : Pos) : Frame :=
  .ret (fun r => ((match r with | .ok f => (.pure f : Sem Flow) | .error e => .raise e).onRaise (cameBack env)).wrap K H gd lv) none (gd false) (lv []) c p []
theorem s1_For {target iter : Expr} {body orelse : List Stmt} {pos : Pos} {M : Model}
    (h : wpAny M (A.over c fs) (eval iter env) (fun x s₁ => wpAny M (A.over c fs) (pyIter x) (fun it s₂ => ∀ p, Seg1 M A Φ (.forLoop target it body orelse env) (M.den (.forLoop target it body orelse env)) (ownFrame env K H gd lv c p :: fs) s₂) (fun x s' => Seg1 M A Φ c (H x) fs s') s₁) (fun x s' => Seg1 M A Φ c (H x) fs s') s)
    (hs : ∀ x, foldedSetIterable iter env x = pure x := by intro _; rfl) : Seg1 M A Φ c ((exec (.For target iter body orelse pos) env).wrap K H gd lv) fs s := by
  rw [exec_For]
  refine s1_bind_wrap (wpAny_standAt (s1_bind_wrap (wpAny_mono h (fun x s₁ h₁ => ?_) fun _ _ z => z)))
  refine s1_bind_wrap (wpAny_of_eq (hs x) (s1_bind_wrap (wpAny_standAt (s1_bind_wrap (wpAny_holding (wpAny_mono h₁ (fun it s₂ h₂ => ?_) fun _ _ z => z))))))
  exact s1_call h₂
def loopK (target : Expr) (it : Value) (body orelse : List Stmt) (env : Env) : Flow → Sem PySem.Fin := fun f => match f with
  | .next | .cont => .pure (.again (.forLoop target it body orelse env))
  | .brk => .pure (.done .next)
  | .ret v => .pure (.done (.ret v))
def loopH (env : Env) : Value → Sem PySem.Fin := fun e => (do noteFrame e env; theTreesLotGoes e : Sem Unit).wrap (fun _ => .raise e) .raise id id
theorem s1_forLoop {target : Expr} {it : Value} {body orelse : List Stmt}
    (h : wpAny (model prog w) (A.over (.forLoop target it body orelse env) fs) (pyNext it) (fun r s₁ => match r with
      | none => Seg1 (model prog w) A Φ (.block orelse env) ((model prog w).den (.block orelse env)) fs s₁
      | some v => wpAny (model prog w) (A.over (.forLoop target it body orelse env) fs) (letOwnedTupleGo target it v) (fun _ s₂ => wpAny (model prog w) (A.over (.forLoop target it body orelse env) fs) (assign target env v) (fun _ s₃ =>
        Seg1 (model prog w) A Φ (.forLoop target it body orelse env) ((execs body env).wrap (loopK target it body orelse env) (loopH env) id id) fs s₃) (fun _ _ => False) s₂) (fun _ _ => False) s₁) (fun _ _ => False) s) :
    Seg1 (model prog w) A Φ (.forLoop target it body orelse env) ((model prog w).den (.forLoop target it body orelse env)) fs s := by
  show Seg1 _ A Φ _ ((forTurn target it body orelse env).onRaise (fun x => do noteFrame x env; theTreesLotGoes x)) fs s
  unfold forTurn
  rw [Sem.onRaise_eq_wrap]
  refine s1_bind_wrap (wpAny_standAt (s1_bind_wrap (wpAny_onRaise (wpAny_mono h (fun r s₁ h₁ => ?_) fun _ _ z => z.elim))))
  cases r with
  | none => exact s1_again rfl h₁
  | some v =>
    refine s1_bind_wrap (wpAny_mono h₁ (fun _ s₂ h₂ => ?_) fun _ _ z => z.elim)
    refine s1_bind_wrap (wpAny_mono h₂ (fun _ s₃ h₃ => ?_) fun _ _ z => z.elim)
    rw [Sem.bind_eq_wrap', Sem.wrap_wrap]
    rw [Sem.wrap_congr (execs body env) _ _ (K' := loopK target it body orelse env) (H' := loopH env)
      (fun f => by cases f <;> rfl)
      (fun e => by first | exact Sem.bind_eq_wrap _ _ | (show (do noteFrame e env; theTreesLotGoes e : Sem Unit).bind (fun _ => .raise e) = _; rw [Sem.bind_eq_wrap]; rfl))]
    exact h₃
/-- a yield: what its continuation does -/
theorem s1_Yield {M : Model} {e : Expr} {ypos pos : Pos} (hfs : splitAtGen fs = none)
    (h : wpAny M (A.over c fs) (eval e env) (fun v s' => ∀ (l : List Value) (k : Resume → Sem PySem.Fin) (p : Pos), (∀ A' Φ' s'', Seg1 M A' Φ' c (K .next) fs s'' → Seg1 M A' Φ' c (k (.send .none)) fs s'') → Φ (.susp v (gd false) l k c p fs) s') (fun _ _ => False) s)
    (hco : env.scope.isCoroutine = false := by rfl) (hi : interactive env = false := by rfl) : Seg1 M A Φ c ((exec (.Expr (.Yield (some e) ypos) pos) env).wrap K H gd lv) fs s := by
  rw [exec_Expr env _ pos hi rfl]
  show Seg1 M A Φ c (.at pos fun _ => ((eval e env >>= fun v => (standAt ypos >>= fun _ => yieldOut env v)) >>= fun x =>
    dropValue (.Yield (some e) ypos) pos x).wrap K H gd lv) fs s
  have hy : ∀ v, yieldOut env v = yieldValue v := fun v => by simp only [yieldOut, hco, Bool.false_eq_true, if_false]
  simp only [hy]
  refine s1_at ?_
  rw [Sem.bind_eq_wrap', Sem.bind_eq_wrap', Sem.wrap_wrap, Sem.wrap_wrap]
  refine s1_wrap (wpAny_mono h (fun v s' h' => ?_) fun _ _ x => x.elim)
  refine s1_at (s1_yield hfs fun p => h' _ _ p fun A' Φ' s'' hx => ?_)
  exact hx
end
end GF
namespace GF
open PySem PyProof.Rows L2
open Sem (wp)
/-- the text of such a def -/
structure GTxt where
  xn : Str
  iter : Expr
  px : Pos
  py : Pos
  yp : Pos
  ep : Pos
  fp : Pos
abbrev GTxt.tgt (t : GTxt) : Expr := .Name t.xn t.px
abbrev GTxt.inner (t : GTxt) : List Stmt := [.Expr (.Yield (some (.Name t.xn t.py)) t.yp) t.ep]
abbrev GTxt.body (t : GTxt) : List Stmt := [.For t.tgt t.iter t.inner [] t.fp]
def gK0 : Flow → Sem PySem.Fin := fun f => .pure (.done (.ret (match f with | .ret v => v | _ => .none)))
def gH0 (env : Env) : Value → Sem PySem.Fin := fun e => (leaving env e).wrap (fun _ => .raise e) .raise id id
def gK1 (env : Env) : Flow → Sem PySem.Fin := fun f => match f with
  | .next => (execs [] env).wrap gK0 (gH0 env) id id
  | f => gK0 f
def gFr (t : GTxt) (env : Env) (p : Pos) : List Frame := [ownFrame env (gK1 env) (gH0 env) id id (.func t.body env) p]
/-- asleep behind a yield of the loop over it -/
def Asl (M : Model) (t : GTxt) (env : Env) (it : Value) (gs : GenState) : Prop := susp gs = true ∧ gs.bare = true ∧ ∃ p, ∀ A' Φ' s'', Seg1 M A' Φ' (.forLoop t.tgt it t.inner [] env) (M.den (.forLoop t.tgt it t.inner [] env)) (gFr t env p) s'' → Goes1 M A' Φ' gs (.send .none) s''
/-- what a turn is to reach -/
def TurnTo (M : Model) (A : Around) (t : GTxt) (env : Env) (it : Value) (Φ : End → Shared → Prop) (r : Option Value) (s₁ : Shared) : Prop := match r with
  | none => Φ (.ret (.ok (.ret .none))) s₁
  | some v => wpAny M A (letOwnedTupleGo t.tgt it v) (fun _ s₂ => wpAny M A (assign t.tgt env v) (fun _ s₃ => wpAny M A (eval (.Name t.xn t.py) env) (fun u s₄ =>
      ∀ g l k c p fs, End.quiet (.susp u g l k c p fs) = true → Asl M t env it (End.genState (.susp u g l k c p fs)) → Φ (.susp u g l k c p fs) s₄) (fun _ _ => False) s₃) (fun _ _ => False) s₂) (fun _ _ => False) s₁
section
variable {prog : Program} {w : World} {A : Around} {Φ : End → Shared → Prop} {s : Shared} {env : Env} {t : GTxt} {it : Value} {p : Pos}
theorem over_gFr : A.over (.forLoop t.tgt it t.inner [] env) (gFr t env p) = A.deeper env := (GenW.over_loop rfl rfl).trans GenW.over_func
theorem s1_turn (hco : env.scope.isCoroutine = false) (hi : interactive env = false) (h : wpAny (model prog w) (A.deeper env) (pyNext it) (TurnTo (model prog w) (A.deeper env) t env it Φ) (fun _ _ => False) s) :
    Seg1 (model prog w) A Φ (.forLoop t.tgt it t.inner [] env) ((model prog w).den (.forLoop t.tgt it t.inner [] env)) (gFr t env p) s := by
  refine s1_forLoop ?_
  rw [over_gFr]
  refine wpAny_mono h (fun r s₁ h₁ => ?_) fun _ _ z => z
  cases r with
  | none =>
    show Seg1 _ A Φ (.block [] env) ((model prog w).den (.block [] env)) (gFr t env p) s₁
    have e : Seg1 (model prog w) A Φ (.block [] env) (leafOf (.ok .next)) (gFr t env p) s₁ := s1_leaf (.ok .next) (s1_end (.ok (.ret .none)) h₁)
    first
      | exact e
      | (rw [Sem.onRaise_eq_wrap]; exact e)
  | some v =>
    refine wpAny_mono h₁ (fun _ s₂ h₂ => wpAny_mono h₂ (fun _ s₃ h₃ => ?_) fun _ _ z => z) fun _ _ z => z
    refine s1_execs_cons (s1_Yield rfl ?_ hco hi)
    rw [over_gFr]
    refine wpAny_mono h₃ (fun u s₄ h₄ l k pp hk => ?_) fun _ _ z => z
    refine h₄ _ _ _ _ _ _ rfl ⟨rfl, rfl, p, fun A' Φ' s'' hx => ?_⟩
    exact hk A' Φ' s'' (s1_execs_nil (s1_again rfl hx))
theorem goes_wake {gs : GenState} (hco : env.scope.isCoroutine = false) (hi : interactive env = false) (a : Asl (model prog w) t env it gs) (h : wpAny (model prog w) (A.deeper env) (pyNext it) (TurnTo (model prog w) (A.deeper env) t env it Φ) (fun _ _ => False) s) : Goes1 (model prog w) A Φ gs (.send .none) s := by
  obtain ⟨_, _, p, k⟩ := a
  exact k A Φ s (s1_turn hco hi h)
theorem goes_first (hco : env.scope.isCoroutine = false) (hi : interactive env = false) (hs : ∀ x, foldedSetIterable t.iter env x = pure x)
    (h : wpAny (model prog w) (A.deeper env) (eval t.iter env) (fun x s₁ => wpAny (model prog w) (A.deeper env) (pyIter x) (fun it s₂ => wpAny (model prog w) (A.deeper env) (pyNext it) (TurnTo (model prog w) (A.deeper env) t env it Φ) (fun _ _ => False) s₂) (fun _ _ => False) s₁) (fun _ _ => False) s) :
    Goes1 (model prog w) A Φ (.fresh (.func t.body env)) (.send .none) s := by
  refine ⟨rfl, s1_func (s1_execs_cons (s1_For ?_ hs))⟩
  rw [GenW.over_func]
  exact wpAny_mono h (fun x s₁ h₁ => wpAny_mono h₁ (fun itv s₂ h₂ p => s1_turn hco hi h₂) fun _ _ z => z.elim) fun _ _ z => z.elim
end
end GF
namespace GF
open PySem PySem.Spec PyProof.Rows L2
/-! ### a heap cut at an address -/
theorem cut_ex (h : Heap) (L : Nat) (hL : L ≤ h.objs.size) : ∃ hc : Heap, hc.objs.size = L ∧ (∀ b, b < L → hc.get? b = h.get? b) ∧ ∀ b, L ≤ b → hc.get? b = none := by
  have e : ∀ b, (h.objs.extract 0 L)[b]? = if b < L then h.objs[b]? else none := fun b => by
    rw [Array.getElem?_extract]
    by_cases hb : b < L
    · rw [if_pos hb, if_pos (by omega), Nat.zero_add]
    · rw [if_neg hb, if_neg (by omega)]
  refine ⟨{ h with objs := h.objs.extract 0 L }, by show (h.objs.extract 0 L).size = L; rw [Array.size_extract]; omega, fun b hb => ?_, fun b hb => ?_⟩
  · unfold Heap.get?
    show (match (h.objs.extract 0 L)[b]? with | some ⟨_, _, .freed, _⟩ => none | x => x) = _
    rw [e b, if_pos hb]
    rfl
  · unfold Heap.get?
    show (match (h.objs.extract 0 L)[b]? with | some ⟨_, _, .freed, _⟩ => none | x => x) = _
    rw [e b, if_neg (by omega)]
theorem funs_cut {h h' base : Heap} : ∀ {l : List Env}, (∀ b ∈ frs l, ∀ o, h.get? b = some o → h'.get? b = some o) → h.FunFrames base l → h'.FunFrames base l
  | [], _, _ => trivial
  | env :: rest, k, ⟨hk, ⟨L, o, hf, hn, ho, hd⟩, hr⟩ => ⟨hk, ⟨L, o, hf, hn, k L (List.mem_filterMap.mpr ⟨env, List.mem_cons_self, hf⟩) o ho, hd⟩, funs_cut (fun b hb => k b (by
      obtain ⟨e, he, q⟩ := List.mem_filterMap.mp hb
      exact List.mem_filterMap.mpr ⟨e, List.mem_cons_of_mem _ he, q⟩)) hr⟩
/-- a generator def's scope: no cell -/
structure GSc (N : List Str) (sc : Scope) : Prop where
  kind : sc.kind = .function
  co : sc.isCoroutine = false
  nd : N.Nodup
  nocell : ∀ n, cellsFrom n sc.names [] = []
  nofree : ∀ y ∈ sc.names, y.2 ≠ .free ∧ y.2 ≠ .cell
abbrev gX (P : Program) (w : World) (K : PySem.W.Frag) (mg : Str → Option Value) (base : Heap) (N : List Str) (qual : Str) (scope : Scope) (f : Addr) (cdv : Value) (A : Around) (outer : List Env) (sc : Shared) (Hc : Hp) : Cx := (cxOf C8.CX0 P w K mg base N qual scope f cdv A outer sc Hc C8.E0).nox
section
variable {P : Program} {w : World} {K : PySem.W.Frag} {mg : Str → Option Value} {base : Heap} {N : List Str} {qual : Str} {scope : Scope} {f : Addr} {cdv : Value} {A : Around} {outer : List Env} {s sc : Shared} {H Hc : Hp} {σ : L2.St} {pins : List (Addr × Obj)}
theorem gen_inv (S : GSc N scope) (hd : A.handled = none) (e0 : Env0 P w K mg base A outer s H) (eos : s.os = sc.os) (h1 : ∀ b o, sc.heap.get? b = some o → b < sc.heap.objs.size ∧ s.heap.get? b = some o) (h2 : ∀ b o, b < sc.heap.objs.size → s.heap.get? b = some o → sc.heap.get? b = some o)
    (hH : ∀ b, b < sc.heap.objs.size → Hc b = H b) (hH' : ∀ b, sc.heap.objs.size ≤ b → Hc b = none) (hbase : base.objs.size ≤ sc.heap.objs.size) (hfr : ∀ b ∈ frs outer, b < sc.heap.objs.size)
    (hloc : ∃ m, s.heap.Ns sc.heap.objs.size m ∧ ∀ (i : Nat) (x : Str) (v : V), N[i]? = some x → σ[i]? = some (some v) → Vis scope x → ∃ u, RelV v u ∧ (envOfC qual scope sc.heap.objs.size f cdv).kindOf x = some .local ∧ m x = some u)
    (hfree : H sc.heap.objs.size = none) (hpin : ∀ p ∈ pins, s.heap.get? p.1 = some p.2 ∧ H p.1 = none ∧ p.1 ≠ sc.heap.objs.size ∧ p.1 ∉ frs outer ∧ ∀ v, p.2.data ≠ .cell v) (hlen : σ.length = N.length) :
    Inv (gX P w K mg base N qual scope f cdv A outer sc Hc) pins σ H s := by
  have nc : (envOfC qual scope sc.heap.objs.size f cdv).cells = [] := S.nocell _
  have noc : ∀ {x c}, (envOfC qual scope sc.heap.objs.size f cdv).cells.lookup x = some c → False := fun {x c} h => by rw [nc] at h; cases h
  have noA : ∀ b : Addr, b ∉ (gX P w K mg base N qual scope f cdv A outer sc Hc).ex := fun b z => absurd (show b ∈ ([] : List Addr) from z) (by simp)
  refine ⟨⟨e0.mod, S.kind, rfl, rfl, Nat.le_refl _, fun y z c q1 _ => (noc q1).elim, fun y hy => ?_, fun y c _ q => (noc q).elim, fun _ => hd, Around.frames_deeper e0.frames, .inr ⟨rfl, rfl⟩, fun b z => absurd z (noA b), fun b o e => ?_, hbase, fun b _ _ => noA b, fun b z => absurd z (noA b), funs_cut (fun b hb o e => h2 b o (hfr b hb) e) e0.funs, fun b hb => ?_⟩,
    eos, e0.bare, ⟨fun b o e _ _ _ => (h1 b o e).2, fun b o e _ _ _ => ⟨o.slots, (h1 b o e).2⟩, fun b o e n _ => ?_, fun b o e _ => ⟨o, (h1 b o e).2⟩, fun b xs e => ?_, fun b o u e => ?_, fun b ps e => ⟨#[], ?_⟩⟩, ?_, fun y c q => (noc q).elim, hfree, fun y c q => (noc q).elim, fun p hp => hpin p hp, e0.hok, hlen⟩
  · have hy : scope.names.lookup y = some .cell ∨ scope.names.lookup y = some .free := hy
    rcases hy with hy | hy
    · exact absurd rfl (S.nofree _ (PySem.mem_of_lookup hy)).2
    · exact absurd rfl (S.nofree _ (PySem.mem_of_lookup hy)).1
  · obtain ⟨q1, q2⟩ := e0.bs b o e
    have hb : b < sc.heap.objs.size := Nat.lt_of_lt_of_le (Heap.lt_size e) hbase
    exact ⟨h2 b o hb q1, by show Hc b = none; rw [hH b hb]; exact q2⟩
  · show Hc b = none
    rw [hH b (hfr b hb)]
    exact e0.frf b hb
  · have e2 := (h1 b o e).1
    rw [← hH b e2]
    exact n
  · have lt : b < sc.heap.objs.size := by
      by_cases h : b < sc.heap.objs.size
      · exact h
      · have z := hH' b (Nat.le_of_not_lt h)
        rw [show Hc b = _ from e] at z; cases z
    rw [← hH b lt]; exact e
  · have lt : b < sc.heap.objs.size := by
      by_cases h : b < sc.heap.objs.size
      · exact h
      · have z := hH' b (Nat.le_of_not_lt h)
        rw [show Hc b = _ from e] at z; cases z
    rw [← hH b lt]; exact e
  · have lt : b < sc.heap.objs.size := by
      by_cases h : b < sc.heap.objs.size
      · exact h
      · have z := hH' b (Nat.le_of_not_lt h)
        rw [show Hc b = _ from e] at z; cases z
    rw [← hH b lt, show Hc b = _ from e]; simp
  · obtain ⟨m, hn, hl⟩ := hloc
    refine ⟨m, hn, fun i x v q1 q2 q3 => ?_⟩
    obtain ⟨u, r, q4, q5⟩ := hl i x v q1 q2 q3
    exact ⟨u, r, .inl ⟨q4, q5⟩⟩
end
end GF
namespace GF
open PySem PySem.Spec PyProof.Rows L2
def isCell (o : Obj) : Bool := match o.data with
  | .cell _ => true
  | _ => false
theorem notCell {o : Obj} (h : isCell o = false) : ∀ v, o.data ≠ .cell v := fun v e => by unfold isCell at h; rw [e] at h; cases h
/-- all that stands from L on, but L, fp, the cells and what is tracked -/
def pinsFrom (s : Shared) (H : Hp) (L : Addr) (fp : List Addr) : List (Addr × Obj) := (List.range s.heap.objs.size).filterMap fun b => if L < b ∧ b ∉ fp then (match s.heap.get? b, H b with
  | some o, none => if isCell o = true then none else some (b, o)
  | _, _ => none) else none
def cellsAt (s : Shared) (H : Hp) (L : Addr) : List Addr := (List.range s.heap.objs.size).filter fun b => (decide (L < b) && (H b).isNone) && (match s.heap.get? b with
  | some o => isCell o
  | none => false)
section
variable {s : Shared} {H : Hp} {L : Addr} {fp : List Addr}
theorem mem_pins {b : Addr} {o : Obj} (h1 : L < b) (h2 : b ∉ fp) (h3 : s.heap.get? b = some o) (h4 : H b = none) (h5 : isCell o = false) : (b, o) ∈ pinsFrom s H L fp := by
  refine List.mem_filterMap.mpr ⟨b, List.mem_range.mpr (Heap.lt_size h3), ?_⟩
  rw [if_pos ⟨h1, h2⟩, h3, h4]
  simp only [h5, Bool.false_eq_true, if_false]
theorem of_pins {p : Addr × Obj} (h : p ∈ pinsFrom s H L fp) : L < p.1 ∧ p.1 ∉ fp ∧ s.heap.get? p.1 = some p.2 ∧ H p.1 = none ∧ isCell p.2 = false := by
  obtain ⟨b, _, e⟩ := List.mem_filterMap.mp h
  split at e
  · rename_i c
    cases h3 : s.heap.get? b with
    | none => rw [h3] at e; cases e
    | some o =>
      cases h4 : H b with
      | some u => rw [h3, h4] at e; cases e
      | none =>
        rw [h3, h4] at e
        simp only at e
        split at e
        · cases e
        · rename_i h5
          have e' := Option.some.inj e
          subst e'
          exact ⟨c.1, c.2, h3, h4, by cases q : isCell o with | false => rfl | true => exact absurd q h5⟩
  · cases e
theorem of_cells {b : Addr} (h : b ∈ cellsAt s H L) : L < b ∧ H b = none ∧ ∃ o, s.heap.get? b = some o ∧ isCell o = true := by
  obtain ⟨_, e⟩ := List.mem_filter.mp h
  obtain ⟨e1, e2⟩ := Bool.and_eq_true_iff.mp e
  obtain ⟨e3, e4⟩ := Bool.and_eq_true_iff.mp e1
  refine ⟨of_decide_eq_true e3, Option.isNone_iff_eq_none.mp e4, ?_⟩
  cases q : s.heap.get? b with
  | none => rw [q] at e2; cases e2
  | some o => rw [q] at e2; exact ⟨o, rfl, e2⟩
theorem mem_cells {b : Addr} {o : Obj} (h1 : L < b) (h4 : H b = none) (h2 : s.heap.get? b = some o) (h3 : isCell o = true) : b ∈ cellsAt s H L := by
  refine List.mem_filter.mpr ⟨List.mem_range.mpr (Heap.lt_size h2), ?_⟩
  rw [h2, h4]
  simp only [h3, Bool.and_true, Option.isNone_none]
  exact decide_eq_true h1
end
section
variable {P : Program} {w : World} {K : PySem.W.Frag} {mg : Str → Option Value} {base : Heap} {N : List Str} {qual : Str} {scope : Scope} {f : Addr} {cdv : Value} {A : Around} {outer : List Env} {s sc s1 s0 : Shared} {H H' Hc : Hp} {σ : L2.St} {fp : List Addr}
/-- behind a piece: what the consumer is told. s0: the state with the generator running -/
theorem un_piece (J : Inv (gX P w K mg base N qual scope f cdv A outer sc Hc) (pinsFrom s H sc.heap.objs.size fp) σ H' s1) (h2 : ∀ b o, b < sc.heap.objs.size → s.heap.get? b = some o → sc.heap.get? b = some o)
    (hH : ∀ b, b < sc.heap.objs.size → Hc b = H b) (hfr : ∀ b ∈ frs outer, b < sc.heap.objs.size) (hsame : ∀ b o, sc.heap.objs.size ≤ b → H b = some o → H' b = some o) :
    Un (frs outer) (sc.heap.objs.size :: (fp ++ cellsAt s H sc.heap.objs.size)) H H' s.heap s1.heap := by
  have noA : ∀ b : Addr, b ∉ (gX P w K mg base N qual scope f cdv A outer sc Hc).ex := fun b z => absurd (show b ∈ ([] : List Addr) from z) (by simp)
  have big : ∀ b o, s.heap.get? b = some o → H b = none → b ∉ sc.heap.objs.size :: (fp ++ cellsAt s H sc.heap.objs.size) → ¬ b < sc.heap.objs.size → s1.heap.get? b = some o ∧ H' b = none := fun b o e n hc hb => by
    have n1 : b ≠ sc.heap.objs.size := fun z => hc (by rw [z]; exact List.mem_cons_self)
    have lt : sc.heap.objs.size < b := Nat.lt_of_le_of_ne (Nat.le_of_not_lt hb) (Ne.symm n1)
    have n2 : b ∉ fp := fun z => hc (List.mem_cons_of_mem _ (List.mem_append_left _ z))
    have n3 : isCell o = false := by
      cases q : isCell o with
      | false => rfl
      | true => exact absurd (List.mem_cons_of_mem _ (List.mem_append_right _ (mem_cells lt n e q))) hc
    obtain ⟨q1, q2, _⟩ := J.pin (b, o) (List.mem_append_right _ (mem_pins lt n2 e n n3))
    exact ⟨q1, q2⟩
  refine ⟨fun b o e n hf hc => ?_, fun b o e n hf hc => ?_, fun b o e n hc => ?_, fun b o e hc => ?_, fun b xs e => ?_, fun b o u e => ?_, fun b ps e => ?_⟩
  · by_cases hb : b < sc.heap.objs.size
    · exact J.base.keep b o (h2 b o hb e) (by show Hc b = none; rw [hH b hb]; exact n) hf (noA b)
    · exact (big b o e n hc hb).1
  · have hb := hfr b hf
    exact J.base.slot b o (h2 b o hb e) (by show Hc b = none; rw [hH b hb]; exact n) hf (noA b)
  · by_cases hb : b < sc.heap.objs.size
    · exact J.base.free b o (h2 b o hb e) (by show Hc b = none; rw [hH b hb]; exact n) (noA b)
    · exact (big b o e n hc hb).2
  · by_cases hb : b < sc.heap.objs.size
    · exact J.base.there b o (h2 b o hb e) (noA b)
    · cases q : H b with
      | none => exact ⟨o, (big b o e q hc hb).1⟩
      | some u => exact objOk_get (J.hok b u (hsame b u (Nat.le_of_not_lt hb) q))
  · by_cases hb : b < sc.heap.objs.size
    · exact J.base.tups b xs (by show Hc b = _; rw [hH b hb]; exact e)
    · exact hsame b _ (Nat.le_of_not_lt hb) e
  · by_cases hb : b < sc.heap.objs.size
    · exact J.base.frzs b o u (by show Hc b = _; rw [hH b hb]; exact e)
    · exact hsame b _ (Nat.le_of_not_lt hb) e
  · by_cases hb : b < sc.heap.objs.size
    · exact J.base.tbls b ps (by show Hc b = _; rw [hH b hb]; exact e)
    · exact ⟨#[], by rw [hsame b _ (Nat.le_of_not_lt hb) e]; simp⟩
end
end GF
namespace GF
open PySem PySem.Spec PyProof.Rows L2
section
variable {P : Program} {w : World} {K : PySem.W.Frag} {mg : Str → Option Value} {base : Heap} {N : List Str} {qual : Str} {scope : Scope} {f : Addr} {cdv : Value} {A : Around} {outer : List Env} {s sc s1 s0 : Shared} {H H' Hc : Hp} {σ : L2.St} {fp : List Addr} {pins : List (Addr × Obj)}
  {t : GTxt} {J : It} {ita : Addr} {tn : Nat → Heap → Prop} {i ix : Nat} {Φ : End → Shared → Prop}
/-- a turn of the generator's loop, in its own context -/
theorem gen_turn (Ig : Inv (gX P w K mg base N qual scope f cdv A outer sc Hc) pins σ H s0) (T : Turn P w K t.tgt J fp ita tn) (st : tn i s0.heap) (hf : ∀ b ∈ fp, FpOk (gX P w K mg base N qual scope f cdv A outer sc Hc) pins H b) (nd : N.Nodup) (hN : N[ix]? = some t.xn) (hx : scope.names.lookup t.xn = some .local)
    (hdb : (t.xn == ("__debug__" : Str)) = false) (hcd : (t.xn == ("__classdict__" : Str)) = false)
    (dec : (J.stop i H ∧ ∀ s1, Inv (gX P w K mg base N qual scope f cdv A outer sc Hc) pins σ H s1 → Φ (.ret (.ok (.ret .none))) s1) ∨ (J.go i H ∧ ∀ x u H' s4 g l k c p fs, J.yld i H x H' → RelV x u → Inv (gX P w K mg base N qual scope f cdv A outer sc Hc) (pins ++ pinsAt fp s4.heap) (σ.set ix (some x)) H' s4 → tn (i + 1) s4.heap → (∀ b ∈ fp, H' b = none) →
      End.quiet (.susp u g l k c p fs) = true → Asl (model P w) t (gX P w K mg base N qual scope f cdv A outer sc Hc).env (.ref ita) (End.genState (.susp u g l k c p fs)) → Φ (.susp u g l k c p fs) s4)) :
    wpAny (model P w) (gX P w K mg base N qual scope f cdv A outer sc Hc).A (pyNext (.ref ita)) (TurnTo (model P w) (gX P w K mg base N qual scope f cdv A outer sc Hc).A t (gX P w K mg base N qual scope f cdv A outer sc Hc).env (.ref ita) Φ) (fun _ _ => False) s0 := by
  rcases dec with ⟨stop, k⟩ | ⟨go, k⟩
  · refine thn (T.done _ rfl rfl rfl rfl i pins s0 σ H (fun _ _ => False) Ig hf st stop) fun r s2 ⟨hr, I2⟩ => ?_
    subst hr
    exact k s2 I2
  · refine thn (T.item _ rfl rfl rfl rfl i pins s0 σ H (fun _ _ => False) Ig hf st go) fun r s2 ⟨u, hr, h2⟩ => ?_
    subst hr
    refine thn h2 fun _ s3 ⟨x, H3, I3, r3, y3, st3, fr3⟩ => ?_
    have hf3 : ∀ b ∈ fp, FpOk (gX P w K mg base N qual scope f cdv A outer sc Hc) pins H3 b := fun b hb => ⟨fr3 b hb, (hf b hb).2⟩
    have I3' := I3.pinned hf3 (T.obj _ _ st3)
    refine thn ((pg_name (X := gX P w K mg base N qual scope f cdv A outer sc Hc) (pos := t.px) (i := ix) nd hN (.inl hx) (.inr hx)).run _ s3 σ H3 x u (fun σ' H' => σ' = σ.set ix (some x) ∧ H' = H3) I3' r3 ⟨rfl, rfl⟩) fun _ s4 ⟨σ4, H4, I4, e4, e5⟩ => ?_
    subst e4 e5
    have hlt : ix < σ.length := by
      rw [I3.len]
      exact (List.getElem?_eq_some_iff.mp hN).1
    refine thn ((pe_var (X := gX P w K mg base N qual scope f cdv A outer sc Hc) (pos := t.py) (i := ix) hN (.inl hx) hdb hcd).run _ s4 (σ.set ix (some x)) H4 (fun v H' => v = x ∧ H' = H4) I4 ⟨x, by rw [List.getElem?_set_self hlt], rfl, rfl⟩) fun u5 s5 ⟨v5, H5, I5, r5, e6, e7⟩ => ?_
    subst e6 e7
    intro g l kk c p fs q1 q2
    have keep5 : ∀ b ∈ fp, ∀ o, s3.heap.get? b = some o → s5.heap.get? b = some o := fun b hb o e => (I5.pin (b, o) (List.mem_append_right _ (List.mem_append_right _ (mem_pinsAt hb e)))).1
    have st5 : tn (i + 1) s5.heap := T.keep _ _ _ st3 keep5
    refine k v5 u5 H5 s5 g l kk c p fs y3 r5 (I5.pins_of fun q hq => ?_) st5 fr3 q1 q2
    rcases List.mem_append.mp hq with z | z
    · exact I5.pin q (List.mem_append_right _ (List.mem_append_left _ z))
    · obtain ⟨hb, e⟩ := of_pinsAt z
      obtain ⟨o3, e3, d3⟩ := T.obj _ _ st3 q.1 hb
      have e' := keep5 q.1 hb o3 e3
      rw [e] at e'
      have eo : q.2 = o3 := Option.some.inj e'
      have z3 := I5.pin (q.1, o3) (List.mem_append_right _ (List.mem_append_right _ (mem_pinsAt hb e3)))
      rw [eo]
      exact z3
end
end GF
namespace GF
open PySem PySem.Spec PyProof.Rows L2
theorem un_grow {fs ex : List Addr} {H H' : Hp} {h h1 h' : Heap} (u : Un fs ex H H' h h1) (k : ∀ b o, h1.get? b = some o → h'.get? b = some o) : Un fs ex H H' h h' :=
  ⟨fun b o e n a c => k b o (u.keep b o e n a c), fun b o e n a c => let ⟨sl, q⟩ := u.slot b o e n a c; ⟨sl, k _ _ q⟩, u.free, fun b o e c => let ⟨o', q⟩ := u.there b o e c; ⟨o', k _ _ q⟩, u.tups, u.frzs, u.tbls⟩
theorem cell_not {o : Obj} (h : ∀ v, o.data ≠ .cell v) : isCell o = false := by
  cases q : isCell o with
  | false => rfl
  | true =>
    unfold isCell at q
    split at q
    · rename_i v hv
      exact absurd hv (h v)
    · cases q
/-- the consumer stands below L -/
structure GUse (X : Cx) (L : Addr) : Prop where
  base : X.base.objs.size ≤ L
  old : L ∈ X.ex ∨ X.s_0.heap.objs.size ≤ L
  fr : ∀ b ∈ frs X.stack, b < L
  fs : ∀ b ∈ X.fs, b < L
  loc : X.env.locals ≠ L
  cell : ∀ x c, X.env.cells.lookup x = some c → c < L
structure Slp (X : Cx) (t : GTxt) (N : List Str) (qual : Str) (scope : Scope) (f : Addr) (cdv : Value) (fp : List Addr) (ita : Addr) (tn : Nat → Heap → Prop) (L a : Addr) (g i : Nat) (own : List (Addr × Obj)) (gs : GenState) : Prop where
  asl : Asl (model X.prog X.w) t (envOfC qual scope L f cdv) (.ref ita) gs
  gen : ∃ o, (a, o) ∈ own ∧ ∀ h : Heap, h.get? a = some o → h.IsGen a g
  frm : ∃ (o : Obj) (m : Str → Option Value) (σg : L2.St), (L, o) ∈ own ∧ (∀ h : Heap, h.get? L = some o → h.Ns L m) ∧ σg.length = N.length ∧ ∀ (i : Nat) (x : Str) (v : V), N[i]? = some x → σg[i]? = some (some v) → Vis scope x → ∃ u, RelV v u ∧ (envOfC qual scope L f cdv).kindOf x = some .local ∧ m x = some u
  trn : ∀ h : Heap, (∀ p ∈ own, h.get? p.1 = some p.2) → tn i h
  adr : ∀ p ∈ own, p.1 = a ∨ p.1 = L ∨ p.1 ∈ fp
  mem : ∀ b ∈ fp, ∃ o, (b, o) ∈ own
  lta : L < a
  ltf : ∀ b ∈ fp, L < b
  exf : ∀ b ∈ fp, b ∈ X.ex ∨ X.s_0.heap.objs.size ≤ b
  naf : a ∉ fp
section
variable {X : Cx} {t : GTxt} {N : List Str} {qual : Str} {scope : Scope} {f : Addr} {cdv : Value} {J : It} {fp : List Addr} {ita : Addr} {tn : Nat → Heap → Prop} {L a : Addr} {g i ix k : Nat} {own pins : List (Addr × Obj)} {gs : GenState} {σ : L2.St} {H : Hp} {s : Shared} {Q : Option Value → Shared → Prop} {E : Value → Shared → Prop}
theorem ns_obj {h : Heap} {L : Addr} {m : Str → Option Value} (n : h.Ns L m) : ∃ o, h.get? L = some o ∧ (∀ h' : Heap, h'.get? L = some o → h'.Ns L m) ∧ ∀ v, o.data ≠ .cell v := by
  obtain ⟨o, es, ep, ho, hd, r⟩ := n
  exact ⟨o, ho, fun h' e => ⟨o, es, ep, e, hd, r⟩, fun v q => by rw [hd] at q; cases q⟩
theorem step_wake (hr : Room (k + 1) X.A) (S : GSc N scope) (hi : ∀ L : Addr, interactive (envOfC qual scope L f cdv) = false) (hN : N[ix]? = some t.xn) (hx : scope.names.lookup t.xn = some .local) (hdb : (t.xn == ("__debug__" : Str)) = false) (hcd : (t.xn == ("__classdict__" : Str)) = false)
    (T : Turn X.prog X.w X.K t.tgt J fp ita tn) (hJ : ∀ i H x H', J.yld i H x H' → H' = H) (U : GUse X L) (hpi : ∀ p ∈ X.pn ++ pins, p.1 ≠ L ∧ p.1 ∉ fp ∧ p.1 ≠ a) (I : Inv X (pins ++ own) σ H s) (Sl : Slp X t N qual scope f cdv fp ita tn L a g i own gs) (hgs : s.gens[g]? = some gs) (hmid : ∀ b, L < b → b ∉ X.ex → ¬ X.s_0.heap.objs.size ≤ b → H b ≠ none ∨ ∃ o, (b, o) ∈ pins ++ own)
    (dec : (J.stop i H ∧ ∀ s', Inv X pins σ H s' → Q none s') ∨ (J.go i H ∧ ∀ v x s' own' gs', RelV x v → J.yld i H x H → Inv X (pins ++ own') σ H s' → s'.gens[g]? = some gs' → Slp X t N qual scope f cdv fp ita tn L a g (i + 1) own' gs' → Q (some v) s')) :
    wpAny (model X.prog X.w) X.A (pyNext (.ref a)) Q E s := by
  have hown : ∀ p ∈ own, s.heap.get? p.1 = some p.2 ∧ H p.1 = none ∧ p.1 ≠ X.env.locals ∧ p.1 ∉ X.fs ∧ ∀ v, p.2.data ≠ .cell v := fun p hp => I.pin p (List.mem_append_right _ (List.mem_append_right _ hp))
  have I0 : Inv X pins σ H s := I.pins_of fun p hp => I.pin p (List.mem_append_right _ (List.mem_append_left _ hp))
  obtain ⟨oa, ma, hga⟩ := Sl.gen
  obtain ⟨oL, m, σg, mL, hns, hlen, hlk⟩ := Sl.frm
  have st := Sl.trn s.heap fun p hp => (hown p hp).1
  have gL := hown _ mL
  have ga := hown _ ma
  have lta := Sl.lta
  have ltf := Sl.ltf
  have naf := Sl.naf
  have asl := Sl.asl
  have szL : L ≤ s.heap.objs.size := Nat.le_of_lt (Heap.lt_size gL.1)
  obtain ⟨hc, eL, c1, c2⟩ := cut_ex s.heap L szL
  subst eL
  have cc : ∀ b o, hc.get? b = some o → b < hc.objs.size ∧ s.heap.get? b = some o := fun b o e => by
    have lt : b < hc.objs.size := by
      by_cases h : b < hc.objs.size
      · exact h
      · rw [c2 b (Nat.le_of_not_lt h)] at e; cases e
    exact ⟨lt, by rw [← c1 b lt]; exact e⟩
  have hbare : AllBare (s.setGen g .running).gens := allBare_setGen I.bare rfl
  have e0' := I.env0.in1
  have e0 : Env0 X.prog X.w X.K X.mg X.base X.A.in1 X.stack (s.setGen g .running) H := ⟨e0'.frames, e0'.mod, e0'.bs, e0'.bsz, e0'.funs, e0'.frf, e0'.hok, hbare⟩
  have Ig : Inv (gX X.prog X.w X.K X.mg X.base N qual scope f cdv X.A.in1 X.stack { s with heap := hc } (fun b => if b < hc.objs.size then H b else none)) (pinsFrom s H hc.objs.size fp) σg H (s.setGen g .running) := by
    refine gen_inv S hr.hd e0 rfl cc (fun b o lt e => by show hc.get? b = some o; rw [c1 b lt]; exact e) (fun b lt => if_pos lt) (fun b le => if_neg (Nat.not_lt.mpr le)) U.base U.fr ⟨m, hns _ gL.1, hlk⟩ gL.2.1 (fun p hp => ?_) hlen
    obtain ⟨q1, q2, q3, q4, q5⟩ := of_pins hp
    exact ⟨q3, q4, Nat.ne_of_gt q1, fun z => absurd (U.fr _ z) (Nat.not_lt.mpr (Nat.le_of_lt q1)), notCell q5⟩
  have hf : ∀ b ∈ fp, FpOk (gX X.prog X.w X.K X.mg X.base N qual scope f cdv X.A.in1 X.stack { s with heap := hc } (fun b => if b < hc.objs.size then H b else none)) (pinsFrom s H hc.objs.size fp) H b := fun b hb => by
    have lt := ltf b hb
    obtain ⟨ob, eb, db⟩ := T.obj _ _ st b hb
    refine ⟨?_, Nat.ne_of_gt lt, fun z => absurd (U.fr _ z) (Nat.not_lt.mpr (Nat.le_of_lt lt)), .inr (Nat.le_of_lt lt), fun x c q => ?_, fun p hp z => ?_⟩
    · obtain ⟨o', mo⟩ := Sl.mem b hb
      exact (hown _ mo).2.1
    · have q' : (envOfC qual scope hc.objs.size f cdv).cells.lookup x = some c := q
      rw [show (envOfC qual scope hc.objs.size f cdv).cells = [] from S.nocell _] at q'
      cases q'
    · have hp' : p ∈ pinsFrom s H hc.objs.size fp := hp
      exact (of_pins hp').2.1 (by rw [z]; exact hb)
  have hch : ∀ b ∈ hc.objs.size :: (fp ++ cellsAt s H hc.objs.size), (b ∈ X.ex ∨ X.s_0.heap.objs.size ≤ b) ∧ b ≠ X.env.locals ∧ (∀ x c, X.env.cells.lookup x = some c → c ≠ b) ∧ ∀ p ∈ X.pn ++ pins, p.1 ≠ b := fun b hb => by
    have le : hc.objs.size ≤ b := by
      rcases List.mem_cons.mp hb with rfl | hb
      · exact Nat.le_refl _
      · rcases List.mem_append.mp hb with hb | hb
        · exact Nat.le_of_lt (ltf b hb)
        · exact Nat.le_of_lt (of_cells hb).1
    have noCell : ∀ o, (b, o) ∈ pins ++ own → b ∈ cellsAt s H hc.objs.size → False := fun o ho hcl => by
      obtain ⟨_, _, o', e', q'⟩ := of_cells hcl
      have z := I.pin (b, o) (List.mem_append_right _ ho)
      have z1 : s.heap.get? b = some o := z.1
      rw [z1] at e'
      have := cell_not z.2.2.2.2
      rw [show o = o' from Option.some.inj e', q'] at this
      cases this
    refine ⟨?_, ?_, fun x c q => Nat.ne_of_lt (Nat.lt_of_lt_of_le (U.cell x c q) le), fun p hp z => ?_⟩
    · rcases List.mem_cons.mp hb with rfl | hb
      · exact U.old
      · rcases List.mem_append.mp hb with hb | hb
        · exact Sl.exf b hb
        · by_cases h1 : b ∈ X.ex
          · exact .inl h1
          · by_cases h2 : X.s_0.heap.objs.size ≤ b
            · exact .inr h2
            · obtain ⟨l1, l2, _⟩ := of_cells hb
              rcases hmid b l1 h1 h2 with z | ⟨o, z⟩
              · exact absurd l2 z
              · exact (noCell o z hb).elim
    · rcases List.mem_cons.mp hb with rfl | hb
      · exact U.loc.symm
      · rcases List.mem_append.mp hb with hb | hb
        · obtain ⟨o', mo⟩ := Sl.mem b hb
          exact (hown _ mo).2.2.1
        · intro z
          obtain ⟨_, _, o', e', q'⟩ := of_cells hb
          obtain ⟨m', n', _⟩ := I0.loc
          obtain ⟨o'', e'', _, d''⟩ := ns_obj n'
          rw [← z, e'] at e''
          have := cell_not d''
          rw [← Option.some.inj e'', q'] at this
          cases this
    rcases List.mem_cons.mp hb with e | hb
    · exact (hpi p hp).1 (z.trans e)
    · rcases List.mem_append.mp hb with hb | hb
      · exact (hpi p hp).2.1 (by rw [z]; exact hb)
      · obtain ⟨_, _, o, e, q⟩ := of_cells hb
        have hq := I0.pin p hp
        rw [z] at hq
        rw [hq.1] at e
        have eo := Option.some.inj e
        unfold isCell at q
        split at q
        · rename_i v hv
          exact hq.2.2.2.2 v (by rw [eo]; exact hv)
        · cases q
  have back : ∀ (s1 : Shared) (pp : List (Addr × Obj)) (σ' : L2.St), Inv (gX X.prog X.w X.K X.mg X.base N qual scope f cdv X.A.in1 X.stack { s with heap := hc } (fun b => if b < hc.objs.size then H b else none)) (pinsFrom s H hc.objs.size fp ++ pp) σ' H s1 →
      ∀ (h' : Heap) (G : Array GenState), (∀ b o, s1.heap.get? b = some o → h'.get? b = some o) → AllBare G → Inv X pins σ H { s1 with heap := h', gens := G } := by
    intro s1 pp σ' Jv h' G kk bG
    have u := un_grow (un_piece (s := s) Jv.unpinned (fun b o lt e => by show hc.get? b = some o; rw [c1 b lt]; exact e) (fun b lt => if_pos lt) U.fr (fun b o _ e => e)) kk
    have hok := Jv.hok.kept kk
    obtain ⟨hh, gg, dd, tt, oo⟩ := s1
    have eo : oo = s.os := Jv.os
    subst eo
    exact I0.call u hok bG hch
  have tail : ∀ {Φ : End → Shared → Prop}, Goes1 (model X.prog X.w) X.A.in1 Φ gs (.send .none) (s.setGen g .running) → Goes1 (model X.prog X.w) X.A.in1 (fun e s1 => (s.setGen g .running).gens.size ≤ s1.gens.size ∧ Φ e s1) gs (.send .none) (s.setGen g .running) := fun {Φ} h => by
    cases gs with
    | fresh c => exact ⟨h.1, fun Γ p q1 q2 => let ⟨e, s', hr, he⟩ := h.2 Γ p q1 q2; ⟨e, s', hr, GenW.runs_gsz hr, he⟩⟩
    | suspended k l c p fs cl => exact fun Γ p q1 q2 => let ⟨e, s', hr, he⟩ := h Γ p q1 q2; ⟨e, s', hr, GenW.runs_gsz hr, he⟩
    | running => exact h
    | finished => exact h
  have glt : g < s.gens.size := (Array.getElem?_eq_some_iff.mp hgs).1
  rcases dec with ⟨stop, kq⟩ | ⟨go, kq⟩
  · refine next1 hr.hd I.nolimit hr.depth (hga _ ga.1) hgs (tail (Φ := fun e s1 => match e with
        | .ret r => r = .ok (.ret .none) ∧ Inv (gX X.prog X.w X.K X.mg X.base N qual scope f cdv X.A.in1 X.stack { s with heap := hc } (fun b => if b < hc.objs.size then H b else none)) (pinsFrom s H hc.objs.size fp) σg H s1
        | .susp .. => False) (goes_wake S.co (hi _) asl (gen_turn Ig T st hf S.nd hN hx hdb hcd (.inl ⟨stop, fun s1 I1 => ⟨rfl, I1⟩⟩)))) fun e s1 he => ?_
    cases e with
    | susp v g' l kk c p fs => exact he.2.elim
    | ret r =>
      obtain ⟨_, rfl, J1⟩ := he
      refine ⟨rfl, .inl rfl, fun h' kk => kq _ (back s1 [] σg (by rw [List.append_nil]; exact J1) h' _ kk (allBare_setGen J1.bare rfl))⟩
  · refine next1 hr.hd I.nolimit hr.depth (hga _ ga.1) hgs (tail (Φ := fun e s1 => match e with
        | .ret r => False
        | .susp v g' l kk c p fs => End.quiet (.susp v g' l kk c p fs) = true ∧ Asl (model X.prog X.w) t (envOfC qual scope hc.objs.size f cdv) (.ref ita) (End.genState (.susp v g' l kk c p fs)) ∧ ∃ x H', J.yld i H x H' ∧ RelV x v ∧
          Inv (gX X.prog X.w X.K X.mg X.base N qual scope f cdv X.A.in1 X.stack { s with heap := hc } (fun b => if b < hc.objs.size then H b else none)) (pinsFrom s H hc.objs.size fp ++ pinsAt fp s1.heap) (σg.set ix (some x)) H' s1 ∧ tn (i + 1) s1.heap ∧ ∀ b ∈ fp, H' b = none)
      (goes_wake S.co (hi _) asl (gen_turn Ig T st hf S.nd hN hx hdb hcd (.inr ⟨go, fun x u H' s4 g' l kk c p fs y r I4 t4 f4 q1 q2 => ⟨q1, q2, x, H', y, r, I4, t4, f4⟩⟩)))) fun e s1 he => ?_
    cases e with
    | ret r => exact he.2.elim
    | susp v g' l kk c p fs =>
      obtain ⟨hsz, hq, ha', x, H', y, r, J1, t1, f1⟩ := he
      have eH := hJ _ _ _ _ y
      subst eH
      refine ⟨hq, ?_⟩
      obtain ⟨m1, n1, l1⟩ := id J1.loc
      obtain ⟨oL', gL', nL', dL'⟩ := ns_obj n1
      have a1 : s1.heap.get? a = some oa ∧ H' a = none := by
        have z := J1.pin (a, oa) (List.mem_append_right _ (List.mem_append_left _ (mem_pins lta naf ga.1 ga.2.1 (by
          cases q : isCell oa with
          | false => rfl
          | true =>
            unfold isCell at q
            split at q
            · rename_i v hv
              exact absurd hv (ga.2.2.2.2 v)
            · cases q))))
        exact ⟨z.1, z.2.1⟩
      have I1 := back s1 _ _ J1 s1.heap (s1.gens.setIfInBounds g (End.genState (.susp v g' l kk c p fs))) (fun _ _ e => e) (allBare_setGen J1.bare ha'.2.1)
      refine kq v x _ ((a, oa) :: (hc.objs.size, oL') :: pinsAt fp s1.heap) _ r y (I1.pins_of fun q hq' => ?_) ?_ ⟨ha', ⟨oa, List.mem_cons_self, hga⟩, ⟨oL', m1, _, List.mem_cons_of_mem _ List.mem_cons_self, nL', J1.len, fun i x v q1 q2 q3 => ?_⟩, fun h hp => ?_, fun q hq' => ?_, fun b hb => ?_, lta, ltf, Sl.exf, naf⟩
      · rcases List.mem_append.mp hq' with z | z
        · exact I1.pin q (List.mem_append_right _ z)
        · rcases List.mem_cons.mp z with rfl | z
          · exact ⟨a1.1, a1.2, ga.2.2.1, ga.2.2.2.1, ga.2.2.2.2⟩
          · rcases List.mem_cons.mp z with rfl | z
            · exact ⟨gL', J1.free, gL.2.2.1, gL.2.2.2.1, dL'⟩
            · obtain ⟨hb, e⟩ := of_pinsAt z
              obtain ⟨o1, e1, d1⟩ := T.obj _ _ t1 q.1 hb
              have eo : q.2 = o1 := by
                have e' : s1.heap.get? q.1 = some q.2 := e
                rw [e1] at e'
                exact (Option.some.inj e').symm
              obtain ⟨o', mo⟩ := Sl.mem q.1 hb
              have ho := hown _ mo
              exact ⟨e, f1 q.1 hb, ho.2.2.1, ho.2.2.2.1, by rw [eo]; exact d1⟩
      · show (s1.gens.setIfInBounds g _)[g]? = _
        rw [Array.getElem?_setIfInBounds_self, if_pos]
        have e1 : (s.setGen g .running).gens.size = s.gens.size := GenW.setGen_size s g .running
        omega
      · obtain ⟨u, ru, lk⟩ := l1 i x v q1 q2 q3
        rcases lk with ⟨z1, z2⟩ | ⟨_, c, z3, _⟩
        · exact ⟨u, ru, z1, z2⟩
        · have z3' : (envOfC qual scope hc.objs.size f cdv).cells.lookup x = some c := z3
          rw [show (envOfC qual scope hc.objs.size f cdv).cells = [] from S.nocell _] at z3'
          cases z3'
      · refine T.keep _ _ _ t1 fun b hb o e => ?_
        exact hp (b, o) (List.mem_cons_of_mem _ (List.mem_cons_of_mem _ (mem_pinsAt hb e)))
      · rcases List.mem_cons.mp hq' with rfl | z
        · exact .inl rfl
        · rcases List.mem_cons.mp z with rfl | z
          · exact .inr (.inl rfl)
          · exact .inr (.inr (of_pinsAt z).1)
      · obtain ⟨o1, e1, d1⟩ := T.obj _ _ t1 b hb
        exact ⟨o1, List.mem_cons_of_mem _ (List.mem_cons_of_mem _ (mem_pinsAt hb e1))⟩
end
end GF
namespace GF
open PySem PySem.Spec PyProof.Rows L2
section
variable {X : Cx} {t : GTxt} {N : List Str} {qual : Str} {scope : Scope} {f : Addr} {cdv : Value} {L a : Addr} {g ix k : Nat} {own pins : List (Addr × Obj)} {σ σg : L2.St} {H : Hp} {s : Shared} {Q : Option Value → Shared → Prop} {E : Value → Shared → Prop} {ti : TI} {oa oL : Obj} {m : Str → Option Value}
/-- what the consumer wishes behind the first next -/
def FirstTo (X : Cx) (pins : List (Addr × Obj)) (σ : L2.St) (H0 : Hp) (t : GTxt) (N : List Str) (qual : Str) (scope : Scope) (f : Addr) (cdv : Value) (L a : Addr) (g : Nat) (Q : Option Value → Shared → Prop) (J : It) (H2 : Hp) : Prop :=
  (∀ b o, L ≤ b → H0 b = some o → H2 b = some o) ∧ (∀ i H x H', J.yld i H x H' → H' = H) ∧ ((J.stop 0 H2 ∧ ∀ s', Inv X pins σ H2 s' → Q none s') ∨ (J.go 0 H2 ∧ ∀ fp ita tn v x s' own' gs', Turn X.prog X.w X.K t.tgt J fp ita tn → (∀ p ∈ X.pn ++ pins, p.1 ≠ L ∧ p.1 ∉ fp ∧ p.1 ≠ a) → RelV x v → J.yld 0 H2 x H2 →
    Inv X (pins ++ own') σ H2 s' → s'.gens[g]? = some gs' → Slp X t N qual scope f cdv fp ita tn L a g 1 own' gs' → Q (some v) s'))
theorem step_first (hr : Room (k + 2) X.A) (S : GSc N scope) (hi : ∀ L : Addr, interactive (envOfC qual scope L f cdv) = false) (hN : N[ix]? = some t.xn) (hx : scope.names.lookup t.xn = some .local) (hdb : (t.xn == ("__debug__" : Str)) = false) (hcd : (t.xn == ("__classdict__" : Str)) = false)
    (hs : ∀ (L : Addr) (x : Value), foldedSetIterable t.iter (envOfC qual scope L f cdv) x = pure x)
    (hPI : ∀ (A : Around) (outer : List Env) (sc : Shared) (Hc : Hp), Room k (A.deeper (envOfC qual scope sc.heap.objs.size f cdv)) → PI (gX X.prog X.w X.K X.mg X.base N qual scope f cdv A outer sc Hc) t.tgt t.iter ti)
    (U : GUse X L) (hpi : ∀ p ∈ X.pn ++ pins, p.1 ≠ L ∧ p.1 ≠ a) (I : Inv X (pins ++ [(a, oa), (L, oL)]) σ H s) (hga : ∀ h : Heap, h.get? a = some oa → h.IsGen a g) (hns : ∀ h : Heap, h.get? L = some oL → h.Ns L m) (hlen : σg.length = N.length)
    (hlk : ∀ (i : Nat) (x : Str) (v : V), N[i]? = some x → σg[i]? = some (some v) → Vis scope x → ∃ u, RelV v u ∧ (envOfC qual scope L f cdv).kindOf x = some .local ∧ m x = some u) (lta : L < a) (hmid : ∀ b, L < b → b ∉ X.ex → ¬ X.s_0.heap.objs.size ≤ b → H b ≠ none ∨ ∃ o, (b, o) ∈ pins ++ [(a, oa), (L, oL)])
    (hgs : s.gens[g]? = some (.fresh (.func t.body (envOfC qual scope L f cdv)))) (rd : ti σg H (FirstTo X pins σ H t N qual scope f cdv L a g Q)) :
    wpAny (model X.prog X.w) X.A (pyNext (.ref a)) Q E s := by
  have ga := I.pin (a, oa) (List.mem_append_right _ (List.mem_append_right _ List.mem_cons_self))
  have gL := I.pin (L, oL) (List.mem_append_right _ (List.mem_append_right _ (List.mem_cons_of_mem _ List.mem_cons_self)))
  have I0 : Inv X pins σ H s := I.pins_of fun p hp => I.pin p (List.mem_append_right _ (List.mem_append_left _ hp))
  have szL : L ≤ s.heap.objs.size := Nat.le_of_lt (Heap.lt_size gL.1)
  obtain ⟨hc, eL, c1, c2⟩ := cut_ex s.heap L szL
  subst eL
  have cc : ∀ b o, hc.get? b = some o → b < hc.objs.size ∧ s.heap.get? b = some o := fun b o e => by
    have lt : b < hc.objs.size := by
      by_cases h : b < hc.objs.size
      · exact h
      · rw [c2 b (Nat.le_of_not_lt h)] at e; cases e
    exact ⟨lt, by rw [← c1 b lt]; exact e⟩
  have hbare : AllBare (s.setGen g .running).gens := allBare_setGen I.bare rfl
  have e0' := I.env0.in1
  have e0 : Env0 X.prog X.w X.K X.mg X.base X.A.in1 X.stack (s.setGen g .running) H := ⟨e0'.frames, e0'.mod, e0'.bs, e0'.bsz, e0'.funs, e0'.frf, e0'.hok, hbare⟩
  have Ig : Inv (gX X.prog X.w X.K X.mg X.base N qual scope f cdv X.A.in1 X.stack { s with heap := hc } (fun b => if b < hc.objs.size then H b else none)) (pinsFrom s H hc.objs.size []) σg H (s.setGen g .running) := by
    refine gen_inv S hr.hd e0 rfl cc (fun b o lt e => by show hc.get? b = some o; rw [c1 b lt]; exact e) (fun b lt => if_pos lt) (fun b le => if_neg (Nat.not_lt.mpr le)) U.base U.fr ⟨m, hns _ gL.1, hlk⟩ gL.2.1 (fun p hp => ?_) hlen
    obtain ⟨q1, q2, q3, q4, q5⟩ := of_pins hp
    exact ⟨q3, q4, Nat.ne_of_gt q1, fun z => absurd (U.fr _ z) (Nat.not_lt.mpr (Nat.le_of_lt q1)), notCell q5⟩
  have hch : ∀ b ∈ hc.objs.size :: (([] : List Addr) ++ cellsAt s H hc.objs.size), (b ∈ X.ex ∨ X.s_0.heap.objs.size ≤ b) ∧ b ≠ X.env.locals ∧ (∀ x c, X.env.cells.lookup x = some c → c ≠ b) ∧ ∀ p ∈ X.pn ++ pins, p.1 ≠ b := fun b hb => by
    have le : hc.objs.size ≤ b := by
      rcases List.mem_cons.mp hb with rfl | hb
      · exact Nat.le_refl _
      · exact Nat.le_of_lt (of_cells (by simpa using hb)).1
    refine ⟨?_, ?_, fun x c q => Nat.ne_of_lt (Nat.lt_of_lt_of_le (U.cell x c q) le), fun p hp z => ?_⟩
    · rcases List.mem_cons.mp hb with rfl | hb
      · exact U.old
      · have hb' : b ∈ cellsAt s H hc.objs.size := by simpa using hb
        by_cases h1 : b ∈ X.ex
        · exact .inl h1
        · by_cases h2 : X.s_0.heap.objs.size ≤ b
          · exact .inr h2
          · obtain ⟨l1, l2, o', e', q'⟩ := of_cells hb'
            rcases hmid b l1 h1 h2 with z | ⟨o, z⟩
            · exact absurd l2 z
            · have z2 := I.pin (b, o) (List.mem_append_right _ z)
              have z1 : s.heap.get? b = some o := z2.1
              rw [z1] at e'
              have := cell_not z2.2.2.2.2
              rw [show o = o' from Option.some.inj e', q'] at this
              cases this
    · rcases List.mem_cons.mp hb with rfl | hb
      · exact U.loc.symm
      · intro z
        obtain ⟨_, _, o', e', q'⟩ := of_cells (show b ∈ cellsAt s H hc.objs.size by simpa using hb)
        obtain ⟨m', n', _⟩ := I0.loc
        obtain ⟨o'', e'', _, d''⟩ := ns_obj n'
        rw [← z, e'] at e''
        have := cell_not d''
        rw [← Option.some.inj e'', q'] at this
        cases this
    rcases List.mem_cons.mp hb with e | hb
    · exact (hpi p hp).1 (z.trans e)
    · obtain ⟨_, _, o, e, q⟩ := of_cells (show b ∈ cellsAt s H hc.objs.size by simpa using hb)
      have hq := I0.pin p hp
      rw [z] at hq
      rw [hq.1] at e
      have eo := Option.some.inj e
      have := cell_not hq.2.2.2.2
      rw [eo, q] at this
      cases this
  have back : ∀ (s1 : Shared) (pp : List (Addr × Obj)) (σ' : L2.St) (H2 : Hp), Inv (gX X.prog X.w X.K X.mg X.base N qual scope f cdv X.A.in1 X.stack { s with heap := hc } (fun b => if b < hc.objs.size then H b else none)) (pinsFrom s H hc.objs.size [] ++ pp) σ' H2 s1 → (∀ b o, hc.objs.size ≤ b → H b = some o → H2 b = some o) →
      ∀ (h' : Heap) (G : Array GenState), (∀ b o, s1.heap.get? b = some o → h'.get? b = some o) → AllBare G → Inv X pins σ H2 { s1 with heap := h', gens := G } := by
    intro s1 pp σ' H2 Jv hsm h' G kk bG
    have u := un_grow (un_piece (s := s) Jv.unpinned (fun b o lt e => by show hc.get? b = some o; rw [c1 b lt]; exact e) (fun b lt => if_pos lt) U.fr hsm) kk
    have hok := Jv.hok.kept kk
    obtain ⟨hh, gg, dd, tt, oo⟩ := s1
    have eo : oo = s.os := Jv.os
    subst eo
    exact I0.call u hok bG hch
  have glt : g < s.gens.size := (Array.getElem?_eq_some_iff.mp hgs).1
  have hrg : Room k ((X.A.in1).deeper (envOfC qual scope hc.objs.size f cdv)) := hr.in1.deeper _
  have run := (hPI X.A.in1 X.stack { s with heap := hc } (fun b => if b < hc.objs.size then H b else none) hrg).run _ _ σg H _ Ig rd
  refine next1 (Φ := fun e s1 => (s.setGen g .running).gens.size ≤ s1.gens.size ∧ match e with
      | .ret r => r = .ok (.ret .none) ∧ ∃ H2, Inv (gX X.prog X.w X.K X.mg X.base N qual scope f cdv X.A.in1 X.stack { s with heap := hc } (fun b => if b < hc.objs.size then H b else none)) (pinsFrom s H hc.objs.size []) σg H2 s1 ∧ (∀ b o, hc.objs.size ≤ b → H b = some o → H2 b = some o) ∧ ∀ s', Inv X pins σ H2 s' → Q none s'
      | .susp v g' l kk c p fs => End.quiet (.susp v g' l kk c p fs) = true ∧ ∃ J fp ita tn x H2, Asl (model X.prog X.w) t (envOfC qual scope hc.objs.size f cdv) (.ref ita) (End.genState (.susp v g' l kk c p fs)) ∧ Turn X.prog X.w X.K t.tgt J fp ita tn ∧ J.yld 0 H2 x H2 ∧ RelV x v ∧
          Inv (gX X.prog X.w X.K X.mg X.base N qual scope f cdv X.A.in1 X.stack { s with heap := hc } (fun b => if b < hc.objs.size then H b else none)) (pinsFrom s H hc.objs.size [] ++ pinsAt fp s1.heap) (σg.set ix (some x)) H2 s1 ∧ tn 1 s1.heap ∧ (∀ b ∈ fp, H2 b = none) ∧ (∀ b o, hc.objs.size ≤ b → H b = some o → H2 b = some o) ∧
          (∀ b ∈ fp, hc.objs.size < b ∧ ∀ p ∈ pinsFrom s H hc.objs.size [], p.1 ≠ b) ∧ ∀ fp ita tn v x s' own' gs', Turn X.prog X.w X.K t.tgt J fp ita tn → (∀ p ∈ X.pn ++ pins, p.1 ≠ hc.objs.size ∧ p.1 ∉ fp ∧ p.1 ≠ a) → RelV x v → J.yld 0 H2 x H2 → Inv X (pins ++ own') σ H2 s' → s'.gens[g]? = some gs' → Slp X t N qual scope f cdv fp ita tn hc.objs.size a g 1 own' gs' → Q (some v) s')
    hr.hd I.nolimit hr.depth (hga _ ga.1) hgs ?_ fun e s1 he => ?_
  · have core : Goes1 (model X.prog X.w) X.A.in1 (fun e s1 => match e with
      | .ret r => r = .ok (.ret .none) ∧ ∃ H2, Inv (gX X.prog X.w X.K X.mg X.base N qual scope f cdv X.A.in1 X.stack { s with heap := hc } (fun b => if b < hc.objs.size then H b else none)) (pinsFrom s H hc.objs.size []) σg H2 s1 ∧ (∀ b o, hc.objs.size ≤ b → H b = some o → H2 b = some o) ∧ ∀ s', Inv X pins σ H2 s' → Q none s'
      | .susp v g' l kk c p fs => End.quiet (.susp v g' l kk c p fs) = true ∧ ∃ J fp ita tn x H2, Asl (model X.prog X.w) t (envOfC qual scope hc.objs.size f cdv) (.ref ita) (End.genState (.susp v g' l kk c p fs)) ∧ Turn X.prog X.w X.K t.tgt J fp ita tn ∧ J.yld 0 H2 x H2 ∧ RelV x v ∧
          Inv (gX X.prog X.w X.K X.mg X.base N qual scope f cdv X.A.in1 X.stack { s with heap := hc } (fun b => if b < hc.objs.size then H b else none)) (pinsFrom s H hc.objs.size [] ++ pinsAt fp s1.heap) (σg.set ix (some x)) H2 s1 ∧ tn 1 s1.heap ∧ (∀ b ∈ fp, H2 b = none) ∧ (∀ b o, hc.objs.size ≤ b → H b = some o → H2 b = some o) ∧
          (∀ b ∈ fp, hc.objs.size < b ∧ ∀ p ∈ pinsFrom s H hc.objs.size [], p.1 ≠ b) ∧ ∀ fp ita tn v x s' own' gs', Turn X.prog X.w X.K t.tgt J fp ita tn → (∀ p ∈ X.pn ++ pins, p.1 ≠ hc.objs.size ∧ p.1 ∉ fp ∧ p.1 ≠ a) → RelV x v → J.yld 0 H2 x H2 → Inv X (pins ++ own') σ H2 s' → s'.gens[g]? = some gs' → Slp X t N qual scope f cdv fp ita tn hc.objs.size a g 1 own' gs' → Q (some v) s') (.fresh (.func t.body (envOfC qual scope hc.objs.size f cdv))) (.send .none) (s.setGen g .running) := by
      refine goes_first S.co (hi _) (hs _) (thn run fun v s2 h2 => thn h2 fun itv s3 h3 => ?_)
      obtain ⟨ita, fp, tn, J, H2, e1, I3, T, st3, hf3, hsm, hJ, dec⟩ := h3
      subst e1
      have hfp : ∀ b ∈ fp, hc.objs.size < b ∧ ∀ p ∈ pinsFrom s H hc.objs.size [], p.1 ≠ b := fun b hb => by
        obtain ⟨q1, q2, q3, q4, q5, q6⟩ := hf3 b hb
        have q2' : b ≠ hc.objs.size := q2
        have le : hc.objs.size ≤ b := by
          rcases q4 with q4 | q4
          · exact absurd (show b ∈ ([] : List Addr) from q4) (by simp)
          · exact q4
        exact ⟨Nat.lt_of_le_of_ne le (Ne.symm q2'), fun p hp => q6 p (List.mem_append_right _ hp)⟩
      refine gen_turn I3 T st3 hf3 S.nd hN hx hdb hcd ?_
      rcases dec with ⟨stop, kq⟩ | ⟨go, kq⟩
      · exact .inl ⟨stop, fun s4 I4 => ⟨rfl, H2, I4, hsm, kq⟩⟩
      · refine .inr ⟨go, fun x u H' s4 g' l kk c p fs y r I4 t4 f4 q1 q2 => ?_⟩
        have eH := hJ _ _ _ _ y
        subst eH
        exact ⟨q1, J, fp, ita, tn, x, _, q2, T, y, r, I4, t4, f4, hsm, hfp, kq⟩
    exact ⟨core.1, fun Γ p q1 q2 => let ⟨e, s', hr, he⟩ := core.2 Γ p q1 q2; ⟨e, s', hr, GenW.runs_gsz hr, he⟩⟩
  · cases e with
    | ret r =>
      obtain ⟨_, rfl, H2, J1, hsm, kq⟩ := he
      exact ⟨rfl, .inl rfl, fun h' kk => kq _ (back s1 [] σg H2 (by rw [List.append_nil]; exact J1) hsm h' _ kk (allBare_setGen J1.bare rfl))⟩
    | susp v g' l kk c p fs =>
      obtain ⟨hsz, hq, J, fp, ita, tn, x, H2, ha', T, y, r, J1, t1, f1, hsm, hfp, kq⟩ := he
      refine ⟨hq, ?_⟩
      obtain ⟨m1, n1, l1⟩ := id J1.loc
      obtain ⟨oL', gL', nL', dL'⟩ := ns_obj n1
      have mema : (a, oa) ∈ pinsFrom s H hc.objs.size [] := mem_pins lta (by simp) ga.1 ga.2.1 (cell_not ga.2.2.2.2)
      have a1 : s1.heap.get? a = some oa ∧ H2 a = none := by
        have z := J1.pin (a, oa) (List.mem_append_right _ (List.mem_append_left _ mema))
        exact ⟨z.1, z.2.1⟩
      have hpp : ∀ p ∈ X.pn ++ pins, p.1 ≠ hc.objs.size ∧ p.1 ∉ fp ∧ p.1 ≠ a := fun p hp => by
        refine ⟨(hpi p hp).1, fun hb => ?_, (hpi p hp).2⟩
        obtain ⟨lt, nb⟩ := hfp p.1 hb
        have hq' := I0.pin p hp
        exact nb p (mem_pins lt (by simp) hq'.1 hq'.2.1 (cell_not hq'.2.2.2.2)) rfl
      have I1 := back s1 _ _ H2 J1 hsm s1.heap (s1.gens.setIfInBounds g (End.genState (.susp v g' l kk c p fs))) (fun _ _ e => e) (allBare_setGen J1.bare ha'.2.1)
      refine kq fp ita tn v x _ ((a, oa) :: (hc.objs.size, oL') :: pinsAt fp s1.heap) _ T hpp r y (I1.pins_of fun q hq' => ?_) ?_ ⟨ha', ⟨oa, List.mem_cons_self, hga⟩, ⟨oL', m1, _, List.mem_cons_of_mem _ List.mem_cons_self, nL', J1.len, fun i x v q1 q2 q3 => ?_⟩, fun h hp => ?_, fun q hq' => ?_, fun b hb => ?_, lta, fun b hb => (hfp b hb).1, fun b hb => ?_, fun z => (hfp a z).2 _ mema rfl⟩
      · rcases List.mem_append.mp hq' with z | z
        · exact I1.pin q (List.mem_append_right _ z)
        · rcases List.mem_cons.mp z with rfl | z
          · exact ⟨a1.1, a1.2, ga.2.2.1, ga.2.2.2.1, ga.2.2.2.2⟩
          · rcases List.mem_cons.mp z with rfl | z
            · exact ⟨gL', J1.free, gL.2.2.1, gL.2.2.2.1, dL'⟩
            · obtain ⟨hb, e⟩ := of_pinsAt z
              obtain ⟨o1, e1, d1⟩ := T.obj _ _ t1 q.1 hb
              have eo : q.2 = o1 := by
                have e' : s1.heap.get? q.1 = some q.2 := e
                rw [e1] at e'
                exact (Option.some.inj e').symm
              have lt := (hfp q.1 hb).1
              exact ⟨e, f1 q.1 hb, (fun z => by
                obtain ⟨m', n', _⟩ := I0.loc
                obtain ⟨o'', e'', _, d''⟩ := ns_obj n'
                rw [← z] at e''
                exact (hfp q.1 hb).2 _ (mem_pins lt (by simp) e'' (by rw [z]; exact I0.free) (cell_not d'')) rfl), fun z => absurd (U.fs _ z) (Nat.not_lt.mpr (Nat.le_of_lt lt)), by rw [eo]; exact d1⟩
      · show (s1.gens.setIfInBounds g _)[g]? = _
        rw [Array.getElem?_setIfInBounds_self, if_pos]
        have e1 : (s.setGen g .running).gens.size = s.gens.size := GenW.setGen_size s g .running
        omega
      · obtain ⟨u, ru, lk⟩ := l1 i x v q1 q2 q3
        rcases lk with ⟨z1, z2⟩ | ⟨_, c, z3, _⟩
        · exact ⟨u, ru, z1, z2⟩
        · have z3' : (envOfC qual scope hc.objs.size f cdv).cells.lookup x = some c := z3
          rw [show (envOfC qual scope hc.objs.size f cdv).cells = [] from S.nocell _] at z3'
          cases z3'
      · refine T.keep _ _ _ t1 fun b hb o e => ?_
        exact hp (b, o) (List.mem_cons_of_mem _ (List.mem_cons_of_mem _ (mem_pinsAt hb e)))
      · rcases List.mem_cons.mp hq' with rfl | z
        · exact .inl rfl
        · rcases List.mem_cons.mp z with rfl | z
          · exact .inr (.inl rfl)
          · exact .inr (.inr (of_pinsAt z).1)
      · obtain ⟨o1, e1, d1⟩ := T.obj _ _ t1 b hb
        exact ⟨o1, List.mem_cons_of_mem _ (List.mem_cons_of_mem _ (mem_pinsAt hb e1))⟩
      · by_cases h1 : b ∈ X.ex
        · exact .inl h1
        · by_cases h2 : X.s_0.heap.objs.size ≤ b
          · exact .inr h2
          · obtain ⟨lt, nb⟩ := hfp b hb
            rcases hmid b lt h1 h2 with z | ⟨o, z⟩
            · cases q : H b with
              | none => exact absurd q z
              | some u =>
                have := hsm b u (Nat.le_of_lt lt) q
                rw [f1 b hb] at this
                cases this
            · have z2 := I.pin (b, o) (List.mem_append_right _ z)
              exact (nb (b, o) (mem_pins lt (by simp) z2.1 z2.2.1 (cell_not z2.2.2.2.2)) rfl).elim
end
end GF
namespace GF
open PySem PySem.Spec PyProof.Rows L2
section
variable {X : Cx} {t : GTxt} {N ps : List Str} {name qual : Str} {scope : Scope} {f : Addr} {cdv : Value} {pins : List (Addr × Obj)} {σ : L2.St} {H : Hp} {s : Shared}
/-- a generator that has not begun, for its consumer -/
def Born (X : Cx) (pins : List (Addr × Obj)) (σ : L2.St) (H : Hp) (t : GTxt) (N : List Str) (qual : Str) (scope : Scope) (f : Addr) (cdv : Value) (vs : List V) (u : Value) (s' : Shared) : Prop :=
  ∃ (L a : Addr) (g : Nat) (oa oL : Obj) (m : Str → Option Value), u = .ref a ∧ GUse X L ∧ (∀ p ∈ X.pn ++ pins, p.1 ≠ L ∧ p.1 ≠ a) ∧ Inv X (pins ++ [(a, oa), (L, oL)]) σ H s' ∧ (∀ h : Heap, h.get? a = some oa → h.IsGen a g) ∧ (∀ h : Heap, h.get? L = some oL → h.Ns L m) ∧ (start N vs).length = N.length ∧
    (∀ (i : Nat) (x : Str) (v : V), N[i]? = some x → (start N vs)[i]? = some (some v) → Vis scope x → ∃ u, RelV v u ∧ (envOfC qual scope L f cdv).kindOf x = some .local ∧ m x = some u) ∧ L < a ∧ (∀ b, L ≤ b → H b = none) ∧ X.s_0.heap.objs.size ≤ L ∧
    s'.gens[g]? = some (.fresh (.func t.body (envOfC qual scope L f cdv))) ∧ (∀ p ∈ X.pn ++ pins, p.1 < L) ∧ X.env.locals < L ∧ s'.heap.objs.size = a + 1
theorem gen_made {params : Arguments} {dV kV doc pm ct oc : Value} {an od : Option Addr} {osl : Array (Option Value)} {us : List Value} {vs : List V} {E : Value → Shared → Prop} {k : Nat} (I : Inv X pins σ H s) (lk : X.K.lookup f = some ⟨oc, od, .func (PySem.W.fnOf name qual params t.body scope dV kV doc pm an cdv ct), osl⟩) (hcd : PySem.W.codeIn X.K cdv qual = true)
    (S : GScope N ps scope) (SG : GSc N scope) (hr : Room k X.A) (hb : Binds X.K (PySem.W.fnOf name qual params t.body scope dV kV doc pm an cdv ct) ps []) (r : Vals vs us) (hl : vs.length = ps.length) :
    wpAny (model X.prog X.w) X.A (call (.ref f) us) (Born X pins σ H t N qual scope f cdv vs) E s := by
  have KX := I.kIn
  have lim := I.nolimit
  have hkind : ∀ y ∈ ps.zip us, scope.names.lookup y.1 = some .local ∨ (scope.names.lookup y.1 = some .cell ∧ ((cellsFrom (s.heap.objs.size + 1) scope.names []).lookup y.1).isSome = true) := fun ⟨n, v⟩ hy => by
    rcases S.par n (List.of_mem_zip hy).1 with q | q
    · exact .inl q
    · exact .inr ⟨q, PySem.W.cellsFrom_some _ _ _ (.inl q)⟩
  have hbt : BindsTo s (PySem.W.fnOf name qual params t.body scope dV kV doc pm an cdv ct) ⟨us, []⟩ (ps.zip us) := by
    have := hb s us KX (by rw [List.append_nil, ← r.length]; exact hl)
    rw [List.append_nil] at this
    exact this
  refine wpAny_call (codeAny_call_generator hr.depth (KX _ _ lk) rfl S.co S.gen rfl (PySem.W.codeRec_of KX hcd) (hbt _ _ _ _ ?_))
  refine wpAny_newFunctionEnv_cells S.kind hkind fun env he s1 x => ?_
  subst he
  have lim1 : s1.heap.NoLimit := lim.keeps x.toInCall.keep
  refine ⟨lim1, ?_⟩
  obtain ⟨h1, tk, es1, hk1⟩ := x.done
  have gen1 : s1.gens = s.gens := by rw [es1]
  have lt1 : s.heap.objs.size < s1.heap.objs.size := x.toInCall.ns.lt
  have kp1 : ∀ b o, s.heap.get? b = some o → s1.heap.get? b = some o := x.toInCall.keep
  have I1 : Inv (gcxOf X.prog X.w X.K X.mg X.base N qual scope f cdv X.A X.stack s H C8.E0 []) [] (start N vs) H s1 := inv_startG S hr.hd I.env0 hl r x
  obtain ⟨m, hn, hlk⟩ := id I1.loc
  obtain ⟨oL, gL, nL, dL⟩ := ns_obj hn
  generalize hgo : ({ cls := .type "generator", data := .fields #[.int s1.gens.size 0, .str name s1.toks, .str qual (s1.toks + 1)] } : Obj) = go
  have hgc : go.cls = .type "generator" := by rw [← hgo]
  have hgd0 : go.data = .fields #[.int s1.gens.size 0, .str name s1.toks, .str qual (s1.toks + 1)] := by rw [← hgo]
  have hgs : go.slots = #[] := by rw [← hgo]
  have hpushed : (s1.heap.push go).get? s1.heap.objs.size = some go := Heap.get?_push_size _ (by rw [← hgo]; rfl)
  have kp : ∀ b o, s.heap.get? b = some o → (s1.heap.push go).get? b = some o := fun b o e => Heap.get?_push_of_some _ (kp1 b o e)
  have Ic : ∀ tk2 : Nat, Inv X pins σ H { s1 with gens := s1.gens.push (.fresh (.func t.body (envOfC qual scope s.heap.objs.size f cdv))), toks := tk2, heap := s1.heap.push go } := fun tk2 => by
    have z := I.call (ch := []) (g' := s1.gens.push (.fresh (.func t.body (envOfC qual scope s.heap.objs.size f cdv)))) (t' := tk2) (d' := s1.drawn) (Un.kept kp) (I.hok.kept kp) (AllBare.push (by rw [gen1]; exact I.bare) rfl) (fun b hb => by simp at hb)
    obtain ⟨hh, gg, dd, tt, oo⟩ := s1
    have eo : oo = s.os := by
      have := congrArg Shared.os es1
      exact this
    subst eo
    exact z
  have old : ∀ b, b < s.heap.objs.size → b ≠ s.heap.objs.size ∧ b ≠ s1.heap.objs.size := fun b h => ⟨Nat.ne_of_lt h, Nat.ne_of_lt (Nat.lt_trans h lt1)⟩
  have hpo : ∀ p ∈ X.pn ++ pins, p.1 < s.heap.objs.size := fun p hp => Heap.lt_size (I.pin p hp).1
  have stk : ∀ b ∈ frs X.stack, b < s.heap.objs.size := fun b hb => by
    obtain ⟨_, o, ho, _⟩ := I.env0.funs.mem hb
    exact Heap.lt_size ho
  have fsl : ∀ b ∈ X.fs, b < s.heap.objs.size := fun b hb => by
    obtain ⟨_, o, ho, _⟩ := I.funs.mem hb
    exact Heap.lt_size ho
  refine ⟨s.heap.objs.size, s1.heap.objs.size, s1.gens.size, go, oL, m, rfl, ⟨Nat.le_trans I.ok.bsz I.sz, .inr I.sz, stk, fsl, Nat.ne_of_lt I.lt, fun y c e => ?_⟩, fun p hp => old _ (hpo p hp), (Ic _).pins_of fun p hp => ?_, fun h e => ⟨go, _, _, e, hgc, hgd0, hgs⟩, nL, I1.len, fun i y v q1 q2 q3 => ?_, lt1, fun b hb => I.hok.fresh hb, I.sz, Array.getElem?_push_size .., hpo, I.lt, Heap.size_push ..⟩
  · obtain ⟨v, q⟩ := I.cell y c e
    exact q.lt
  · rcases List.mem_append.mp hp with z | z
    · exact (Ic 0).pin p (List.mem_append_right _ z)
    · rcases List.mem_cons.mp z with rfl | z
      · exact ⟨hpushed, I.hok.fresh (Nat.le_of_lt lt1), Nat.ne_of_gt (Nat.lt_trans I.lt lt1), fun q => absurd (fsl _ q) (Nat.not_lt.mpr (Nat.le_of_lt lt1)), fun v q => by rw [hgd0] at q; cases q⟩
      · rw [List.mem_singleton.mp z]
        exact ⟨Heap.get?_push_of_some _ gL, I.hok.fresh (Nat.le_refl _), Nat.ne_of_gt I.lt, fun q => absurd (fsl _ q) (Nat.lt_irrefl _), dL⟩
  · obtain ⟨u, ru, lk'⟩ := hlk i y v q1 q2 q3
    rcases lk' with ⟨z1, z2⟩ | ⟨_, c, z3, _⟩
    · exact ⟨u, ru, z1, z2⟩
    · have z3' : (envOfC qual scope s.heap.objs.size f cdv).cells.lookup y = some c := z3
      rw [show (envOfC qual scope s.heap.objs.size f cdv).cells = [] from SG.nocell _] at z3'
      cases z3'
end
end GF
namespace GF
open PySem PySem.Spec PyProof.Rows L2
theorem forLoop_one {prog : Program} {w : World} {A : Around} {s : Shared} {target : Expr} {it : Value} {body : List Stmt} {env : Env} {R : Result → Shared → Prop} (turn : wpAny (model prog w) A (pyNext it) (fun r s₁ => match r with
      | none => R (.ok .next) s₁
      | some v => wpAny (model prog w) A (letOwnedTupleGo target it v) (fun _ s₂ => wpAny (model prog w) A (assign target env v) (fun _ s₃ => wpAny (model prog w) A (execs body env) (fun f s₄ => match f with
        | .next | .cont => codeAny (model prog w) A (.forLoop target it body [] env) R s₄
        | .brk => R (.ok .next) s₄
        | .ret v => R (.ok (.ret v)) s₄) (fun _ _ => False) s₃) (fun _ _ => False) s₂) (fun _ _ => False) s₁) (fun _ _ => False) s) : codeAny (model prog w) A (.forLoop target it body [] env) R s := by
  refine codeAny_of_tree ?_
  show wpAny _ A ((forTurn target it body [] env).onRaise (fun x => do noteFrame x env; theTreesLotGoes x)) _ _ s
  refine wpAny_noted ?_
  simp only [forTurn]
  refine wpAny_bind (wpAny_standAt (wpAny_bind (wpAny_onRaise (wpAny_mono turn (fun r s₁ h₁ => ?_) fun _ _ h' => h'.elim))))
  cases r with
  | none => exact wpAny_pure ⟨rfl, codeAny_block (wpAny_execs_nil h₁)⟩
  | some v =>
    refine wpAny_bind (wpAny_mono h₁ (fun _ s₁' h₁' => ?_) fun _ _ h' => h'.elim)
    refine wpAny_bind (wpAny_mono h₁' (fun _ s₂ h₂ => wpAny_bind (wpAny_mono h₂ (fun f s₃ h₃ => ?_) fun _ _ h' => h'.elim)) fun _ _ h' => h'.elim)
    cases f with
    | next => exact wpAny_pure ⟨rfl, h₃⟩
    | cont => exact wpAny_pure ⟨rfl, h₃⟩
    | brk => exact wpAny_pure h₃
    | ret v => exact wpAny_pure h₃
theorem inv_gens {X : Cx} {pins : List (Addr × Obj)} {σ : L2.St} {H : Hp} {s : Shared} {G : Array GenState} (I : Inv X pins σ H s) (h : AllBare G) : Inv X pins σ H (st s G) := ⟨I.ok, I.os, h, I.base, I.loc, I.cell, I.free, I.freeC, I.pin, I.hok, I.len⟩
/-- an expression that makes a generator; tv: the def's arguments -/
def PBorn (X : Cx) (e : Expr) (t : GTxt) (N : List Str) (qual : Str) (scope : Scope) (f : Addr) (cdv : Value) (tv : TA) : Prop := ∀ (pins : List (Addr × Obj)) (s : Shared) (σ : L2.St) (H : Hp) (Qv : List V → Hp → Prop), Inv X pins σ H s → tv σ H Qv →
  wpAny (model X.prog X.w) X.A (eval e X.env) (fun u s' => ∃ vs H1, Born X pins σ H1 t N qual scope f cdv vs u s' ∧ Qv vs H1) X.xe s
/-- a generator def of this form: what its loops want -/
structure GUsable (X : Cx) (t : GTxt) (N : List Str) (qual : Str) (scope : Scope) (f : Addr) (cdv : Value) (ix k : Nat) (ti : TI) : Prop where
  S : GSc N scope
  hi : ∀ L : Addr, interactive (envOfC qual scope L f cdv) = false
  hN : N[ix]? = some t.xn
  hx : scope.names.lookup t.xn = some .local
  hdb : (t.xn == ("__debug__" : Str)) = false
  hcd : (t.xn == ("__classdict__" : Str)) = false
  hs : ∀ (L : Addr) (x : Value), foldedSetIterable t.iter (envOfC qual scope L f cdv) x = pure x
  hPI : ∀ (A : Around) (outer : List Env) (sc : Shared) (Hc : Hp), Room k (A.deeper (envOfC qual scope sc.heap.objs.size f cdv)) → PI (gX X.prog X.w X.K X.mg X.base N qual scope f cdv A outer sc Hc) t.tgt t.iter ti
def upI (w : TI) : TI := fun σ H R => ∃ R0 : It → Hp → Prop, (∀ J H', R0 J H' → R J H') ∧ w σ H R0
/-- for x in g(..): body -/
def tForG (tv : TA) (N : List Str) (ti : TI) (g : TG) (tb : TS) : TS := fun D σ H => tv σ H fun vs H1 => ti (start N vs) H1 fun J H2 => (∀ i H x H', J.yld i H x H' → H' = H) ∧ ∃ W : Nat → Nat → L2.St → Hp → Prop, (∃ m, W 0 m σ H2) ∧ ∀ i m σ H, W i m σ H →
  (J.stop i H ∧ D.nx σ H) ∨ (J.go i H ∧ ∃ Nx : L2.St → Hp → Prop, (∀ σ' H', Nx σ' H' → ∃ m', m' < m ∧ W (i + 1) m' σ' H') ∧ ∀ x, J.yld i H x H → g x σ H fun σ2 H2 => tb { D with nx := Nx, ct := Nx, bk := D.nx } σ2 H2)
section
variable {X : Cx} {e tg : Expr} {body : List Stmt} {t : GTxt} {N : List Str} {qual : Str} {scope : Scope} {f : Addr} {cdv : Value} {ix k : Nat} {ti : TI} {tv : TA} {g : TG} {tb : TS} {pos : Pos}
theorem ps_forG (hxe : ∀ e s, ¬ X.xe e s) (hr : Room (k + 2) X.A) (G : GUsable X t N qual scope f cdv ix k ti) (B : PBorn X e t N qual scope f cdv tv) (hg : PG X tg g) (hb : PSs X body tb) (tmono : ∀ σ H R R', (∀ J H', R J H' → R' J H') → ti σ H R → ti σ H R')
    (hs : ∀ x, foldedSetIterable e X.env x = pure x := by intro _; rfl) : PS X (.For tg e body [] pos) (tForG tv N ti g tb) := by
  refine ⟨fun pins s σ H D I h => ?_⟩
  refine wpAny_For (thn (B pins s σ H _ I h) fun u s1 ⟨vs, H1, born, rd⟩ => ?_) hs
  obtain ⟨L, a, gn, oa, oL, m, rfl, U, hpi, I1, hga, hns, hlen, hlk, lta, hbig, hsz, hgs, hpl, hlcl, hsize⟩ := born
  have hmid : ∀ (H9 : Hp) (ow : List (Addr × Obj)) b, L < b → b ∉ X.ex → ¬ X.s_0.heap.objs.size ≤ b → H9 b ≠ none ∨ ∃ o, (b, o) ∈ pins ++ ow := fun H9 ow b l _ h => absurd (Nat.le_trans hsz (Nat.le_of_lt l)) h
  have ga := I1.pin (a, oa) (List.mem_append_right _ (List.mem_append_right _ List.mem_cons_self))
  refine wpAny_pyIter_gen (hga _ ga.1) ?_
  have noF : ∀ {α : Type} {tt : Sem α} {Q : α → Shared → Prop} {s : Shared}, wpAny (model X.prog X.w) X.A tt Q X.xe s → wpAny (model X.prog X.w) X.A tt Q (fun _ _ => False) s := fun h => wpAny_mono h (fun _ _ z => z) fun e s z => hxe e s z
  -- a turn's body, beside the sleeper
  have turnBody : ∀ {i mm : Nat} {own : List (Addr × Obj)} {gs : GenState} {σ2 : L2.St} {H2 : Hp} {s2 : Shared} {x : V} {v : Value} {Nx : L2.St → Hp → Prop} {fp : List Addr} {ita : Addr} {tn : Nat → Heap → Prop}
      (cont : ∀ σ7 H7 s7, Nx σ7 H7 → Inv X (pins ++ own) σ7 H7 s7 → s7.gens[gn]? = some gs → codeAny (model X.prog X.w) X.A (.forLoop tg (.ref a) body [] X.env) (fun r s' => match r with | .ok f => SP X pins D f s' | .error e => cameBackBy (model X.prog X.w) X.A X.env X.xe e s') s7),
      Inv X (pins ++ own) σ2 H2 s2 → s2.gens[gn]? = some gs → Slp X t N qual scope f cdv fp ita tn L a gn i own gs → RelV x v → (g x σ2 H2 fun σ3 H3 => tb { D with nx := Nx, ct := Nx, bk := D.nx } σ3 H3) →
      wpAny (model X.prog X.w) X.A (letOwnedTupleGo tg (.ref a) v) (fun _ s₂ => wpAny (model X.prog X.w) X.A (assign tg X.env v) (fun _ s₃ => wpAny (model X.prog X.w) X.A (execs body X.env) (fun f s₄ => match f with
        | .next | .cont => codeAny (model X.prog X.w) X.A (.forLoop tg (.ref a) body [] X.env) (fun r s' => match r with | .ok f => SP X pins D f s' | .error e => cameBackBy (model X.prog X.w) X.A X.env X.xe e s') s₄
        | .brk => SP X pins D .next s₄
        | .ret v => SP X pins D (.ret v) s₄) (fun _ _ => False) s₃) (fun _ _ => False) s₂) (fun _ _ => False) s2 := by
    intro i mm own gs σ2 H2 s2 x v Nx fp ita tn cont I2 hg2 Sl rv rdb
    obtain ⟨oa2, ma2, hga2⟩ := Sl.gen
    have ga2 := I2.pin (a, oa2) (List.mem_append_right _ (List.mem_append_right _ ma2))
    obtain ⟨o', nm, qn, ho', hc', hd', hs'⟩ := hga2 _ ga2.1
    refine go_of ho' hc' hd' (by decide) ?_
    have hsus : susp gs = true := Sl.asl.1
    have Iy : Inv X (pins ++ own) σ2 H2 (st s2 (asleep s2.gens)) := inv_gens I2 (bare_asleep I2.bare)
    have f1 := wpAny_frame (s := st s2 (asleep s2.gens)) (G := s2.gens) (noF (hg.run _ _ σ2 H2 x v _ Iy rv rdb)) (ok_asleep s2.gens) (rel_asleep s2.gens)
    refine wpAny_mono f1 (fun _ s3 h3 => ?_) fun e s3 ⟨_, _, _, z, _⟩ => z
    obtain ⟨y3, G3, rfl, ⟨σ3, H3, I3, q3⟩, r3, k3⟩ := h3
    have f2 := wpAny_frame (G := G3) (noF (hb.run _ y3 σ3 H3 _ I3 q3)) k3 r3
    refine wpAny_mono f2 (fun fl s4 h4 => ?_) fun e s4 ⟨_, _, _, z, _⟩ => z
    obtain ⟨y4, G4, rfl, q4, r4, k4⟩ := h4
    have bare4 : ∀ {σ' H' pp}, Inv X pp σ' H' y4 → AllBare G4 := fun J => r4.bare I2.bare J.bare
    have at4 : (st y4 G4).gens[gn]? = some gs := r4.at hg2 hsus
    have drop : ∀ {σ' : L2.St} {H' : Hp} {s' : Shared}, Inv X (pins ++ own) σ' H' s' → Inv X pins σ' H' s' := fun J => J.unpinned
    cases fl with
    | next =>
      obtain ⟨σ7, H7, I7, n7⟩ := q4
      exact cont σ7 H7 _ n7 (inv_gens I7 (bare4 I7)) at4
    | cont =>
      obtain ⟨σ7, H7, I7, n7⟩ := q4
      exact cont σ7 H7 _ n7 (inv_gens I7 (bare4 I7)) at4
    | brk =>
      obtain ⟨σ7, H7, I7, n7⟩ := q4
      exact ⟨σ7, H7, drop (inv_gens I7 (bare4 I7)), n7⟩
    | ret v =>
      obtain ⟨x7, σ7, H7, I7, r7, n7⟩ := q4
      exact ⟨x7, σ7, H7, drop (inv_gens I7 (bare4 I7)), r7, n7⟩
  refine forLoop_one (step_first hr G.S G.hi G.hN G.hx G.hdb G.hcd G.hs G.hPI U hpi I1 hga hns hlen hlk lta (hmid _ _) hgs (tmono _ _ _ _ (fun J H2 hJ => ?_) rd))
  obtain ⟨hy, W, ⟨m0, w0⟩, turn⟩ := hJ
  have loop : ∀ (mm i : Nat) (σ2 : L2.St) (H2 : Hp) (s2 : Shared) (own : List (Addr × Obj)) (gs : GenState) (fp : List Addr) (ita : Addr) (tn : Nat → Heap → Prop), W i mm σ2 H2 → Turn X.prog X.w X.K t.tgt J fp ita tn → (∀ p ∈ X.pn ++ pins, p.1 ≠ L ∧ p.1 ∉ fp ∧ p.1 ≠ a) → Inv X (pins ++ own) σ2 H2 s2 → s2.gens[gn]? = some gs → Slp X t N qual scope f cdv fp ita tn L a gn i own gs →
      codeAny (model X.prog X.w) X.A (.forLoop tg (.ref a) body [] X.env) (fun r s' => match r with | .ok f => SP X pins D f s' | .error e => cameBackBy (model X.prog X.w) X.A X.env X.xe e s') s2 := by
    intro mm
    induction mm using Nat.strongRecOn with
    | ind mm ih =>
      intro i σ2 H2 s2 own gs fp ita tn w2 T hpp I2 hg2 Sl
      refine forLoop_one (step_wake hr G.S G.hi G.hN G.hx G.hdb G.hcd T hy U hpp I2 Sl hg2 (hmid _ _) ?_)
      rcases turn i mm σ2 H2 w2 with ⟨stop, qn⟩ | ⟨go, Nx, hNx, step⟩
      · exact .inl ⟨stop, fun s' J' => ⟨σ2, H2, J', qn⟩⟩
      · refine .inr ⟨go, fun v x s' own' gs' rv y I' hg' Sl' => ?_⟩
        refine turnBody (i := i + 1) (mm := mm) (fun σ7 H7 s7 n7 I7 hg7 => ?_) I' hg' Sl' rv (step x y)
        obtain ⟨m', hm, w7⟩ := hNx σ7 H7 n7
        exact ih m' hm (i + 1) σ7 H7 s7 own' gs' fp ita tn w7 T hpp I7 hg7 Sl'
  refine ⟨(fun b o hb e => by rw [hbig b hb] at e; cases e), hy, ?_⟩
  rcases turn 0 m0 σ H2 w0 with ⟨stop, qn⟩ | ⟨go, Nx, hNx, step⟩
  · exact .inl ⟨stop, fun s' J' => ⟨σ, H2, J', qn⟩⟩
  · refine .inr ⟨go, fun fp ita tn v x s' own' gs' T hpp rv y I' hg' Sl' => ?_⟩
    refine turnBody (i := 1) (mm := m0) (fun σ7 H7 s7 n7 I7 hg7 => ?_) I' hg' Sl' rv (step x y)
    obtain ⟨m', hm, w7⟩ := hNx σ7 H7 n7
    exact loop m' 1 σ7 H7 s7 own' gs' fp ita tn w7 T hpp I7 hg7 Sl'
end
end GF
namespace GF
open PySem PySem.Spec PyProof.Rows L2 Z
/-- o.m(), m a generator def of o's class: its arguments -/
def zBorn0 (C : Addr) (m : Str) (ta : TE) : TA := fun σ H Qv => ta σ H fun x H1 => insAt H1 x fun a C' dx fs => (C' = C ∧ fs.lookup m = none) ∧ Qv [.ref a] H1
section
variable {X : Cx} {t : GTxt} {N ps : List Str} {name qual : Str} {scope : Scope} {f C : Addr} {cdv : Value} {o : Expr} {ta : TE} {m : Str} {apos pos : Pos} {k j : Nat}
theorem pborn_meth0 {params : Arguments} {dV kV doc pm ct oc : Value} {an od : Option Addr} {osl : Array (Option Value)} {pl : Sem Bool} (he : PE X o ta) (c : Cls X.K C) (hm : Meth X.K C m f) (lk : X.K.lookup f = some ⟨oc, od, .func (PySem.W.fnOf name qual params t.body scope dV kV doc pm an cdv ct), osl⟩) (hcd : PySem.W.codeIn X.K cdv qual = true)
    (S : GScope N ["self"] scope) (SG : GSc N scope) (hr : Room k X.A) (hb : L2.Binds X.K (PySem.W.fnOf name qual params t.body scope dV kV doc pm an cdv ct) ["self"] [])
    (ht : eval (.Call (.Attribute o m apos) [] [] pos) X.env = (do
      let ov ← eval o X.env
      standAt apos.atName
      let (f, first) ← holding [ov] (getMethod ov m pl)
      callWith pos f first (backTo pos (starEach [] X.env)) (backToKw pos (keywordEach [] X.env))) := by rfl) : PBorn X (.Call (.Attribute o m apos) [] [] pos) t N qual scope f cdv (zBorn0 C m ta) := by
  intro pins s σ H Qv I h
  refine PySem.W.methodCall_KW (pl := pl) (thn ((pe_up he).run pins s σ H (fun x H1 => ∃ a dx fs, x = .ref a ∧ H1 a = some (.ins C dx fs) ∧ fs.lookup m = none ∧ Qv [.ref a] H1) I ⟨_, fun x H1 q => by
    obtain ⟨a, C', dx, fs, ex, ha, ⟨ec, q2⟩, q3⟩ := insAt_ok q
    subst ec
    exact ⟨a, dx, fs, ex, ha, q2, q3⟩, h⟩) fun u s1 hh => ?_) ht
  obtain ⟨x, H1, I1, rx, a, dx, fs, ex, ea, l, q⟩ := hh
  subst ex
  obtain rfl : u = Value.ref a := rx
  refine getmeth_ok I1 ea c hm l ?_
  refine PySem.W.callWith_K0 (first := [.ref a]) I1.kIn hm.kp ?_
  refine wpAny_mono (gen_made (us := [.ref a]) (vs := [.ref a]) I1 lk hcd S SG hr hb (.cons rfl .nil) rfl (E := X.xe)) (fun u2 s2 hB => ⟨_, H1, hB, q⟩) fun _ _ z => z
end
end GF
namespace GF
open PySem PySem.Spec PyProof.Rows L2 Z
theorem compLoop_one {prog : Program} {w : World} {A : Around} {R : Result → Shared → Prop} {s : Shared} {elt target iter : Expr} {ifs : List Expr} {scope : Scope} {pos : Pos} {it acc : Value} {env : Env}
    (turn : wpAny (model prog w) A (pyNext it) (fun r s₁ => match r with
      | none => R (.ok .next) s₁
      | some v => wpAny (model prog w) A (letOwnedTupleGo target it v) (fun _ s₁' => wpAny (model prog w) A (assign target env v) (fun _ s₂ =>
          wpAny (model prog w) A (forIn ifs true fun c r => if r = true then do let ok ← isTrue c env (eval c env); pure (ForInStep.yield ok) else pure (ForInStep.yield r)) (fun ok s₃ =>
            if ok = true then wpAny (model prog w) A (eval elt env) (fun x s₄ =>
              wpAny (model prog w) A (call (.builtin "list.append") [acc, x]) (fun _ s₅ => codeAny (model prog w) A (.compLoop (.ListComp elt [⟨target, iter, ifs, 0⟩] scope pos) 0 it acc env) R s₅) (fun _ _ => False) s₄) (fun _ _ => False) s₃
            else codeAny (model prog w) A (.compLoop (.ListComp elt [⟨target, iter, ifs, 0⟩] scope pos) 0 it acc env) R s₃) (fun _ _ => False) s₂) (fun _ _ => False) s₁') (fun _ _ => False) s₁) (fun _ _ => False) s) :
    codeAny (model prog w) A (.compLoop (.ListComp elt [⟨target, iter, ifs, 0⟩] scope pos) 0 it acc env) R s := by
  refine codeAny_of_tree ?_
  show wpAny _ A ((compTurn (.ListComp elt [⟨target, iter, ifs, 0⟩] scope pos) 0 it acc env).onRaise (fun x => do noteFrame x env; theTreesLotGoes x)) _ _ s
  refine wpAny_noted ?_
  rw [compTurn_list]
  refine wpAny_bind (wpAny_standAt (wpAny_bind (wpAny_mono turn (fun r s₁ h₁ => ?_) fun _ _ h' => h'.elim)))
  cases r with
  | none => exact wpAny_pure h₁
  | some v =>
    refine wpAny_bind (wpAny_mono h₁ (fun _ s₁' h₁' => ?_) fun _ _ h' => h'.elim)
    refine wpAny_bind (wpAny_mono h₁' (fun _ s₂ h₂ => wpAny_bind (wpAny_mono h₂ (fun ok s₃ h₃ => ?_) fun _ _ h' => h'.elim)) fun _ _ h' => h'.elim)
    cases ok with
    | false => exact wpAny_pure ⟨rfl, h₃⟩
    | true =>
      exact wpAny_bind (wpAny_bind (wpAny_mono h₃ (fun x s₄ h₄ => wpAny_bind (wpAny_mono h₄ (fun _ s₅ h₅ => wpAny_pure (wpAny_pure ⟨rfl, h₅⟩)) fun _ _ h' => h'.elim)) fun _ _ h' => h'.elim))
/-- [e for x in g(..) if ..] -/
def tLcG (tv : TA) (N : List Str) (ti : TI) (g : TG) (tt : TT) (te : TE) (vs : List Nat) : TE := fun σ H Q => tv σ H fun ws H1 => ∀ D, H1 D = none → ti (start N ws) (upd H1 D (.lst [])) fun J H2 => H2 D = some (.lst []) ∧ (∀ i H x H', J.yld i H x H' → H' = H) ∧
  ∃ W : Nat → Nat → Hp → Prop, (∃ m, W 0 m H2) ∧ ∀ i m H, W i m H → H D ≠ none ∧ ((J.stop i H ∧ Q (.ref D) H) ∨ (J.go i H ∧ ∃ Nx : Hp → Prop, (∀ H', Nx H' → ∃ m', m' < m ∧ W (i + 1) m' H') ∧ ∀ x, J.yld i H x H → g x (wipe σ vs) H fun σ2 H2 => wipe σ2 vs = wipe σ vs ∧ tt σ2 H2 fun b H3 =>
    if b = true then te σ2 H3 fun y H4 => ∃ acc, H4 D = some (.lst acc) ∧ acc.length < sizeLine ∧ Nx (upd H4 D (.lst (acc ++ [y]))) else Nx H3))
section
variable {X : Cx} {t : GTxt} {N : List Str} {qual : Str} {scope : Scope} {f : Addr} {cdv : Value} {ix k : Nat} {ti : TI} {tv : TA} {g : TG} {tt : TT} {te : TE}
theorem lcG_core {pins : List (Addr × Obj)} {s : Shared} {σ : L2.St} {H : Hp} {Q : VK} {elt tg iter : Expr} {ifs : List Expr} {bs : Scope} {own : List (Str × Nat)} {pos pos' : Pos} {use : Option (Value → Sem Unit)} {Qf : Value → Shared → Prop}
    (hr : Room (k + 2) X.A) (G : GUsable X t N qual scope f cdv ix k ti) (B : PBorn X iter t N qual scope f cdv tv) (tmono : ∀ σ H R R', (∀ J H', R J H' → R' J H') → ti σ H R → ti σ H R') (hN : X.N.Nodup) (I : Inv X pins σ H s) (ok : BlkOk X.N X.env.scope bs own) (hnc : ∀ y ∈ bs.names, y.2 ≠ .cell)
    (hg : ∀ (s : Shared) (H : Hp) (C : Addr) (cl : List (Str × Addr)) (fp : List Addr), PG (X.blk s H bs (compEnvC bs cl C X.env) fp) tg g) (ht : ∀ (s : Shared) (H : Hp) (C : Addr) (cl : List (Str × Addr)) (fp : List Addr), PTs (X.blk s H bs (compEnvC bs cl C X.env) fp) ifs tt)
    (he : ∀ (s : Shared) (H : Hp) (C : Addr) (cl : List (Str × Addr)) (fp : List Addr), PE (X.blk s H bs (compEnvC bs cl C X.env) fp) elt te) (hs : ∀ x, foldedSetIterable iter X.env x = pure x)
    (h : tLcG tv N ti g tt te (own.map (·.2)) σ H Q)
    (hRR : ∀ D C s' m H', Inv X pins σ H' s' → Q (.ref D) H' → s'.heap.Ns C m → FpOk X pins H' C → compPost (model X.prog X.w) X.A X.xe use Qf (.ref D) C (.ok .next) s') :
    wpAny (model X.prog X.w) X.A (comprehension (.ListComp elt [⟨tg, iter, ifs, 0⟩] bs pos) bs X.env pos' (newList []) false (eval iter X.env) use) Qf X.xe s := by
  have hfree : ∀ y ∈ bs.names, y.2 = .free → ∃ c, X.env.cells.lookup y.1 = some c := fun y hy e => by
    rcases ok.free y hy e with k | k
    · exact I.ok.has _ (.inl k)
    · exact I.ok.has _ (.inr k)
  refine wpAny_comprehension_free (use := use) rfl hs (closure_ok hfree) ok.kind (fun y hy e => by rw [ok.uniq y hy, e])
    (thn (B pins s σ H _ I h) fun u s1 ⟨ws, H1, born, rd⟩ => ?_)
  obtain ⟨L, a, gn, oa, oL, m, rfl, U, hpi, I1, hga, hns, hlen, hlk, lta, hbig, hsz, hgs, hpl, hlcl, hsize⟩ := born
  have ga := I1.pin (a, oa) (List.mem_append_right _ (List.mem_append_right _ List.mem_cons_self))
  have gL := I1.pin (L, oL) (List.mem_append_right _ (List.mem_append_right _ (List.mem_cons_of_mem _ List.mem_cons_self)))
  refine wpAny_pyIter_gen (hga _ ga.1) ?_
  refine wpAny_newObj_type (newEnv_comp ?_) (by show 0 ≤ sizeLine; decide)
  generalize hD : s1.heap.objs.size = D
  have eD : D = a + 1 := by rw [← hD]; exact hsize
  have hDn : H1 D = none := hbig D (by (unfold Addr at *; omega))
  have rd := rd D hDn
  generalize hs3 : ({ s1 with heap := s1.heap.push { cls := .type "list", data := .seq ([] : List Value).toArray } } : Shared) = s3
  have I3p : Inv X (pins ++ [(a, oa), (L, oL)]) σ (upd H1 D (.lst [])) s3 := by
    rw [← hs3]
    refine I1.laid (t' := s1.toks) (fun b o e => Heap.get?_push_of_some _ e) (Nat.le_of_eq hD) ⟨Nat.zero_le _, [], 0, .nil, ?_⟩
    rw [← hD]
    exact Heap.get?_push_size _ rfl
  have I3 : Inv X pins σ (upd H1 D (.lst [])) s3 := I3p.unpinned
  have h3 : s3.heap = s1.heap.push { cls := .type "list", data := .seq ([] : List Value).toArray } := by rw [← hs3]
  have g3 : s3.gens = s1.gens := by rw [← hs3]
  have z3 : s3.heap.objs.size = a + 2 := by rw [h3, Heap.size_push, hsize]
  have hex : ∀ b, b ∈ (List.range (a - L)).map (L + ·) ↔ L ≤ b ∧ b < a := fun b => by
    rw [List.mem_map]
    constructor
    · rintro ⟨n, hn, rfl⟩
      have := List.mem_range.mp hn
      exact ⟨Nat.le_add_right _ _, by (unfold Addr at *; omega)⟩
    · rintro ⟨h1, h2⟩
      exact ⟨b - L, List.mem_range.mpr (by (unfold Addr at *; omega)), by (unfold Addr at *; omega)⟩
  generalize (List.range (a - L)).map (L + ·) = ex at hex
  have f3 : ∀ b ∈ ex, FpOk X pins (upd H1 D (.lst [])) b ∧ b < s3.heap.objs.size := fun b hb => by
    obtain ⟨q1, q2⟩ := (hex b).mp hb
    refine ⟨⟨?_, Nat.ne_of_gt (Nat.lt_of_lt_of_le hlcl q1), fun z => absurd (U.fs b z) (Nat.not_lt.mpr q1), .inr (Nat.le_trans hsz q1), fun x c e z => ?_, fun p hp z => ?_⟩, by (unfold Addr at *; omega)⟩
    · rw [upd_ne (by (unfold Addr at *; omega))]
      exact hbig b q1
    · have := U.cell x c e
      unfold Addr at *; omega
    · have := hpl p hp
      unfold Addr at *; omega
  have I4 := block_start I3 ok hN f3
  have pg := hg s3 (upd H1 D (.lst [])) s3.heap.objs.size (cellsFrom (s3.heap.objs.size + 1) bs.names (cloFrom X.env.cells bs.names [])) ex
  have pt := ht s3 (upd H1 D (.lst [])) s3.heap.objs.size (cellsFrom (s3.heap.objs.size + 1) bs.names (cloFrom X.env.cells bs.names [])) ex
  have pe := he s3 (upd H1 D (.lst [])) s3.heap.objs.size (cellsFrom (s3.heap.objs.size + 1) bs.names (cloFrom X.env.cells bs.names [])) ex
  show codeAny _ _ (.compStart (.ListComp elt [⟨tg, iter, ifs, 0⟩] bs pos) 0 (.ref a) (.ref D) (compEnvC bs (cellsFrom (s3.heap.objs.size + 1) bs.names (cloFrom X.env.cells bs.names [])) s3.heap.objs.size X.env)) (compPost (model X.prog X.w) X.A X.xe use Qf (.ref D) s3.heap.objs.size) { s3 with heap := pushCells (s3.heap.push { cls := .type "dict", data := .dict #[] }) bs.names }
  generalize hce : compEnvC bs (cellsFrom (s3.heap.objs.size + 1) bs.names (cloFrom X.env.cells bs.names [])) s3.heap.objs.size X.env = ce at I4 pg pt pe ⊢
  have cL : ce.locals = s3.heap.objs.size := by subst hce; rfl
  have cC : ∀ x c, ce.cells.lookup x = some c → c < L := fun x c e => by
    have e' : (cellsFrom (s3.heap.objs.size + 1) bs.names (cloFrom X.env.cells bs.names [])).lookup x = some c := by rw [← hce] at e; exact e
    rw [← Heap.size_push s3.heap { cls := .type "dict", data := .dict #[] }] at e'
    rcases cells_mem (PySem.mem_of_lookup e') with q | ⟨q, _⟩
    · rcases cloFrom_mem q with q | ⟨q1, q2⟩
      · cases q
      · obtain ⟨c', hc'⟩ := hfree _ q1 rfl
        have hc'' : X.env.cells.lookup x = some c' := hc'
        rw [hc''] at q2
        have : c = c' := q2
        rw [this]
        exact U.cell x c' hc''
    · exact absurd rfl (hnc _ q)
  generalize hH3 : upd H1 D (.lst []) = H3 at I3 I3p I4 pg pt pe f3 rd
  have H3D : H3 D ≠ none := by rw [← hH3, upd_same]; intro z; cases z
  generalize hs4 : ({ s3 with heap := pushCells (s3.heap.push { cls := .type "dict", data := .dict #[] }) bs.names } : Shared) = s4 at I4 ⊢
  have k4 : ∀ b o, s3.heap.get? b = some o → s4.heap.get? b = some o := fun b o e => by rw [← hs4]; exact pushCells_keeps _ _ _ _ (Heap.get?_push_of_some _ e)
  have ga3 := I3p.pin (a, oa) (List.mem_append_right _ (List.mem_append_right _ List.mem_cons_self))
  have gL3 := I3p.pin (L, oL) (List.mem_append_right _ (List.mem_append_right _ (List.mem_cons_of_mem _ List.mem_cons_self)))
  generalize hX : X.blk s3 H3 bs ce ex = X' at I4 pg pt pe
  have eA : X'.A = X.A := by rw [← hX]
  have eP : X'.prog = X.prog := by rw [← hX]
  have eW : X'.w = X.w := by rw [← hX]
  have ePn : X'.pn = [] := by rw [← hX]
  have eXe : X'.xe = fun _ _ => False := by rw [← hX]
  have eEnv : X'.env = ce := by rw [← hX]
  have eFs : X'.fs = frs X.stack := by rw [← hX]
  have eSt : X'.stack = X.stack := by rw [← hX]
  have eEx : X'.ex = ex := by rw [← hX]
  have eS0 : X'.s_0 = s3 := by rw [← hX]
  have I4p : Inv X' ([] ++ [(a, oa), (L, oL)]) (wipe σ (own.map (·.2))) H3 s4 := I4.pins_of fun p hp => by
    rcases List.mem_cons.mp (show p ∈ [(a, oa), (L, oL)] from hp) with rfl | hp
    · exact ⟨k4 _ _ ga3.1, ga3.2.1, by rw [eEnv, cL, z3]; show a ≠ a + 2; (try unfold Addr at *); omega, by rw [eFs]; exact fun z => absurd (U.fr _ z) (by show ¬ a < L; (try unfold Addr at *); omega), ga3.2.2.2.2⟩
    · rw [List.mem_singleton.mp hp]
      exact ⟨k4 _ _ gL3.1, gL3.2.1, by rw [eEnv, cL, z3]; show L ≠ a + 2; (try unfold Addr at *); omega, by rw [eFs]; exact fun z => absurd (U.fr _ z) (Nat.lt_irrefl _), gL3.2.2.2.2⟩
  have U' : GUse X' L := ⟨by rw [← hX]; exact U.base, .inl (by rw [eEx]; exact (hex L).mpr ⟨Nat.le_refl _, lta⟩), by rw [eSt]; exact U.fr, by rw [eFs]; exact U.fr, by rw [eEnv, cL, z3]; (try unfold Addr at *); omega, by rw [eEnv]; exact cC⟩
  have G' : GUsable X' t N qual scope f cdv ix k ti := by rw [← hX]; exact ⟨G.S, G.hi, G.hN, G.hx, G.hdb, G.hcd, G.hs, G.hPI⟩
  have hr' : Room (k + 2) X'.A := by rw [eA]; exact hr
  have hmid : ∀ (H9 : Hp) (ow : List (Addr × Obj)), H9 D ≠ none → (∃ o, (a, o) ∈ ow) → ∀ b, L < b → b ∉ X'.ex → ¬ X'.s_0.heap.objs.size ≤ b → H9 b ≠ none ∨ ∃ o, (b, o) ∈ [] ++ ow := fun H9 ow hd ⟨o, ho⟩ b l1 l2 l3 => by
    rw [eEx, hex] at l2
    rw [eS0, z3] at l3
    by_cases q : b = a
    · rw [q]; exact .inr ⟨o, ho⟩
    · have : b = D := by (unfold Addr at *; omega)
      rw [this]; exact .inl hd
  have noP : ∀ (fp : List Addr), ∀ p ∈ X'.pn ++ [], p.1 ≠ L ∧ p.1 ∉ fp ∧ p.1 ≠ a := fun fp p hp => by rw [ePn] at hp; simp at hp
  have hgs4 : s4.gens[gn]? = some (.fresh (.func t.body (envOfC qual scope L f cdv))) := by rw [← hs4]; show s3.gens[gn]? = _; rw [g3]; exact hgs
  have RR : ∀ (H' : Hp) (s' : Shared), Inv X' [] (wipe σ (own.map (·.2))) H' s' → Q (.ref D) H' → compPost (model X.prog X.w) X.A X.xe use Qf (.ref D) s3.heap.objs.size (.ok .next) s' := fun H' s' I6 qq => by
    have hb : Un (frs X.stack) ex H3 H' s3.heap s'.heap := by
      have z := I6.base
      rw [← hX] at z
      exact z
    have ho : s'.os = s3.os := by
      have z := I6.os
      rw [eS0] at z
      exact z
    have hk : HOk X.prog X.w H' s'.heap := by
      have z := I6.hok
      rw [eP, eW] at z
      exact z
    have I7 : Inv X pins σ H' s' := I3.call' (ch := ex) ho hb hk I6.bare fun b hb => ⟨(f3 b hb).1.2.2.2.1, (f3 b hb).1.2.1, (f3 b hb).1.2.2.2.2.1, (f3 b hb).1.2.2.2.2.2⟩
    have nC : H' s3.heap.objs.size = none := by
      have z := I6.free
      rw [eEnv, cL] at z
      exact z
    obtain ⟨m, hn, _⟩ := I6.loc
    rw [eEnv, cL] at hn
    exact hRR D s3.heap.objs.size s' m H' I7 qq hn (I3.fpOk (Nat.le_refl _) nC)
  generalize hR : compPost (model X.prog X.w) X.A X.xe use Qf (.ref D) s3.heap.objs.size = R at RR ⊢
  generalize hsg : wipe σ (own.map (·.2)) = σ0 at I4 I4p RR rd
  -- a turn's body, beside the sleeper
  have turnBody : ∀ {i : Nat} {ow : List (Addr × Obj)} {gs : GenState} {H2 : Hp} {s2 : Shared} {x : V} {v : Value} {Nx : Hp → Prop} {fp : List Addr} {ita : Addr} {tn : Nat → Heap → Prop}
      (cont : ∀ H7 s7, Nx H7 → Inv X' ([] ++ ow) σ0 H7 s7 → s7.gens[gn]? = some gs → codeAny (model X.prog X.w) X.A (.compLoop (.ListComp elt [⟨tg, iter, ifs, 0⟩] bs pos) 0 (.ref a) (.ref D) ce) R s7),
      Inv X' ([] ++ ow) σ0 H2 s2 → s2.gens[gn]? = some gs → Slp X' t N qual scope f cdv fp ita tn L a gn i ow gs → RelV x v →
      (g x σ0 H2 fun σ2 H2 => wipe σ2 (own.map (·.2)) = σ0 ∧ tt σ2 H2 fun b H3 => if b = true then te σ2 H3 fun y H4 => ∃ acc, H4 D = some (.lst acc) ∧ acc.length < sizeLine ∧ Nx (upd H4 D (.lst (acc ++ [y]))) else Nx H3) →
      wpAny (model X.prog X.w) X.A (letOwnedTupleGo tg (.ref a) v) (fun _ s₁' => wpAny (model X.prog X.w) X.A (assign tg ce v) (fun _ s₂ =>
          wpAny (model X.prog X.w) X.A (forIn ifs true fun c r => if r = true then do let ok ← isTrue c ce (eval c ce); pure (ForInStep.yield ok) else pure (ForInStep.yield r)) (fun ok s₃ =>
            if ok = true then wpAny (model X.prog X.w) X.A (eval elt ce) (fun x s₄ =>
              wpAny (model X.prog X.w) X.A (call (.builtin "list.append") [.ref D, x]) (fun _ s₅ => codeAny (model X.prog X.w) X.A (.compLoop (.ListComp elt [⟨tg, iter, ifs, 0⟩] bs pos) 0 (.ref a) (.ref D) ce) R s₅) (fun _ _ => False) s₄) (fun _ _ => False) s₃
            else codeAny (model X.prog X.w) X.A (.compLoop (.ListComp elt [⟨tg, iter, ifs, 0⟩] bs pos) 0 (.ref a) (.ref D) ce) R s₃) (fun _ _ => False) s₂) (fun _ _ => False) s₁') (fun _ _ => False) s2 := by
    intro i ow gs H2 s2 x v Nx fp ita tn cont I2 hg2 Sl rv rdb
    obtain ⟨oa2, ma2, hga2⟩ := Sl.gen
    have ga2 := I2.pin (a, oa2) (List.mem_append_right _ (List.mem_append_right _ ma2))
    obtain ⟨o', nm, qn, ho', hc', hd', hs'⟩ := hga2 _ ga2.1
    refine go_of ho' hc' hd' (by decide) ?_
    have hsus : susp gs = true := Sl.asl.1
    have Iy : Inv X' ([] ++ ow) σ0 H2 (st s2 (asleep s2.gens)) := inv_gens I2 (bare_asleep I2.bare)
    have r1 := pg.run _ _ σ0 H2 x v _ Iy rv rdb
    rw [eP, eW, eA, eEnv, eXe] at r1
    have f1 := wpAny_frame (s := st s2 (asleep s2.gens)) (G := s2.gens) r1 (ok_asleep s2.gens) (rel_asleep s2.gens)
    refine wpAny_mono f1 (fun _ s5 h5 => ?_) fun e s5 ⟨_, _, _, z, _⟩ => z
    obtain ⟨y5, G5, rfl, ⟨σ5, H5, I5, hw, q5⟩, rg5, kg5⟩ := h5
    have r2 := pt.run _ y5 σ5 H5 _ I5 q5
    rw [eP, eW, eA, eEnv, eXe] at r2
    have f2 := wpAny_frame (G := G5) r2 kg5 rg5
    refine wpAny_mono f2 (fun bb s6 h6 => ?_) fun e s6 ⟨_, _, _, z, _⟩ => z
    obtain ⟨y6, G6, rfl, ⟨H6, I6, q6⟩, rg6, kg6⟩ := h6
    have fin : ∀ {y : Shared} {H' : Hp} {GG : Array GenState}, Inv X' ([] ++ ow) σ5 H' y → RelG (orig s2.gens) y.gens GG → Nx H' → codeAny (model X.prog X.w) X.A (.compLoop (.ListComp elt [⟨tg, iter, ifs, 0⟩] bs pos) 0 (.ref a) (.ref D) ce) R (st y GG) := fun {y H' GG} I' rg nx => by
      refine cont H' (st y GG) nx ((inv_gens I' (rg.bare I2.bare I'.bare)).weak (by rw [← hw, wipe_length]) fun j v e => ?_) (rg.at hg2 hsus)
      rw [← hw] at e
      exact (wipe_some e).1
    cases bb with
    | false =>
      simp only [Bool.false_eq_true, if_false] at q6 ⊢
      exact fin I6 rg6 q6
    | true =>
      simp only [if_true] at q6 ⊢
      have r3 := pe.run _ y6 σ5 H6 _ I6 q6
      rw [eP, eW, eA, eEnv, eXe] at r3
      have f3 := wpAny_frame (G := G6) r3 kg6 rg6
      refine wpAny_mono f3 (fun z s7 h7 => ?_) fun e s7 ⟨_, _, _, z, _⟩ => z
      obtain ⟨y7, G7, rfl, ⟨yv, H7, I7, r7, acc, hD7, hz7, nx⟩, rg7, kg7⟩ := h7
      have r4 := app_ok (X := X') (E := fun _ _ => False) (Q := fun _ s' => Inv X' ([] ++ ow) σ5 (upd H7 D (.lst (acc ++ [yv]))) s') I7 hD7 hz7 r7 fun s8 I8 => I8
      rw [eP, eW, eA] at r4
      have f4 := wpAny_frame (G := G7) r4 kg7 rg7
      refine wpAny_mono f4 (fun _ s8 h8 => ?_) fun e s8 ⟨_, _, _, z, _⟩ => z
      obtain ⟨y8, G8, rfl, I8, rg8, kg8⟩ := h8
      exact fin I8 rg8 nx
  have loop0 : codeAny (model X.prog X.w) X.A (.compLoop (.ListComp elt [⟨tg, iter, ifs, 0⟩] bs pos) 0 (.ref a) (.ref D) ce) R s4 := by
    refine compLoop_one ?_
    have first := step_first (X := X') (pins := []) (σ := σ0) (H := H3) (s := s4) (E := fun _ _ => False) (Q := fun r s₁ => match r with
      | none => R (.ok .next) s₁
      | some v => wpAny (model X.prog X.w) X.A (letOwnedTupleGo tg (.ref a) v) (fun _ s₁' => wpAny (model X.prog X.w) X.A (assign tg ce v) (fun _ s₂ =>
          wpAny (model X.prog X.w) X.A (forIn ifs true fun c r => if r = true then do let ok ← isTrue c ce (eval c ce); pure (ForInStep.yield ok) else pure (ForInStep.yield r)) (fun ok s₃ =>
            if ok = true then wpAny (model X.prog X.w) X.A (eval elt ce) (fun x s₄ =>
              wpAny (model X.prog X.w) X.A (call (.builtin "list.append") [.ref D, x]) (fun _ s₅ => codeAny (model X.prog X.w) X.A (.compLoop (.ListComp elt [⟨tg, iter, ifs, 0⟩] bs pos) 0 (.ref a) (.ref D) ce) R s₅) (fun _ _ => False) s₄) (fun _ _ => False) s₃
            else codeAny (model X.prog X.w) X.A (.compLoop (.ListComp elt [⟨tg, iter, ifs, 0⟩] bs pos) 0 (.ref a) (.ref D) ce) R s₃) (fun _ _ => False) s₂) (fun _ _ => False) s₁') (fun _ _ => False) s₁)
      hr' G'.S G'.hi G'.hN G'.hx G'.hdb G'.hcd G'.hs G'.hPI U' (fun p hp => ⟨(noP [] p hp).1, (noP [] p hp).2.2⟩) I4p hga hns hlen hlk lta (hmid _ _ H3D ⟨oa, List.mem_cons_self⟩) hgs4 (tmono _ _ _ _ (fun J H2 hJ => ?_) rd)
    · rw [eP, eW, eA] at first
      exact first
    obtain ⟨hD2, hy, W, ⟨m0, w0⟩, turn⟩ := hJ
    have loop : ∀ (mm i : Nat) (H2 : Hp) (s2 : Shared) (ow : List (Addr × Obj)) (gs : GenState) (fp : List Addr) (ita : Addr) (tn : Nat → Heap → Prop), W i mm H2 → Turn X'.prog X'.w X'.K t.tgt J fp ita tn → Inv X' ([] ++ ow) σ0 H2 s2 → s2.gens[gn]? = some gs → Slp X' t N qual scope f cdv fp ita tn L a gn i ow gs →
        codeAny (model X.prog X.w) X.A (.compLoop (.ListComp elt [⟨tg, iter, ifs, 0⟩] bs pos) 0 (.ref a) (.ref D) ce) R s2 := by
      intro mm
      induction mm using Nat.strongRecOn with
      | ind mm ih =>
        intro i H2 s2 ow gs fp ita tn w2 T I2 hg2 Sl
        obtain ⟨hdn, tu⟩ := turn i mm H2 w2
        refine compLoop_one ?_
        have wk := step_wake (X := X') (pins := []) (E := fun _ _ => False) (Q := fun r s₁ => match r with
          | none => R (.ok .next) s₁
          | some v => wpAny (model X.prog X.w) X.A (letOwnedTupleGo tg (.ref a) v) (fun _ s₁' => wpAny (model X.prog X.w) X.A (assign tg ce v) (fun _ s₂ =>
              wpAny (model X.prog X.w) X.A (forIn ifs true fun c r => if r = true then do let ok ← isTrue c ce (eval c ce); pure (ForInStep.yield ok) else pure (ForInStep.yield r)) (fun ok s₃ =>
                if ok = true then wpAny (model X.prog X.w) X.A (eval elt ce) (fun x s₄ =>
                  wpAny (model X.prog X.w) X.A (call (.builtin "list.append") [.ref D, x]) (fun _ s₅ => codeAny (model X.prog X.w) X.A (.compLoop (.ListComp elt [⟨tg, iter, ifs, 0⟩] bs pos) 0 (.ref a) (.ref D) ce) R s₅) (fun _ _ => False) s₄) (fun _ _ => False) s₃
                else codeAny (model X.prog X.w) X.A (.compLoop (.ListComp elt [⟨tg, iter, ifs, 0⟩] bs pos) 0 (.ref a) (.ref D) ce) R s₃) (fun _ _ => False) s₂) (fun _ _ => False) s₁') (fun _ _ => False) s₁)
          (show Room ((k + 1) + 1) X'.A from hr') G'.S G'.hi G'.hN G'.hx G'.hdb G'.hcd T hy U' (noP fp) I2 Sl hg2 (hmid _ _ hdn (by obtain ⟨o, ho, _⟩ := Sl.gen; exact ⟨o, ho⟩)) ?_
        · rw [eP, eW, eA] at wk
          exact wk
        rcases tu with ⟨stop, qn⟩ | ⟨go, Nx, hNx, step⟩
        · exact .inl ⟨stop, fun s' J' => RR H2 s' J' qn⟩
        · refine .inr ⟨go, fun v x s' ow' gs' rv y I' hg' Sl' => ?_⟩
          refine turnBody (i := i + 1) (fun H7 s7 n7 I7 hg7 => ?_) I' hg' Sl' rv (step x y)
          obtain ⟨m', hm, w7⟩ := hNx H7 n7
          exact ih m' hm (i + 1) H7 s7 ow' gs' fp ita tn w7 T I7 hg7 Sl'
    obtain ⟨hdn, tu⟩ := turn 0 m0 H2 w0
    refine ⟨fun b o hb e => ?_, hy, ?_⟩
    · by_cases q : b = D
      · rw [q] at e ⊢
        rw [← hH3, upd_same] at e
        rw [← e]; exact hD2
      · rw [← hH3, upd_ne q, hbig b hb] at e
        cases e
    rcases tu with ⟨stop, qn⟩ | ⟨go, Nx, hNx, step⟩
    · exact .inl ⟨stop, fun s' J' => RR H2 s' J' qn⟩
    · refine .inr ⟨go, fun fp ita tn v x s' ow' gs' T hpp rv y I' hg' Sl' => ?_⟩
      refine turnBody (i := 1) (fun H7 s7 n7 I7 hg7 => ?_) I' hg' Sl' rv (step x y)
      obtain ⟨m', hm, w7⟩ := hNx H7 n7
      exact loop m' 1 H7 s7 ow' gs' fp ita tn w7 T I7 hg7 Sl'
  exact codeAny_compStart_list loop0 (wpAny_pyIter_gen (hga _ (k4 _ _ ga3.1)) loop0)
end
end GF
namespace GF
open PySem PySem.Spec PyProof.Rows L2 Z
section
variable {X : Cx} {t : GTxt} {N : List Str} {qual : Str} {scope : Scope} {f : Addr} {cdv : Value} {ix k : Nat} {ti : TI} {tv : TA} {g : TG} {tt : TT} {te : TE}
/-- as a value -/
theorem pe_lcG {elt tg iter : Expr} {ifs : List Expr} {bs : Scope} {own : List (Str × Nat)} {pos : Pos} (hr : Room (k + 2) X.A) (G : GUsable X t N qual scope f cdv ix k ti) (B : PBorn X iter t N qual scope f cdv tv) (tmono : ∀ σ H R R', (∀ J H', R J H' → R' J H') → ti σ H R → ti σ H R') (hN : X.N.Nodup) (ok : BlkOk X.N X.env.scope bs own) (hnc : ∀ y ∈ bs.names, y.2 ≠ .cell)
    (hg : ∀ (s : Shared) (H : Hp) (C : Addr) (cl : List (Str × Addr)) (fp : List Addr), PG (X.blk s H bs (compEnvC bs cl C X.env) fp) tg g) (ht : ∀ (s : Shared) (H : Hp) (C : Addr) (cl : List (Str × Addr)) (fp : List Addr), PTs (X.blk s H bs (compEnvC bs cl C X.env) fp) ifs tt)
    (he : ∀ (s : Shared) (H : Hp) (C : Addr) (cl : List (Str × Addr)) (fp : List Addr), PE (X.blk s H bs (compEnvC bs cl C X.env) fp) elt te) (hs : ∀ x, foldedSetIterable iter X.env x = pure x := by intro _; rfl) :
    PE X (.ListComp elt [⟨tg, iter, ifs, 0⟩] bs pos) (tLcG tv N ti g tt te (own.map (·.2))) := by
  refine ⟨fun pins s σ H Q I h => ?_⟩
  rw [eval_ListComp]
  refine lcG_core hr G B tmono hN I ok hnc hg ht he hs h fun D C s' m H' I' q hn f => ⟨m, hn, fun h'' sb => ?_⟩
  obtain ⟨f0, f1, f2, f3, f4, f5⟩ := f
  exact ⟨.ref D, H', I'.turned (t' := s'.toks) (fun b o hb e => (sb.2 b hb).trans e) f0 f1 f3 f4 f5, rfl, q⟩
/-- name = [..] on one line, the name a local -/
theorem ps_setLcG {i : Nat} {y : Str} {py : Pos} {elt tg iter : Expr} {ifs : List Expr} {bs : Scope} {own : List (Str × Nat)} {pos spos : Pos} (hr : Room (k + 2) X.A) (G : GUsable X t N qual scope f cdv ix k ti) (B : PBorn X iter t N qual scope f cdv tv) (tmono : ∀ σ H R R', (∀ J H', R J H' → R' J H') → ti σ H R → ti σ H R') (hN : X.N.Nodup) (hy : X.N[i]? = some y) (hyl : X.env.scope.names.lookup y = some .local)
    (hsw : swapsWith (.ListComp elt [⟨tg, iter, ifs, 0⟩] bs pos) (some (.Name y py)) spos.line X.env = pure true) (ok : BlkOk X.N X.env.scope bs own) (hnc : ∀ y ∈ bs.names, y.2 ≠ .cell)
    (hg : ∀ (s : Shared) (H : Hp) (C : Addr) (cl : List (Str × Addr)) (fp : List Addr), PG (X.blk s H bs (compEnvC bs cl C X.env) fp) tg g) (ht : ∀ (s : Shared) (H : Hp) (C : Addr) (cl : List (Str × Addr)) (fp : List Addr), PTs (X.blk s H bs (compEnvC bs cl C X.env) fp) ifs tt)
    (he : ∀ (s : Shared) (H : Hp) (C : Addr) (cl : List (Str × Addr)) (fp : List Addr), PE (X.blk s H bs (compEnvC bs cl C X.env) fp) elt te) (hs : ∀ x, foldedSetIterable iter X.env x = pure x := by intro _; rfl) :
    PS X (.Assign [.Name y py] (.ListComp elt [⟨tg, iter, ifs, 0⟩] bs pos) spos) (tAsg (tLcG tv N ti g tt te (own.map (·.2))) (gName i)) := by
  refine ⟨fun pins s σ H D I h => ?_⟩
  rw [exec_Assign_Name_used _ _ _ _ hsw]
  refine wpAny_bind (wpAny_standAt (wpAny_bind ?_))
  show wpAny _ X.A (do let _ ← comprehension (.ListComp elt [⟨tg, iter, ifs, 0⟩] bs pos) bs X.env (firstIterPos [⟨tg, iter, ifs, 0⟩] pos) (newList []) false (eval iter X.env) (some (assign (.Name y py) X.env))) _ _ s
  have h : tLcG tv N ti g tt te (own.map (·.2)) σ H (fun x H1 => gName i x σ H1 D.nx) := h
  refine wpAny_bind (thn (lcG_core (Qf := fun _ s' => SP X pins D .next s') hr G B tmono hN I ok hnc hg ht he hs h fun L C s' m H' I' q hn f => ?_) fun _ s' hq => wpAny_pure (wpAny_pure hq))
  show wpAny _ _ (assign (.Name y py) X.env (.ref L)) _ _ _
  refine wpAny_assign_Name (store_ok2 (v := V.ref L) I' hN hy (.inl hyl) rfl (fun s2 I2 ⟨a, sb, ha⟩ => ?_) (.inr hyl))
  obtain ⟨f0, f1, f2, f3, f4, f5⟩ := f
  have haC : C ≠ a := by
    rcases ha with z | z
    · rw [z]; exact f1
    · exact fun e => f4 y a z e.symm
  refine ⟨m, hn.sameBut sb haC, fun h3 sb3 => ?_⟩
  exact ⟨_, H', I2.turned (t' := s2.toks) (fun b o hb e => (sb3.2 b hb).trans e) f0 f1 f3 f4 f5, q⟩
/-- list(g(..)) -/
def tListOf (tv : TA) (N : List Str) (ti : TI) : TE := fun σ H Q => tv σ H fun ws H1 => ∀ D, H1 D = none → ti (start N ws) (upd H1 D (.lst [])) fun J H2 => H2 D = some (.lst []) ∧ (∀ i H x H', J.yld i H x H' → H' = H) ∧
  ∃ W : Nat → Nat → Hp → Prop, (∃ m, W 0 m H2) ∧ ∀ i m H, W i m H → ((J.stop i H ∧ Q (.ref D) H) ∨ (J.go i H ∧ ∃ Nx : Hp → Prop, (∀ H', Nx H' → ∃ m', m' < m ∧ W (i + 1) m' H') ∧ ∀ x, J.yld i H x H → ∃ acc, H D = some (.lst acc) ∧ acc.length < sizeLine ∧ Nx (upd H D (.lst (acc ++ [x])))))
abbrev X2 (X : Cx) : Cx := { X with A := X.A.in1.in1 }
theorem inv_in {pins : List (Addr × Obj)} {σ : L2.St} {H : Hp} {s : Shared} (I : Inv X pins σ H s) : Inv (X2 X) pins σ H s := by
  obtain ⟨ok, os, bare, base, loc, cell, free, freeC, pin, hok, len⟩ := I
  exact ⟨⟨ok.mod, ok.kind, ok.glob, ok.blt, ok.above, ok.inj, ok.has, ok.cab, fun h => ok.hd h, ok.frames, ok.stk, ok.exf, ok.bs, ok.bsz, ok.noex, ok.exfs, ok.funs, ok.frf⟩, os, bare, base, loc, cell, free, freeC, pin, hok, len⟩
theorem inv_out {pins : List (Addr × Obj)} {σ : L2.St} {H : Hp} {s : Shared} (J : Inv X [] σ H s) : X.Ok := J.ok
theorem pe_listOf {e : Expr} {nm : Str} {p pos : Pos} (hr : Room (k + 4) X.A) (G : GUsable X t N qual scope f cdv ix k ti) (B : PBorn X e t N qual scope f cdv tv) (tmono : ∀ σ H R R', (∀ J H', R J H' → R' J H') → ti σ H R → ti σ H R')
    (hg : Gl X nm) (hmg : X.mg nm = none) (hv : bootBuiltins nm = some (.type "list")) (hnm : nm ≠ "__name__" := by decide) (hdb : (nm == ("__debug__" : Str)) = false := by decide)
    (he : starEach [e] X.env = (false, eval e X.env) :: starEach [] X.env := by rfl) : PE X (.Call (.Name nm p) [e] [] pos) (tListOf tv N ti) := by
  refine ⟨fun pins s0 σ H Q I0 hq => ?_⟩
  refine wpAny_Call_Name_kw (ld_blt I0 hg hmg hv ?_ hnm hdb)
  refine PyProof.Rows.callWith_type1 ?_ he rfl
  rw [he]
  show wpAny _ _ (spliced ((false, eval e X.env) :: backTo pos (starEach [] X.env))) _ _ s0
  refine Calls.spliced_cons (thn (B pins s0 σ H _ I0 hq) fun u s ⟨ws, H1, born, rd⟩ => ?_)
  refine Calls.spliced_nil ?_
  obtain ⟨L, a, gn, oa, oL, m, rfl, U, hpi, I1, hga, hns, hlen, hlk, lta, hbig, hsz, hgs, hpl, hlcl, hsize⟩ := born
  have ok0 := I0.ok
  have ga := I1.pin (a, oa) (List.mem_append_right _ (List.mem_append_right _ List.mem_cons_self))
  have hg0 := hga _ ga.1
  have ha2 : a < s.heap.objs.size := Heap.lt_size ga.1
  have hSa : s.heap.objs.size ≠ a := Nat.ne_of_gt ha2
  refine callType_codes (Q₁ := fun obj s₁ => obj = .ref s.heap.objs.size ∧ s₁ = { s with heap := s.heap.push { cls := .type "list", data := .seq #[] } }) F.called_list (F.typeCall_list_1 _) F.entry_list_init
    (code_list_new _ ⟨rfl, rfl⟩) fun obj s₁ h₁ => ?_
  obtain ⟨rfl, rfl⟩ := h₁
  have hS : (s.heap.push { cls := .type "list", data := .seq #[] }).get? s.heap.objs.size = some { cls := .type "list", data := .seq #[] } := Heap.get?_push_size _ rfl
  refine ⟨⟨_, hS, rfl⟩, F.args_list_init_2 _ _, ?_⟩
  show wpAny _ X.A.in1.in1 (do let old ← Builtin.List.listItems (.ref s.heap.objs.size); Builtin.List.listUpdate (.ref s.heap.objs.size) (fun _ => #[]); letGo old.toList.reverse; Builtin.List.listExtendWith (.ref s.heap.objs.size) (.ref a) .none) _ _ _
  refine wpAny_bind ?_
  unfold Builtin.List.listItems
  refine wpAny_bind (wpAny_seqItems hS rfl (wpAny_pure ?_))
  show wpAny _ X.A.in1.in1 (updateSeq s.heap.objs.size (fun _ => #[]) >>= fun _ => letGo (#[] : Array Value).toList.reverse >>= fun _ => Builtin.List.listExtendWith (.ref s.heap.objs.size) (.ref a) .none) _ _ _
  refine wpAny_bind (wpAny_updateSeq hS rfl ?_)
  have hS2 := Heap.get?_update_self (Obj.mapSeq (fun _ => (#[] : Array Value))) hS rfl
  refine wpAny_bind (wpAny_letGo ?_)
  unfold Builtin.List.listExtendWith
  have up : ∀ (h : Heap) (f : Obj → Obj), (∀ b o, s.heap.get? b = some o → h.get? b = some o) → ∀ b o, s.heap.get? b = some o → (h.update s.heap.objs.size f).get? b = some o := fun h f q b o e =>
    (Heap.get?_update_other _ _ (Ne.symm (Nat.ne_of_lt (Heap.lt_size e)))).trans (q b o e)
  have k1 : ∀ b o, s.heap.get? b = some o → (s.heap.push { cls := .type "list", data := .seq #[] }).get? b = some o := fun b o e => Heap.get?_push_of_some _ e
  have k2 := up _ (Obj.mapSeq (fun _ => (#[] : Array Value))) k1
  have gty : ∀ {h : Heap}, (∀ b o, s.heap.get? b = some o → h.get? b = some o) → h.IsGen a gn := fun {h} q => hg0.keeps q
  refine wpAny_bind (wpAny_typeOf (Heap.IsGen.typeIs (s := { s with heap := _ }) (gty k2)) ?_)
  have h1 : Builtin.List.listSameRef (.ref s.heap.objs.size) (.ref a) = false := by simp [Builtin.List.listSameRef, hSa]
  have h2 : (Value.type "generator" == Value.type "list") = false := by decide
  have h3 : (Value.type "generator" == Value.type "tuple") = false := by decide
  simp only [h1, h2, h3, Bool.or_false, Bool.false_eq_true, if_false]
  refine wpAny_bind (wpAny_pyIter_gen (s := { s with heap := _ }) (gty k2) ?_)
  refine wpAny_bind (wpAny_holding ?_)
  unfold Builtin.List.listLengthHint
  refine wpAny_bind (wpAny_specialOf (Heap.IsGen.typeIs (s := { s with heap := _ }) (gty k2)) F.gen_no_len ?_)
  show wpAny _ X.A.in1.in1 (specialOf (Value.ref a) (Str.ofString "__length_hint__") >>= _) _ _ _
  refine wpAny_bind (wpAny_specialOf (Heap.IsGen.typeIs (s := { s with heap := _ }) (gty k2)) F.gen_no_hint ?_)
  refine wpAny_pure ?_
  show wpAny _ X.A.in1.in1 (rule "list.extend.makes-room" >>= fun _ => Builtin.List.listTouch (.ref s.heap.objs.size) >>= fun _ =>
    again (.builtin "list.extend.loop" ⟨[.ref s.heap.objs.size, .ref a, .none], []⟩)) _ _ _
  refine wpAny_bind (wpAny_rule ?_)
  refine wpAny_bind ?_
  show wpAny _ X.A.in1.in1 (updateSeq s.heap.objs.size (·.push .none) >>= fun _ => updateSeq s.heap.objs.size (·.pop)) _ _ _
  refine wpAny_bind (wpAny_updateSeq hS2 rfl ?_)
  have hS3 := Heap.get?_update_self (Obj.mapSeq (·.push Value.none)) hS2 rfl
  refine wpAny_updateSeq (hz := by seq_fits) hS3 rfl ?_
  have hS4 := Heap.get?_update_self (Obj.mapSeq (·.pop)) hS3 rfl
  have k4 := up _ (Obj.mapSeq (·.pop)) (up _ (Obj.mapSeq (·.push Value.none)) k2)
  refine wpAny_pure ⟨plainId_quiet F.plain_extend_loop _, ?_⟩
  generalize hS0 : s.heap.objs.size = S at *
  have eS : S = a + 1 := by rw [← hS0] at hsize; rw [← hS0]; exact hsize
  have hSn : H1 S = none := hbig S (by (unfold Addr at *; omega))
  have rd := rd S hSn
  have I4 : Inv X (pins ++ [(a, oa), (L, oL)]) σ (upd H1 S (.lst [])) { s with heap := _ } := I1.laid (t' := s.toks) k4 (by rw [hS0]; exact Nat.le_refl _) ⟨Nat.zero_le _, [], _, .nil, hS4⟩
  suffices main : ∀ R : Result → Shared → Prop, (∀ s', EP X pins σ Q (.ref S) s' → R (.ok (.ret .none)) s') → ∀ s9, Inv X (pins ++ [(a, oa), (L, oL)]) σ (upd H1 S (.lst [])) s9 → s9.gens[gn]? = some (.fresh (.func t.body (envOfC qual scope L f cdv))) →
      codeAny (model X.prog X.w) X.A.in1 (.builtin "list.extend.loop" ⟨[.ref S, .ref a, .none], []⟩) R s9 from main _ (fun s' h => ⟨rfl, h⟩) _ I4 hgs
  intro R hR s9 I9 hg9
  have hr' : Room (k + 2) (X2 X).A := hr.in1.in1
  have U' : GUse (X2 X) L := ⟨U.base, U.old, U.fr, U.fs, U.loc, U.cell⟩
  have G' : GUsable (X2 X) t N qual scope f cdv ix k ti := ⟨G.S, G.hi, G.hN, G.hx, G.hdb, G.hcd, G.hs, G.hPI⟩
  have hmid : ∀ (H9 : Hp) (ow : List (Addr × Obj)) b, L < b → b ∉ (X2 X).ex → ¬ (X2 X).s_0.heap.objs.size ≤ b → H9 b ≠ none ∨ ∃ o, (b, o) ∈ pins ++ ow := fun H9 ow b l _ h => absurd (Nat.le_trans hsz (Nat.le_of_lt l)) h
  have back : ∀ {pp : List (Addr × Obj)} {H' : Hp} {s' : Shared}, Inv (X2 X) pp σ H' s' → Inv X pp σ H' s' := fun {pp H' s'} J => by
    obtain ⟨ok, os, bare, base, loc, cell, free, freeC, pin, hok, len⟩ := J
    exact ⟨ok0, os, bare, base, loc, cell, free, freeC, pin, hok, len⟩
  -- an item pushed
  have push : ∀ {pp : List (Addr × Obj)} {H' : Hp} {s' : Shared} {x : V} {v : Value} {acc : List V} {Q' : PySem.Fin → Shared → Prop} {E' : Value → Shared → Prop} {kk : Unit → Sem PySem.Fin}, Inv (X2 X) pp σ H' s' → RelV x v → H' S = some (.lst acc) → acc.length < sizeLine →
      (∀ s2, Inv (X2 X) pp σ (upd H' S (.lst (acc ++ [x]))) s2 → s2.gens = s'.gens → wpAny (model X.prog X.w) X.A.in1.in1 (kk ()) Q' E' s2) → wpAny (model X.prog X.w) X.A.in1.in1 (updateSeq S (·.push v) >>= kk) Q' E' s' := by
    intro pp H' s' x v acc Q' E' kk J rv hS' hz K
    obtain ⟨hz', its, n, ri, e⟩ := J.hok S _ hS'
    have hl := ri.length
    refine wpAny_bind (wpAny_updateSeq e rfl ?_ (by rw [List.size_toArray]; omega) (by rw [Array.size_push, List.size_toArray]; omega))
    have e2 := Heap.get?_update_self (Obj.mapSeq (·.push v)) e rfl
    refine K _ (J.write (t' := s'.toks) (by rw [hS']; trivial) (.inl rfl) (fun b u hb q => (Heap.get?_update_other _ _ (Ne.symm hb)).trans q) ⟨_, e2⟩ ⟨by rw [List.length_append]; exact hz, its ++ [v], n + 1, ri.append (.cons rv .nil), ?_⟩) rfl
    rw [e2]
    simp [Obj.mapSeq, lstObj]
  have one : ∀ {s' : Shared}, wpAny (model X.prog X.w) X.A.in1.in1 (pyNext (.ref a)) (fun r s₁ => match r with
      | none => R (.ok (.ret .none)) s₁
      | some v => wpAny (model X.prog X.w) X.A.in1.in1 (updateSeq S (·.push v) >>= fun _ => again (.builtin "list.extend.loop" ⟨[.ref S, .ref a, .none], []⟩)) (fun fin s' => match fin with
        | .done f => R (.ok f) s'
        | .again c' => c'.quiet = true ∧ codeAny (model X.prog X.w) X.A.in1 c' R s') (fun e s' => R (.error e) s') s₁) (fun e s' => R (.error e) s') s' → codeAny (model X.prog X.w) X.A.in1 (.builtin "list.extend.loop" ⟨[.ref S, .ref a, .none], []⟩) R s' := fun {s'} h => by
    refine codeAny_builtin F.entry_extend_loop ?_
    rw [Around.under_plainId F.plain_extend_loop _]
    show wpAny _ X.A.in1.in1 (pyNext (.ref a) >>= _) _ _ s'
    refine wpAny_bind (wpAny_mono h (fun r s₁ h₁ => ?_) fun _ _ z => z)
    cases r with
    | none => exact wpAny_pure h₁
    | some v => exact h₁
  refine one (step_first (X := X2 X) (pins := pins) (σ := σ) hr' G'.S G'.hi G'.hN G'.hx G'.hdb G'.hcd G'.hs G'.hPI U' hpi (inv_in I9) hga hns hlen hlk lta (hmid _ _) hg9 (tmono _ _ _ _ (fun J H2 hJ => ?_) rd))
  obtain ⟨hD2, hy, W, ⟨m0, w0⟩, turn⟩ := hJ
  have loop : ∀ (mm i : Nat) (H2 : Hp) (s2 : Shared) (ow : List (Addr × Obj)) (gs : GenState) (fp : List Addr) (ita : Addr) (tn : Nat → Heap → Prop), W i mm H2 → Turn X.prog X.w X.K t.tgt J fp ita tn → (∀ p ∈ X.pn ++ pins, p.1 ≠ L ∧ p.1 ∉ fp ∧ p.1 ≠ a) → Inv (X2 X) (pins ++ ow) σ H2 s2 → s2.gens[gn]? = some gs → Slp (X2 X) t N qual scope f cdv fp ita tn L a gn i ow gs →
      codeAny (model X.prog X.w) X.A.in1 (.builtin "list.extend.loop" ⟨[.ref S, .ref a, .none], []⟩) R s2 := by
    intro mm
    induction mm using Nat.strongRecOn with
    | ind mm ih =>
      intro i H2 s2 ow gs fp ita tn w2 T hpp I2 hg2 Sl
      refine one (step_wake (X := X2 X) (pins := pins) (show Room ((k + 1) + 1) (X2 X).A from hr') G'.S G'.hi G'.hN G'.hx G'.hdb G'.hcd T hy U' hpp I2 Sl hg2 (hmid _ _) ?_)
      rcases turn i mm H2 w2 with ⟨stop, qn⟩ | ⟨go, Nx, hNx, step⟩
      · exact .inl ⟨stop, fun s' J' => hR s' ⟨.ref S, H2, back J', rfl, qn⟩⟩
      · refine .inr ⟨go, fun v x s' ow' gs' rv y I' hg' Sl' => ?_⟩
        obtain ⟨acc, hS', hz, nx⟩ := step x y
        refine push I' rv hS' hz fun s3 I3 g3 => wpAny_pure ⟨plainId_quiet F.plain_extend_loop _, ?_⟩
        obtain ⟨m', hm, w7⟩ := hNx _ nx
        exact ih m' hm (i + 1) _ s3 ow' gs' fp ita tn w7 T hpp I3 (by rw [g3]; exact hg') Sl'
  refine ⟨fun b o hb e => ?_, hy, ?_⟩
  · by_cases q : b = S
    · rw [q] at e ⊢
      rw [upd_same] at e
      rw [← e]; exact hD2
    · rw [upd_ne q, hbig b hb] at e
      cases e
  rcases turn 0 m0 H2 w0 with ⟨stop, qn⟩ | ⟨go, Nx, hNx, step⟩
  · exact .inl ⟨stop, fun s' J' => hR s' ⟨.ref S, H2, back J', rfl, qn⟩⟩
  · refine .inr ⟨go, fun fp ita tn v x s' ow' gs' T hpp rv y I' hg' Sl' => ?_⟩
    obtain ⟨acc, hS', hz, nx⟩ := step x y
    refine push I' rv hS' hz fun s3 I3 g3 => wpAny_pure ⟨plainId_quiet F.plain_extend_loop _, ?_⟩
    obtain ⟨m', hm, w7⟩ := hNx _ nx
    exact loop m' 1 _ s3 ow' gs' fp ita tn w7 T hpp I3 (by rw [g3]; exact hg') Sl'
end
end GF
namespace GF
open PySem PySem.Spec PyProof.Rows L2 Z
/-- the text of a generator def `for x in ITER: yield x` -/
def gtxt (st : Stmt) : GTxt := match defBody st with
  | [.For (.Name x px) it [.Expr (.Yield (some (.Name _ py)) yp) ep] [] fp] => ⟨x, it, px, py, yp, ep, fp⟩
  | _ => ⟨"", .Name "" ⟨0, 0, 0, 0⟩, ⟨0, 0, 0, 0⟩, ⟨0, 0, 0, 0⟩, ⟨0, 0, 0, 0⟩, ⟨0, 0, 0, 0⟩, ⟨0, 0, 0, 0⟩⟩
/-- a generator method of a class -/
structure GenM (P : Program) (w : World) (K : PySem.W.Frag) (mg : Str → Option Value) (base : Heap) (C : Addr) (m : Str) (N : List Str) (k : Nat) (ti : TI) : Prop where
  cls : Cls K C
  ex : ∃ (t : GTxt) (name qual : Str) (scope : Scope) (f : Addr) (cdv : Value) (ix : Nat) (params : Arguments) (dV kV doc pm ct oc : Value) (an od : Option Addr) (osl : Array (Option Value)),
    Meth K C m f ∧ K.lookup f = some ⟨oc, od, .func (PySem.W.fnOf name qual params t.body scope dV kV doc pm an cdv ct), osl⟩ ∧ PySem.W.codeIn K cdv qual = true ∧ GScope N ["self"] scope ∧ GSc N scope ∧ L2.Binds K (PySem.W.fnOf name qual params t.body scope dV kV doc pm an cdv ct) ["self"] [] ∧
    (∀ L : Addr, interactive (envOfC qual scope L f cdv) = false) ∧ N[ix]? = some t.xn ∧ scope.names.lookup t.xn = some .local ∧ (t.xn == ("__debug__" : Str)) = false ∧ (t.xn == ("__classdict__" : Str)) = false ∧ (∀ (L : Addr) (x : Value), foldedSetIterable t.iter (envOfC qual scope L f cdv) x = pure x) ∧
    ∀ (A : Around) (outer : List Env) (sc : Shared) (Hc : Hp), Room k (A.deeper (envOfC qual scope sc.heap.objs.size f cdv)) → PI (gX P w K mg base N qual scope f cdv A outer sc Hc) t.tgt t.iter ti
theorem gen_ok {P : Program} {w : World} {K : PySem.W.Frag} {mg : Str → Option Value} {base : Heap} {x qual m : Str} {st : Stmt} {f C : Addr} {fd : FuncData} {N : List Str} {k ix : Nat} {ti : TI} (F : FunD K x qual (defArgs st) (defBody st) (defScope st) [] [] f fd) (ht : (gtxt st).body = defBody st) (cls : Cls K C) (me : Meth K C m f)
    (S : GScope N ["self"] (defScope st)) (SG : GSc N (defScope st)) (hb : L2.Binds K fd ["self"] []) (hi : ∀ (L : Addr) (cdv : Value), interactive (envOfC qual (defScope st) L f cdv) = false) (hN : N[ix]? = some (gtxt st).xn) (hx : (defScope st).names.lookup (gtxt st).xn = some .local) (hdb : ((gtxt st).xn == ("__debug__" : Str)) = false) (hcd : ((gtxt st).xn == ("__classdict__" : Str)) = false)
    (hs : ∀ (L : Addr) (cdv x : Value), foldedSetIterable (gtxt st).iter (envOfC qual (defScope st) L f cdv) x = pure x)
    (hPI : ∀ (cdv : Value) (A : Around) (outer : List Env) (sc : Shared) (Hc : Hp), Room k (A.deeper (envOfC qual (defScope st) sc.heap.objs.size f cdv)) → PI (gX P w K mg base N qual (defScope st) f cdv A outer sc Hc) (gtxt st).tgt (gtxt st).iter ti) : GenM P w K mg base C m N k ti := by
  obtain ⟨oc, od, dV, kV, doc, pm, an, cdv, ct, osl, rfl, lk, hcdv, _, _⟩ := F.ex
  rw [← ht] at lk hb
  exact ⟨cls, gtxt st, x, qual, defScope st, f, cdv, ix, defArgs st, dV, kV, doc, pm, ct, oc, an, od, osl, me, lk, hcdv, S, SG, hb, fun L => hi L cdv, hN, hx, hdb, hcd, fun L x => hs L cdv x, fun A outer sc Hc hr => hPI cdv A outer sc Hc hr⟩
theorem pi_up {X : Cx} {tg it : Expr} {w : TI} (h : PI X tg it w) : PI X tg it (upI w) := ⟨fun pins s σ H R I ⟨R0, k, q⟩ => wpAny_mono (h.run pins s σ H R0 I q) (fun v s1 h1 => wpAny_mono h1 (fun itv s2 ⟨it, fp, tn, J, H', a, b, c, d, e, f⟩ => ⟨it, fp, tn, J, H', a, b, c, d, e, k J H' f⟩) fun _ _ z => z) fun _ _ z => z⟩
theorem upI_mono {w : TI} : ∀ σ H R R', (∀ J H', R J H' → R' J H') → upI w σ H R → upI w σ H R' := fun _ _ _ _ k ⟨R0, k0, q⟩ => ⟨R0, fun J H' z => k J H' (k0 J H' z), q⟩
section
variable {X : Cx} {C : Addr} {m : Str} {N : List Str} {k j : Nat} {ti : TI} {o : Expr} {ta : TE} {apos pos : Pos}
theorem GenM.use {pl : Sem Bool} (M : GenM X.prog X.w X.K X.mg X.base C m N k ti) (hr : Room j X.A) (he : PE X o ta) (ht : eval (.Call (.Attribute o m apos) [] [] pos) X.env = (do
      let ov ← eval o X.env
      standAt apos.atName
      let (f, first) ← holding [ov] (getMethod ov m pl)
      callWith pos f first (backTo pos (starEach [] X.env)) (backToKw pos (keywordEach [] X.env))) := by rfl) :
    ∃ t qual scope f cdv ix, GUsable X t N qual scope f cdv ix k (upI ti) ∧ PBorn X (.Call (.Attribute o m apos) [] [] pos) t N qual scope f cdv (upA (zBorn0 C m ta)) := by
  obtain ⟨t, name, qual, scope, f, cdv, ix, params, dV, kV, doc, pm, ct, oc, an, od, osl, me, lk, hcd, S, SG, hb, hi, hN, hx, hdb, hcd', hs, hPI⟩ := M.ex
  refine ⟨t, qual, scope, f, cdv, ix, ⟨SG, hi, hN, hx, hdb, hcd', hs, fun A outer sc Hc r => pi_up (hPI A outer sc Hc r)⟩, ?_⟩
  intro pins s σ H Qv I ⟨Q0, kq, q⟩
  exact wpAny_mono (pborn_meth0 (pl := pl) he M.cls me lk hcd S SG hr hb ht pins s σ H Q0 I q) (fun u s' ⟨vs, H1, b, q1⟩ => ⟨vs, H1, b, kq vs H1 q1⟩) fun _ _ z => z
/-- for x in o.m(): body -/
def loopOnG (J : It) (g : TG) (tb : TS) (D : Ends) (σ : L2.St) (H2 : Hp) : Prop := (∀ i H x H', J.yld i H x H' → H' = H) ∧ ∃ W : Nat → Nat → L2.St → Hp → Prop, (∃ m, W 0 m σ H2) ∧ ∀ i m σ H, W i m σ H →
  (J.stop i H ∧ D.nx σ H) ∨ (J.go i H ∧ ∃ Nx : L2.St → Hp → Prop, (∀ σ' H', Nx σ' H' → ∃ m', m' < m ∧ W (i + 1) m' σ' H') ∧ ∀ x, J.yld i H x H → g x σ H fun σ2 H2 => tb { D with nx := Nx, ct := Nx, bk := D.nx } σ2 H2)
def zForG (C : Addr) (m : Str) (N : List Str) (ta : TE) (ti : TI) (g : TG) (tb : TS) : TS := fun D σ H => ta σ H fun x H1 => insAt H1 x fun a C' dx fs => (C' = C ∧ fs.lookup m = none) ∧ ti (start N [.ref a]) H1 fun J H2 => loopOnG J g tb D σ H2
theorem s_forG {pl : Sem Bool} {tg : Expr} {body : List Stmt} {g : TG} {tb : TS} {pos2 : Pos} (hxe : ∀ e s, ¬ X.xe e s) (M : GenM X.prog X.w X.K X.mg X.base C m N k ti) (hr : Room j X.A) (hk : k + 4 ≤ j) (he : PE X o ta) (hg : PG X tg g) (hb : PSs X body tb)
    (ht : eval (.Call (.Attribute o m apos) [] [] pos) X.env = (do
      let ov ← eval o X.env
      standAt apos.atName
      let (f, first) ← holding [ov] (getMethod ov m pl)
      callWith pos f first (backTo pos (starEach [] X.env)) (backToKw pos (keywordEach [] X.env))) := by rfl)
    (hs : ∀ x, foldedSetIterable (.Call (.Attribute o m apos) [] [] pos) X.env x = pure x := by intro _; rfl) : PS X (.For tg (.Call (.Attribute o m apos) [] [] pos) body [] pos2) (zForG C m N ta ti g tb) := by
  obtain ⟨t, qual, scope, f, cdv, ix, G, B⟩ := M.use hr he ht
  exact ps_imp (ps_forG hxe (hr.mono (by omega)) G B hg hb upI_mono hs) fun D σ H q => ⟨fun vs H1 => ti (start N vs) H1 fun J H2 => loopOnG J g tb D σ H2, fun vs H1 z => ⟨_, fun _ _ z => z, z⟩, q⟩
/-- [e for x in o.m() if ..] -/
def compOnG (D : Addr) (J : It) (g : TG) (tt : TT) (te : TE) (vs : List Nat) (σ : L2.St) (Q : VK) (H2 : Hp) : Prop := H2 D = some (.lst []) ∧ (∀ i H x H', J.yld i H x H' → H' = H) ∧
  ∃ W : Nat → Nat → Hp → Prop, (∃ m, W 0 m H2) ∧ ∀ i m H, W i m H → H D ≠ none ∧ ((J.stop i H ∧ Q (.ref D) H) ∨ (J.go i H ∧ ∃ Nx : Hp → Prop, (∀ H', Nx H' → ∃ m', m' < m ∧ W (i + 1) m' H') ∧ ∀ x, J.yld i H x H → g x (wipe σ vs) H fun σ2 H2 => wipe σ2 vs = wipe σ vs ∧ tt σ2 H2 fun b H3 =>
    if b = true then te σ2 H3 fun y H4 => ∃ acc, H4 D = some (.lst acc) ∧ acc.length < sizeLine ∧ Nx (upd H4 D (.lst (acc ++ [y]))) else Nx H3))
def zLcG (C : Addr) (m : Str) (N : List Str) (ta : TE) (ti : TI) (g : TG) (tt : TT) (te : TE) (vs : List Nat) : TE := fun σ H Q => ta σ H fun x H1 => insAt H1 x fun a C' dx fs => (C' = C ∧ fs.lookup m = none) ∧ ∀ D, H1 D = none → ti (start N [.ref a]) (upd H1 D (.lst [])) (fun J H2 => compOnG D J g tt te vs σ Q H2)
theorem e_lcG {pl : Sem Bool} {elt tg : Expr} {ifs : List Expr} {bs : Scope} {own : List (Str × Nat)} {pos2 : Pos} {g : TG} {tt : TT} {te : TE} (M : GenM X.prog X.w X.K X.mg X.base C m N k ti) (hr : Room j X.A) (hk : k + 4 ≤ j) (he : PE X o ta) (hN : X.N.Nodup) (ok : BlkOk X.N X.env.scope bs own) (hnc : ∀ y ∈ bs.names, y.2 ≠ .cell)
    (hg : ∀ (s : Shared) (H : Hp) (C : Addr) (cl : List (Str × Addr)) (fp : List Addr), PG (X.blk s H bs (compEnvC bs cl C X.env) fp) tg g) (ht' : ∀ (s : Shared) (H : Hp) (C : Addr) (cl : List (Str × Addr)) (fp : List Addr), PTs (X.blk s H bs (compEnvC bs cl C X.env) fp) ifs tt)
    (hel : ∀ (s : Shared) (H : Hp) (C : Addr) (cl : List (Str × Addr)) (fp : List Addr), PE (X.blk s H bs (compEnvC bs cl C X.env) fp) elt te)
    (ht : eval (.Call (.Attribute o m apos) [] [] pos) X.env = (do
      let ov ← eval o X.env
      standAt apos.atName
      let (f, first) ← holding [ov] (getMethod ov m pl)
      callWith pos f first (backTo pos (starEach [] X.env)) (backToKw pos (keywordEach [] X.env))) := by rfl)
    (hs : ∀ x, foldedSetIterable (.Call (.Attribute o m apos) [] [] pos) X.env x = pure x := by intro _; rfl) :
    PE X (.ListComp elt [⟨tg, .Call (.Attribute o m apos) [] [] pos, ifs, 0⟩] bs pos2) (zLcG C m N ta ti g tt te (own.map (·.2))) := by
  obtain ⟨t, qual, scope, f, cdv, ix, G, B⟩ := M.use hr he ht
  exact pe_imp (pe_lcG (hr.mono (by omega)) G B upI_mono hN ok hnc hg ht' hel hs) fun σ H Q q => ⟨fun ws H1 => ∀ D, H1 D = none → ti (start N ws) (upd H1 D (.lst [])) (fun J H2 => compOnG D J g tt te (own.map fun x : Str × Nat => x.2) σ Q H2), fun vs H1 z D hD => ⟨_, fun _ _ z => z, z D hD⟩, q⟩
theorem s_setLcG {pl : Sem Bool} {i : Nat} {y : Str} {py spos : Pos} {elt tg : Expr} {ifs : List Expr} {bs : Scope} {own : List (Str × Nat)} {pos2 : Pos} {g : TG} {tt : TT} {te : TE} (M : GenM X.prog X.w X.K X.mg X.base C m N k ti) (hr : Room j X.A) (hk : k + 4 ≤ j) (he : PE X o ta) (hN : X.N.Nodup) (hy : X.N[i]? = some y) (hyl : X.env.scope.names.lookup y = some .local)
    (hsw : swapsWith (.ListComp elt [⟨tg, .Call (.Attribute o m apos) [] [] pos, ifs, 0⟩] bs pos2) (some (.Name y py)) spos.line X.env = pure true) (ok : BlkOk X.N X.env.scope bs own) (hnc : ∀ y ∈ bs.names, y.2 ≠ .cell)
    (hg : ∀ (s : Shared) (H : Hp) (C : Addr) (cl : List (Str × Addr)) (fp : List Addr), PG (X.blk s H bs (compEnvC bs cl C X.env) fp) tg g) (ht' : ∀ (s : Shared) (H : Hp) (C : Addr) (cl : List (Str × Addr)) (fp : List Addr), PTs (X.blk s H bs (compEnvC bs cl C X.env) fp) ifs tt)
    (hel : ∀ (s : Shared) (H : Hp) (C : Addr) (cl : List (Str × Addr)) (fp : List Addr), PE (X.blk s H bs (compEnvC bs cl C X.env) fp) elt te)
    (ht : eval (.Call (.Attribute o m apos) [] [] pos) X.env = (do
      let ov ← eval o X.env
      standAt apos.atName
      let (f, first) ← holding [ov] (getMethod ov m pl)
      callWith pos f first (backTo pos (starEach [] X.env)) (backToKw pos (keywordEach [] X.env))) := by rfl)
    (hs : ∀ x, foldedSetIterable (.Call (.Attribute o m apos) [] [] pos) X.env x = pure x := by intro _; rfl) :
    PS X (.Assign [.Name y py] (.ListComp elt [⟨tg, .Call (.Attribute o m apos) [] [] pos, ifs, 0⟩] bs pos2) spos) (tAsg (zLcG C m N ta ti g tt te (own.map (·.2))) (gName i)) := by
  obtain ⟨t, qual, scope, f, cdv, ix, G, B⟩ := M.use hr he ht
  exact ps_imp (ps_setLcG (hr.mono (by omega)) G B upI_mono hN hy hyl hsw ok hnc hg ht' hel hs) fun D σ H q => ⟨fun ws H1 => ∀ D', H1 D' = none → ti (start N ws) (upd H1 D' (.lst [])) (fun J H2 => compOnG D' J g tt te (own.map fun x : Str × Nat => x.2) σ (fun x H3 => gName i x σ H3 D.nx) H2), fun vs H1 z D hD => ⟨_, fun _ _ z => z, z D hD⟩, q⟩
/-- list(o.m()) -/
def listOnG (D : Addr) (J : It) (Q : VK) (H2 : Hp) : Prop := H2 D = some (.lst []) ∧ (∀ i H x H', J.yld i H x H' → H' = H) ∧
  ∃ W : Nat → Nat → Hp → Prop, (∃ m, W 0 m H2) ∧ ∀ i m H, W i m H → ((J.stop i H ∧ Q (.ref D) H) ∨ (J.go i H ∧ ∃ Nx : Hp → Prop, (∀ H', Nx H' → ∃ m', m' < m ∧ W (i + 1) m' H') ∧ ∀ x, J.yld i H x H → ∃ acc, H D = some (.lst acc) ∧ acc.length < sizeLine ∧ Nx (upd H D (.lst (acc ++ [x])))))
def zListG (C : Addr) (m : Str) (N : List Str) (ta : TE) (ti : TI) : TE := fun σ H Q => ta σ H fun x H1 => insAt H1 x fun a C' dx fs => (C' = C ∧ fs.lookup m = none) ∧ ∀ D, H1 D = none → ti (start N [.ref a]) (upd H1 D (.lst [])) (fun J H2 => listOnG D J Q H2)
theorem e_listG {pl : Sem Bool} {nm : Str} {p pos2 : Pos} (M : GenM X.prog X.w X.K X.mg X.base C m N k ti) (hr : Room j X.A) (hk : k + 4 ≤ j) (he : PE X o ta)
    (hg : Gl X nm) (hmg : X.mg nm = none) (hv : bootBuiltins nm = some (.type "list")) (hnm : nm ≠ "__name__" := by decide) (hdb : (nm == ("__debug__" : Str)) = false := by decide)
    (hst : starEach [.Call (.Attribute o m apos) [] [] pos] X.env = (false, eval (.Call (.Attribute o m apos) [] [] pos) X.env) :: starEach [] X.env := by rfl)
    (ht : eval (.Call (.Attribute o m apos) [] [] pos) X.env = (do
      let ov ← eval o X.env
      standAt apos.atName
      let (f, first) ← holding [ov] (getMethod ov m pl)
      callWith pos f first (backTo pos (starEach [] X.env)) (backToKw pos (keywordEach [] X.env))) := by rfl) :
    PE X (.Call (.Name nm p) [.Call (.Attribute o m apos) [] [] pos] [] pos2) (zListG C m N ta ti) := by
  obtain ⟨t, qual, scope, f, cdv, ix, G, B⟩ := M.use hr he ht
  exact pe_imp (pe_listOf (hr.mono hk) G B upI_mono hg hmg hv hnm hdb hst) fun σ H Q q => ⟨fun ws H1 => ∀ D, H1 D = none → ti (start N ws) (upd H1 D (.lst [])) (fun J H2 => listOnG D J Q H2), fun vs H1 z D hD => ⟨_, fun _ _ z => z, z D hD⟩, q⟩
end
/-! ### the forms one uses -/
theorem pure_r {lo : Int} {n : Nat} : ∀ i H x H', (Itr lo n).yld i H x H' → H' = H := fun i H x H' y => y.1
theorem pure_l {K : PySem.W.Frag} {a : Addr} : ∀ i H x H', (Itl K a).yld i H x H' → H' = H := fun i H x H' y => y.1
theorem loopG {J : It} {g : TG} {tb : TS} {D : Ends} {σ : L2.St} {H : Hp} (hp : ∀ i H x H', J.yld i H x H' → H' = H) (h : loopOn J g tb D σ H) : loopOnG J g tb D σ H := by
  obtain ⟨W, h0, h1⟩ := h
  refine ⟨hp, W, h0, fun i m σ H w => ?_⟩
  rcases h1 i m σ H w with z | ⟨go, Nx, a, b⟩
  · exact .inl z
  · exact .inr ⟨go, Nx, a, fun x y => b x H y⟩
/-- a comprehension over a generator, n items -/
theorem compG {J : It} {n : Nat} {item : Nat → V} {g : TG} {tt : TT} {te : TE} {vs : List Nat} {σ : L2.St} {H2 : Hp} {Q : VK} {D : Addr} (hD : H2 D = some (.lst [])) (hp : ∀ i H x H', J.yld i H x H' → H' = H) (Pv : Nat → Hp → Prop) (hS : ∀ i H, Pv i H → H D ≠ none ∧ (∀ i, n ≤ i → J.stop i H) ∧ (∀ i, i < n → J.go i H) ∧ ∀ i x, i < n → J.yld i H x H → x = item i)
    (h0 : Pv 0 H2)
    (hs : ∀ i H, i < n → Pv i H → g (item i) (wipe σ vs) H fun σ2 H2 => wipe σ2 vs = wipe σ vs ∧ tt σ2 H2 fun b H3 =>
      if b = true then te σ2 H3 fun y H4 => ∃ acc, H4 D = some (.lst acc) ∧ acc.length < sizeLine ∧ Pv (i + 1) (upd H4 D (.lst (acc ++ [y]))) else Pv (i + 1) H3) (hd : ∀ H, Pv n H → Q (.ref D) H) :
    compOnG D J g tt te vs σ Q H2 := by
  refine ⟨hD, hp, fun i m H => m = n - i ∧ i ≤ n ∧ Pv i H, ⟨n, by simp, Nat.zero_le _, h0⟩, ?_⟩
  rintro i m H ⟨rfl, hi, p⟩
  obtain ⟨z, s1, s2, s3⟩ := hS i H p
  refine ⟨z, ?_⟩
  by_cases hlt : i < n
  · refine .inr ⟨s2 i hlt, Pv (i + 1), fun H' p' => ⟨n - (i + 1), by omega, rfl, hlt, p'⟩, fun x y => ?_⟩
    rw [s3 i x hlt y]
    exact hs i H hlt p
  · have e : i = n := by omega
    subst e
    exact .inl ⟨s1 i (Nat.le_refl _), hd H p⟩
/-- list of a generator, n items -/
theorem listG {J : It} {n : Nat} {item : Nat → V} {H2 : Hp} {Q : VK} {D : Addr} (hn : n < sizeLine) (hD : H2 D = some (.lst [])) (hp : ∀ i H x H', J.yld i H x H' → H' = H)
    (hS : ∀ xs, (∀ i, n ≤ i → J.stop i (upd H2 D (.lst xs))) ∧ (∀ i, i < n → J.go i (upd H2 D (.lst xs))) ∧ ∀ i x, i < n → J.yld i (upd H2 D (.lst xs)) x (upd H2 D (.lst xs)) → x = item i)
    (hd : Q (.ref D) (upd H2 D (.lst ((List.range n).map item)))) : listOnG D J Q H2 := by
  have e0 : upd H2 D (.lst []) = H2 := by
    funext b
    by_cases q : b = D
    · rw [q, upd_same, hD]
    · rw [upd_ne q]
  refine ⟨hD, hp, fun i m H => m = n - i ∧ i ≤ n ∧ H = upd H2 D (.lst ((List.range i).map item)), ⟨n, by simp, Nat.zero_le _, by show H2 = upd H2 D (.lst []); rw [e0]⟩, ?_⟩
  rintro i m H ⟨rfl, hi, rfl⟩
  obtain ⟨s1, s2, s3⟩ := hS ((List.range i).map item)
  by_cases hlt : i < n
  · refine .inr ⟨s2 i hlt, fun H' => H' = upd H2 D (.lst ((List.range (i + 1)).map item)), fun H' p' => ⟨n - (i + 1), by omega, rfl, hlt, p'⟩, fun x y => ?_⟩
    rw [s3 i x hlt y]
    refine ⟨_, upd_same, by rw [List.length_map, List.length_range]; omega, ?_⟩
    rw [upd_upd, List.range_succ, List.map_append]
    rfl
  · have e : i = n := by omega
    subst e
    exact .inl ⟨s1 i (Nat.le_refl _), hd⟩
theorem listGR {lo : Int} {n : Nat} {H2 : Hp} {Q : VK} {D : Addr} (hn : n < sizeLine) (hD : H2 D = some (.lst [])) (hd : Q (.ref D) (upd H2 D (.lst ((List.range n).map fun i : Nat => V.int (lo + (i : Int)))))) : listOnG D (Itr lo n) Q H2 :=
  listG hn hD pure_r (fun xs => ⟨fun _ h => h, fun _ h => h, fun i x _ y => y.2⟩) hd
end GF
namespace Z
open PySem PySem.Spec PyProof.Rows L2
/-! ### own operators: ==, &, in, len, repr -/
def isBl (Q : Bool → Hp → Prop) : VK := fun v H => match v with
  | .bl b => Q b H
  | _ => False
/-- x == y where x is an instance of a class with its own == -/
def yEqO (K : PySem.W.Frag) (C : Addr) (sp : Sp) : R2 := fun x y H Q => match x with
  | .ref a => (match H a with
    | some (.ins C' _ _) => C' = C ∧ tyAt K H y fun t => PySem.W.notFirst K C t = true ∧ sp [.ref a, y] H (isBl fun b H' => Q (.bl b) H') C8.E0
    | _ => yEq K x y H Q)
  | _ => yEq K x y H Q
def yAndO (C : Addr) (sp : Sp) : R2 := fun x y H Q => insAt H x fun a C1 _ _ => insAt H y fun b C2 _ _ => (C1 = C ∧ C2 = C) ∧ sp [x, y] H Q C8.E0
def yInO (K : PySem.W.Frag) (C : Addr) (sp : Sp) (neg : Bool) : R2 := fun x y H Q => match y with
  | .ref a => (match H a with
    | some (.ins C' _ _) => C' = C ∧ sp [.ref a, x] H (isBl fun b H' => Q (.bl (if neg then !b else b)) H') C8.E0
    | _ => yIn K neg x y H Q)
  | _ => yIn K neg x y H Q
def yLenO (K : PySem.W.Frag) (C : Addr) (sp : Sp) : List V → Hp → VK → Prop := fun vs H Q => match vs with
  | [.ref a] => (match H a with
    | some (.ins C' _ _) => C' = C ∧ sp [.ref a] H (fun v H' => Z.intAt v fun n => (0 ≤ n ∧ n < 2 ^ 63) ∧ Q (.int n) H') C8.E0
    | _ => yLen K vs H Q)
  | _ => yLen K vs H Q
def strAt (v : V) (R : Str → Prop) : Prop := match v with
  | .str n => R n
  | _ => False
def yReprO (C : Addr) (sp : Sp) : List V → Hp → VK → Prop := fun vs H Q => match vs with
  | [x] => insAt H x fun a C' _ _ => C' = C ∧ sp [x] H (fun v H' => strAt v fun n => Q (.str n) H') C8.E0
  | _ => False
section
variable {X : Cx} {k j : Nat} {C : Addr} {sp : Sp}
abbrev X1 (X : Cx) : Cx := { X with A := X.A.in1 }
theorem inv_1 {pins : List (Addr × Obj)} {σ : L2.St} {H : Hp} {s : Shared} (I : Inv X pins σ H s) : Inv (X1 X) pins σ H s := by
  obtain ⟨ok, os, bare, base, loc, cell, free, freeC, pin, hok, len⟩ := I
  exact ⟨⟨ok.mod, ok.kind, ok.glob, ok.blt, ok.above, ok.inj, ok.has, ok.cab, fun h => ok.hd h, ok.frames, ok.stk, ok.exf, ok.bs, ok.bsz, ok.noex, ok.exfs, ok.funs, ok.frf⟩, os, bare, base, loc, cell, free, freeC, pin, hok, len⟩
theorem inv_0 (ok0 : X.Ok) {pins : List (Addr × Obj)} {σ : L2.St} {H : Hp} {s : Shared} (I : Inv (X1 X) pins σ H s) : Inv X pins σ H s := by
  obtain ⟨ok, os, bare, base, loc, cell, free, freeC, pin, hok, len⟩ := I
  exact ⟨ok0, os, bare, base, loc, cell, free, freeC, pin, hok, len⟩
theorem inst_at {pins : List (Addr × Obj)} {σ : L2.St} {H : Hp} {s : Shared} {a dx : Addr} {fs : List (Str × V)} (I : Inv X pins σ H s) (e : H a = some (.ins C dx fs)) : ∃ ox od, PySem.W.InstAt s.heap a ox C od := by
  obtain ⟨mA, J, _⟩ := ins_get I.hok e
  obtain ⟨od, J, _⟩ := J.look
  exact ⟨_, _, J⟩
theorem o_eqO (c : C8.Met X.prog X.w X.K X.mg X.base k C "__eq__" sp []) (hr : Room j X.A) (hk : k ≤ j) : OpR X (compareOp .Eq) (yEqO X.K C sp) := by
  intro pins s σ H x y v u Q I rx ry q
  unfold yEqO at q
  split at q
  · rename_i a
    split at q
    · rename_i C' dx fs ha
      obtain ⟨rfl, q⟩ := q
      obtain ⟨t, ty, nf, q⟩ := tyAt_ok q
      obtain ⟨f, fd, ps, ds, cl, me, F, b, hd⟩ := c
      obtain ⟨ox, od, J⟩ := inst_at I ha
      obtain ⟨P, Z, p, _⟩ := kit_of I ry ty
      obtain ⟨m, hF⟩ := I.fr
      cases rx
      show wpAny (model X.prog X.w) X.A (richCompare .Eq (.ref a) u) (EP X pins σ Q) X.xe s
      refine PySem.W.cmp_K (op := .Eq) (tb := t) hr.units0 hF I.ok.mod.kin J (Z.ty _ _ I.kIn p) nf me.at_ me.fn ?_
      refine thn (run_fn (us := [.ref a, u]) (vs := [.ref a, y]) F (hr.mono hk) b hd C8.pass0 I (.cons rfl (.cons ry .nil)) q) fun r s' ⟨z, H', I', rz, qz⟩ => ?_
      unfold isBl at qz
      split at qz
      · cases rz
        exact ⟨.bl _, H', I', rfl, qz⟩
      · exact qz.elim
    · exact o_eq hr.units pins s σ H _ y v u Q I rx ry q
  · exact o_eq hr.units pins s σ H x y v u Q I rx ry q
theorem o_andO (c : C8.Met X.prog X.w X.K X.mg X.base k C "__and__" sp []) (sf : PySem.W.selfFirst X.K C = true) (hr : Room j X.A) (hk : k ≤ j) : OpR X (binaryOp .BitAnd) (yAndO C sp) := by
  intro pins s σ H x y v u Q I rx ry q
  obtain ⟨a, C1, dx, fs, rfl, ha, q1⟩ := insAt_ok q
  obtain ⟨b, C2, dy, gs, rfl, hb, ⟨e1, e2⟩, q2⟩ := insAt_ok q1
  subst e1 e2
  obtain ⟨f, fd, ps, ds, cl, me, F, bb, hd⟩ := c
  obtain ⟨ox, od, J⟩ := inst_at I ha
  obtain ⟨oy, od', J'⟩ := inst_at I hb
  obtain ⟨m, hF⟩ := I.fr
  cases rx
  cases ry
  refine PySem.W.binop_K (op := .BitAnd) hF I.ok.mod.kin J J'.type sf me.at_ me.fn ?_
  refine thn (run_fn (us := [.ref a, .ref b]) (vs := [.ref a, .ref b]) F (hr.mono hk) bb hd C8.pass0 I (.cons rfl (.cons rfl .nil)) q2) fun r s' ⟨z, H', I', rz, qz⟩ => ?_
  cases r <;> first | exact ⟨z, H', I', rz, qz⟩ | (cases z <;> simp [L2.RelV] at rz)
theorem o_inO (c : C8.Met X.prog X.w X.K X.mg X.base k C "__contains__" sp []) (hr : Room j X.A) (hk : k ≤ j) (hu : X.A.units + 1 < cLine) : OpR X (compareOp .In) (yInO X.K C sp false) := by
  intro pins s σ H x y v u Q I rx ry q
  unfold yInO at q
  split at q
  · rename_i a
    split at q
    · rename_i C' dx fs ha
      obtain ⟨rfl, q⟩ := q
      obtain ⟨f, fd, ps, ds, cl, me, F, b, hd⟩ := c
      obtain ⟨ox, od, J⟩ := inst_at I ha
      obtain ⟨m, hF⟩ := I.fr
      cases ry
      refine PySem.W.in_K hF I.ok.mod.kin J me.at_ me.fn ?_
      refine thn (run_fn (us := [.ref a, v]) (vs := [.ref a, x]) F (hr.mono hk) b hd C8.pass0 I (.cons rfl (.cons rx .nil)) q) fun r s' ⟨z, H', I', rz, qz⟩ => ?_
      unfold isBl at qz
      split at qz
      · cases rz
        exact wpAny_truthy_bool ⟨.bl _, H', I', rfl, qz⟩
      · exact qz.elim
    · exact o_in hu pins s σ H _ _ v u Q I rx ry q
  · exact o_in hu pins s σ H x y v u Q I rx ry q
theorem o_notinO (c : C8.Met X.prog X.w X.K X.mg X.base k C "__contains__" sp []) (hr : Room j X.A) (hk : k ≤ j) (hu : X.A.units + 1 < cLine) : OpR X (compareOp .NotIn) (yInO X.K C sp true) := by
  intro pins s σ H x y v u Q I rx ry q
  unfold yInO at q
  split at q
  · rename_i a
    split at q
    · rename_i C' dx fs ha
      obtain ⟨rfl, q⟩ := q
      obtain ⟨f, fd, ps, ds, cl, me, F, b, hd⟩ := c
      obtain ⟨ox, od, J⟩ := inst_at I ha
      obtain ⟨m, hF⟩ := I.fr
      cases ry
      refine PySem.W.notIn_K hF I.ok.mod.kin J me.at_ me.fn ?_
      refine thn (run_fn (us := [.ref a, v]) (vs := [.ref a, x]) F (hr.mono hk) b hd C8.pass0 I (.cons rfl (.cons rx .nil)) q) fun r s' ⟨z, H', I', rz, qz⟩ => ?_
      unfold isBl at qz
      split at qz
      · cases rz
        exact wpAny_truthy_bool ⟨.bl _, H', I', rfl, qz⟩
      · exact qz.elim
    · exact o_notin hu pins s σ H _ _ v u Q I rx ry q
  · exact o_notin hu pins s σ H x y v u Q I rx ry q
theorem c_lenO (c : C8.Met X.prog X.w X.K X.mg X.base k C "__len__" sp []) (hr : Room j X.A) (hk : k + 1 ≤ j) : CallR X (.builtin "len") (yLenO X.K C sp) := by
  intro pins s σ H xs us Q I r q
  unfold yLenO at q
  split at q
  · rename_i a
    split at q
    · rename_i C' dx fs ha
      obtain ⟨rfl, q⟩ := q
      obtain ⟨f, fd, ps, ds, cl, me, F, b, hd⟩ := c
      obtain ⟨ox, od, J⟩ := inst_at I ha
      obtain ⟨m, hF⟩ := I.fr
      have r' := r
      cases r with
      | cons r1 r2 =>
        cases r2
        cases r1
        refine PySem.W.len_K hF I.ok.mod.kin J me.at_ me.fn ?_
        refine thn (run_fn (X := X1 X) (us := [.ref a]) (vs := [.ref a]) F (show Room k X.A.in1 from (hr.mono hk).in1) b hd C8.pass0 (inv_1 I) r' q) fun z s' ⟨w, H', I', rw', qw⟩ => ?_
        obtain ⟨n, rfl, ⟨h0, h1⟩, qn⟩ := intAt_ok qw
        obtain ⟨t, rfl⟩ := rw'
        exact ⟨⟨h0, h1⟩, .int n, H', (inv_0 I.ok I').tok _, ⟨_, rfl⟩, qn⟩
    · exact c_len pins s σ H _ us Q I r q
  · exact c_len pins s σ H _ us Q I r q
theorem c_reprO (c : C8.Met X.prog X.w X.K X.mg X.base k C "__repr__" sp []) (hr : Room j X.A) (hk : k + 1 ≤ j) : CallR X (.builtin "repr") (yReprO C sp) := by
  intro pins s σ H xs us Q I r q
  unfold yReprO at q
  split at q
  · obtain ⟨a, C', dx, fs, rfl, ha, e1, q1⟩ := insAt_ok q
    subst e1
    obtain ⟨f, fd, ps, ds, cl, me, F, b, hd⟩ := c
    obtain ⟨ox, od, J⟩ := inst_at I ha
    obtain ⟨m, hF⟩ := I.fr
    have r' := r
    cases r with
    | cons r1 r2 =>
      cases r2
      cases r1
      have hr1 : Room k X.A.in1 := (hr.mono hk).in1
      refine PySem.W.repr_K hr1.units0 hF I.ok.mod.kin J me.at_ me.fn ?_
      refine thn (run_fn (X := X1 X) (us := [.ref a]) (vs := [.ref a]) F hr1 b hd C8.pass0 (inv_1 I) r' q1) fun z s' ⟨w, H', I', rw', qw⟩ => ?_
      have qw' : strAt w fun n => Q (.str n) H' := qw
      unfold strAt at qw'
      split at qw'
      · rename_i n
        obtain ⟨t, rfl⟩ := rw'
        exact ⟨.str n, H', inv_0 I.ok I', ⟨_, rfl⟩, qw'⟩
      · exact qw'.elim
  · exact q.elim
end
end Z
namespace Z
open PySem PySem.Spec PyProof.Rows L2
/-! ### == inside lists, by own == -/
abbrev EqRel := V → V → Hp → Bool → Prop
def EqD (X : Cx) (n : Nat) (D : EqRel) : Prop := ∀ (A : Around) (pins : List (Addr × Obj)) (s : Shared) (σ : L2.St) (H : Hp) (x y : V) (u v : Value) (b : Bool), L2.Sub X n A → Inv X pins σ H s → L2.RelV x u → L2.RelV y v → D x y H b →
  wpAny (model X.prog X.w) A (eqBool u v) (fun r s' => r = b ∧ Inv X pins σ H s') X.xe s
/-- x an instance of C with its own == -/
def DOwn (K : PySem.W.Frag) (C : Addr) (sp : Sp) : EqRel := fun x y H b => ∃ a dx fs, x = .ref a ∧ H a = some (.ins C dx fs) ∧ (y = .ref a → b = true) ∧ (y ≠ .ref a → ∃ t, TyX K H y t ∧ PySem.W.notFirst K C t = true ∧ sp [.ref a, y] H (fun v H' => v = .bl b ∧ H' = H) C8.E0)
section
variable {X : Cx} {n k j : Nat} {D : EqRel} {C : Addr} {sp : Sp}
theorem eqBool_ref {A : Around} {a : Addr} {v : Value} {Q : Bool → Shared → Prop} {E : Value → Shared → Prop} {s : Shared} {P : Program} {w : World} (hne : v ≠ .ref a) (h : wpAny (model P w) A (richCompare .Eq (.ref a) v) (fun v s' => ∃ r, v = .bool r ∧ Q r s') E s) : wpAny (model P w) A (eqBool (.ref a) v) Q E s := by
  unfold eqBool
  refine wpAny_holding ?_
  refine wpAny_ite_split (fun hab => absurd (eq_of_beq hab).symm hne) (fun _ => ?_)
  refine wpAny_bind (wpAny_mono h (fun v s' hv => ?_) fun _ _ x => x)
  obtain ⟨r, rfl, q⟩ := hv
  exact wpAny_truthy_bool q
theorem eqD_own (c : C8.Met X.prog X.w X.K X.mg X.base k C "__eq__" sp []) : EqD X k (DOwn X.K C sp) := by
  intro A pins s σ H x y u v b sb I rx ry d
  obtain ⟨a, dx, fs, rfl, ha, d1, d2⟩ := d
  cases rx
  by_cases hy : y = .ref a
  · subst hy
    cases ry
    rw [d1 rfl]
    exact SeqAt.EqAt.same (A := A) (s := s) (.ref a) X.prog X.w X.xe _ ⟨rfl, I⟩
  · have hv : v ≠ .ref a := fun e => hy (by
      subst e
      cases y with
      | ref b => have := (show (Value.ref a) = .ref b from ry); injection this with this; rw [this]
      | non => cases (show (Value.ref a) = .none from ry)
      | bl b => cases (show (Value.ref a) = .bool b from ry)
      | int i => obtain ⟨t, e⟩ := (show ∃ t, (Value.ref a) = .int i t from ry); cases e
      | str i => obtain ⟨t, e⟩ := (show ∃ t, (Value.ref a) = .str i t from ry); cases e
      | byt i => obtain ⟨t, e⟩ := (show ∃ t, (Value.ref a) = .bytes i t from ry); cases e
      | flt i => obtain ⟨t, e⟩ := (show ∃ t, (Value.ref a) = .float i t from ry); cases e
      | ty i => cases (show (Value.ref a) = .type i from ry))
    obtain ⟨t, ty, nf, q⟩ := d2 hy
    obtain ⟨f, fd, ps, ds, cl, me, F, bb, hd⟩ := c
    obtain ⟨ox, od, J⟩ := inst_at I ha
    obtain ⟨P, Z, p, _⟩ := kit_of I ry ty
    obtain ⟨m, hF⟩ := I.fr
    refine eqBool_ref hv ?_
    refine PySem.W.cmp_K (op := .Eq) (tb := t) sb.room.units0 hF I.ok.mod.kin J (Z.ty _ _ I.kIn p) nf me.at_ me.fn ?_
    have IA : Inv { X with A := A } pins σ H s := by
      obtain ⟨ok, os, bare, base, loc, cell, free, freeC, pin, hok, len⟩ := I
      exact ⟨⟨ok.mod, ok.kind, ok.glob, ok.blt, ok.above, ok.inj, ok.has, ok.cab, fun h => sb.room.hd, by rw [sb.fr]; exact ok.frames, ok.stk, ok.exf, ok.bs, ok.bsz, ok.noex, ok.exfs, ok.funs, ok.frf⟩, os, bare, base, loc, cell, free, freeC, pin, hok, len⟩
    refine thn (run_fn (X := { X with A := A }) (us := [.ref a, v]) (vs := [.ref a, y]) F sb.room bb hd C8.pass0 IA (.cons rfl (.cons ry .nil)) q) fun r s' ⟨z, H', I', rz, ez, eH⟩ => ?_
    subst ez eH
    cases rz
    refine ⟨b, rfl, rfl, ?_⟩
    obtain ⟨ok, os, bare, base, loc, cell, free, freeC, pin, hok, len⟩ := I'
    exact ⟨I.ok, os, bare, base, loc, cell, free, freeC, pin, hok, len⟩
theorem eqD_flat : EqD X 0 (fun x y _ b => flatV x = true ∧ flatV y = true ∧ eqV x y = b) := by
  intro A pins s σ H x y u v b sb I rx ry d
  obtain ⟨fx, fy, e⟩ := d
  have q := eqAt_V (A := A) (s := s) rx ry fx fy
  rw [e] at q
  exact q X.prog X.w X.xe _ ⟨rfl, I⟩
theorem EqD.or {D' : EqRel} (h : EqD X n D) (h' : EqD X j D') : EqD X (max n j) (fun x y H b => D x y H b ∨ D' x y H b) := fun A pins s σ H x y u v b sb I rx ry d => d.elim (h A pins s σ H x y u v b (sb.mono (Nat.le_max_left _ _)) I rx ry) (h' A pins s σ H x y u v b (sb.mono (Nat.le_max_right _ _)) I rx ry)
/-- x in a list, by such == -/
def yInL (K : PySem.W.Frag) (D : EqRel) (neg : Bool) : R2 := fun x y H Q => ∃ p xs e, y = .ref p ∧ SqL K H p xs ∧ (∀ z ∈ xs, D z x H (e z)) ∧ Q (.bl (if neg then !(xs.any e) else xs.any e)) H
theorem contains_D {A : Around} {pins : List (Addr × Obj)} {σ : L2.St} {H : Hp} {s : Shared} {p : Addr} {xs : List V} {x : V} {v : Value} {e : V → Bool} {R : Result → Shared → Prop} (h : EqD X n D) (sb : L2.Sub X n A.in1) (rx : L2.RelV x v) (hp : SqL X.K H p xs) (hd : ∀ z ∈ xs, D z x H (e z)) (hE : ∀ y s', X.xe y s' → R (.error y) s')
    (k : Nat) : ∀ i s, xs.length - i = k → Inv X pins σ H s → (∀ s', Inv X pins σ H s' → R (.ok (.ret (.bool ((xs.drop i).any e)))) s') → wpAny (model X.prog X.w) A.in1 (Builtin.«list.__contains__.loop» ⟨[.ref p, v, rawInt i], []⟩) (GQ.FinOf X.prog X.w A R) (fun y s' => R (.error y) s') s := by
  induction k with
  | zero =>
    intro i s hk I q
    obtain ⟨its, r, pl, hz⟩ := I.list hp
    obtain ⟨⟨cls, dd, data, sl⟩, ho, hc, n0, hd0⟩ := id pl.isList
    simp only at hc hd0
    subst hc hd0
    have hi : its.toArray[((i : Nat) : Int).toNat]? = none := by simp; have := r.length; omega
    have q' := q s I
    have hdr : xs.drop i = [] := by simp; omega
    rw [hdr] at q'
    obtain ⟨hp', g, d, tk, os⟩ := s
    wp_walk using AutoSeq1.wpAny_loadPart' ho
    rw [hi]
    wp_walk
    exact q'
  | succ k ih =>
    intro i s hk I q
    obtain ⟨its, r, pl, hz⟩ := I.list hp
    obtain ⟨⟨cls, dd, data, sl⟩, ho, hc, n0, hd0⟩ := id pl.isList
    simp only at hc hd0
    subst hc hd0
    have hl := r.length
    have hlt : i < its.length := by omega
    have hlt' : i < xs.length := by omega
    have hi : its.toArray[((i : Nat) : Int).toNat]? = some its[i] := by simp [hlt]
    obtain ⟨w', ew, rw'⟩ := r.get (List.getElem?_eq_getElem hlt')
    rw [List.getElem?_eq_getElem hlt] at ew
    cases ew
    have hdr : xs.drop i = xs[i] :: xs.drop (i + 1) := List.drop_eq_getElem_cons hlt'
    rw [hdr, List.any_cons] at q
    have he := h A.in1 pins s σ H xs[i] x its[i] v (e xs[i]) sb I rw' rx (hd _ (List.getElem_mem hlt'))
    obtain ⟨hp', g, d, tk, os⟩ := s
    wp_walk using AutoSeq1.wpAny_loadPart' ho
    rw [hi]
    refine wpAny_bind (wpAny_mono he (fun b s2 ⟨eb, I2⟩ => ?_) hE)
    subst eb
    cases hb : e xs[i] with
    | true =>
      rw [hb] at q
      have q' := q s2 I2
      obtain ⟨hp2, g2, d2, tk2, os2⟩ := s2
      wp_walk
      exact q'
    | false =>
      rw [hb] at q
      have hrec := ih (i + 1) s2 (by omega) I2 (by simpa using q)
      have hc : ((i : Int) + 1) = ((i + 1 : Nat) : Int) := by push_cast; rfl
      obtain ⟨hp2, g2, d2, tk2, os2⟩ := s2
      wp_walk
      rw [hc]
      exact ⟨plainId_quiet MeetsSeq.plain_contains_loop _, codeAny_builtin MeetsSeq.entry_contains_loop (by
        rw [Around.under_plainId MeetsSeq.plain_contains_loop _]
        exact hrec)⟩
theorem has_D {A : Around} {pins : List (Addr × Obj)} {σ : L2.St} {H : Hp} {s : Shared} {p : Addr} {xs : List V} {x : V} {v : Value} {e : V → Bool} {Q : Bool → Shared → Prop} (h : EqD X n D) (sb : L2.Sub X n A.in1) (I : Inv X pins σ H s) (rx : L2.RelV x v) (hp : SqL X.K H p xs) (hd : ∀ z ∈ xs, D z x H (e z)) (q : ∀ s', Inv X pins σ H s' → Q (xs.any e) s') :
    wpAny (model X.prog X.w) A (contains (.ref p) v) Q X.xe s := by
  obtain ⟨its, r, pl, hz⟩ := I.list hp
  obtain ⟨⟨cls, dd, data, sl⟩, ho, hc, n0, hd0⟩ := id pl.isList
  simp only at hc hd0
  subst hc hd0
  refine wpAny_contains_slot ⟨_, ho, rfl⟩ F.slot_list_contains (wpAny_mono (GQ.call_here (Q := fun v s' => ∃ b, v = .bool b ∧ Q b s') F.slot_list_contains ⟨_, ho, rfl⟩ F.entry_list_contains (F.args_list_contains_2 _ _) ?_) (fun v s' hv => ?_) fun _ _ e => e)
  · have lp := contains_D (A := A) (s := s) (R := wants (fun v s' => ∃ b, v = .bool b ∧ Q b s') X.xe) h sb rx hp hd (fun y s' z => z) xs.length 0 s (by omega) I (fun s' I' => ⟨_, rfl, by simpa using q s' I'⟩)
    obtain ⟨hp', g, d, tk, os⟩ := s
    wp_walk using AutoSeq1.wpAny_loadPart' ho
    exact ⟨plainId_quiet MeetsSeq.plain_contains_loop _, codeAny_builtin MeetsSeq.entry_contains_loop (by
      rw [Around.under_plainId MeetsSeq.plain_contains_loop _]
      exact lp)⟩
  · obtain ⟨b, rfl, hq⟩ := hv
    exact wpAny_truthy_bool hq
theorem o_inL (h : EqD X n D) (hr : Room (n + 1) X.A) : OpR X (compareOp .In) (yInL X.K D false) := by
  intro pins s σ H x y v u Q I rx ry q
  obtain ⟨p, xs, e, rfl, hp, hd, q⟩ := q
  cases ry
  show wpAny _ X.A (do return Value.bool (← contains (.ref p) v)) _ _ s
  exact wpAny_bind (has_D h ⟨hr.in1, rfl⟩ I rx hp hd fun s' I' => wpAny_pure ⟨.bl _, H, I', rfl, q⟩)
theorem o_notinL (h : EqD X n D) (hr : Room (n + 1) X.A) : OpR X (compareOp .NotIn) (yInL X.K D true) := by
  intro pins s σ H x y v u Q I rx ry q
  obtain ⟨p, xs, e, rfl, hp, hd, q⟩ := q
  cases ry
  show wpAny _ X.A (do return Value.bool (!(← contains (.ref p) v))) _ _ s
  exact wpAny_bind (has_D h ⟨hr.in1, rfl⟩ I rx hp hd fun s' I' => wpAny_pure ⟨.bl _, H, I', rfl, q⟩)
/-- lists, one of which is empty -/
def yEq0 (K : PySem.W.Frag) : R2 := fun x y H Q => match x, y with
  | .ref p, .ref r => (match H p, H r with
    | some (.lst xs), some (.lst ys) => (xs = [] ∨ ys = []) ∧ Q (.bl (decide (xs.length = ys.length))) H
    | _, _ => False)
  | _, _ => False
def yNe0 (K : PySem.W.Frag) : R2 := fun x y H Q => match x, y with
  | .ref p, .ref r => (match H p, H r with
    | some (.lst xs), some (.lst ys) => (xs = [] ∨ ys = []) ∧ Q (.bl (!decide (xs.length = ys.length))) H
    | _, _ => False)
  | _, _ => False
theorem o_eq0 (hu : X.A.units < cLine) : OpR X (compareOp .Eq) (yEq0 X.K) := by
  intro pins s σ H x y v u Q I rx ry q
  unfold yEq0 at q
  split at q
  · rename_i p r
    split at q
    · rename_i xs ys hp hr
      obtain ⟨q1, q⟩ := q
      cases rx
      cases ry
      obtain ⟨its, r1, pl, _⟩ := I.list (SqL.of (K := X.K) hp)
      obtain ⟨its2, r2, pl2, _⟩ := I.list (SqL.of (K := X.K) hr)
      have l1 := r1.length
      have l2 := r2.length
      show wpAny _ X.A (richCompare .Eq (.ref p) (.ref r)) _ _ s
      by_cases hl : xs.length = ys.length
      · have e0 : its.toArray.size = its2.toArray.size := by simp; omega
        have z0 : its.toArray.size = 0 := by
          rcases q1 with q1 | q1
          · rw [List.size_toArray, ← l1, q1]; rfl
          · rw [e0, List.size_toArray, ← l2, q1]; rfl
        rw [decide_eq_true hl] at q
        have z := SeqAt.RcAt.lists (A := X.A) (s := s) (e := fun _ => true) pl.isList pl2.isList e0 hu (fun j h1 _ => absurd h1 (by omega)) X.prog X.w X.xe (EP X pins σ Q)
        have e1 : (List.range its.toArray.size).all (fun _ => true) = true := by rw [z0]; rfl
        rw [e1] at z
        exact z ⟨.bl true, H, I, rfl, q⟩
      · rw [decide_eq_false hl] at q
        exact SeqAt.RcAt.lists_lengths (A := X.A) (s := s) pl.isList pl2.isList (by simp; omega) hu X.prog X.w X.xe _ ⟨.bl false, H, I, rfl, q⟩
    · exact q.elim
  · exact q.elim
theorem o_ne0 (hu : X.A.units < cLine) : OpR X (compareOp .NotEq) (yNe0 X.K) := by
  intro pins s σ H x y v u Q I rx ry q
  unfold yNe0 at q
  split at q
  · rename_i p r
    split at q
    · rename_i xs ys hp hr
      obtain ⟨q1, q⟩ := q
      cases rx
      cases ry
      obtain ⟨its, r1, pl, _⟩ := I.list (SqL.of (K := X.K) hp)
      obtain ⟨its2, r2, pl2, _⟩ := I.list (SqL.of (K := X.K) hr)
      have l1 := r1.length
      have l2 := r2.length
      show wpAny _ X.A (richCompare .NotEq (.ref p) (.ref r)) _ _ s
      by_cases hl : xs.length = ys.length
      · have e0 : its.toArray.size = its2.toArray.size := by simp; omega
        have z0 : its.toArray.size = 0 := by
          rcases q1 with q1 | q1
          · rw [List.size_toArray, ← l1, q1]; rfl
          · rw [e0, List.size_toArray, ← l2, q1]; rfl
        rw [decide_eq_true hl] at q
        have z := SeqAt.RcNeAt.lists (A := X.A) (s := s) (e := fun _ => true) pl.isList pl2.isList e0 hu (fun j h1 _ => absurd h1 (by omega)) X.prog X.w X.xe (EP X pins σ Q)
        have e1 : (!(List.range its.toArray.size).all (fun _ => true)) = false := by rw [z0]; rfl
        rw [e1] at z
        exact z ⟨.bl false, H, I, rfl, q⟩
      · rw [decide_eq_false hl] at q
        exact SeqAt.RcNeAt.lists_lengths (A := X.A) (s := s) pl.isList pl2.isList (by simp; omega) hu X.prog X.w X.xe _ ⟨.bl true, H, I, rfl, q⟩
    · exact q.elim
  · exact q.elim
/-! ### static methods, class methods, cls(..) -/
def SMet (K : PySem.W.Frag) (C : Addr) (m : Str) (g : Addr) : Prop := PySem.W.typeIn K (.ref C) = some (.type "type") ∧ ClX.CRead K C (.type "type") ∧ ∃ p rest, PySem.W.findCls K (.ref C) (.type "type") m = some (.get (.builtin "staticmethod.__get__") (.ref p) .none (.ref C)) ∧ PySem.W.recIn K p "staticmethod" = some (.ref g :: rest) ∧ PySem.W.handedIn (.ref g) = true
variable {x m : Str} {g f : Addr} {fd : FuncData} {ps : List Str} {E : XK} {CX : CXT} {e : Expr} {es : List Expr} {t : TA} {p pos apos : Pos}
theorem e_sm {pl : Sem Bool} (c : SMet X.K C m g) (F : ∃ fd, FnOk X.prog X.w X.K X.mg X.base C8.CX0 k g fd ps sp ∧ PySem.W.keepIn X.K (.ref g) = true ∧ L2.Binds X.K fd ps []) (hr : Room j X.A) (hk : k ≤ j) (hg : Gl X x) (hm : X.mg x = some (.ref C)) (ha : PA X (e :: es) t)
    (he : starEach (e :: es) X.env = (false, eval e X.env) :: starEach es X.env := by rfl) (hpl : (backTo pos (starEach es X.env)).any (·.1) = false := by rfl) (hdb : (x == ("__debug__" : Str)) = false := by decide)
    (ht : eval (.Call (.Attribute (.Name x p) m apos) (e :: es) [] pos) X.env = (do
      let ov ← eval (.Name x p) X.env
      standAt apos.atName
      let (f, first) ← holding [ov] (getMethod ov m pl)
      callWith pos f first (backTo pos (starEach (e :: es) X.env)) (backToKw pos (keywordEach [] X.env))) := by rfl) :
    PE X (.Call (.Attribute (.Name x p) m apos) (e :: es) [] pos) (tCall sp [] C8.E0 t) := by
  refine ⟨fun pins s σ H Q I h => ?_⟩
  obtain ⟨fd, F, kp, b⟩ := F
  obtain ⟨c0, c1, cp, rest, c2, c3, c4⟩ := c
  obtain ⟨mm, hF⟩ := I.fr
  rw [ht]
  refine wpAny_bind (ld_glob I hg hm ?_ hdb)
  refine wpAny_bind (wpAny_standAt (wpAny_bind (wpAny_holding ?_)))
  refine PySem.W.method_cls I.kIn c1.ga (PySem.W.cls_sm (L := X.env.locals) (m := mm) hF I.ok.mod.kin c0 c1.rd c2 c3 c4 ?_)
  have I1 := I.tok (s.toks + 1)
  refine PySem.W.callWith_K (first := []) (h₀ := X.base) I.ok.mod.kin kp (thn (ha.run pos pins _ σ H _ I1 h) fun us s2 ⟨vs, H2, I2, r, q2⟩ => ⟨I2.kIn, ?_⟩) he hpl
  exact run_fn (us := us) F (hr.mono hk) b .nil C8.pass0 I2 r q2
theorem e_cm {mc : Value} {q : Addr} {pl : Sem Bool} (hg : Gl X x) (hm : X.mg x = some (.ref C)) (r : ClX.CRead X.K C mc) (c : ClX.CMet X.K C mc m q g) (F : ∃ fd, FnOk X.prog X.w X.K X.mg X.base C8.CX0 k g fd ps sp ∧ PySem.W.keepIn X.K (.ref g) = true ∧ L2.Binds X.K fd ps []) (hr : Room j X.A) (hk : k ≤ j) (ha : PA X (e :: es) t)
    (he : starEach (e :: es) X.env = (false, eval e X.env) :: starEach es X.env := by rfl) (hpl : (backTo pos (starEach es X.env)).any (·.1) = false := by rfl) (hdb : (x == ("__debug__" : Str)) = false := by decide)
    (ht : eval (.Call (.Attribute (.Name x p) m apos) (e :: es) [] pos) X.env = (do
      let ov ← eval (.Name x p) X.env
      standAt apos.atName
      let (f, first) ← holding [ov] (getMethod ov m pl)
      callWith pos f first (backTo pos (starEach (e :: es) X.env)) (backToKw pos (keywordEach [] X.env))) := by rfl) :
    PE X (.Call (.Attribute (.Name x p) m apos) (e :: es) [] pos) (fun σ H Q => t σ H fun vs H2 => sp (.ref C :: vs) H2 Q C8.E0) := by
  refine ⟨fun pins s σ H Q I h => ?_⟩
  obtain ⟨fd, F, kp, b⟩ := F
  rw [ht]
  refine wpAny_bind (ld_glob I hg hm ?_ hdb)
  refine wpAny_bind (wpAny_standAt (wpAny_bind (wpAny_holding ?_)))
  refine ClX.getmethcm_ok I r c fun s2 I2 => ?_
  have hb : X.base.get? s.heap.objs.size = none := by
    cases z : X.base.get? s.heap.objs.size with
    | none => rfl
    | some o => exact absurd (Heap.lt_size (I.bs _ o z).1) (Nat.lt_irrefl _)
  refine ClX.callwith_cm I2 hb c.fi (thn (ha.run pos _ s2 σ H _ I2 h) fun us s3 ⟨vs, H2, I3, rv, q2⟩ => ⟨⟨ClX.pin_at I3, I3.kIn⟩, ?_⟩) he hpl
  exact ClX.run_cm (us := us) (vs := vs) (fnR_of F b) (hr.mono hk) C8.pass0 I3 rv q2
/-! ### ranges as lists -/
def zListR2 (ta tb : TE) : TE := fun σ H Q => ta σ H fun x H1 => tb σ H1 fun y H2 => Z.intAt x fun i => Z.intAt y fun j => RgOk i j ∧ ∀ q, H2 q = none → Q (.ref q) (upd H2 q (.lst (rgV i j)))
def zListR1 (ta : TE) : TE := fun σ H Q => ta σ H fun x H1 => Z.intAt x fun j => RgOk 0 j ∧ ∀ q, H1 q = none → Q (.ref q) (upd H1 q (.lst (rgV 0 j)))
theorem e_listR2 {a b : Expr} {ta tb : TE} {p2 pos2 : Pos} (hc : X.calm = true) (hl : Gl X "list") (hml : X.mg "list" = none) (hg : Gl X "range") (hm : X.mg "range" = none) (ha : PE X a ta) (hb : PE X b tb) (na : starEach [a, b] X.env = (false, eval a X.env) :: starEach [b] X.env := by rfl)
    (nb : starEach [b] X.env = (false, eval b X.env) :: starEach [] X.env := by rfl) (hp : (backTo pos2 (starEach [b] X.env)).any (·.1) = false := by rfl) (nc : starEach [.Call (.Name "range" p2) [a, b] [] pos2] X.env = (false, eval (.Call (.Name "range" p2) [a, b] [] pos2) X.env) :: starEach [] X.env := by rfl) :
    PE X (.Call (.Name "list" p) [.Call (.Name "range" p2) [a, b] [] pos2] [] pos) (zListR2 ta tb) :=
  pe_imp (pe_listRg hc hl hml (prg_2 hg hm (pe_up ha) (pe_up hb) na nb hp) nc) fun σ H Q q => ⟨_, fun x H1 q => ⟨_, fun y H2 q => by
    obtain ⟨i, ei, q5⟩ := intAt_ok q
    obtain ⟨j, ej, q6⟩ := intAt_ok q5
    subst ei ej
    exact ⟨i, j, rfl, rfl, q6⟩, q⟩, q⟩
theorem e_listR1 {a : Expr} {ta : TE} {p2 pos2 : Pos} (hc : X.calm = true) (hl : Gl X "list") (hml : X.mg "list" = none) (hg : Gl X "range") (hm : X.mg "range" = none) (ha : PE X a ta) (na : starEach [a] X.env = (false, eval a X.env) :: starEach [] X.env := by rfl)
    (nc : starEach [.Call (.Name "range" p2) [a] [] pos2] X.env = (false, eval (.Call (.Name "range" p2) [a] [] pos2) X.env) :: starEach [] X.env := by rfl) :
    PE X (.Call (.Name "list" p) [.Call (.Name "range" p2) [a] [] pos2] [] pos) (zListR1 ta) :=
  pe_imp (pe_listRg hc hl hml (prg_1 hg hm (pe_up ha) na) nc) fun σ H Q q => ⟨_, fun x H1 q => by
    obtain ⟨i, ei, q5⟩ := intAt_ok q
    subst ei
    exact ⟨i, rfl, q5⟩, q⟩
/-- range(a, b, c) walked -/
def iR3 (ta tb tc : TE) : TI := fun σ H R => ta σ H fun x H1 => tb σ H1 fun y H2 => tc σ H2 fun z H3 => Z.intAt x fun i => Z.intAt y fun j => Z.intAt z fun c => ∃ n, RgC i j c n ∧ R (Itc i c n) H3
theorem i_r3 {tg a b c : Expr} {ta tb tc : TE} {p2 pos2 : Pos} (hg : Gl X "range") (hm : X.mg "range" = none) (ha : PE X a ta) (hb : PE X b tb) (hc : PE X c tc) (h1 : starEach [a, b, c] X.env = (false, eval a X.env) :: starEach [b, c] X.env := by rfl) (h2 : starEach [b, c] X.env = (false, eval b X.env) :: starEach [c] X.env := by rfl) (h3 : starEach [c] X.env = (false, eval c X.env) :: starEach [] X.env := by rfl) (h4 : (backTo pos2 (starEach [b, c] X.env)).any (·.1) = false := by rfl) :
    PI X tg (.Call (.Name "range" p2) [a, b, c] [] pos2) (iR3 ta tb tc) :=
  pi_imp (pi_range3 hg hm (pa_cons (pe_up ha) (pa_cons (pe_up hb) (pa_cons (pe_up hc) pa_nil h3) h2) h1) h1 h4) fun σ H R q => ⟨_, fun x H1 q => ⟨_, fun y H2 q => ⟨_, fun z H3 q => by
    obtain ⟨i, ei, q5⟩ := intAt_ok q
    obtain ⟨j, ej, q6⟩ := intAt_ok q5
    obtain ⟨c, ec, n, q7⟩ := intAt_ok q6
    subst ei ej ec
    exact ⟨i, j, c, n, rfl, q7⟩, q⟩, q⟩, q⟩
def zCM (C : Addr) (sp : Sp) (t : TA) : TE := fun σ H Q => t σ H fun vs H2 => sp (.ref C :: vs) H2 Q C8.E0
/-- len(range(e)) -/
def zLenR1 (ta : TE) : TE := fun σ H Q => ta σ H fun x H1 => Z.intAt x fun n => (0 ≤ n ∧ n < 2 ^ 62) ∧ Q (.int n) H1
theorem e_lenR1 {a : Expr} {ta : TE} {p2 pos2 : Pos} (hl : Gl X "len") (hml : X.mg "len" = none) (hv : bootBuiltins "len" = some (.builtin "len")) (hg : Gl X "range") (hm : X.mg "range" = none) (ha : PE X a ta) (na : starEach [a] X.env = (false, eval a X.env) :: starEach [] X.env := by rfl)
    (nc : starEach [.Call (.Name "range" p2) [a] [] pos2] X.env = (false, eval (.Call (.Name "range" p2) [a] [] pos2) X.env) :: starEach [] X.env := by rfl) :
    PE X (.Call (.Name "len" p) [.Call (.Name "range" p2) [a] [] pos2] [] pos) (zLenR1 ta) := by
  refine ⟨fun pins s σ H Q I h => ?_⟩
  refine wpAny_Call_Name_kw (ld_blt I hl hml hv ?_)
  refine PyProof.Rows.callWith_builtin1 (args_cons (thn (prg_1 hg hm (pe_up ha) na pins s σ H (fun i j H1 => i = 0 ∧ (0 ≤ j ∧ j < 2 ^ 62) ∧ Q (.int j) H1) I ⟨_, fun x H1 q => by
    obtain ⟨n, en, q1, q2⟩ := intAt_ok q
    exact ⟨n, en, rfl, q1, q2⟩, h⟩) fun x s1 hx => args_nil ?_) nc) nc
  obtain ⟨r, i, j, t, u, v, H1, ex, hr, I1, e0, ⟨j0, j1⟩, q⟩ := hx
  subst ex e0
  refine call_len_range (n := (j - 0).toNat) hr (rangeSize_nat 0 j) (by omega) ?_
  have e1 : (((j - 0).toNat : Nat) : Int) = j := by omega
  rw [e1]
  exact ⟨.int j, H1, I1.tok _, ⟨_, rfl⟩, q⟩
def yInt1 : List V → Hp → VK → Prop := fun vs H Q => match vs with
  | [.int i] => Q (.int i) H
  | [.bl b] => Q (.int (if b then 1 else 0)) H
  | _ => False
theorem c_int1 : CallR X (.type "int") yInt1 := cr_imp call_int1 fun xs H Q q => by
  unfold yInt1 at q
  split at q
  · exact .inl ⟨_, rfl, q⟩
  · exact .inr ⟨_, rfl, q⟩
  · exact q.elim
/-- cls(..), cls a parameter that is the class -/
theorem e_mkV0 {i : Nat} {f : Addr} (M : Mk X.K C f) (F : ∃ fd, FnOk X.prog X.w X.K X.mg X.base C8.CX0 k f fd ps sp ∧ PySem.W.keepIn X.K (.ref f) = true ∧ L2.Binds X.K fd ps []) (hr : Room j X.A) (hk : k + 1 ≤ j) (hN : X.N[i]? = some x) (hv : Vis X.env.scope x) (ha : PA X (e :: es) t)
    (hd : (x == ("__debug__" : Str)) = false := by decide) (hcd : (x == ("__classdict__" : Str)) = false := by decide)
    (he : starEach (e :: es) X.env = (false, eval e X.env) :: starEach es X.env := by rfl) (hpl : (backTo pos (starEach es X.env)).any (·.1) = false := by rfl) :
    PE X (.Call (.Name x p) (e :: es) [] pos) (zMakeV i C sp C8.E0 t) := by
  obtain ⟨fd, F, kp, b⟩ := F
  exact e_makeV M F (hr.mono hk) b C8.pass0 hN hv ha hd hcd he hpl
end
end Z
namespace Hk
open PySem PySem.Spec PyProof.Rows L2
def smG (C m : Str) (K : PySem.W.Frag) : Addr := He5.wf K (He.ga K C) "staticmethod" m
def smB (C m : Str) : Fact := fun K => (PySem.W.typeIn K (.ref (He.ga K C)) == some (.type "type")) && (PySem.W.readsIn K (He.ga K C) (.type "type") && (He.eqO (PySem.W.specialIn K (.ref (He.ga K C)) "__getattribute__") (some (some (.builtin "type.__getattribute__"))) &&
  (He5.wrapB K (He.ga K C) "staticmethod" "staticmethod.__get__" m)))
theorem smB_ok {K : PySem.W.Frag} {C m : Str} (h : smB C m K = true) : Z.SMet K (He.ga K C) m (smG C m K) := by
  obtain ⟨h0, h⟩ := He.ba h
  obtain ⟨h1, h⟩ := He.ba h
  obtain ⟨h2, h3⟩ := He.ba h
  obtain ⟨q1, rest, q2⟩ := He5.wrapB_ok h3
  exact ⟨beq_iff_eq.mp h0, ⟨h1, He.eqO_ok h2⟩, _, rest, q1, q2, rfl⟩
/-- no built-in type is a subtype of C -/
def nfB (C : Str) (n : String) : Fact := fun K => PySem.W.notFirst K (He.ga K C) (.type n)
def sfB (C : Str) : Fact := fun K => PySem.W.selfFirst K (He.ga K C)
def kitBB (n : String) (C : Str) (b : Bool) : Fact := fun K => decide (PySem.W.kitOne K (.type n) (.ref (He.ga K C)) = some b)
theorem kitBB_ok {K : PySem.W.Frag} {n : String} {C : Str} {b : Bool} (h : kitBB n C b K = true) : PySem.W.kitOne K (.type n) (.ref (He.ga K C)) = some b := of_decide_eq_true h
end Hk
namespace Z
open PySem PySem.Spec PyProof.Rows L2
/-! ### comprehensions whose elements are told by a predicate -/
def Grow (D : Addr) (H H' : Hp) : Prop := ∀ b o, H b = some o → b ≠ D → H' b = some o
theorem Grow.gT {H H1 H2 : Hp} {b : Addr} (g : Grow b H H1) (g2 : Grow b H1 H2) : Grow b H H2 := fun c u e ne => g2 c u (g c u e ne) ne
theorem Grow.refl {D : Addr} {H : Hp} : Grow D H H := fun _ _ e _ => e
theorem Grow.same {D : Addr} {H H' H'' : Hp} (g : Grow D H H') (s : Same H' H'') : Grow D H H'' := fun b o e n => s b o (g b o e n)
theorem Grow.set {D : Addr} {H H' : Hp} {o : HO} (g : Grow D H H') : Grow D H (upd H' D o) := fun b u e n => by rw [upd_ne n]; exact g b u e n
theorem Grow.trans {D : Addr} {H H' H'' : Hp} (g : Grow D H H') (g' : Grow D H' H'') : Grow D H H'' := fun b o e n => g' b o (g b o e n) n
/-- P stands while the list at D grows -/
def Mon1 (P : Nat → V → Hp → Prop) : Prop := ∀ D xs i v H H', H D = some (.lst xs) → Grow D H H' → P i v H → P i v H'
theorem grow_at {D a : Addr} {H H' : Hp} {xs : List V} {o : HO} (hD : H D = some (.lst xs)) (g : Grow D H H') (ho : ∀ ys, o ≠ .lst ys) (h : H a = some o) : H' a = some o :=
  g a o h (fun e => by rw [e, hD] at h; exact ho xs (Option.some.inj h).symm)
/-- the elements so far -/
def Elts (P : Nat → V → Hp → Prop) (is : List Nat) (ws : List V) (H : Hp) : Prop := ws.length = is.length ∧ ∀ (j i : Nat) v, is[j]? = some i → ws[j]? = some v → P i v H
theorem Elts.mono {P : Nat → V → Hp → Prop} {is : List Nat} {ws xs : List V} {H H' : Hp} {D : Addr} (m : Mon1 P) (hD : H D = some (.lst xs)) (g : Grow D H H') (h : Elts P is ws H) : Elts P is ws H' := ⟨h.1, fun j i v h1 h2 => m D xs i v H H' hD g (h.2 j i v h1 h2)⟩
theorem Elts.snoc {P : Nat → V → Hp → Prop} {is : List Nat} {ws : List V} {H : Hp} {i : Nat} {v : V} (h : Elts P is ws H) (p : P i v H) : Elts P (is ++ [i]) (ws ++ [v]) H := by
  refine ⟨by rw [List.length_append, List.length_append, h.1]; rfl, fun j i' v' h1 h2 => ?_⟩
  by_cases hj : j < is.length
  · rw [List.getElem?_append_left hj] at h1
    rw [List.getElem?_append_left (by rw [h.1]; exact hj)] at h2
    exact h.2 j i' v' h1 h2
  · rw [List.getElem?_append_right (by omega)] at h1
    rw [List.getElem?_append_right (by rw [h.1]; omega)] at h2
    have e := (List.getElem?_eq_some_iff.mp h1).1
    have ej : j - is.length = 0 := by simp at e; omega
    rw [ej] at h1
    rw [h.1, ej] at h2
    simp at h1 h2
    subst h1 h2
    exact p
theorem Elts.nil {P : Nat → V → Hp → Prop} {H : Hp} : Elts P [] [] H := ⟨rfl, fun j i v h => by simp at h⟩
theorem keep_succ (keep : Nat → Bool) (i : Nat) : (List.range (i + 1)).filter keep = (List.range i).filter keep ++ (if keep i = true then [i] else []) := by
  rw [List.range_succ, List.filter_append]
  cases h : keep i <;> simp [h]
theorem keep_len (keep : Nat → Bool) (i : Nat) : ((List.range i).filter keep).length ≤ i := by
  have := List.length_filter_le keep (List.range i)
  rwa [List.length_range] at this
section
variable {J : It} {n j : Nat} {item : Nat → V} {tt : TT} {te : TE} {vs : List Nat} {σ : L2.St} {H1 : Hp} {Q : VK} {P : Nat → V → Hp → Prop} {keep : Nat → Bool}
theorem comp_objs (S : Steady J n item H1) (hn : n < sizeLine) (keep : Nat → Bool) (P : Nat → V → Hp → Prop) (mono : Mon1 P) (hw : ∀ x, wipe ((wipe σ vs).set j (some x)) vs = wipe σ vs)
    (ht : ∀ i H', i < n → Same H1 H' → ∀ Q' : Bool → Hp → Prop, (∀ H'', Same H' H'' → Q' (keep i) H'') → tt ((wipe σ vs).set j (some (item i))) H' Q')
    (he : ∀ i H', i < n → keep i = true → Same H1 H' → ∀ Q' : VK, (∀ v H'', Same H' H'' → P i v H'' → Q' v H'') → te ((wipe σ vs).set j (some (item i))) H' Q')
    (k : ∀ (D : Addr) (H' : Hp) (ws : List V), H1 D = none → Same H1 H' → H' D = some (.lst ws) → Elts P ((List.range n).filter keep) ws H' → Q (.ref D) H') : compOn J (gName j) tt te vs σ H1 Q := by
  refine comp_core S (fun D i H' => Same H1 H' ∧ ∃ ws, H' D = some (.lst ws) ∧ Elts P ((List.range i).filter keep) ws H') (fun D i H _ p => p.1) ?_ ?_ ?_
  · intro D hD
    exact ⟨fun b o e => by rw [upd_ne (ne_of_none e hD)]; exact e, [], upd_same, Elts.nil⟩
  · rintro D i H hD hi ⟨s, ws, hDl, hE⟩
    refine ⟨hw _, ?_⟩
    refine ht i H hi s _ fun H2 s2 => ?_
    have hD2 := s2 _ _ hDl
    have E2 := hE.mono mono hDl (Grow.refl.same s2)
    have sz := hE.1
    have kl := keep_len keep i
    cases hk : keep i with
    | false =>
      rw [if_neg Bool.false_ne_true]
      refine ⟨s.trans s2, ws, hD2, ?_⟩
      rw [keep_succ, hk, if_neg Bool.false_ne_true, List.append_nil]
      exact E2
    | true =>
      rw [if_pos rfl]
      refine he i H2 hi hk (s.trans s2) _ fun y H3 s3 p3 => ?_
      have hD3 := s3 _ _ hD2
      refine ⟨ws, hD3, by omega, fun b o e => ?_, ws ++ [y], upd_same, ?_⟩
      · rw [upd_ne (ne_of_none e hD)]
        exact s3 _ _ (s2 _ _ (s b o e))
      · rw [keep_succ, hk, if_pos rfl]
        have g4 : Grow D H3 (upd H3 D (.lst (ws ++ [y]))) := Grow.refl.set
        exact ((E2.mono mono hD2 (Grow.refl.same s3)).snoc p3).mono mono hD3 g4
  · rintro D H hD ⟨s, ws, hDl, hE⟩
    exact k D H ws hD s hDl hE
/-- all kept -/
theorem range_true (n : Nat) : (List.range n).filter (fun _ => true) = List.range n := List.filter_eq_self.mpr fun _ _ => rfl
theorem comp_all (S : Steady J n item H1) (hn : n < sizeLine) (P : Nat → V → Hp → Prop) (mono : Mon1 P) (hw : ∀ x, wipe ((wipe σ vs).set j (some x)) vs = wipe σ vs)
    (he : ∀ i H', i < n → Same H1 H' → ∀ Q' : VK, (∀ v H'', Same H' H'' → P i v H'' → Q' v H'') → te ((wipe σ vs).set j (some (item i))) H' Q')
    (k : ∀ (D : Addr) (H' : Hp) (ws : List V), H1 D = none → Same H1 H' → H' D = some (.lst ws) → Elts P (List.range n) ws H' → Q (.ref D) H') : compOn J (gName j) tYes te vs σ H1 Q :=
  comp_objs S hn (fun _ => true) P mono hw (fun i H' _ _ Q' q => q H' (fun _ _ e => e)) (fun i H' hi _ s Q' q => he i H' hi s Q' q) fun D H' ws h1 h2 h3 h4 => k D H' ws h1 h2 h3 (by rw [range_true] at h4; exact h4)
end
/-- over a generator that has begun: J is steady while what stood stands -/
def SteadyG (J : It) (n : Nat) (item : Nat → V) (D : Addr) (H2 : Hp) : Prop := (∀ i H x H', J.yld i H x H' → H' = H) ∧ ∀ H', Grow D H2 H' → (∀ i, n ≤ i → J.stop i H') ∧ (∀ i, i < n → J.go i H') ∧ ∀ i x, i < n → J.yld i H' x H' → x = item i
theorem steadyG_r {lo : Int} {n : Nat} {D : Addr} {H : Hp} : SteadyG (Itr lo n) n (fun i => .int (lo + i)) D H := ⟨GF.pure_r, fun H' _ => ⟨fun _ h => h, fun _ h => h, fun i x _ y => y.2⟩⟩
theorem steadyG_l {K : PySem.W.Frag} {a D : Addr} {xs : List V} {H : Hp} (h : H a = some (.lst xs)) (ne : a ≠ D) : SteadyG (Itl K a) xs.length (fun i => xs.getD i .non) D H := ⟨GF.pure_l, fun H' g => by
  have h' : SqL K H' a xs := SqL.of (g a _ h ne)
  refine ⟨fun i hi => ⟨xs, h', hi⟩, fun i hi => ⟨xs, xs[i], h', by simp [hi]⟩, fun i x hi y => ?_⟩
  obtain ⟨_, y⟩ := y
  have e2 := y xs h'
  show x = xs.getD i V.non
  rw [List.getD_eq_getElem?_getD, e2] <;> rfl⟩
section
variable {J : It} {n j : Nat} {item : Nat → V} {tt : TT} {te : TE} {vs : List Nat} {σ : L2.St} {H2 : Hp} {Q : VK} {D : Addr}
theorem compG_objs (S : SteadyG J n item D H2) (hn : n < sizeLine) (hD : H2 D = some (.lst [])) (keep : Nat → Bool) (P : Nat → V → Hp → Prop) (mono : Mon1 P) (hw : ∀ x, wipe ((wipe σ vs).set j (some x)) vs = wipe σ vs)
    (ht : ∀ i H', i < n → Grow D H2 H' → ∀ Q' : Bool → Hp → Prop, (∀ H'', Same H' H'' → Q' (keep i) H'') → tt ((wipe σ vs).set j (some (item i))) H' Q')
    (he : ∀ i H', i < n → keep i = true → Grow D H2 H' → ∀ Q' : VK, (∀ v H'', Same H' H'' → P i v H'' → Q' v H'') → te ((wipe σ vs).set j (some (item i))) H' Q')
    (k : ∀ (H' : Hp) (ws : List V), Grow D H2 H' → H' D = some (.lst ws) → Elts P ((List.range n).filter keep) ws H' → Q (.ref D) H') : GF.compOnG D J (gName j) tt te vs σ Q H2 := by
  refine GF.compG (item := item) (n := n) hD S.1 (fun i H' => Grow D H2 H' ∧ ∃ ws, H' D = some (.lst ws) ∧ Elts P ((List.range i).filter keep) ws H') (fun i H p => ?_) ⟨Grow.refl, [], hD, Elts.nil⟩ ?_ ?_
  · obtain ⟨g, ws, hDl, _⟩ := p
    obtain ⟨s1, s2, s3⟩ := S.2 H g
    exact ⟨(by rw [hDl]; intro z; cases z), s1, s2, s3⟩
  · rintro i H hi ⟨g, ws, hDl, hE⟩
    refine ⟨hw _, ?_⟩
    refine ht i H hi g _ fun H3 s3 => ?_
    have hD3 := s3 _ _ hDl
    have E3 := hE.mono mono hDl (Grow.refl.same s3)
    have sz := hE.1
    have kl := keep_len keep i
    cases hk : keep i with
    | false =>
      rw [if_neg Bool.false_ne_true]
      refine ⟨g.same s3, ws, hD3, ?_⟩
      rw [keep_succ, hk, if_neg Bool.false_ne_true, List.append_nil]
      exact E3
    | true =>
      rw [if_pos rfl]
      refine he i H3 hi hk (g.same s3) _ fun y H4 s4 p4 => ?_
      have hD4 := s4 _ _ hD3
      refine ⟨ws, hD4, by omega, ((g.same s3).same s4).set, ws ++ [y], upd_same, ?_⟩
      rw [keep_succ, hk, if_pos rfl]
      exact ((E3.mono mono hD3 (Grow.refl.same s4)).snoc p4).mono mono hD4 Grow.refl.set
  · rintro H ⟨g, ws, hDl, hE⟩
    exact k H ws g hDl hE
theorem compG_all (S : SteadyG J n item D H2) (hn : n < sizeLine) (hD : H2 D = some (.lst [])) (P : Nat → V → Hp → Prop) (mono : Mon1 P) (hw : ∀ x, wipe ((wipe σ vs).set j (some x)) vs = wipe σ vs)
    (he : ∀ i H', i < n → Grow D H2 H' → ∀ Q' : VK, (∀ v H'', Same H' H'' → P i v H'' → Q' v H'') → te ((wipe σ vs).set j (some (item i))) H' Q')
    (k : ∀ (H' : Hp) (ws : List V), Grow D H2 H' → H' D = some (.lst ws) → Elts P (List.range n) ws H' → Q (.ref D) H') : GF.compOnG D J (gName j) tYes te vs σ Q H2 :=
  compG_objs S hn hD (fun _ => true) P mono hw (fun i H' _ _ Q' q => q H' (fun _ _ e => e)) (fun i H' hi _ s Q' q => he i H' hi s Q' q) fun H' ws h2 h3 h4 => k H' ws h2 h3 (by rw [range_true] at h4; exact h4)
end
/-- values, told by a function -/
theorem elts_vals {f : Nat → V} {is : List Nat} {ws : List V} {H : Hp} (h : Elts (fun i v _ => v = f i) is ws H) : ws = is.map f := by
  refine List.ext_getElem? fun j => ?_
  rw [List.getElem?_map]
  cases e : is[j]? with
  | none =>
    have : is.length ≤ j := List.getElem?_eq_none_iff.mp e
    rw [List.getElem?_eq_none_iff.mpr (by rw [h.1]; exact this)]; rfl
  | some i =>
    have lt := (List.getElem?_eq_some_iff.mp e).1
    have lt' : j < ws.length := by rw [h.1]; exact lt
    rw [List.getElem?_eq_getElem lt']
    rw [h.2 j i ws[j] e (List.getElem?_eq_getElem lt')] <;> rfl
theorem mon_vals {f : Nat → V} : Mon1 (fun i v _ => v = f i) := fun _ _ _ _ _ _ _ _ p => p
/-! ### ranges -/
theorem rg_get {a b : Int} {i : Nat} (h : i < (b - a).toNat) : (rgV a b)[i]? = some (.int (a + i)) := by
  unfold rgV
  rw [List.getElem?_map, List.getElem?_range h] <;> rfl
theorem rg_ints (a b : Int) : rgV a b = ((List.range (b - a).toNat).map fun i : Nat => a + (i : Int)).map V.int := by
  unfold rgV
  rw [List.map_map] <;> rfl
theorem rg_flat (a b : Int) : (rgV a b).all flatV = true := by
  unfold rgV
  rw [List.all_map, List.all_eq_true]
  intro x _
  rfl
theorem rg_in (a b w : Int) : inV (.int w) (rgV a b) = decide (a ≤ w ∧ w < b) := by
  unfold inV rgV
  rw [List.any_map]
  by_cases h : a ≤ w ∧ w < b
  · rw [decide_eq_true h, List.any_eq_true]
    refine ⟨(w - a).toNat, List.mem_range.mpr (by omega), ?_⟩
    simp only [Function.comp, eqV, beq_iff_eq]
    omega
  · rw [decide_eq_false h, List.any_eq_false]
    intro i hi
    have := List.mem_range.mp hi
    simp only [Function.comp, eqV, beq_iff_eq]
    omega
theorem rg_snoc {a b : Int} (h : a ≤ b) : rgV a (b + 1) = rgV a b ++ [.int b] := by
  unfold rgV
  rw [show (b + 1 - a).toNat = (b - a).toNat + 1 by omega, List.range_succ, List.map_append]
  congr 1
  simp only [List.map_cons, List.map_nil]
  congr 2
  omega
theorem rg_nil {a b : Int} (h : b ≤ a) : rgV a b = [] := by
  unfold rgV
  rw [show (b - a).toNat = 0 by omega] <;> rfl
/-! ### data -/
theorem ints_dp' {K : PySem.W.Frag} {H : Hp} {p : Addr} {cs : List Int} (h : H p = some (.lst (cs.map V.int))) : Dp K H (.ref p) (.list (cs.map PyData.int)) := by
  refine Dp.lst (SqL.of h) (dp_all (by rw [List.length_map, List.length_map]) fun i v d h1 h2 => ?_)
  rw [List.getElem?_map] at h1 h2
  cases e : cs[i]? with
  | none => rw [e] at h1; cases h1
  | some y =>
    rw [e] at h1 h2
    obtain rfl := Option.some.inj h1
    obtain rfl := Option.some.inj h2
    exact .int _
theorem ints_shaped' (cs : List Int) : SeqAt.shaped (.list (cs.map PyData.int)) = true := by
  refine shaped_of (n := 1) (lay_list fun x hx => ?_) (depth_list (n := 0) fun x hx => ?_) (by decide)
  · obtain ⟨y, _, rfl⟩ := List.mem_map.mp hx
    simp only [PyData.canLay0]
  · obtain ⟨y, _, rfl⟩ := List.mem_map.mp hx
    simp only [PyData.depth]
    decide
def pairD (p : Int × Int) : PyData := .tuple [.int p.1, .int p.2]
theorem pair_dp {K : PySem.W.Frag} {H : Hp} {p : Addr} {a b : Int} (h : H p = some (.tup [.int a, .int b])) : Dp K H (.ref p) (pairD (a, b)) := Dp.tup (SqT.of h) (.cons (.int _) (.cons (.int _) .nil))
theorem pair_shaped (p : Int × Int) : SeqAt.shaped (pairD p) = true := shaped_of (n := 1) (lay_tuple fun x hx => by
  simp only [List.mem_cons, List.not_mem_nil, or_false] at hx
  rcases hx with rfl | rfl <;> simp only [PyData.canLay0]) (depth_tuple (n := 0) fun x hx => by
  simp only [List.mem_cons, List.not_mem_nil, or_false] at hx
  rcases hx with rfl | rfl <;> simp only [PyData.depth] <;> decide) (by decide)
theorem pairs_dp {K : PySem.W.Frag} {H : Hp} {p : Addr} {ws : List V} {ps : List (Int × Int)} (h : H p = some (.lst ws)) (hl : ws.length = ps.length) (hp : ∀ (i : Nat) v q, ws[i]? = some v → ps[i]? = some q → ∃ t, v = .ref t ∧ H t = some (.tup [.int q.1, .int q.2])) : Dp K H (.ref p) (.list (ps.map pairD)) := by
  refine Dp.lst (SqL.of h) (dp_all (by rw [List.length_map]; exact hl) fun i v d h1 h2 => ?_)
  rw [List.getElem?_map] at h2
  cases e : ps[i]? with
  | none => rw [e] at h2; cases h2
  | some q =>
    rw [e] at h2
    obtain rfl := Option.some.inj h2
    obtain ⟨t, rfl, ht⟩ := hp i v q h1 e
    exact pair_dp ht
theorem pairs_shaped (ps : List (Int × Int)) : SeqAt.shaped (.list (ps.map pairD)) = true := by
  refine shaped_of (n := 2) (lay_list fun x hx => ?_) (depth_list (n := 1) fun x hx => ?_) (by decide)
  · obtain ⟨y, _, rfl⟩ := List.mem_map.mp hx
    exact lay_tuple fun x hx => by
      simp only [List.mem_cons, List.not_mem_nil, or_false] at hx
      rcases hx with rfl | rfl <;> simp only [PyData.canLay0]
  · obtain ⟨y, _, rfl⟩ := List.mem_map.mp hx
    exact depth_tuple (n := 0) fun x hx => by
      simp only [List.mem_cons, List.not_mem_nil, or_false] at hx
      rcases hx with rfl | rfl <;> simp only [PyData.depth] <;> decide
theorem steady_c {lo c : Int} {n : Nat} {H1 : Hp} : Steady (Itc lo c n) n (fun i => .int (lo + (i : Nat) * c)) H1 := fun H' _ => ⟨fun _ hi => hi, fun _ hi => hi, fun _ _ _ _ y => y⟩
theorem rgC4 {i j : Int} {n : Nat} (h1 : 0 ≤ i) (h2 : i < 2 ^ 60) (h3 : 0 ≤ j) (h4 : j < 2 ^ 60) (hn : (if i < j then (j - i - 1) / 4 + 1 else 0) = (n : Int)) : RgC i j 4 n := by
  refine ⟨by decide, by decide, ?_, ?_⟩
  · unfold Builtin.Range.small Builtin.Range.rangeSize
    simp only [Builtin.Range.rangeFitsLong, Bool.and_eq_true, Bool.or_eq_true, decide_eq_true_eq, beq_iff_eq, show (4 : Int) > 0 by decide, if_true]
    split <;> omega
  · unfold Builtin.Range.rangeSize
    rw [if_pos (by decide)]
    exact hn
end Z
namespace Z
open PySem PySem.Spec PyProof.Rows L2
/-! ### texts of ints, f-strings -/
def zFmt (te : TE) : TE := fun σ H Q => te σ H fun x H1 => match x with
  | .str y => y.length ≤ sizeLine ∧ Q (.str y) H1
  | .int i => i.natAbs.log2 < 1920 ∧ Q (.str (toString i)) H1
  | _ => False
def zJs : List TE → Str → L2.St → Hp → (Str → Hp → Prop) → Prop
  | [], acc, _, H, Q => Q acc H
  | t :: ts, acc, σ, H, Q => t σ H fun x H1 => Z.strAt x fun y => (acc ++ y).length ≤ sizeLine ∧ zJs ts (acc ++ y) σ H1 Q
def zJoin (ts : List TE) : TE := fun σ H Q => zJs ts Str.empty σ H fun out H1 => Q (.str out) H1
def yStr1 : List V → Hp → VK → Prop := fun vs H Q => match vs with
  | [.int i] => i.natAbs.log2 < 1920 ∧ Q (.str (toString i)) H
  | _ => False
section
variable {X : Cx}
theorem e_fmt {e : Expr} {te : TE} {pos : Pos} (he : PE X e te) : PE X (.FormattedValue e (-1) none pos) (zFmt te) := pe_imp (pe_fmt (pe_up he)) fun σ H Q q => ⟨_, fun x H1 q => by
  split at q
  · exact .inl ⟨_, rfl, q⟩
  · exact .inr ⟨_, rfl, q⟩
  · exact q.elim, q⟩
theorem zJs_imp : ∀ (ts : List TE) (acc : Str) (σ : L2.St) (H : Hp) (Q : Str → Hp → Prop), zJs ts acc σ H Q → tJs (ts.map up) acc σ H Q
  | [], _, _, _, _, q => q
  | t :: ts, acc, σ, H, Q, q => ⟨_, fun x H1 q => by
    unfold Z.strAt at q
    split at q
    · exact ⟨_, rfl, q.1, zJs_imp ts _ σ H1 Q q.2⟩
    · exact q.elim, q⟩
theorem e_join {v1 v2 : Expr} {rest : List Expr} {ts : List TE} {pos : Pos} (h : PJ X (v1 :: v2 :: rest) (ts.map up)) : PE X (.JoinedStr (v1 :: v2 :: rest) pos) (zJoin ts) := pe_imp (pe_joined h) fun σ H Q q => zJs_imp ts _ σ H _ q
theorem c_str1 : CallR X (.type "str") yStr1 := cr_imp call_str_int fun xs H Q q => by
  unfold yStr1 at q
  split at q
  · exact ⟨_, rfl, q.1, q.2⟩
  · exact q.elim
end
theorem log_ok {i : Int} (h0 : 0 ≤ i) (h1 : i < 2 ^ 60) : i.natAbs.log2 < 1920 := by
  by_cases h : i.natAbs = 0
  · rw [h]; decide
  · rw [Nat.log2_lt h]
    have : i.natAbs < 2 ^ 60 := by omega
    exact Nat.lt_of_lt_of_le this (Nat.pow_le_pow_right (by decide) (by decide))
end Z
/-! Own exceptions with a field, over any base; try; match. -/
namespace ZE
open PySem PySem.W PySem.Calls PyProof.Rows Builtin Builtin.ObjectAttr
section
variable {prog : Program} {w : World} {A : Around} {R : Result → Shared → Prop} {hp : Heap} {gg : Array GenState} {dr : Drawn} {tt : Nat} {oo : OsState}
/-- the first field of an exception is stored -/
theorem firstField {K : Frag} {nam : Str} {tok : Tok} {val : Value} {x C : Addr} {flds : Array Value} {cld : ClassData} (kin : K.In hp) (ex : hp.get? x = some { cls := .ref C, data := .fields flds })
    (ec : clsIn K C = some cld) (full : cld.mro.isEmpty = false) (obj : cld.mro.contains (.type "object") = true) (pass : refuseLoop (.ref x) "__setattr__" cld.mro = pure ()) (hdict : cld.hasDict = true) (free : findIn K (.ref C) nam = some none)
    (fin : ∀ h' tk' dx, (∀ b o, b ≠ x → hp.get? b = some o → h'.get? b = some o) → hp.objs.size ≤ dx → dx ≠ x → h'.get? x = some { cls := .ref C, dict := some dx, data := .fields flds } → h'.Ns1 dx (fun y => if y = nam then some val else none) → R (.ok (.ret .none)) ⟨h', gg, dr, tk', oo⟩) :
    codeAny (model prog w) A (.call (.builtin "object.__setattr__") ⟨[.ref x, .str nam tok, val], []⟩) R ⟨hp, gg, dr, tt, oo⟩ := by
  have inst : InstAt hp x { cls := .ref C, data := .fields flds } C none := ⟨ex, rfl, rfl, trivial⟩
  have ne : x ≠ hp.objs.size := Nat.ne_of_lt (Heap.lt_size ex)
  have isObj : Looks (model prog w) hp (isInstance (.ref x) (.type "object")) true := inst.type.andThen (looks_mroIn kin (by unfold mroIn; rw [ec, Option.bind_some, if_neg (by rw [full]; decide), obj]))
  have mroL : Looks (model prog w) hp (mroOf (.ref C)) cld.mro := (looks_clsIn kin ec).andThen .now
  have noTaker : Looks (model prog w) hp (storeTaker? none) none := .now
  have clsL : Looks (model prog w) hp (classData C) cld := looks_clsIn kin ec
  refine codeAny_call_builtin F.store_object.slot.plain F.store_object.entry (@check_slot (model prog w) _ _ ⟨hp, gg, dr, tt, oo⟩ "object.__setattr__" "object" "__setattr__" (.ref x) [.str nam tok, val] [] _ F.store_object.kind F.store_object.split isObj (F.store_object.args (.ref x) (.str nam tok) val) ?_)
  rw [osa_eq, refuse_eq]
  refine wpAny_bind (wpAny_bind (inst.type.at (wpAny_bind (mroL.at ?_))))
  rw [pass]
  refine wpAny_pure (wpAny_bind (inst.type.at (wpAny_bind ((looks_findIn kin free).at (wpAny_bind (noTaker.at ?_))))))
  show wpAny _ _ (storeInOwnDict (.ref x) (.ref C) (.str nam tok) nam val false) _ _ _
  obtain ⟨c1, c2, c3, c4, c5, c6, c7, c8, c9, c10, c11⟩ := cld
  dsimp only at hdict
  subst hdict
  unfold storeInOwnDict ownDictForStores
  repeat (first | with_reducible refine HandSPX.store_in_new ?_ ?_ | with_reducible refine wpAny_loadPart_at ex ?_ | with_reducible refine clsL.at ?_ | wp_step)
  · exact ⟨_, #[], _, (Heap.get?_update_ne _ _ _ _ ne.symm).trans (Heap.get?_push_at rfl rfl), rfl, fun z hz => absurd hz (by simp), fun _ => rfl⟩
  · intro h' tk' ns sb
    have ex' : (hp.push { cls := .type "dict", data := .dict #[] }).get? x = some { cls := .ref C, data := .fields flds } := Heap.get?_push_of_some _ ex
    exact fin h' tk' hp.objs.size (fun b o hb ho => (sb.2 b (Nat.ne_of_lt (Heap.lt_size ho))).trans ((Heap.get?_update_ne _ _ _ _ hb).trans (Heap.get?_push_of_some _ ho))) (Nat.le_refl _) ne.symm ((sb.2 x ne).trans (Heap.get?_update_self _ ex' rfl)) ns
end
end ZE
namespace Z
open PySem PySem.Spec PyProof.Rows L2
/-- an own exception class directly over a built-in one, with its own __init__ -/
structure OexG (K : PySem.W.Frag) (bmB : List Value) (newId : String) (C : Addr) : Prop where
  ini : PySem.W.excInitIn K C bmB newId = true
  cls : ∃ cd, PySem.W.clsIn K C = some cd ∧ cd.mro = .ref C :: bmB ∧ cd.hasDict = true
  sa : PySem.W.findIn K (.ref C) "__setattr__" = some (some (.builtin "object.__setattr__"))
  exC : PySem.W.subIn K (.ref C) (.type "BaseException") = some true
  tyC : PySem.W.typeIn K (.ref C) = some (.type "type")
  kC : PySem.W.keepIn K (.ref C) = true
section
variable {X : Cx} {pins : List (Addr × Obj)} {σ : L2.St} {H : Hp} {s : Shared} {a C : Addr} {f : Str} {y : V} {u : Value} {E : Value → Shared → Prop} {A : Around} {B newId initId : String} {bmB : List Value}
theorem exo_first (SF : StoreFacts B bmB "object.__setattr__" "object") (T : OexG X.K bmB newId C) (I : Inv X pins σ H s) (e : H a = some (exo a C none)) (hno : PySem.W.findIn X.K (.ref C) f = some none) (ry : L2.RelV y u) {Q : Unit → Shared → Prop}
    (h : ∀ dx s', H dx = none → dx ≠ a → Inv X pins σ (upd (upd H dx (exd dx [(f, y)])) a (exo a C (some dx))) s' → Q () s') : wpAny (model X.prog X.w) A (setAttr (.ref a) f u) Q E s := by
  obtain ⟨cd, hcd, hm, hh⟩ := T.cls
  obtain ⟨t1, ho⟩ := exo_at I.hok e
  obtain ⟨hp, g, d, t, os⟩ := s
  refine PySem.W.set_plain I.kIn (ox := { cls := .ref C, dict := none, data := .fields #[.ref t1, .none, .none, .none, .bool false, .none] }) (od := none) ⟨ho, rfl, rfl, trivial⟩ T.sa ?_
  refine ZE.firstField I.kIn ho hcd (by rw [hm]; rfl) (by rw [hm, List.contains_cons, SF.hasOwner, Bool.or_true]) (by rw [hm, refuseLoop_ref]; exact SF.passes _) hh hno fun h' tk' dx k dn dne hx hn => ?_
  have hnd : H dx = none := I.hok.fresh dn
  have nd : ∀ {b : Addr} {o : Obj}, hp.get? b = some o → b ≠ dx := fun {b o} q => Nat.ne_of_lt (Nat.lt_of_lt_of_le (Heap.lt_size q) dn)
  have na : ∀ {b : Addr}, H b = none → b ≠ a := fun {b} n z => by rw [z, e] at n; cases n
  have other : ∀ {b : Addr} {o : HO}, H b = some o → exo a C none ≠ o → upd (upd H dx (exd dx [(f, y)])) a (exo a C (some dx)) b = some o := fun {b o} hb ne => by
    rw [upd_ne (at_ne e hb ne), upd_ne (ne_of_none hb hnd)]
    exact hb
  refine h dx _ hnd dne (I.un (t' := tk') ⟨fun b o q n _ _ => k b o (na n) q, fun b o q n _ _ => ⟨o.slots, k b o (na n) q⟩, fun b o q n _ => by rw [upd_ne (na n), upd_ne (nd q)]; exact n, fun b o q _ => ?_, fun b xs q => other q exo_tup, fun b o v q => other q exo_frz, fun b ps q => ⟨#[], by rw [other q exo_tbl]; simp⟩⟩ fun b o q => ?_)
  · by_cases hb : b = a
    · exact ⟨_, by rw [hb]; exact hx⟩
    · exact ⟨o, k b o hb q⟩
  · by_cases hb : b = a
    · rw [hb, upd_same] at q
      cases q
      rw [hb]
      exact exo_ok hx
    · rw [upd_ne hb] at q
      by_cases hd : b = dx
      · rw [hd, upd_same] at q
        cases q
        rw [hd]
        exact exd_ok hn (relO_put (fs := []) ry fun g => True.intro)
      · rw [upd_ne hd] at q
        exact (I.hok b o q).stay (fun c v hc z => k c v (hc.elim (fun hc => by rw [hc]; exact hb) fun hc => at_ne e hc exo_own) z) (fun c hc => other hc exo_own) fun c xs hc => other hc exo_tup
theorem base_init (F : ExcBaseFacts B newId initId bmB) (T : OexG X.K bmB newId C) (I : Inv X pins σ H s) (e : H a = some (exo a C none)) {us : List Value} {Q : Value → Shared → Prop} (hl : us.length ≤ sizeLine) (h : ∀ s', Inv X pins σ H s' → Q .none s') :
    wpAny (model X.prog X.w) A (call (.builtin initId) (.ref a :: us)) Q E s := by
  obtain ⟨nm, N, qn, bs, bm, hdct, sn, sub, ab, col, dd, k0, k1, k2, k3, k5, hC, hbm⟩ := PySem.W.excInit_of I.kIn T.ini
  obtain ⟨t1, ho⟩ := exo_at I.hok e
  obtain ⟨hp, g, d, t, os⟩ := s
  refine wpAny_call (PySem.HandSPX.init_base F hbm hC ho hl fun h' t2 k hx => ?_)
  have eu : upd H a (exo a C none) = H := by
    funext b
    by_cases hb : b = a
    · rw [hb, upd_same, e]
    · rw [upd_ne hb]
  have J := I.write (t' := t) (x := a) (e := a) (o := exo a C none) (by rw [e]; exact True.intro) (.inl rfl) k ⟨_, hx⟩ (exo_ok hx)
  exact h _ (eu ▸ J)
end
/-! ### readings and rules -/
/-- B.__init__(self, 'text') -/
def zBInit (K : PySem.W.Frag) (bmB : List Value) (newId : String) (i : Nat) : TE := fun σ H Q => (match σ[i]? with
  | some (some (.ref a)) => ∃ C, OexG K bmB newId C ∧ H a = some (exo a C none)
  | _ => False) ∧ Q .non H
/-- self.f = e, the first field -/
def zOst (K : PySem.W.Frag) (bmB : List Value) (newId : String) (f : Str) (i : Nat) (te : TE) : TS := fun D σ H => te σ H fun y H1 => match σ[i]? with
  | some (some (.ref a)) => ∃ C, (OexG K bmB newId C ∧ PySem.W.findIn K (.ref C) f = some none ∧ H1 a = some (exo a C none)) ∧ ∀ dx, H1 dx = none → dx ≠ a → D.nx σ (upd (upd H1 dx (exd dx [(f, y)])) a (exo a C (some dx)))
  | _ => False
section
variable {X : Cx} {o e : Expr} {es : List Expr} {te : TE} {ta : TA} {f x m : Str} {p p' p1 p2 p3 pos : Pos} {i j : Nat} {B newId initId : String} {bmB : List Value}
theorem e_binit {pl : Sem Bool} {Bs : Str} {z : Str} (F : ExcBaseFacts B newId initId bmB) (hg : Gl X Bs) (hm : X.mg Bs = none) (hbt : bootBuiltins Bs = some (.type B)) (hty : typeOf (.type B) = pure (.type "type"))
    (hvi : PySem.W.findCls X.K (.type B) (.type "type") "__init__" = some (.val (.builtin initId))) (hs : PySem.W.handedIn (.builtin initId) = true) (hN : X.N[i]? = some x) (hv : Vis X.env.scope x) (hd : (x == ("__debug__" : Str)) = false) (hcd : (x == ("__classdict__" : Str)) = false)
    (hn1 : Bs ≠ "__name__" := by decide) (hn2 : (Bs == ("__debug__" : Str)) = false := by decide)
    (hmt : ∀ {prog : Program} {w : World} {A : Around} {E : Value → Shared → Prop} {s : Shared} {Q : Value × List Value → Shared → Prop} {mm : Str → Option Value}, Fr X.base X.env.locals s.heap mm → X.K.In X.base → Q (.builtin initId, []) { s with toks := s.toks + 1 } → wpAny (model prog w) A (getMethod (.type B) "__init__" pl) Q E s)
    (hc : eval (.Call (.Attribute (.Name Bs p1) "__init__" p2) [.Name x p, .Constant (.str z) j p3] [] pos) X.env = (do
      let ov ← eval (.Name Bs p1) X.env
      standAt p2.atName
      let (f, first) ← holding [ov] (getMethod ov "__init__" pl)
      callWith pos f first (backTo pos (starEach [.Name x p, .Constant (.str z) j p3] X.env)) (backToKw pos (keywordEach [] X.env))) := by rfl)
    (he : starEach [.Name x p, .Constant (.str z) j p3] X.env = (false, eval (.Name x p) X.env) :: starEach [.Constant (.str z) j p3] X.env := by rfl) (he2 : starEach [.Constant (.str z) j p3] X.env = (false, eval (.Constant (.str z) j p3) X.env) :: starEach [] X.env := by rfl) (hpl : (backTo pos (starEach [.Constant (.str z) j p3] X.env)).any (·.1) = false := by rfl) :
    PE X (.Call (.Attribute (.Name Bs p1) "__init__" p2) [.Name x p, .Constant (.str z) j p3] [] pos) (zBInit X.K bmB newId i) := by
  refine ⟨fun pins s σ H Q I h => ?_⟩
  obtain ⟨h1, q⟩ := h
  refine PySem.W.methodCall_KW (ld_blt I hg hm hbt ?_ hn1 hn2) hc
  obtain ⟨mm, fr⟩ := I.fr
  refine hmt fr I.ok.mod.kin ?_
  have ha : PA X [.Name x p, .Constant (.str z) j p3] (tCons (zV i) (tCons (tC (.str z)) tNil)) := pa_cons (pz i hN hv hd hcd) (pa_cons pe_str pa_nil he2) he
  split at h1
  · rename_i a e1
    obtain ⟨C, T, ea⟩ := h1
    refine PyProof.Rows.callWith_method1 (thn (ha.run pos pins _ σ H (fun vs H1 => vs = [.ref a, .str z] ∧ H1 = H) (I.tok _) (by unfold tCons zV; simp only [e1]; first | exact ⟨rfl, rfl⟩ | exact ⟨trivial, rfl⟩ | simp [tCons, tC, tNil])) fun us s1 ⟨vs, H1, I1, r1, ev, eH⟩ => ?_) he hpl
    subst ev eH
    cases r1 with
    | @cons _ u0 _ ur ra rw' =>
      obtain rfl : u0 = Value.ref a := ra
      refine base_init F T I1 ea ?_ fun s' J => ⟨.non, _, J, rfl, q⟩
      rw [← Paired.length rw']
      show 1 ≤ sizeLine
      decide
  · exact h1.elim
theorem s_ost (SF : StoreFacts B bmB "object.__setattr__" "object") (hN : X.N[i]? = some x) (hv : Vis X.env.scope x) (he : PE X e te) (hs : swapsWith e (some (.Attribute (.Name x p) f p')) pos.line X.env = pure false := by rfl) (hd : (x == ("__debug__" : Str)) = false := by decide) (hcd : (x == ("__classdict__" : Str)) = false := by decide) :
    PS X (.Assign [.Attribute (.Name x p) f p'] e pos) (zOst X.K bmB newId f i te) := by
  refine ⟨fun pins s σ H D I h => ?_⟩
  refine plainObj_wpAny_Assign_Attribute (thn ((pe_up he).run pins s σ H (fun y H1 => ∃ a C, σ[i]? = some (some (.ref a)) ∧ (OexG X.K bmB newId C ∧ PySem.W.findIn X.K (.ref C) f = some none ∧ H1 a = some (exo a C none)) ∧ ∀ dx, H1 dx = none → dx ≠ a → D.nx σ (upd (upd H1 dx (exd dx [(f, y)])) a (exo a C (some dx)))) I ⟨_, fun y H1 q => by
    split at q
    · rename_i a e1
      obtain ⟨C, q1, q2⟩ := q
      exact ⟨a, C, e1, q1, q2⟩
    · exact q.elim, h⟩) fun v s1 ⟨y, H1, I1, r1, a, C, e1, ⟨T, hno, ea⟩, q⟩ => thn ((pz (pos := p) i hN hv hd hcd).run pins s1 σ H1 (fun x H2 => x = .ref a ∧ H2 = H1) I1 (by unfold zV; simp only [e1]; first | exact ⟨rfl, rfl⟩ | simp)) fun u s2 ⟨x2, H2, I2, r2, ex, eH⟩ => ?_) hs
  subst ex eH
  obtain rfl : u = Value.ref a := r2
  exact exo_first SF T I2 ea hno r1 fun dx s' n ne J => ⟨σ, _, J, q dx n ne⟩
/-- C(e, ..) of such a class -/
theorem pmk_oexG {CX : CXT} {C fI : Addr} {k : Nat} {fd : FuncData} {ps : List Str} {sp : Sp} (FB : ExcBaseFacts B newId initId bmB) (T : OexG X.K bmB newId C) (iC : PySem.W.findIn X.K (.ref C) "__init__" = some (some (.ref fI))) (tI : PySem.W.typeIn X.K (.ref fI) = some (.type "function"))
    (F1 : FnOk X.prog X.w X.K X.mg X.base CX k fI fd ps sp) (hr : Room (k + 1) X.A) (hb : L2.Binds X.K fd ps []) (hx : Passes CX X (fun _ _ _ => False)) (hg : Gl X x) (hm : X.mg x = some (.ref C)) (ha : PA X (e :: es) ta)
    (hdb : (x == ("__debug__" : Str)) = false := by decide) (he : starEach (e :: es) X.env = (false, eval e X.env) :: starEach es X.env := by rfl) (hpl : (backTo pos (starEach es X.env)).any (·.1) = false := by rfl) :
    PMk X (.Call (.Name x p) (e :: es) [] pos) (tMkO C sp [] ta) := by
  intro pins s σ H Q I h
  refine wpAny_Call_Name_kw (ld_glob I hg hm ?_ hdb)
  refine PySem.W.callWith_K (h₀ := X.base) I.ok.mod.kin T.kC (thn (ha.run pos pins s σ H _ I h) fun us s1 ⟨vs, H1, I1, r1, hz, q1⟩ => ⟨I1.kIn, ?_⟩) he hpl
  obtain ⟨nm, N, qn, bs, bm, hdct, sn, sub, ab, col, dd, k0, k1, k2, k3, k5, hC, hbm⟩ := PySem.W.excInit_of I1.kIn T.ini
  show wpAny _ _ (call (.ref C) us) _ _ _
  obtain ⟨hp, g, dr, tk, os⟩ := s1
  have up1 : hp.objs.size ≤ hp.objs.size + 1 := Nat.le_succ _
  have hq := q1 (hp.objs.size + 1) (I1.hok.fresh up1)
  generalize hh2 : (hp.push (PySem.W.kdv_tup us)).push (PySem.HandSPX.excO C hp.objs.size) = h2
  have kk : ∀ b o, hp.get? b = some o → h2.get? b = some o := fun b o z => by rw [← hh2]; exact Heap.get?_push_of_some _ (Heap.get?_push_of_some _ z)
  have hget : h2.get? (hp.objs.size + 1) = some (PySem.HandSPX.excO C hp.objs.size) := by rw [← hh2]; heap_get
  have I2 : Inv X pins σ (upd H1 (hp.objs.size + 1) (exo (hp.objs.size + 1) C none)) ⟨h2, g, dr, tk, os⟩ := I1.laid (t' := tk) kk up1 (exo_ok hget)
  have r2 : Vals (V.ref (hp.objs.size + 1) :: (vs ++ [])) (Value.ref (hp.objs.size + 1) :: us) := .cons rfl (by rw [List.append_nil]; exact r1)
  have hl : (Value.ref (hp.objs.size + 1) :: us).length = ps.length := by rw [← r2.length]; exact F1.len _ _ _ _ hq
  have bnd := hb ⟨h2, g, dr, tk, os⟩ (Value.ref (hp.objs.size + 1) :: us) I2.kIn (by rw [List.append_nil]; exact hl)
  rw [List.append_nil] at bnd
  refine wpAny_call (PySem.HandSPX.call_own FB hbm hC (PySem.W.looks_findIn I1.kIn iC) (fun self => PySem.W.bind_fn I1.kIn self tI) (by rw [← Paired.length r1, sizeLine_eq]; omega) ?_)
  rw [hh2]
  refine codeAny_mono (F1.run _ X.stack _ _ ⟨Value.ref (hp.objs.size + 1) :: us, []⟩ _ _ _ (fun _ _ _ => False) (hr.make C us []) (I2.env0.make C us []) bnd r2 hq) fun r s' hq' => ?_
  cases r with
  | error er => exact hx pins σ _ _ er s' I2 hq'
  | ok fl =>
    cases fl with
    | ret u =>
      obtain ⟨v, H2, os2, bare2, un2, hok2, rv, ev, d, fs, ea, ed, hd1, q2⟩ := hq'
      subst ev
      obtain ⟨h3, g3, d3, t3, os'⟩ := s'
      exact ⟨rv, mk_end (raises_own T.exC T.tyC) I1 up1 kk un2 hok2 os2 bare2 ea ed hd1 q2⟩
    | _ => exact hq'.elim
abbrev oeBase : List Value := [.type "OverflowError", .type "ArithmeticError", .type "Exception", .type "BaseException", .type "object"]
theorem typ_OE : typeOf (.type "OverflowError") = pure (.type "type") := by kernel_rfl
theorem e_oeinit {pl : Sem Bool} {z : Str} (hg : Gl X "OverflowError") (hm : X.mg "OverflowError" = none) (hvi : PySem.W.findCls X.K (.type "OverflowError") (.type "type") "__init__" = some (.val (.builtin "OverflowError.__init__"))) (hN : X.N[i]? = some x) (hv : Vis X.env.scope x) (hd : (x == ("__debug__" : Str)) = false := by decide) (hcd : (x == ("__classdict__" : Str)) = false := by decide)
    (hc : eval (.Call (.Attribute (.Name "OverflowError" p1) "__init__" p2) [.Name x p, .Constant (.str z) j p3] [] pos) X.env = (do
      let ov ← eval (.Name "OverflowError" p1) X.env
      standAt p2.atName
      let (f, first) ← holding [ov] (getMethod ov "__init__" pl)
      callWith pos f first (backTo pos (starEach [.Name x p, .Constant (.str z) j p3] X.env)) (backToKw pos (keywordEach [] X.env))) := by rfl)
    (he : starEach [.Name x p, .Constant (.str z) j p3] X.env = (false, eval (.Name x p) X.env) :: starEach [.Constant (.str z) j p3] X.env := by rfl) (he2 : starEach [.Constant (.str z) j p3] X.env = (false, eval (.Constant (.str z) j p3) X.env) :: starEach [] X.env := by rfl) (hpl : (backTo pos (starEach [.Constant (.str z) j p3] X.env)).any (·.1) = false := by rfl) :
    PE X (.Call (.Attribute (.Name "OverflowError" p1) "__init__" p2) [.Name x p, .Constant (.str z) j p3] [] pos) (zBInit X.K oeBase "OverflowError.__new__" i) :=
  e_binit (pl := pl) F.excBase_OverflowError hg hm PyProof.Rows.Boot.«OverflowError» typ_OE hvi (by decide +kernel) hN hv hd hcd (by decide) (by decide) (fun fr kin q => PySem.W.method_type fr kin typ_OE (by decide +kernel) hvi (by decide +kernel) q) hc he he2 hpl
end
end Z
namespace Z
open PySem PySem.Spec PyProof.Rows L2
/-! ### match of texts -/
def zCase (v : V) (c : Str) (t rest : TS) : TS := fun D σ H => Z.strAt v fun z => if z = c then t D σ H else rest D σ H
structure PMC (X : Cx) (cs : List MatchCase) (t : V → TS) : Prop where
  run : ∀ (pins : List (Addr × Obj)) (s : Shared) (σ : L2.St) (H : Hp) (D : Ends) (v : V) (u : Value) (b : Bool), Inv X pins σ H s → L2.RelV v u → t v D σ H → wpAny (model X.prog X.w) X.A (matchCases cs X.env u b) (SP X pins D) X.xe s
def zMatch (te : TE) (t : V → TS) : TS := fun D σ H => te σ H fun v H1 => t v D σ H1
section
variable {X : Cx}
theorem pmc_any {body : List Stmt} {tb : TS} {p : Pos} (hb : PSs X body tb) : PMC X [⟨.MatchAs none none p, none, body⟩] (fun _ => tb) := ⟨fun pins s σ H D v u b I r h =>
  wpAny_matchCases_cons (wpAny_matchPattern_Capture (wpAny_assignInOrder_none (hb.run pins s σ H D I h)))⟩
theorem pmc_str {body : List Stmt} {rest : List MatchCase} {tb : TS} {tr : V → TS} {c : Str} {j : Nat} {p p' : Pos} (hb : PSs X body tb) (hr : PMC X rest tr) : PMC X (⟨.MatchValue (.Constant (.str c) j p) p', none, body⟩ :: rest) (fun v => zCase v c tb (tr v)) := ⟨fun pins s σ H D v u b I r h => by
  unfold zCase Z.strAt at h
  split at h
  · rename_i z
    refine wpAny_matchCases_cons (wpAny_matchPattern_Value (thn ((pe_str (X := X) (x := c) (j := j) (pos := p)).run pins s σ H (fun w H1 => w = .str c ∧ H1 = H) I ⟨rfl, rfl⟩) fun x s1 ⟨w, H1, I1, r1, e1, e2⟩ => ?_))
    subst e1 e2
    refine thn (op_eq (X := X) pins s1 σ _ (.str z) (.str c) u x (fun w H2 => w = .bl (decide (z = c)) ∧ H2 = H1) I1 r r1 ⟨rfl, by simp [eqV]⟩) fun cv s2 ⟨w2, H2, I2, r2, e3, e4⟩ => ?_
    subst e3 e4
    cases r2
    refine wpAny_truthy_bool ?_
    by_cases hz : z = c
    · rw [if_pos hz] at h
      rw [decide_eq_true hz]
      exact wpAny_assignInOrder_none (hb.run pins s2 σ _ D I2 h)
    · rw [if_neg hz] at h
      rw [decide_eq_false hz]
      exact hr.run pins s2 σ _ D (.str z) u false I2 r h
  · exact h.elim⟩
theorem s_match {e : Expr} {te : TE} {cs : List MatchCase} {t : V → TS} {p : Pos} (he : PE X e te) (hc : PMC X cs t) : PS X (.Match e cs p) (zMatch te t) := ⟨fun pins s σ H D I h =>
  wpAny_Match (thn (he.run pins s σ H _ I h) fun u s1 ⟨v, H1, I1, r, q⟩ => hc.run pins s1 σ H1 D v u true I1 r q)⟩
end
/-! ### methods that may raise -/
structure MetX (P : Program) (w : World) (K : PySem.W.Frag) (mg : Str → Option Value) (base : Heap) (k : Nat) (C : Addr) (m : Str) (sp : Sp) : Prop where
  ex : ∃ f fd ps, Cls K C ∧ Meth K C m f ∧ FnOk P w K mg base (L2.CX P w) k f fd ps sp ∧ L2.Binds K fd ps []
/-- o.m(e, ..) in a try: what is raised is wished for at the slots -/
def zMethS (C : Addr) (m : Str) (sp : Sp) (W : WX) (ta : TE) (t : TA) : TE := fun σ H Q => ta σ H fun x H1 => insAt H1 x fun a C' dx fs => (C' = C ∧ fs.lookup m = none) ∧ t σ H1 fun vs H2 => sp (x :: vs) H2 Q (fun cls d H' => W cls d σ H')
section
variable {X : Cx} {k j : Nat} {C : Addr} {m : Str} {sp : Sp} {W : WX} {o e : Expr} {es : List Expr} {ta : TE} {t : TA} {apos pos : Pos}
theorem e_mtS {pl : Sem Bool} (c : MetX X.prog X.w X.K X.mg X.base k C m sp) (hr : Room j X.A) (hk : k ≤ j) (tk : Takes X W) (he : PE X o ta) (ha : PA X (e :: es) t)
    (hst : starEach (e :: es) X.env = (false, eval e X.env) :: starEach es X.env := by rfl) (hpl : (backTo pos (starEach es X.env)).any (·.1) = false := by rfl)
    (ht : eval (.Call (.Attribute o m apos) (e :: es) [] pos) X.env = (do
      let ov ← eval o X.env
      standAt apos.atName
      let (f, first) ← holding [ov] (getMethod ov m pl)
      callWith pos f first (backTo pos (starEach (e :: es) X.env)) (backToKw pos (keywordEach [] X.env))) := by rfl) :
    PE X (.Call (.Attribute o m apos) (e :: es) [] pos) (zMethS C m sp W ta t) := by
  obtain ⟨f, fd, ps, cl, me, F, b⟩ := c.ex
  refine ⟨fun pins s σ H Q I h => ?_⟩
  refine PySem.W.methodCall_KW (pl := pl) (thn ((pe_up he).run pins s σ H (fun x H1 => ∃ a dx fs, x = .ref a ∧ H1 a = some (.ins C dx fs) ∧ fs.lookup m = none ∧ t σ H1 fun vs H2 => sp (x :: vs) H2 Q (fun cls d H' => W cls d σ H')) I ⟨_, fun x H1 q => by
    obtain ⟨a, C', dx, fs, ex, hx, ⟨ec, q2⟩, q3⟩ := insAt_ok q
    subst ec
    exact ⟨a, dx, fs, ex, hx, q2, q3⟩, h⟩) fun u s1 hh => ?_) ht
  obtain ⟨x, H1, I1, rx, a, dx, fs, ex, ea, l, q⟩ := hh
  subst ex
  obtain rfl : u = Value.ref a := rx
  refine getmeth_ok I1 ea cl me l ?_
  refine PySem.W.callWith_K (first := [.ref a]) (h₀ := X.base) I.ok.mod.kin me.kp (thn (ha.run pos pins s1 σ H1 _ I1 q) fun us s2 ⟨vs, H2, I2, r, q2⟩ => ⟨I2.kIn, ?_⟩) hst hpl
  exact run_fnS (us := .ref a :: us) (vs := .ref a :: vs) (E := WE W) F (hr.mono hk) b (passAt tk σ) I2 (.cons rfl r) q2
end
theorem takesNo {X : Cx} : Takes X (fun _ _ _ _ => False) := fun u s' h => by
  obtain ⟨_, _, _, _, _, _, _, _, _, _, _, _, _, _, _, _, z⟩ := h
  exact z.elim
/-- raise C(e, ..) of an own class with its own __init__ -/
def zRaiseO (E : XK) (C : Addr) (sp : Sp) (ta : TA) : TS := fun _ σ H => tMkO C sp [] ta σ H fun cls d H' => E cls d H'
end Z
namespace Hk
open PySem PySem.Spec PyProof.Rows L2
def oexB (C : Str) : Fact := fun K => PySem.W.excInitIn K (He.ga K C) Z.oeBase "OverflowError.__new__" && (((PySem.W.clsIn K (He.ga K C)).any fun cd => cd.mro == (.ref (He.ga K C) :: Z.oeBase) && cd.hasDict) && (He.eqO (PySem.W.findIn K (.ref (He.ga K C)) "__setattr__") (some (some (.builtin "object.__setattr__"))) &&
  (decide (PySem.W.subIn K (.ref (He.ga K C)) (.type "BaseException") = some true) && ((PySem.W.typeIn K (.ref (He.ga K C)) == some (.type "type")) && PySem.W.keepIn K (.ref (He.ga K C))))))
theorem oexB_ok {K : PySem.W.Frag} {C : Str} (h : oexB C K = true) : Z.OexG K Z.oeBase "OverflowError.__new__" (He.ga K C) := by
  obtain ⟨h1, h⟩ := He.ba h
  obtain ⟨h2, h⟩ := He.ba h
  obtain ⟨h3, h⟩ := He.ba h
  obtain ⟨h4, h⟩ := He.ba h
  obtain ⟨h5, h6⟩ := He.ba h
  refine ⟨h1, ?_, He.eqO_ok h3, of_decide_eq_true h4, beq_iff_eq.mp h5, h6⟩
  cases e : PySem.W.clsIn K (He.ga K C) with
  | none => rw [e] at h2; cases h2
  | some cd =>
    rw [e] at h2
    obtain ⟨q1, q2⟩ := Bool.and_eq_true_iff.mp (show (cd.mro == (.ref (He.ga K C) :: Z.oeBase) && cd.hasDict) = true from h2)
    exact ⟨cd, rfl, beq_iff_eq.mp q1, q2⟩
def oeiB : Fact := fun K => match PySem.W.findCls K (.type "OverflowError") (.type "type") "__init__" with
  | some (.val (.builtin n)) => decide (n = "OverflowError.__init__")
  | _ => false
theorem oeiB_ok {K : PySem.W.Frag} (h : oeiB K = true) : PySem.W.findCls K (.type "OverflowError") (.type "type") "__init__" = some (.val (.builtin "OverflowError.__init__")) := by
  unfold oeiB at h
  split at h
  · rename_i n e
    rw [e, of_decide_eq_true h]
  · cases h
def noattrB (C f : Str) : Fact := fun K => He.eqO (PySem.W.findIn K (.ref (He.ga K C)) f) (some none)
theorem noattrB_ok {K : PySem.W.Frag} {C f : Str} (h : noattrB C f K = true) : PySem.W.findIn K (.ref (He.ga K C)) f = some none := He.eqO_ok h
def xfFB (C : Str) : Fact := fun K => xfB K (He.ga K C)
end Hk
namespace Z
open PySem PySem.Spec PyProof.Rows L2
/-! ### xs.pop(i), xs[a:b] -/
def yPopAt : V → List V → Hp → VK → Prop := fun x vs H Q => match x, vs with
  | .ref l, [.int i] => (match H l with
    | some (.lst xs) => (0 ≤ i ∧ i < xs.length ∧ i < 1000000000) ∧ isNone xs[i.toNat]? fun y => Q y (upd H l (.lst (xs.eraseIdx i.toNat)))
    | _ => False)
  | _, _ => False
def zSl2 (K : PySem.W.Frag) (to tl th : TE) : TE := fun σ H Q => to σ H fun x H1 => tl σ H1 fun l H2 => Z.intAt l fun i => th σ H2 fun u H3 => Z.intAt u fun j => refAt x fun a => (∃ xs, SqL K H3 a xs ∧ ∀ p, H3 p = none → Q (.ref p) (upd H3 p (.lst (cutV xs (some i) (some j)))))
section
variable {X : Cx} {o e e2 : Expr} {to te te2 : TE} {apos cpos p2 pos : Pos}
theorem m_popAt : MtR X "list.pop" yPopAt := mt_imp mt_popAt fun x vs H Q q => by
  unfold yPopAt at q
  split at q
  · rename_i l i
    split at q
    · rename_i xs hl
      obtain ⟨⟨h0, h1, h2⟩, q⟩ := q
      obtain ⟨y, hy, q⟩ := isNone_ok q
      refine ⟨l, xs, i, i.toNat, y, rfl, rfl, hl, by omega, by omega, ?_, hy, q⟩
      unfold seqIndex?
      simp only [show ¬ i < 0 by omega, if_false]
      rw [if_pos (by simp; omega)]
    · exact q.elim
  · exact q.elim
theorem e_popAt (ho : PE X o to) (he : PE X e te)
    (hbase : attributeBase o "pop" X.env (eval o X.env) = eval o X.env := by rfl)
    (hfew : ((backTo cpos (starEach [e] X.env)).all (fun x => !x.1) && (backToKw cpos (keywordEach [] X.env)).all (fun x => x.1.isSome)
      && decide ([e].length + ([] : List Keyword).length + (if ([] : List Keyword).isEmpty then 0 else 1) < 30)) = true := by rfl)
    (hline : (apos.endLine == cpos.line) = true := by rfl) (hs : starEach [e] X.env = (false, eval e X.env) :: starEach [] X.env := by rfl) (hplain : (backTo cpos (starEach [] X.env)).any (·.1) = false := by rfl) :
    PE X (.Call (.Attribute o "pop" apos) [e] [] cpos) (zLM yPopAt to (tCons te tNil)) :=
  pe_imp (pe_bm PySem.F.plainAttrs_list PySem.F.slot_list_pop PySem.F.type_list_pop m_popAt (pe_up ho) (pa_cons he pa_nil hs) hbase hfew hline hs hplain) fun σ H Q q => ⟨_, fun x H1 q => ⟨isLst_ok q.1, q.2⟩, q⟩
theorem e_sl2 (ho : PE X o to) (he : PE X e te) (he2 : PE X e2 te2) : PE X (.Subscript o (.Slice (some e) (some e2) none p2) pos) (zSl2 X.K to te te2) :=
  pe_imp (pe_slice sl_list (pe_up ho) (po_some (pe_up he)) (po_some (pe_up he2))) fun σ H Q q => ⟨_, fun x H1 q => ⟨_, fun l H2 q => by
    obtain ⟨i, ei, q5⟩ := intAt_ok q
    refine ⟨i, ei, _, fun u H3 q6 => ?_, q5⟩
    obtain ⟨j, ej, q7⟩ := intAt_ok q6
    obtain ⟨a, ea, xs, q8⟩ := refAt_ok q7
    exact ⟨j, ej, a, xs, ea, q8⟩, q⟩, q⟩
end
theorem s_raiseO {X : Cx} {x : Str} {C fI : Addr} {k j : Nat} {ps : List Str} {sp : Sp} {E : XK} {B newId initId : String} {bmB : List Value} {e : Expr} {es : List Expr} {ta : TA} {p pos pos2 : Pos} (hc : X.calm = true := by rfl) (tk : Takes X (fun cls d _ H => E cls d H)) (FB : ExcBaseFacts B newId initId bmB) (T : OexG X.K bmB newId C) (me : Meth X.K C "__init__" fI)
    (F : ∃ fd, FnOk X.prog X.w X.K X.mg X.base C8.CX0 k fI fd ps sp ∧ PySem.W.keepIn X.K (.ref fI) = true ∧ L2.Binds X.K fd ps []) (hr : Room j X.A) (hk : k + 1 ≤ j) (hg : Gl X x) (hm : X.mg x = some (.ref C)) (ha : PA X (e :: es) ta)
    (hdb : (x == ("__debug__" : Str)) = false := by decide) (he : starEach (e :: es) X.env = (false, eval e X.env) :: starEach es X.env := by rfl) (hpl : (backTo pos (starEach es X.env)).any (·.1) = false := by rfl) :
    PS X (.Raise (some (.Call (.Name x p) (e :: es) [] pos)) none pos2) (zRaiseO E C sp ta) := by
  obtain ⟨fd, F, kp, b⟩ := F
  exact ps_imp (ps_raise hc tk (pmk_oexG FB T me.at_ (beq_iff_eq.mp me.fn) F (hr.mono hk) b C8.pass0 hg hm ha hdb he hpl)) fun D σ H q => q
/-! ### isinstance with a tuple of built-in types -/
def tysAt : List V → (List Value → Prop) → Prop
  | [], R => R []
  | .ty n :: r, R => tysAt r fun us => R (.type n :: us)
  | _ :: _, _ => False
theorem tysAt_ok : ∀ {cs : List V} {R : List Value → Prop}, tysAt cs R → ∃ us, Paired ClsV cs us ∧ R us
  | [], R, h => ⟨[], .nil, h⟩
  | .ty n :: r, R, h => let ⟨us, p, q⟩ := tysAt_ok (cs := r) h; ⟨_, .cons (.ty n) p, q⟩
  | .non :: _, _, h => h.elim
  | .bl _ :: _, _, h => h.elim
  | .int _ :: _, _, h => h.elim
  | .str _ :: _, _, h => h.elim
  | .byt _ :: _, _, h => h.elim
  | .flt _ :: _, _, h => h.elim
  | .ref _ :: _, _, h => h.elim
def yIsiT (K : PySem.W.Frag) : List V → Hp → VK → Prop := fun vs H Q => match vs with
  | [x, .ref tp] => (match H tp with
    | some (.tup cs) => tysAt cs fun us => tyAt K H x fun t => isNone (PySem.W.kitAny K t us) fun b => Q (.bl b) H
    | _ => False)
  | _ => False
theorem c_isiT {X : Cx} : CallR X (.builtin "isinstance") (yIsiT X.K) := cr_imp call_isiT fun xs H Q q => by
  unfold yIsiT at q
  split at q
  · rename_i x tp
    split at q
    · rename_i cs hT
      obtain ⟨us, p, q⟩ := tysAt_ok q
      obtain ⟨t, ht, q⟩ := tyAt_ok q
      obtain ⟨b, hb, q⟩ := isNone_ok q
      exact ⟨x, tp, cs, t, us, b, rfl, hT, p, ht, hb, q⟩
    · exact q.elim
  · exact q.elim
/-! ### a locked dict read -/
def yIxD : R2 := fun x y H Q => ∃ p v, x = .ref p ∧ DGet H p y (some v) ∧ Q v H
end Z
namespace Hk
open PySem PySem.Spec PyProof.Rows L2
/-- a def with defaults -/
theorem fn_okD {P : Program} {w : World} {K : PySem.W.Frag} {mg : Str → Option Value} {base : Heap} {x qual : Str} {f : Addr} {st : Stmt} {N ps : List Str} {k : Nat} {sp : Sp} {fd : FuncData} {dvs : List V} {kws : List (Str × V)} (F : FunD K x qual (defArgs st) (defBody st) (defScope st) dvs kws f fd) (S : FnScope N ps (defScope st)) (len : ∀ vs H Q E, sp vs H Q E → vs.length = ps.length) {t : TS}
    (hd : ∀ (cdv : Value) (A : Around) (outer : List Env) (s : Shared) (H : Hp) (E : XK), Room k (A.deeper (envOfC qual (defScope st) s.heap.objs.size f cdv)) → PSs (cxOf C8.CX0 P w K mg base N qual (defScope st) f cdv A outer s H E).nox (defBody st) t)
    (hrd : ∀ vs H Q E, sp vs H Q E → t { nx := fun _ H' => Q .non H', rt := Q } (start N vs) H) : FnOk P w K mg base C8.CX0 (k + 1) f fd ps sp :=
  F.ok S len fun cdv A outer s H vs Q E hr h => ⟨t, PSs.nox (hd cdv A outer s H E hr), hrd vs H Q E h⟩
/-- a global tuple of texts -/
def tupB (x : Str) (zs : List Str) : Fact := fun K => match K.lookup (He.ga K x) with
  | some ⟨.type "tuple", _, .seq its _, _⟩ => decide (its.size = zs.length) && (its.toList.zip zs).all fun p => match p.1 with
    | .str y _ => decide (y = p.2)
    | _ => false
  | _ => false
theorem vals_strs : ∀ {its : List Value} {zs : List Str}, its.length = zs.length → ((its.zip zs).all fun p => match p.1 with
    | .str y _ => decide (y = p.2)
    | _ => false) = true → Vals (zs.map V.str) its
  | [], [], _, _ => .nil
  | [], _ :: _, h, _ => by cases h
  | _ :: _, [], h, _ => by cases h
  | i :: its, z :: zs, h, c => by
    rw [List.zip_cons_cons, List.all_cons, Bool.and_eq_true] at c
    refine .cons ?_ (vals_strs (by simpa using h) c.2)
    have c1 := c.1
    simp only at c1
    cases i <;> first | (cases c1; done) | skip
    rename_i y t
    have e : y = z := of_decide_eq_true c1
    rw [e]
    exact ⟨_, rfl⟩
theorem tupB_ok {K : PySem.W.Frag} {x : Str} {zs : List Str} (hz : zs.length ≤ sizeLine) (h : tupB x zs K = true) : ∀ H, SqT K H (He.ga K x) (zs.map V.str) := by
  intro H
  unfold tupB at h
  split at h
  · rename_i dd its n sl e
    obtain ⟨h1, h2⟩ := He.ba h
    have l := of_decide_eq_true h1
    exact .inr ⟨_, its, n, e, rfl, rfl, by rw [l]; exact hz, vals_strs (by rw [Array.length_toList]; exact l) h2⟩
  · cases h
end Hk
namespace Z
open PySem PySem.Spec PyProof.Rows L2
/-! ### C(e, .., k = v): every parameter is written, the last ones by their names -/
def MakN (P : Program) (w : World) (K : PySem.W.Frag) (mg : Str → Option Value) (base : Heap) (k : Nat) (x : Str) (C : Addr) (sp : Sp) (n : Nat) (ks : List Str) : Prop := ∃ f fd ps g, Mk K C f ∧ FnOk P w K mg base C8.CX0 k f fd ps sp ∧ mg x = some (.ref C) ∧ KBn K fd ps (n + 1) ks g (fun vs zs => vs ++ zs)
theorem e_mkN {X : Cx} {k j n : Nat} {x : Str} {C : Addr} {sp : Sp} {ks : List Str} {e : Expr} {es : List Expr} {kws : List Keyword} {t tk : TA} {p pos : Pos} (c : MakN X.prog X.w X.K X.mg X.base k x C sp n ks) (hr : Room j X.A) (hk : k + 1 ≤ j) (hg : Gl X x) (ha : PA X (e :: es) t) (hkw : PK X kws tk)
    (hall : (backToKw pos (keywordEach kws X.env)).all (·.1.isSome) = true := by rfl) (hks : (backToKw pos (keywordEach kws X.env)).filterMap (·.1) = ks := by rfl)
    (hdb : (x == ("__debug__" : Str)) = false := by decide) (he : starEach (e :: es) X.env = (false, eval e X.env) :: starEach es X.env := by rfl)
    (hpl : ((backTo pos (starEach (e :: es) X.env)).any (·.1) || (backToKw pos (keywordEach kws X.env)).any (·.1.isNone)) = false := by rfl) :
    PE X (.Call (.Name x p) (e :: es) kws pos) (tMakeN C n ks.length sp (fun vs zs => vs ++ zs) C8.E0 t tk) := by
  obtain ⟨f, fd, ps, g, M, F, hm, b⟩ := c
  exact pe_makeN M F (hr.mono hk) hg hm b C8.pass0 ha hkw hall hks hdb he hpl
end Z
namespace Z
open PySem PySem.Spec PyProof.Rows L2
/-! ### min(xs, default = d), max(xs, default = d) of a list of ints -/
def yMinDf (K : PySem.W.Frag) : List V → List V → Hp → VK → Prop := fun xs zs H Q => ∃ (a : Addr) (ns : List Int) (d : Int), xs = [.ref a] ∧ zs = [.int d] ∧ SqL K H a (ns.map V.int) ∧ (ns = [] → Q (.int d) H) ∧ ∀ m, m ∈ ns → (∀ y, y ∈ ns → m ≤ y) → Q (.int m) H
def yMaxDf (K : PySem.W.Frag) : List V → List V → Hp → VK → Prop := fun xs zs H Q => ∃ (a : Addr) (ns : List Int) (d : Int), xs = [.ref a] ∧ zs = [.int d] ∧ SqL K H a (ns.map V.int) ∧ (ns = [] → Q (.int d) H) ∧ ∀ m, m ∈ ns → (∀ y, y ∈ ns → y ≤ m) → Q (.int m) H
theorem alike_ints (ns : List Int) : PySem.W.AlikeAll (ns.map PyData.int) := by
  refine ⟨fun x hx y hy => ?_, fun x hx => ?_⟩
  · obtain ⟨a, _, rfl⟩ := List.mem_map.mp hx
    obtain ⟨b, _, rfl⟩ := List.mem_map.mp hy
    rfl
  · obtain ⟨a, _, rfl⟩ := List.mem_map.mp hx
    exact fun e => by cases e
theorem depth_ints : ∀ ns : List Int, PyData.depthAll (ns.map PyData.int) ≤ 1
  | [] => by simp [PyData.depthAll]
  | n :: ns => by
    have := depth_ints ns
    rw [List.map_cons]
    simp only [PyData.depthAll, PyData.depth]
    omega
theorem foldl_min : ∀ (ns : List Int) (n : Int), (ns.foldl min n) ∈ n :: ns ∧ ∀ y ∈ n :: ns, ns.foldl min n ≤ y
  | [], n => ⟨List.mem_cons_self .., fun y hy => by rw [List.mem_singleton.mp hy]; exact Int.le_refl _⟩
  | k :: ns, n => by
    obtain ⟨a, b⟩ := foldl_min ns (min n k)
    show ns.foldl min (min n k) ∈ n :: k :: ns ∧ ∀ y ∈ n :: k :: ns, ns.foldl min (min n k) ≤ y
    have bm := b (min n k) (List.mem_cons_self ..)
    refine ⟨?_, fun y hy => ?_⟩
    · rcases List.mem_cons.mp a with e | e
      · rw [e]
        rcases Int.le_total n k with h | h
        · rw [Int.min_eq_left h]; exact List.mem_cons_self ..
        · rw [Int.min_eq_right h]; exact List.mem_cons_of_mem _ (List.mem_cons_self ..)
      · exact List.mem_cons_of_mem _ (List.mem_cons_of_mem _ e)
    · rcases List.mem_cons.mp hy with rfl | hy
      · omega
      · rcases List.mem_cons.mp hy with rfl | hy
        · omega
        · exact b y (List.mem_cons_of_mem _ hy)
theorem foldl_max : ∀ (ns : List Int) (n : Int), (ns.foldl max n) ∈ n :: ns ∧ ∀ y ∈ n :: ns, y ≤ ns.foldl max n
  | [], n => ⟨List.mem_cons_self .., fun y hy => by rw [List.mem_singleton.mp hy]; exact Int.le_refl _⟩
  | k :: ns, n => by
    obtain ⟨a, b⟩ := foldl_max ns (max n k)
    show ns.foldl max (max n k) ∈ n :: k :: ns ∧ ∀ y ∈ n :: k :: ns, y ≤ ns.foldl max (max n k)
    have bm := b (max n k) (List.mem_cons_self ..)
    refine ⟨?_, fun y hy => ?_⟩
    · rcases List.mem_cons.mp a with e | e
      · rw [e]
        rcases Int.le_total n k with h | h
        · rw [Int.max_eq_right h]; exact List.mem_cons_of_mem _ (List.mem_cons_self ..)
        · rw [Int.max_eq_left h]; exact List.mem_cons_self ..
      · exact List.mem_cons_of_mem _ (List.mem_cons_of_mem _ e)
    · rcases List.mem_cons.mp hy with rfl | hy
      · omega
      · rcases List.mem_cons.mp hy with rfl | hy
        · omega
        · exact b y (List.mem_cons_of_mem _ hy)
theorem dpAll_ints {K : PySem.W.Frag} {H : Hp} : ∀ ns : List Int, DpAll K H (ns.map V.int) (ns.map PyData.int)
  | [] => .nil
  | n :: ns => .cons (.int n) (dpAll_ints ns)
theorem c_minDf {X : Cx} (hc : X.calm = true) (hu : X.A.units + 2 < cLine) : CallRK X (.builtin "min") ["default"] (yMinDf X.K) := by
  intro pins s σ H xs zs us ws Q I r1 r2 h
  obtain ⟨a, ns, d, rfl, rfl, hs, q0, q⟩ := h
  obtain ⟨its, rv, hl, _⟩ := I.list hs
  rw [Vals.ref1 r1]
  obtain ⟨as, hr⟩ := Dp.readsAll I (ns.map PyData.int) _ _ (dpAll_ints ns) rv
  cases r2 with
  | @cons _ u _ _ rd rn =>
    cases rn
    have hu' : X.A.units + 1 + PyData.depthAll (ns.map PyData.int) < cLine := by have := depth_ints ns; omega
    refine PySem.W.min_list_default (vs := its.toArray) (I.ok.hd hc) hl.isList hr (alike_ints ns) hu' (fun e h' tk hk => ?_) (fun y ys i v h' tk bs e hv rd' hk => ?_)
    · exact ⟨.int d, H, I.kept hk, rd, q0 (List.map_eq_nil_iff.mp e)⟩
    · cases ns with
      | nil => cases e
      | cons n ns =>
        obtain ⟨rfl, rfl⟩ := List.cons.inj e
        rw [PySem.W.minD_ints] at rd'
        obtain ⟨f1, f2⟩ := foldl_min ns n
        cases rd' with
        | int t => exact ⟨.int _, H, I.kept hk, ⟨_, rfl⟩, q _ f1 f2⟩
theorem c_maxDf {X : Cx} (hc : X.calm = true) (hu : X.A.units + 2 < cLine) : CallRK X (.builtin "max") ["default"] (yMaxDf X.K) := by
  intro pins s σ H xs zs us ws Q I r1 r2 h
  obtain ⟨a, ns, d, rfl, rfl, hs, q0, q⟩ := h
  obtain ⟨its, rv, hl, _⟩ := I.list hs
  rw [Vals.ref1 r1]
  obtain ⟨as, hr⟩ := Dp.readsAll I (ns.map PyData.int) _ _ (dpAll_ints ns) rv
  cases r2 with
  | @cons _ u _ _ rd rn =>
    cases rn
    have hu' : X.A.units + 1 + PyData.depthAll (ns.map PyData.int) < cLine := by have := depth_ints ns; omega
    refine PySem.W.max_list_default (vs := its.toArray) (I.ok.hd hc) hl.isList hr (alike_ints ns) hu' (fun e h' tk hk => ?_) (fun y ys i v h' tk bs e hv rd' hk => ?_)
    · exact ⟨.int d, H, I.kept hk, rd, q0 (List.map_eq_nil_iff.mp e)⟩
    · cases ns with
      | nil => cases e
      | cons n ns =>
        obtain ⟨rfl, rfl⟩ := List.cons.inj e
        rw [PySem.W.maxD_ints] at rd'
        obtain ⟨f1, f2⟩ := foldl_max ns n
        cases rd' with
        | int t => exact ⟨.int _, H, I.kept hk, ⟨_, rfl⟩, q _ f1 f2⟩
theorem hu2 {k : Nat} {A : Around} (r : Room k A) : A.units + 2 < cLine := by
  have := r.un
  omega
end Z
namespace Z
open PySem PySem.Spec PyProof.Rows L2
/-! ### o[i] += e of a list of ints -/
def yGetL : V → V → Hp → VK → Prop := fun o i H Q => match o, i with
  | .ref p, .int k => (match H p with
    | some (.lst xs) => (0 ≤ k ∧ k < 1000000000) ∧ isNone xs[k.toNat]? fun v => Q v H
    | _ => False)
  | _, _ => False
theorem get_list {X : Cx} : PGet X yGetL := by
  intro pins s σ H o i ov iv Q I ro ri h
  unfold yGetL at h
  split at h
  · rename_i p k
    split at h
    · rename_i xs e
      obtain ⟨⟨k0, k1⟩, h⟩ := h
      obtain ⟨v, ev, q⟩ := isNone_ok h
      cases ro
      obtain ⟨t, rfl⟩ := ri
      obtain ⟨its, r, pl, hz⟩ := I.list (SqL.of e)
      obtain ⟨w, ew, rw'⟩ := r.get ev
      exact wpAny_getItem_list pl.isList k0 (by omega) (by simpa using ew) ⟨v, H, I, rw', q⟩
    · exact h.elim
  · exact h.elim
def yIAdd : V → V → Hp → VK → Prop := fun x y H Q => match x, y with
  | .int i, .int j => Q (.int (i + j)) H
  | _, _ => False
theorem ip_addI {X : Cx} : PIp X .Add yIAdd := by
  intro pins s σ H x y v u Q I r1 r2 h
  refine ip_add pins s σ H x y v u Q I r1 r2 ?_
  unfold yIAdd at h
  split at h
  · exact ⟨_, _, rfl, rfl, h⟩
  · exact h.elim
def zAugS (to ti te : TE) : TS := fun D σ H => to σ H fun o H1 => ti σ H1 fun i H2 => yGetL o i H2 fun x H3 => te σ H3 fun y H4 => yIAdd x y H4 fun z H5 => ySet o i z H5 fun H6 => D.nx σ H6
theorem s_augS {X : Cx} {o i e : Expr} {to ti te : TE} {tpos pos : Pos} (hu : X.A.units + 1 < cLine) (ho : PE X o to) (hi : PE X i ti) (he : PE X e te)
    (ha : ∀ ov iv new, augStore i ov iv new = (do holding [new, ov, iv] (setItem ov iv new); release [new, ov, iv] []; pure .next) := by intros; rfl) : PS X (.AugAssign (.Subscript o i tpos) .Add e pos) (zAugS to ti te) :=
  ps_augS ho hi get_list he ip_addI (set_any hu) ha
/-! ### f(e, .., k = v, ..) of an own def -/
def CalN (P : Program) (w : World) (K : PySem.W.Frag) (mg : Str → Option Value) (base : Heap) (k : Nat) (x : Str) (sp : Sp) (n : Nat) (ks : List Str) (gV : List V → List V → List V) : Prop := ∃ f fd ps g, FnOk P w K mg base C8.CX0 k f fd ps sp ∧ mg x = some (.ref f) ∧ PySem.W.keepIn K (.ref f) = true ∧ KBn K fd ps n ks g gV
theorem e_cN {X : Cx} {k j n : Nat} {x : Str} {sp : Sp} {ks : List Str} {gV : List V → List V → List V} {e : Expr} {es : List Expr} {kws : List Keyword} {t tk : TA} {p pos : Pos} (c : CalN X.prog X.w X.K X.mg X.base k x sp n ks gV) (hr : Room j X.A) (hk : k ≤ j) (hg : Gl X x) (ha : PA X (e :: es) t) (hkw : PK X kws tk)
    (hall : (backToKw pos (keywordEach kws X.env)).all (·.1.isSome) = true := by rfl) (hks : (backToKw pos (keywordEach kws X.env)).filterMap (·.1) = ks := by rfl)
    (hdb : (x == ("__debug__" : Str)) = false := by decide) (he : starEach (e :: es) X.env = (false, eval e X.env) :: starEach es X.env := by rfl)
    (hpl : ((backTo pos (starEach (e :: es) X.env)).any (·.1) || (backToKw pos (keywordEach kws X.env)).any (·.1.isNone)) = false := by rfl) :
    PE X (.Call (.Name x p) (e :: es) kws pos) (tCallN n ks.length sp gV C8.E0 t tk) := by
  obtain ⟨f, fd, ps, g, F, hm, hkp, b⟩ := c
  exact pe_callN F (hr.mono hk) hg hm hkp b C8.pass0 ha hkw hall hks hdb he hpl
end Z
namespace Z
open PySem PySem.Spec PyProof.Rows L2 PySem.SeqAt
open AutoSeq1 (wpAny_loadPart')
open MeetsSeq MeetsSeq2 MeetsSeq3 SeqRoads2
/-! ### two lists of own objects, equal one by one: != -/
section
variable {prog : Program} {w : World} {A : Around} {R : Result → Shared → Prop}
theorem ne_loopG (l b : Addr) (N : Nat) (I : Nat → Shared → Prop) (hl : GQ.ListI prog w A (fun e s' => R (.error e) s') l b N I)
    (fin : ∀ s, I N s → R (.ok (.ret (.bool false))) s) (k : Nat) :
    ∀ i : Nat, N - i = k → i ≤ N → ∀ s, I i s →
      wpAny (model prog w) A.in1 (Builtin.«list.__eq__.loop» ⟨[.ref l, .ref b, rawInt i, rawInt 3], []⟩) (GQ.FinOf prog w A R) (fun e s' => R (.error e) s') s := by
  induction k with
  | zero =>
    intro i hk hi s h
    obtain ⟨items, items2, n, n2, hl1, hb1, hs1, hs2, _⟩ := hl _ _ h
    have hi' : i = N := by omega
    have hR : R (.ok (.ret (.bool false))) s := fin s (hi' ▸ h)
    obtain ⟨hp, g, d, tk, os⟩ := s
    wp_walk using wpAny_loadPart' hl1, wpAny_loadPart' hb1
    have hi1 : items[((i : Nat) : Int).toNat]? = none := by simp; omega
    have hi2 : items2[((i : Nat) : Int).toNat]? = none := by simp; omega
    rw [hi1, hi2]
    wp_walk using wpAny_loadPart' hl1, wpAny_loadPart' hb1
    show R (.ok (.ret (.bool (items.size != items2.size)))) _
    rw [hs1, hs2]
    simpa using hR
  | succ k ih =>
    intro i hk hi s h
    obtain ⟨items, items2, n, n2, hl1, hb1, hs1, hs2, turn⟩ := hl _ _ h
    have hlt : i < items.size := by omega
    have hlt2 : i < items2.size := by omega
    have ht := turn hlt hlt2
    obtain ⟨hp, g, d, tk, os⟩ := s
    wp_walk using wpAny_loadPart' hl1, wpAny_loadPart' hb1
    have hi1 : items[((i : Nat) : Int).toNat]? = some items[i] := by simp [hlt]
    have hi2 : items2[((i : Nat) : Int).toNat]? = some items2[i] := by simp [hlt2]
    have hc : ((i : Int) + 1) = ((i + 1 : Nat) : Int) := by omega
    rw [hi1, hi2]
    refine wpAny_bind (wpAny_mono ht (fun r s2 h2 => ?_) fun _ _ x => x)
    obtain ⟨hr, h2⟩ := h2
    subst hr
    have hrec := ih (i + 1) (by omega) (by omega) s2 h2
    obtain ⟨hp2, g2, d2, tk2, os2⟩ := s2
    wp_walk
    rw [hc]
    exact ⟨plainId_quiet plain_eq_loop _, codeAny_builtin entry_eq_loop (by
      rw [Around.under_plainId plain_eq_loop _]
      exact hrec)⟩
theorem list_neG (l b : Addr) (N : Nat) (I : Nat → Shared → Prop) (hl : GQ.ListI prog w A (fun e s' => R (.error e) s') l b N I)
    (fin : ∀ s, I N s → R (.ok (.ret (.bool false))) s) {s : Shared} (h : I 0 s) :
    wpAny (model prog w) A.in1 (Builtin.«list.__ne__» ⟨[.ref l, .ref b], []⟩) (GQ.FinOf prog w A R) (fun e s' => R (.error e) s') s := by
  obtain ⟨items, items2, n, n2, hl1, hb1, hs1, hs2, _⟩ := hl _ _ h
  have hrec := ne_loopG (A := A) (R := R) l b N I hl fin _ 0 rfl (Nat.zero_le _) s h
  obtain ⟨hp, g, d, tk, os⟩ := s
  have f3 := AutoSeq1.sub_list_list
  have hne : ¬ (items.size != items2.size) = true := by simp [hs1, hs2]
  wp_walk using wpAny_loadPart' hl1, wpAny_loadPart' hb1
  exact ⟨plainId_quiet plain_eq_loop _, codeAny_builtin entry_eq_loop (by
    rw [Around.under_plainId plain_eq_loop _]
    exact hrec)⟩
theorem rc_listNeG {E : Value → Shared → Prop} {s : Shared} {l b : Addr} {N : Nat} {Q : Value → Shared → Prop} (hu : A.units < cLine) (I : Nat → Shared → Prop) (hl : GQ.ListI prog w A E l b N I)
    (fin : ∀ s, I N s → Q (.bool false) s) (h : I 0 s) : wpAny (model prog w) A (richCompare .NotEq (.ref l) (.ref b)) Q E s := by
  obtain ⟨items, items2, n, n2, hl1, hb1, _, _, _⟩ := hl _ _ h
  refine wpAny_richCompare_same_room (op := .NotEq) ⟨_, hl1, rfl⟩ ⟨_, hb1, rfl⟩ F.slot_list_ne (GQ.call_here F.slot_list_ne ⟨_, hl1, rfl⟩ F.entry_list_ne (F.args_list_ne_2 _ _) ?_) hu
  exact list_neG (R := wants (fun v s' => v ≠ .notImplemented ∧ Q v s') E) l b N I hl (fun s' q => ⟨(fun x => nomatch x), fin s' q⟩) h
end
/-- two lists whose things are equal one by one -/
def AllD (D : EqRel) (xs ys : List V) (H : Hp) : Prop := xs.length = ys.length ∧ ∀ (i : Nat) x y, xs[i]? = some x → ys[i]? = some y → D x y H true
def yNeL (D : EqRel) : R2 := fun x y H Q => match x, y with
  | .ref p, .ref r => (match H p, H r with
    | some (.lst xs), some (.lst ys) => AllD D xs ys H ∧ Q (.bl false) H
    | _, _ => False)
  | _, _ => False
section
variable {X : Cx} {n : Nat} {D : EqRel}
theorem o_neL (h : EqD X n D) (hr : Room (n + 1) X.A) : OpR X (compareOp .NotEq) (yNeL D) := by
  intro pins s σ H x y v u Q I rx ry q
  unfold yNeL at q
  split at q
  · rename_i p r
    split at q
    · rename_i xs ys hp hq
      obtain ⟨⟨hl, hd⟩, q⟩ := q
      cases rx
      cases ry
      have sb : L2.Sub X (n + 1) X.A := ⟨hr, rfl⟩
      show wpAny _ X.A (richCompare .NotEq (.ref p) (.ref r)) _ _ s
      refine rc_listNeG hr.units0 (fun _ s' => Inv X pins σ H s') (N := xs.length) (fun i s' I' => ?_) (fun s' I' => ⟨.bl false, H, I', rfl, q⟩) I
      obtain ⟨z, its, n0, r1, e0⟩ := I'.hok p _ hp
      obtain ⟨z2, its2, n2, r2, e02⟩ := I'.hok r _ hq
      have l1 := r1.length
      have l2 := r2.length
      refine ⟨its.toArray, its2.toArray, n0, n2, e0, e02, by simp; omega, by simp; omega, fun h1 h2 => ?_⟩
      have k1 : i < xs.length := by rw [l1]; simpa using h1
      have k2 : i < ys.length := by rw [l2]; simpa using h2
      obtain ⟨w1, e1, rv1⟩ := r1.get (List.getElem?_eq_getElem k1)
      obtain ⟨w2, e2, rv2⟩ := r2.get (List.getElem?_eq_getElem k2)
      have g1 : its.toArray[i] = w1 := by
        have h1' : i < its.length := by simpa using h1
        rw [List.getElem?_eq_getElem h1'] at e1
        simpa using e1
      have g2 : its2.toArray[i] = w2 := by
        have h2' : i < its2.length := by simpa using h2
        rw [List.getElem?_eq_getElem h2'] at e2
        simpa using e2
      rw [g1, g2]
      exact h X.A.in1 pins s' σ H _ _ w1 w2 true sb.in1 I' rv1 rv2 (hd i _ _ (List.getElem?_eq_getElem k1) (List.getElem?_eq_getElem k2))
    · exact q.elim
  · exact q.elim
/-! ### for over a range with a step -/
def zForR3 (ta tb tc : TE) (g : TG) (tS : TS) : TS := fun D σ H => iR3 ta tb tc σ H fun J H1 => loopOn J g tS D σ H1
theorem s_forR3 {tg a b c : Expr} {ta tb tc : TE} {g : TG} {body : List Stmt} {tS : TS} {p2 pos2 pos : Pos} (hp : PassesOwn (model X.prog X.w) X.A X.env X.xe) (hcm : X.calm = true) (hg : Gl X "range") (hm : X.mg "range" = none) (ha : PE X a ta) (hb : PE X b tb) (hc : PE X c tc) (hgt : PG X tg g) (hB : PSs X body tS)
    (h1 : starEach [a, b, c] X.env = (false, eval a X.env) :: starEach [b, c] X.env := by rfl) (h2 : starEach [b, c] X.env = (false, eval b X.env) :: starEach [c] X.env := by rfl) (h3 : starEach [c] X.env = (false, eval c X.env) :: starEach [] X.env := by rfl)
    (h4 : (backTo pos2 (starEach [b, c] X.env)).any (·.1) = false := by rfl) (hs : ∀ x, foldedSetIterable (.Call (.Name "range" p2) [a, b, c] [] pos2) X.env x = pure x := by intro _; rfl) : PS X (.For tg (.Call (.Name "range" p2) [a, b, c] [] pos2) body [] pos) (zForR3 ta tb tc g tS) :=
  ps_for hp hcm (i_r3 hg hm ha hb hc h1 h2 h3 h4) hgt hB hs
end
theorem vals_one {zs : List V} {ws : List Value} (r : Vals zs ws) (k : Nat) : Vals ((zs.drop k).take 1) ((ws.drop k).take 1) := by
  induction r generalizing k with
  | nil => simp; exact .nil
  | cons h r ih =>
    cases k with
    | zero => simp; exact .cons h .nil
    | succ k => simpa using ih k
end Z
namespace Z
open PySem PySem.Spec PyProof.Rows L2
/-! ### a def that knows which lists are being shown around it -/
open Classical in
noncomputable def guOf (g : List Code) (a : Addr) : Bool := decide (∃ v rest kw, Code.builtin "list.__repr__.loop" ⟨v :: rest, kw⟩ ∈ g ∧ Builtin.List.listSameRef v (.ref a) = true)
section
variable {P : Program} {w : World} {K : PySem.W.Frag} {mg : Str → Option Value} {base : Heap} {x qual : Str} {st : Stmt} {f : Addr}
theorem below_some {Γ : PySem.Ctx} {A : Around} (h : Γ.Below A) : Γ.Below { A with guards := some (guardsOf Γ.below) } :=
  ⟨h.1, h.2.1, h.2.2.1, fun g e => by cases e; rfl, h.2.2.2.2⟩
theorem run_at {N ps : List Str} {k : Nat} {sp : Sp} {fd : FuncData} (F : FunD K x qual (defArgs st) (defBody st) (defScope st) [] [] f fd) (S : FnScope N ps (defScope st)) (len : ∀ vs H Q E, sp vs H Q E → vs.length = ps.length) (A : Around)
    (body : ∀ (cdv : Value) (outer : List Env) (s : Shared) (H : Hp) (vs : List V) (Q : VK) (E : XK), Room k (A.deeper (envOfC qual (defScope st) s.heap.objs.size f cdv)) → sp vs H Q E →
      ∃ t, PSs (cxOf C8.CX0 P w K mg base N qual (defScope st) f cdv A outer s H E) (defBody st) t ∧ t { nx := fun _ H' => Q .non H', rt := Q } (start N vs) H)
    (outer : List Env) (s : Shared) (H : Hp) (args : Args) (us : List Value) (vs : List V) (Q : VK) (E : XK) (room : Room (k + 1) A) (env : Env0 P w K mg base A outer s H) (bd : BindsTo s fd args (ps.zip us)) (rel : Vals vs us) (pr : sp vs H Q E) :
    codeAny (model P w) A (.call (.ref f) args) (CR C8.CX0 outer P w H s Q E) s := by
  obtain ⟨oc, od, dV, kV, doc, pm, an, cdv, ct, osl, rfl, look, code, _, _⟩ := F.ex
  have len0 := len _ _ _ _ pr
  have inK : K.In s.heap := env.mod.kin.keeps fun b o e => (env.bs b o e).1
  have nolim : s.heap.NoLimit := env.mod.nolimit.keeps fun b o e => (env.bs b o e).1
  refine codeAny_call_function room.depth (inK _ _ look) rfl S.co S.gen rfl (PySem.W.codeRec_of inK code) (bd _ _ _ _ ?_)
  refine wpAny_newFunctionEnv_cells S.kind (fun y hy => ?_) fun ev hv s2 ic => ?_
  · have hm : y.1 ∈ ps := (List.of_mem_zip (show (y.1, y.2) ∈ ps.zip us from hy)).1
    exact (S.par y.1 hm).elim .inl fun q => .inr ⟨q, PySem.W.cellsFrom_some _ _ _ (.inl q)⟩
  · subst hv
    refine ⟨nolim.keeps ic.toInCall.keep, codeAny_func ?_⟩
    obtain ⟨t, pt, ht⟩ := body cdv outer s H vs Q E (room.deeper _) pr
    have J : Inv (cxOf C8.CX0 P w K mg base N qual (defScope st) f cdv A outer s H E) [] (start N vs) H s2 := inv_start S room.hd env len0 rel ic
    refine wpAny_mono (pt.run [] s2 (start N vs) H _ J ht) (fun fl s' z => ?_) fun e s' z => z
    cases fl with
    | ret u =>
      obtain ⟨v, σ', H', J', rv, q⟩ := z
      exact ⟨v, H', J'.os, J'.bare, J'.base, J'.hok, rv, q⟩
    | next =>
      obtain ⟨σ', H', J', q⟩ := z
      exact ⟨V.non, H', J'.os, J'.bare, J'.base, J'.hok, rfl, q⟩
    | brk => exact z.elim fun _ z => z.elim fun _ z => z.2.elim
    | cont => exact z.elim fun _ z => z.elim fun _ z => z.2.elim
theorem fn_okG {N ps : List Str} {k : Nat} {sp : Sp} {fd : FuncData} (F : FunD K x qual (defArgs st) (defBody st) (defScope st) [] [] f fd) (S : FnScope N ps (defScope st)) (len : ∀ vs H Q E, sp vs H Q E → vs.length = ps.length) {t : (Addr → Bool) → TS}
    (hd : ∀ (cdv : Value) (A : Around) (outer : List Env) (s : Shared) (H : Hp) (E : XK) (g : List Code), A.guards = some g → Room k (A.deeper (envOfC qual (defScope st) s.heap.objs.size f cdv)) → PSs (cxOf C8.CX0 P w K mg base N qual (defScope st) f cdv A outer s H E).nox (defBody st) (t (guOf g)))
    (hrd : ∀ gu vs H Q E, sp vs H Q E → t gu { nx := fun _ H' => Q .non H', rt := Q } (start N vs) H) : FnOk P w K mg base C8.CX0 (k + 1) f fd ps sp := by
  refine ⟨len, fun A outer s H args us vs Q E hr e0 hb r hsp Γ p hc hB => ?_⟩
  refine run_at F S len { A with guards := some (guardsOf Γ.below) } (fun cdv outer s H vs Q E hr' h => ⟨t (guOf (guardsOf Γ.below)), PSs.nox (hd cdv _ outer s H E _ rfl hr'), hrd _ vs H Q E h⟩) outer s H args us vs Q E ⟨hr.hd, hr.dp, hr.un⟩ ⟨e0.frames, e0.mod, e0.bs, e0.bsz, e0.funs, e0.frf, e0.hok, e0.bare⟩ hb r hsp Γ p hc (below_some hB)
end
/-! ### repr of a list of own objects -/
def DRep (C : Addr) (sp : Sp) (x : V) (t : Str) (H : Hp) : Prop := ∃ a dx fs, x = .ref a ∧ H a = some (.ins C dx fs) ∧ sp [x] H (fun v H' => v = .str t ∧ H' = H) C8.E0
def yReprL (gu : Addr → Bool) (C : Addr) (sp : Sp) : List V → Hp → VK → Prop := fun vs H Q => match vs with
  | [.ref a] => (match H a with
    | some (.lst xs) => ∃ ts : List Str, ts.length = xs.length ∧ (listText ts).length ≤ sizeLine ∧ (∀ H', Same H H' → ∀ (i : Nat) x t, xs[i]? = some x → ts[i]? = some t → DRep C sp x t H') ∧ ∀ H', Same H H' → Q (.str (if xs.isEmpty then "[]" else if gu a then "[...]" else listText ts)) H'
    | _ => False)
  | _ => False
theorem same_new {H : Hp} {p : Addr} {o : HO} (h : H p = none) : Same H (upd H p o) := fun c u e => by
  rw [upd_ne (fun z => by rw [z, h] at e; cases e)]; exact e
open Classical in
theorem guOf_yes {g : List Code} {a : Addr} (h : guOf g a = true) : ∃ v rest kw, Code.builtin "list.__repr__.loop" ⟨v :: rest, kw⟩ ∈ g ∧ Builtin.List.listSameRef v (.ref a) = true := by
  unfold guOf at h; exact of_decide_eq_true h
open Classical in
theorem guOf_no {g : List Code} {a : Addr} (h : ¬ guOf g a = true) : ¬ ∃ v rest kw, Code.builtin "list.__repr__.loop" ⟨v :: rest, kw⟩ ∈ g ∧ Builtin.List.listSameRef v (.ref a) = true := fun z => h (by unfold guOf; exact decide_eq_true z)
section
variable {X : Cx} {k j : Nat} {C : Addr} {sp : Sp}
theorem bound_own {K : PySem.W.Frag} {M : Model} {A : Around} {E : Value → Shared → Prop} {s : Shared} {a f : Addr} {ox : Obj} {od : Option Obj} {name : Str} {last : Value → List Value → Sem Value} {Q : Option Value → Shared → Prop} (kin : K.In s.heap) (J : PySem.W.InstAt s.heap a ox C od) (me : PySem.W.findIn K (.ref C) name = some (some (.ref f))) (fn : PySem.W.isFn K (.ref f) = true)
    (h : wpAny M A (last (.ref f) [.ref a]) (fun v => Q (some v)) E s) : wpAny M A (callSpecialIfBoundBy? last (.ref a) name) Q E s := by
  simp only [callSpecialIfBoundBy?, bindSpecialIfBound?]
  refine wpAny_holding (wpAny_bind (wpAny_bind (wpAny_bind (J.type.here ((PySem.W.looks_findIn kin me).here ?_)))))
  have last' : wpAny M A (last (.ref f) [.ref a] >>= fun v => pure (some v)) Q E s := wpAny_bind (wpAny_mono h (fun v s' z => wpAny_pure z) fun _ _ z => z)
  refine wpAny_bind (wpAny_askSetting (wpAny_ite ?_))
  split
  · exact wpAny_bind ((PySem.W.bind_fn kin _ (beq_iff_eq.mp fn)).here (wpAny_pure last'))
  · exact wpAny_tryCatch (wpAny_bind ((PySem.W.bind_fn kin _ (beq_iff_eq.mp fn)).here (wpAny_pure last')))
theorem rep_own (c : C8.Met X.prog X.w X.K X.mg X.base k C "__repr__" sp []) {A : Around} (sb : L2.Sub X k A) {pins : List (Addr × Obj)} {s : Shared} {σ : L2.St} {H : Hp} {x : V} {t : Str} {v : Value} {b : Nat} (I : Inv X pins σ H s) (rx : L2.RelV x v) (d : DRep C sp x t H) (hb : b + t.length ≤ sizeLine) {Q : Str → Shared → Prop} (q : ∀ s', Inv X pins σ H s' → Q t s') :
    wpAny (model X.prog X.w) A (pyReprUnder b v) Q X.xe s := by
  obtain ⟨a, dx, fs, rfl, ha, d⟩ := d
  cases rx
  obtain ⟨f, fd, ps, ds, cl, me, F, bb, hd⟩ := c
  obtain ⟨ox, od, J⟩ := inst_at I ha
  refine wpAny_pyReprUnder_ref (by omega) ?_
  unfold pyReprObjUnder pyReprObjBy
  refine wpAny_bind (wpAny_cRoomFor sb.room.units0 ?_)
  refine wpAny_bind (wpAny_bind (J.type.here ((PySem.W.looks_findIn I.kIn me.at_).here ?_)))
  show wpAny _ _ (if (some (Value.ref f)).isNone = true then _ else _) _ _ _
  rw [if_neg (by simp)]
  refine wpAny_bind (bound_own I.kIn J me.at_ me.fn ?_)
  have IA : Inv { X with A := A } pins σ H s := by
    obtain ⟨ok, os, bare, base, loc, cell, free, freeC, pin, hok, len⟩ := I
    exact ⟨⟨ok.mod, ok.kind, ok.glob, ok.blt, ok.above, ok.inj, ok.has, ok.cab, fun h => sb.room.hd, by rw [sb.fr]; exact ok.frames, ok.stk, ok.exf, ok.bs, ok.bsz, ok.noex, ok.exfs, ok.funs, ok.frf⟩, os, bare, base, loc, cell, free, freeC, pin, hok, len⟩
  show wpAny _ _ (call (.ref f) [.ref a]) _ _ _
  refine thn (run_fn (X := { X with A := A }) (us := [.ref a]) (vs := [.ref a]) F sb.room bb hd C8.pass0 IA (.cons rfl .nil) d) fun r s' ⟨z, H', I', rz, ez, eH⟩ => ?_
  subst ez eH
  obtain ⟨u, rfl⟩ := rz
  have IB : Inv X pins σ H' s' := by
    obtain ⟨ok, os, bare, base, loc, cell, free, freeC, pin, hok, len⟩ := I'
    exact ⟨I.ok, os, bare, base, loc, cell, free, freeC, pin, hok, len⟩
  exact wpAny_bind (wpAny_isInstance (T := "str") (b := true) rfl isSubtype_str_str (wpAny_pure ⟨_, _, rfl, q _ IB⟩))
theorem vals_strs : ∀ {l : List Str} {its : List Value}, Vals (l.map V.str) its → ∃ dn : List (Str × Tok), its = strValues dn ∧ dn.map (·.1) = l
  | [], _, r => by cases r; exact ⟨[], rfl, rfl⟩
  | y :: l, _, r => by
    cases r with
    | cons r1 r2 =>
      obtain ⟨u, rfl⟩ := r1
      obtain ⟨dn, e1, e2⟩ := vals_strs r2
      exact ⟨(y, u) :: dn, by rw [e1]; rfl, by rw [List.map_cons, e2]⟩
open Builtin Builtin.List in
theorem rep_loop (c : C8.Met X.prog X.w X.K X.mg X.base k C "__repr__" sp []) {A : Around} {R : Result → Shared → Prop} (sb : ∀ args, L2.Sub X k (A.under (.builtin "list.__repr__.loop" args))) {pins : List (Addr × Obj)} {σ : L2.St} {a P : Addr} {xs : List V} {ts : List Str} (hne : a ≠ P) (hl : ts.length = xs.length) {H0 : Hp} (ha : H0 a = some (.lst xs)) (hP : H0 P = none)
    (hd : ∀ H', Same H0 H' → ∀ (i : Nat) x t, xs[i]? = some x → ts[i]? = some t → DRep C sp x t H') (hz : (listText ts).length ≤ sizeLine) (hE : ∀ y s', X.xe y s' → R (.error y) s')
    (fin : ∀ s' u, Inv X pins σ (upd H0 P (.lst (ts.map V.str))) s' → R (.ok (.ret (.str (listText ts) u))) s') :
    ∀ (n i : Nat) (s : Shared), xs.length - i = n → i ≤ xs.length → Inv X pins σ (upd H0 P (.lst ((ts.take i).map V.str))) s → codeAny (model X.prog X.w) A (.builtin "list.__repr__.loop" ⟨[.ref a, rawInt i, .ref P, rawInt ((piled (ts.take i) : Nat) : Int)], []⟩) R s := by
  have lp := piled_le_listText ts
  have lt := textFrom_len ts 0 "["
  have lX : (listText ts).length = (textFrom 0 "[" ts).length + 1 := by
    show (textFrom 0 "[" ts ++ "]").length = _
    rw [strLen_append]; rfl
  intro n
  induction n with
  | zero =>
    intro i s hn hi I
    obtain ⟨_, ia, na, va, la, ga⟩ := I.lstM (show (upd H0 P _) a = some (.lst xs) by rw [upd_ne hne]; exact ha)
    obtain ⟨_, ip, np, vp, lpp, gp⟩ := I.lstM upd_same
    refine codeAny_builtin F.entry_list_repr_loop ?_
    show wpAny _ _ («list.__repr__.loop» ⟨[.ref a, .int i 0, .ref P, .int ((piled (ts.take i) : Nat) : Int) 0], []⟩) _ _ s
    rw [repr_loop_tree]
    refine wpAny_bind (wpAny_listItems ga rfl ?_)
    have e0 : ia.toArray[(i : Int).toNat]? = none := by simp; omega
    simp only [e0]
    unfold reprEnd
    refine wpAny_bind (wpAny_listItems gp rfl ?_)
    obtain ⟨dn, e1, e2⟩ := vals_strs vp
    have et : ts.take i = ts := by rw [show i = ts.length by omega, List.take_length]
    rw [et] at e2 I
    show wpAny _ _ (forIn (ip.toArray.toList.zipIdx) _ reprBody >>= _) _ _ _
    rw [show ip.toArray.toList = strValues dn from e1, repr_fold, e2]
    refine wpAny_bind (wpAny_pure (wpAny_bind (wpAny_mkStr (wpAny_pure ?_) hz)))
    exact fin _ _ (I.tok _)
  | succ n ih =>
    intro i s hn hi I
    have hi' : i < xs.length := by omega
    obtain ⟨za, ia, na, va, la, ga⟩ := I.lstM (show (upd H0 P _) a = some (.lst xs) by rw [upd_ne hne]; exact ha)
    have hx : xs[i]? = some xs[i] := List.getElem?_eq_getElem hi'
    have htl : i < ts.length := by omega
    have ht : ts[i]? = some ts[i] := List.getElem?_eq_getElem htl
    obtain ⟨v, hv, rv⟩ := va.get hx
    have p1 := piled_take_succ ht
    have p2 := piled_take_le ts (i + 1)
    refine codeAny_builtin F.entry_list_repr_loop ?_
    show wpAny _ _ («list.__repr__.loop» ⟨[.ref a, .int i 0, .ref P, .int ((piled (ts.take i) : Nat) : Int) 0], []⟩) _ _ s
    rw [repr_loop_tree]
    refine wpAny_bind (wpAny_listItems ga rfl ?_)
    have e0 : ia.toArray[(i : Int).toNat]? = some v := by simpa using hv
    simp only [e0]
    rw [Int.toNat_natCast]
    refine wpAny_bind (wpAny_holding (wpAny_mono (rep_own (Q := fun t s' => t = ts[i] ∧ Inv X pins σ (upd H0 P (.lst ((ts.take i).map V.str))) s') c (sb _) I rv (hd _ (same_new hP) i _ _ hx ht) (by omega) fun s' I' => ⟨rfl, I'⟩) (fun t s' z => ?_) hE))
    obtain ⟨rfl, I'⟩ := z
    refine wpAny_bind (wpAny_mkStr ?_ (by have := lt.2.1 _ (List.mem_of_getElem? ht); omega))
    obtain ⟨zp, ip, np, vp, lpp, gp⟩ := I'.lstM upd_same
    refine wpAny_bind ?_
    show wpAny _ _ (updateSeq P _) _ _ _
    refine wpAny_updateSeq gp rfl (wpAny_pure ⟨F.quiet_list_repr_loop _, ?_⟩) (by simp; omega)
    have c1 : ((i : Int) + 1) = ((i + 1 : Nat) : Int) := by omega
    have c2 : piled (ts.take i) + (ts[i].length + 2) = piled (ts.take (i + 1)) := by omega
    rw [c1, c2]
    refine ih (i + 1) _ (by omega) hi' ?_
    have J := (I'.tok s'.toks).lset (t' := s'.toks + 1) (ys := (ts.take (i + 1)).map V.str) (its' := ip ++ [.str ts[i] s'.toks]) (f := fun z => z.push (.str ts[i] s'.toks)) upd_same gp (by simp) (by
      rw [List.take_add_one, ht, List.map_append]
      exact vp.append (.cons ⟨_, rfl⟩ .nil)) (by rw [List.length_map, List.length_take]; have := lt.1; simp at this; omega)
    rw [upd_upd] at J
    exact J
theorem repr_under_way {M : Model} {A : Around} {E : Value → Shared → Prop} {s : Shared} {Q : Fin → Shared → Prop} {a : Addr} {o : Obj} {y : Value} {l : List Value} {n : Nat} {g : List Code} {cd : Code} (hg : A.guards = some g)
    (yes : ∃ v rest kw, Code.builtin "list.__repr__.loop" ⟨v :: rest, kw⟩ ∈ g ∧ Builtin.List.listSameRef v (.ref a) = true) (ho : s.heap.get? a = some o) (hd : o.data = .seq (y :: l).toArray n)
    (h : ∀ u tk, Q (.done (.ret (.str "[...]" u))) { s with toks := tk }) : wpOwn M A cd (Builtin.listReprAt 0 ⟨[.ref a], []⟩) Q E s := by
  intro Γ p hc hB
  unfold Builtin.listReprAt
  simp [slotArgs, Builtin.List.listItems, seqItems?, Sem.wp_load_of (h := ho), hd, stack]
  show Sem.wp M Γ (if (Γ.below.any _) = true then _ else _) _ _ p s
  rw [if_pos]
  · simp [rule, retStr, ret]
    exact h _ _
  · obtain ⟨v, rest, kw, hm, hs⟩ := yes
    rw [← hB.2.2.2.1 g hg] at hm
    obtain ⟨e, he, ee⟩ := List.mem_map.mp (List.mem_filter.mp hm).1
    rw [List.any_eq_true]
    refine ⟨e, he, ?_⟩
    obtain ⟨c1, p1⟩ := e
    have ec : c1 = Code.builtin "list.__repr__.loop" ⟨v :: rest, kw⟩ := ee
    subst ec
    exact hs
theorem sub_loop {A : Around} {n : Nat} (h : L2.Sub X (n + 1) A) (args : Args) : L2.Sub X n (A.under (.builtin "list.__repr__.loop" args)) := by
  have u := units_under_list_loop A args
  have wt : (Code.builtin "list.__repr__.loop" args).weight ≤ 1 := by
    first | decide | (simp [Code.weight, Code.isCreation, Code.isGuard, Code.isCaller, Code.frames, Code.isFrame, guardIds])
  have dp : (A.under (.builtin "list.__repr__.loop" args)).depth ≤ A.depth + 1 := Nat.add_le_add_left wt _
  refine ⟨⟨h.room.hd, ?_, ?_⟩, ?_⟩
  · have := h.room.dp; omega
  · have := h.room.un; rw [u]; omega
  · rw [← h.fr]
    first | rfl | simp [Around.under, Code.envs, Code.isFrame, pushEnvs]
theorem c_reprL {g : List Code} (hg : X.A.guards = some g) (c : C8.Met X.prog X.w X.K X.mg X.base k C "__repr__" sp []) (hr : Room j X.A) (hk : k + 2 ≤ j) : CallR X (.builtin "repr") (yReprL (guOf g) C sp) := by
  intro pins s σ H xs us Q I r q
  unfold yReprL at q
  split at q
  · rename_i a
    split at q
    · rename_i xs ha
      obtain ⟨ts, hl, hz, hd, q⟩ := q
      have r' := r
      cases r with
      | cons r1 r2 =>
        cases r2
        cases r1
        obtain ⟨zs, ia, na, va, la, ga⟩ := I.lstM ha
        have sb : L2.Sub X (k + 2) X.A := ⟨hr.mono hk, rfl⟩
        have sb1 : L2.Sub X (k + 1) X.A.in1 := sb.in1
        have ty : s.TypeIs (.ref a) "list" := ⟨_, ga, rfl⟩
        have back : ∀ tx u s' H', Inv X pins σ H' s' → Same H H' → tx = (if xs.isEmpty then ("[]" : Str) else if guOf g a then "[...]" else listText ts) → EP X pins σ Q (.str tx u) s' := fun tx u s' H' I' sm e => ⟨.str tx, H', I', ⟨u, rfl⟩, by rw [e]; exact q H' sm⟩
        refine Calls.call_function_entry PySem.F.kind_repr PySem.F.plain_repr PySem.F.entry_repr (PySem.F.args_repr1 _) ?_
        unfold Builtin.«repr»
        refine wpAny_bind (m := oneArg "repr" _) (wpAny_pure ?_)
        refine wpAny_bind (wpAny_cRoomFor sb1.room.units0 ?_)
        refine wpAny_bind (wpAny_specialOf (name := Str.ofString "__repr__") ty F.slot_list_repr.lookup ?_)
        show wpAny _ _ (if (some (Value.builtin _)).isNone = true then _ else _) _ _ _
        rw [if_neg (by simp)]
        have told : wpAny (model X.prog X.w) X.A.in1 (call (.builtin "list.__repr__") [.ref a]) (fun v s' => ∃ tx u, v = .str tx u ∧ EP X pins σ Q (.str tx u) s') X.xe s := by
          cases xs with
          | nil =>
            have e0 : ia = [] := List.length_eq_zero_iff.mp (by simpa using la.symm)
            subst e0
            exact call_list_repr_empty ty ga rfl ⟨_, _, rfl, back _ _ _ H (I.tok _) (fun _ _ e => e) rfl⟩
          | cons x0 xs0 =>
            obtain ⟨y, l, rfl⟩ : ∃ y l, ia = y :: l := by cases ia with
              | nil => simp at la
              | cons y l => exact ⟨y, l, rfl⟩
            refine wpAny_call ?_
            by_cases gd : guOf g a = true
            · refine codeAny_call_builtin_own (plainId_quiet F.slot_list_repr.plain _) F.entry_list_repr (F.slot_list_repr.check _ _ _ _ _ _ _ _ ty (F.args_list_repr_1 _) ?_)
              refine repr_under_way (A := X.A.in1) hg (guOf_yes gd) ga rfl fun u tk => ?_
              exact ⟨_, _, rfl, back _ _ _ H (I.tok _) (fun _ _ e => e) (by rw [gd]; rfl)⟩
            · refine codeAny_call_builtin F.slot_list_repr.plain F.entry_list_repr (F.slot_list_repr.check _ _ _ _ _ _ _ _ ty (F.args_list_repr_1 _) ?_)
              have no : ∀ v rest kw, Code.builtin "list.__repr__.loop" ⟨v :: rest, kw⟩ ∈ g → Builtin.List.listSameRef v (.ref a) = false := fun v rest kw hm => by
                cases z : Builtin.List.listSameRef v (.ref a) with
                | false => rfl
                | true => exact absurd ⟨v, rest, kw, hm, z⟩ (guOf_no gd)
              refine wpAny_list_repr_head (A := X.A.in1.in1) hg no ga rfl ?_
              refine wpAny_bind (m := newList []) (wpAny_newObj_type ?_)
              refine wpAny_pure ⟨F.quiet_list_repr_loop _, ?_⟩
              have hf := I.fresh
              have I1 := I.lnew (ys := []) (its := []) (t' := s.toks) .nil (Nat.zero_le _)
              exact rep_loop c (A := X.A.in1) (fun args => sub_loop sb1 args) (ne_of_none ha hf) hl ha hf hd hz (fun y s' z => z) (fun s' u J => ⟨_, _, rfl, back _ u s' _ J (same_new hf) (by rw [if_neg (by simp), if_neg gd])⟩) _ 0 _ rfl (Nat.zero_le _) I1
        refine wpAny_bind (m := callSpecialIfBound? (.ref a) (Str.ofString "__repr__")) (wpAny_callSpecialIfBound?_slot (name := Str.ofString "__repr__") ty F.slot_list_repr (wpAny_mono told (fun v s' z => ?_) fun _ _ z => z))
        obtain ⟨tx, u, rfl, z⟩ := z
        refine wpAny_bind (wpAny_isInstance (T := "str") (b := true) rfl isSubtype_str_str ?_)
        first
          | exact wpAny_pure ⟨_, rfl, z⟩
          | (rw [if_pos rfl]; exact wpAny_pure ⟨_, rfl, z⟩)
          | (simp only [if_true]; exact wpAny_pure ⟨_, rfl, z⟩)
    · exact q.elim
  · exact q.elim
theorem ki_list_list {K : PySem.W.Frag} : PySem.W.kitOne K (.type "list") (.type "list") = some true := kit_ty (by decide +kernel)
end
end Z
namespace Z
open PySem PySem.Spec PyProof.Rows L2
open NdefX (NF NScope CellsAt ncx envF startF)
open LamX (TabB Tabs TabS ExtN CodeO codeO_ne)
/-! ### lambdas as values: made in a def, kept in a field, called elsewhere -/
/-- the object at f is the lambda F with the body b -/
def LamO (f : Addr) (F : NF) (b : Expr) : HO := .ext fun h => ∃ (od : Option Addr) (sl : Array (Option Value)) (pm ctv : Value), h.get? f = some (⟨.type "function", od, .func (PySem.W.kla_fn F.name F.qual F.params b F.scope F.cl pm (.ref F.c) ctv), sl⟩ : Obj)
theorem lamO_at {P : Program} {w : World} {H : Hp} {h : Heap} {f : Addr} {F : NF} {b : Expr} (hok : HOk P w H h) (e : H f = some (LamO f F b)) : ∃ (od : Option Addr) (sl : Array (Option Value)) (pm ctv : Value), h.get? f = some (⟨.type "function", od, .func (PySem.W.kla_fn F.name F.qual F.params b F.scope F.cl pm (.ref F.c) ctv), sl⟩ : Obj) := by
  obtain ⟨z, _, _⟩ := hok f _ e
  exact z
section
variable {X : Cx} {pins : List (Addr × Obj)} {σ : L2.St} {H : Hp} {s : Shared}
theorem inv_lam {F : NF} {b : Expr} {t' : Nat} {pm ctv : Value} (I : Inv X pins σ H s) :
    Inv X pins σ (upd H s.heap.objs.size (LamO s.heap.objs.size F b)) { s with heap := s.heap.push (PySem.W.kla_obj F.name F.qual F.params b F.scope F.cl pm F.c ctv), toks := t' } := by
  have at_ : (s.heap.push (PySem.W.kla_obj F.name F.qual F.params b F.scope F.cl pm F.c ctv)).get? s.heap.objs.size = some (PySem.W.kla_obj F.name F.qual F.params b F.scope F.cl pm F.c ctv) := Heap.get?_push_size _ rfl
  refine I.laid (a := s.heap.objs.size) (fun c u e => Heap.get?_push_of_some _ e) (Nat.le_refl _) ?_
  exact ⟨⟨_, _, pm, ctv, at_⟩, ⟨_, at_⟩, fun h1 h2 ⟨od, sl, p, t, z⟩ st => ⟨od, sl, p, t, st _ z⟩⟩
/-- a lambda is made, and known from then on -/
def tLamV (T : List (Addr × Str)) (mk : Addr → NF) (b : Expr) : TE := fun _ H Q => Tabs T H ∧ ∀ (f c' : Addr) (H1 : Hp), ExtN H H1 → (∀ x, H1 x = none → H x = none) → Tabs T H1 → H f = none → H1 f = some (LamO f (mk c') b) → H1 c' = some (CodeO c' (mk c').qual) → Q (.ref f) H1
theorem e_lamV {T : List (Addr × Str)} {c P : Addr} {params : Arguments} {b : Expr} {scope : Scope} {pos : Pos} {mk : Addr → NF} (TB : TabB X.base X.mg c P) (hcode : X.env.code = .ref c)
    (hm : (P, X.env.qual ++ "<lambda>") ∈ T) (hu : ∀ p ∈ T, p.1 = P → p.2 = X.env.qual ++ "<lambda>") (hdef : defaultsOf params X.env = ([], [])) (hfree : ∀ y ∈ scope.names, y.2 = .free → ∃ c, X.env.cells.lookup y.1 = some c)
    (hmk : ∀ c', mk c' = ⟨"<lambda>", X.env.qual ++ "<lambda>", params, [], scope, cloFrom X.env.cells scope.names [], c'⟩) : PE X (.Lambda params b scope pos) (tLamV T mk b) := by
  refine ⟨fun pins s σ H Q I h => ?_⟩
  obtain ⟨hT, h⟩ := h
  obtain ⟨ps, hP, tr, among⟩ := hT _ hm
  refine PySem.W.kla_eval hdef ?_
  have tabAt : s.heap.get? P = some { cls := .none, data := .fields ps } := I.hok P _ hP
  cases hc : codeAmong pos ps.toList with
  | none =>
    refine PySem.W.kla_makeFunction (mg := X.mg) (c := c) (P := P) (ps := ps) (closure_ok hfree) I.ok.glob (I.mod.glob.keeps I.bk) hcode (TB.code.keeps I.bk) tabAt tr hc TB.gP (TB.bm.keeps I.bk) fun c' ctv h' tk ext ge lt rec tab => ?_
    obtain ⟨c2, oc, vs, t, e2, hoc, hd, hv⟩ := rec
    cases e2
    have fc : H c' = none := I.hok.fresh ge
    have I1 := LamX.inv_table (t' := tk) (more := #[rawInt pos.line, rawInt pos.col, .ref c']) (h' := h') I hP (fun b o nb e => ext b o nb e) tab ge ⟨oc, vs, t, hoc, hd, hv⟩
    have ff := I1.hok.fresh (Nat.le_refl _)
    have I2 := inv_lam (F := ⟨"<lambda>", X.env.qual ++ "<lambda>", params, [], scope, cloFrom X.env.cells scope.names [], c'⟩) (b := b) (t' := tk) (pm := (X.mg "__name__").getD .none) (ctv := ctv) I1
    have g1 : ExtN H (upd (upd H P (.tbl (ps ++ #[rawInt pos.line, rawInt pos.col, .ref c']))) c' (CodeO c' (X.env.qual ++ "<lambda>"))) := fun b o e n => by
      rw [upd_ne (ne_of_none e fc), upd_ne (fun z => n ps (by rw [z, hP] at e; exact (Option.some.inj e).symm))]
      exact e
    have lst : (ps ++ #[rawInt pos.line, rawInt pos.col, .ref c']).toList = ps.toList ++ [rawInt pos.line, rawInt pos.col, .ref c'] := by simp
    have tabs : Tabs T (upd (upd H P (.tbl (ps ++ #[rawInt pos.line, rawInt pos.col, .ref c']))) c' (CodeO c' (X.env.qual ++ "<lambda>"))) := fun p hp => by
      by_cases eP : p.1 = P
      · rw [hu p hp eP, eP]
        refine ⟨_, (upd_ne (ne_of_none hP fc)).trans upd_same, by rw [lst]; exact PySem.TriplesOk_snoc _ _ _ _ tr, fun q cv hq => ?_⟩
        rw [lst] at hq
        refine (LamX.among_app _ tr hq).elim (fun z => ?_) fun z => ⟨c', z, upd_same⟩
        obtain ⟨c0, y1, y2⟩ := among q cv z
        exact ⟨c0, y1, g1 _ _ y2 codeO_ne⟩
      · obtain ⟨qs, y1, y2, y3⟩ := hT p hp
        refine ⟨qs, (upd_ne (ne_of_none y1 fc)).trans ((upd_ne eP).trans y1), y2, fun q cv hq => ?_⟩
        obtain ⟨c0, z1, z2⟩ := y3 q cv hq
        exact ⟨c0, z1, g1 _ _ z2 codeO_ne⟩
    refine ⟨.ref h'.objs.size, _, I2, rfl, h h'.objs.size c' _ (fun b o e n => (upd_ne (ne_of_none (g1 b o e n) ff)).trans (g1 b o e n)) (fun x e => NdefX.upd_none (NdefX.upd_none (NdefX.upd_none e))) (tabs.ext fun b o e => (upd_ne (ne_of_none e ff)).trans e) (I.hok.fresh (Nat.le_trans ge (Nat.le_of_lt lt))) (by rw [hmk]; exact upd_same) (by rw [hmk]; exact (upd_ne (Nat.ne_of_lt lt)).trans upd_same)⟩
  | some cv =>
    obtain ⟨c', ec, hco⟩ := among pos cv hc
    subst ec
    refine PySem.W.kla_makeFunctionHit (mg := X.mg) (c := c) (P := P) (ps := ps) (closure_ok hfree) I.ok.glob (I.mod.glob.keeps I.bk) hcode (TB.code.keeps I.bk) tabAt tr hc (TB.bm.keeps I.bk) fun ctv h' tk ext ge => ?_
    have I1 : Inv X pins σ H { s with heap := h', toks := tk } := I.kept ext
    have ff : H h'.objs.size = none := I1.hok.fresh (Nat.le_refl _)
    have I2 := inv_lam (F := ⟨"<lambda>", X.env.qual ++ "<lambda>", params, [], scope, cloFrom X.env.cells scope.names [], c'⟩) (b := b) (t' := tk) (pm := (X.mg "__name__").getD .none) (ctv := ctv) I1
    refine ⟨.ref h'.objs.size, _, I2, rfl, h h'.objs.size c' _ (fun b o e n => (upd_ne (ne_of_none e ff)).trans e) (fun x e => NdefX.upd_none e) (hT.ext fun b o e => (upd_ne (ne_of_none e ff)).trans e) ff (by rw [hmk]; exact upd_same) (by rw [hmk]; exact (upd_ne (ne_of_none hco ff)).trans hco)⟩
end
/-! ### .. and called -/
section
variable {CX : CXT} {P : Program} {w : World} {K : PySem.W.Frag} {mg : Str → Option Value} {base : Heap} {N ps : List Str} {F : NF} {f : Addr} {k j : Nat} {sp : Sp} {b : Expr}
/-- what a lambda promises -/
structure LOk (P : Program) (w : World) (K : PySem.W.Frag) (mg : Str → Option Value) (base : Heap) (CX : CXT) (k : Nat) (f : Addr) (F : NF) (b : Expr) (sp : Sp) : Prop where
  run : ∀ (A : Around) (outer : List Env) (s : Shared) (H : Hp) (us : List Value) (vs : List V) (Q : VK) (E : XK), Room k A → Env0 P w K mg base A outer s H → H f = some (LamO f F b) → H F.c = some (CodeO F.c F.qual) →
    Vals vs us → sp vs H Q E → codeAny (model P w) A (.call (.ref f) ⟨us, []⟩) (CR CX outer P w H s Q E) s
theorem lok_of (S : NScope N ps [] F.scope) (hcl : F.cl = []) (hb : ∀ (pm ctv : Value) (us : List Value), us.length = ps.length → bindArgs (PySem.W.kla_fn F.name F.qual F.params b F.scope F.cl pm (.ref F.c) ctv) ⟨us, []⟩ = pure (ps.zip us)) (len : ∀ vs H Q E, sp vs H Q E → vs.length = ps.length)
    (body : ∀ (A : Around) (outer : List Env) (s : Shared) (H : Hp) (vs : List V) (Q : VK) (E : XK), Room k (A.deeper (envF F f s.heap.objs.size)) → sp vs H Q E → ∃ t, PE (ncx CX P w K mg base N F f A outer s H E) b t ∧ t (startF N vs []) H Q) :
    LOk P w K mg base CX (k + 1) f F b sp := by
  refine ⟨fun A outer s H us vs Q E room env hf hc rel pr => ?_⟩
  have len0 := len _ _ _ _ pr
  have nolim : s.heap.NoLimit := env.mod.nolimit.keeps fun b o e => (env.bs b o e).1
  obtain ⟨od, sl, pm, ctv, at_⟩ := lamO_at env.hok hf
  refine PySem.W.kla_callFunE room.depth at_ rfl S.co S.gen rfl (NdefX.codeO_at env.hok hc) ?_
  rw [hb pm ctv us (by rw [← rel.length]; exact len0)]
  refine wpAny_pure (wpAny_newFunctionEnv S.nocell (fun y hy => S.par y.1 (List.of_mem_zip (show (y.1, y.2) ∈ ps.zip us from hy)).1) (fun h1 ns but => ⟨nolim.fresh _ but, ?_⟩) S.kind)
  show codeAny _ _ (.expr b (envF F f s.heap.objs.size)) _ _
  have keep : ∀ c o, s.heap.get? c = some o → h1.get? c = some o := fun c o e => but.extBut c o (Nat.ne_of_lt (Heap.lt_size e)) (Heap.get?_push_of_some _ e)
  obtain ⟨t, pt, ht⟩ := body A outer s H vs Q E (room.deeper _) pr
  have none_ : CellsAt F.cl [] [] s.heap H := by
    rw [hcl]
    exact ⟨rfl, fun y c e => by simp at e, fun x y c e => by simp at e, fun i y e => by simp at e⟩
  have J := NdefX.inv_startN (CX := CX) (P := P) (w := w) (K := K) (mg := mg) (base := base) (N := N) (F := F) (f := f) (E := E) (tk := s.toks + (ps.zip us).length) S room.hd env len0 rel none_ ns keep
  refine PySem.W.kla_codeExpr (wpAny_mono (pt.run [] _ _ H Q J ht) (fun v s' z => ?_) fun e s' z => z)
  obtain ⟨x, H', J', rv, q⟩ := z
  exact ⟨x, H', J'.os, J'.bare, J'.base, J'.hok, rv, q⟩
end
/-- x(..), x a name that holds a lambda made by mk -/
def zCallL (mk : Addr → NF) (b : Expr) (i : Nat) (sp : Sp) (t : TA) : TE := fun σ H Q => match σ[i]? with
  | some (some (.ref f)) => (∃ c', H f = some (LamO f (mk c') b)) ∧ t σ H fun vs H1 => (∃ c', H1 f = some (LamO f (mk c') b) ∧ H1 c' = some (CodeO c' (mk c').qual)) ∧ sp vs H1 Q C8.E0
  | _ => False
section
variable {X : Cx} {mk : Addr → NF} {b : Expr} {i j k : Nat} {x : Str} {sp : Sp} {t : TA} {e : Expr} {es : List Expr} {p pos : Pos}
theorem e_callL (Fn : ∀ f c', LOk X.prog X.w X.K X.mg X.base C8.CX0 k f (mk c') b sp) (hmc : ∀ c', (mk c').c = c') (hr : Room j X.A) (hk : k ≤ j) (hN : X.N[i]? = some x) (hv : Vis X.env.scope x) (ha : PA X (e :: es) t)
    (hd : (x == ("__debug__" : Str)) = false := by decide) (hcd : (x == ("__classdict__" : Str)) = false := by decide)
    (he : starEach (e :: es) X.env = (false, eval e X.env) :: starEach es X.env := by rfl) (hpl : (backTo pos (starEach es X.env)).any (·.1) = false := by rfl) :
    PE X (.Call (.Name x p) (e :: es) [] pos) (zCallL mk b i sp t) := by
  refine ⟨fun pins s σ H Q I h => ?_⟩
  unfold zCallL at h
  split at h
  · rename_i f hs
    obtain ⟨⟨c0, hf⟩, ht⟩ := h
    have fnAt : ∀ {H' : Hp} {s' : Shared} {c' : Addr}, Inv X pins σ H' s' → H' f = some (LamO f (mk c') b) → PySem.W.FnAt f s'.heap := fun I' z => by
      obtain ⟨od, sl, pm, ctv, ho⟩ := lamO_at I'.hok z
      exact ⟨_, _, _, _, ho⟩
    refine wpAny_Call_Name_kw (thn ((pe_var (pos := p) hN hv hd hcd).run pins s σ H (fun v H1 => v = .ref f ∧ H1 = H) I ⟨.ref f, hs, rfl, rfl⟩) fun u s1 ⟨v, H1, I1, r1, q1⟩ => ?_)
    obtain ⟨ev, eH⟩ := q1
    subst ev
    rw [eH] at I1
    cases r1
    refine PySem.W.callWith_F (first := []) (fnAt I1 hf) (thn (ha.run pos pins s1 σ H _ I1 ht) fun us s2 ⟨vs, H2, I2, r, ⟨c', h1, h2⟩, q⟩ => ⟨fnAt I2 h1, ?_⟩) he hpl
    show wpAny _ _ (call (.ref f) us) _ _ _
    refine wpAny_call (codeAny_mono ((Fn f c').run X.A X.stack s2 H2 us vs Q C8.E0 (hr.mono hk) I2.env0 h1 (by rw [hmc]; exact h2) r q) fun r s' hq => ?_)
    cases r with
    | error e => exact C8.pass0 (E := C8.E0) pins σ H2 s2 e s' I2 hq
    | ok fl =>
      cases fl with
      | ret u => exact I2.after hq
      | next => exact hq.elim
      | brk => exact hq.elim
      | cont => exact hq.elim
  · exact h.elim
end
end Z
namespace PySem
open Sem (wp)
namespace ZFn
theorem slot_ga : Slot "function" "__getattribute__" "object.__getattribute__" := .of (owner := "object") (n := "__getattribute__") (by rw [typeLookup_type, builtinLookup_eq_fast]; kernel_rfl) (by decide +kernel) (by decide +kernel) (by decide +kernel)
    (by first | exact .inl (by decide +kernel) | exact .inr (by decide +kernel)) (by rw [isSubtype_type]; kernel_rfl)
theorem slot_eq : Slot "function" "__eq__" "object.__eq__" := .of (owner := "object") (n := "__eq__") (by rw [typeLookup_type, builtinLookup_eq_fast]; kernel_rfl) (by decide +kernel) (by decide +kernel) (by decide +kernel)
    (by first | exact .inl (by decide +kernel) | exact .inr (by decide +kernel)) (by rw [isSubtype_type]; kernel_rfl)
theorem slot_ne : Slot "function" "__ne__" "object.__ne__" := .of (owner := "object") (n := "__ne__") (by rw [typeLookup_type, builtinLookup_eq_fast]; kernel_rfl) (by decide +kernel) (by decide +kernel) (by decide +kernel)
    (by first | exact .inl (by decide +kernel) | exact .inr (by decide +kernel)) (by rw [isSubtype_type]; kernel_rfl)
theorem entry_ga : entryFor table "object.__getattribute__" = some Builtin.«object.__getattribute__» := entryFor_of_tree (by kernel_rfl)
theorem lk_class : typeLookup (.type "function") "__class__" = pure (some (.builtin "object.__class__")) := by rw [typeLookup_type, builtinLookup_eq_fast]; kernel_rfl
theorem sub_owner : isSubtype (.type "function") (.type (".".intercalate ("object.__class__".cutAt '.').dropLast)) = pure true := by
  rw [F.owner_object_class, isSubtype_type]; kernel_rfl
theorem args_ga (a b : Value) : argsOk "object.__getattribute__" ⟨[a, b], []⟩ := by unfold argsOk; kernel_rfl
theorem sub_fs : isSubtype (.type "str") (.type "function") = pure false := by rw [isSubtype_type]; kernel_rfl
section
variable {prog : Program} {w : World} {A : Around} {E : Value → Shared → Prop} {h : Heap} {g : Array GenState} {d : Drawn} {t : Nat} {os : OsState} {a : Addr} {o : Obj}
theorem class_get {R : Result → Shared → Prop} (hx : h.get? a = some o) (hc : o.cls = .type "function") (hq : R (.ok (.ret (.type "function"))) ⟨h, g, d, t, os⟩) :
    codeAny (model prog w) A (.call (.builtin "getset_descriptor.__get__") ⟨[.builtin "object.__class__", .ref a, .type "function"], []⟩) R ⟨h, g, d, t, os⟩ := by
  have hT : (⟨h, g, d, t, os⟩ : Shared).TypeIs (.ref a) "function" := ⟨_, hx, hc⟩
  have hT5 : (⟨h, g, d, t, os⟩ : Shared).TypeIs (.builtin "object.__class__") "getset_descriptor" := F.typeOf_object_class
  have f8 := sub_owner
  refine codeAny_call_builtin F.slot_gs_get.plain F.entry_gs_get (F.slot_gs_get.check _ _ _ _ _ _ _ _ hT5 (F.args_gs_get _ _ _) ?_)
  repeat (any_goals (first | assumption | wp_step))
  refine ⟨Code.quiet_builtin _ (by decide +kernel), codeAny_builtin F.entry_object_class ?_⟩
  repeat (any_goals (first | assumption | wp_step))
theorem class_entry {tk : Tok} {Q : Fin → Shared → Prop} (hx : h.get? a = some o) (hc : o.cls = .type "function") (hq : Q (.done (.ret (.type "function"))) ⟨h, g, d, t, os⟩) :
    wpAny (model prog w) A (Builtin.«object.__getattribute__» ⟨[.ref a, .str "__class__" tk], []⟩) Q E ⟨h, g, d, t, os⟩ := by
  have hT : (⟨h, g, d, t, os⟩ : Shared).TypeIs (.ref a) "function" := ⟨_, hx, hc⟩
  have hT5 : (⟨h, g, d, t, os⟩ : Shared).TypeIs (.builtin "object.__class__") "getset_descriptor" := F.typeOf_object_class
  have f4 := lk_class
  have f5 := F.typeOf_object_class
  have f6 := F.slot_gs_get.lookup
  have f7 := F.slot_gs_set.lookup
  repeat (any_goals (first | assumption | wp_step))
  refine class_get hx hc ?_
  repeat (any_goals (first | assumption | wp_step))
theorem class_call {tk : Tok} {R : Result → Shared → Prop} (hx : h.get? a = some o) (hc : o.cls = .type "function") (hq : R (.ok (.ret (.type "function"))) ⟨h, g, d, t, os⟩) :
    codeAny (model prog w) A (.call (.builtin "object.__getattribute__") ⟨[.ref a, .str "__class__" tk], []⟩) R ⟨h, g, d, t, os⟩ :=
  codeAny_call_builtin slot_ga.plain entry_ga (slot_ga.check _ _ _ _ _ _ _ _ (show (⟨h, g, d, t, os⟩ : Shared).TypeIs (.ref a) "function" from ⟨_, hx, hc⟩) (args_ga _ _) (class_entry hx hc hq))
theorem class_by {tk : Tok} {Q : Value → Shared → Prop} (hx : h.get? a = some o) (hc : o.cls = .type "function") (hq : Q (.type "function") ⟨h, g, d, t, os⟩) : wpAny (model prog w) A (getAttrBy (.ref a) (.str "__class__" tk) false) Q E ⟨h, g, d, t, os⟩ := by
  have hT : (⟨h, g, d, t, os⟩ : Shared).TypeIs (.ref a) "function" := ⟨_, hx, hc⟩
  have f2 := slot_ga.lookup
  have f3 := slot_ga.bind (.ref a)
  repeat (any_goals (first | assumption | wp_step))
  refine class_call hx hc ?_
  repeat (any_goals (first | assumption | wp_step))
theorem class_attr {Q : Option Value → Shared → Prop} (hx : h.get? a = some o) (hc : o.cls = .type "function") (hq : Q (some (.type "function")) ⟨h, g, d, t + 1, os⟩) : wpAny (model prog w) A (getAttr? (.ref a) "__class__") Q E ⟨h, g, d, t, os⟩ := by
  unfold getAttr? getAttrBy?
  repeat (any_goals (first | assumption | with_reducible apply class_by hx hc | wp_step))
/-- object.__eq__ of a function and a text -/
theorem objEq_str {s : Shared} {y : Str} {u : Tok} {Q : Fin → Shared → Prop} (hq : Q (.done (.ret .notImplemented)) s) : wpAny (model prog w) A (Builtin.«object.__eq__» ⟨[.ref a, .str y u], []⟩) Q E s := by
  obtain ⟨h, g, d, t, os⟩ := s
  unfold Builtin.«object.__eq__»
  repeat (first | wp_step)
  exact hq
theorem call_eq_str {y : Str} {u : Tok} {Q : Value → Shared → Prop} (hx : h.get? a = some o) (hc : o.cls = .type "function") (hq : Q .notImplemented ⟨h, g, d, t, os⟩) : wpAny (model prog w) A (call (.builtin "object.__eq__") [.ref a, .str y u]) Q E ⟨h, g, d, t, os⟩ :=
  wpAny_call (codeAny_call_builtin slot_eq.plain F.cmpEntry_eq (slot_eq.check _ _ _ _ _ _ _ _ (show (⟨h, g, d, t, os⟩ : Shared).TypeIs (.ref a) "function" from ⟨_, hx, hc⟩) (F.cmpArgs_eq _ _) (objEq_str hq)))
theorem special_eq_str {y : Str} {u : Tok} {Q : Option Value → Shared → Prop} (hx : h.get? a = some o) (hc : o.cls = .type "function") (hq : Q (some .notImplemented) ⟨h, g, d, t, os⟩) : wpAny (model prog w) A (callSpecialIfBound? (.ref a) "__eq__" [.str y u]) Q E ⟨h, g, d, t, os⟩ :=
  wpAny_callSpecialIfBound?_slot (show (⟨h, g, d, t, os⟩ : Shared).TypeIs (.ref a) "function" from ⟨_, hx, hc⟩) slot_eq (call_eq_str hx hc hq)
theorem str_eq_fn {y : Str} {u : Tok} {Q : Fin → Shared → Prop} (hx : h.get? a = some o) (hc : o.cls = .type "function") (hd : ∃ f, o.data = .func f) (hq : Q (.done (.ret .notImplemented)) ⟨h, g, d, t, os⟩) : wpAny (model prog w) A (Builtin.«str.__eq__» ⟨[.str y u, .ref a], []⟩) Q E ⟨h, g, d, t, os⟩ := by
  obtain ⟨cls, dd, data, sl⟩ := o
  obtain ⟨f, hd⟩ := hd
  simp only at hc hd
  subst hc hd
  wp_walk using wpAny_loadPart' hx, wpAny_load hx
  exact hq
theorem str_ne_fn {y : Str} {u : Tok} {Q : Fin → Shared → Prop} (hx : h.get? a = some o) (hc : o.cls = .type "function") (hd : ∃ f, o.data = .func f) (hq : Q (.done (.ret .notImplemented)) ⟨h, g, d, t, os⟩) : wpAny (model prog w) A (Builtin.«str.__ne__» ⟨[.str y u, .ref a], []⟩) Q E ⟨h, g, d, t, os⟩ := by
  obtain ⟨cls, dd, data, sl⟩ := o
  obtain ⟨f, hd⟩ := hd
  simp only at hc hd
  subst hc hd
  wp_walk using wpAny_loadPart' hx, wpAny_load hx
  exact hq
theorem call_str_eq {y : Str} {u : Tok} {Q : Value → Shared → Prop} (hx : h.get? a = some o) (hc : o.cls = .type "function") (hd : ∃ f, o.data = .func f) (hq : Q .notImplemented ⟨h, g, d, t, os⟩) : wpAny (model prog w) A (call (.builtin "str.__eq__") [.str y u, .ref a]) Q E ⟨h, g, d, t, os⟩ :=
  wpAny_call (codeAny_call_builtin F.slot_str_eq.plain F.entry_str_eq (F.slot_str_eq.check _ _ _ _ _ _ _ _ (typeIs_str _ _ _) (F.args_str_eq_2 _ _) (str_eq_fn hx hc hd hq)))
theorem call_str_ne {y : Str} {u : Tok} {Q : Value → Shared → Prop} (hx : h.get? a = some o) (hc : o.cls = .type "function") (hd : ∃ f, o.data = .func f) (hq : Q .notImplemented ⟨h, g, d, t, os⟩) : wpAny (model prog w) A (call (.builtin "str.__ne__") [.str y u, .ref a]) Q E ⟨h, g, d, t, os⟩ :=
  wpAny_call (codeAny_call_builtin F.slot_str_ne.plain F.entry_str_ne (F.slot_str_ne.check _ _ _ _ _ _ _ _ (typeIs_str _ _ _) (F.args_str_ne_2 _ _) (str_ne_fn hx hc hd hq)))
theorem objNe_str {y : Str} {u : Tok} {Q : Fin → Shared → Prop} (hu : A.units < cLine) (hx : h.get? a = some o) (hc : o.cls = .type "function") (hq : Q (.done (.ret .notImplemented)) ⟨h, g, d, t, os⟩) : wpAny (model prog w) A (Builtin.«object.__ne__» ⟨[.ref a, .str y u], []⟩) Q E ⟨h, g, d, t, os⟩ := by
  unfold Builtin.«object.__ne__»
  repeat (first | with_reducible refine wpAny_cRoomFor hu ?_ | with_reducible refine special_eq_str hx hc ?_ | wp_step)
  exact hq
theorem call_ne_str {y : Str} {u : Tok} {Q : Value → Shared → Prop} (hu : A.in1.units < cLine) (hx : h.get? a = some o) (hc : o.cls = .type "function") (hq : Q .notImplemented ⟨h, g, d, t, os⟩) : wpAny (model prog w) A (call (.builtin "object.__ne__") [.ref a, .str y u]) Q E ⟨h, g, d, t, os⟩ :=
  wpAny_call (codeAny_call_builtin slot_ne.plain F.cmpEntry_ne (slot_ne.check _ _ _ _ _ _ _ _ (show (⟨h, g, d, t, os⟩ : Shared).TypeIs (.ref a) "function" from ⟨_, hx, hc⟩) (F.cmpArgs_ne _ _) (objNe_str hu hx hc hq)))
theorem special_ne_str {y : Str} {u : Tok} {Q : Option Value → Shared → Prop} (hu : A.in1.units < cLine) (hx : h.get? a = some o) (hc : o.cls = .type "function") (hq : Q (some .notImplemented) ⟨h, g, d, t, os⟩) : wpAny (model prog w) A (callSpecialIfBound? (.ref a) "__ne__" [.str y u]) Q E ⟨h, g, d, t, os⟩ :=
  wpAny_callSpecialIfBound?_slot (show (⟨h, g, d, t, os⟩ : Shared).TypeIs (.ref a) "function" from ⟨_, hx, hc⟩) slot_ne (call_ne_str hu hx hc hq)
theorem special_str_eq {y : Str} {u : Tok} {Q : Option Value → Shared → Prop} (hx : h.get? a = some o) (hc : o.cls = .type "function") (hd : ∃ f, o.data = .func f) (hq : Q (some .notImplemented) ⟨h, g, d, t, os⟩) : wpAny (model prog w) A (callSpecialIfBound? (.str y u) "__eq__" [.ref a]) Q E ⟨h, g, d, t, os⟩ :=
  wpAny_callSpecialIfBound?_slot (typeIs_str _ _ _) F.slot_str_eq (call_str_eq hx hc hd hq)
theorem special_str_ne {y : Str} {u : Tok} {Q : Option Value → Shared → Prop} (hx : h.get? a = some o) (hc : o.cls = .type "function") (hd : ∃ f, o.data = .func f) (hq : Q (some .notImplemented) ⟨h, g, d, t, os⟩) : wpAny (model prog w) A (callSpecialIfBound? (.str y u) "__ne__" [.ref a]) Q E ⟨h, g, d, t, os⟩ :=
  wpAny_callSpecialIfBound?_slot (typeIs_str _ _ _) F.slot_str_ne (call_str_ne hx hc hd hq)
theorem rc_eq {y : Str} {u : Tok} {Q : Value → Shared → Prop} (hu : A.units < cLine) (hx : h.get? a = some o) (hc : o.cls = .type "function") (hd : ∃ f, o.data = .func f) (hq : Q (.bool false) ⟨h, g, d, t, os⟩) : wpAny (model prog w) A (richCompare .Eq (.ref a) (.str y u)) Q E ⟨h, g, d, t, os⟩ := by
  have hT : (⟨h, g, d, t, os⟩ : Shared).TypeIs (.ref a) "function" := ⟨_, hx, hc⟩
  have f1 := sub_fs
  unfold richCompare tryCompare
  repeat (first | with_reducible refine wpAny_cRoomFor hu ?_ | with_reducible refine special_eq_str hx hc ?_ | with_reducible refine special_str_eq hx hc hd ?_ | wp_step)
  exact hq
theorem rc_ne {y : Str} {u : Tok} {Q : Value → Shared → Prop} (hu : A.units < cLine) (hu1 : A.in1.units < cLine) (hx : h.get? a = some o) (hc : o.cls = .type "function") (hd : ∃ f, o.data = .func f) (hq : Q (.bool true) ⟨h, g, d, t, os⟩) : wpAny (model prog w) A (richCompare .NotEq (.ref a) (.str y u)) Q E ⟨h, g, d, t, os⟩ := by
  have hT : (⟨h, g, d, t, os⟩ : Shared).TypeIs (.ref a) "function" := ⟨_, hx, hc⟩
  have f1 := sub_fs
  unfold richCompare tryCompare
  repeat (first | with_reducible refine wpAny_cRoomFor hu ?_ | with_reducible refine special_ne_str hu1 hx hc ?_ | with_reducible refine special_str_ne hx hc hd ?_ | wp_step)
  exact hq
end
end ZFn
end PySem
namespace Z
open PySem PySem.Spec PyProof.Rows L2
open NdefX (NF)
/-! ### lambdas compared with texts, asked for their type -/
theorem lam_at {X : Cx} {pins : List (Addr × Obj)} {σ : L2.St} {H : Hp} {s : Shared} {f : Addr} {F : NF} {b : Expr} (I : Inv X pins σ H s) (e : H f = some (LamO f F b)) : ∃ o : Obj, s.heap.get? f = some o ∧ o.cls = .type "function" ∧ ∃ d, o.data = .func d := by
  obtain ⟨od, sl, pm, ctv, h⟩ := lamO_at I.hok e
  exact ⟨_, h, rfl, _, rfl⟩
theorem kitx_fn {K : PySem.W.Frag} {a : Addr} : PySem.W.KitX K (.ref a) (.type "function") (PySem.W.KitAt a "function") := PySem.W.kitx_of PySem.W.kitAt_ty (fun {_ _ _ _ _ s} p k => by obtain ⟨h, g, d, t, os⟩ := s; obtain ⟨o, h1, h2⟩ := p; exact ZFn.class_attr h1 h2 k)
def IsLam (H : Hp) (a : Addr) : Prop := ∃ F b, H a = some (LamO a F b)
def yEqF (K : PySem.W.Frag) : R2 := fun x y H Q => match x with
  | .ref a => (IsLam H a ∧ ∃ z, y = .str z ∧ Q (.bl false) H) ∨ yEq K x y H Q
  | _ => yEq K x y H Q
def yNeF (K : PySem.W.Frag) : R2 := fun x y H Q => match x with
  | .ref a => (IsLam H a ∧ ∃ z, y = .str z ∧ Q (.bl true) H) ∨ yNe K x y H Q
  | _ => yNe K x y H Q
def yIsiF (K : PySem.W.Frag) : List V → Hp → VK → Prop := fun vs H Q => match vs with
  | [.ref a, c] => (IsLam H a ∧ clsAt c fun u => isNone (PySem.W.kitOne K (.type "function") u) fun b => Q (.bl b) H) ∨ yIsi K vs H Q
  | _ => yIsi K vs H Q
def yIsiTF (K : PySem.W.Frag) : List V → Hp → VK → Prop := fun vs H Q => match vs with
  | [.ref a, .ref tp] => (IsLam H a ∧ ∃ cs, H tp = some (.tup cs) ∧ tysAt cs fun us => isNone (PySem.W.kitAny K (.type "function") us) fun b => Q (.bl b) H) ∨ yIsiT K vs H Q
  | _ => yIsiT K vs H Q
section
variable {X : Cx}
theorem o_eqF (hu : X.A.units + 64 < cLine) : OpR X (compareOp .Eq) (yEqF X.K) := by
  intro pins s σ H x y v u Q I rx ry q
  unfold yEqF at q
  split at q
  · rename_i a
    rcases q with ⟨⟨F, b, hf⟩, z, rfl, q⟩ | q
    · obtain ⟨o, h1, h2, h3⟩ := lam_at I hf
      cases rx
      obtain ⟨t, rfl⟩ := ry
      obtain ⟨h, g, d, tk, os⟩ := s
      exact ZFn.rc_eq (by omega) h1 h2 h3 ⟨.bl false, H, I, rfl, q⟩
    · exact o_eq hu pins s σ H _ y v u Q I rx ry q
  · exact o_eq hu pins s σ H x y v u Q I rx ry q
theorem o_neF (hu : X.A.units + 64 < cLine) : OpR X (compareOp .NotEq) (yNeF X.K) := by
  intro pins s σ H x y v u Q I rx ry q
  unfold yNeF at q
  split at q
  · rename_i a
    rcases q with ⟨⟨F, b, hf⟩, z, rfl, q⟩ | q
    · obtain ⟨o, h1, h2, h3⟩ := lam_at I hf
      cases rx
      obtain ⟨t, rfl⟩ := ry
      obtain ⟨h, g, d, tk, os⟩ := s
      exact ZFn.rc_ne (by omega) (by show X.A.units + 1 < cLine; omega) h1 h2 h3 ⟨.bl true, H, I, rfl, q⟩
    · exact o_ne hu pins s σ H _ y v u Q I rx ry q
  · exact o_ne hu pins s σ H x y v u Q I rx ry q
theorem c_isiF : CallR X (.builtin "isinstance") (yIsiF X.K) := by
  intro pins s σ H xs us Q I r q
  unfold yIsiF at q
  split at q
  · rename_i a c
    rcases q with ⟨⟨F, b, hf⟩, q⟩ | q
    · obtain ⟨u, k, q1⟩ := clsAt_ok q
      obtain ⟨r0, e, q2⟩ := isNone_ok q1
      obtain ⟨o, h1, h2, h3⟩ := lam_at I hf
      obtain ⟨u1, u2, rfl, r1, r2⟩ := vals2 r
      have e2 := k.eq r2
      subst e2
      cases (show u1 = Value.ref a from r1)
      exact PySem.W.kia_one kitx_fn I.kIn ⟨o, h1, h2⟩ e (fun z => nomatch z) fun tk => ⟨.bl r0, H, I.tok tk, rfl, q2⟩
    · exact c_isi pins s σ H _ us Q I r q
  · exact c_isi pins s σ H xs us Q I r q
theorem c_isiTF : CallR X (.builtin "isinstance") (yIsiTF X.K) := by
  intro pins s σ H xs us Q I r q
  unfold yIsiTF at q
  split at q
  · rename_i a tp
    rcases q with ⟨⟨F, b, hf⟩, cs, hT, q⟩ | q
    · obtain ⟨ws, k, q1⟩ := tysAt_ok q
      obtain ⟨r0, e, q2⟩ := isNone_ok q1
      obtain ⟨o, h1, h2, h3⟩ := lam_at I hf
      obtain ⟨u1, u2, rfl, r1, r2⟩ := vals2 r
      cases (show u1 = Value.ref a from r1)
      cases (show u2 = Value.ref tp from r2)
      obtain ⟨_, its, rv, o', h1', h2', n, h3'⟩ := (show ObjOk X.prog X.w H s.heap tp (.tup cs) from I.hok tp _ hT)
      have e3 := ClsV.all k rv
      subst e3
      obtain ⟨oc, od, dt, sl⟩ := o'
      simp only at h2' h3'
      subst h2' h3'
      exact PySem.W.kia_tup kitx_fn I.kIn ⟨o, h1, h2⟩ h1' e (fun z => nomatch z) fun tk => ⟨.bl r0, H, I.tok tk, rfl, q2⟩
    · exact c_isiT pins s σ H _ us Q I r q
  · exact c_isiT pins s σ H xs us Q I r q
/-! ### xs[a:], xs[:b] -/
def zSlA (K : PySem.W.Frag) (to tl : TE) : TE := fun σ H Q => to σ H fun x H1 => tl σ H1 fun l H2 => Z.intAt l fun i => refAt x fun a => (∃ xs, SqL K H2 a xs ∧ ∀ p, H2 p = none → Q (.ref p) (upd H2 p (.lst (cutV xs (some i) none))))
def zSlB (K : PySem.W.Frag) (to th : TE) : TE := fun σ H Q => to σ H fun x H1 => th σ H1 fun l H2 => Z.intAt l fun i => refAt x fun a => (∃ xs, SqL K H2 a xs ∧ ∀ p, H2 p = none → Q (.ref p) (upd H2 p (.lst (cutV xs none (some i)))))
variable {o e : Expr} {to te : TE} {p2 pos : Pos}
theorem e_slA (ho : PE X o to) (he : PE X e te) : PE X (.Subscript o (.Slice (some e) none none p2) pos) (zSlA X.K to te) :=
  pe_imp (pe_slice sl_list (pe_up ho) (po_some (pe_up he)) po_none) fun σ H Q q => ⟨_, fun x H1 q => ⟨_, fun l H2 q => by
    obtain ⟨i, ei, q5⟩ := intAt_ok q
    obtain ⟨a, ea, xs, q8⟩ := refAt_ok q5
    exact ⟨i, ei, a, xs, ea, q8⟩, q⟩, q⟩
theorem e_slB (ho : PE X o to) (he : PE X e te) : PE X (.Subscript o (.Slice none (some e) none p2) pos) (zSlB X.K to te) :=
  pe_imp (pe_slice sl_list (pe_up ho) po_none (po_some (pe_up he))) fun σ H Q q => ⟨_, fun x H1 q => ⟨_, fun l H2 q => by
    obtain ⟨i, ei, q5⟩ := intAt_ok q
    obtain ⟨a, ea, xs, q8⟩ := refAt_ok q5
    exact ⟨i, ei, a, xs, ea, q8⟩, q⟩, q⟩
end
end Z
namespace Z
open PySem PySem.Spec PyProof.Rows L2
/-! ### defs that are called while nothing is being shown -/
structure FnG (P : Program) (w : World) (K : PySem.W.Frag) (mg : Str → Option Value) (base : Heap) (CX : CXT) (k : Nat) (f : Addr) (fd : FuncData) (ps : List Str) (sp : Sp) : Prop where
  ln : ∀ vs H Q E, sp vs H Q E → vs.length = ps.length
  go : ∀ (A : Around) (outer : List Env) (s : Shared) (H : Hp) (args : Args) (us : List Value) (vs : List V) (Q : VK) (E : XK), A.guards = some [] → Room k A → Env0 P w K mg base A outer s H → BindsTo s fd args (ps.zip us) → Vals vs us → sp vs H Q E →
    codeAny (model P w) A (.call (.ref f) args) (CR CX outer P w H s Q E) s
theorem FnG.of {P : Program} {w : World} {K : PySem.W.Frag} {mg : Str → Option Value} {base : Heap} {CX : CXT} {k : Nat} {f : Addr} {fd : FuncData} {ps : List Str} {sp : Sp} (F : FnOk P w K mg base CX k f fd ps sp) : FnG P w K mg base CX k f fd ps sp :=
  ⟨F.len, fun A outer s H args us vs Q E _ => F.run A outer s H args us vs Q E⟩
section
variable {P : Program} {w : World} {K : PySem.W.Frag} {mg : Str → Option Value} {base : Heap} {x qual : Str} {st : Stmt} {f : Addr}
theorem deeper_guards {A : Around} {env : Env} : (A.deeper env).guards = A.guards := rfl
theorem fn_g {N ps : List Str} {k : Nat} {sp : Sp} {fd : FuncData} (F : FunD K x qual (defArgs st) (defBody st) (defScope st) [] [] f fd) (S : FnScope N ps (defScope st)) (len : ∀ vs H Q E, sp vs H Q E → vs.length = ps.length) {t : TS}
    (hd : ∀ (cdv : Value) (A : Around) (outer : List Env) (s : Shared) (H : Hp) (E : XK), A.guards = some [] → Room k (A.deeper (envOfC qual (defScope st) s.heap.objs.size f cdv)) → PSs (cxOf C8.CX0 P w K mg base N qual (defScope st) f cdv A outer s H E).nox (defBody st) t)
    (hrd : ∀ vs H Q E, sp vs H Q E → t { nx := fun _ H' => Q .non H', rt := Q } (start N vs) H) : FnG P w K mg base C8.CX0 (k + 1) f fd ps sp :=
  ⟨len, fun A outer s H args us vs Q E hg hr e0 hb r hsp => run_at F S len A (fun cdv outer s H vs Q E hr' h => ⟨t, PSs.nox (hd cdv A outer s H E hg hr'), hrd vs H Q E h⟩) outer s H args us vs Q E hr e0 hb r hsp⟩
end
section
variable {X : Cx} {CX : CXT} {k j : Nat} {f : Addr} {fd : FuncData} {ps : List Str} {sp : Sp} {ds : List Value} {dvs : List V} {E : XK}
theorem run_g {pins : List (Addr × Obj)} {σ : L2.St} {H : Hp} {s : Shared} {Q : VK} {us : List Value} {vs : List V} (F : FnG X.prog X.w X.K X.mg X.base CX k f fd ps sp) (hg : X.A.guards = some []) (hr : Room k X.A) (hb : Binds X.K fd ps ds) (hd : Vals dvs ds) (hx : Passes CX X E)
    (I : Inv X pins σ H s) (r : Vals vs us) (h : sp (vs ++ dvs) H Q E) : wpAny (model X.prog X.w) X.A (call (.ref f) us) (EP X pins σ Q) X.xe s := by
  have both := r.append hd
  have n1 := F.ln _ _ _ _ h
  have n2 := both.length
  have got := F.go X.A X.stack s H ⟨us, []⟩ (us ++ ds) (vs ++ dvs) Q E hg hr I.env0 (hb s us I.kIn (by omega)) both h
  refine wpAny_call (codeAny_mono got ?_)
  intro res s' hq
  match res, hq with
  | .error e, hq => exact hx pins σ H s e s' I hq
  | .ok (.ret u), hq => exact I.after hq
/-- a def's name, what it promises while nothing is shown -/
def CalG (P : Program) (w : World) (K : PySem.W.Frag) (mg : Str → Option Value) (base : Heap) (k : Nat) (x : Str) (sp : Sp) : Prop := ∃ f fd ps, FnG P w K mg base C8.CX0 k f fd ps sp ∧ mg x = some (.ref f) ∧ PySem.W.keepIn K (.ref f) = true ∧ Binds K fd ps []
variable {x : Str} {e : Expr} {es : List Expr} {t : TA} {p pos : Pos}
theorem e_cG (c : CalG X.prog X.w X.K X.mg X.base k x sp) (hg : X.A.guards = some []) (hr : Room j X.A) (hk : k ≤ j) (hgl : Gl X x) (ha : PA X (e :: es) t) (hdb : (x == ("__debug__" : Str)) = false := by decide)
    (he : starEach (e :: es) X.env = (false, eval e X.env) :: starEach es X.env := by rfl) (hpl : (backTo pos (starEach es X.env)).any (·.1) = false := by rfl) : PE X (.Call (.Name x p) (e :: es) [] pos) (tCall sp [] C8.E0 t) := by
  obtain ⟨f, fd, ps, F, hm, kp, b⟩ := c
  refine ⟨fun pins s σ H Q I h => wpAny_Call_Name_kw (ld_glob I hgl hm ?_ hdb)⟩
  refine PySem.W.callWith_K (h₀ := X.base) I.ok.mod.kin kp (thn (ha.run pos pins s σ H _ I h) fun us s1 z => ?_) he hpl
  obtain ⟨vs, H1, I1, r, q⟩ := z
  exact ⟨I1.kIn, run_g F hg (hr.mono hk) b .nil C8.pass0 I1 r q⟩
/-! ### repr of data -/
def Shows (d : PyData) : Prop := d.showable = true ∧ d.hasDict = false ∧ d.shown.length ≤ sizeLine ∧ d.depth ≤ 16
def yReprD (K : PySem.W.Frag) : List V → Hp → VK → Prop := fun vs H Q => ∃ a d, vs = [.ref a] ∧ Dp K H (.ref a) d ∧ Shows d ∧ Q (.str d.shown) H
theorem c_reprD (hg : X.A.guards = some []) (hr : Room j X.A) : CallR X (.builtin "repr") (yReprD X.K) := by
  intro pins s σ H xs us Q I r q
  obtain ⟨a, d, rfl, dp, ⟨h1, h2, h3, h4⟩, q⟩ := q
  have un := hr.un
  cases r with
  | cons r1 r2 =>
    cases r2
    obtain ⟨as, rd⟩ := Dp.reads I d (.ref a) _ dp r1
    cases r1
    exact repr_of_reads' rd h1 (fun z => by rw [h2] at z; cases z) hg (by omega) (fun _ _ z => z) (fun h' u tk ext => ⟨.str d.shown, H, I.kept ext, ⟨u, rfl⟩, q⟩) h3
end
/-! ### the law's call, nothing shown around it -/
section
variable {P : Program} {w : World} {K : PySem.W.Frag} {mg mb : Str → Option Value} {s : Shared} {a : Addr} {its : List Value} {ns : List Int}
structure Behind (K : PySem.W.Frag) (mg mb : Str → Option Value) (s : Shared) (a : Addr) (its : List Value) : Prop where
  kin : K.In s.heap
  glo : s.heap.Ns mainGlobals mg
  blt : s.heap.Ns builtinsNs mb
  all : ∀ x : Str, x ≠ "__name__" → mb x = bootBuiltins x
  lim : s.heap.NoLimit
  gen : s.gens = #[]
  scr : s.heap.get? a = some { cls := .type "list", data := .seq its.toArray }
theorem Behind.sees (B : Behind K mg mb s a its) {H : Hp} (only : ∀ b, H b ≠ none → b = a) {b : Addr} {m : Str → Option Value} (h : s.heap.Ns b m) : (hidT s.heap H).Ns b m := by
  obtain ⟨o, es, ep, e, d, r⟩ := h
  refine ⟨o, es, ep, hidT_get e ?_, d, r⟩
  apply Classical.byContradiction
  intro z
  have ea := only b z
  rw [ea, B.scr] at e
  obtain rfl := Option.some.inj e
  cases (show Data.seq its.toArray _ = Data.dict es ep from d)
theorem Behind.env (B : Behind K mg mb s a its) {H : Hp} (hok : HOk P w H s.heap) (only : ∀ b, H b ≠ none → b = a) (un : H a ≠ none → K.lookup a = none) : K.In (hidT s.heap H) ∧ (hidT s.heap H).Ns mainGlobals mg ∧ Env0 P w K mg (hidT s.heap H) callerA [] s H := by
  have k1 : K.In (hidT s.heap H) := fun b o e => by
    refine hidT_get (B.kin b o e) ?_
    apply Classical.byContradiction
    intro z
    have ea := only b z
    rw [ea] at e z
    rw [un z] at e
    cases e
  obtain ⟨mc, l1, l2⟩ := B.lim
  have md : Mod K mg (hidT s.heap H) := ⟨k1, B.sees only B.glo, ⟨mb, B.sees only B.blt, B.all⟩, ⟨mc, B.sees only l1, l2⟩⟩
  refine ⟨k1, B.sees only B.glo, ⟨rfl, md, fun b o e => of_hidT e, Nat.le_of_eq (hidT_size _ _), trivial, fun b hb => ?_, hok, .of_eq B.gen⟩⟩
  exact absurd (show b ∈ ([] : List Addr) from hb) List.not_mem_nil
theorem law_g {k : Nat} {fa : Addr} {fd : FuncData} {x : Str} {sp : Sp} (B : Behind K mg mb s a its) (hi : IntsAre its ns) (hl : ns.length ≤ sizeLine) (hr : Room k callerA)
    (F : ∀ base : Heap, K.In base → base.Ns mainGlobals mg → FnG P w K mg base C8.CX0 k fa fd [x] sp) (hbind : ∀ (s : Shared) (u : Value), BindsTo s fd ⟨[u], []⟩ [(x, u)])
    (hsp : ∀ H : Hp, Only H → SqL K H a (ns.map V.int) → sp [.ref a] H (fun v _ => v = .bl true) fun _ _ _ => False) :
    codeAny (model P w) callerA (.call (.ref fa) ⟨[.ref a], []⟩) (fun r s' => r = .ok (.ret (.bool true)) ∧ OldK s.heap s'.heap ∧ s'.os = s.os ∧ AllBare s'.gens) s := by
  have rv := vals_ints hi
  have ln := hi.length
  have fin : ∀ H : Hp, Only H → SqL K H a (ns.map V.int) → HOk P w H s.heap → (∀ b, H b ≠ none → b = a) → (H a ≠ none → K.lookup a = none) →
      codeAny (model P w) callerA (.call (.ref fa) ⟨[.ref a], []⟩) (fun r s' => r = .ok (.ret (.bool true)) ∧ OldK s.heap s'.heap ∧ s'.os = s.os ∧ AllBare s'.gens) s := by
    intro H hO hS hok only un
    obtain ⟨k1, k2, e0⟩ := B.env (P := P) (w := w) hok only un
    have got := (F _ k1 k2).go callerA [] s H ⟨[.ref a], []⟩ [.ref a] [.ref a] (fun v _ => v = .bl true) (fun _ _ _ => False) rfl hr e0 (hbind s (.ref a)) (.cons rfl .nil) (hsp H hO hS)
    refine codeAny_mono got ?_
    intro res s' hq
    match res, hq with
    | .error e, hq => exact (show False from hq).elim
    | .ok (.ret u), hq =>
      obtain ⟨v, H', os, bare, un', hok', rr, q⟩ := hq
      have ev : v = .bl true := q
      subst ev
      have eu : u = Value.bool true := rr
      refine ⟨by rw [eu], OldK.of_keep fun b o e => ?_, os, bare⟩
      cases hb : H b with
      | none => exact un'.keep b o e hb (fun z => absurd (show b ∈ ([] : List Addr) from z) List.not_mem_nil) (by simp)
      | some u2 =>
        rcases hO b with z | ⟨ob, xs, z⟩
        · rw [hb] at z
          cases z
        · obtain ⟨e1, _⟩ := hok b _ z
          obtain ⟨e2, _⟩ := hok' b _ (un'.frzs b ob _ z)
          rw [e] at e1
          obtain rfl := Option.some.inj e1
          exact e2
  cases hk : K.lookup a with
  | some o =>
    have e := B.kin a o hk
    rw [B.scr] at e
    obtain rfl := Option.some.inj e
    refine fin (fun _ => none) (fun _ => .inl rfl) (.inr ⟨_, its.toArray, _, hk, rfl, rfl, rfl, ?_, by simpa using rv⟩) (fun b u z => ?_) (fun b z => (z rfl).elim) (fun z => (z rfl).elim)
    · rw [List.size_toArray, ln]
      exact hl
    · exact nomatch (show (none : Option HO) = some u from z)
  | none =>
    have at_ : (fun b : Addr => if b = a then some (HO.frz { cls := .type "list", data := .seq its.toArray } (.lst (ns.map V.int))) else none) a = some (HO.frz { cls := .type "list", data := .seq its.toArray } (.lst (ns.map V.int))) := if_pos rfl
    have off : ∀ b, b ≠ a → (fun b : Addr => if b = a then some (HO.frz { cls := .type "list", data := .seq its.toArray } (.lst (ns.map V.int))) else none) b = none := fun b h => if_neg h
    generalize (fun b : Addr => if b = a then some (HO.frz { cls := .type "list", data := .seq its.toArray } (.lst (ns.map V.int))) else none) = H at at_ off
    refine fin H (fun b => ?_) (.inl (.inr ⟨_, at_⟩)) (fun b u z => ?_) (fun b z => ?_) (fun _ => hk)
    · by_cases h : b = a
      · exact .inr ⟨_, _, by rw [h]; exact at_⟩
      · exact .inl (off b h)
    · by_cases h : b = a
      · rw [h, at_] at z
        obtain rfl := Option.some.inj z
        rw [h]
        exact ⟨B.scr, by rw [List.length_map]; exact hl, its, _, rv, B.scr⟩
      · rw [off b h] at z
        cases z
    · apply Classical.byContradiction
      intro h
      exact z (off b h)
end
theorem walk_g {l : PySem.W.OpenLaw} {n k : Nat} {q : Program} {loose : List Str} {XP : (Str → Option Value) → Heap → Prop} {YP : World → Heap → Prop} {d : DefRec} {x : Str} (hn : l.most = some n) (hn2 : n ≤ sizeLine) (hdf : d.params.defaults = []) (hr : Room k callerA)
    (F : ∀ (w : World) (mg : Str → Option Value) (fa : Addr) (h : Heap), YP w h → h.Ns mainGlobals mg → mg d.name = some (.ref fa) →
      ∃ (K : PySem.W.Frag) (fd : FuncData) (sp : Sp), K.In h ∧ (∀ (s : Shared) (u : Value), BindsTo s fd ⟨[u], []⟩ [(x, u)]) ∧
        (∀ (H : Hp) (a : Addr) (ns : List Int), ns.length ≤ n → Only H → SqL K H a (ns.map V.int) → sp [.ref a] H (fun v _ => v = .bl true) fun _ _ _ => False) ∧
        ∀ base : Heap, K.In base → base.Ns mainGlobals mg → FnG l.prog w K mg base C8.CX0 k fa fd [x] sp) : PySem.W.WalkO q loose XP YP l.row.toRowW d [] (fun f vs => PySem.call f vs) := by
  refine Att.attach_call hn hdf ?_
  intro w s0 s1 mg mb fa o pm cd doc a vs ns G Y ho hd hcd hmg hobj hints hlen hg
  obtain ⟨K, fd, sp, KX, hb, hsp, hF⟩ := F w mg fa _ Y G.T.g hmg
  exact law_g ⟨KX, G.T.g, G.T.b, G.T.builtins, G.T.nolimit, hg, hobj⟩ hints (Nat.le_trans hlen hn2) hr hF hb fun H hO hS => hsp H a ns hlen hO hS
end Z
namespace Z
open PySem PySem.Spec PyProof.Rows L2
/-! ### x != y by an own == -/
section
variable {K : PySem.W.Frag} {M : Model} {A : Around} {E : Value → Shared → Prop} {s : Shared} {a f C : Addr} {ox : Obj} {od : Option Obj} {b tb : Value} {P : Program} {w : World}
theorem ne_bound {Q : Option Value → Shared → Prop} (kin : K.In s.heap) (J : PySem.W.InstAt s.heap a ox C od) (hs : PySem.W.findIn K (.ref C) "__ne__" = some (some (.builtin "object.__ne__")))
    (h : wpAny M A (call (.builtin "object.__ne__") [.ref a, b]) (fun v => Q (some v)) E s) : wpAny M A (callSpecialIfBound? (.ref a) "__ne__" [b]) Q E s := by
  simp only [callSpecialIfBound?, bindSpecialIfBound?]
  refine wpAny_holding (wpAny_bind (wpAny_bind (wpAny_bind (J.type.here ((PySem.W.looks_findIn kin hs).here ?_)))))
  refine wpAny_bind (wpAny_askSetting (wpAny_ite ?_))
  have last : wpAny M A (call (.builtin "object.__ne__") ([.ref a] ++ [b]) >>= fun v => pure (some v)) Q E s := wpAny_bind (wpAny_mono h (fun v s' z => wpAny_pure z) fun _ _ z => z)
  have bd := ZFn.slot_ne.bind (.ref a)
  split
  · simp only [bd]
    exact wpAny_bind (wpAny_pure (wpAny_pure last))
  · simp only [bd]
    exact wpAny_tryCatch (wpAny_bind (wpAny_pure (wpAny_pure last)))
theorem ne_entry {Q : Fin → Shared → Prop} (hu : A.units < cLine) (kin : K.In s.heap) (J : PySem.W.InstAt s.heap a ox C od) (he : PySem.W.findIn K (.ref C) "__eq__" = some (some (.ref f))) (hf : PySem.W.isFn K (.ref f) = true)
    (h : wpAny (model P w) A (call (.ref f) [.ref a, b]) (fun v s' => ∃ r, v = .bool r ∧ Q (.done (.ret (.bool (!r)))) s') E s) : wpAny (model P w) A (Builtin.«object.__ne__» ⟨[.ref a, b], []⟩) Q E s := by
  unfold Builtin.«object.__ne__»
  refine wpAny_bind (m := slotArgs "__ne__" 1 _) (wpAny_pure ?_)
  refine wpAny_bind (wpAny_cRoomFor hu ?_)
  refine wpAny_bind (PySem.W.ifBound_K kin J he hf (wpAny_mono h (fun v s' z => ?_) fun _ _ z => z))
  obtain ⟨r, rfl, q⟩ := z
  exact wpAny_bind (wpAny_truthy_bool (wpAny_pure q))
theorem ne_own {Q : Value → Shared → Prop} (hu : A.units + 1 < cLine) (kin : K.In s.heap) (J : PySem.W.InstAt s.heap a ox C od) (hb : PySem.W.Looks (model P w) s.heap (typeOf b) tb) (hn : PySem.W.notFirst K C tb = true) (hs : PySem.W.findIn K (.ref C) "__ne__" = some (some (.builtin "object.__ne__")))
    (ho : PySem.W.mroIn K C (.type "object") = some true) (he : PySem.W.findIn K (.ref C) "__eq__" = some (some (.ref f))) (hf : PySem.W.isFn K (.ref f) = true)
    (h : wpAny (model P w) A.in1 (call (.ref f) [.ref a, b]) (fun v s' => ∃ r, v = .bool r ∧ Q (.bool (!r)) s') E s) : wpAny (model P w) A (richCompare .NotEq (.ref a) b) Q E s := by
  have told : wpAny (model P w) A (tryCompare (.ref a) "__ne__" b) (fun r s' => ∃ v, r = some v ∧ Q v s') E s := by
    unfold tryCompare
    refine wpAny_bind (ne_bound kin J hs ?_)
    refine wpAny_call (codeAny_call_builtin ZFn.slot_ne.plain F.cmpEntry_ne (PySem.W.check_slot F.cmpKind_ne F.cmpSplit_ne (J.type.andThen (PySem.W.looks_subIn kin (show PySem.W.subIn K (.ref C) (.type "object") = some true from ho))) (F.cmpArgs_ne _ _) ?_))
    refine ne_entry (A := A.in1) hu kin J he hf (wpAny_mono h (fun v s' z => ?_) fun _ _ z => z)
    obtain ⟨r, rfl, q⟩ := z
    exact ⟨r, rfl, wpAny_pure ⟨_, rfl, q⟩⟩
  unfold richCompare
  simp only [oneThing_ref]
  refine wpAny_holding (wpAny_bind (wpAny_cRoomFor (by omega) ?_))
  refine wpAny_bind (J.type.here (wpAny_bind (hb.here ?_)))
  have rest : wpAny (model P w) A (tryCompare (.ref a) "__ne__" b) (fun r s' => ∃ v, r = some v ∧ Q v s') E s := told
  split
  · rename_i q
    have sub : PySem.W.subIn K tb (.ref C) = some false := by
      rcases Bool.or_eq_true_iff.mp hn with e | e
      · rw [beq_iff_eq.mp e] at q
        simp at q
      · exact beq_iff_eq.mp e
    refine wpAny_bind ((PySem.W.looks_subIn kin sub).here ?_)
    simp only [Bool.false_eq_true, if_false]
    refine wpAny_bind (wpAny_mono rest (fun r s' z => ?_) fun _ _ z => z)
    obtain ⟨v, rfl, hq⟩ := z
    exact wpAny_pure hq
  · refine wpAny_bind (wpAny_pure ?_)
    simp only [Bool.false_eq_true, if_false]
    refine wpAny_bind (wpAny_mono rest (fun r s' z => ?_) fun _ _ z => z)
    obtain ⟨v, rfl, hq⟩ := z
    exact wpAny_pure hq
end
/-- C has no != of its own -/
structure NeF (K : PySem.W.Frag) (C : Addr) : Prop where
  ne : PySem.W.findIn K (.ref C) "__ne__" = some (some (.builtin "object.__ne__"))
  ob : PySem.W.mroIn K C (.type "object") = some true
def yNeO (K : PySem.W.Frag) (C : Addr) (sp : Sp) : R2 := fun x y H Q => match x with
  | .ref a => (match H a with
    | some (.ins C' _ _) => C' = C ∧ tyAt K H y fun t => PySem.W.notFirst K C t = true ∧ sp [.ref a, y] H (isBl fun b H' => Q (.bl (!b)) H') C8.E0
    | _ => yNe K x y H Q)
  | _ => yNe K x y H Q
section
variable {X : Cx} {k j : Nat} {C : Addr} {sp : Sp}
theorem o_neO (c : C8.Met X.prog X.w X.K X.mg X.base k C "__eq__" sp []) (nf : NeF X.K C) (hr : Room j X.A) (hk : k + 1 ≤ j) : OpR X (compareOp .NotEq) (yNeO X.K C sp) := by
  intro pins s σ H x y v u Q I rx ry q
  unfold yNeO at q
  split at q
  · rename_i a
    split at q
    · rename_i C' dx fs ha
      obtain ⟨rfl, q⟩ := q
      obtain ⟨t, ty, nf2, q⟩ := tyAt_ok q
      obtain ⟨f, fd, ps, ds, cl, me, F, b, hd⟩ := c
      obtain ⟨ox, od, J⟩ := inst_at I ha
      obtain ⟨P, Z, p, _⟩ := kit_of I ry ty
      cases rx
      show wpAny (model X.prog X.w) X.A (richCompare .NotEq (.ref a) u) (EP X pins σ Q) X.xe s
      have un := hr.un
      refine ne_own (K := X.K) (tb := t) (by omega) I.kIn J (Z.ty _ _ I.kIn p) nf2 nf.ne nf.ob me.at_ me.fn ?_
      refine thn (run_fn (X := X1 X) (us := [.ref a, u]) (vs := [.ref a, y]) F (show Room k X.A.in1 from (hr.mono hk).in1) b hd C8.pass0 (inv_1 I) (.cons rfl (.cons ry .nil)) q) fun r s' z => ?_
      obtain ⟨z, H', I', rz, qz⟩ := z
      unfold isBl at qz
      split at qz
      · cases rz
        exact ⟨_, rfl, .bl _, H', inv_0 I.ok I', rfl, qz⟩
      · exact qz.elim
    · exact o_ne hr.units pins s σ H _ y v u Q I rx ry q
  · exact o_ne hr.units pins s σ H x y v u Q I rx ry q
/-! ### list(t), t a tuple of the module or of the heap -/
def yListQ (K : PySem.W.Frag) : List V → Hp → VK → Prop := fun vs H Q => ∃ p xs, vs = [.ref p] ∧ (SqL K H p xs ∨ SqT K H p xs) ∧ ∀ l, H l = none → Q (.ref l) (upd H l (.lst xs))
theorem c_listQ : CallR X (.type "list") (yListQ X.K) := cr_imp call_list_of fun xs H Q q => by
  obtain ⟨p, ys, rfl, h, q⟩ := q
  exact ⟨p, ys, rfl, h, q⟩
/-! ### repr of a truth -/
def yReprB (K : PySem.W.Frag) : List V → Hp → VK → Prop := fun vs H Q => match vs with
  | [.bl b] => Q (.str (if b then "True" else "False")) H
  | _ => yReprD K vs H Q
theorem c_reprB (hg : X.A.guards = some []) (hr : Room j X.A) : CallR X (.builtin "repr") (yReprB X.K) := by
  intro pins s σ H xs us Q I r q
  unfold yReprB at q
  split at q
  · rename_i b
    cases r with
    | cons r1 r2 =>
      cases r2
      cases r1
      exact PySem.P.repr_of_bool ⟨.str _, H, I.tok _, ⟨_, rfl⟩, q⟩
  · exact c_reprD hg hr pins s σ H xs us Q I r q
end
/-! ### C(), C(k = v, ..) of an __init__ with keyword-only parameters -/
def Mak0N (P : Program) (w : World) (K : PySem.W.Frag) (mg : Str → Option Value) (base : Heap) (k : Nat) (x : Str) (C : Addr) (sp : Sp) (ks : List Str) (gV : List V → List V → List V) : Prop := ∃ f fd ps g, Mk K C f ∧ FnOk P w K mg base C8.CX0 k f fd ps sp ∧ mg x = some (.ref C) ∧ KBn K fd ps 1 ks g gV
theorem e_mk0N {X : Cx} {k j : Nat} {x : Str} {C : Addr} {sp : Sp} {ks : List Str} {gV : List V → List V → List V} {kws : List Keyword} {tk : TA} {p pos : Pos} (c : Mak0N X.prog X.w X.K X.mg X.base k x C sp ks gV) (hr : Room j X.A) (hk : k + 1 ≤ j) (hg : Gl X x) (hkw : PK X kws tk)
    (hall : (backToKw pos (keywordEach kws X.env)).all (·.1.isSome) = true := by rfl) (hks : (backToKw pos (keywordEach kws X.env)).filterMap (·.1) = ks := by rfl) (hdb : (x == ("__debug__" : Str)) = false := by decide)
    (hpl : ((backTo pos (starEach [] X.env)).any (·.1) || (backToKw pos (keywordEach kws X.env)).any (·.1.isNone)) = false := by rfl) : PE X (.Call (.Name x p) [] kws pos) (tMakeN C 0 ks.length sp gV C8.E0 tNil tk) := by
  obtain ⟨f, fd, ps, g, M, F, hm, b⟩ := c
  exact e_make0N M F (hr.mono hk) hg hm b C8.pass0 hkw hall hks hdb hpl
/-! ### for i, x in enumerate(xs) -/
def zForE (K : PySem.W.Frag) (te : TE) (g : TG) (tb : TS) : TS := fun D σ H => te σ H fun v H1 => refAt v fun a => (∃ xs, SqL K H1 a xs) ∧ loopOn (Ite K a) g tb D σ H1
theorem s_forE {X : Cx} {elts : List Expr} {kk : Nat} {e : Expr} {body : List Stmt} {te : TE} {g : TG} {tb : TS} {pos p pos2 tpos : Pos} (hp : PassesOwn (model X.prog X.w) X.A X.env X.xe) (hc : X.calm = true) (hg : Gl X "enumerate") (hm : X.mg "enumerate" = none) (he : PE X e te) (hgt : PG X (.Tuple elts kk tpos) g) (hb : PSs X body tb)
    (hst : starEach [e] X.env = [(false, eval e X.env)] := by rfl) (hs : ∀ x, foldedSetIterable (.Call (.Name "enumerate" p) [e] [] pos2) X.env x = pure x := by intro _; rfl) :
    PS X (.For (.Tuple elts kk tpos) (.Call (.Name "enumerate" p) [e] [] pos2) body [] pos) (zForE X.K te g tb) :=
  ps_imp (ps_for hp hc (pi_enum hg hm (pa_cons (pe_up he) pa_nil hst) hst) hgt hb hs) fun D σ H q => ⟨_, fun v H1 q => by
    obtain ⟨a, en, ⟨xs, h1⟩, q6⟩ := refAt_ok q
    subst en
    exact ⟨a, xs, rfl, h1, q6⟩, q⟩
/-- the turns over a list that stays -/
theorem loopE {K : PySem.W.Frag} {a : Addr} {xs : List V} {g : TG} {tb : TS} {D : Ends} {σ : L2.St} {H : Hp} (Pv : Nat → L2.St → Hp → Prop) (h0 : Pv 0 σ H) (hl : ∀ i σ H, i ≤ xs.length → Pv i σ H → SqL K H a xs)
    (hs : ∀ i x σ H t, xs[i]? = some x → Pv i σ H → H t = none → g (.ref t) σ (upd H t (.tup [.int (i : Nat), x])) fun σ2 H2 => tb { D with nx := Pv (i + 1), ct := Pv (i + 1), bk := D.nx } σ2 H2) (hd : ∀ σ H, Pv xs.length σ H → D.nx σ H) : loopOn (Ite K a) g tb D σ H := by
  refine ⟨fun i m σ H => m = xs.length - i ∧ i ≤ xs.length ∧ Pv i σ H, ⟨_, rfl, Nat.zero_le _, h0⟩, ?_⟩
  rintro i m σ H ⟨rfl, hi, p⟩
  have sq := hl i σ H hi p
  by_cases hlt : i < xs.length
  · refine .inr ⟨⟨xs, xs[i], sq, List.getElem?_eq_getElem hlt⟩, Pv (i + 1), fun σ' H' p' => ⟨_, by omega, rfl, hlt, p'⟩, fun x H' y => ?_⟩
    obtain ⟨T, y, rfl, hT, rfl, hy⟩ := y
    exact hs i y σ H T (hy xs sq) p hT
  · have e : i = xs.length := by omega
    subst e
    exact .inl ⟨⟨xs, sq, Nat.le_refl _⟩, hd σ H p⟩
end Z
namespace Hk
open PySem PySem.Spec PyProof.Rows L2
def neFB (C : Str) : Fact := fun K => He.eqO (PySem.W.findIn K (.ref (He.ga K C)) "__ne__") (some (some (.builtin "object.__ne__"))) && decide (PySem.W.mroIn K (He.ga K C) (.type "object") = some true)
theorem neFB_ok {K : PySem.W.Frag} {C : Str} (h : neFB C K = true) : Z.NeF K (He.ga K C) := by
  obtain ⟨h1, h2⟩ := He.ba h
  exact ⟨He.eqO_ok h1, of_decide_eq_true h2⟩
end Hk
namespace Z
open PySem PySem.Spec PyProof.Rows L2
/-! ### new objects, the rest of the heap left open: nothing that stood is lost -/
def newA (o : HO) (H : Hp) (Q : V → Hp → Prop) : Prop := ∀ p H', H p = none → Same H H' → H' p = some o → Q (.ref p) H'
theorem newA_ok {o : HO} {H : Hp} {Q : V → Hp → Prop} (h : newA o H Q) : ∀ p, H p = none → Q (.ref p) (upd H p o) := fun p hp => h p _ hp (same_new hp) upd_same
def zTupA (t : TA) : TE := fun σ H Q => t σ H fun vs H1 => vs.length ≤ sizeLine ∧ newA (.tup vs) H1 Q
def zLstA (t : TA) : TE := fun σ H Q => t σ H fun vs H1 => vs.length ≤ sizeLine ∧ newA (.lst vs) H1 Q
def yAddA : R2 := fun x y H Q => match x, y with
  | .int i, .int j => Q (.int (i + j)) H
  | .str a, .str b => a.length + b.length ≤ sizeLine ∧ Q (.str (a ++ b)) H
  | .ref p, .ref q => (match H p, H q with
    | some (.lst xs), some (.lst ys) => xs.length + ys.length ≤ sizeLine ∧ newA (.lst (xs ++ ys)) H Q
    | _, _ => False)
  | _, _ => False
def yMulA : R2 := fun x y H Q => match x, y with
  | .int i, .int j => CMul i j ∧ Q (.int (i * j)) H
  | .ref p, .int k => (match H p with
    | some (.lst xs) => (-(2 ^ 63) ≤ k ∧ k < 2 ^ 63 ∧ xs.length * k.toNat ≤ sizeLine) ∧ newA (.lst ((List.replicate k.toNat xs).flatten)) H Q
    | _ => False)
  | _, _ => False
def sliceA (K : PySem.W.Frag) (x : V) (lo hi : Option Int) (H : Hp) (Q : VK) : Prop := match x with
  | .ref a => (match H a with
    | some (.lst xs) => newA (.lst (cutV xs lo hi)) H Q
    | _ => ∃ xs, SqL K H a xs ∧ newA (.lst (cutV xs lo hi)) H Q)
  | _ => False
def zS2A (K : PySem.W.Frag) (to tl th : TE) : TE := fun σ H Q => to σ H fun x H1 => tl σ H1 fun l H2 => Z.intAt l fun i => th σ H2 fun u H3 => Z.intAt u fun j => sliceA K x (some i) (some j) H3 Q
def zSAA (K : PySem.W.Frag) (to tl : TE) : TE := fun σ H Q => to σ H fun x H1 => tl σ H1 fun l H2 => Z.intAt l fun i => sliceA K x (some i) none H2 Q
def zSBA (K : PySem.W.Frag) (to th : TE) : TE := fun σ H Q => to σ H fun x H1 => th σ H1 fun l H2 => Z.intAt l fun i => sliceA K x none (some i) H2 Q
theorem sliceA_ok {K : PySem.W.Frag} {x : V} {lo hi : Option Int} {H : Hp} {Q : VK} (h : sliceA K x lo hi H Q) : ∃ a xs, x = .ref a ∧ SqL K H a xs ∧ ∀ p, H p = none → Q (.ref p) (upd H p (.lst (cutV xs lo hi))) := by
  unfold sliceA at h
  split at h
  · split at h
    · exact ⟨_, _, rfl, SqL.of (by assumption), newA_ok h⟩
    · obtain ⟨xs, h1, h2⟩ := h
      exact ⟨_, xs, rfl, h1, newA_ok h2⟩
  · exact h.elim
def yListA (K : PySem.W.Frag) : List V → Hp → VK → Prop := fun vs H Q => match vs with
  | [.ref p] => sqAt K H p fun xs => newA (.lst xs) H Q
  | _ => False
def yTupleA (K : PySem.W.Frag) : List V → Hp → VK → Prop := fun vs H Q => match vs with
  | [.ref p] => (match H p with
    | some (.lst xs) => newA (.tup xs) H Q
    | some (.tup _) => Q (.ref p) H
    | _ => False)
  | _ => False
section
variable {X : Cx} {es : List Expr} {t : TA} {pos : Pos} {o e e2 : Expr} {to te te2 : TE} {p2 : Pos}
theorem e_tupA {c : Nat} (ha : PA X es t) : PE X (.Tuple es c pos) (zTupA t) := pe_imp (pe_tup (pa_up ha)) fun σ H Q q => ⟨_, fun vs H1 q => ⟨q.1, newA_ok q.2⟩, q⟩
theorem e_lstA (ha : PA X es t) : PE X (.List es pos) (zLstA t) := pe_imp (pe_lst (pa_up ha)) fun σ H Q q => ⟨_, fun vs H1 q => ⟨q.1, newA_ok q.2⟩, q⟩
theorem o_addA : OpR X (binaryOp .Add) yAddA := or_imp o_add fun x y H Q q => by
  unfold yAddA at q
  unfold yAdd
  split at q
  · exact q
  · exact q
  · split at q
    · rename_i h1 h2
      try simp only [h1, h2]
      exact ⟨q.1, newA_ok q.2⟩
    · exact q.elim
  · exact q.elim
theorem o_mulA : OpR X (binaryOp .Mult) yMulA := or_imp o_mul fun x y H Q q => by
  unfold yMulA at q
  unfold yMul
  split at q
  · exact q
  · split at q
    · rename_i h1
      try simp only [h1]
      exact ⟨q.1, newA_ok q.2⟩
    · exact q.elim
  · exact q.elim
theorem e_s2A (ho : PE X o to) (he : PE X e te) (he2 : PE X e2 te2) : PE X (.Subscript o (.Slice (some e) (some e2) none p2) pos) (zS2A X.K to te te2) :=
  pe_imp (pe_slice sl_list (pe_up ho) (po_some (pe_up he)) (po_some (pe_up he2))) fun σ H Q q => ⟨_, fun x H1 q => ⟨_, fun l H2 q => by
    obtain ⟨i, ei, q5⟩ := intAt_ok q
    refine ⟨i, ei, _, fun u H3 q6 => ?_, q5⟩
    obtain ⟨j, ej, q7⟩ := intAt_ok q6
    obtain ⟨a, xs, ea, q8⟩ := sliceA_ok q7
    exact ⟨j, ej, a, xs, ea, q8⟩, q⟩, q⟩
theorem e_sAA (ho : PE X o to) (he : PE X e te) : PE X (.Subscript o (.Slice (some e) none none p2) pos) (zSAA X.K to te) :=
  pe_imp (pe_slice sl_list (pe_up ho) (po_some (pe_up he)) po_none) fun σ H Q q => ⟨_, fun x H1 q => ⟨_, fun l H2 q => by
    obtain ⟨i, ei, q5⟩ := intAt_ok q
    obtain ⟨a, xs, ea, q8⟩ := sliceA_ok q5
    exact ⟨i, ei, a, xs, ea, q8⟩, q⟩, q⟩
theorem e_sBA (ho : PE X o to) (he : PE X e te) : PE X (.Subscript o (.Slice none (some e) none p2) pos) (zSBA X.K to te) :=
  pe_imp (pe_slice sl_list (pe_up ho) po_none (po_some (pe_up he))) fun σ H Q q => ⟨_, fun x H1 q => ⟨_, fun l H2 q => by
    obtain ⟨i, ei, q5⟩ := intAt_ok q
    obtain ⟨a, xs, ea, q8⟩ := sliceA_ok q5
    exact ⟨i, ei, a, xs, ea, q8⟩, q⟩, q⟩
theorem c_listA : CallR X (.type "list") (yListA X.K) := cr_imp call_list_of fun xs H Q q => by
  unfold yListA at q
  split at q
  · obtain ⟨xs, hx, q⟩ := sqAt_ok q
    exact ⟨_, xs, rfl, hx, newA_ok q⟩
  · exact q.elim
theorem c_tupleA : CallR X (.type "tuple") (yTupleA X.K) := cr_imp c_tuple fun xs H Q q => by
  unfold yTupleA at q
  unfold yTuple
  split at q
  · split at q
    · rename_i h1
      try simp only [h1]
      exact newA_ok q
    · rename_i h1
      try simp only [h1]
      exact q
    · exact q.elim
  · exact q.elim
end
end Z
namespace K19
open PySem PySem.Spec PyProof.Rows L2 Z
def top (i : Nat) : Stmt := PySem.Challenge.pw_devicewindows_k19_books_and_settings_mad.main.body.getD i (.Pass ⟨0, 0, 0, 0⟩)
abbrev st_is_integer : Stmt := top 5
abbrev nm_is_integer : List Str := ["thing"]
theorem sc_is_integer : FnScope nm_is_integer ["thing"] (defScope st_is_integer) := ⟨rfl, rfl, rfl, by decide +kernel, rfl, by decide +kernel, by decide +kernel⟩
theorem start_is_integer (v0 : V) : start nm_is_integer [v0] = [some v0] := rfl
abbrev st_is_from_to : Stmt := top 6
abbrev nm_is_from_to : List Str := ["thing", "least", "most"]
theorem sc_is_from_to : FnScope nm_is_from_to ["thing", "least", "most"] (defScope st_is_from_to) := ⟨rfl, rfl, rfl, by decide +kernel, rfl, by decide +kernel, by decide +kernel⟩
theorem start_is_from_to (v0 v1 v2 : V) : start nm_is_from_to [v0, v1, v2] = [some v0, some v1, some v2] := rfl
abbrev st_is_duty : Stmt := top 20
abbrev nm_is_duty : List Str := ["told", "direction"]
theorem sc_is_duty : FnScope nm_is_duty ["told"] (defScope st_is_duty) := ⟨rfl, rfl, rfl, by decide +kernel, rfl, by decide +kernel, by decide +kernel⟩
theorem start_is_duty (v0 : V) : start nm_is_duty [v0] = [some v0, none] := rfl
abbrev st_is_word_of : Stmt := top 21
abbrev nm_is_word_of : List Str := ["told", "words"]
theorem sc_is_word_of : FnScope nm_is_word_of ["told", "words"] (defScope st_is_word_of) := ⟨rfl, rfl, rfl, by decide +kernel, rfl, by decide +kernel, by decide +kernel⟩
theorem start_is_word_of (v0 v1 : V) : start nm_is_word_of [v0, v1] = [some v0, some v1] := rfl
abbrev st_Book___init__ : Stmt := inClass (top 23) 0
abbrev nm_Book___init__ : List Str := ["self", "cleaned", "dropped", "bind_copied", "give_copied", "take_copied", "duties", "field", "told"]
theorem sc_Book___init__ : FnScope nm_Book___init__ ["self", "cleaned", "dropped", "bind_copied", "give_copied", "take_copied"] (defScope st_Book___init__) := ⟨rfl, rfl, rfl, by decide +kernel, rfl, by decide +kernel, by decide +kernel⟩
theorem start_Book___init__ (v0 v1 v2 v3 v4 v5 : V) : start nm_Book___init__ [v0, v1, v2, v3, v4, v5] = [some v0, some v1, some v2, some v3, some v4, some v5, none, none, none] := rfl
abbrev st_Book_duties : Stmt := inClass (top 23) 1
abbrev nm_Book_duties : List Str := ["self"]
theorem sc_Book_duties : FnScope nm_Book_duties ["self"] (defScope st_Book_duties) := ⟨rfl, rfl, rfl, by decide +kernel, rfl, by decide +kernel, by decide +kernel⟩
theorem start_Book_duties (v0 : V) : start nm_Book_duties [v0] = [some v0] := rfl
abbrev st_Book___eq__ : Stmt := inClass (top 23) 2
abbrev nm_Book___eq__ : List Str := ["self", "other"]
theorem sc_Book___eq__ : FnScope nm_Book___eq__ ["self", "other"] (defScope st_Book___eq__) := ⟨rfl, rfl, rfl, by decide +kernel, rfl, by decide +kernel, by decide +kernel⟩
theorem start_Book___eq__ (v0 v1 : V) : start nm_Book___eq__ [v0, v1] = [some v0, some v1] := rfl
abbrev st_Setting___init__ : Stmt := inClass (top 24) 0
abbrev nm_Setting___init__ : List Str := ["self", "copies", "cached", "batch", "early", "drain", "policy", "groups", "tables", "book", "checks", "field", "is_right"]
theorem sc_Setting___init__ : FnScope nm_Setting___init__ ["self", "copies", "cached", "batch", "early", "drain", "policy", "groups", "tables", "book"] (defScope st_Setting___init__) := ⟨rfl, rfl, rfl, by decide +kernel, rfl, by decide +kernel, by decide +kernel⟩
theorem start_Setting___init__ (v0 v1 v2 v3 v4 v5 v6 v7 v8 v9 : V) : start nm_Setting___init__ [v0, v1, v2, v3, v4, v5, v6, v7, v8, v9] = [some v0, some v1, some v2, some v3, some v4, some v5, some v6, some v7, some v8, some v9, none, none, none] := rfl
abbrev st_Setting_pairs : Stmt := inClass (top 24) 2
abbrev nm_Setting_pairs : List Str := ["self", "found"]
theorem sc_Setting_pairs : FnScope nm_Setting_pairs ["self"] (defScope st_Setting_pairs) := ⟨rfl, rfl, rfl, by decide +kernel, rfl, by decide +kernel, by decide +kernel⟩
theorem start_Setting_pairs (v0 : V) : start nm_Setting_pairs [v0] = [some v0, none] := rfl
abbrev st_Setting___eq__ : Stmt := inClass (top 24) 3
abbrev nm_Setting___eq__ : List Str := ["self", "other"]
theorem sc_Setting___eq__ : FnScope nm_Setting___eq__ ["self", "other"] (defScope st_Setting___eq__) := ⟨rfl, rfl, rfl, by decide +kernel, rfl, by decide +kernel, by decide +kernel⟩
theorem start_Setting___eq__ (v0 v1 : V) : start nm_Setting___eq__ [v0, v1] = [some v0, some v1] := rfl
abbrev st_L_bag : Stmt := top 26
abbrev nm_L_bag : List Str := ["_law_script", "_law_at", "_law_cell", "_law_mixed", "_law_spot", "_law_each"]
theorem sc_L_bag : FnScope nm_L_bag ["_law_script", "_law_at"] (defScope st_L_bag) := ⟨rfl, rfl, rfl, by decide +kernel, rfl, by decide +kernel, by decide +kernel⟩
theorem start_L_bag (v0 v1 : V) : start nm_L_bag [v0, v1] = [some v0, some v1, none, none, none, none] := rfl
abbrev st_L_take : Stmt := top 27
abbrev nm_L_take : List Str := ["_law_bag_here", "_law_many", "_law_digit"]
theorem sc_L_take : FnScope nm_L_take ["_law_bag_here", "_law_many"] (defScope st_L_take) := ⟨rfl, rfl, rfl, by decide +kernel, rfl, by decide +kernel, by decide +kernel⟩
theorem start_L_take (v0 v1 : V) : start nm_L_take [v0, v1] = [some v0, some v1, none] := rfl
abbrev st_L_of : Stmt := top 28
abbrev nm_L_of : List Str := ["_law_bag_here", "_law_some"]
theorem sc_L_of : FnScope nm_L_of ["_law_bag_here", "_law_some"] (defScope st_L_of) := ⟨rfl, rfl, rfl, by decide +kernel, rfl, by decide +kernel, by decide +kernel⟩
theorem start_L_of (v0 v1 : V) : start nm_L_of [v0, v1] = [some v0, some v1] := rfl
abbrev st_L_ways : Stmt := top 29
abbrev nm_L_ways : List Str := ["_law_number", "_law_way", "_law_bit"]
theorem sc_L_ways : FnScope nm_L_ways ["_law_number"] (defScope st_L_ways) := ⟨rfl, rfl, rfl, by decide +kernel, rfl, by decide +kernel, by decide +kernel⟩
theorem start_L_ways (v0 : V) : start nm_L_ways [v0] = [some v0, none, none] := rfl
abbrev st_L_arguments : Stmt := top 30
abbrev nm_L_arguments : List Str := ["_law_bag_here", "_law_found", "_law_k"]
theorem sc_L_arguments : FnScope nm_L_arguments ["_law_bag_here"] (defScope st_L_arguments) := ⟨rfl, rfl, rfl, by decide +kernel, rfl, by decide +kernel, by decide +kernel⟩
theorem start_L_arguments (v0 : V) : start nm_L_arguments [v0] = [some v0, none, none] := rfl
abbrev st_L_book : Stmt := top 31
abbrev nm_L_book : List Str := ["_law_duties_here", "_law_a", "_law_b", "_law_c", "_law_d", "_law_e"]
theorem sc_L_book : FnScope nm_L_book ["_law_duties_here"] (defScope st_L_book) := ⟨rfl, rfl, rfl, by decide +kernel, rfl, by decide +kernel, by decide +kernel⟩
theorem start_L_book (v0 : V) : start nm_L_book [v0] = [some v0, none, none, none, none, none] := rfl
abbrev st_L_setting : Stmt := top 32
abbrev nm_L_setting : List Str := ["_law_told", "_law_made", "_law_one", "_law_two", "_law_three", "_law_four", "_law_five", "_law_six", "_law_seven", "_law_eight", "_law_nine"]
theorem sc_L_setting : FnScope nm_L_setting ["_law_told"] (defScope st_L_setting) := ⟨rfl, rfl, rfl, by decide +kernel, rfl, by decide +kernel, by decide +kernel⟩
theorem start_L_setting (v0 : V) : start nm_L_setting [v0] = [some v0, none, none, none, none, none, none, none, none, none, none] := rfl
abbrev st_L_duties : Stmt := top 33
abbrev nm_L_duties : List Str := ["_law_some"]
theorem sc_L_duties : FnScope nm_L_duties ["_law_some"] (defScope st_L_duties) := ⟨rfl, rfl, rfl, by decide +kernel, rfl, by decide +kernel, by decide +kernel⟩
theorem start_L_duties (v0 : V) : start nm_L_duties [v0] = [some v0] := rfl
abbrev st_L_shows : Stmt := top 34
abbrev nm_L_shows : List Str := ["_law_one", "_law_told", "_law_standard", "_law_due", "_law_found"]
theorem sc_L_shows : FnScope nm_L_shows ["_law_one", "_law_told"] (defScope st_L_shows) := ⟨rfl, rfl, rfl, by decide +kernel, rfl, by decide +kernel, by decide +kernel⟩
theorem start_L_shows (v0 v1 : V) : start nm_L_shows [v0, v1] = [some v0, some v1, none, none, none] := rfl
abbrev st_L_changed : Stmt := top 35
abbrev nm_L_changed : List Str := ["_law_bag_here", "_law_told", "_law_at", "_law_other"]
theorem sc_L_changed : FnScope nm_L_changed ["_law_bag_here", "_law_told"] (defScope st_L_changed) := ⟨rfl, rfl, rfl, by decide +kernel, rfl, by decide +kernel, by decide +kernel⟩
theorem start_L_changed (v0 v1 : V) : start nm_L_changed [v0, v1] = [some v0, some v1, none, none] := rfl
abbrev st_L_full : Stmt := top 36
abbrev nm_L_full : List Str := ["_law_told", "_law_standard"]
theorem sc_L_full : FnScope nm_L_full ["_law_told"] (defScope st_L_full) := ⟨rfl, rfl, rfl, by decide +kernel, rfl, by decide +kernel, by decide +kernel⟩
theorem start_L_full (v0 : V) : start nm_L_full [v0] = [some v0, none] := rfl
abbrev st_law : Stmt := top 37
abbrev nm_law : List Str := ["_law_script", "_law_first", "_law_at", "_law_bag_here", "_law_turn", "_law_told", "_law_other", "_law_one", "_law_two", "_law_value"]
theorem sc_law : FnScope nm_law ["_law_script"] (defScope st_law) := ⟨rfl, rfl, rfl, by decide +kernel, rfl, by decide +kernel, by decide +kernel⟩
theorem start_law (v0 : V) : start nm_law [v0] = [some v0, none, none, none, none, none, none, none, none, none] := rfl
def fs_Book (v0 v1 v2 v3 v4 : V) : List (Str × V) := [(("cleaned" : Str), v0), (("dropped" : Str), v1), (("bind_copied" : Str), v2), (("give_copied" : Str), v3), (("take_copied" : Str), v4)]
theorem lk_Book_cleaned (v0 v1 v2 v3 v4 : V) : (fs_Book v0 v1 v2 v3 v4).lookup ("cleaned" : Str) = some v0 := by unfold fs_Book; rw [List.lookup_cons, show (("cleaned" : Str) == ("cleaned" : Str)) = true by decide +kernel]
theorem pf_Book_cleaned (w v0 v1 v2 v3 v4 : V) : putF ("cleaned" : Str) w (fs_Book v0 v1 v2 v3 v4) = fs_Book w v1 v2 v3 v4 := by unfold fs_Book; rw [Hk.putF_eq]
theorem pn_Book_cleaned (v0 v1 v2 v3 v4 : V) : putF ("cleaned" : Str) v0 ([] : List (Str × V)) = [(("cleaned" : Str), v0)] := by rfl
theorem lk_Book_dropped (v0 v1 v2 v3 v4 : V) : (fs_Book v0 v1 v2 v3 v4).lookup ("dropped" : Str) = some v1 := by unfold fs_Book; rw [List.lookup_cons, show (("dropped" : Str) == ("cleaned" : Str)) = false by decide +kernel]; rw [List.lookup_cons, show (("dropped" : Str) == ("dropped" : Str)) = true by decide +kernel]
theorem pf_Book_dropped (w v0 v1 v2 v3 v4 : V) : putF ("dropped" : Str) w (fs_Book v0 v1 v2 v3 v4) = fs_Book v0 w v2 v3 v4 := by unfold fs_Book; rw [Hk.putF_ne (show ¬ ("cleaned" : Str) = ("dropped" : Str) by decide +kernel)]; rw [Hk.putF_eq]
theorem pn_Book_dropped (v0 v1 v2 v3 v4 : V) : putF ("dropped" : Str) v1 ([(("cleaned" : Str), v0)] : List (Str × V)) = [(("cleaned" : Str), v0), (("dropped" : Str), v1)] := by rw [Hk.putF_ne (show ¬ ("cleaned" : Str) = ("dropped" : Str) by decide +kernel)]; rfl
theorem lk_Book_bind_copied (v0 v1 v2 v3 v4 : V) : (fs_Book v0 v1 v2 v3 v4).lookup ("bind_copied" : Str) = some v2 := by unfold fs_Book; rw [List.lookup_cons, show (("bind_copied" : Str) == ("cleaned" : Str)) = false by decide +kernel]; rw [List.lookup_cons, show (("bind_copied" : Str) == ("dropped" : Str)) = false by decide +kernel]; rw [List.lookup_cons, show (("bind_copied" : Str) == ("bind_copied" : Str)) = true by decide +kernel]
theorem pf_Book_bind_copied (w v0 v1 v2 v3 v4 : V) : putF ("bind_copied" : Str) w (fs_Book v0 v1 v2 v3 v4) = fs_Book v0 v1 w v3 v4 := by unfold fs_Book; rw [Hk.putF_ne (show ¬ ("cleaned" : Str) = ("bind_copied" : Str) by decide +kernel)]; rw [Hk.putF_ne (show ¬ ("dropped" : Str) = ("bind_copied" : Str) by decide +kernel)]; rw [Hk.putF_eq]
theorem pn_Book_bind_copied (v0 v1 v2 v3 v4 : V) : putF ("bind_copied" : Str) v2 ([(("cleaned" : Str), v0), (("dropped" : Str), v1)] : List (Str × V)) = [(("cleaned" : Str), v0), (("dropped" : Str), v1), (("bind_copied" : Str), v2)] := by rw [Hk.putF_ne (show ¬ ("cleaned" : Str) = ("bind_copied" : Str) by decide +kernel)]; rw [Hk.putF_ne (show ¬ ("dropped" : Str) = ("bind_copied" : Str) by decide +kernel)]; rfl
theorem lk_Book_give_copied (v0 v1 v2 v3 v4 : V) : (fs_Book v0 v1 v2 v3 v4).lookup ("give_copied" : Str) = some v3 := by unfold fs_Book; rw [List.lookup_cons, show (("give_copied" : Str) == ("cleaned" : Str)) = false by decide +kernel]; rw [List.lookup_cons, show (("give_copied" : Str) == ("dropped" : Str)) = false by decide +kernel]; rw [List.lookup_cons, show (("give_copied" : Str) == ("bind_copied" : Str)) = false by decide +kernel]; rw [List.lookup_cons, show (("give_copied" : Str) == ("give_copied" : Str)) = true by decide +kernel]
theorem pf_Book_give_copied (w v0 v1 v2 v3 v4 : V) : putF ("give_copied" : Str) w (fs_Book v0 v1 v2 v3 v4) = fs_Book v0 v1 v2 w v4 := by unfold fs_Book; rw [Hk.putF_ne (show ¬ ("cleaned" : Str) = ("give_copied" : Str) by decide +kernel)]; rw [Hk.putF_ne (show ¬ ("dropped" : Str) = ("give_copied" : Str) by decide +kernel)]; rw [Hk.putF_ne (show ¬ ("bind_copied" : Str) = ("give_copied" : Str) by decide +kernel)]; rw [Hk.putF_eq]
theorem pn_Book_give_copied (v0 v1 v2 v3 v4 : V) : putF ("give_copied" : Str) v3 ([(("cleaned" : Str), v0), (("dropped" : Str), v1), (("bind_copied" : Str), v2)] : List (Str × V)) = [(("cleaned" : Str), v0), (("dropped" : Str), v1), (("bind_copied" : Str), v2), (("give_copied" : Str), v3)] := by rw [Hk.putF_ne (show ¬ ("cleaned" : Str) = ("give_copied" : Str) by decide +kernel)]; rw [Hk.putF_ne (show ¬ ("dropped" : Str) = ("give_copied" : Str) by decide +kernel)]; rw [Hk.putF_ne (show ¬ ("bind_copied" : Str) = ("give_copied" : Str) by decide +kernel)]; rfl
theorem lk_Book_take_copied (v0 v1 v2 v3 v4 : V) : (fs_Book v0 v1 v2 v3 v4).lookup ("take_copied" : Str) = some v4 := by unfold fs_Book; rw [List.lookup_cons, show (("take_copied" : Str) == ("cleaned" : Str)) = false by decide +kernel]; rw [List.lookup_cons, show (("take_copied" : Str) == ("dropped" : Str)) = false by decide +kernel]; rw [List.lookup_cons, show (("take_copied" : Str) == ("bind_copied" : Str)) = false by decide +kernel]; rw [List.lookup_cons, show (("take_copied" : Str) == ("give_copied" : Str)) = false by decide +kernel]; rw [List.lookup_cons, show (("take_copied" : Str) == ("take_copied" : Str)) = true by decide +kernel]
theorem pf_Book_take_copied (w v0 v1 v2 v3 v4 : V) : putF ("take_copied" : Str) w (fs_Book v0 v1 v2 v3 v4) = fs_Book v0 v1 v2 v3 w := by unfold fs_Book; rw [Hk.putF_ne (show ¬ ("cleaned" : Str) = ("take_copied" : Str) by decide +kernel)]; rw [Hk.putF_ne (show ¬ ("dropped" : Str) = ("take_copied" : Str) by decide +kernel)]; rw [Hk.putF_ne (show ¬ ("bind_copied" : Str) = ("take_copied" : Str) by decide +kernel)]; rw [Hk.putF_ne (show ¬ ("give_copied" : Str) = ("take_copied" : Str) by decide +kernel)]; rw [Hk.putF_eq]
theorem pn_Book_take_copied (v0 v1 v2 v3 v4 : V) : putF ("take_copied" : Str) v4 ([(("cleaned" : Str), v0), (("dropped" : Str), v1), (("bind_copied" : Str), v2), (("give_copied" : Str), v3)] : List (Str × V)) = [(("cleaned" : Str), v0), (("dropped" : Str), v1), (("bind_copied" : Str), v2), (("give_copied" : Str), v3), (("take_copied" : Str), v4)] := by rw [Hk.putF_ne (show ¬ ("cleaned" : Str) = ("take_copied" : Str) by decide +kernel)]; rw [Hk.putF_ne (show ¬ ("dropped" : Str) = ("take_copied" : Str) by decide +kernel)]; rw [Hk.putF_ne (show ¬ ("bind_copied" : Str) = ("take_copied" : Str) by decide +kernel)]; rw [Hk.putF_ne (show ¬ ("give_copied" : Str) = ("take_copied" : Str) by decide +kernel)]; rfl
theorem ln_Book (v0 v1 v2 v3 v4 : V) : (fs_Book v0 v1 v2 v3 v4).length < 1000 := by show 5 < 1000; decide
theorem no_Book_duties (v0 v1 v2 v3 v4 : V) : (fs_Book v0 v1 v2 v3 v4).lookup ("duties" : Str) = none := by unfold fs_Book; rw [List.lookup_cons, show (("duties" : Str) == ("cleaned" : Str)) = false by decide +kernel]; rw [List.lookup_cons, show (("duties" : Str) == ("dropped" : Str)) = false by decide +kernel]; rw [List.lookup_cons, show (("duties" : Str) == ("bind_copied" : Str)) = false by decide +kernel]; rw [List.lookup_cons, show (("duties" : Str) == ("give_copied" : Str)) = false by decide +kernel]; rw [List.lookup_cons, show (("duties" : Str) == ("take_copied" : Str)) = false by decide +kernel]; rfl
theorem no_Book___eq__ (v0 v1 v2 v3 v4 : V) : (fs_Book v0 v1 v2 v3 v4).lookup ("__eq__" : Str) = none := by unfold fs_Book; rw [List.lookup_cons, show (("__eq__" : Str) == ("cleaned" : Str)) = false by decide +kernel]; rw [List.lookup_cons, show (("__eq__" : Str) == ("dropped" : Str)) = false by decide +kernel]; rw [List.lookup_cons, show (("__eq__" : Str) == ("bind_copied" : Str)) = false by decide +kernel]; rw [List.lookup_cons, show (("__eq__" : Str) == ("give_copied" : Str)) = false by decide +kernel]; rw [List.lookup_cons, show (("__eq__" : Str) == ("take_copied" : Str)) = false by decide +kernel]; rfl
def fs_Setting (v0 v1 v2 v3 v4 v5 v6 v7 v8 : V) : List (Str × V) := [(("copies" : Str), v0), (("cached" : Str), v1), (("batch" : Str), v2), (("early" : Str), v3), (("drain" : Str), v4), (("policy" : Str), v5), (("groups" : Str), v6), (("tables" : Str), v7), (("book" : Str), v8)]
theorem lk_Setting_copies (v0 v1 v2 v3 v4 v5 v6 v7 v8 : V) : (fs_Setting v0 v1 v2 v3 v4 v5 v6 v7 v8).lookup ("copies" : Str) = some v0 := by unfold fs_Setting; rw [List.lookup_cons, show (("copies" : Str) == ("copies" : Str)) = true by decide +kernel]
theorem pf_Setting_copies (w v0 v1 v2 v3 v4 v5 v6 v7 v8 : V) : putF ("copies" : Str) w (fs_Setting v0 v1 v2 v3 v4 v5 v6 v7 v8) = fs_Setting w v1 v2 v3 v4 v5 v6 v7 v8 := by unfold fs_Setting; rw [Hk.putF_eq]
theorem pn_Setting_copies (v0 v1 v2 v3 v4 v5 v6 v7 v8 : V) : putF ("copies" : Str) v0 ([] : List (Str × V)) = [(("copies" : Str), v0)] := by rfl
theorem lk_Setting_cached (v0 v1 v2 v3 v4 v5 v6 v7 v8 : V) : (fs_Setting v0 v1 v2 v3 v4 v5 v6 v7 v8).lookup ("cached" : Str) = some v1 := by unfold fs_Setting; rw [List.lookup_cons, show (("cached" : Str) == ("copies" : Str)) = false by decide +kernel]; rw [List.lookup_cons, show (("cached" : Str) == ("cached" : Str)) = true by decide +kernel]
theorem pf_Setting_cached (w v0 v1 v2 v3 v4 v5 v6 v7 v8 : V) : putF ("cached" : Str) w (fs_Setting v0 v1 v2 v3 v4 v5 v6 v7 v8) = fs_Setting v0 w v2 v3 v4 v5 v6 v7 v8 := by unfold fs_Setting; rw [Hk.putF_ne (show ¬ ("copies" : Str) = ("cached" : Str) by decide +kernel)]; rw [Hk.putF_eq]
theorem pn_Setting_cached (v0 v1 v2 v3 v4 v5 v6 v7 v8 : V) : putF ("cached" : Str) v1 ([(("copies" : Str), v0)] : List (Str × V)) = [(("copies" : Str), v0), (("cached" : Str), v1)] := by rw [Hk.putF_ne (show ¬ ("copies" : Str) = ("cached" : Str) by decide +kernel)]; rfl
theorem lk_Setting_batch (v0 v1 v2 v3 v4 v5 v6 v7 v8 : V) : (fs_Setting v0 v1 v2 v3 v4 v5 v6 v7 v8).lookup ("batch" : Str) = some v2 := by unfold fs_Setting; rw [List.lookup_cons, show (("batch" : Str) == ("copies" : Str)) = false by decide +kernel]; rw [List.lookup_cons, show (("batch" : Str) == ("cached" : Str)) = false by decide +kernel]; rw [List.lookup_cons, show (("batch" : Str) == ("batch" : Str)) = true by decide +kernel]
theorem pf_Setting_batch (w v0 v1 v2 v3 v4 v5 v6 v7 v8 : V) : putF ("batch" : Str) w (fs_Setting v0 v1 v2 v3 v4 v5 v6 v7 v8) = fs_Setting v0 v1 w v3 v4 v5 v6 v7 v8 := by unfold fs_Setting; rw [Hk.putF_ne (show ¬ ("copies" : Str) = ("batch" : Str) by decide +kernel)]; rw [Hk.putF_ne (show ¬ ("cached" : Str) = ("batch" : Str) by decide +kernel)]; rw [Hk.putF_eq]
theorem pn_Setting_batch (v0 v1 v2 v3 v4 v5 v6 v7 v8 : V) : putF ("batch" : Str) v2 ([(("copies" : Str), v0), (("cached" : Str), v1)] : List (Str × V)) = [(("copies" : Str), v0), (("cached" : Str), v1), (("batch" : Str), v2)] := by rw [Hk.putF_ne (show ¬ ("copies" : Str) = ("batch" : Str) by decide +kernel)]; rw [Hk.putF_ne (show ¬ ("cached" : Str) = ("batch" : Str) by decide +kernel)]; rfl
theorem lk_Setting_early (v0 v1 v2 v3 v4 v5 v6 v7 v8 : V) : (fs_Setting v0 v1 v2 v3 v4 v5 v6 v7 v8).lookup ("early" : Str) = some v3 := by unfold fs_Setting; rw [List.lookup_cons, show (("early" : Str) == ("copies" : Str)) = false by decide +kernel]; rw [List.lookup_cons, show (("early" : Str) == ("cached" : Str)) = false by decide +kernel]; rw [List.lookup_cons, show (("early" : Str) == ("batch" : Str)) = false by decide +kernel]; rw [List.lookup_cons, show (("early" : Str) == ("early" : Str)) = true by decide +kernel]
theorem pf_Setting_early (w v0 v1 v2 v3 v4 v5 v6 v7 v8 : V) : putF ("early" : Str) w (fs_Setting v0 v1 v2 v3 v4 v5 v6 v7 v8) = fs_Setting v0 v1 v2 w v4 v5 v6 v7 v8 := by unfold fs_Setting; rw [Hk.putF_ne (show ¬ ("copies" : Str) = ("early" : Str) by decide +kernel)]; rw [Hk.putF_ne (show ¬ ("cached" : Str) = ("early" : Str) by decide +kernel)]; rw [Hk.putF_ne (show ¬ ("batch" : Str) = ("early" : Str) by decide +kernel)]; rw [Hk.putF_eq]
theorem pn_Setting_early (v0 v1 v2 v3 v4 v5 v6 v7 v8 : V) : putF ("early" : Str) v3 ([(("copies" : Str), v0), (("cached" : Str), v1), (("batch" : Str), v2)] : List (Str × V)) = [(("copies" : Str), v0), (("cached" : Str), v1), (("batch" : Str), v2), (("early" : Str), v3)] := by rw [Hk.putF_ne (show ¬ ("copies" : Str) = ("early" : Str) by decide +kernel)]; rw [Hk.putF_ne (show ¬ ("cached" : Str) = ("early" : Str) by decide +kernel)]; rw [Hk.putF_ne (show ¬ ("batch" : Str) = ("early" : Str) by decide +kernel)]; rfl
theorem lk_Setting_drain (v0 v1 v2 v3 v4 v5 v6 v7 v8 : V) : (fs_Setting v0 v1 v2 v3 v4 v5 v6 v7 v8).lookup ("drain" : Str) = some v4 := by unfold fs_Setting; rw [List.lookup_cons, show (("drain" : Str) == ("copies" : Str)) = false by decide +kernel]; rw [List.lookup_cons, show (("drain" : Str) == ("cached" : Str)) = false by decide +kernel]; rw [List.lookup_cons, show (("drain" : Str) == ("batch" : Str)) = false by decide +kernel]; rw [List.lookup_cons, show (("drain" : Str) == ("early" : Str)) = false by decide +kernel]; rw [List.lookup_cons, show (("drain" : Str) == ("drain" : Str)) = true by decide +kernel]
theorem pf_Setting_drain (w v0 v1 v2 v3 v4 v5 v6 v7 v8 : V) : putF ("drain" : Str) w (fs_Setting v0 v1 v2 v3 v4 v5 v6 v7 v8) = fs_Setting v0 v1 v2 v3 w v5 v6 v7 v8 := by unfold fs_Setting; rw [Hk.putF_ne (show ¬ ("copies" : Str) = ("drain" : Str) by decide +kernel)]; rw [Hk.putF_ne (show ¬ ("cached" : Str) = ("drain" : Str) by decide +kernel)]; rw [Hk.putF_ne (show ¬ ("batch" : Str) = ("drain" : Str) by decide +kernel)]; rw [Hk.putF_ne (show ¬ ("early" : Str) = ("drain" : Str) by decide +kernel)]; rw [Hk.putF_eq]
theorem pn_Setting_drain (v0 v1 v2 v3 v4 v5 v6 v7 v8 : V) : putF ("drain" : Str) v4 ([(("copies" : Str), v0), (("cached" : Str), v1), (("batch" : Str), v2), (("early" : Str), v3)] : List (Str × V)) = [(("copies" : Str), v0), (("cached" : Str), v1), (("batch" : Str), v2), (("early" : Str), v3), (("drain" : Str), v4)] := by rw [Hk.putF_ne (show ¬ ("copies" : Str) = ("drain" : Str) by decide +kernel)]; rw [Hk.putF_ne (show ¬ ("cached" : Str) = ("drain" : Str) by decide +kernel)]; rw [Hk.putF_ne (show ¬ ("batch" : Str) = ("drain" : Str) by decide +kernel)]; rw [Hk.putF_ne (show ¬ ("early" : Str) = ("drain" : Str) by decide +kernel)]; rfl
theorem lk_Setting_policy (v0 v1 v2 v3 v4 v5 v6 v7 v8 : V) : (fs_Setting v0 v1 v2 v3 v4 v5 v6 v7 v8).lookup ("policy" : Str) = some v5 := by unfold fs_Setting; rw [List.lookup_cons, show (("policy" : Str) == ("copies" : Str)) = false by decide +kernel]; rw [List.lookup_cons, show (("policy" : Str) == ("cached" : Str)) = false by decide +kernel]; rw [List.lookup_cons, show (("policy" : Str) == ("batch" : Str)) = false by decide +kernel]; rw [List.lookup_cons, show (("policy" : Str) == ("early" : Str)) = false by decide +kernel]; rw [List.lookup_cons, show (("policy" : Str) == ("drain" : Str)) = false by decide +kernel]; rw [List.lookup_cons, show (("policy" : Str) == ("policy" : Str)) = true by decide +kernel]
theorem pf_Setting_policy (w v0 v1 v2 v3 v4 v5 v6 v7 v8 : V) : putF ("policy" : Str) w (fs_Setting v0 v1 v2 v3 v4 v5 v6 v7 v8) = fs_Setting v0 v1 v2 v3 v4 w v6 v7 v8 := by unfold fs_Setting; rw [Hk.putF_ne (show ¬ ("copies" : Str) = ("policy" : Str) by decide +kernel)]; rw [Hk.putF_ne (show ¬ ("cached" : Str) = ("policy" : Str) by decide +kernel)]; rw [Hk.putF_ne (show ¬ ("batch" : Str) = ("policy" : Str) by decide +kernel)]; rw [Hk.putF_ne (show ¬ ("early" : Str) = ("policy" : Str) by decide +kernel)]; rw [Hk.putF_ne (show ¬ ("drain" : Str) = ("policy" : Str) by decide +kernel)]; rw [Hk.putF_eq]
theorem pn_Setting_policy (v0 v1 v2 v3 v4 v5 v6 v7 v8 : V) : putF ("policy" : Str) v5 ([(("copies" : Str), v0), (("cached" : Str), v1), (("batch" : Str), v2), (("early" : Str), v3), (("drain" : Str), v4)] : List (Str × V)) = [(("copies" : Str), v0), (("cached" : Str), v1), (("batch" : Str), v2), (("early" : Str), v3), (("drain" : Str), v4), (("policy" : Str), v5)] := by rw [Hk.putF_ne (show ¬ ("copies" : Str) = ("policy" : Str) by decide +kernel)]; rw [Hk.putF_ne (show ¬ ("cached" : Str) = ("policy" : Str) by decide +kernel)]; rw [Hk.putF_ne (show ¬ ("batch" : Str) = ("policy" : Str) by decide +kernel)]; rw [Hk.putF_ne (show ¬ ("early" : Str) = ("policy" : Str) by decide +kernel)]; rw [Hk.putF_ne (show ¬ ("drain" : Str) = ("policy" : Str) by decide +kernel)]; rfl
theorem lk_Setting_groups (v0 v1 v2 v3 v4 v5 v6 v7 v8 : V) : (fs_Setting v0 v1 v2 v3 v4 v5 v6 v7 v8).lookup ("groups" : Str) = some v6 := by unfold fs_Setting; rw [List.lookup_cons, show (("groups" : Str) == ("copies" : Str)) = false by decide +kernel]; rw [List.lookup_cons, show (("groups" : Str) == ("cached" : Str)) = false by decide +kernel]; rw [List.lookup_cons, show (("groups" : Str) == ("batch" : Str)) = false by decide +kernel]; rw [List.lookup_cons, show (("groups" : Str) == ("early" : Str)) = false by decide +kernel]; rw [List.lookup_cons, show (("groups" : Str) == ("drain" : Str)) = false by decide +kernel]; rw [List.lookup_cons, show (("groups" : Str) == ("policy" : Str)) = false by decide +kernel]; rw [List.lookup_cons, show (("groups" : Str) == ("groups" : Str)) = true by decide +kernel]
theorem pf_Setting_groups (w v0 v1 v2 v3 v4 v5 v6 v7 v8 : V) : putF ("groups" : Str) w (fs_Setting v0 v1 v2 v3 v4 v5 v6 v7 v8) = fs_Setting v0 v1 v2 v3 v4 v5 w v7 v8 := by unfold fs_Setting; rw [Hk.putF_ne (show ¬ ("copies" : Str) = ("groups" : Str) by decide +kernel)]; rw [Hk.putF_ne (show ¬ ("cached" : Str) = ("groups" : Str) by decide +kernel)]; rw [Hk.putF_ne (show ¬ ("batch" : Str) = ("groups" : Str) by decide +kernel)]; rw [Hk.putF_ne (show ¬ ("early" : Str) = ("groups" : Str) by decide +kernel)]; rw [Hk.putF_ne (show ¬ ("drain" : Str) = ("groups" : Str) by decide +kernel)]; rw [Hk.putF_ne (show ¬ ("policy" : Str) = ("groups" : Str) by decide +kernel)]; rw [Hk.putF_eq]
theorem pn_Setting_groups (v0 v1 v2 v3 v4 v5 v6 v7 v8 : V) : putF ("groups" : Str) v6 ([(("copies" : Str), v0), (("cached" : Str), v1), (("batch" : Str), v2), (("early" : Str), v3), (("drain" : Str), v4), (("policy" : Str), v5)] : List (Str × V)) = [(("copies" : Str), v0), (("cached" : Str), v1), (("batch" : Str), v2), (("early" : Str), v3), (("drain" : Str), v4), (("policy" : Str), v5), (("groups" : Str), v6)] := by rw [Hk.putF_ne (show ¬ ("copies" : Str) = ("groups" : Str) by decide +kernel)]; rw [Hk.putF_ne (show ¬ ("cached" : Str) = ("groups" : Str) by decide +kernel)]; rw [Hk.putF_ne (show ¬ ("batch" : Str) = ("groups" : Str) by decide +kernel)]; rw [Hk.putF_ne (show ¬ ("early" : Str) = ("groups" : Str) by decide +kernel)]; rw [Hk.putF_ne (show ¬ ("drain" : Str) = ("groups" : Str) by decide +kernel)]; rw [Hk.putF_ne (show ¬ ("policy" : Str) = ("groups" : Str) by decide +kernel)]; rfl
theorem lk_Setting_tables (v0 v1 v2 v3 v4 v5 v6 v7 v8 : V) : (fs_Setting v0 v1 v2 v3 v4 v5 v6 v7 v8).lookup ("tables" : Str) = some v7 := by unfold fs_Setting; rw [List.lookup_cons, show (("tables" : Str) == ("copies" : Str)) = false by decide +kernel]; rw [List.lookup_cons, show (("tables" : Str) == ("cached" : Str)) = false by decide +kernel]; rw [List.lookup_cons, show (("tables" : Str) == ("batch" : Str)) = false by decide +kernel]; rw [List.lookup_cons, show (("tables" : Str) == ("early" : Str)) = false by decide +kernel]; rw [List.lookup_cons, show (("tables" : Str) == ("drain" : Str)) = false by decide +kernel]; rw [List.lookup_cons, show (("tables" : Str) == ("policy" : Str)) = false by decide +kernel]; rw [List.lookup_cons, show (("tables" : Str) == ("groups" : Str)) = false by decide +kernel]; rw [List.lookup_cons, show (("tables" : Str) == ("tables" : Str)) = true by decide +kernel]
theorem pf_Setting_tables (w v0 v1 v2 v3 v4 v5 v6 v7 v8 : V) : putF ("tables" : Str) w (fs_Setting v0 v1 v2 v3 v4 v5 v6 v7 v8) = fs_Setting v0 v1 v2 v3 v4 v5 v6 w v8 := by unfold fs_Setting; rw [Hk.putF_ne (show ¬ ("copies" : Str) = ("tables" : Str) by decide +kernel)]; rw [Hk.putF_ne (show ¬ ("cached" : Str) = ("tables" : Str) by decide +kernel)]; rw [Hk.putF_ne (show ¬ ("batch" : Str) = ("tables" : Str) by decide +kernel)]; rw [Hk.putF_ne (show ¬ ("early" : Str) = ("tables" : Str) by decide +kernel)]; rw [Hk.putF_ne (show ¬ ("drain" : Str) = ("tables" : Str) by decide +kernel)]; rw [Hk.putF_ne (show ¬ ("policy" : Str) = ("tables" : Str) by decide +kernel)]; rw [Hk.putF_ne (show ¬ ("groups" : Str) = ("tables" : Str) by decide +kernel)]; rw [Hk.putF_eq]
theorem pn_Setting_tables (v0 v1 v2 v3 v4 v5 v6 v7 v8 : V) : putF ("tables" : Str) v7 ([(("copies" : Str), v0), (("cached" : Str), v1), (("batch" : Str), v2), (("early" : Str), v3), (("drain" : Str), v4), (("policy" : Str), v5), (("groups" : Str), v6)] : List (Str × V)) = [(("copies" : Str), v0), (("cached" : Str), v1), (("batch" : Str), v2), (("early" : Str), v3), (("drain" : Str), v4), (("policy" : Str), v5), (("groups" : Str), v6), (("tables" : Str), v7)] := by rw [Hk.putF_ne (show ¬ ("copies" : Str) = ("tables" : Str) by decide +kernel)]; rw [Hk.putF_ne (show ¬ ("cached" : Str) = ("tables" : Str) by decide +kernel)]; rw [Hk.putF_ne (show ¬ ("batch" : Str) = ("tables" : Str) by decide +kernel)]; rw [Hk.putF_ne (show ¬ ("early" : Str) = ("tables" : Str) by decide +kernel)]; rw [Hk.putF_ne (show ¬ ("drain" : Str) = ("tables" : Str) by decide +kernel)]; rw [Hk.putF_ne (show ¬ ("policy" : Str) = ("tables" : Str) by decide +kernel)]; rw [Hk.putF_ne (show ¬ ("groups" : Str) = ("tables" : Str) by decide +kernel)]; rfl
theorem lk_Setting_book (v0 v1 v2 v3 v4 v5 v6 v7 v8 : V) : (fs_Setting v0 v1 v2 v3 v4 v5 v6 v7 v8).lookup ("book" : Str) = some v8 := by unfold fs_Setting; rw [List.lookup_cons, show (("book" : Str) == ("copies" : Str)) = false by decide +kernel]; rw [List.lookup_cons, show (("book" : Str) == ("cached" : Str)) = false by decide +kernel]; rw [List.lookup_cons, show (("book" : Str) == ("batch" : Str)) = false by decide +kernel]; rw [List.lookup_cons, show (("book" : Str) == ("early" : Str)) = false by decide +kernel]; rw [List.lookup_cons, show (("book" : Str) == ("drain" : Str)) = false by decide +kernel]; rw [List.lookup_cons, show (("book" : Str) == ("policy" : Str)) = false by decide +kernel]; rw [List.lookup_cons, show (("book" : Str) == ("groups" : Str)) = false by decide +kernel]; rw [List.lookup_cons, show (("book" : Str) == ("tables" : Str)) = false by decide +kernel]; rw [List.lookup_cons, show (("book" : Str) == ("book" : Str)) = true by decide +kernel]
theorem pf_Setting_book (w v0 v1 v2 v3 v4 v5 v6 v7 v8 : V) : putF ("book" : Str) w (fs_Setting v0 v1 v2 v3 v4 v5 v6 v7 v8) = fs_Setting v0 v1 v2 v3 v4 v5 v6 v7 w := by unfold fs_Setting; rw [Hk.putF_ne (show ¬ ("copies" : Str) = ("book" : Str) by decide +kernel)]; rw [Hk.putF_ne (show ¬ ("cached" : Str) = ("book" : Str) by decide +kernel)]; rw [Hk.putF_ne (show ¬ ("batch" : Str) = ("book" : Str) by decide +kernel)]; rw [Hk.putF_ne (show ¬ ("early" : Str) = ("book" : Str) by decide +kernel)]; rw [Hk.putF_ne (show ¬ ("drain" : Str) = ("book" : Str) by decide +kernel)]; rw [Hk.putF_ne (show ¬ ("policy" : Str) = ("book" : Str) by decide +kernel)]; rw [Hk.putF_ne (show ¬ ("groups" : Str) = ("book" : Str) by decide +kernel)]; rw [Hk.putF_ne (show ¬ ("tables" : Str) = ("book" : Str) by decide +kernel)]; rw [Hk.putF_eq]
theorem pn_Setting_book (v0 v1 v2 v3 v4 v5 v6 v7 v8 : V) : putF ("book" : Str) v8 ([(("copies" : Str), v0), (("cached" : Str), v1), (("batch" : Str), v2), (("early" : Str), v3), (("drain" : Str), v4), (("policy" : Str), v5), (("groups" : Str), v6), (("tables" : Str), v7)] : List (Str × V)) = [(("copies" : Str), v0), (("cached" : Str), v1), (("batch" : Str), v2), (("early" : Str), v3), (("drain" : Str), v4), (("policy" : Str), v5), (("groups" : Str), v6), (("tables" : Str), v7), (("book" : Str), v8)] := by rw [Hk.putF_ne (show ¬ ("copies" : Str) = ("book" : Str) by decide +kernel)]; rw [Hk.putF_ne (show ¬ ("cached" : Str) = ("book" : Str) by decide +kernel)]; rw [Hk.putF_ne (show ¬ ("batch" : Str) = ("book" : Str) by decide +kernel)]; rw [Hk.putF_ne (show ¬ ("early" : Str) = ("book" : Str) by decide +kernel)]; rw [Hk.putF_ne (show ¬ ("drain" : Str) = ("book" : Str) by decide +kernel)]; rw [Hk.putF_ne (show ¬ ("policy" : Str) = ("book" : Str) by decide +kernel)]; rw [Hk.putF_ne (show ¬ ("groups" : Str) = ("book" : Str) by decide +kernel)]; rw [Hk.putF_ne (show ¬ ("tables" : Str) = ("book" : Str) by decide +kernel)]; rfl
theorem ln_Setting (v0 v1 v2 v3 v4 v5 v6 v7 v8 : V) : (fs_Setting v0 v1 v2 v3 v4 v5 v6 v7 v8).length < 1000 := by show 9 < 1000; decide
theorem no_Setting_pairs (v0 v1 v2 v3 v4 v5 v6 v7 v8 : V) : (fs_Setting v0 v1 v2 v3 v4 v5 v6 v7 v8).lookup ("pairs" : Str) = none := by unfold fs_Setting; rw [List.lookup_cons, show (("pairs" : Str) == ("copies" : Str)) = false by decide +kernel]; rw [List.lookup_cons, show (("pairs" : Str) == ("cached" : Str)) = false by decide +kernel]; rw [List.lookup_cons, show (("pairs" : Str) == ("batch" : Str)) = false by decide +kernel]; rw [List.lookup_cons, show (("pairs" : Str) == ("early" : Str)) = false by decide +kernel]; rw [List.lookup_cons, show (("pairs" : Str) == ("drain" : Str)) = false by decide +kernel]; rw [List.lookup_cons, show (("pairs" : Str) == ("policy" : Str)) = false by decide +kernel]; rw [List.lookup_cons, show (("pairs" : Str) == ("groups" : Str)) = false by decide +kernel]; rw [List.lookup_cons, show (("pairs" : Str) == ("tables" : Str)) = false by decide +kernel]; rw [List.lookup_cons, show (("pairs" : Str) == ("book" : Str)) = false by decide +kernel]; rfl
theorem no_Setting___eq__ (v0 v1 v2 v3 v4 v5 v6 v7 v8 : V) : (fs_Setting v0 v1 v2 v3 v4 v5 v6 v7 v8).lookup ("__eq__" : Str) = none := by unfold fs_Setting; rw [List.lookup_cons, show (("__eq__" : Str) == ("copies" : Str)) = false by decide +kernel]; rw [List.lookup_cons, show (("__eq__" : Str) == ("cached" : Str)) = false by decide +kernel]; rw [List.lookup_cons, show (("__eq__" : Str) == ("batch" : Str)) = false by decide +kernel]; rw [List.lookup_cons, show (("__eq__" : Str) == ("early" : Str)) = false by decide +kernel]; rw [List.lookup_cons, show (("__eq__" : Str) == ("drain" : Str)) = false by decide +kernel]; rw [List.lookup_cons, show (("__eq__" : Str) == ("policy" : Str)) = false by decide +kernel]; rw [List.lookup_cons, show (("__eq__" : Str) == ("groups" : Str)) = false by decide +kernel]; rw [List.lookup_cons, show (("__eq__" : Str) == ("tables" : Str)) = false by decide +kernel]; rw [List.lookup_cons, show (("__eq__" : Str) == ("book" : Str)) = false by decide +kernel]; rfl
/-! ### the bag of two -/
def Bag2 (o : HO) : Prop := ∃ L M : Int, o = .lst [.int L, .int M] ∧ 0 ≤ L ∧ 0 ≤ M ∧ M < 2147483563
def sp_L_bag (K : PySem.W.Frag) : Sp := fun vs H Q _ => ∃ (a : Addr) (i : Int) (ns : List Int), vs = [.ref a, .int i] ∧ SqL K H a (ns.map V.int) ∧ 0 ≤ i ∧ i ≤ 100 ∧ ∀ b o H', H b = none → Same H H' → H' b = some o → Bag2 o → Q (.ref b) H'
def sp_L_take (K : PySem.W.Frag) : Sp := fun vs H Q _ => ∃ (b : Addr) (o : HO) (m : Int), vs = [.ref b, .int m] ∧ H b = some o ∧ Bag2 o ∧ 0 < m ∧ m < 1000000000 ∧ ∀ d o', 0 ≤ d → d < m → Bag2 o' → Q (.int d) (upd H b o')
def sp_L_of (K : PySem.W.Frag) : Sp := fun vs H Q _ => ∃ (b l : Addr) (o : HO) (xs : List V), vs = [.ref b, .ref l] ∧ H b = some o ∧ Bag2 o ∧ H l = some (.lst xs) ∧ xs ≠ [] ∧ xs.length < 1000000 ∧ b ≠ l ∧ ∀ v ∈ xs, ∀ o', Bag2 o' → Q v (upd H b o')
theorem ln_sp_L_bag {K : PySem.W.Frag} (vs : List V) (H : Hp) (Q : VK) (E : XK) (h : sp_L_bag K vs H Q E) : vs.length = 2 := by obtain ⟨a, i, ns, rfl, _⟩ := h; rfl
theorem ln_sp_L_take {K : PySem.W.Frag} (vs : List V) (H : Hp) (Q : VK) (E : XK) (h : sp_L_take K vs H Q E) : vs.length = 2 := by obtain ⟨b, o, m, rfl, _⟩ := h; rfl
theorem ln_sp_L_of {K : PySem.W.Frag} (vs : List V) (H : Hp) (Q : VK) (E : XK) (h : sp_L_of K vs H Q E) : vs.length = 2 := by obtain ⟨b, o, m, _, rfl, _⟩ := h; rfl
/-! ### books and settings -/
def Knd (K : PySem.W.Frag) (H : Hp) (x : V) : Prop := ∃ i, x = .int i
def sp_is_integer (K : PySem.W.Frag) : Sp := fun vs H Q _ => ∃ i : Int, vs = [.int i] ∧ Q (.bl true) H
def sp_is_from_to (K : PySem.W.Frag) : Sp := fun vs H Q _ => ∃ n lo hi : Int, vs = [.int n, .int lo, .int hi] ∧ lo ≤ n ∧ n ≤ hi ∧ Q (.bl true) H
def Ways : List Str := ["to", "from", "both"]
def dutyD (ds : List Str) : PyData := .tuple (ds.map PyData.str)
def DOk (ds : List Str) : Prop := ds = Ways.filter fun z => ds.contains z
def stdD : List (List Str) := [Ways, ["from", "both"], Ways, Ways, ["from", "both"]]
structure Sett where
  copies : Str
  cached : Bool
  batch : Int
  early : Bool
  drain : Bool
  policy : Str
  groups : Int
  tables : Int
def SettOk (S : Sett) : Prop := S.copies ∈ (["none", "ends", "all"] : List Str) ∧ (0 ≤ S.batch ∧ S.batch ≤ 8) ∧ S.policy ∈ (["first", "best", "worst", "next", "halves"] : List Str) ∧ (1 ≤ S.groups ∧ S.groups ≤ 32) ∧ 1 ≤ S.tables ∧ S.tables ≤ 32
def BookAt (K : PySem.W.Frag) (H : Hp) (b : Addr) (D : List (List Str)) : Prop := ∃ dx v1 v2 v3 v4 v5, H b = some (.ins (He.ga K "Book") dx (fs_Book v1 v2 v3 v4 v5)) ∧ DpAll K H [v1, v2, v3, v4, v5] (D.map dutyD) ∧ ∀ d ∈ D, DOk d
def SetAt (K : PySem.W.Frag) (H : Hp) (s : Addr) (S : Sett) (b : Addr) : Prop := ∃ dx, H s = some (.ins (He.ga K "Setting") dx (fs_Setting (.str S.copies) (.bl S.cached) (.int S.batch) (.bl S.early) (.bl S.drain) (.str S.policy) (.int S.groups) (.int S.tables) (.ref b))) ∧ SettOk S
def pairsD (S : Sett) : PyData := .list [.tuple [.str "copies", .str S.copies, .str "none"], .tuple [.str "cached", .bool S.cached, .bool false], .tuple [.str "batch", .int S.batch, .int 0], .tuple [.str "early", .bool S.early, .bool false], .tuple [.str "drain", .bool S.drain, .bool true], .tuple [.str "policy", .str S.policy, .str "first"], .tuple [.str "groups", .int S.groups, .int 16], .tuple [.str "tables", .int S.tables, .int 16]]
def eqS (S S' : Sett) : Bool := PyData.eqv (pairsD S) (pairsD S')
def eqD (D D' : List (List Str)) : Bool := PyData.eqvAll (D.map dutyD) (D'.map dutyD)
def sp_is_duty (K : PySem.W.Frag) : Sp := fun vs H Q _ => ∃ v ds, vs = [v] ∧ Dp K H v (dutyD ds) ∧ DOk ds ∧ ∀ H', Same H H' → Q (.bl true) H'
def sp_is_word_of (K : PySem.W.Frag) : Sp := fun vs H Q _ => ∃ (z : Str) (a : Addr) (zs : List Str), vs = [.str z, .ref a] ∧ SqT K H a (zs.map V.str) ∧ z ∈ zs ∧ Q (.bl true) H
def sp_Book___init__ (K : PySem.W.Frag) : Sp := fun vs H Q _ => ∃ (x dx : Addr) (v1 v2 v3 v4 v5 : V) (D : List (List Str)), vs = [.ref x, v1, v2, v3, v4, v5] ∧ H x = some (.ins (He.ga K "Book") dx []) ∧ DpAll K H [v1, v2, v3, v4, v5] (D.map dutyD) ∧ (∀ d ∈ D, DOk d) ∧ ∀ H', Grow x H H' → H' x = some (.ins (He.ga K "Book") dx (fs_Book v1 v2 v3 v4 v5)) → Q .non H'
def sp_Book_duties (K : PySem.W.Frag) : Sp := fun vs H Q _ => ∃ (b : Addr) (D : List (List Str)), vs = [.ref b] ∧ BookAt K H b D ∧ ∀ t H', Same H H' → Dp K H' (.ref t) (.tuple (D.map dutyD)) → Q (.ref t) H'
/-- what is no book -/
def NoBook (K : PySem.W.Frag) (H : Hp) (y : V) : Prop := (∃ i, y = .int i) ∨ (∃ b, y = .bl b) ∨ y = .non ∨ (∃ z, y = .str z) ∨ (∃ a xs, y = .ref a ∧ H a = some (.lst xs)) ∨ (∃ a xs, y = .ref a ∧ H a = some (.tup xs)) ∨ ∃ a dx fs, y = .ref a ∧ H a = some (.ins (He.ga K "Setting") dx fs)
def NoSet (K : PySem.W.Frag) (H : Hp) (y : V) : Prop := (∃ i, y = .int i) ∨ (∃ b, y = .bl b) ∨ y = .non ∨ (∃ z, y = .str z) ∨ (∃ a xs, y = .ref a ∧ H a = some (.lst xs)) ∨ (∃ a xs, y = .ref a ∧ H a = some (.tup xs)) ∨ ∃ a dx fs, y = .ref a ∧ H a = some (.ins (He.ga K "Book") dx fs)
def sp_Book___eq__ (K : PySem.W.Frag) : Sp := fun vs H Q _ => ∃ (b : Addr) (D : List (List Str)) (y : V), vs = [.ref b, y] ∧ BookAt K H b D ∧ ((∃ b' D', y = .ref b' ∧ BookAt K H b' D' ∧ ∀ H', Same H H' → Q (.bl (eqD D D')) H') ∨ (NoBook K H y ∧ Q (.bl false) H))
def sp_Setting___init__ (K : PySem.W.Frag) : Sp := fun vs H Q _ => ∃ (x dx : Addr) (S : Sett) (v9 : V), vs = [.ref x, .str S.copies, .bl S.cached, .int S.batch, .bl S.early, .bl S.drain, .str S.policy, .int S.groups, .int S.tables, v9] ∧ H x = some (.ins (He.ga K "Setting") dx []) ∧ SettOk S ∧
  ((v9 = .non ∧ ∀ b H', H b = none → Grow x H H' → SetAt K H' x S b → BookAt K H' b stdD → Q .non H') ∨ ∃ b D, v9 = .ref b ∧ BookAt K H b D ∧ ∀ H', Grow x H H' → SetAt K H' x S b → Q .non H')
def sp_Setting_pairs (K : PySem.W.Frag) : Sp := fun vs H Q _ => ∃ (s b : Addr) (S : Sett), vs = [.ref s] ∧ SetAt K H s S b ∧ ∀ l H', Same H H' → Dp K H' (.ref l) (pairsD S) → Q (.ref l) H'
def sp_Setting___eq__ (K : PySem.W.Frag) : Sp := fun vs H Q _ => ∃ (s b : Addr) (S : Sett) (D : List (List Str)) (y : V), vs = [.ref s, y] ∧ SetAt K H s S b ∧ BookAt K H b D ∧ ((∃ s' b' S' D', y = .ref s' ∧ SetAt K H s' S' b' ∧ BookAt K H b' D' ∧ ∀ H', Same H H' → Q (.bl (eqS S S' && eqD D D')) H') ∨ (NoSet K H y ∧ Q (.bl false) H))
theorem ln_sp_is_integer {K : PySem.W.Frag} (vs : List V) (H : Hp) (Q : VK) (E : XK) (h : sp_is_integer K vs H Q E) : vs.length = 1 := by obtain ⟨x, rfl, _⟩ := h; rfl
theorem ln_sp_is_from_to {K : PySem.W.Frag} (vs : List V) (H : Hp) (Q : VK) (E : XK) (h : sp_is_from_to K vs H Q E) : vs.length = 3 := by obtain ⟨n, a, b, rfl, _⟩ := h; rfl
theorem ln_sp_is_duty {K : PySem.W.Frag} (vs : List V) (H : Hp) (Q : VK) (E : XK) (h : sp_is_duty K vs H Q E) : vs.length = 1 := by obtain ⟨n, a, rfl, _⟩ := h; rfl
theorem ln_sp_is_word_of {K : PySem.W.Frag} (vs : List V) (H : Hp) (Q : VK) (E : XK) (h : sp_is_word_of K vs H Q E) : vs.length = 2 := by obtain ⟨n, a, b, rfl, _⟩ := h; rfl
theorem ln_sp_Book___init__ {K : PySem.W.Frag} (vs : List V) (H : Hp) (Q : VK) (E : XK) (h : sp_Book___init__ K vs H Q E) : vs.length = 6 := by obtain ⟨_, _, _, _, _, _, _, _, rfl, _⟩ := h; rfl
theorem ln_sp_Book_duties {K : PySem.W.Frag} (vs : List V) (H : Hp) (Q : VK) (E : XK) (h : sp_Book_duties K vs H Q E) : vs.length = 1 := by obtain ⟨_, _, rfl, _⟩ := h; rfl
theorem ln_sp_Book___eq__ {K : PySem.W.Frag} (vs : List V) (H : Hp) (Q : VK) (E : XK) (h : sp_Book___eq__ K vs H Q E) : vs.length = 2 := by obtain ⟨_, _, _, rfl, _⟩ := h; rfl
theorem ln_sp_Setting___init__ {K : PySem.W.Frag} (vs : List V) (H : Hp) (Q : VK) (E : XK) (h : sp_Setting___init__ K vs H Q E) : vs.length = 10 := by obtain ⟨_, _, _, _, rfl, _⟩ := h; rfl
theorem ln_sp_Setting_pairs {K : PySem.W.Frag} (vs : List V) (H : Hp) (Q : VK) (E : XK) (h : sp_Setting_pairs K vs H Q E) : vs.length = 1 := by obtain ⟨_, _, _, rfl, _⟩ := h; rfl
theorem ln_sp_Setting___eq__ {K : PySem.W.Frag} (vs : List V) (H : Hp) (Q : VK) (E : XK) (h : sp_Setting___eq__ K vs H Q E) : vs.length = 2 := by obtain ⟨_, _, _, _, _, rfl, _⟩ := h; rfl
/-! ### the law's own -/
def waysOf (n : Int) : List Str := (([("to", 1), ("from", 2), ("both", 4)] : List (Str × Int)).filter fun p => decide (n / p.2 % 2 = 1)).map (·.1)
/-- the ninth argument: none, or five duties -/
def NineAt (K : PySem.W.Frag) (H : Hp) (v : V) : Option (List (List Str)) → Prop
  | none => v = .non
  | some D => ∃ d v1 v2 v3 v4 v5, v = .ref d ∧ H d = some (.lst [v1, v2, v3, v4, v5]) ∧ DpAll K H [v1, v2, v3, v4, v5] (D.map dutyD)
def ArgsAt (K : PySem.W.Frag) (H : Hp) (l : Addr) (S : Sett) (o : Option (List (List Str))) : Prop := ∃ v9, H l = some (.lst [.str S.copies, .bl S.cached, .int S.batch, .bl S.early, .bl S.drain, .str S.policy, .int S.groups, .int S.tables, v9]) ∧ NineAt K H v9 o
def DsOk (o : Option (List (List Str))) : Prop := ∀ D, o = some D → ∀ d ∈ D, DOk d
def duesOf (o : Option (List (List Str))) : List (List Str) := o.getD stdD
def sp_L_ways (K : PySem.W.Frag) : Sp := fun vs H Q _ => ∃ n : Int, vs = [.int n] ∧ 0 ≤ n ∧ n < 1000 ∧ ∀ t H', Same H H' → Dp K H' (.ref t) (dutyD (waysOf n)) → Q (.ref t) H'
def sp_L_arguments (K : PySem.W.Frag) : Sp := fun vs H Q _ => ∃ (b : Addr) (o : HO), vs = [.ref b] ∧ H b = some o ∧ Bag2 o ∧ ∀ l S D o' H', Grow b H H' → H' b = some o' → Bag2 o' → H l = none → SettOk S → DsOk D → ArgsAt K H' l S D → Q (.ref l) H'
def sp_L_book (K : PySem.W.Frag) : Sp := fun vs H Q _ => ∃ (d : Addr) (v1 v2 v3 v4 v5 : V) (D : List (List Str)), vs = [.ref d] ∧ H d = some (.lst [v1, v2, v3, v4, v5]) ∧ DpAll K H [v1, v2, v3, v4, v5] (D.map dutyD) ∧ (∀ d ∈ D, DOk d) ∧ ∀ b H', Same H H' → BookAt K H' b D → Q (.ref b) H'
def sp_L_setting (K : PySem.W.Frag) : Sp := fun vs H Q _ => ∃ (l : Addr) (S : Sett) (D : Option (List (List Str))), vs = [.ref l] ∧ ArgsAt K H l S D ∧ SettOk S ∧ DsOk D ∧ ∀ s b H', Same H H' → SetAt K H' s S b → BookAt K H' b (duesOf D) → Q (.ref s) H'
def sp_L_duties (K : PySem.W.Frag) : Sp := fun vs H Q _ => ∃ (b : Addr) (D : List (List Str)), vs = [.ref b] ∧ BookAt K H b D ∧ ∀ l H', Same H H' → Dp K H' (.ref l) (.list (D.map dutyD)) → Q (.ref l) H'
def sp_L_shows (K : PySem.W.Frag) : Sp := fun vs H Q _ => ∃ (s b l : Addr) (S : Sett) (D : Option (List (List Str))), vs = [.ref s, .ref l] ∧ SetAt K H s S b ∧ BookAt K H b (duesOf D) ∧ ArgsAt K H l S D ∧ SettOk S ∧ DsOk D ∧ ∀ H', Same H H' → Q (.bl true) H'
def sp_L_changed (K : PySem.W.Frag) : Sp := fun vs H Q _ => ∃ (b l : Addr) (o : HO) (S : Sett) (D : Option (List (List Str))), vs = [.ref b, .ref l] ∧ H b = some o ∧ Bag2 o ∧ b ≠ l ∧ ArgsAt K H l S D ∧ SettOk S ∧ DsOk D ∧ ∀ l' S' D' o' H', Grow b H H' → H' b = some o' → Bag2 o' → SettOk S' → DsOk D' → ArgsAt K H' l' S' D' → Q (.ref l') H'
def sp_L_full (K : PySem.W.Frag) : Sp := fun vs H Q _ => ∃ (l : Addr) (S : Sett) (D : Option (List (List Str))), vs = [.ref l] ∧ ArgsAt K H l S D ∧ ∀ l' H', Same H H' → ArgsAt K H' l' S (some (duesOf D)) → Q (.ref l') H'
def sp_law (K : PySem.W.Frag) : Sp := fun vs H Q _ => ∃ (a : Addr) (ns : List Int), vs = [.ref a] ∧ SqL K H a (ns.map V.int) ∧ ns.length ≤ 63 ∧ Only H ∧ ∀ H', Q (.bl true) H'
theorem ln_sp_L_ways {K : PySem.W.Frag} (vs : List V) (H : Hp) (Q : VK) (E : XK) (h : sp_L_ways K vs H Q E) : vs.length = 1 := by obtain ⟨_, rfl, _⟩ := h; rfl
theorem ln_sp_L_arguments {K : PySem.W.Frag} (vs : List V) (H : Hp) (Q : VK) (E : XK) (h : sp_L_arguments K vs H Q E) : vs.length = 1 := by obtain ⟨_, _, rfl, _⟩ := h; rfl
theorem ln_sp_L_book {K : PySem.W.Frag} (vs : List V) (H : Hp) (Q : VK) (E : XK) (h : sp_L_book K vs H Q E) : vs.length = 1 := by obtain ⟨_, _, _, _, _, _, _, rfl, _⟩ := h; rfl
theorem ln_sp_L_setting {K : PySem.W.Frag} (vs : List V) (H : Hp) (Q : VK) (E : XK) (h : sp_L_setting K vs H Q E) : vs.length = 1 := by obtain ⟨_, _, _, rfl, _⟩ := h; rfl
theorem ln_sp_L_duties {K : PySem.W.Frag} (vs : List V) (H : Hp) (Q : VK) (E : XK) (h : sp_L_duties K vs H Q E) : vs.length = 1 := by obtain ⟨_, _, rfl, _⟩ := h; rfl
theorem ln_sp_L_shows {K : PySem.W.Frag} (vs : List V) (H : Hp) (Q : VK) (E : XK) (h : sp_L_shows K vs H Q E) : vs.length = 2 := by obtain ⟨_, _, _, _, _, rfl, _⟩ := h; rfl
theorem ln_sp_L_changed {K : PySem.W.Frag} (vs : List V) (H : Hp) (Q : VK) (E : XK) (h : sp_L_changed K vs H Q E) : vs.length = 2 := by obtain ⟨_, _, _, _, _, rfl, _⟩ := h; rfl
theorem ln_sp_L_full {K : PySem.W.Frag} (vs : List V) (H : Hp) (Q : VK) (E : XK) (h : sp_L_full K vs H Q E) : vs.length = 1 := by obtain ⟨_, _, _, rfl, _⟩ := h; rfl
theorem ln_sp_law {K : PySem.W.Frag} (vs : List V) (H : Hp) (Q : VK) (E : XK) (h : sp_law K vs H Q E) : vs.length = 1 := by obtain ⟨a, ns, rfl, _⟩ := h; rfl

def t_is_integer_1 (K : PySem.W.Frag) : TS := (tRet (zAnd (tCB (yIsi K) (tCons (zV 0) (tCons (tC (.ty "int")) tNil))) (zNot (tCB (yIsi K) (tCons (zV 0) (tCons (tC (.ty "bool")) tNil))))))
def t_is_integer (K : PySem.W.Frag) : TS := (t_is_integer_1 K)
def t_is_from_to_1 (K : PySem.W.Frag) : TS := (tRet (zAnd (tCall (sp_is_integer K) [] C8.E0 (tCons (zV 0) tNil)) (zChain yLe yLe (zV 1) (zV 0) (zV 2))))
def t_is_from_to (K : PySem.W.Frag) : TS := (t_is_from_to_1 K)
def t_is_duty_1 (K : PySem.W.Frag) : TS := (tRet (zAnd (tCB (rIsi K) (tCons (zV 0) (tCons (tC (.ty "tuple")) tNil))) (tOp (yEq K) (tCB (yListQ K) (tCons (zV 0) tNil)) (zLc (iT K (tC (.ref (He.ga K "DIRECTIONS")))) (gName 1) (zB (tOp (rIn K false) (zV 1) (zV 0))) (zV 1) [1]))))
def t_is_duty (K : PySem.W.Frag) : TS := (t_is_duty_1 K)
def t_is_word_of_1 (K : PySem.W.Frag) : TS := (tRet (zAnd (tCB (yIsi K) (tCons (zV 0) (tCons (tC (.ty "str")) tNil))) (tOp (rIn K false) (zV 0) (zV 1))))
def t_is_word_of (K : PySem.W.Frag) : TS := (t_is_word_of_1 K)
def t_Book___init___1 (K : PySem.W.Frag) : TS := (tAsg (zTupA (tCons (zTupA (tCons (tC (.str "cleaned")) (tCons (zV 1) tNil))) (tCons (zTupA (tCons (tC (.str "dropped")) (tCons (zV 2) tNil))) (tCons (zTupA (tCons (tC (.str "bind_copied")) (tCons (zV 3) tNil))) (tCons (zTupA (tCons (tC (.str "give_copied")) (tCons (zV 4) tNil))) (tCons (zTupA (tCons (tC (.str "take_copied")) (tCons (zV 5) tNil))) tNil)))))) (gName 6))
def t_Book___init___2b_1t_1 (K : PySem.W.Frag) : TS := zNever
def t_Book___init___2b_1 (K : PySem.W.Frag) : TS := (tIfS (tNot (zB (tCall (sp_is_duty K) [] C8.E0 (tCons (zV 8) tNil)))) (t_Book___init___2b_1t_1 K) tNext)
def t_Book___init___2 (K : PySem.W.Frag) : TS := (zForT K (zV 6) (gTup K 2 (gCons (gName 7) (gCons (gName 8) gNil))) (t_Book___init___2b_1 K))
def t_Book___init___3 (K : PySem.W.Frag) : TS := (zSetF K (zV 0) (zV 1) "cleaned")
def t_Book___init___4 (K : PySem.W.Frag) : TS := (zSetF K (zV 0) (zV 2) "dropped")
def t_Book___init___5 (K : PySem.W.Frag) : TS := (zSetF K (zV 0) (zV 3) "bind_copied")
def t_Book___init___6 (K : PySem.W.Frag) : TS := (zSetF K (zV 0) (zV 4) "give_copied")
def t_Book___init___7 (K : PySem.W.Frag) : TS := (zSetF K (zV 0) (zV 5) "take_copied")
def t_Book___init__ (K : PySem.W.Frag) : TS := (tSeq (t_Book___init___1 K) (tSeq (t_Book___init___2 K) (tSeq (t_Book___init___3 K) (tSeq (t_Book___init___4 K) (tSeq (t_Book___init___5 K) (tSeq (t_Book___init___6 K) (t_Book___init___7 K)))))))
def t_Book_duties_1 (K : PySem.W.Frag) : TS := (tRet (zTupA (tCons (zFld K (zV 0) "cleaned") (tCons (zFld K (zV 0) "dropped") (tCons (zFld K (zV 0) "bind_copied") (tCons (zFld K (zV 0) "give_copied") (tCons (zFld K (zV 0) "take_copied") tNil)))))))
def t_Book_duties (K : PySem.W.Frag) : TS := (t_Book_duties_1 K)
def t_Book___eq___1 (K : PySem.W.Frag) : TS := (tRet (zAnd (tCB (yIsi K) (tCons (zV 1) (tCons (tC (.ref (He.ga K "Book"))) tNil))) (tOp (yEq K) (zMeth (He.ga K "Book") "duties" (sp_Book_duties K) [] C8.E0 (zV 0) tNil) (zMeth (He.ga K "Book") "duties" (sp_Book_duties K) [] C8.E0 (zV 1) tNil))))
def t_Book___eq__ (K : PySem.W.Frag) : TS := (t_Book___eq___1 K)
def t_Setting___init___1 (K : PySem.W.Frag) : TS := (tAsg (zLstA (tCons (zTupA (tCons (tC (.str "copies")) (tCons (tCall (sp_is_word_of K) [] C8.E0 (tCons (zV 1) (tCons (tC (.ref (He.ga K "COPIES"))) tNil))) tNil))) (tCons (zTupA (tCons (tC (.str "cached")) (tCons (tCB (yIsi K) (tCons (zV 2) (tCons (tC (.ty "bool")) tNil))) tNil))) tNil))) (gName 10))
def t_Setting___init___2 (K : PySem.W.Frag) : TS := (tAsg (tOp yAddA (zV 10) (zLstA (tCons (zTupA (tCons (tC (.str "batch")) (tCons (tCall (sp_is_from_to K) [] C8.E0 (tCons (zV 3) (tCons (tC (.int 0)) (tCons (tC (.int 8)) tNil)))) tNil))) (tCons (zTupA (tCons (tC (.str "early")) (tCons (tCB (yIsi K) (tCons (zV 4) (tCons (tC (.ty "bool")) tNil))) tNil))) tNil)))) (gName 10))
def t_Setting___init___3 (K : PySem.W.Frag) : TS := (tAsg (tOp yAddA (zV 10) (zLstA (tCons (zTupA (tCons (tC (.str "drain")) (tCons (tCB (yIsi K) (tCons (zV 5) (tCons (tC (.ty "bool")) tNil))) tNil))) (tCons (zTupA (tCons (tC (.str "policy")) (tCons (tCall (sp_is_word_of K) [] C8.E0 (tCons (zV 6) (tCons (tC (.ref (He.ga K "POLICIES"))) tNil))) tNil))) tNil)))) (gName 10))
def t_Setting___init___4 (K : PySem.W.Frag) : TS := (tDrop (zLM yApp (zV 10) (tCons (zTupA (tCons (tC (.str "groups")) (tCons (tCall (sp_is_from_to K) [] C8.E0 (tCons (zV 7) (tCons (tC (.int 1)) (tCons (tC (.int 32)) tNil)))) tNil))) tNil)))
def t_Setting___init___5 (K : PySem.W.Frag) : TS := (tDrop (zLM yApp (zV 10) (tCons (zTupA (tCons (tC (.str "tables")) (tCons (tCall (sp_is_from_to K) [] C8.E0 (tCons (zV 8) (tCons (tC (.int 1)) (tCons (tC (.int 32)) tNil)))) tNil))) tNil)))
def t_Setting___init___6 (K : PySem.W.Frag) : TS := (tDrop (zLM yApp (zV 10) (tCons (zTupA (tCons (tC (.str "book")) (tCons (zOr (tOp yIs0 (zV 9) (tC .non)) (tCB (yIsi K) (tCons (zV 9) (tCons (tC (.ref (He.ga K "Book"))) tNil)))) tNil))) tNil)))
def t_Setting___init___7b_1t_1 (K : PySem.W.Frag) : TS := zNever
def t_Setting___init___7b_1 (K : PySem.W.Frag) : TS := (tIfS (tNot (zB (zV 12))) (t_Setting___init___7b_1t_1 K) tNext)
def t_Setting___init___7 (K : PySem.W.Frag) : TS := (zForL K (zV 10) (gTup K 2 (gCons (gName 11) (gCons (gName 12) gNil))) (t_Setting___init___7b_1 K))
def t_Setting___init___8 (K : PySem.W.Frag) : TS := (zSetF K (zV 0) (zV 1) "copies")
def t_Setting___init___9 (K : PySem.W.Frag) : TS := (zSetF K (zV 0) (zV 2) "cached")
def t_Setting___init___10 (K : PySem.W.Frag) : TS := (zSetF K (zV 0) (zV 3) "batch")
def t_Setting___init___11 (K : PySem.W.Frag) : TS := (zSetF K (zV 0) (zV 4) "early")
def t_Setting___init___12 (K : PySem.W.Frag) : TS := (zSetF K (zV 0) (zV 5) "drain")
def t_Setting___init___13 (K : PySem.W.Frag) : TS := (zSetF K (zV 0) (zV 6) "policy")
def t_Setting___init___14 (K : PySem.W.Frag) : TS := (zSetF K (zV 0) (zV 7) "groups")
def t_Setting___init___15 (K : PySem.W.Frag) : TS := (zSetF K (zV 0) (zV 8) "tables")
def t_Setting___init___16 (K : PySem.W.Frag) : TS := (zSetF K (zV 0) (tIf (zB (tOp yIs0 (zV 9) (tC .non))) (tMakeN (He.ga K "Book") 0 0 (sp_Book___init__ K) (fun us ws => us ++ (ws ++ ([.ref (He.ga K "DIRECTIONS"), .ref (He.ga K "BACK"), .ref (He.ga K "DIRECTIONS"), .ref (He.ga K "DIRECTIONS"), .ref (He.ga K "BACK")] : List V))) C8.E0 tNil tNil) (zV 9)) "book")
def t_Setting___init__ (K : PySem.W.Frag) : TS := (tSeq (t_Setting___init___1 K) (tSeq (t_Setting___init___2 K) (tSeq (t_Setting___init___3 K) (tSeq (t_Setting___init___4 K) (tSeq (t_Setting___init___5 K) (tSeq (t_Setting___init___6 K) (tSeq (t_Setting___init___7 K) (tSeq (t_Setting___init___8 K) (tSeq (t_Setting___init___9 K) (tSeq (t_Setting___init___10 K) (tSeq (t_Setting___init___11 K) (tSeq (t_Setting___init___12 K) (tSeq (t_Setting___init___13 K) (tSeq (t_Setting___init___14 K) (tSeq (t_Setting___init___15 K) (t_Setting___init___16 K))))))))))))))))
def t_Setting_pairs_1 (K : PySem.W.Frag) : TS := (tAsg (zLstA (tCons (zTupA (tCons (tC (.str "copies")) (tCons (zFld K (zV 0) "copies") (tCons (tC (.str "none")) tNil)))) (tCons (zTupA (tCons (tC (.str "cached")) (tCons (zFld K (zV 0) "cached") (tCons (tC (.bl false)) tNil)))) (tCons (zTupA (tCons (tC (.str "batch")) (tCons (zFld K (zV 0) "batch") (tCons (tC (.int 0)) tNil)))) tNil)))) (gName 1))
def t_Setting_pairs_2 (K : PySem.W.Frag) : TS := (tAsg (tOp yAddA (zV 1) (zLstA (tCons (zTupA (tCons (tC (.str "early")) (tCons (zFld K (zV 0) "early") (tCons (tC (.bl false)) tNil)))) (tCons (zTupA (tCons (tC (.str "drain")) (tCons (zFld K (zV 0) "drain") (tCons (tC (.bl true)) tNil)))) (tCons (zTupA (tCons (tC (.str "policy")) (tCons (zFld K (zV 0) "policy") (tCons (tC (.str "first")) tNil)))) tNil))))) (gName 1))
def t_Setting_pairs_3 (K : PySem.W.Frag) : TS := (tRet (tOp yAddA (zV 1) (zLstA (tCons (zTupA (tCons (tC (.str "groups")) (tCons (zFld K (zV 0) "groups") (tCons (tC (.int 16)) tNil)))) (tCons (zTupA (tCons (tC (.str "tables")) (tCons (zFld K (zV 0) "tables") (tCons (tC (.int 16)) tNil)))) tNil)))))
def t_Setting_pairs (K : PySem.W.Frag) : TS := (tSeq (t_Setting_pairs_1 K) (tSeq (t_Setting_pairs_2 K) (t_Setting_pairs_3 K)))
def t_Setting___eq___1t_1 (K : PySem.W.Frag) : TS := (tRet (tC (.bl false)))
def t_Setting___eq___1 (K : PySem.W.Frag) : TS := (tIfS (tNot (zB (tCB (yIsi K) (tCons (zV 1) (tCons (tC (.ref (He.ga K "Setting"))) tNil))))) (t_Setting___eq___1t_1 K) tNext)
def t_Setting___eq___2 (K : PySem.W.Frag) : TS := (tRet (zAnd (tOp (yEq K) (zMeth (He.ga K "Setting") "pairs" (sp_Setting_pairs K) [] C8.E0 (zV 0) tNil) (zMeth (He.ga K "Setting") "pairs" (sp_Setting_pairs K) [] C8.E0 (zV 1) tNil)) (tOp (yEqO K (He.ga K "Book") (sp_Book___eq__ K)) (zFld K (zV 0) "book") (zFld K (zV 1) "book"))))
def t_Setting___eq__ (K : PySem.W.Frag) : TS := (tSeq (t_Setting___eq___1 K) (t_Setting___eq___2 K))
def t_L_bag_1 (K : PySem.W.Frag) : TS := (tAsg (tIf (zB (tOp yLt (zV 1) (tCB (yLenS K) (tCons (zV 0) tNil)))) (tOp (rIxL K) (zV 0) (zV 1)) (tC (.int 0))) (gName 2))
def t_L_bag_2 (K : PySem.W.Frag) : TS := (tAsg (tOp yAddA (tOp yMulA (tC (.int 6007)) (zV 1)) (tC (.int 19))) (gName 3))
def t_L_bag_3b_1 (K : PySem.W.Frag) : TS := (tAsg (tOp yMod (tOp yAddA (tOp yAddA (tOp yAddA (tOp yMulA (zV 3) (tC (.int 39373))) (tOp yMod (zV 5) (tC (.int 2147483563)))) (tOp yMulA (tC (.int 89)) (zV 4))) (tC (.int 3))) (tC (.int 2147483563))) (gName 3))
def t_L_bag_3 (K : PySem.W.Frag) : TS := (zForE K (zSlB K (zV 0) (tC (.int 40))) (gTup K 2 (gCons (gName 4) (gCons (gName 5) gNil))) (t_L_bag_3b_1 K))
def t_L_bag_4 (K : PySem.W.Frag) : TS := (tRet (zLstA (tCons (tIf (zB (tOp yGe (tCB yAbs (tCons (zV 2) tNil)) (tOp yPow (tC (.int 10)) (tC (.int 18))))) (tCB yAbs (tCons (zV 2) tNil)) (tC (.int 0))) (tCons (zV 3) tNil))))
def t_L_bag (K : PySem.W.Frag) : TS := (tSeq (t_L_bag_1 K) (tSeq (t_L_bag_2 K) (tSeq (t_L_bag_3 K) (t_L_bag_4 K))))
def t_L_take_1t_1 (K : PySem.W.Frag) : TS := (tAsg (tOp yMod (tOp (yIx K) (zV 0) (tC (.int 0))) (zV 1)) (gName 2))
def t_L_take_1t_2 (K : PySem.W.Frag) : TS := (tAsg (tOp yDiv (tOp (yIx K) (zV 0) (tC (.int 0))) (zV 1)) (gSub (zV 0) (tC (.int 0)) ySet))
def t_L_take_1t_3 (K : PySem.W.Frag) : TS := (tRet (zV 2))
def t_L_take_1 (K : PySem.W.Frag) : TS := (tIfS (zB (tOp yGt (tOp (yIx K) (zV 0) (tC (.int 0))) (tC (.int 0)))) (tSeq (t_L_take_1t_1 K) (tSeq (t_L_take_1t_2 K) (t_L_take_1t_3 K))) tNext)
def t_L_take_2 (K : PySem.W.Frag) : TS := (tAsg (tOp yMod (tOp yAddA (tOp yMulA (tOp (yIx K) (zV 0) (tC (.int 1))) (tC (.int 40692))) (tC (.int 3301))) (tC (.int 2147483399))) (gSub (zV 0) (tC (.int 1)) ySet))
def t_L_take_3 (K : PySem.W.Frag) : TS := (tRet (tOp yMod (tOp yDiv (tOp yMod (tOp yMulA (tOp yDiv (tOp (yIx K) (zV 0) (tC (.int 1))) (tC (.int 11))) (tC (.int 69621))) (tC (.int 2147483587))) (tC (.int 32))) (zV 1)))
def t_L_take (K : PySem.W.Frag) : TS := (tSeq (t_L_take_1 K) (tSeq (t_L_take_2 K) (t_L_take_3 K)))
def t_L_of_1 (K : PySem.W.Frag) : TS := (tRet (tOp (yIx K) (zV 1) (tCall (sp_L_take K) [] C8.E0 (tCons (zV 0) (tCons (tCB (yLen K) (tCons (zV 1) tNil)) tNil)))))
def t_L_of (K : PySem.W.Frag) : TS := (t_L_of_1 K)
def t_L_ways_1 (K : PySem.W.Frag) : TS := (tRet (tCB (yTupleA K) (tCons (zLc (iT K (zTupA (tCons (zTupA (tCons (tC (.str "to")) (tCons (tC (.int 1)) tNil))) (tCons (zTupA (tCons (tC (.str "from")) (tCons (tC (.int 2)) tNil))) (tCons (zTupA (tCons (tC (.str "both")) (tCons (tC (.int 4)) tNil))) tNil))))) (gTup K 2 (gCons (gName 1) (gCons (gName 2) gNil))) (zB (tOp (yEq K) (tOp yMod (tOp yDiv (zV 0) (zV 2)) (tC (.int 2))) (tC (.int 1)))) (zV 1) [1, 2]) tNil)))
def t_L_ways (K : PySem.W.Frag) : TS := (t_L_ways_1 K)
def t_L_arguments_1 (K : PySem.W.Frag) : TS := (tAsg (zLstA (tCons (tCall (sp_L_of K) [] C8.E0 (tCons (zV 0) (tCons (zLstA (tCons (tC (.str "none")) (tCons (tC (.str "ends")) (tCons (tC (.str "all")) tNil)))) tNil))) (tCons (tOp (yEq K) (tCall (sp_L_take K) [] C8.E0 (tCons (zV 0) (tCons (tC (.int 2)) tNil))) (tC (.int 0))) (tCons (tCall (sp_L_take K) [] C8.E0 (tCons (zV 0) (tCons (tC (.int 9)) tNil))) (tCons (tOp (yEq K) (tCall (sp_L_take K) [] C8.E0 (tCons (zV 0) (tCons (tC (.int 2)) tNil))) (tC (.int 0))) tNil))))) (gName 1))
def t_L_arguments_2 (K : PySem.W.Frag) : TS := (tAsg (tOp yAddA (zV 1) (zLstA (tCons (tOp (yEq K) (tCall (sp_L_take K) [] C8.E0 (tCons (zV 0) (tCons (tC (.int 2)) tNil))) (tC (.int 0))) (tCons (tCall (sp_L_of K) [] C8.E0 (tCons (zV 0) (tCons (zLstA (tCons (tC (.str "first")) (tCons (tC (.str "best")) (tCons (tC (.str "worst")) (tCons (tC (.str "next")) (tCons (tC (.str "halves")) tNil)))))) tNil))) tNil)))) (gName 1))
def t_L_arguments_3 (K : PySem.W.Frag) : TS := (tAsg (tOp yAddA (zV 1) (zLstA (tCons (tOp yAddA (tC (.int 1)) (tCall (sp_L_take K) [] C8.E0 (tCons (zV 0) (tCons (tC (.int 32)) tNil)))) (tCons (tOp yAddA (tC (.int 1)) (tCall (sp_L_take K) [] C8.E0 (tCons (zV 0) (tCons (tC (.int 32)) tNil)))) tNil)))) (gName 1))
def t_L_arguments_4 (K : PySem.W.Frag) : TS := (tRet (tOp yAddA (zV 1) (zLstA (tCons (tIf (zB (tOp (yEq K) (tCall (sp_L_take K) [] C8.E0 (tCons (zV 0) (tCons (tC (.int 2)) tNil))) (tC (.int 0)))) (zLc (iR1 (tC (.int 5))) (gName 2) tYes (tCall (sp_L_ways K) [] C8.E0 (tCons (tCall (sp_L_take K) [] C8.E0 (tCons (zV 0) (tCons (tC (.int 8)) tNil))) tNil)) [2]) (tC .non)) tNil))))
def t_L_arguments (K : PySem.W.Frag) : TS := (tSeq (t_L_arguments_1 K) (tSeq (t_L_arguments_2 K) (tSeq (t_L_arguments_3 K) (t_L_arguments_4 K))))
def t_L_book_1 (K : PySem.W.Frag) : TS := (tAsg (zV 0) (gLst K 5 (gCons (gName 1) (gCons (gName 2) (gCons (gName 3) (gCons (gName 4) (gCons (gName 5) gNil)))))))
def t_L_book_2 (K : PySem.W.Frag) : TS := (tRet (tMakeN (He.ga K "Book") 0 5 (sp_Book___init__ K) (fun us ws => us ++ ((ws.drop 4).take 1 ++ ((ws.drop 3).take 1 ++ ((ws.drop 2).take 1 ++ ((ws.drop 1).take 1 ++ ((ws.drop 0).take 1 ++ [])))))) C8.E0 tNil (tCons (zV 5) (tCons (zV 4) (tCons (zV 3) (tCons (zV 2) (tCons (zV 1) tNil)))))))
def t_L_book (K : PySem.W.Frag) : TS := (tSeq (t_L_book_1 K) (t_L_book_2 K))
def t_L_setting_1 (K : PySem.W.Frag) : TS := (tAsg (zV 0) (gLst K 9 (gCons (gName 2) (gCons (gName 3) (gCons (gName 4) (gCons (gName 5) (gCons (gName 6) (gCons (gName 7) (gCons (gName 8) (gCons (gName 9) (gCons (gName 10) gNil)))))))))))
def t_L_setting_2 (K : PySem.W.Frag) : TS := (tAsg (tIf (zB (tOp yIs0 (zV 10) (tC .non))) (tC .non) (tCall (sp_L_book K) [] C8.E0 (tCons (zV 10) tNil))) (gName 1))
def t_L_setting_3 (K : PySem.W.Frag) : TS := (tRet (tMakeN (He.ga K "Setting") 0 9 (sp_Setting___init__ K) (fun us ws => us ++ ((ws.drop 8).take 1 ++ ((ws.drop 7).take 1 ++ ((ws.drop 6).take 1 ++ ((ws.drop 5).take 1 ++ ((ws.drop 4).take 1 ++ ((ws.drop 3).take 1 ++ ((ws.drop 2).take 1 ++ ((ws.drop 1).take 1 ++ ((ws.drop 0).take 1 ++ [])))))))))) C8.E0 tNil (tCons (zV 1) (tCons (zV 9) (tCons (zV 8) (tCons (zV 7) (tCons (zV 6) (tCons (zV 5) (tCons (zV 4) (tCons (zV 3) (tCons (zV 2) tNil)))))))))))
def t_L_setting (K : PySem.W.Frag) : TS := (tSeq (t_L_setting_1 K) (tSeq (t_L_setting_2 K) (t_L_setting_3 K)))
def t_L_duties_1 (K : PySem.W.Frag) : TS := (tRet (zLstA (tCons (zFld K (zV 0) "cleaned") (tCons (zFld K (zV 0) "dropped") (tCons (zFld K (zV 0) "bind_copied") (tCons (zFld K (zV 0) "give_copied") (tCons (zFld K (zV 0) "take_copied") tNil)))))))
def t_L_duties (K : PySem.W.Frag) : TS := (t_L_duties_1 K)
def t_L_shows_1 (K : PySem.W.Frag) : TS := (tAsg (zLstA (tCons (zTupA (tCons (tC (.str "to")) (tCons (tC (.str "from")) (tCons (tC (.str "both")) tNil)))) (tCons (zTupA (tCons (tC (.str "from")) (tCons (tC (.str "both")) tNil))) (tCons (zTupA (tCons (tC (.str "to")) (tCons (tC (.str "from")) (tCons (tC (.str "both")) tNil)))) (tCons (zTupA (tCons (tC (.str "to")) (tCons (tC (.str "from")) (tCons (tC (.str "both")) tNil)))) tNil))))) (gName 2))
def t_L_shows_2 (K : PySem.W.Frag) : TS := (tAsg (tIf (zB (tOp yNotIs0 (tOp (yIx K) (zV 1) (tC (.int 8))) (tC .non))) (tOp (yIx K) (zV 1) (tC (.int 8))) (tOp yAddA (zV 2) (zLstA (tCons (zTupA (tCons (tC (.str "from")) (tCons (tC (.str "both")) tNil))) tNil)))) (gName 3))
def t_L_shows_3 (K : PySem.W.Frag) : TS := (tAsg (zLstA (tCons (zFld K (zV 0) "copies") (tCons (zFld K (zV 0) "cached") (tCons (zFld K (zV 0) "batch") (tCons (zFld K (zV 0) "early") (tCons (zFld K (zV 0) "drain") (tCons (zFld K (zV 0) "policy") (tCons (zFld K (zV 0) "groups") (tCons (zFld K (zV 0) "tables") tNil))))))))) (gName 4))
def t_L_shows_4t_1 (K : PySem.W.Frag) : TS := (tRet (tC (.bl false)))
def t_L_shows_4 (K : PySem.W.Frag) : TS := (tIfS (tOr (zB (tOp (yNe K) (tCB (yReprB K) (tCons (zV 4) tNil)) (tCB (yReprB K) (tCons (zSBA K (zV 1) (tC (.int 8))) tNil)))) (tNot (zB (tCB (yIsi K) (tCons (zFld K (zV 0) "book") (tCons (tC (.ref (He.ga K "Book"))) tNil)))))) (t_L_shows_4t_1 K) tNext)
def t_L_shows_5 (K : PySem.W.Frag) : TS := (tRet (tOp (yEq K) (tCB (yReprB K) (tCons (tCall (sp_L_duties K) [] C8.E0 (tCons (zFld K (zV 0) "book") tNil)) tNil)) (tCB (yReprB K) (tCons (zV 3) tNil))))
def t_L_shows (K : PySem.W.Frag) : TS := (tSeq (t_L_shows_1 K) (tSeq (t_L_shows_2 K) (tSeq (t_L_shows_3 K) (tSeq (t_L_shows_4 K) (t_L_shows_5 K)))))
def t_L_changed_1 (K : PySem.W.Frag) : TS := (tPar 2 3 (tCons (tCall (sp_L_take K) [] C8.E0 (tCons (zV 0) (tCons (tC (.int 9)) tNil))) (tCons (tCall (sp_L_arguments K) [] C8.E0 (tCons (zV 0) tNil)) tNil)))
def t_L_changed_2 (K : PySem.W.Frag) : TS := (tRet (tOp yAddA (tOp yAddA (zSBA K (zV 1) (zV 2)) (zLstA (tCons (tOp (yIx K) (zV 3) (zV 2)) tNil))) (zSAA K (zV 1) (tOp yAddA (zV 2) (tC (.int 1))))))
def t_L_changed (K : PySem.W.Frag) : TS := (tSeq (t_L_changed_1 K) (t_L_changed_2 K))
def t_L_full_1 (K : PySem.W.Frag) : TS := (tAsg (zLstA (tCons (tCall (sp_L_ways K) [] C8.E0 (tCons (tC (.int 7)) tNil)) (tCons (tCall (sp_L_ways K) [] C8.E0 (tCons (tC (.int 6)) tNil)) (tCons (tCall (sp_L_ways K) [] C8.E0 (tCons (tC (.int 7)) tNil)) (tCons (tCall (sp_L_ways K) [] C8.E0 (tCons (tC (.int 7)) tNil)) (tCons (tCall (sp_L_ways K) [] C8.E0 (tCons (tC (.int 6)) tNil)) tNil)))))) (gName 1))
def t_L_full_2 (K : PySem.W.Frag) : TS := (tRet (tOp yAddA (zSBA K (zV 0) (tC (.int 8))) (zLstA (tCons (tIf (zB (tOp yIs0 (tOp (yIx K) (zV 0) (tC (.int 8))) (tC .non))) (zV 1) (tOp (yIx K) (zV 0) (tC (.int 8)))) tNil))))
def t_L_full (K : PySem.W.Frag) : TS := (tSeq (t_L_full_1 K) (t_L_full_2 K))
def t_law_1 (K : PySem.W.Frag) : TS := (tAsg (zLstA (tCons (tC (.str "none")) (tCons (tC (.bl false)) (tCons (tC (.int 0)) (tCons (tC (.bl false)) (tCons (tC (.bl true)) (tCons (tC (.str "first")) (tCons (tC (.int 16)) (tCons (tC (.int 16)) (tCons (tC .non) tNil)))))))))) (gName 1))
def t_law_2t_1 (K : PySem.W.Frag) : TS := (tRet (tC (.bl false)))
def t_law_2 (K : PySem.W.Frag) : TS := (tIfS (tOr (tNot (zB (tCall (sp_L_shows K) [] C8.E0 (tCons (tMakeN (He.ga K "Setting") 0 0 (sp_Setting___init__ K) (fun us ws => us ++ (ws ++ ([.str "none", .bl false, .int 0, .bl false, .bl true, .str "first", .int 16, .int 16, .non] : List V))) C8.E0 tNil tNil) (tCons (zV 1) tNil))))) (zB (tOp (yNe K) (tC (.ref (He.ga K "DIRECTIONS"))) (zTupA (tCons (tC (.str "to")) (tCons (tC (.str "from")) (tCons (tC (.str "both")) tNil))))))) (t_law_2t_1 K) tNext)
def t_law_3t_1 (K : PySem.W.Frag) : TS := (tRet (tC (.bl false)))
def t_law_3 (K : PySem.W.Frag) : TS := (tIfS (zB (tOp (yNeO K (He.ga K "Book") (sp_Book___eq__ K)) (tMakeN (He.ga K "Book") 0 0 (sp_Book___init__ K) (fun us ws => us ++ (ws ++ ([.ref (He.ga K "DIRECTIONS"), .ref (He.ga K "BACK"), .ref (He.ga K "DIRECTIONS"), .ref (He.ga K "DIRECTIONS"), .ref (He.ga K "BACK")] : List V))) C8.E0 tNil tNil) (tCall (sp_L_book K) [] C8.E0 (tCons (tOp (yIx K) (tCall (sp_L_full K) [] C8.E0 (tCons (zV 1) tNil)) (tC (.int 8))) tNil)))) (t_law_3t_1 K) tNext)
def t_law_4b_1 (K : PySem.W.Frag) : TS := (tAsg (tCall (sp_L_bag K) [] C8.E0 (tCons (zV 0) (tCons (zV 2) tNil))) (gName 3))
def t_law_4b_2b_1 (K : PySem.W.Frag) : TS := (tAsg (tCall (sp_L_arguments K) [] C8.E0 (tCons (zV 3) tNil)) (gName 5))
def t_law_4b_2b_2 (K : PySem.W.Frag) : TS := (tAsg (tCall (sp_L_changed K) [] C8.E0 (tCons (zV 3) (tCons (zV 5) tNil))) (gName 6))
def t_law_4b_2b_3 (K : PySem.W.Frag) : TS := (tAsg (zTupA (tCons (tCall (sp_L_setting K) [] C8.E0 (tCons (zV 5) tNil)) (tCons (tCall (sp_L_setting K) [] C8.E0 (tCons (zV 6) tNil)) tNil))) (gTup K 2 (gCons (gName 7) (gCons (gName 8) gNil))))
def t_law_4b_2b_4t_1 (K : PySem.W.Frag) : TS := (tRet (tC (.bl false)))
def t_law_4b_2b_4 (K : PySem.W.Frag) : TS := (tIfS (tOr (tNot (zB (tCall (sp_L_shows K) [] C8.E0 (tCons (zV 7) (tCons (zV 5) tNil))))) (tOr (tNot (zB (tCall (sp_L_shows K) [] C8.E0 (tCons (zV 8) (tCons (zV 6) tNil))))) (zB (tOp (yNeO K (He.ga K "Setting") (sp_Setting___eq__ K)) (zV 7) (tCall (sp_L_setting K) [] C8.E0 (tCons (tCall (sp_L_full K) [] C8.E0 (tCons (zV 5) tNil)) tNil)))))) (t_law_4b_2b_4t_1 K) tNext)
def t_law_4b_2b_5t_1 (K : PySem.W.Frag) : TS := (tRet (tC (.bl false)))
def t_law_4b_2b_5 (K : PySem.W.Frag) : TS := (tIfS (zB (tOp (yNe K) (tCB (yReprB K) (tCons (tOp (yEqO K (He.ga K "Setting") (sp_Setting___eq__ K)) (zV 7) (zV 8)) tNil)) (tCB (yReprB K) (tCons (tOp (yEq K) (tCall (sp_L_full K) [] C8.E0 (tCons (zV 5) tNil)) (tCall (sp_L_full K) [] C8.E0 (tCons (zV 6) tNil))) tNil)))) (t_law_4b_2b_5t_1 K) tNext)
def t_law_4b_2b_6t_1 (K : PySem.W.Frag) : TS := (tRet (tC (.bl false)))
def t_law_4b_2b_6 (K : PySem.W.Frag) : TS := (tIfS (zB (tOp (yNe K) (tCB (yReprB K) (tCons (tOp (yEqO K (He.ga K "Book") (sp_Book___eq__ K)) (zFld K (zV 7) "book") (zFld K (zV 8) "book")) tNil)) (tCB (yReprB K) (tCons (tOp (yEq K) (tOp (yIx K) (tCall (sp_L_full K) [] C8.E0 (tCons (zV 5) tNil)) (tC (.int 8))) (tOp (yIx K) (tCall (sp_L_full K) [] C8.E0 (tCons (zV 6) tNil)) (tC (.int 8)))) tNil)))) (t_law_4b_2b_6t_1 K) tNext)
def t_law_4b_2b_7t_1 (K : PySem.W.Frag) : TS := (tRet (tC (.bl false)))
def t_law_4b_2b_7 (K : PySem.W.Frag) : TS := (tIfS (zB (tOp (yNe0 K) (zLc (iT K (zTupA (tCons (tC .non) (tCons (tC (.bl true)) (tCons (tC (.int 0)) (tCons (tC (.str "")) (tCons (zTupA tNil) (tCons (zLstA tNil) (tCons (tMakeN (He.ga K "Book") 0 0 (sp_Book___init__ K) (fun us ws => us ++ (ws ++ ([.ref (He.ga K "DIRECTIONS"), .ref (He.ga K "BACK"), .ref (He.ga K "DIRECTIONS"), .ref (He.ga K "DIRECTIONS"), .ref (He.ga K "BACK")] : List V))) C8.E0 tNil tNil) (tCons (tCall (sp_L_full K) [] C8.E0 (tCons (zV 5) tNil)) tNil)))))))))) (gName 9) (zB (tOp (yEqO K (He.ga K "Setting") (sp_Setting___eq__ K)) (zV 7) (zV 9))) (zV 9) [9]) (zLstA tNil))) (t_law_4b_2b_7t_1 K) tNext)
def t_law_4b_2b_8t_1 (K : PySem.W.Frag) : TS := (tRet (tC (.bl false)))
def t_law_4b_2b_8 (K : PySem.W.Frag) : TS := (tIfS (zB (tOp (yNe0 K) (zLc (iT K (zTupA (tCons (tC .non) (tCons (zTupA tNil) (tCons (tMakeN (He.ga K "Setting") 0 0 (sp_Setting___init__ K) (fun us ws => us ++ (ws ++ ([.str "none", .bl false, .int 0, .bl false, .bl true, .str "first", .int 16, .int 16, .non] : List V))) C8.E0 tNil tNil) (tCons (tOp (yIx K) (tCall (sp_L_full K) [] C8.E0 (tCons (zV 5) tNil)) (tC (.int 8))) tNil)))))) (gName 9) (zB (tOp (yEqO K (He.ga K "Book") (sp_Book___eq__ K)) (zFld K (zV 7) "book") (zV 9))) (zV 9) [9]) (zLstA tNil))) (t_law_4b_2b_8t_1 K) tNext)
def t_law_4b_2b_9t_1 (K : PySem.W.Frag) : TS := (tRet (tC (.bl false)))
def t_law_4b_2b_9 (K : PySem.W.Frag) : TS := (tIfS (zB (tOp (yNeO K (He.ga K "Setting") (sp_Setting___eq__ K)) (tMakeN (He.ga K "Setting") 0 1 (sp_Setting___init__ K) (fun us ws => us ++ (ws ++ ([.bl false, .int 0, .bl false, .bl true, .str "first", .int 16, .int 16, .non] : List V))) C8.E0 tNil (tCons (tOp (yIx K) (zV 5) (tC (.int 0))) tNil)) (tCall (sp_L_setting K) [] C8.E0 (tCons (tOp yAddA (zLstA (tCons (tOp (yIx K) (zV 5) (tC (.int 0))) tNil)) (zSAA K (zV 1) (tC (.int 1)))) tNil)))) (t_law_4b_2b_9t_1 K) tNext)
def t_law_4b_2b_10t_1 (K : PySem.W.Frag) : TS := (tRet (tC (.bl false)))
def t_law_4b_2b_10 (K : PySem.W.Frag) : TS := (tIfS (zB (tOp (yNeO K (He.ga K "Setting") (sp_Setting___eq__ K)) (tMakeN (He.ga K "Setting") 0 2 (sp_Setting___init__ K) (fun us ws => us ++ ((([.str "none", .bl false, .bl true, .str "first", .int 16, .int 16, .non] : List V).drop 0).take 1 ++ ((ws.drop 0).take 1 ++ ((ws.drop 1).take 1 ++ ((([.str "none", .bl false, .bl true, .str "first", .int 16, .int 16, .non] : List V).drop 1).take 1 ++ ((([.str "none", .bl false, .bl true, .str "first", .int 16, .int 16, .non] : List V).drop 2).take 1 ++ ((([.str "none", .bl false, .bl true, .str "first", .int 16, .int 16, .non] : List V).drop 3).take 1 ++ ((([.str "none", .bl false, .bl true, .str "first", .int 16, .int 16, .non] : List V).drop 4).take 1 ++ ((([.str "none", .bl false, .bl true, .str "first", .int 16, .int 16, .non] : List V).drop 5).take 1 ++ ((([.str "none", .bl false, .bl true, .str "first", .int 16, .int 16, .non] : List V).drop 6).take 1 ++ [])))))))))) C8.E0 tNil (tCons (tOp (yIx K) (zV 5) (tC (.int 1))) (tCons (tOp (yIx K) (zV 5) (tC (.int 2))) tNil))) (tCall (sp_L_setting K) [] C8.E0 (tCons (tOp yAddA (zLstA (tCons (tC (.str "none")) (tCons (tOp (yIx K) (zV 5) (tC (.int 1))) (tCons (tOp (yIx K) (zV 5) (tC (.int 2))) tNil)))) (zSAA K (zV 1) (tC (.int 3)))) tNil)))) (t_law_4b_2b_10t_1 K) tNext)
def t_law_4b_2 (K : PySem.W.Frag) : TS := (zForR1 (tC (.int 6)) (gName 4) (tSeq (t_law_4b_2b_1 K) (tSeq (t_law_4b_2b_2 K) (tSeq (t_law_4b_2b_3 K) (tSeq (t_law_4b_2b_4 K) (tSeq (t_law_4b_2b_5 K) (tSeq (t_law_4b_2b_6 K) (tSeq (t_law_4b_2b_7 K) (tSeq (t_law_4b_2b_8 K) (tSeq (t_law_4b_2b_9 K) (t_law_4b_2b_10 K)))))))))))
def t_law_4 (K : PySem.W.Frag) : TS := (zForR1 (tCB yMax2 (tCons (tC (.int 2)) (tCons (tCB yMin2 (tCons (tC (.int 6)) (tCons (tCB (yLenS K) (tCons (zV 0) tNil)) tNil))) tNil))) (gName 2) (tSeq (t_law_4b_1 K) (t_law_4b_2 K)))
def t_law_5 (K : PySem.W.Frag) : TS := (tRet (tC (.bl true)))
def t_law (K : PySem.W.Frag) : TS := (tSeq (t_law_1 K) (tSeq (t_law_2 K) (tSeq (t_law_3 K) (tSeq (t_law_4 K) (t_law_5 K)))))
structure Top (K : PySem.W.Frag) (mg : Str → Option Value) : Prop where
  g_law : mg "law" = some (.ref (He.ga K "law"))
  g_is_integer : mg "is_integer" = some (.ref (He.ga K "is_integer"))
  g_is_from_to : mg "is_from_to" = some (.ref (He.ga K "is_from_to"))
  g_is_duty : mg "is_duty" = some (.ref (He.ga K "is_duty"))
  g_is_word_of : mg "is_word_of" = some (.ref (He.ga K "is_word_of"))
  g_L_bag : mg "_law_bag" = some (.ref (He.ga K "_law_bag"))
  g_L_take : mg "_law_take" = some (.ref (He.ga K "_law_take"))
  g_L_of : mg "_law_of" = some (.ref (He.ga K "_law_of"))
  g_L_ways : mg "_law_ways" = some (.ref (He.ga K "_law_ways"))
  g_L_arguments : mg "_law_arguments" = some (.ref (He.ga K "_law_arguments"))
  g_L_book : mg "_law_book" = some (.ref (He.ga K "_law_book"))
  g_L_setting : mg "_law_setting" = some (.ref (He.ga K "_law_setting"))
  g_L_duties : mg "_law_duties" = some (.ref (He.ga K "_law_duties"))
  g_L_shows : mg "_law_shows" = some (.ref (He.ga K "_law_shows"))
  g_L_changed : mg "_law_changed" = some (.ref (He.ga K "_law_changed"))
  g_L_full : mg "_law_full" = some (.ref (He.ga K "_law_full"))
  f_len : mg "len" = none
  f_abs : mg "abs" = none
  f_max : mg "max" = none
  f_min : mg "min" = none
  f_range : mg "range" = none
  f_isinstance : mg "isinstance" = none
  f_int : mg "int" = none
  f_bool : mg "bool" = none
  f_list : mg "list" = none
  f_tuple : mg "tuple" = none
  f_str : mg "str" = none
  f_enumerate : mg "enumerate" = none
  f_repr : mg "repr" = none
  g_MOST_BATCH : ∃ u, mg "MOST_BATCH" = some u ∧ RelV (.int 8) u
  g_MOST_GROUPS : ∃ u, mg "MOST_GROUPS" = some u ∧ RelV (.int 32) u
  g_MOST_TABLES : ∃ u, mg "MOST_TABLES" = some u ∧ RelV (.int 32) u
  m_Book : mg "Book" = some (.ref (He.ga K "Book"))
  m_Setting : mg "Setting" = some (.ref (He.ga K "Setting"))
  cl_Book : Cls K (He.ga K "Book")
  na_Book_cleaned : NoAttr K (He.ga K "Book") "cleaned"
  na_Book_dropped : NoAttr K (He.ga K "Book") "dropped"
  na_Book_bind_copied : NoAttr K (He.ga K "Book") "bind_copied"
  na_Book_give_copied : NoAttr K (He.ga K "Book") "give_copied"
  na_Book_take_copied : NoAttr K (He.ga K "Book") "take_copied"
  mk_Book : Mk K (He.ga K "Book") (He.ma K (He.ga K "Book") "__init__")
  cl_Setting : Cls K (He.ga K "Setting")
  na_Setting_copies : NoAttr K (He.ga K "Setting") "copies"
  na_Setting_cached : NoAttr K (He.ga K "Setting") "cached"
  na_Setting_batch : NoAttr K (He.ga K "Setting") "batch"
  na_Setting_early : NoAttr K (He.ga K "Setting") "early"
  na_Setting_drain : NoAttr K (He.ga K "Setting") "drain"
  na_Setting_policy : NoAttr K (He.ga K "Setting") "policy"
  na_Setting_groups : NoAttr K (He.ga K "Setting") "groups"
  na_Setting_tables : NoAttr K (He.ga K "Setting") "tables"
  na_Setting_book : NoAttr K (He.ga K "Setting") "book"
  mk_Setting : Mk K (He.ga K "Setting") (He.ma K (He.ga K "Setting") "__init__")
  me_Book_duties : Meth K (He.ga K "Book") "duties" (He.ma K (He.ga K "Book") "duties")
  me_Book___eq__ : Meth K (He.ga K "Book") "__eq__" (He.ma K (He.ga K "Book") "__eq__")
  me_Setting_pairs : Meth K (He.ga K "Setting") "pairs" (He.ma K (He.ga K "Setting") "pairs")
  me_Setting___eq__ : Meth K (He.ga K "Setting") "__eq__" (He.ma K (He.ga K "Setting") "__eq__")
  m_POLICIES : mg "POLICIES" = some (.ref (He.ga K "POLICIES"))
  t_POLICIES : ∀ H, SqT K H (He.ga K "POLICIES") ((["first", "best", "worst", "next", "halves"] : List Str).map V.str)
  m_DIRECTIONS : mg "DIRECTIONS" = some (.ref (He.ga K "DIRECTIONS"))
  t_DIRECTIONS : ∀ H, SqT K H (He.ga K "DIRECTIONS") ((["to", "from", "both"] : List Str).map V.str)
  m_BACK : mg "BACK" = some (.ref (He.ga K "BACK"))
  t_BACK : ∀ H, SqT K H (He.ga K "BACK") ((["from", "both"] : List Str).map V.str)
  m_COPIES : mg "COPIES" = some (.ref (He.ga K "COPIES"))
  t_COPIES : ∀ H, SqT K H (He.ga K "COPIES") ((["none", "ends", "all"] : List Str).map V.str)
  i_Book : InsF K (He.ga K "Book")
  i_Setting : InsF K (He.ga K "Setting")
  nef_Book : NeF K (He.ga K "Book")
  nef_Setting : NeF K (He.ga K "Setting")
  sf_Book : PySem.W.selfFirst K (He.ga K "Book") = true
  sf_Setting : PySem.W.selfFirst K (He.ga K "Setting") = true
  nf_Book_int : PySem.W.notFirst K (He.ga K "Book") (.type "int") = true
  nf_Book_bool : PySem.W.notFirst K (He.ga K "Book") (.type "bool") = true
  nf_Book_str : PySem.W.notFirst K (He.ga K "Book") (.type "str") = true
  nf_Book_list : PySem.W.notFirst K (He.ga K "Book") (.type "list") = true
  nf_Book_tuple : PySem.W.notFirst K (He.ga K "Book") (.type "tuple") = true
  nf_Book_NoneType : PySem.W.notFirst K (He.ga K "Book") (.type "NoneType") = true
  nf_Setting_int : PySem.W.notFirst K (He.ga K "Setting") (.type "int") = true
  nf_Setting_bool : PySem.W.notFirst K (He.ga K "Setting") (.type "bool") = true
  nf_Setting_str : PySem.W.notFirst K (He.ga K "Setting") (.type "str") = true
  nf_Setting_list : PySem.W.notFirst K (He.ga K "Setting") (.type "list") = true
  nf_Setting_tuple : PySem.W.notFirst K (He.ga K "Setting") (.type "tuple") = true
  nf_Setting_NoneType : PySem.W.notFirst K (He.ga K "Setting") (.type "NoneType") = true
  kb_int_Book : PySem.W.kitOne K (.type "int") (.ref (He.ga K "Book")) = some false
  kb_bool_Book : PySem.W.kitOne K (.type "bool") (.ref (He.ga K "Book")) = some false
  kb_str_Book : PySem.W.kitOne K (.type "str") (.ref (He.ga K "Book")) = some false
  kb_list_Book : PySem.W.kitOne K (.type "list") (.ref (He.ga K "Book")) = some false
  kb_tuple_Book : PySem.W.kitOne K (.type "tuple") (.ref (He.ga K "Book")) = some false
  kb_NoneType_Book : PySem.W.kitOne K (.type "NoneType") (.ref (He.ga K "Book")) = some false
  kb_int_Setting : PySem.W.kitOne K (.type "int") (.ref (He.ga K "Setting")) = some false
  kb_bool_Setting : PySem.W.kitOne K (.type "bool") (.ref (He.ga K "Setting")) = some false
  kb_str_Setting : PySem.W.kitOne K (.type "str") (.ref (He.ga K "Setting")) = some false
  kb_list_Setting : PySem.W.kitOne K (.type "list") (.ref (He.ga K "Setting")) = some false
  kb_tuple_Setting : PySem.W.kitOne K (.type "tuple") (.ref (He.ga K "Setting")) = some false
  kb_NoneType_Setting : PySem.W.kitOne K (.type "NoneType") (.ref (He.ga K "Setting")) = some false
  ki_Book_int : PySem.W.kitOne K (.ref (He.ga K "Book")) (.type "int") = some false
  ki_Book_bool : PySem.W.kitOne K (.ref (He.ga K "Book")) (.type "bool") = some false
  ki_Book_Book : PySem.W.kitOne K (.ref (He.ga K "Book")) (.ref (He.ga K "Book")) = some true
  ki_Book_Setting : PySem.W.kitOne K (.ref (He.ga K "Book")) (.ref (He.ga K "Setting")) = some false
  ki_Setting_Book : PySem.W.kitOne K (.ref (He.ga K "Setting")) (.ref (He.ga K "Book")) = some false
  ki_Setting_Setting : PySem.W.kitOne K (.ref (He.ga K "Setting")) (.ref (He.ga K "Setting")) = some true
  d_is_integer : Hk.FN K "is_integer" "is_integer" st_is_integer (He.ga K "is_integer")
  d_is_from_to : Hk.FN K "is_from_to" "is_from_to" st_is_from_to (He.ga K "is_from_to")
  d_is_duty : Hk.FN K "is_duty" "is_duty" st_is_duty (He.ga K "is_duty")
  d_is_word_of : Hk.FN K "is_word_of" "is_word_of" st_is_word_of (He.ga K "is_word_of")
  d_Book___init__ : ∃ fd, FunD K "__init__" "Book.__init__" (defArgs st_Book___init__) (defBody st_Book___init__) (defScope st_Book___init__) [] [(("cleaned" : Str), (.ref (He.ga K "DIRECTIONS") : V)), (("dropped" : Str), (.ref (He.ga K "BACK") : V)), (("bind_copied" : Str), (.ref (He.ga K "DIRECTIONS") : V)), (("give_copied" : Str), (.ref (He.ga K "DIRECTIONS") : V)), (("take_copied" : Str), (.ref (He.ga K "BACK") : V))] (He.ma K (He.ga K "Book") "__init__") fd
  d_Book_duties : Hk.FN K "duties" "Book.duties" st_Book_duties (He.ma K (He.ga K "Book") "duties")
  d_Book___eq__ : Hk.FN K "__eq__" "Book.__eq__" st_Book___eq__ (He.ma K (He.ga K "Book") "__eq__")
  d_Setting___init__ : ∃ fd, FunD K "__init__" "Setting.__init__" (defArgs st_Setting___init__) (defBody st_Setting___init__) (defScope st_Setting___init__) [] [(("copies" : Str), (.str "none" : V)), (("cached" : Str), (.bl false : V)), (("batch" : Str), (.int 0 : V)), (("early" : Str), (.bl false : V)), (("drain" : Str), (.bl true : V)), (("policy" : Str), (.str "first" : V)), (("groups" : Str), (.int 16 : V)), (("tables" : Str), (.int 16 : V)), (("book" : Str), (.non : V))] (He.ma K (He.ga K "Setting") "__init__") fd
  d_Setting_pairs : Hk.FN K "pairs" "Setting.pairs" st_Setting_pairs (He.ma K (He.ga K "Setting") "pairs")
  d_Setting___eq__ : Hk.FN K "__eq__" "Setting.__eq__" st_Setting___eq__ (He.ma K (He.ga K "Setting") "__eq__")
  d_L_bag : Hk.FN K "_law_bag" "_law_bag" st_L_bag (He.ga K "_law_bag")
  d_L_take : Hk.FN K "_law_take" "_law_take" st_L_take (He.ga K "_law_take")
  d_L_of : Hk.FN K "_law_of" "_law_of" st_L_of (He.ga K "_law_of")
  d_L_ways : Hk.FN K "_law_ways" "_law_ways" st_L_ways (He.ga K "_law_ways")
  d_L_arguments : Hk.FN K "_law_arguments" "_law_arguments" st_L_arguments (He.ga K "_law_arguments")
  d_L_book : Hk.FN K "_law_book" "_law_book" st_L_book (He.ga K "_law_book")
  d_L_setting : Hk.FN K "_law_setting" "_law_setting" st_L_setting (He.ga K "_law_setting")
  d_L_duties : Hk.FN K "_law_duties" "_law_duties" st_L_duties (He.ga K "_law_duties")
  d_L_shows : Hk.FN K "_law_shows" "_law_shows" st_L_shows (He.ga K "_law_shows")
  d_L_changed : Hk.FN K "_law_changed" "_law_changed" st_L_changed (He.ga K "_law_changed")
  d_L_full : Hk.FN K "_law_full" "_law_full" st_L_full (He.ga K "_law_full")
  d_law : Hk.FN K "law" "law" st_law (He.ga K "law")
theorem Same.new {H : Hp} {p : Addr} {o : HO} (h : H p = none) : Same H (upd H p o) := fun b u e => by rw [upd_ne (ne_of_none e h)]; exact e
theorem Same.upd {H0 H : Hp} {p : Addr} {o : HO} (s : Same H0 H) (h : H0 p = none) : Same H0 (upd H p o) := fun a u e => by rw [upd_ne (ne_of_none e h)]; exact s a u e
theorem use_take {K : PySem.W.Frag} {H : Hp} {Q : VK} {E : XK} {b : Addr} {o : HO} {m : Int} (hb : H b = some o) (ho : Bag2 o) (hm : 0 < m) (hm2 : m < 1000000000) (k : ∀ d o', 0 ≤ d → d < m → Bag2 o' → Q (.int d) (upd H b o')) : sp_L_take K [.ref b, .int m] H Q E :=
  ⟨b, o, m, rfl, hb, ho, hm, hm2, k⟩
theorem rd_L_take {K : PySem.W.Frag} {mg : Str → Option Value} (T : Top K mg) : ∀ vs H Q E, sp_L_take K vs H Q E → t_L_take K { nx := fun _ H' => Q .non H', rt := Q } (start nm_L_take vs) H := by
  rintro vs H Q E ⟨b, o, m, rfl, hb, ⟨L, M, rfl, h1, h2, h3⟩, hm, hm2, k⟩
  rw [start_L_take]
  unfold t_L_take t_L_take_1
  simp only [tSeq, tAsg, tIfS, tRet, tRetN, tDrop, tNext, tPar, tPar3, gName, gSub, gTup, gCons, gNil, zV, tC, tOp, tUn, tCons, tNil, tLst, tTup, tIf, tAnd, tOr, tNot, tYes, zB, zAnd, zOr, zNot, zChain, tDNewK, yAdd, ySub, yMul, yDiv, yMod, yPow, yNeg, yLt, yLe, yGt, yGe, yEq, yNe, yIs0, yNotIs0, yIx, ySet, yIn, sqAt, isNone, zFld, zSetF, insAt, zMeth, zProp, tCall, tMake, tCB, yLen, yAbs, yMax2, yMin2, yList, yTuple, yDict0, zLM, yApp, isLst, dkAt, keyOf, zGet1, zGet2, zPop1, zPop2, zForR1, zForR2, zForL, zForT, Z.intAt, refAt, zLc, iR1, iR2, iL, iT, wipe, List.getElem?_cons_zero, List.getElem?_cons_succ, List.set_cons_zero, List.set_cons_succ, List.cons_append, List.nil_append, List.append_nil, upd_same, at0, at1, at2, ix0, ix1, ix2, upd_upd, ite_true, ite_false, if_true, if_false, Bool.false_eq_true, decide_true, decide_false, reduceIte, true_and, and_true, Option.isSome_none, Option.isSome_some, Bool.not_false, Bool.not_true, zTupA, zLstA, yAddA, yMulA, sliceA, zS2A, zSAA, zSBA, yListA, yTupleA, zForE, yNeO, yReprB, tMakeN, zSlA, zSlB, wOnly, tCallN, zForR3, zMatch, zCase, zMethS, zRaiseO, yPopAt, zSl2, yIsiT, tysAt, zBInit, zOst, tXf, wAs, tMkO, zFmt, zJs, zJoin, yStr1, gLst, zCM, zListR1, zListR2, zLenR1, iR3, yInt1, yEqO, yAndO, yInO, yLenO, yReprO, isBl, Z.strAt, yEq0, yNe0, GF.zForG, GF.zLcG, GF.zListG, yIsi, tyAt, clsAt, ki_int_int, ki_bool_int, ki_none_int, ki_str_int, ki_list_int, ki_tuple_int, ki_int_bool, ki_bool_bool, ki_none_bool, ki_str_bool, ki_list_bool, ki_tuple_bool, zMakeV, tRz, zNever, hb]
  by_cases hL : 0 < L
  · simp only [tSeq, tAsg, tIfS, tRet, tRetN, tDrop, tNext, tPar, tPar3, gName, gSub, gTup, gCons, gNil, zV, tC, tOp, tUn, tCons, tNil, tLst, tTup, tIf, tAnd, tOr, tNot, tYes, zB, zAnd, zOr, zNot, zChain, tDNewK, yAdd, ySub, yMul, yDiv, yMod, yPow, yNeg, yLt, yLe, yGt, yGe, yEq, yNe, yIs0, yNotIs0, yIx, ySet, yIn, sqAt, isNone, zFld, zSetF, insAt, zMeth, zProp, tCall, tMake, tCB, yLen, yAbs, yMax2, yMin2, yList, yTuple, yDict0, zLM, yApp, isLst, dkAt, keyOf, zGet1, zGet2, zPop1, zPop2, zForR1, zForR2, zForL, zForT, Z.intAt, refAt, zLc, iR1, iR2, iL, iT, wipe, List.getElem?_cons_zero, List.getElem?_cons_succ, List.set_cons_zero, List.set_cons_succ, List.cons_append, List.nil_append, List.append_nil, upd_same, at0, at1, at2, ix0, ix1, ix2, upd_upd, ite_true, ite_false, if_true, if_false, Bool.false_eq_true, decide_true, decide_false, reduceIte, true_and, and_true, Option.isSome_none, Option.isSome_some, Bool.not_false, Bool.not_true, zTupA, zLstA, yAddA, yMulA, sliceA, zS2A, zSAA, zSBA, yListA, yTupleA, zForE, yNeO, yReprB, tMakeN, zSlA, zSlB, wOnly, tCallN, zForR3, zMatch, zCase, zMethS, zRaiseO, yPopAt, zSl2, yIsiT, tysAt, zBInit, zOst, tXf, wAs, tMkO, zFmt, zJs, zJoin, yStr1, gLst, zCM, zListR1, zListR2, zLenR1, iR3, yInt1, yEqO, yAndO, yInO, yLenO, yReprO, isBl, Z.strAt, yEq0, yNe0, GF.zForG, GF.zLcG, GF.zListG, yIsi, tyAt, clsAt, ki_int_int, ki_bool_int, ki_none_int, ki_str_int, ki_list_int, ki_tuple_int, ki_int_bool, ki_bool_bool, ki_none_bool, ki_str_bool, ki_list_bool, ki_tuple_bool, zMakeV, tRz, zNever, hL, t_L_take_1t_1, t_L_take_1t_2, t_L_take_1t_3, hb]
    refine ⟨hm, ⟨hm, by omega⟩, ?_⟩
    exact k _ _ (Int.emod_nonneg _ (by omega)) (Int.emod_lt_of_pos _ hm) ⟨L / m, M, rfl, Int.ediv_nonneg h1 (by omega), h2, h3⟩
  · simp only [tSeq, tAsg, tIfS, tRet, tRetN, tDrop, tNext, tPar, tPar3, gName, gSub, gTup, gCons, gNil, zV, tC, tOp, tUn, tCons, tNil, tLst, tTup, tIf, tAnd, tOr, tNot, tYes, zB, zAnd, zOr, zNot, zChain, tDNewK, yAdd, ySub, yMul, yDiv, yMod, yPow, yNeg, yLt, yLe, yGt, yGe, yEq, yNe, yIs0, yNotIs0, yIx, ySet, yIn, sqAt, isNone, zFld, zSetF, insAt, zMeth, zProp, tCall, tMake, tCB, yLen, yAbs, yMax2, yMin2, yList, yTuple, yDict0, zLM, yApp, isLst, dkAt, keyOf, zGet1, zGet2, zPop1, zPop2, zForR1, zForR2, zForL, zForT, Z.intAt, refAt, zLc, iR1, iR2, iL, iT, wipe, List.getElem?_cons_zero, List.getElem?_cons_succ, List.set_cons_zero, List.set_cons_succ, List.cons_append, List.nil_append, List.append_nil, upd_same, at0, at1, at2, ix0, ix1, ix2, upd_upd, ite_true, ite_false, if_true, if_false, Bool.false_eq_true, decide_true, decide_false, reduceIte, true_and, and_true, Option.isSome_none, Option.isSome_some, Bool.not_false, Bool.not_true, zTupA, zLstA, yAddA, yMulA, sliceA, zS2A, zSAA, zSBA, yListA, yTupleA, zForE, yNeO, yReprB, tMakeN, zSlA, zSlB, wOnly, tCallN, zForR3, zMatch, zCase, zMethS, zRaiseO, yPopAt, zSl2, yIsiT, tysAt, zBInit, zOst, tXf, wAs, tMkO, zFmt, zJs, zJoin, yStr1, gLst, zCM, zListR1, zListR2, zLenR1, iR3, yInt1, yEqO, yAndO, yInO, yLenO, yReprO, isBl, Z.strAt, yEq0, yNe0, GF.zForG, GF.zLcG, GF.zListG, yIsi, tyAt, clsAt, ki_int_int, ki_bool_int, ki_none_int, ki_str_int, ki_list_int, ki_tuple_int, ki_int_bool, ki_bool_bool, ki_none_bool, ki_str_bool, ki_list_bool, ki_tuple_bool, zMakeV, tRz, zNever, hL, t_L_take_2, t_L_take_3, hb]
    have x0 : 0 ≤ (M * 40692 + 3301) % 2147483399 := Int.emod_nonneg _ (by decide)
    have x1 : (M * 40692 + 3301) % 2147483399 < 2147483399 := Int.emod_lt_of_pos _ (by decide)
    refine ⟨.inl ⟨by omega, by omega⟩, by decide, ?_⟩
    generalize (M * 40692 + 3301) % 2147483399 = y at x0 x1
    refine ⟨⟨by decide, by decide⟩, .inl ⟨by omega, by omega⟩, by decide, ⟨by decide, by decide⟩, hm, ?_⟩
    exact k _ _ (Int.emod_nonneg _ (by omega)) (Int.emod_lt_of_pos _ hm) ⟨L, y, rfl, h1, by omega, by omega⟩
theorem cut40 (ns : List Int) : cutV (ns.map V.int) none (some 40) = (ns.take 40).map V.int := by
  unfold cutV
  have e1 : HT.sIx (ns.map V.int).length 0 none = 0 := rfl
  have e2 : HT.sIx (ns.map V.int).length (ns.map V.int).length (some 40) = min 40 (ns.map V.int).length := rfl
  rw [e1, e2, List.drop_zero, Nat.sub_zero, List.map_take]
  rcases Nat.le_total 40 (ns.map V.int).length with h | h
  · rw [Nat.min_eq_left h]
  · rw [Nat.min_eq_right h, List.take_length, List.take_of_length_le h]
theorem rd_L_bag {K : PySem.W.Frag} {mg : Str → Option Value} (T : Top K mg) : ∀ vs H Q E, sp_L_bag K vs H Q E → t_L_bag K { nx := fun _ H' => Q .non H', rt := Q } (start nm_L_bag vs) H := by
  rintro vs H Q E ⟨a, i, ns, rfl, hS, h0, h1, k⟩
  rw [start_L_bag]
  unfold t_L_bag
  have szl := sizeLine_eq
  have key : ∀ N : Int, tSeq (t_L_bag_2 K) (tSeq (t_L_bag_3 K) (t_L_bag_4 K)) { nx := fun x H' => Q V.non H', rt := Q } [some (V.ref a), some (V.int i), some (V.int N), none, none, none] H := by
    intro N
    unfold t_L_bag_2
    simp only [tSeq, tAsg, tIfS, tRet, tRetN, tDrop, tNext, tPar, tPar3, gName, gSub, gTup, gCons, gNil, zV, tC, tOp, tUn, tCons, tNil, tLst, tTup, tIf, tAnd, tOr, tNot, tYes, zB, zAnd, zOr, zNot, zChain, tDNewK, yAdd, ySub, yMul, yDiv, yMod, yPow, yNeg, yLt, yLe, yGt, yGe, yEq, yNe, yIs0, yNotIs0, yIx, ySet, yIn, sqAt, isNone, zFld, zSetF, insAt, zMeth, zProp, tCall, tMake, tCB, yLen, yAbs, yMax2, yMin2, yList, yTuple, yDict0, zLM, yApp, isLst, dkAt, keyOf, zGet1, zGet2, zPop1, zPop2, zForR1, zForR2, zForL, zForT, Z.intAt, refAt, zLc, iR1, iR2, iL, iT, wipe, List.getElem?_cons_zero, List.getElem?_cons_succ, List.set_cons_zero, List.set_cons_succ, List.cons_append, List.nil_append, List.append_nil, upd_same, at0, at1, at2, ix0, ix1, ix2, upd_upd, ite_true, ite_false, if_true, if_false, Bool.false_eq_true, decide_true, decide_false, reduceIte, true_and, and_true, Option.isSome_none, Option.isSome_some, Bool.not_false, Bool.not_true, zTupA, zLstA, yAddA, yMulA, sliceA, zS2A, zSAA, zSBA, yListA, yTupleA, zForE, yNeO, yReprB, tMakeN, zSlA, zSlB, wOnly, tCallN, zForR3, zMatch, zCase, zMethS, zRaiseO, yPopAt, zSl2, yIsiT, tysAt, zBInit, zOst, tXf, wAs, tMkO, zFmt, zJs, zJoin, yStr1, gLst, zCM, zListR1, zListR2, zLenR1, iR3, yInt1, yEqO, yAndO, yInO, yLenO, yReprO, isBl, Z.strAt, yEq0, yNe0, GF.zForG, GF.zLcG, GF.zListG, yIsi, tyAt, clsAt, ki_int_int, ki_bool_int, ki_none_int, ki_str_int, ki_list_int, ki_tuple_int, ki_int_bool, ki_bool_bool, ki_none_bool, ki_str_bool, ki_list_bool, ki_tuple_bool, zMakeV, tRz, zNever]
    refine ⟨.inl ⟨by decide, by decide⟩, ?_⟩
    unfold t_L_bag_3
    simp only [tSeq, tAsg, tIfS, tRet, tRetN, tDrop, tNext, tPar, tPar3, gName, gSub, gTup, gCons, gNil, zV, tC, tOp, tUn, tCons, tNil, tLst, tTup, tIf, tAnd, tOr, tNot, tYes, zB, zAnd, zOr, zNot, zChain, tDNewK, yAdd, ySub, yMul, yDiv, yMod, yPow, yNeg, yLt, yLe, yGt, yGe, yEq, yNe, yIs0, yNotIs0, yIx, ySet, yIn, sqAt, isNone, zFld, zSetF, insAt, zMeth, zProp, tCall, tMake, tCB, yLen, yAbs, yMax2, yMin2, yList, yTuple, yDict0, zLM, yApp, isLst, dkAt, keyOf, zGet1, zGet2, zPop1, zPop2, zForR1, zForR2, zForL, zForT, Z.intAt, refAt, zLc, iR1, iR2, iL, iT, wipe, List.getElem?_cons_zero, List.getElem?_cons_succ, List.set_cons_zero, List.set_cons_succ, List.cons_append, List.nil_append, List.append_nil, upd_same, at0, at1, at2, ix0, ix1, ix2, upd_upd, ite_true, ite_false, if_true, if_false, Bool.false_eq_true, decide_true, decide_false, reduceIte, true_and, and_true, Option.isSome_none, Option.isSome_some, Bool.not_false, Bool.not_true, zTupA, zLstA, yAddA, yMulA, sliceA, zS2A, zSAA, zSBA, yListA, yTupleA, zForE, yNeO, yReprB, tMakeN, zSlA, zSlB, wOnly, tCallN, zForR3, zMatch, zCase, zMethS, zRaiseO, yPopAt, zSl2, yIsiT, tysAt, zBInit, zOst, tXf, wAs, tMkO, zFmt, zJs, zJoin, yStr1, gLst, zCM, zListR1, zListR2, zLenR1, iR3, yInt1, yEqO, yAndO, yInO, yLenO, yReprO, isBl, Z.strAt, yEq0, yNe0, GF.zForG, GF.zLcG, GF.zListG, yIsi, tyAt, clsAt, ki_int_int, ki_bool_int, ki_none_int, ki_str_int, ki_list_int, ki_tuple_int, ki_int_bool, ki_bool_bool, ki_none_bool, ki_str_bool, ki_list_bool, ki_tuple_bool, zMakeV, tRz, zNever, zForE]
    refine ⟨_, hS, fun p hp => ⟨⟨_, SqL.of upd_same⟩, ?_⟩⟩
    rw [cut40]
    have s1 := Same.new hp (o := .lst ((ns.take 40).map V.int))
    have hp1 : (upd H p (.lst ((ns.take 40).map V.int))) p = _ := upd_same
    generalize upd H p (.lst ((ns.take 40).map V.int)) = H1 at s1 hp1
    refine loopE (xs := (ns.take 40).map V.int) (fun j σ H' => ∃ M v4 v5, σ = [some (V.ref a), some (V.int i), some (V.int N), some (V.int M), v4, v5] ∧ 0 ≤ M ∧ M < 2147483563 ∧ Same H1 H') ⟨_, none, none, rfl, by omega, by omega, Same.refl _⟩ ?_ ?_ ?_
    · rintro j σ H' _ ⟨M, v4, v5, rfl, m0, m1, s⟩
      exact SqL.of (s _ _ hp1)
    · rintro j x σ H' t hx ⟨M, v4, v5, rfl, m0, m1, s⟩ ht
      rw [List.getElem?_map] at hx
      cases et : (ns.take 40)[j]? with
      | none => rw [et] at hx; cases hx
      | some e =>
        rw [et] at hx
        obtain rfl := (Option.some.inj hx).symm
        have hj : j < 40 := by
          have := (List.getElem?_eq_some_iff.mp et).1
          rw [List.length_take] at this
          omega
        simp only [tSeq, tAsg, tIfS, tRet, tRetN, tDrop, tNext, tPar, tPar3, gName, gSub, gTup, gCons, gNil, zV, tC, tOp, tUn, tCons, tNil, tLst, tTup, tIf, tAnd, tOr, tNot, tYes, zB, zAnd, zOr, zNot, zChain, tDNewK, yAdd, ySub, yMul, yDiv, yMod, yPow, yNeg, yLt, yLe, yGt, yGe, yEq, yNe, yIs0, yNotIs0, yIx, ySet, yIn, sqAt, isNone, zFld, zSetF, insAt, zMeth, zProp, tCall, tMake, tCB, yLen, yAbs, yMax2, yMin2, yList, yTuple, yDict0, zLM, yApp, isLst, dkAt, keyOf, zGet1, zGet2, zPop1, zPop2, zForR1, zForR2, zForL, zForT, Z.intAt, refAt, zLc, iR1, iR2, iL, iT, wipe, List.getElem?_cons_zero, List.getElem?_cons_succ, List.set_cons_zero, List.set_cons_succ, List.cons_append, List.nil_append, List.append_nil, upd_same, at0, at1, at2, ix0, ix1, ix2, upd_upd, ite_true, ite_false, if_true, if_false, Bool.false_eq_true, decide_true, decide_false, reduceIte, true_and, and_true, Option.isSome_none, Option.isSome_some, Bool.not_false, Bool.not_true, zTupA, zLstA, yAddA, yMulA, sliceA, zS2A, zSAA, zSBA, yListA, yTupleA, zForE, yNeO, yReprB, tMakeN, zSlA, zSlB, wOnly, tCallN, zForR3, zMatch, zCase, zMethS, zRaiseO, yPopAt, zSl2, yIsiT, tysAt, zBInit, zOst, tXf, wAs, tMkO, zFmt, zJs, zJoin, yStr1, gLst, zCM, zListR1, zListR2, zLenR1, iR3, yInt1, yEqO, yAndO, yInO, yLenO, yReprO, isBl, Z.strAt, yEq0, yNe0, GF.zForG, GF.zLcG, GF.zListG, yIsi, tyAt, clsAt, ki_int_int, ki_bool_int, ki_none_int, ki_str_int, ki_list_int, ki_tuple_int, ki_int_bool, ki_bool_bool, ki_none_bool, ki_str_bool, ki_list_bool, ki_tuple_bool, zMakeV, tRz, zNever]
        refine ⟨t, _, rfl, SqT.of upd_same, rfl, _, _, rfl, _, _, rfl, rfl, ?_⟩
        unfold t_L_bag_3b_1
        simp only [tSeq, tAsg, tIfS, tRet, tRetN, tDrop, tNext, tPar, tPar3, gName, gSub, gTup, gCons, gNil, zV, tC, tOp, tUn, tCons, tNil, tLst, tTup, tIf, tAnd, tOr, tNot, tYes, zB, zAnd, zOr, zNot, zChain, tDNewK, yAdd, ySub, yMul, yDiv, yMod, yPow, yNeg, yLt, yLe, yGt, yGe, yEq, yNe, yIs0, yNotIs0, yIx, ySet, yIn, sqAt, isNone, zFld, zSetF, insAt, zMeth, zProp, tCall, tMake, tCB, yLen, yAbs, yMax2, yMin2, yList, yTuple, yDict0, zLM, yApp, isLst, dkAt, keyOf, zGet1, zGet2, zPop1, zPop2, zForR1, zForR2, zForL, zForT, Z.intAt, refAt, zLc, iR1, iR2, iL, iT, wipe, List.getElem?_cons_zero, List.getElem?_cons_succ, List.set_cons_zero, List.set_cons_succ, List.cons_append, List.nil_append, List.append_nil, upd_same, at0, at1, at2, ix0, ix1, ix2, upd_upd, ite_true, ite_false, if_true, if_false, Bool.false_eq_true, decide_true, decide_false, reduceIte, true_and, and_true, Option.isSome_none, Option.isSome_some, Bool.not_false, Bool.not_true, zTupA, zLstA, yAddA, yMulA, sliceA, zS2A, zSAA, zSBA, yListA, yTupleA, zForE, yNeO, yReprB, tMakeN, zSlA, zSlB, wOnly, tCallN, zForR3, zMatch, zCase, zMethS, zRaiseO, yPopAt, zSl2, yIsiT, tysAt, zBInit, zOst, tXf, wAs, tMkO, zFmt, zJs, zJoin, yStr1, gLst, zCM, zListR1, zListR2, zLenR1, iR3, yInt1, yEqO, yAndO, yInO, yLenO, yReprO, isBl, Z.strAt, yEq0, yNe0, GF.zForG, GF.zLcG, GF.zListG, yIsi, tyAt, clsAt, ki_int_int, ki_bool_int, ki_none_int, ki_str_int, ki_list_int, ki_tuple_int, ki_int_bool, ki_bool_bool, ki_none_bool, ki_str_bool, ki_list_bool, ki_tuple_bool, zMakeV, tRz, zNever]
        refine ⟨.inl ⟨by omega, by omega⟩, by decide, .inl ⟨by decide, by decide⟩, by decide, _, _, _, rfl, Int.emod_nonneg _ (by decide), Int.emod_lt_of_pos _ (by decide), s.trans (Same.new ht)⟩
    · rintro σ H' ⟨M, v4, v5, rfl, m0, m1, s⟩
      unfold t_L_bag_4
      simp only [tSeq, tAsg, tIfS, tRet, tRetN, tDrop, tNext, tPar, tPar3, gName, gSub, gTup, gCons, gNil, zV, tC, tOp, tUn, tCons, tNil, tLst, tTup, tIf, tAnd, tOr, tNot, tYes, zB, zAnd, zOr, zNot, zChain, tDNewK, yAdd, ySub, yMul, yDiv, yMod, yPow, yNeg, yLt, yLe, yGt, yGe, yEq, yNe, yIs0, yNotIs0, yIx, ySet, yIn, sqAt, isNone, zFld, zSetF, insAt, zMeth, zProp, tCall, tMake, tCB, yLen, yAbs, yMax2, yMin2, yList, yTuple, yDict0, zLM, yApp, isLst, dkAt, keyOf, zGet1, zGet2, zPop1, zPop2, zForR1, zForR2, zForL, zForT, Z.intAt, refAt, zLc, iR1, iR2, iL, iT, wipe, List.getElem?_cons_zero, List.getElem?_cons_succ, List.set_cons_zero, List.set_cons_succ, List.cons_append, List.nil_append, List.append_nil, upd_same, at0, at1, at2, ix0, ix1, ix2, upd_upd, ite_true, ite_false, if_true, if_false, Bool.false_eq_true, decide_true, decide_false, reduceIte, true_and, and_true, Option.isSome_none, Option.isSome_some, Bool.not_false, Bool.not_true, zTupA, zLstA, yAddA, yMulA, sliceA, zS2A, zSAA, zSBA, yListA, yTupleA, zForE, yNeO, yReprB, tMakeN, zSlA, zSlB, wOnly, tCallN, zForR3, zMatch, zCase, zMethS, zRaiseO, yPopAt, zSl2, yIsiT, tysAt, zBInit, zOst, tXf, wAs, tMkO, zFmt, zJs, zJoin, yStr1, gLst, zCM, zListR1, zListR2, zLenR1, iR3, yInt1, yEqO, yAndO, yInO, yLenO, yReprO, isBl, Z.strAt, yEq0, yNe0, GF.zForG, GF.zLcG, GF.zListG, yIsi, tyAt, clsAt, ki_int_int, ki_bool_int, ki_none_int, ki_str_int, ki_list_int, ki_tuple_int, ki_int_bool, ki_bool_bool, ki_none_bool, ki_str_bool, ki_list_bool, ki_tuple_bool, zMakeV, tRz, zNever]
      have fin : ∀ L : Int, 0 ≤ L → 2 ≤ sizeLine ∧ newA (.lst [.int L, .int M]) H' Q := fun L hL => ⟨by omega, fun l H2 hl s2 h2 => k l _ _ ((s1.trans s).free hl) ((s1.trans s).trans s2) h2 ⟨L, M, rfl, hL, m0, m1⟩⟩
      refine ⟨⟨by decide, by decide, by decide⟩, ?_⟩
      by_cases hb : (10 : Int) ^ Int.toNat 18 ≤ (if N < 0 then -N else N)
      · simp only [tSeq, tAsg, tIfS, tRet, tRetN, tDrop, tNext, tPar, tPar3, gName, gSub, gTup, gCons, gNil, zV, tC, tOp, tUn, tCons, tNil, tLst, tTup, tIf, tAnd, tOr, tNot, tYes, zB, zAnd, zOr, zNot, zChain, tDNewK, yAdd, ySub, yMul, yDiv, yMod, yPow, yNeg, yLt, yLe, yGt, yGe, yEq, yNe, yIs0, yNotIs0, yIx, ySet, yIn, sqAt, isNone, zFld, zSetF, insAt, zMeth, zProp, tCall, tMake, tCB, yLen, yAbs, yMax2, yMin2, yList, yTuple, yDict0, zLM, yApp, isLst, dkAt, keyOf, zGet1, zGet2, zPop1, zPop2, zForR1, zForR2, zForL, zForT, Z.intAt, refAt, zLc, iR1, iR2, iL, iT, wipe, List.getElem?_cons_zero, List.getElem?_cons_succ, List.set_cons_zero, List.set_cons_succ, List.cons_append, List.nil_append, List.append_nil, upd_same, at0, at1, at2, ix0, ix1, ix2, upd_upd, ite_true, ite_false, if_true, if_false, Bool.false_eq_true, decide_true, decide_false, reduceIte, true_and, and_true, Option.isSome_none, Option.isSome_some, Bool.not_false, Bool.not_true, zTupA, zLstA, yAddA, yMulA, sliceA, zS2A, zSAA, zSBA, yListA, yTupleA, zForE, yNeO, yReprB, tMakeN, zSlA, zSlB, wOnly, tCallN, zForR3, zMatch, zCase, zMethS, zRaiseO, yPopAt, zSl2, yIsiT, tysAt, zBInit, zOst, tXf, wAs, tMkO, zFmt, zJs, zJoin, yStr1, gLst, zCM, zListR1, zListR2, zLenR1, iR3, yInt1, yEqO, yAndO, yInO, yLenO, yReprO, isBl, Z.strAt, yEq0, yNe0, GF.zForG, GF.zLcG, GF.zListG, yIsi, tyAt, clsAt, ki_int_int, ki_bool_int, ki_none_int, ki_str_int, ki_list_int, ki_tuple_int, ki_int_bool, ki_bool_bool, ki_none_bool, ki_str_bool, ki_list_bool, ki_tuple_bool, zMakeV, tRz, zNever, hb]
        exact fin _ (by split <;> omega)
      · simp only [tSeq, tAsg, tIfS, tRet, tRetN, tDrop, tNext, tPar, tPar3, gName, gSub, gTup, gCons, gNil, zV, tC, tOp, tUn, tCons, tNil, tLst, tTup, tIf, tAnd, tOr, tNot, tYes, zB, zAnd, zOr, zNot, zChain, tDNewK, yAdd, ySub, yMul, yDiv, yMod, yPow, yNeg, yLt, yLe, yGt, yGe, yEq, yNe, yIs0, yNotIs0, yIx, ySet, yIn, sqAt, isNone, zFld, zSetF, insAt, zMeth, zProp, tCall, tMake, tCB, yLen, yAbs, yMax2, yMin2, yList, yTuple, yDict0, zLM, yApp, isLst, dkAt, keyOf, zGet1, zGet2, zPop1, zPop2, zForR1, zForR2, zForL, zForT, Z.intAt, refAt, zLc, iR1, iR2, iL, iT, wipe, List.getElem?_cons_zero, List.getElem?_cons_succ, List.set_cons_zero, List.set_cons_succ, List.cons_append, List.nil_append, List.append_nil, upd_same, at0, at1, at2, ix0, ix1, ix2, upd_upd, ite_true, ite_false, if_true, if_false, Bool.false_eq_true, decide_true, decide_false, reduceIte, true_and, and_true, Option.isSome_none, Option.isSome_some, Bool.not_false, Bool.not_true, zTupA, zLstA, yAddA, yMulA, sliceA, zS2A, zSAA, zSBA, yListA, yTupleA, zForE, yNeO, yReprB, tMakeN, zSlA, zSlB, wOnly, tCallN, zForR3, zMatch, zCase, zMethS, zRaiseO, yPopAt, zSl2, yIsiT, tysAt, zBInit, zOst, tXf, wAs, tMkO, zFmt, zJs, zJoin, yStr1, gLst, zCM, zListR1, zListR2, zLenR1, iR3, yInt1, yEqO, yAndO, yInO, yLenO, yReprO, isBl, Z.strAt, yEq0, yNe0, GF.zForG, GF.zLcG, GF.zListG, yIsi, tyAt, clsAt, ki_int_int, ki_bool_int, ki_none_int, ki_str_int, ki_list_int, ki_tuple_int, ki_int_bool, ki_bool_bool, ki_none_bool, ki_str_bool, ki_list_bool, ki_tuple_bool, zMakeV, tRz, zNever, hb]
        exact fin 0 (by decide)
  unfold t_L_bag_1
  simp only [tSeq, tAsg, tIfS, tRet, tRetN, tDrop, tNext, tPar, tPar3, gName, gSub, gTup, gCons, gNil, zV, tC, tOp, tUn, tCons, tNil, tLst, tTup, tIf, tAnd, tOr, tNot, tYes, zB, zAnd, zOr, zNot, zChain, tDNewK, yAdd, ySub, yMul, yDiv, yMod, yPow, yNeg, yLt, yLe, yGt, yGe, yEq, yNe, yIs0, yNotIs0, yIx, ySet, yIn, sqAt, isNone, zFld, zSetF, insAt, zMeth, zProp, tCall, tMake, tCB, yLen, yAbs, yMax2, yMin2, yList, yTuple, yDict0, zLM, yApp, isLst, dkAt, keyOf, zGet1, zGet2, zPop1, zPop2, zForR1, zForR2, zForL, zForT, Z.intAt, refAt, zLc, iR1, iR2, iL, iT, wipe, List.getElem?_cons_zero, List.getElem?_cons_succ, List.set_cons_zero, List.set_cons_succ, List.cons_append, List.nil_append, List.append_nil, upd_same, at0, at1, at2, ix0, ix1, ix2, upd_upd, ite_true, ite_false, if_true, if_false, Bool.false_eq_true, decide_true, decide_false, reduceIte, true_and, and_true, Option.isSome_none, Option.isSome_some, Bool.not_false, Bool.not_true, zTupA, zLstA, yAddA, yMulA, sliceA, zS2A, zSAA, zSBA, yListA, yTupleA, zForE, yNeO, yReprB, tMakeN, zSlA, zSlB, wOnly, tCallN, zForR3, zMatch, zCase, zMethS, zRaiseO, yPopAt, zSl2, yIsiT, tysAt, zBInit, zOst, tXf, wAs, tMkO, zFmt, zJs, zJoin, yStr1, gLst, zCM, zListR1, zListR2, zLenR1, iR3, yInt1, yEqO, yAndO, yInO, yLenO, yReprO, isBl, Z.strAt, yEq0, yNe0, GF.zForG, GF.zLcG, GF.zListG, yIsi, tyAt, clsAt, ki_int_int, ki_bool_int, ki_none_int, ki_str_int, ki_list_int, ki_tuple_int, ki_int_bool, ki_bool_bool, ki_none_bool, ki_str_bool, ki_list_bool, ki_tuple_bool, zMakeV, tRz, zNever]
  refine ⟨a, _, rfl, hS, ?_⟩
  by_cases hi : i < ((ns.map V.int).length : Int)
  · simp only [tSeq, tAsg, tIfS, tRet, tRetN, tDrop, tNext, tPar, tPar3, gName, gSub, gTup, gCons, gNil, zV, tC, tOp, tUn, tCons, tNil, tLst, tTup, tIf, tAnd, tOr, tNot, tYes, zB, zAnd, zOr, zNot, zChain, tDNewK, yAdd, ySub, yMul, yDiv, yMod, yPow, yNeg, yLt, yLe, yGt, yGe, yEq, yNe, yIs0, yNotIs0, yIx, ySet, yIn, sqAt, isNone, zFld, zSetF, insAt, zMeth, zProp, tCall, tMake, tCB, yLen, yAbs, yMax2, yMin2, yList, yTuple, yDict0, zLM, yApp, isLst, dkAt, keyOf, zGet1, zGet2, zPop1, zPop2, zForR1, zForR2, zForL, zForT, Z.intAt, refAt, zLc, iR1, iR2, iL, iT, wipe, List.getElem?_cons_zero, List.getElem?_cons_succ, List.set_cons_zero, List.set_cons_succ, List.cons_append, List.nil_append, List.append_nil, upd_same, at0, at1, at2, ix0, ix1, ix2, upd_upd, ite_true, ite_false, if_true, if_false, Bool.false_eq_true, decide_true, decide_false, reduceIte, true_and, and_true, Option.isSome_none, Option.isSome_some, Bool.not_false, Bool.not_true, zTupA, zLstA, yAddA, yMulA, sliceA, zS2A, zSAA, zSBA, yListA, yTupleA, zForE, yNeO, yReprB, tMakeN, zSlA, zSlB, wOnly, tCallN, zForR3, zMatch, zCase, zMethS, zRaiseO, yPopAt, zSl2, yIsiT, tysAt, zBInit, zOst, tXf, wAs, tMkO, zFmt, zJs, zJoin, yStr1, gLst, zCM, zListR1, zListR2, zLenR1, iR3, yInt1, yEqO, yAndO, yInO, yLenO, yReprO, isBl, Z.strAt, yEq0, yNe0, GF.zForG, GF.zLcG, GF.zListG, yIsi, tyAt, clsAt, ki_int_int, ki_bool_int, ki_none_int, ki_str_int, ki_list_int, ki_tuple_int, ki_int_bool, ki_bool_bool, ki_none_bool, ki_str_bool, ki_list_bool, ki_tuple_bool, zMakeV, tRz, zNever, hi]
    obtain ⟨j, rfl⟩ : ∃ j : Nat, i = (j : Int) := ⟨i.toNat, by omega⟩
    have hj : j < ns.length := by rw [List.length_map] at hi; omega
    exact ⟨a, _, _, _, rfl, rfl, hS, atI_nat (by rw [List.getElem?_map, List.getElem?_eq_getElem hj]; rfl), key _⟩
  · simp only [tSeq, tAsg, tIfS, tRet, tRetN, tDrop, tNext, tPar, tPar3, gName, gSub, gTup, gCons, gNil, zV, tC, tOp, tUn, tCons, tNil, tLst, tTup, tIf, tAnd, tOr, tNot, tYes, zB, zAnd, zOr, zNot, zChain, tDNewK, yAdd, ySub, yMul, yDiv, yMod, yPow, yNeg, yLt, yLe, yGt, yGe, yEq, yNe, yIs0, yNotIs0, yIx, ySet, yIn, sqAt, isNone, zFld, zSetF, insAt, zMeth, zProp, tCall, tMake, tCB, yLen, yAbs, yMax2, yMin2, yList, yTuple, yDict0, zLM, yApp, isLst, dkAt, keyOf, zGet1, zGet2, zPop1, zPop2, zForR1, zForR2, zForL, zForT, Z.intAt, refAt, zLc, iR1, iR2, iL, iT, wipe, List.getElem?_cons_zero, List.getElem?_cons_succ, List.set_cons_zero, List.set_cons_succ, List.cons_append, List.nil_append, List.append_nil, upd_same, at0, at1, at2, ix0, ix1, ix2, upd_upd, ite_true, ite_false, if_true, if_false, Bool.false_eq_true, decide_true, decide_false, reduceIte, true_and, and_true, Option.isSome_none, Option.isSome_some, Bool.not_false, Bool.not_true, zTupA, zLstA, yAddA, yMulA, sliceA, zS2A, zSAA, zSBA, yListA, yTupleA, zForE, yNeO, yReprB, tMakeN, zSlA, zSlB, wOnly, tCallN, zForR3, zMatch, zCase, zMethS, zRaiseO, yPopAt, zSl2, yIsiT, tysAt, zBInit, zOst, tXf, wAs, tMkO, zFmt, zJs, zJoin, yStr1, gLst, zCM, zListR1, zListR2, zLenR1, iR3, yInt1, yEqO, yAndO, yInO, yLenO, yReprO, isBl, Z.strAt, yEq0, yNe0, GF.zForG, GF.zLcG, GF.zListG, yIsi, tyAt, clsAt, ki_int_int, ki_bool_int, ki_none_int, ki_str_int, ki_list_int, ki_tuple_int, ki_int_bool, ki_bool_bool, ki_none_bool, ki_str_bool, ki_list_bool, ki_tuple_bool, zMakeV, tRz, zNever, hi]
    exact key _
theorem rd_L_of {K : PySem.W.Frag} {mg : Str → Option Value} (T : Top K mg) : ∀ vs H Q E, sp_L_of K vs H Q E → t_L_of K { nx := fun _ H' => Q .non H', rt := Q } (start nm_L_of vs) H := by
  rintro vs H Q E ⟨b, l, o, xs, rfl, hb, ho, hl, ne, len, nbl, k⟩
  rw [start_L_of]
  unfold t_L_of t_L_of_1
  have hp : 0 < xs.length := List.length_pos_iff.mpr ne
  simp only [tSeq, tAsg, tIfS, tRet, tRetN, tDrop, tNext, tPar, tPar3, gName, gSub, gTup, gCons, gNil, zV, tC, tOp, tUn, tCons, tNil, tLst, tTup, tIf, tAnd, tOr, tNot, tYes, zB, zAnd, zOr, zNot, zChain, tDNewK, yAdd, ySub, yMul, yDiv, yMod, yPow, yNeg, yLt, yLe, yGt, yGe, yEq, yNe, yIs0, yNotIs0, yIx, ySet, yIn, sqAt, isNone, zFld, zSetF, insAt, zMeth, zProp, tCall, tMake, tCB, yLen, yAbs, yMax2, yMin2, yList, yTuple, yDict0, zLM, yApp, isLst, dkAt, keyOf, zGet1, zGet2, zPop1, zPop2, zForR1, zForR2, zForL, zForT, Z.intAt, refAt, zLc, iR1, iR2, iL, iT, wipe, List.getElem?_cons_zero, List.getElem?_cons_succ, List.set_cons_zero, List.set_cons_succ, List.cons_append, List.nil_append, List.append_nil, upd_same, at0, at1, at2, ix0, ix1, ix2, upd_upd, ite_true, ite_false, if_true, if_false, Bool.false_eq_true, decide_true, decide_false, reduceIte, true_and, and_true, Option.isSome_none, Option.isSome_some, Bool.not_false, Bool.not_true, zTupA, zLstA, yAddA, yMulA, sliceA, zS2A, zSAA, zSBA, yListA, yTupleA, zForE, yNeO, yReprB, tMakeN, zSlA, zSlB, wOnly, tCallN, zForR3, zMatch, zCase, zMethS, zRaiseO, yPopAt, zSl2, yIsiT, tysAt, zBInit, zOst, tXf, wAs, tMkO, zFmt, zJs, zJoin, yStr1, gLst, zCM, zListR1, zListR2, zLenR1, iR3, yInt1, yEqO, yAndO, yInO, yLenO, yReprO, isBl, Z.strAt, yEq0, yNe0, GF.zForG, GF.zLcG, GF.zListG, yIsi, tyAt, clsAt, ki_int_int, ki_bool_int, ki_none_int, ki_str_int, ki_list_int, ki_tuple_int, ki_int_bool, ki_bool_bool, ki_none_bool, ki_str_bool, ki_list_bool, ki_tuple_bool, zMakeV, tRz, zNever, hl]
  refine use_take hb ho (by omega) (by omega) fun d o' d0 d1 ho' => ?_
  obtain ⟨j, rfl⟩ : ∃ j : Nat, d = (j : Int) := ⟨d.toNat, by omega⟩
  have hj : j < xs.length := by omega
  simp only [tSeq, tAsg, tIfS, tRet, tRetN, tDrop, tNext, tPar, tPar3, gName, gSub, gTup, gCons, gNil, zV, tC, tOp, tUn, tCons, tNil, tLst, tTup, tIf, tAnd, tOr, tNot, tYes, zB, zAnd, zOr, zNot, zChain, tDNewK, yAdd, ySub, yMul, yDiv, yMod, yPow, yNeg, yLt, yLe, yGt, yGe, yEq, yNe, yIs0, yNotIs0, yIx, ySet, yIn, sqAt, isNone, zFld, zSetF, insAt, zMeth, zProp, tCall, tMake, tCB, yLen, yAbs, yMax2, yMin2, yList, yTuple, yDict0, zLM, yApp, isLst, dkAt, keyOf, zGet1, zGet2, zPop1, zPop2, zForR1, zForR2, zForL, zForT, Z.intAt, refAt, zLc, iR1, iR2, iL, iT, wipe, List.getElem?_cons_zero, List.getElem?_cons_succ, List.set_cons_zero, List.set_cons_succ, List.cons_append, List.nil_append, List.append_nil, upd_same, at0, at1, at2, ix0, ix1, ix2, upd_upd, ite_true, ite_false, if_true, if_false, Bool.false_eq_true, decide_true, decide_false, reduceIte, true_and, and_true, Option.isSome_none, Option.isSome_some, Bool.not_false, Bool.not_true, zTupA, zLstA, yAddA, yMulA, sliceA, zS2A, zSAA, zSBA, yListA, yTupleA, zForE, yNeO, yReprB, tMakeN, zSlA, zSlB, wOnly, tCallN, zForR3, zMatch, zCase, zMethS, zRaiseO, yPopAt, zSl2, yIsiT, tysAt, zBInit, zOst, tXf, wAs, tMkO, zFmt, zJs, zJoin, yStr1, gLst, zCM, zListR1, zListR2, zLenR1, iR3, yInt1, yEqO, yAndO, yInO, yLenO, yReprO, isBl, Z.strAt, yEq0, yNe0, GF.zForG, GF.zLcG, GF.zListG, yIsi, tyAt, clsAt, ki_int_int, ki_bool_int, ki_none_int, ki_str_int, ki_list_int, ki_tuple_int, ki_int_bool, ki_bool_bool, ki_none_bool, ki_str_bool, ki_list_bool, ki_tuple_bool, zMakeV, tRz, zNever, upd_ne nbl.symm, hl, atI_nat (List.getElem?_eq_getElem hj)]
  exact k _ (List.getElem_mem hj) o' ho'

/-! ### data: duties -/
theorem DpAll.one {K : PySem.W.Frag} {H : Hp} {v : V} {vs : List V} {d : PyData} {ds : List PyData} (h : DpAll K H (v :: vs) (d :: ds)) : Dp K H v d ∧ DpAll K H vs ds := by
  cases h with
  | cons a b => exact ⟨a, b⟩
theorem dpAll_strs {K : PySem.W.Frag} {H : Hp} : ∀ {vs : List V} {zs : List Str}, DpAll K H vs (zs.map PyData.str) → vs = zs.map V.str
  | [], [], _ => rfl
  | [], _ :: _, h => by cases h
  | _ :: _, [], h => by cases h
  | v :: vs, z :: zs, h => by
    obtain ⟨a, b⟩ := DpAll.one h
    cases a
    rw [dpAll_strs b]
    rfl
theorem strs_dpAll {K : PySem.W.Frag} {H : Hp} : ∀ (zs : List Str), DpAll K H (zs.map V.str) (zs.map PyData.str)
  | [] => .nil
  | z :: zs => .cons (.str z) (strs_dpAll zs)
theorem duty_sq {K : PySem.W.Frag} {H : Hp} {v : V} {ds : List Str} (h : Dp K H v (dutyD ds)) : ∃ a, v = .ref a ∧ SqT K H a (ds.map V.str) := by
  unfold dutyD at h
  cases h with
  | tup hs ha => exact ⟨_, rfl, by rw [← dpAll_strs ha]; exact hs⟩
theorem duty_of {K : PySem.W.Frag} {H : Hp} {a : Addr} {ds : List Str} (h : SqT K H a (ds.map V.str)) : Dp K H (.ref a) (dutyD ds) := Dp.tup h (strs_dpAll ds)
theorem ways_ok {z : Str} (h : z ∈ Ways) : PyData.strOk z = true := by
  have all : ∀ z ∈ Ways, PyData.strOk z = true := by decide +kernel
  exact all z h
theorem DOk.mem {ds : List Str} (h : DOk ds) {z : Str} (hz : z ∈ ds) : z ∈ Ways := by
  unfold DOk at h
  rw [h] at hz
  exact (List.mem_filter.mp hz).1
theorem DOk.ok {ds : List Str} (h : DOk ds) : ∀ z ∈ ds, PyData.strOk z = true := fun z hz => ways_ok (h.mem hz)
theorem strs_shaped {zs : List Str} (hz : ∀ z ∈ zs, PyData.strOk z = true) : SeqAt.shaped (.list (zs.map PyData.str)) = true := by
  refine shaped_of (n := 1) (lay_list fun x hx => ?_) (depth_list (n := 0) fun x hx => ?_) (by decide)
  · obtain ⟨y, hy, rfl⟩ := List.mem_map.mp hx
    simp only [PyData.canLay0]
    exact hz y hy
  · obtain ⟨y, _, rfl⟩ := List.mem_map.mp hx
    simp only [PyData.depth]
    decide
theorem sqT_ty {K : PySem.W.Frag} {H : Hp} {a : Addr} {xs : List V} (h : SqT K H a xs) : TyX K H (.ref a) (.type "tuple") := by
  rcases h with (h | ⟨o, h⟩) | ⟨o, its, n, e, h1, _⟩
  · exact .base (.tup h)
  · exact .fTuple h
  · exact .kTuple e h1
theorem inV_strs (z : Str) (zs : List Str) : inV (.str z) (zs.map V.str) = zs.contains z := by
  unfold inV
  rw [List.any_map]
  refine Bool.eq_iff_iff.mpr ?_
  rw [List.any_eq_true, List.contains_iff_mem]
  constructor
  · rintro ⟨y, hy, e⟩
    have e2 : y = z := by simpa [eqV] using e
    rw [← e2]
    exact hy
  · intro h
    exact ⟨z, h, by simp [eqV]⟩
theorem flat_strs (zs : List Str) : (zs.map V.str).all flatV = true := by
  rw [List.all_map, List.all_eq_true]
  exact fun _ _ => rfl
theorem ki_str_str {K : PySem.W.Frag} : PySem.W.kitOne K (.type "str") (.type "str") = some true := kit_ty (by decide +kernel)
theorem ki_tt {K : PySem.W.Frag} : PySem.W.kitOne K (.type "tuple") (.type "tuple") = some true := kit_ty (by decide +kernel)
theorem rd_is_integer {K : PySem.W.Frag} {mg : Str → Option Value} (T : Top K mg) : ∀ vs H Q E, sp_is_integer K vs H Q E → t_is_integer K { nx := fun _ H' => Q .non H', rt := Q } (start nm_is_integer vs) H := by
  rintro vs H Q E ⟨i, rfl, q⟩
  rw [start_is_integer]
  unfold t_is_integer t_is_integer_1
  simp only [tSeq, tAsg, tIfS, tRet, tRetN, tDrop, tNext, tPar, tPar3, gName, gSub, gTup, gCons, gNil, zV, tC, tOp, tUn, tCons, tNil, tLst, tTup, tIf, tAnd, tOr, tNot, tYes, zB, zAnd, zOr, zNot, zChain, tDNewK, yAdd, ySub, yMul, yDiv, yMod, yPow, yNeg, yLt, yLe, yGt, yGe, yEq, yNe, yIs0, yNotIs0, yIx, ySet, yIn, sqAt, isNone, zFld, zSetF, insAt, zMeth, zProp, tCall, tMake, tCB, yLen, yAbs, yMax2, yMin2, yList, yTuple, yDict0, zLM, yApp, isLst, dkAt, keyOf, zGet1, zGet2, zPop1, zPop2, zForR1, zForR2, zForL, zForT, Z.intAt, refAt, zLc, iR1, iR2, iL, iT, wipe, List.getElem?_cons_zero, List.getElem?_cons_succ, List.set_cons_zero, List.set_cons_succ, List.cons_append, List.nil_append, List.append_nil, upd_same, at0, at1, at2, ix0, ix1, ix2, upd_upd, ite_true, ite_false, if_true, if_false, Bool.false_eq_true, decide_true, decide_false, reduceIte, true_and, and_true, Option.isSome_none, Option.isSome_some, Bool.not_false, Bool.not_true, zTupA, zLstA, yAddA, yMulA, sliceA, zS2A, zSAA, zSBA, yListA, yTupleA, zForE, yNeO, yReprB, tMakeN, zSlA, zSlB, wOnly, tCallN, zForR3, zMatch, zCase, zMethS, zRaiseO, yPopAt, zSl2, yIsiT, tysAt, zBInit, zOst, tXf, wAs, tMkO, zFmt, zJs, zJoin, yStr1, gLst, zCM, zListR1, zListR2, zLenR1, iR3, yInt1, yEqO, yAndO, yInO, yLenO, yReprO, isBl, Z.strAt, yEq0, yNe0, GF.zForG, GF.zLcG, GF.zListG, yIsi, tyAt, clsAt, ki_int_int, ki_bool_int, ki_none_int, ki_str_int, ki_list_int, ki_tuple_int, ki_int_bool, ki_bool_bool, ki_none_bool, ki_str_bool, ki_list_bool, ki_tuple_bool, zMakeV, tRz, zNever]
  exact q
theorem rd_is_from_to {K : PySem.W.Frag} {mg : Str → Option Value} (T : Top K mg) : ∀ vs H Q E, sp_is_from_to K vs H Q E → t_is_from_to K { nx := fun _ H' => Q .non H', rt := Q } (start nm_is_from_to vs) H := by
  rintro vs H Q E ⟨n, lo, hi, rfl, h1, h2, q⟩
  rw [start_is_from_to]
  unfold t_is_from_to t_is_from_to_1
  simp only [tSeq, tAsg, tIfS, tRet, tRetN, tDrop, tNext, tPar, tPar3, gName, gSub, gTup, gCons, gNil, zV, tC, tOp, tUn, tCons, tNil, tLst, tTup, tIf, tAnd, tOr, tNot, tYes, zB, zAnd, zOr, zNot, zChain, tDNewK, yAdd, ySub, yMul, yDiv, yMod, yPow, yNeg, yLt, yLe, yGt, yGe, yEq, yNe, yIs0, yNotIs0, yIx, ySet, yIn, sqAt, isNone, zFld, zSetF, insAt, zMeth, zProp, tCall, tMake, tCB, yLen, yAbs, yMax2, yMin2, yList, yTuple, yDict0, zLM, yApp, isLst, dkAt, keyOf, zGet1, zGet2, zPop1, zPop2, zForR1, zForR2, zForL, zForT, Z.intAt, refAt, zLc, iR1, iR2, iL, iT, wipe, List.getElem?_cons_zero, List.getElem?_cons_succ, List.set_cons_zero, List.set_cons_succ, List.cons_append, List.nil_append, List.append_nil, upd_same, at0, at1, at2, ix0, ix1, ix2, upd_upd, ite_true, ite_false, if_true, if_false, Bool.false_eq_true, decide_true, decide_false, reduceIte, true_and, and_true, Option.isSome_none, Option.isSome_some, Bool.not_false, Bool.not_true, zTupA, zLstA, yAddA, yMulA, sliceA, zS2A, zSAA, zSBA, yListA, yTupleA, zForE, yNeO, yReprB, tMakeN, zSlA, zSlB, wOnly, tCallN, zForR3, zMatch, zCase, zMethS, zRaiseO, yPopAt, zSl2, yIsiT, tysAt, zBInit, zOst, tXf, wAs, tMkO, zFmt, zJs, zJoin, yStr1, gLst, zCM, zListR1, zListR2, zLenR1, iR3, yInt1, yEqO, yAndO, yInO, yLenO, yReprO, isBl, Z.strAt, yEq0, yNe0, GF.zForG, GF.zLcG, GF.zListG, yIsi, tyAt, clsAt, ki_int_int, ki_bool_int, ki_none_int, ki_str_int, ki_list_int, ki_tuple_int, ki_int_bool, ki_bool_bool, ki_none_bool, ki_str_bool, ki_list_bool, ki_tuple_bool, zMakeV, tRz, zNever]
  refine ⟨n, rfl, ?_⟩
  simp only [tSeq, tAsg, tIfS, tRet, tRetN, tDrop, tNext, tPar, tPar3, gName, gSub, gTup, gCons, gNil, zV, tC, tOp, tUn, tCons, tNil, tLst, tTup, tIf, tAnd, tOr, tNot, tYes, zB, zAnd, zOr, zNot, zChain, tDNewK, yAdd, ySub, yMul, yDiv, yMod, yPow, yNeg, yLt, yLe, yGt, yGe, yEq, yNe, yIs0, yNotIs0, yIx, ySet, yIn, sqAt, isNone, zFld, zSetF, insAt, zMeth, zProp, tCall, tMake, tCB, yLen, yAbs, yMax2, yMin2, yList, yTuple, yDict0, zLM, yApp, isLst, dkAt, keyOf, zGet1, zGet2, zPop1, zPop2, zForR1, zForR2, zForL, zForT, Z.intAt, refAt, zLc, iR1, iR2, iL, iT, wipe, List.getElem?_cons_zero, List.getElem?_cons_succ, List.set_cons_zero, List.set_cons_succ, List.cons_append, List.nil_append, List.append_nil, upd_same, at0, at1, at2, ix0, ix1, ix2, upd_upd, ite_true, ite_false, if_true, if_false, Bool.false_eq_true, decide_true, decide_false, reduceIte, true_and, and_true, Option.isSome_none, Option.isSome_some, Bool.not_false, Bool.not_true, zTupA, zLstA, yAddA, yMulA, sliceA, zS2A, zSAA, zSBA, yListA, yTupleA, zForE, yNeO, yReprB, tMakeN, zSlA, zSlB, wOnly, tCallN, zForR3, zMatch, zCase, zMethS, zRaiseO, yPopAt, zSl2, yIsiT, tysAt, zBInit, zOst, tXf, wAs, tMkO, zFmt, zJs, zJoin, yStr1, gLst, zCM, zListR1, zListR2, zLenR1, iR3, yInt1, yEqO, yAndO, yInO, yLenO, yReprO, isBl, Z.strAt, yEq0, yNe0, GF.zForG, GF.zLcG, GF.zListG, yIsi, tyAt, clsAt, ki_int_int, ki_bool_int, ki_none_int, ki_str_int, ki_list_int, ki_tuple_int, ki_int_bool, ki_bool_bool, ki_none_bool, ki_str_bool, ki_list_bool, ki_tuple_bool, zMakeV, tRz, zNever, decide_eq_true h1, decide_eq_true h2]
  exact q
theorem rd_is_word_of {K : PySem.W.Frag} {mg : Str → Option Value} (T : Top K mg) : ∀ vs H Q E, sp_is_word_of K vs H Q E → t_is_word_of K { nx := fun _ H' => Q .non H', rt := Q } (start nm_is_word_of vs) H := by
  rintro vs H Q E ⟨z, a, zs, rfl, hs, hz, q⟩
  rw [start_is_word_of]
  unfold t_is_word_of t_is_word_of_1
  simp only [tSeq, tAsg, tIfS, tRet, tRetN, tDrop, tNext, tPar, tPar3, gName, gSub, gTup, gCons, gNil, zV, tC, tOp, tUn, tCons, tNil, tLst, tTup, tIf, tAnd, tOr, tNot, tYes, zB, zAnd, zOr, zNot, zChain, tDNewK, yAdd, ySub, yMul, yDiv, yMod, yPow, yNeg, yLt, yLe, yGt, yGe, yEq, yNe, yIs0, yNotIs0, yIx, ySet, yIn, sqAt, isNone, zFld, zSetF, insAt, zMeth, zProp, tCall, tMake, tCB, yLen, yAbs, yMax2, yMin2, yList, yTuple, yDict0, zLM, yApp, isLst, dkAt, keyOf, zGet1, zGet2, zPop1, zPop2, zForR1, zForR2, zForL, zForT, Z.intAt, refAt, zLc, iR1, iR2, iL, iT, wipe, List.getElem?_cons_zero, List.getElem?_cons_succ, List.set_cons_zero, List.set_cons_succ, List.cons_append, List.nil_append, List.append_nil, upd_same, at0, at1, at2, ix0, ix1, ix2, upd_upd, ite_true, ite_false, if_true, if_false, Bool.false_eq_true, decide_true, decide_false, reduceIte, true_and, and_true, Option.isSome_none, Option.isSome_some, Bool.not_false, Bool.not_true, zTupA, zLstA, yAddA, yMulA, sliceA, zS2A, zSAA, zSBA, yListA, yTupleA, zForE, yNeO, yReprB, tMakeN, zSlA, zSlB, wOnly, tCallN, zForR3, zMatch, zCase, zMethS, zRaiseO, yPopAt, zSl2, yIsiT, tysAt, zBInit, zOst, tXf, wAs, tMkO, zFmt, zJs, zJoin, yStr1, gLst, zCM, zListR1, zListR2, zLenR1, iR3, yInt1, yEqO, yAndO, yInO, yLenO, yReprO, isBl, Z.strAt, yEq0, yNe0, GF.zForG, GF.zLcG, GF.zListG, yIsi, tyAt, clsAt, ki_int_int, ki_bool_int, ki_none_int, ki_str_int, ki_list_int, ki_tuple_int, ki_int_bool, ki_bool_bool, ki_none_bool, ki_str_bool, ki_list_bool, ki_tuple_bool, zMakeV, tRz, zNever, ki_str_str]
  refine ⟨a, _, rfl, .inr hs, rfl, flat_strs zs, ?_⟩
  rw [inV_strs, List.contains_iff_mem.mpr hz]
  exact q
theorem rd_is_duty {K : PySem.W.Frag} {mg : Str → Option Value} (T : Top K mg) : ∀ vs H Q E, sp_is_duty K vs H Q E → t_is_duty K { nx := fun _ H' => Q .non H', rt := Q } (start nm_is_duty vs) H := by
  rintro vs H Q E ⟨v, ds, rfl, hd, ok, q⟩
  obtain ⟨a, rfl, hs⟩ := duty_sq hd
  rw [start_is_duty]
  unfold t_is_duty t_is_duty_1
  simp only [tSeq, tAsg, tIfS, tRet, tRetN, tDrop, tNext, tPar, tPar3, gName, gSub, gTup, gCons, gNil, zV, tC, tOp, tUn, tCons, tNil, tLst, tTup, tIf, tAnd, tOr, tNot, tYes, zB, zAnd, zOr, zNot, zChain, tDNewK, yAdd, ySub, yMul, yDiv, yMod, yPow, yNeg, yLt, yLe, yGt, yGe, yEq, yNe, yIs0, yNotIs0, yIx, ySet, yIn, sqAt, isNone, zFld, zSetF, insAt, zMeth, zProp, tCall, tMake, tCB, yLen, yAbs, yMax2, yMin2, yList, yTuple, yDict0, zLM, yApp, isLst, dkAt, keyOf, zGet1, zGet2, zPop1, zPop2, zForR1, zForR2, zForL, zForT, Z.intAt, refAt, zLc, iR1, iR2, iL, iT, wipe, List.getElem?_cons_zero, List.getElem?_cons_succ, List.set_cons_zero, List.set_cons_succ, List.cons_append, List.nil_append, List.append_nil, upd_same, at0, at1, at2, ix0, ix1, ix2, upd_upd, ite_true, ite_false, if_true, if_false, Bool.false_eq_true, decide_true, decide_false, reduceIte, true_and, and_true, Option.isSome_none, Option.isSome_some, Bool.not_false, Bool.not_true, zTupA, zLstA, yAddA, yMulA, sliceA, zS2A, zSAA, zSBA, yListA, yTupleA, zForE, yNeO, yReprB, tMakeN, zSlA, zSlB, wOnly, tCallN, zForR3, zMatch, zCase, zMethS, zRaiseO, yPopAt, zSl2, yIsiT, tysAt, zBInit, zOst, tXf, wAs, tMkO, zFmt, zJs, zJoin, yStr1, gLst, zCM, zListR1, zListR2, zLenR1, iR3, yInt1, yEqO, yAndO, yInO, yLenO, yReprO, isBl, Z.strAt, yEq0, yNe0, GF.zForG, GF.zLcG, GF.zListG, yIsi, tyAt, clsAt, ki_int_int, ki_bool_int, ki_none_int, ki_str_int, ki_list_int, ki_tuple_int, ki_int_bool, ki_bool_bool, ki_none_bool, ki_str_bool, ki_list_bool, ki_tuple_bool, zMakeV, tRz, zNever, rIsi, yListQ]
  refine ⟨_, _, _, _, _, rfl, .ty _, sqT_ty hs, ki_tt, ?_⟩
  simp only [tSeq, tAsg, tIfS, tRet, tRetN, tDrop, tNext, tPar, tPar3, gName, gSub, gTup, gCons, gNil, zV, tC, tOp, tUn, tCons, tNil, tLst, tTup, tIf, tAnd, tOr, tNot, tYes, zB, zAnd, zOr, zNot, zChain, tDNewK, yAdd, ySub, yMul, yDiv, yMod, yPow, yNeg, yLt, yLe, yGt, yGe, yEq, yNe, yIs0, yNotIs0, yIx, ySet, yIn, sqAt, isNone, zFld, zSetF, insAt, zMeth, zProp, tCall, tMake, tCB, yLen, yAbs, yMax2, yMin2, yList, yTuple, yDict0, zLM, yApp, isLst, dkAt, keyOf, zGet1, zGet2, zPop1, zPop2, zForR1, zForR2, zForL, zForT, Z.intAt, refAt, zLc, iR1, iR2, iL, iT, wipe, List.getElem?_cons_zero, List.getElem?_cons_succ, List.set_cons_zero, List.set_cons_succ, List.cons_append, List.nil_append, List.append_nil, upd_same, at0, at1, at2, ix0, ix1, ix2, upd_upd, ite_true, ite_false, if_true, if_false, Bool.false_eq_true, decide_true, decide_false, reduceIte, true_and, and_true, Option.isSome_none, Option.isSome_some, Bool.not_false, Bool.not_true, zTupA, zLstA, yAddA, yMulA, sliceA, zS2A, zSAA, zSBA, yListA, yTupleA, zForE, yNeO, yReprB, tMakeN, zSlA, zSlB, wOnly, tCallN, zForR3, zMatch, zCase, zMethS, zRaiseO, yPopAt, zSl2, yIsiT, tysAt, zBInit, zOst, tXf, wAs, tMkO, zFmt, zJs, zJoin, yStr1, gLst, zCM, zListR1, zListR2, zLenR1, iR3, yInt1, yEqO, yAndO, yInO, yLenO, yReprO, isBl, Z.strAt, yEq0, yNe0, GF.zForG, GF.zLcG, GF.zListG, yIsi, tyAt, clsAt, ki_int_int, ki_bool_int, ki_none_int, ki_str_int, ki_list_int, ki_tuple_int, ki_int_bool, ki_bool_bool, ki_none_bool, ki_str_bool, ki_list_bool, ki_tuple_bool, zMakeV, tRz, zNever]
  refine ⟨a, _, rfl, .inr hs, fun l hl => ?_⟩
  have s1 : Same H (upd H l (.lst (ds.map V.str))) := Same.new hl
  have h1 : (upd H l (.lst (ds.map V.str))) l = _ := upd_same
  have hs1 := sqT_same s1 hs
  generalize upd H l (.lst (ds.map V.str)) = H1 at s1 h1 hs1
  refine ⟨⟨_, T.t_DIRECTIONS _⟩, ?_⟩
  have S1 : Steady (Itt K (He.ga K "DIRECTIONS")) 3 (fun i => ((["to", "from", "both"] : List Str).map V.str).getD i .non) H1 := fun H' s => by
    have h' := T.t_DIRECTIONS H'
    refine ⟨fun i hi => ⟨_, h', hi⟩, fun i hi => ⟨_, ((["to", "from", "both"] : List Str).map V.str)[i]'hi, h', by simp [hi]⟩, fun i x H'' hi y => ?_⟩
    obtain ⟨e, y⟩ := y
    have e2 := y _ h'
    refine ⟨e, ?_⟩
    show x = ((["to", "from", "both"] : List Str).map V.str).getD i .non
    rw [List.getD_eq_getElem?_getD, e2]
    rfl
  have key : ∀ i, i < 3 → ((["to", "from", "both"] : List Str).map V.str).getD i .non = .str (Ways.getD i "") := fun i hi => by
    rcases (by omega : i = 0 ∨ i = 1 ∨ i = 2) with rfl | rfl | rfl <;> rfl
  refine comp_objs S1 (by show 3 < sizeLine; decide) (fun i => ds.contains (Ways.getD i "")) (fun i v _ => v = (fun i => V.str (Ways.getD i "")) i) mon_vals (fun x => by simp only [tSeq, tAsg, tIfS, tRet, tRetN, tDrop, tNext, tPar, tPar3, gName, gSub, gTup, gCons, gNil, zV, tC, tOp, tUn, tCons, tNil, tLst, tTup, tIf, tAnd, tOr, tNot, tYes, zB, zAnd, zOr, zNot, zChain, tDNewK, yAdd, ySub, yMul, yDiv, yMod, yPow, yNeg, yLt, yLe, yGt, yGe, yEq, yNe, yIs0, yNotIs0, yIx, ySet, yIn, sqAt, isNone, zFld, zSetF, insAt, zMeth, zProp, tCall, tMake, tCB, yLen, yAbs, yMax2, yMin2, yList, yTuple, yDict0, zLM, yApp, isLst, dkAt, keyOf, zGet1, zGet2, zPop1, zPop2, zForR1, zForR2, zForL, zForT, Z.intAt, refAt, zLc, iR1, iR2, iL, iT, wipe, List.getElem?_cons_zero, List.getElem?_cons_succ, List.set_cons_zero, List.set_cons_succ, List.cons_append, List.nil_append, List.append_nil, upd_same, at0, at1, at2, ix0, ix1, ix2, upd_upd, ite_true, ite_false, if_true, if_false, Bool.false_eq_true, decide_true, decide_false, reduceIte, true_and, and_true, Option.isSome_none, Option.isSome_some, Bool.not_false, Bool.not_true, zTupA, zLstA, yAddA, yMulA, sliceA, zS2A, zSAA, zSBA, yListA, yTupleA, zForE, yNeO, yReprB, tMakeN, zSlA, zSlB, wOnly, tCallN, zForR3, zMatch, zCase, zMethS, zRaiseO, yPopAt, zSl2, yIsiT, tysAt, zBInit, zOst, tXf, wAs, tMkO, zFmt, zJs, zJoin, yStr1, gLst, zCM, zListR1, zListR2, zLenR1, iR3, yInt1, yEqO, yAndO, yInO, yLenO, yReprO, isBl, Z.strAt, yEq0, yNe0, GF.zForG, GF.zLcG, GF.zListG, yIsi, tyAt, clsAt, ki_int_int, ki_bool_int, ki_none_int, ki_str_int, ki_list_int, ki_tuple_int, ki_int_bool, ki_bool_bool, ki_none_bool, ki_str_bool, ki_list_bool, ki_tuple_bool, zMakeV, tRz, zNever]) ?_ ?_ ?_
  · intro i H' hi s' Q' q'
    rw [key i hi]
    simp only [tSeq, tAsg, tIfS, tRet, tRetN, tDrop, tNext, tPar, tPar3, gName, gSub, gTup, gCons, gNil, zV, tC, tOp, tUn, tCons, tNil, tLst, tTup, tIf, tAnd, tOr, tNot, tYes, zB, zAnd, zOr, zNot, zChain, tDNewK, yAdd, ySub, yMul, yDiv, yMod, yPow, yNeg, yLt, yLe, yGt, yGe, yEq, yNe, yIs0, yNotIs0, yIx, ySet, yIn, sqAt, isNone, zFld, zSetF, insAt, zMeth, zProp, tCall, tMake, tCB, yLen, yAbs, yMax2, yMin2, yList, yTuple, yDict0, zLM, yApp, isLst, dkAt, keyOf, zGet1, zGet2, zPop1, zPop2, zForR1, zForR2, zForL, zForT, Z.intAt, refAt, zLc, iR1, iR2, iL, iT, wipe, List.getElem?_cons_zero, List.getElem?_cons_succ, List.set_cons_zero, List.set_cons_succ, List.cons_append, List.nil_append, List.append_nil, upd_same, at0, at1, at2, ix0, ix1, ix2, upd_upd, ite_true, ite_false, if_true, if_false, Bool.false_eq_true, decide_true, decide_false, reduceIte, true_and, and_true, Option.isSome_none, Option.isSome_some, Bool.not_false, Bool.not_true, zTupA, zLstA, yAddA, yMulA, sliceA, zS2A, zSAA, zSBA, yListA, yTupleA, zForE, yNeO, yReprB, tMakeN, zSlA, zSlB, wOnly, tCallN, zForR3, zMatch, zCase, zMethS, zRaiseO, yPopAt, zSl2, yIsiT, tysAt, zBInit, zOst, tXf, wAs, tMkO, zFmt, zJs, zJoin, yStr1, gLst, zCM, zListR1, zListR2, zLenR1, iR3, yInt1, yEqO, yAndO, yInO, yLenO, yReprO, isBl, Z.strAt, yEq0, yNe0, GF.zForG, GF.zLcG, GF.zListG, yIsi, tyAt, clsAt, ki_int_int, ki_bool_int, ki_none_int, ki_str_int, ki_list_int, ki_tuple_int, ki_int_bool, ki_bool_bool, ki_none_bool, ki_str_bool, ki_list_bool, ki_tuple_bool, zMakeV, tRz, zNever]
    refine ⟨a, _, rfl, .inr (sqT_same s' hs1), rfl, flat_strs ds, ?_⟩
    rw [if_neg Bool.false_ne_true, inV_strs]
    exact q' _ (fun _ _ e => e)
  · intro i H' hi _ s' Q' q'
    rw [key i hi]
    simp only [tSeq, tAsg, tIfS, tRet, tRetN, tDrop, tNext, tPar, tPar3, gName, gSub, gTup, gCons, gNil, zV, tC, tOp, tUn, tCons, tNil, tLst, tTup, tIf, tAnd, tOr, tNot, tYes, zB, zAnd, zOr, zNot, zChain, tDNewK, yAdd, ySub, yMul, yDiv, yMod, yPow, yNeg, yLt, yLe, yGt, yGe, yEq, yNe, yIs0, yNotIs0, yIx, ySet, yIn, sqAt, isNone, zFld, zSetF, insAt, zMeth, zProp, tCall, tMake, tCB, yLen, yAbs, yMax2, yMin2, yList, yTuple, yDict0, zLM, yApp, isLst, dkAt, keyOf, zGet1, zGet2, zPop1, zPop2, zForR1, zForR2, zForL, zForT, Z.intAt, refAt, zLc, iR1, iR2, iL, iT, wipe, List.getElem?_cons_zero, List.getElem?_cons_succ, List.set_cons_zero, List.set_cons_succ, List.cons_append, List.nil_append, List.append_nil, upd_same, at0, at1, at2, ix0, ix1, ix2, upd_upd, ite_true, ite_false, if_true, if_false, Bool.false_eq_true, decide_true, decide_false, reduceIte, true_and, and_true, Option.isSome_none, Option.isSome_some, Bool.not_false, Bool.not_true, zTupA, zLstA, yAddA, yMulA, sliceA, zS2A, zSAA, zSBA, yListA, yTupleA, zForE, yNeO, yReprB, tMakeN, zSlA, zSlB, wOnly, tCallN, zForR3, zMatch, zCase, zMethS, zRaiseO, yPopAt, zSl2, yIsiT, tysAt, zBInit, zOst, tXf, wAs, tMkO, zFmt, zJs, zJoin, yStr1, gLst, zCM, zListR1, zListR2, zLenR1, iR3, yInt1, yEqO, yAndO, yInO, yLenO, yReprO, isBl, Z.strAt, yEq0, yNe0, GF.zForG, GF.zLcG, GF.zListG, yIsi, tyAt, clsAt, ki_int_int, ki_bool_int, ki_none_int, ki_str_int, ki_list_int, ki_tuple_int, ki_int_bool, ki_bool_bool, ki_none_bool, ki_str_bool, ki_list_bool, ki_tuple_bool, zMakeV, tRz, zNever]
    exact q' _ _ (fun _ _ e => e) rfl
  · intro D H2 ws hD s2 hD2 hE
    have ew := elts_vals hE
    have ef : ((List.range 3).filter fun i => ds.contains (Ways.getD i "")).map (fun i => V.str (Ways.getD i "")) = ds.map V.str := by
      have e1 : ((List.range 3).filter fun i => ds.contains (Ways.getD i "")).map (fun i => Ways.getD i "") = Ways.filter fun z => ds.contains z := by
        have er : Ways = (List.range 3).map fun i => Ways.getD i "" := rfl
        conv => rhs; rw [er, List.filter_map]
        rfl
      have e2 : ((List.range 3).filter fun i => ds.contains (Ways.getD i "")).map (fun i => V.str (Ways.getD i "")) = (((List.range 3).filter fun i => ds.contains (Ways.getD i "")).map (fun i => Ways.getD i "")).map V.str := by
        rw [List.map_map]
        rfl
      rw [e2, e1, ← ok]
    rw [ew, ef] at hD2
    have h12 := s2 _ _ h1
    refine eq_same (d := .list (ds.map PyData.str)) (Dp.lst (SqL.of h12) (strs_dpAll ds)) (Dp.lst (SqL.of hD2) (strs_dpAll ds)) (strs_shaped ok.ok) ?_
    exact q _ (s1.trans s2)

/-! ### books -/
theorem dpAll_same' {K : PySem.W.Frag} {H H' : Hp} {vs : List V} {ds : List PyData} (h : DpAll K H vs ds) (s : Same H H') : DpAll K H' vs ds := dpAll_same s ds vs h
theorem BookAt.same {K : PySem.W.Frag} {H H' : Hp} {b : Addr} {D : List (List Str)} (h : BookAt K H b D) (s : Same H H') : BookAt K H' b D := by
  obtain ⟨dx, v1, v2, v3, v4, v5, h1, h2, h3⟩ := h
  exact ⟨dx, v1, v2, v3, v4, v5, s _ _ h1, dpAll_same' h2 s, h3⟩
theorem SetAt.same {K : PySem.W.Frag} {H H' : Hp} {a b : Addr} {S : Sett} (h : SetAt K H a S b) (s : Same H H') : SetAt K H' a S b := by
  obtain ⟨dx, h1, h2⟩ := h
  exact ⟨dx, s _ _ h1, h2⟩
/-- data keeps while an object without fields gets some -/
theorem sqT_grow {K : PySem.W.Frag} {H H' : Hp} {x C dx : Addr} {fs : List (Str × V)} (hx : H x = some (.ins C dx fs)) (g : Grow x H H') {a : Addr} {xs : List V} (h : SqT K H a xs) : SqT K H' a xs := by
  rcases h with (h | ⟨o, h⟩) | h
  · exact .inl (.inl (g _ _ h fun e => by rw [e, hx] at h; cases h))
  · exact .inl (.inr ⟨o, g _ _ h fun e => by rw [e, hx] at h; cases h⟩)
  · exact .inr h
theorem sqL_grow {K : PySem.W.Frag} {H H' : Hp} {x C dx : Addr} {fs : List (Str × V)} (hx : H x = some (.ins C dx fs)) (g : Grow x H H') {a : Addr} {xs : List V} (h : SqL K H a xs) : SqL K H' a xs := by
  rcases h with (h | ⟨o, h⟩) | h
  · exact .inl (.inl (g _ _ h fun e => by rw [e, hx] at h; cases h))
  · exact .inl (.inr ⟨o, g _ _ h fun e => by rw [e, hx] at h; cases h⟩)
  · exact .inr h
mutual
theorem dp_grow {K : PySem.W.Frag} {H H' : Hp} {x C dx : Addr} {fs : List (Str × V)} (hx : H x = some (.ins C dx fs)) (g : Grow x H H') : ∀ (d : PyData) (v : V), Dp K H v d → Dp K H' v d
  | .none, _, h => by cases h; exact .non
  | .bool b, _, h => by cases h; exact .bl b
  | .int i, _, h => by cases h; exact .int i
  | .str z, _, h => by cases h; exact .str z
  | .list ds, _, h => by
    cases h with
    | lst hs ha => exact .lst (sqL_grow hx g hs) (dpAll_grow hx g ds _ ha)
  | .tuple ds, _, h => by
    cases h with
    | tup hs ha => exact .tup (sqT_grow hx g hs) (dpAll_grow hx g ds _ ha)
  | .dict _, _, h => by cases h
theorem dpAll_grow {K : PySem.W.Frag} {H H' : Hp} {x C dx : Addr} {fs : List (Str × V)} (hx : H x = some (.ins C dx fs)) (g : Grow x H H') : ∀ (ds : List PyData) (vs : List V), DpAll K H vs ds → DpAll K H' vs ds
  | [], _, h => by cases h; exact .nil
  | d :: ds, _, h => by
    cases h with
    | cons h1 h2 => exact .cons (dp_grow hx g d _ h1) (dpAll_grow hx g ds _ h2)
end
theorem dpAll_len {K : PySem.W.Frag} {H : Hp} : ∀ {vs : List V} {ds : List PyData}, DpAll K H vs ds → vs.length = ds.length
  | [], [], _ => rfl
  | [], _ :: _, h => by cases h
  | _ :: _, [], h => by cases h
  | v :: vs, d :: ds, h => by
    rw [List.length_cons, List.length_cons, dpAll_len (DpAll.one h).2]
theorem dpAll_at {K : PySem.W.Frag} {H : Hp} : ∀ {vs : List V} {ds : List PyData}, DpAll K H vs ds → ∀ (i : Nat) (v : V), vs[i]? = some v → ∃ d, ds[i]? = some d ∧ Dp K H v d
  | [], _, h, i, v, e => by cases e
  | _ :: _, [], h, _, _, _ => by cases h
  | w :: vs, d :: ds, h, 0, v, e => by
    obtain rfl := Option.some.inj e
    exact ⟨d, rfl, (DpAll.one h).1⟩
  | w :: vs, d :: ds, h, i + 1, v, e => dpAll_at (DpAll.one h).2 i v e
theorem rd_Book___init__ {K : PySem.W.Frag} {mg : Str → Option Value} (T : Top K mg) : ∀ vs H Q E, sp_Book___init__ K vs H Q E → t_Book___init__ K { nx := fun _ H' => Q .non H', rt := Q } (start nm_Book___init__ vs) H := by
  rintro vs H Q E ⟨x, dx, v1, v2, v3, v4, v5, D, rfl, hx, hd, ok, q⟩
  rw [start_Book___init__]
  unfold t_Book___init__ t_Book___init___1
  have szl := sizeLine_eq
  simp only [tSeq, tAsg, tIfS, tRet, tRetN, tDrop, tNext, tPar, tPar3, gName, gSub, gTup, gCons, gNil, zV, tC, tOp, tUn, tCons, tNil, tLst, tTup, tIf, tAnd, tOr, tNot, tYes, zB, zAnd, zOr, zNot, zChain, tDNewK, yAdd, ySub, yMul, yDiv, yMod, yPow, yNeg, yLt, yLe, yGt, yGe, yEq, yNe, yIs0, yNotIs0, yIx, ySet, yIn, sqAt, isNone, zFld, zSetF, insAt, zMeth, zProp, tCall, tMake, tCB, yLen, yAbs, yMax2, yMin2, yList, yTuple, yDict0, zLM, yApp, isLst, dkAt, keyOf, zGet1, zGet2, zPop1, zPop2, zForR1, zForR2, zForL, zForT, Z.intAt, refAt, zLc, iR1, iR2, iL, iT, wipe, List.getElem?_cons_zero, List.getElem?_cons_succ, List.set_cons_zero, List.set_cons_succ, List.cons_append, List.nil_append, List.append_nil, upd_same, at0, at1, at2, ix0, ix1, ix2, upd_upd, ite_true, ite_false, if_true, if_false, Bool.false_eq_true, decide_true, decide_false, reduceIte, true_and, and_true, Option.isSome_none, Option.isSome_some, Bool.not_false, Bool.not_true, zTupA, zLstA, yAddA, yMulA, sliceA, zS2A, zSAA, zSBA, yListA, yTupleA, zForE, yNeO, yReprB, tMakeN, zSlA, zSlB, wOnly, tCallN, zForR3, zMatch, zCase, zMethS, zRaiseO, yPopAt, zSl2, yIsiT, tysAt, zBInit, zOst, tXf, wAs, tMkO, zFmt, zJs, zJoin, yStr1, gLst, zCM, zListR1, zListR2, zLenR1, iR3, yInt1, yEqO, yAndO, yInO, yLenO, yReprO, isBl, Z.strAt, yEq0, yNe0, GF.zForG, GF.zLcG, GF.zListG, yIsi, tyAt, clsAt, ki_int_int, ki_bool_int, ki_none_int, ki_str_int, ki_list_int, ki_tuple_int, ki_int_bool, ki_bool_bool, ki_none_bool, ki_str_bool, ki_list_bool, ki_tuple_bool, zMakeV, tRz, zNever]
  refine ⟨by show 2 ≤ sizeLine; omega, fun p1 H1 _ s1 h1 => ⟨by show 2 ≤ sizeLine; omega, fun p2 H2 _ s2 h2 => ⟨by show 2 ≤ sizeLine; omega, fun p3 H3 _ s3 h3 => ⟨by show 2 ≤ sizeLine; omega, fun p4 H4 _ s4 h4 => ⟨by show 2 ≤ sizeLine; omega, fun p5 H5 _ s5 h5 => ⟨by show 5 ≤ sizeLine; omega, fun p6 H6 _ s6 h6 => ?_⟩⟩⟩⟩⟩⟩
  have s := ((((s1.trans s2).trans s3).trans s4).trans s5).trans s6
  have h1' := ((((s2.trans s3).trans s4).trans s5).trans s6) _ _ h1
  have h2' := (((s3.trans s4).trans s5).trans s6) _ _ h2
  have h3' := ((s4.trans s5).trans s6) _ _ h3
  have h4' := (s5.trans s6) _ _ h4
  have h5' := s6 _ _ h5
  have hd6 := dpAll_same' hd s
  unfold t_Book___init___2
  simp only [tSeq, tAsg, tIfS, tRet, tRetN, tDrop, tNext, tPar, tPar3, gName, gSub, gTup, gCons, gNil, zV, tC, tOp, tUn, tCons, tNil, tLst, tTup, tIf, tAnd, tOr, tNot, tYes, zB, zAnd, zOr, zNot, zChain, tDNewK, yAdd, ySub, yMul, yDiv, yMod, yPow, yNeg, yLt, yLe, yGt, yGe, yEq, yNe, yIs0, yNotIs0, yIx, ySet, yIn, sqAt, isNone, zFld, zSetF, insAt, zMeth, zProp, tCall, tMake, tCB, yLen, yAbs, yMax2, yMin2, yList, yTuple, yDict0, zLM, yApp, isLst, dkAt, keyOf, zGet1, zGet2, zPop1, zPop2, zForR1, zForR2, zForL, zForT, Z.intAt, refAt, zLc, iR1, iR2, iL, iT, wipe, List.getElem?_cons_zero, List.getElem?_cons_succ, List.set_cons_zero, List.set_cons_succ, List.cons_append, List.nil_append, List.append_nil, upd_same, at0, at1, at2, ix0, ix1, ix2, upd_upd, ite_true, ite_false, if_true, if_false, Bool.false_eq_true, decide_true, decide_false, reduceIte, true_and, and_true, Option.isSome_none, Option.isSome_some, Bool.not_false, Bool.not_true, zTupA, zLstA, yAddA, yMulA, sliceA, zS2A, zSAA, zSBA, yListA, yTupleA, zForE, yNeO, yReprB, tMakeN, zSlA, zSlB, wOnly, tCallN, zForR3, zMatch, zCase, zMethS, zRaiseO, yPopAt, zSl2, yIsiT, tysAt, zBInit, zOst, tXf, wAs, tMkO, zFmt, zJs, zJoin, yStr1, gLst, zCM, zListR1, zListR2, zLenR1, iR3, yInt1, yEqO, yAndO, yInO, yLenO, yReprO, isBl, Z.strAt, yEq0, yNe0, GF.zForG, GF.zLcG, GF.zListG, yIsi, tyAt, clsAt, ki_int_int, ki_bool_int, ki_none_int, ki_str_int, ki_list_int, ki_tuple_int, ki_int_bool, ki_bool_bool, ki_none_bool, ki_str_bool, ki_list_bool, ki_tuple_bool, zMakeV, tRz, zNever]
  refine ⟨⟨_, SqT.of h6⟩, loopT (xs := [.ref p1, .ref p2, .ref p3, .ref p4, .ref p5]) (fun i σ H' => ∃ v7 v8, σ = [some (.ref x), some v1, some v2, some v3, some v4, some v5, some (.ref p6), v7, v8] ∧ Same H6 H') ⟨_, _, rfl, Same.refl _⟩ ?_ ?_ ?_⟩
  · rintro i σ H' _ ⟨v7, v8, rfl, s'⟩
    exact SqT.of (s' _ _ h6)
  · rintro i y σ H' hy ⟨v7, v8, rfl, s'⟩
    have turn : ∀ (p : Addr) (f : Str) (v : V) (j : Nat), y = .ref p → H6 p = some (.tup [.str f, v]) → [v1, v2, v3, v4, v5][j]? = some v → gTup K 2 (gCons (gName 7) (gCons (gName 8) gNil)) y [some (.ref x), some v1, some v2, some v3, some v4, some v5, some (.ref p6), v7, v8] H' fun σ2 H2 => t_Book___init___2b_1 K { nx := fun σ H'' => ∃ v7 v8, σ = [some (.ref x), some v1, some v2, some v3, some v4, some v5, some (.ref p6), v7, v8] ∧ Same H6 H'', rt := Q, bk := tSeq (t_Book___init___3 K) (tSeq (t_Book___init___4 K) (tSeq (t_Book___init___5 K) (tSeq (t_Book___init___6 K) (t_Book___init___7 K)))) { nx := fun _ H' => Q .non H', rt := Q }, ct := fun σ H'' => ∃ v7 v8, σ = [some (.ref x), some v1, some v2, some v3, some v4, some v5, some (.ref p6), v7, v8] ∧ Same H6 H'' } σ2 H2 := by
      rintro p f v j rfl hp hv
      have hp' := s' _ _ hp
      simp only [tSeq, tAsg, tIfS, tRet, tRetN, tDrop, tNext, tPar, tPar3, gName, gSub, gTup, gCons, gNil, zV, tC, tOp, tUn, tCons, tNil, tLst, tTup, tIf, tAnd, tOr, tNot, tYes, zB, zAnd, zOr, zNot, zChain, tDNewK, yAdd, ySub, yMul, yDiv, yMod, yPow, yNeg, yLt, yLe, yGt, yGe, yEq, yNe, yIs0, yNotIs0, yIx, ySet, yIn, sqAt, isNone, zFld, zSetF, insAt, zMeth, zProp, tCall, tMake, tCB, yLen, yAbs, yMax2, yMin2, yList, yTuple, yDict0, zLM, yApp, isLst, dkAt, keyOf, zGet1, zGet2, zPop1, zPop2, zForR1, zForR2, zForL, zForT, Z.intAt, refAt, zLc, iR1, iR2, iL, iT, wipe, List.getElem?_cons_zero, List.getElem?_cons_succ, List.set_cons_zero, List.set_cons_succ, List.cons_append, List.nil_append, List.append_nil, upd_same, at0, at1, at2, ix0, ix1, ix2, upd_upd, ite_true, ite_false, if_true, if_false, Bool.false_eq_true, decide_true, decide_false, reduceIte, true_and, and_true, Option.isSome_none, Option.isSome_some, Bool.not_false, Bool.not_true, zTupA, zLstA, yAddA, yMulA, sliceA, zS2A, zSAA, zSBA, yListA, yTupleA, zForE, yNeO, yReprB, tMakeN, zSlA, zSlB, wOnly, tCallN, zForR3, zMatch, zCase, zMethS, zRaiseO, yPopAt, zSl2, yIsiT, tysAt, zBInit, zOst, tXf, wAs, tMkO, zFmt, zJs, zJoin, yStr1, gLst, zCM, zListR1, zListR2, zLenR1, iR3, yInt1, yEqO, yAndO, yInO, yLenO, yReprO, isBl, Z.strAt, yEq0, yNe0, GF.zForG, GF.zLcG, GF.zListG, yIsi, tyAt, clsAt, ki_int_int, ki_bool_int, ki_none_int, ki_str_int, ki_list_int, ki_tuple_int, ki_int_bool, ki_bool_bool, ki_none_bool, ki_str_bool, ki_list_bool, ki_tuple_bool, zMakeV, tRz, zNever]
      refine ⟨p, _, rfl, SqT.of hp', rfl, _, _, rfl, _, _, rfl, rfl, ?_⟩
      unfold t_Book___init___2b_1
      simp only [tSeq, tAsg, tIfS, tRet, tRetN, tDrop, tNext, tPar, tPar3, gName, gSub, gTup, gCons, gNil, zV, tC, tOp, tUn, tCons, tNil, tLst, tTup, tIf, tAnd, tOr, tNot, tYes, zB, zAnd, zOr, zNot, zChain, tDNewK, yAdd, ySub, yMul, yDiv, yMod, yPow, yNeg, yLt, yLe, yGt, yGe, yEq, yNe, yIs0, yNotIs0, yIx, ySet, yIn, sqAt, isNone, zFld, zSetF, insAt, zMeth, zProp, tCall, tMake, tCB, yLen, yAbs, yMax2, yMin2, yList, yTuple, yDict0, zLM, yApp, isLst, dkAt, keyOf, zGet1, zGet2, zPop1, zPop2, zForR1, zForR2, zForL, zForT, Z.intAt, refAt, zLc, iR1, iR2, iL, iT, wipe, List.getElem?_cons_zero, List.getElem?_cons_succ, List.set_cons_zero, List.set_cons_succ, List.cons_append, List.nil_append, List.append_nil, upd_same, at0, at1, at2, ix0, ix1, ix2, upd_upd, ite_true, ite_false, if_true, if_false, Bool.false_eq_true, decide_true, decide_false, reduceIte, true_and, and_true, Option.isSome_none, Option.isSome_some, Bool.not_false, Bool.not_true, zTupA, zLstA, yAddA, yMulA, sliceA, zS2A, zSAA, zSBA, yListA, yTupleA, zForE, yNeO, yReprB, tMakeN, zSlA, zSlB, wOnly, tCallN, zForR3, zMatch, zCase, zMethS, zRaiseO, yPopAt, zSl2, yIsiT, tysAt, zBInit, zOst, tXf, wAs, tMkO, zFmt, zJs, zJoin, yStr1, gLst, zCM, zListR1, zListR2, zLenR1, iR3, yInt1, yEqO, yAndO, yInO, yLenO, yReprO, isBl, Z.strAt, yEq0, yNe0, GF.zForG, GF.zLcG, GF.zListG, yIsi, tyAt, clsAt, ki_int_int, ki_bool_int, ki_none_int, ki_str_int, ki_list_int, ki_tuple_int, ki_int_bool, ki_bool_bool, ki_none_bool, ki_str_bool, ki_list_bool, ki_tuple_bool, zMakeV, tRz, zNever]
      obtain ⟨d, hdj, dp⟩ := dpAll_at hd6 j v hv
      rw [List.getElem?_map] at hdj
      cases eD : D[j]? with
      | none => rw [eD] at hdj; cases hdj
      | some ds =>
        rw [eD] at hdj
        obtain rfl := (Option.some.inj hdj).symm
        refine ⟨v, ds, rfl, dp_same s' _ _ dp, ok ds (List.mem_of_getElem? eD), fun H'' s'' => ?_⟩
        simp only [tSeq, tAsg, tIfS, tRet, tRetN, tDrop, tNext, tPar, tPar3, gName, gSub, gTup, gCons, gNil, zV, tC, tOp, tUn, tCons, tNil, tLst, tTup, tIf, tAnd, tOr, tNot, tYes, zB, zAnd, zOr, zNot, zChain, tDNewK, yAdd, ySub, yMul, yDiv, yMod, yPow, yNeg, yLt, yLe, yGt, yGe, yEq, yNe, yIs0, yNotIs0, yIx, ySet, yIn, sqAt, isNone, zFld, zSetF, insAt, zMeth, zProp, tCall, tMake, tCB, yLen, yAbs, yMax2, yMin2, yList, yTuple, yDict0, zLM, yApp, isLst, dkAt, keyOf, zGet1, zGet2, zPop1, zPop2, zForR1, zForR2, zForL, zForT, Z.intAt, refAt, zLc, iR1, iR2, iL, iT, wipe, List.getElem?_cons_zero, List.getElem?_cons_succ, List.set_cons_zero, List.set_cons_succ, List.cons_append, List.nil_append, List.append_nil, upd_same, at0, at1, at2, ix0, ix1, ix2, upd_upd, ite_true, ite_false, if_true, if_false, Bool.false_eq_true, decide_true, decide_false, reduceIte, true_and, and_true, Option.isSome_none, Option.isSome_some, Bool.not_false, Bool.not_true, zTupA, zLstA, yAddA, yMulA, sliceA, zS2A, zSAA, zSBA, yListA, yTupleA, zForE, yNeO, yReprB, tMakeN, zSlA, zSlB, wOnly, tCallN, zForR3, zMatch, zCase, zMethS, zRaiseO, yPopAt, zSl2, yIsiT, tysAt, zBInit, zOst, tXf, wAs, tMkO, zFmt, zJs, zJoin, yStr1, gLst, zCM, zListR1, zListR2, zLenR1, iR3, yInt1, yEqO, yAndO, yInO, yLenO, yReprO, isBl, Z.strAt, yEq0, yNe0, GF.zForG, GF.zLcG, GF.zListG, yIsi, tyAt, clsAt, ki_int_int, ki_bool_int, ki_none_int, ki_str_int, ki_list_int, ki_tuple_int, ki_int_bool, ki_bool_bool, ki_none_bool, ki_str_bool, ki_list_bool, ki_tuple_bool, zMakeV, tRz, zNever]
        exact ⟨_, _, rfl, s'.trans s''⟩
    match i, hy with
    | 0, hy => exact turn p1 _ v1 0 (Option.some.inj hy).symm h1' rfl
    | 1, hy => exact turn p2 _ v2 1 (Option.some.inj hy).symm h2' rfl
    | 2, hy => exact turn p3 _ v3 2 (Option.some.inj hy).symm h3' rfl
    | 3, hy => exact turn p4 _ v4 3 (Option.some.inj hy).symm h4' rfl
    | 4, hy => exact turn p5 _ v5 4 (Option.some.inj hy).symm h5' rfl
    | i + 5, hy => cases hy
  · rintro σ H' ⟨v7, v8, rfl, s'⟩
    have hx' := (s.trans s') _ _ hx
    simp only [tSeq, tAsg, tIfS, tRet, tRetN, tDrop, tNext, tPar, tPar3, gName, gSub, gTup, gCons, gNil, zV, tC, tOp, tUn, tCons, tNil, tLst, tTup, tIf, tAnd, tOr, tNot, tYes, zB, zAnd, zOr, zNot, zChain, tDNewK, yAdd, ySub, yMul, yDiv, yMod, yPow, yNeg, yLt, yLe, yGt, yGe, yEq, yNe, yIs0, yNotIs0, yIx, ySet, yIn, sqAt, isNone, zFld, zSetF, insAt, zMeth, zProp, tCall, tMake, tCB, yLen, yAbs, yMax2, yMin2, yList, yTuple, yDict0, zLM, yApp, isLst, dkAt, keyOf, zGet1, zGet2, zPop1, zPop2, zForR1, zForR2, zForL, zForT, Z.intAt, refAt, zLc, iR1, iR2, iL, iT, wipe, List.getElem?_cons_zero, List.getElem?_cons_succ, List.set_cons_zero, List.set_cons_succ, List.cons_append, List.nil_append, List.append_nil, upd_same, at0, at1, at2, ix0, ix1, ix2, upd_upd, ite_true, ite_false, if_true, if_false, Bool.false_eq_true, decide_true, decide_false, reduceIte, true_and, and_true, Option.isSome_none, Option.isSome_some, Bool.not_false, Bool.not_true, zTupA, zLstA, yAddA, yMulA, sliceA, zS2A, zSAA, zSBA, yListA, yTupleA, zForE, yNeO, yReprB, tMakeN, zSlA, zSlB, wOnly, tCallN, zForR3, zMatch, zCase, zMethS, zRaiseO, yPopAt, zSl2, yIsiT, tysAt, zBInit, zOst, tXf, wAs, tMkO, zFmt, zJs, zJoin, yStr1, gLst, zCM, zListR1, zListR2, zLenR1, iR3, yInt1, yEqO, yAndO, yInO, yLenO, yReprO, isBl, Z.strAt, yEq0, yNe0, GF.zForG, GF.zLcG, GF.zListG, yIsi, tyAt, clsAt, ki_int_int, ki_bool_int, ki_none_int, ki_str_int, ki_list_int, ki_tuple_int, ki_int_bool, ki_bool_bool, ki_none_bool, ki_str_bool, ki_list_bool, ki_tuple_bool, zMakeV, tRz, zNever, t_Book___init___3, t_Book___init___4, t_Book___init___5, t_Book___init___6, t_Book___init___7, hx']
    rw [pn_Book_cleaned v1 .non .non .non .non, pn_Book_dropped v1 v2 .non .non .non, pn_Book_bind_copied v1 v2 v3 .non .non, pn_Book_give_copied v1 v2 v3 v4 .non, pn_Book_take_copied v1 v2 v3 v4 v5]
    refine ⟨⟨T.cl_Book, T.na_Book_cleaned, by decide⟩, ⟨T.cl_Book, T.na_Book_dropped, by show 1 < 1000; decide⟩, ⟨T.cl_Book, T.na_Book_bind_copied, by show 2 < 1000; decide⟩, ⟨T.cl_Book, T.na_Book_give_copied, by show 3 < 1000; decide⟩, ⟨T.cl_Book, T.na_Book_take_copied, by show 4 < 1000; decide⟩, ?_⟩
    exact q _ (fun c u e ne => by rw [upd_ne ne]; exact (s.trans s') _ _ e) upd_same
theorem rd_Book_duties {K : PySem.W.Frag} {mg : Str → Option Value} (T : Top K mg) : ∀ vs H Q E, sp_Book_duties K vs H Q E → t_Book_duties K { nx := fun _ H' => Q .non H', rt := Q } (start nm_Book_duties vs) H := by
  rintro vs H Q E ⟨b, D, rfl, ⟨dx, v1, v2, v3, v4, v5, hb, hd, hok⟩, q⟩
  rw [start_Book_duties]
  unfold t_Book_duties t_Book_duties_1
  have szl := sizeLine_eq
  simp only [tSeq, tAsg, tIfS, tRet, tRetN, tDrop, tNext, tPar, tPar3, gName, gSub, gTup, gCons, gNil, zV, tC, tOp, tUn, tCons, tNil, tLst, tTup, tIf, tAnd, tOr, tNot, tYes, zB, zAnd, zOr, zNot, zChain, tDNewK, yAdd, ySub, yMul, yDiv, yMod, yPow, yNeg, yLt, yLe, yGt, yGe, yEq, yNe, yIs0, yNotIs0, yIx, ySet, yIn, sqAt, isNone, zFld, zSetF, insAt, zMeth, zProp, tCall, tMake, tCB, yLen, yAbs, yMax2, yMin2, yList, yTuple, yDict0, zLM, yApp, isLst, dkAt, keyOf, zGet1, zGet2, zPop1, zPop2, zForR1, zForR2, zForL, zForT, Z.intAt, refAt, zLc, iR1, iR2, iL, iT, wipe, List.getElem?_cons_zero, List.getElem?_cons_succ, List.set_cons_zero, List.set_cons_succ, List.cons_append, List.nil_append, List.append_nil, upd_same, at0, at1, at2, ix0, ix1, ix2, upd_upd, ite_true, ite_false, if_true, if_false, Bool.false_eq_true, decide_true, decide_false, reduceIte, true_and, and_true, Option.isSome_none, Option.isSome_some, Bool.not_false, Bool.not_true, zTupA, zLstA, yAddA, yMulA, sliceA, zS2A, zSAA, zSBA, yListA, yTupleA, zForE, yNeO, yReprB, tMakeN, zSlA, zSlB, wOnly, tCallN, zForR3, zMatch, zCase, zMethS, zRaiseO, yPopAt, zSl2, yIsiT, tysAt, zBInit, zOst, tXf, wAs, tMkO, zFmt, zJs, zJoin, yStr1, gLst, zCM, zListR1, zListR2, zLenR1, iR3, yInt1, yEqO, yAndO, yInO, yLenO, yReprO, isBl, Z.strAt, yEq0, yNe0, GF.zForG, GF.zLcG, GF.zListG, yIsi, tyAt, clsAt, ki_int_int, ki_bool_int, ki_none_int, ki_str_int, ki_list_int, ki_tuple_int, ki_int_bool, ki_bool_bool, ki_none_bool, ki_str_bool, ki_list_bool, ki_tuple_bool, zMakeV, tRz, zNever, hb, lk_Book_cleaned, lk_Book_dropped, lk_Book_bind_copied, lk_Book_give_copied, lk_Book_take_copied]
  refine ⟨⟨T.cl_Book, T.na_Book_cleaned⟩, ⟨T.cl_Book, T.na_Book_dropped⟩, ⟨T.cl_Book, T.na_Book_bind_copied⟩, ⟨T.cl_Book, T.na_Book_give_copied⟩, ⟨T.cl_Book, T.na_Book_take_copied⟩, by show 5 ≤ sizeLine; omega, fun t H' _ s ht => ?_⟩
  exact q t H' s (Dp.tup (SqT.of ht) (dpAll_same' hd s))

/-! ### == of books; settings -/
theorem duty_lay {ds : List Str} (h : DOk ds) : (dutyD ds).canLay0 = true ∧ (dutyD ds).depth ≤ 1 := by
  refine ⟨lay_tuple fun x hx => ?_, depth_tuple (n := 0) fun x hx => ?_⟩
  · obtain ⟨y, hy, rfl⟩ := List.mem_map.mp hx
    simp only [PyData.canLay0]
    exact h.ok y hy
  · obtain ⟨y, _, rfl⟩ := List.mem_map.mp hx
    simp only [PyData.depth]
    decide
theorem duties_shaped {D : List (List Str)} (h : ∀ d ∈ D, DOk d) : SeqAt.shaped (.tuple (D.map dutyD)) = true ∧ SeqAt.shaped (.list (D.map dutyD)) = true := by
  refine ⟨shaped_of (n := 2) (lay_tuple fun x hx => ?_) (depth_tuple (n := 1) fun x hx => ?_) (by decide), shaped_of (n := 2) (lay_list fun x hx => ?_) (depth_list (n := 1) fun x hx => ?_) (by decide)⟩
  all_goals
    obtain ⟨y, hy, rfl⟩ := List.mem_map.mp hx
    first | exact (duty_lay (h y hy)).1 | exact (duty_lay (h y hy)).2
theorem eqD_refl {D : List (List Str)} (h : ∀ d ∈ D, DOk d) : eqD D D = true := by
  have := SeqAt.eqv_refl _ (SeqAt.canLay_of_shaped (duties_shaped h).1)
  simp only [PyData.eqv] at this
  exact this
theorem BookAt.ins {K : PySem.W.Frag} {H : Hp} {b : Addr} {D : List (List Str)} (h : BookAt K H b D) : ∃ dx fs, H b = some (.ins (He.ga K "Book") dx fs) := by
  obtain ⟨dx, v1, v2, v3, v4, v5, h, _⟩ := h
  exact ⟨dx, _, h⟩
theorem SetAt.ins {K : PySem.W.Frag} {H : Hp} {s b : Addr} {S : Sett} (h : SetAt K H s S b) : ∃ dx fs, H s = some (.ins (He.ga K "Setting") dx fs) := by
  obtain ⟨dx, h, _⟩ := h
  exact ⟨dx, _, h⟩
theorem rd_Book___eq__ {K : PySem.W.Frag} {mg : Str → Option Value} (T : Top K mg) : ∀ vs H Q E, sp_Book___eq__ K vs H Q E → t_Book___eq__ K { nx := fun _ H' => Q .non H', rt := Q } (start nm_Book___eq__ vs) H := by
  rintro vs H Q E ⟨b, D, y, rfl, hB, hy⟩
  rw [start_Book___eq__]
  unfold t_Book___eq__ t_Book___eq___1
  rcases hy with ⟨b', D', rfl, hB', q⟩ | ⟨hy, q⟩
  · obtain ⟨dx, fs, hb⟩ := hB'.ins
    obtain ⟨dx0, w1, w2, w3, w4, w5, hb0, _, ok0⟩ := id hB
    simp only [tSeq, tAsg, tIfS, tRet, tRetN, tDrop, tNext, tPar, tPar3, gName, gSub, gTup, gCons, gNil, zV, tC, tOp, tUn, tCons, tNil, tLst, tTup, tIf, tAnd, tOr, tNot, tYes, zB, zAnd, zOr, zNot, zChain, tDNewK, yAdd, ySub, yMul, yDiv, yMod, yPow, yNeg, yLt, yLe, yGt, yGe, yEq, yNe, yIs0, yNotIs0, yIx, ySet, yIn, sqAt, isNone, zFld, zSetF, insAt, zMeth, zProp, tCall, tMake, tCB, yLen, yAbs, yMax2, yMin2, yList, yTuple, yDict0, zLM, yApp, isLst, dkAt, keyOf, zGet1, zGet2, zPop1, zPop2, zForR1, zForR2, zForL, zForT, Z.intAt, refAt, zLc, iR1, iR2, iL, iT, wipe, List.getElem?_cons_zero, List.getElem?_cons_succ, List.set_cons_zero, List.set_cons_succ, List.cons_append, List.nil_append, List.append_nil, upd_same, at0, at1, at2, ix0, ix1, ix2, upd_upd, ite_true, ite_false, if_true, if_false, Bool.false_eq_true, decide_true, decide_false, reduceIte, true_and, and_true, Option.isSome_none, Option.isSome_some, Bool.not_false, Bool.not_true, zTupA, zLstA, yAddA, yMulA, sliceA, zS2A, zSAA, zSBA, yListA, yTupleA, zForE, yNeO, yReprB, tMakeN, zSlA, zSlB, wOnly, tCallN, zForR3, zMatch, zCase, zMethS, zRaiseO, yPopAt, zSl2, yIsiT, tysAt, zBInit, zOst, tXf, wAs, tMkO, zFmt, zJs, zJoin, yStr1, gLst, zCM, zListR1, zListR2, zLenR1, iR3, yInt1, yEqO, yAndO, yInO, yLenO, yReprO, isBl, Z.strAt, yEq0, yNe0, GF.zForG, GF.zLcG, GF.zListG, yIsi, tyAt, clsAt, ki_int_int, ki_bool_int, ki_none_int, ki_str_int, ki_list_int, ki_tuple_int, ki_int_bool, ki_bool_bool, ki_none_bool, ki_str_bool, ki_list_bool, ki_tuple_bool, zMakeV, tRz, zNever, hb, T.ki_Book_Book, hb0]
    refine ⟨T.i_Book, no_Book_duties _ _ _ _ _, b, D, rfl, hB, fun t H1 s1 d1 => ?_⟩
    have hB1 := hB'.same s1
    obtain ⟨dx1, u1, u2, u3, u4, u5, hb1, _, ok1⟩ := id hB1
    simp only [tSeq, tAsg, tIfS, tRet, tRetN, tDrop, tNext, tPar, tPar3, gName, gSub, gTup, gCons, gNil, zV, tC, tOp, tUn, tCons, tNil, tLst, tTup, tIf, tAnd, tOr, tNot, tYes, zB, zAnd, zOr, zNot, zChain, tDNewK, yAdd, ySub, yMul, yDiv, yMod, yPow, yNeg, yLt, yLe, yGt, yGe, yEq, yNe, yIs0, yNotIs0, yIx, ySet, yIn, sqAt, isNone, zFld, zSetF, insAt, zMeth, zProp, tCall, tMake, tCB, yLen, yAbs, yMax2, yMin2, yList, yTuple, yDict0, zLM, yApp, isLst, dkAt, keyOf, zGet1, zGet2, zPop1, zPop2, zForR1, zForR2, zForL, zForT, Z.intAt, refAt, zLc, iR1, iR2, iL, iT, wipe, List.getElem?_cons_zero, List.getElem?_cons_succ, List.set_cons_zero, List.set_cons_succ, List.cons_append, List.nil_append, List.append_nil, upd_same, at0, at1, at2, ix0, ix1, ix2, upd_upd, ite_true, ite_false, if_true, if_false, Bool.false_eq_true, decide_true, decide_false, reduceIte, true_and, and_true, Option.isSome_none, Option.isSome_some, Bool.not_false, Bool.not_true, zTupA, zLstA, yAddA, yMulA, sliceA, zS2A, zSAA, zSBA, yListA, yTupleA, zForE, yNeO, yReprB, tMakeN, zSlA, zSlB, wOnly, tCallN, zForR3, zMatch, zCase, zMethS, zRaiseO, yPopAt, zSl2, yIsiT, tysAt, zBInit, zOst, tXf, wAs, tMkO, zFmt, zJs, zJoin, yStr1, gLst, zCM, zListR1, zListR2, zLenR1, iR3, yInt1, yEqO, yAndO, yInO, yLenO, yReprO, isBl, Z.strAt, yEq0, yNe0, GF.zForG, GF.zLcG, GF.zListG, yIsi, tyAt, clsAt, ki_int_int, ki_bool_int, ki_none_int, ki_str_int, ki_list_int, ki_tuple_int, ki_int_bool, ki_bool_bool, ki_none_bool, ki_str_bool, ki_list_bool, ki_tuple_bool, zMakeV, tRz, zNever, hb1]
    refine ⟨no_Book_duties _ _ _ _ _, b', D', rfl, hB1, fun t2 H2 s2 d2 => ?_⟩
    exact ⟨_, _, dp_same s2 _ _ d1, d2, (duties_shaped ok0).1, (duties_shaped ok1).1, by simp only [PyData.eqv]; exact q _ (s1.trans s2)⟩
  · rcases hy with ⟨i, rfl⟩ | ⟨c, rfl⟩ | rfl | ⟨z, rfl⟩ | ⟨a, xs, rfl, ha⟩ | ⟨a, xs, rfl, ha⟩ | ⟨a, dx, fs, rfl, ha⟩
    · simp only [tSeq, tAsg, tIfS, tRet, tRetN, tDrop, tNext, tPar, tPar3, gName, gSub, gTup, gCons, gNil, zV, tC, tOp, tUn, tCons, tNil, tLst, tTup, tIf, tAnd, tOr, tNot, tYes, zB, zAnd, zOr, zNot, zChain, tDNewK, yAdd, ySub, yMul, yDiv, yMod, yPow, yNeg, yLt, yLe, yGt, yGe, yEq, yNe, yIs0, yNotIs0, yIx, ySet, yIn, sqAt, isNone, zFld, zSetF, insAt, zMeth, zProp, tCall, tMake, tCB, yLen, yAbs, yMax2, yMin2, yList, yTuple, yDict0, zLM, yApp, isLst, dkAt, keyOf, zGet1, zGet2, zPop1, zPop2, zForR1, zForR2, zForL, zForT, Z.intAt, refAt, zLc, iR1, iR2, iL, iT, wipe, List.getElem?_cons_zero, List.getElem?_cons_succ, List.set_cons_zero, List.set_cons_succ, List.cons_append, List.nil_append, List.append_nil, upd_same, at0, at1, at2, ix0, ix1, ix2, upd_upd, ite_true, ite_false, if_true, if_false, Bool.false_eq_true, decide_true, decide_false, reduceIte, true_and, and_true, Option.isSome_none, Option.isSome_some, Bool.not_false, Bool.not_true, zTupA, zLstA, yAddA, yMulA, sliceA, zS2A, zSAA, zSBA, yListA, yTupleA, zForE, yNeO, yReprB, tMakeN, zSlA, zSlB, wOnly, tCallN, zForR3, zMatch, zCase, zMethS, zRaiseO, yPopAt, zSl2, yIsiT, tysAt, zBInit, zOst, tXf, wAs, tMkO, zFmt, zJs, zJoin, yStr1, gLst, zCM, zListR1, zListR2, zLenR1, iR3, yInt1, yEqO, yAndO, yInO, yLenO, yReprO, isBl, Z.strAt, yEq0, yNe0, GF.zForG, GF.zLcG, GF.zListG, yIsi, tyAt, clsAt, ki_int_int, ki_bool_int, ki_none_int, ki_str_int, ki_list_int, ki_tuple_int, ki_int_bool, ki_bool_bool, ki_none_bool, ki_str_bool, ki_list_bool, ki_tuple_bool, zMakeV, tRz, zNever, T.kb_int_Book]
      exact q
    · simp only [tSeq, tAsg, tIfS, tRet, tRetN, tDrop, tNext, tPar, tPar3, gName, gSub, gTup, gCons, gNil, zV, tC, tOp, tUn, tCons, tNil, tLst, tTup, tIf, tAnd, tOr, tNot, tYes, zB, zAnd, zOr, zNot, zChain, tDNewK, yAdd, ySub, yMul, yDiv, yMod, yPow, yNeg, yLt, yLe, yGt, yGe, yEq, yNe, yIs0, yNotIs0, yIx, ySet, yIn, sqAt, isNone, zFld, zSetF, insAt, zMeth, zProp, tCall, tMake, tCB, yLen, yAbs, yMax2, yMin2, yList, yTuple, yDict0, zLM, yApp, isLst, dkAt, keyOf, zGet1, zGet2, zPop1, zPop2, zForR1, zForR2, zForL, zForT, Z.intAt, refAt, zLc, iR1, iR2, iL, iT, wipe, List.getElem?_cons_zero, List.getElem?_cons_succ, List.set_cons_zero, List.set_cons_succ, List.cons_append, List.nil_append, List.append_nil, upd_same, at0, at1, at2, ix0, ix1, ix2, upd_upd, ite_true, ite_false, if_true, if_false, Bool.false_eq_true, decide_true, decide_false, reduceIte, true_and, and_true, Option.isSome_none, Option.isSome_some, Bool.not_false, Bool.not_true, zTupA, zLstA, yAddA, yMulA, sliceA, zS2A, zSAA, zSBA, yListA, yTupleA, zForE, yNeO, yReprB, tMakeN, zSlA, zSlB, wOnly, tCallN, zForR3, zMatch, zCase, zMethS, zRaiseO, yPopAt, zSl2, yIsiT, tysAt, zBInit, zOst, tXf, wAs, tMkO, zFmt, zJs, zJoin, yStr1, gLst, zCM, zListR1, zListR2, zLenR1, iR3, yInt1, yEqO, yAndO, yInO, yLenO, yReprO, isBl, Z.strAt, yEq0, yNe0, GF.zForG, GF.zLcG, GF.zListG, yIsi, tyAt, clsAt, ki_int_int, ki_bool_int, ki_none_int, ki_str_int, ki_list_int, ki_tuple_int, ki_int_bool, ki_bool_bool, ki_none_bool, ki_str_bool, ki_list_bool, ki_tuple_bool, zMakeV, tRz, zNever, T.kb_bool_Book]
      exact q
    · simp only [tSeq, tAsg, tIfS, tRet, tRetN, tDrop, tNext, tPar, tPar3, gName, gSub, gTup, gCons, gNil, zV, tC, tOp, tUn, tCons, tNil, tLst, tTup, tIf, tAnd, tOr, tNot, tYes, zB, zAnd, zOr, zNot, zChain, tDNewK, yAdd, ySub, yMul, yDiv, yMod, yPow, yNeg, yLt, yLe, yGt, yGe, yEq, yNe, yIs0, yNotIs0, yIx, ySet, yIn, sqAt, isNone, zFld, zSetF, insAt, zMeth, zProp, tCall, tMake, tCB, yLen, yAbs, yMax2, yMin2, yList, yTuple, yDict0, zLM, yApp, isLst, dkAt, keyOf, zGet1, zGet2, zPop1, zPop2, zForR1, zForR2, zForL, zForT, Z.intAt, refAt, zLc, iR1, iR2, iL, iT, wipe, List.getElem?_cons_zero, List.getElem?_cons_succ, List.set_cons_zero, List.set_cons_succ, List.cons_append, List.nil_append, List.append_nil, upd_same, at0, at1, at2, ix0, ix1, ix2, upd_upd, ite_true, ite_false, if_true, if_false, Bool.false_eq_true, decide_true, decide_false, reduceIte, true_and, and_true, Option.isSome_none, Option.isSome_some, Bool.not_false, Bool.not_true, zTupA, zLstA, yAddA, yMulA, sliceA, zS2A, zSAA, zSBA, yListA, yTupleA, zForE, yNeO, yReprB, tMakeN, zSlA, zSlB, wOnly, tCallN, zForR3, zMatch, zCase, zMethS, zRaiseO, yPopAt, zSl2, yIsiT, tysAt, zBInit, zOst, tXf, wAs, tMkO, zFmt, zJs, zJoin, yStr1, gLst, zCM, zListR1, zListR2, zLenR1, iR3, yInt1, yEqO, yAndO, yInO, yLenO, yReprO, isBl, Z.strAt, yEq0, yNe0, GF.zForG, GF.zLcG, GF.zListG, yIsi, tyAt, clsAt, ki_int_int, ki_bool_int, ki_none_int, ki_str_int, ki_list_int, ki_tuple_int, ki_int_bool, ki_bool_bool, ki_none_bool, ki_str_bool, ki_list_bool, ki_tuple_bool, zMakeV, tRz, zNever, T.kb_NoneType_Book]
      exact q
    · simp only [tSeq, tAsg, tIfS, tRet, tRetN, tDrop, tNext, tPar, tPar3, gName, gSub, gTup, gCons, gNil, zV, tC, tOp, tUn, tCons, tNil, tLst, tTup, tIf, tAnd, tOr, tNot, tYes, zB, zAnd, zOr, zNot, zChain, tDNewK, yAdd, ySub, yMul, yDiv, yMod, yPow, yNeg, yLt, yLe, yGt, yGe, yEq, yNe, yIs0, yNotIs0, yIx, ySet, yIn, sqAt, isNone, zFld, zSetF, insAt, zMeth, zProp, tCall, tMake, tCB, yLen, yAbs, yMax2, yMin2, yList, yTuple, yDict0, zLM, yApp, isLst, dkAt, keyOf, zGet1, zGet2, zPop1, zPop2, zForR1, zForR2, zForL, zForT, Z.intAt, refAt, zLc, iR1, iR2, iL, iT, wipe, List.getElem?_cons_zero, List.getElem?_cons_succ, List.set_cons_zero, List.set_cons_succ, List.cons_append, List.nil_append, List.append_nil, upd_same, at0, at1, at2, ix0, ix1, ix2, upd_upd, ite_true, ite_false, if_true, if_false, Bool.false_eq_true, decide_true, decide_false, reduceIte, true_and, and_true, Option.isSome_none, Option.isSome_some, Bool.not_false, Bool.not_true, zTupA, zLstA, yAddA, yMulA, sliceA, zS2A, zSAA, zSBA, yListA, yTupleA, zForE, yNeO, yReprB, tMakeN, zSlA, zSlB, wOnly, tCallN, zForR3, zMatch, zCase, zMethS, zRaiseO, yPopAt, zSl2, yIsiT, tysAt, zBInit, zOst, tXf, wAs, tMkO, zFmt, zJs, zJoin, yStr1, gLst, zCM, zListR1, zListR2, zLenR1, iR3, yInt1, yEqO, yAndO, yInO, yLenO, yReprO, isBl, Z.strAt, yEq0, yNe0, GF.zForG, GF.zLcG, GF.zListG, yIsi, tyAt, clsAt, ki_int_int, ki_bool_int, ki_none_int, ki_str_int, ki_list_int, ki_tuple_int, ki_int_bool, ki_bool_bool, ki_none_bool, ki_str_bool, ki_list_bool, ki_tuple_bool, zMakeV, tRz, zNever, T.kb_str_Book]
      exact q
    · simp only [tSeq, tAsg, tIfS, tRet, tRetN, tDrop, tNext, tPar, tPar3, gName, gSub, gTup, gCons, gNil, zV, tC, tOp, tUn, tCons, tNil, tLst, tTup, tIf, tAnd, tOr, tNot, tYes, zB, zAnd, zOr, zNot, zChain, tDNewK, yAdd, ySub, yMul, yDiv, yMod, yPow, yNeg, yLt, yLe, yGt, yGe, yEq, yNe, yIs0, yNotIs0, yIx, ySet, yIn, sqAt, isNone, zFld, zSetF, insAt, zMeth, zProp, tCall, tMake, tCB, yLen, yAbs, yMax2, yMin2, yList, yTuple, yDict0, zLM, yApp, isLst, dkAt, keyOf, zGet1, zGet2, zPop1, zPop2, zForR1, zForR2, zForL, zForT, Z.intAt, refAt, zLc, iR1, iR2, iL, iT, wipe, List.getElem?_cons_zero, List.getElem?_cons_succ, List.set_cons_zero, List.set_cons_succ, List.cons_append, List.nil_append, List.append_nil, upd_same, at0, at1, at2, ix0, ix1, ix2, upd_upd, ite_true, ite_false, if_true, if_false, Bool.false_eq_true, decide_true, decide_false, reduceIte, true_and, and_true, Option.isSome_none, Option.isSome_some, Bool.not_false, Bool.not_true, zTupA, zLstA, yAddA, yMulA, sliceA, zS2A, zSAA, zSBA, yListA, yTupleA, zForE, yNeO, yReprB, tMakeN, zSlA, zSlB, wOnly, tCallN, zForR3, zMatch, zCase, zMethS, zRaiseO, yPopAt, zSl2, yIsiT, tysAt, zBInit, zOst, tXf, wAs, tMkO, zFmt, zJs, zJoin, yStr1, gLst, zCM, zListR1, zListR2, zLenR1, iR3, yInt1, yEqO, yAndO, yInO, yLenO, yReprO, isBl, Z.strAt, yEq0, yNe0, GF.zForG, GF.zLcG, GF.zListG, yIsi, tyAt, clsAt, ki_int_int, ki_bool_int, ki_none_int, ki_str_int, ki_list_int, ki_tuple_int, ki_int_bool, ki_bool_bool, ki_none_bool, ki_str_bool, ki_list_bool, ki_tuple_bool, zMakeV, tRz, zNever, ha, T.kb_list_Book]
      exact q
    · simp only [tSeq, tAsg, tIfS, tRet, tRetN, tDrop, tNext, tPar, tPar3, gName, gSub, gTup, gCons, gNil, zV, tC, tOp, tUn, tCons, tNil, tLst, tTup, tIf, tAnd, tOr, tNot, tYes, zB, zAnd, zOr, zNot, zChain, tDNewK, yAdd, ySub, yMul, yDiv, yMod, yPow, yNeg, yLt, yLe, yGt, yGe, yEq, yNe, yIs0, yNotIs0, yIx, ySet, yIn, sqAt, isNone, zFld, zSetF, insAt, zMeth, zProp, tCall, tMake, tCB, yLen, yAbs, yMax2, yMin2, yList, yTuple, yDict0, zLM, yApp, isLst, dkAt, keyOf, zGet1, zGet2, zPop1, zPop2, zForR1, zForR2, zForL, zForT, Z.intAt, refAt, zLc, iR1, iR2, iL, iT, wipe, List.getElem?_cons_zero, List.getElem?_cons_succ, List.set_cons_zero, List.set_cons_succ, List.cons_append, List.nil_append, List.append_nil, upd_same, at0, at1, at2, ix0, ix1, ix2, upd_upd, ite_true, ite_false, if_true, if_false, Bool.false_eq_true, decide_true, decide_false, reduceIte, true_and, and_true, Option.isSome_none, Option.isSome_some, Bool.not_false, Bool.not_true, zTupA, zLstA, yAddA, yMulA, sliceA, zS2A, zSAA, zSBA, yListA, yTupleA, zForE, yNeO, yReprB, tMakeN, zSlA, zSlB, wOnly, tCallN, zForR3, zMatch, zCase, zMethS, zRaiseO, yPopAt, zSl2, yIsiT, tysAt, zBInit, zOst, tXf, wAs, tMkO, zFmt, zJs, zJoin, yStr1, gLst, zCM, zListR1, zListR2, zLenR1, iR3, yInt1, yEqO, yAndO, yInO, yLenO, yReprO, isBl, Z.strAt, yEq0, yNe0, GF.zForG, GF.zLcG, GF.zListG, yIsi, tyAt, clsAt, ki_int_int, ki_bool_int, ki_none_int, ki_str_int, ki_list_int, ki_tuple_int, ki_int_bool, ki_bool_bool, ki_none_bool, ki_str_bool, ki_list_bool, ki_tuple_bool, zMakeV, tRz, zNever, ha, T.kb_tuple_Book]
      exact q
    · simp only [tSeq, tAsg, tIfS, tRet, tRetN, tDrop, tNext, tPar, tPar3, gName, gSub, gTup, gCons, gNil, zV, tC, tOp, tUn, tCons, tNil, tLst, tTup, tIf, tAnd, tOr, tNot, tYes, zB, zAnd, zOr, zNot, zChain, tDNewK, yAdd, ySub, yMul, yDiv, yMod, yPow, yNeg, yLt, yLe, yGt, yGe, yEq, yNe, yIs0, yNotIs0, yIx, ySet, yIn, sqAt, isNone, zFld, zSetF, insAt, zMeth, zProp, tCall, tMake, tCB, yLen, yAbs, yMax2, yMin2, yList, yTuple, yDict0, zLM, yApp, isLst, dkAt, keyOf, zGet1, zGet2, zPop1, zPop2, zForR1, zForR2, zForL, zForT, Z.intAt, refAt, zLc, iR1, iR2, iL, iT, wipe, List.getElem?_cons_zero, List.getElem?_cons_succ, List.set_cons_zero, List.set_cons_succ, List.cons_append, List.nil_append, List.append_nil, upd_same, at0, at1, at2, ix0, ix1, ix2, upd_upd, ite_true, ite_false, if_true, if_false, Bool.false_eq_true, decide_true, decide_false, reduceIte, true_and, and_true, Option.isSome_none, Option.isSome_some, Bool.not_false, Bool.not_true, zTupA, zLstA, yAddA, yMulA, sliceA, zS2A, zSAA, zSBA, yListA, yTupleA, zForE, yNeO, yReprB, tMakeN, zSlA, zSlB, wOnly, tCallN, zForR3, zMatch, zCase, zMethS, zRaiseO, yPopAt, zSl2, yIsiT, tysAt, zBInit, zOst, tXf, wAs, tMkO, zFmt, zJs, zJoin, yStr1, gLst, zCM, zListR1, zListR2, zLenR1, iR3, yInt1, yEqO, yAndO, yInO, yLenO, yReprO, isBl, Z.strAt, yEq0, yNe0, GF.zForG, GF.zLcG, GF.zListG, yIsi, tyAt, clsAt, ki_int_int, ki_bool_int, ki_none_int, ki_str_int, ki_list_int, ki_tuple_int, ki_int_bool, ki_bool_bool, ki_none_bool, ki_str_bool, ki_list_bool, ki_tuple_bool, zMakeV, tRz, zNever, ha, T.ki_Setting_Book]
      exact ⟨T.i_Setting, q⟩
theorem rd_Setting_pairs {K : PySem.W.Frag} {mg : Str → Option Value} (T : Top K mg) : ∀ vs H Q E, sp_Setting_pairs K vs H Q E → t_Setting_pairs K { nx := fun _ H' => Q .non H', rt := Q } (start nm_Setting_pairs vs) H := by
  rintro vs H Q E ⟨s, b, S, rfl, ⟨dx, hs, _⟩, q⟩
  rw [start_Setting_pairs]
  unfold t_Setting_pairs t_Setting_pairs_1
  have szl := sizeLine_eq
  simp only [tSeq, tAsg, tIfS, tRet, tRetN, tDrop, tNext, tPar, tPar3, gName, gSub, gTup, gCons, gNil, zV, tC, tOp, tUn, tCons, tNil, tLst, tTup, tIf, tAnd, tOr, tNot, tYes, zB, zAnd, zOr, zNot, zChain, tDNewK, yAdd, ySub, yMul, yDiv, yMod, yPow, yNeg, yLt, yLe, yGt, yGe, yEq, yNe, yIs0, yNotIs0, yIx, ySet, yIn, sqAt, isNone, zFld, zSetF, insAt, zMeth, zProp, tCall, tMake, tCB, yLen, yAbs, yMax2, yMin2, yList, yTuple, yDict0, zLM, yApp, isLst, dkAt, keyOf, zGet1, zGet2, zPop1, zPop2, zForR1, zForR2, zForL, zForT, Z.intAt, refAt, zLc, iR1, iR2, iL, iT, wipe, List.getElem?_cons_zero, List.getElem?_cons_succ, List.set_cons_zero, List.set_cons_succ, List.cons_append, List.nil_append, List.append_nil, upd_same, at0, at1, at2, ix0, ix1, ix2, upd_upd, ite_true, ite_false, if_true, if_false, Bool.false_eq_true, decide_true, decide_false, reduceIte, true_and, and_true, Option.isSome_none, Option.isSome_some, Bool.not_false, Bool.not_true, zTupA, zLstA, yAddA, yMulA, sliceA, zS2A, zSAA, zSBA, yListA, yTupleA, zForE, yNeO, yReprB, tMakeN, zSlA, zSlB, wOnly, tCallN, zForR3, zMatch, zCase, zMethS, zRaiseO, yPopAt, zSl2, yIsiT, tysAt, zBInit, zOst, tXf, wAs, tMkO, zFmt, zJs, zJoin, yStr1, gLst, zCM, zListR1, zListR2, zLenR1, iR3, yInt1, yEqO, yAndO, yInO, yLenO, yReprO, isBl, Z.strAt, yEq0, yNe0, GF.zForG, GF.zLcG, GF.zListG, yIsi, tyAt, clsAt, ki_int_int, ki_bool_int, ki_none_int, ki_str_int, ki_list_int, ki_tuple_int, ki_int_bool, ki_bool_bool, ki_none_bool, ki_str_bool, ki_list_bool, ki_tuple_bool, zMakeV, tRz, zNever, hs, lk_Setting_copies]
  refine ⟨⟨T.cl_Setting, T.na_Setting_copies⟩, by show 3 ≤ sizeLine; omega, fun p1 H1 _ s1 h1 => ?_⟩
  have hs1 := s1 _ _ hs
  simp only [tSeq, tAsg, tIfS, tRet, tRetN, tDrop, tNext, tPar, tPar3, gName, gSub, gTup, gCons, gNil, zV, tC, tOp, tUn, tCons, tNil, tLst, tTup, tIf, tAnd, tOr, tNot, tYes, zB, zAnd, zOr, zNot, zChain, tDNewK, yAdd, ySub, yMul, yDiv, yMod, yPow, yNeg, yLt, yLe, yGt, yGe, yEq, yNe, yIs0, yNotIs0, yIx, ySet, yIn, sqAt, isNone, zFld, zSetF, insAt, zMeth, zProp, tCall, tMake, tCB, yLen, yAbs, yMax2, yMin2, yList, yTuple, yDict0, zLM, yApp, isLst, dkAt, keyOf, zGet1, zGet2, zPop1, zPop2, zForR1, zForR2, zForL, zForT, Z.intAt, refAt, zLc, iR1, iR2, iL, iT, wipe, List.getElem?_cons_zero, List.getElem?_cons_succ, List.set_cons_zero, List.set_cons_succ, List.cons_append, List.nil_append, List.append_nil, upd_same, at0, at1, at2, ix0, ix1, ix2, upd_upd, ite_true, ite_false, if_true, if_false, Bool.false_eq_true, decide_true, decide_false, reduceIte, true_and, and_true, Option.isSome_none, Option.isSome_some, Bool.not_false, Bool.not_true, zTupA, zLstA, yAddA, yMulA, sliceA, zS2A, zSAA, zSBA, yListA, yTupleA, zForE, yNeO, yReprB, tMakeN, zSlA, zSlB, wOnly, tCallN, zForR3, zMatch, zCase, zMethS, zRaiseO, yPopAt, zSl2, yIsiT, tysAt, zBInit, zOst, tXf, wAs, tMkO, zFmt, zJs, zJoin, yStr1, gLst, zCM, zListR1, zListR2, zLenR1, iR3, yInt1, yEqO, yAndO, yInO, yLenO, yReprO, isBl, Z.strAt, yEq0, yNe0, GF.zForG, GF.zLcG, GF.zListG, yIsi, tyAt, clsAt, ki_int_int, ki_bool_int, ki_none_int, ki_str_int, ki_list_int, ki_tuple_int, ki_int_bool, ki_bool_bool, ki_none_bool, ki_str_bool, ki_list_bool, ki_tuple_bool, zMakeV, tRz, zNever, hs1, lk_Setting_cached]
  refine ⟨⟨T.cl_Setting, T.na_Setting_cached⟩, by show 3 ≤ sizeLine; omega, fun p2 H2 _ s2 h2 => ?_⟩
  have hs2 := s2 _ _ hs1
  simp only [tSeq, tAsg, tIfS, tRet, tRetN, tDrop, tNext, tPar, tPar3, gName, gSub, gTup, gCons, gNil, zV, tC, tOp, tUn, tCons, tNil, tLst, tTup, tIf, tAnd, tOr, tNot, tYes, zB, zAnd, zOr, zNot, zChain, tDNewK, yAdd, ySub, yMul, yDiv, yMod, yPow, yNeg, yLt, yLe, yGt, yGe, yEq, yNe, yIs0, yNotIs0, yIx, ySet, yIn, sqAt, isNone, zFld, zSetF, insAt, zMeth, zProp, tCall, tMake, tCB, yLen, yAbs, yMax2, yMin2, yList, yTuple, yDict0, zLM, yApp, isLst, dkAt, keyOf, zGet1, zGet2, zPop1, zPop2, zForR1, zForR2, zForL, zForT, Z.intAt, refAt, zLc, iR1, iR2, iL, iT, wipe, List.getElem?_cons_zero, List.getElem?_cons_succ, List.set_cons_zero, List.set_cons_succ, List.cons_append, List.nil_append, List.append_nil, upd_same, at0, at1, at2, ix0, ix1, ix2, upd_upd, ite_true, ite_false, if_true, if_false, Bool.false_eq_true, decide_true, decide_false, reduceIte, true_and, and_true, Option.isSome_none, Option.isSome_some, Bool.not_false, Bool.not_true, zTupA, zLstA, yAddA, yMulA, sliceA, zS2A, zSAA, zSBA, yListA, yTupleA, zForE, yNeO, yReprB, tMakeN, zSlA, zSlB, wOnly, tCallN, zForR3, zMatch, zCase, zMethS, zRaiseO, yPopAt, zSl2, yIsiT, tysAt, zBInit, zOst, tXf, wAs, tMkO, zFmt, zJs, zJoin, yStr1, gLst, zCM, zListR1, zListR2, zLenR1, iR3, yInt1, yEqO, yAndO, yInO, yLenO, yReprO, isBl, Z.strAt, yEq0, yNe0, GF.zForG, GF.zLcG, GF.zListG, yIsi, tyAt, clsAt, ki_int_int, ki_bool_int, ki_none_int, ki_str_int, ki_list_int, ki_tuple_int, ki_int_bool, ki_bool_bool, ki_none_bool, ki_str_bool, ki_list_bool, ki_tuple_bool, zMakeV, tRz, zNever, hs2, lk_Setting_batch]
  refine ⟨⟨T.cl_Setting, T.na_Setting_batch⟩, by show 3 ≤ sizeLine; omega, fun p3 H3 _ s3 h3 => ⟨by show 3 ≤ sizeLine; omega, fun l1 H4 _ s4 h4 => ?_⟩⟩
  have hs4 := (s3.trans s4) _ _ hs2
  unfold t_Setting_pairs_2
  simp only [tSeq, tAsg, tIfS, tRet, tRetN, tDrop, tNext, tPar, tPar3, gName, gSub, gTup, gCons, gNil, zV, tC, tOp, tUn, tCons, tNil, tLst, tTup, tIf, tAnd, tOr, tNot, tYes, zB, zAnd, zOr, zNot, zChain, tDNewK, yAdd, ySub, yMul, yDiv, yMod, yPow, yNeg, yLt, yLe, yGt, yGe, yEq, yNe, yIs0, yNotIs0, yIx, ySet, yIn, sqAt, isNone, zFld, zSetF, insAt, zMeth, zProp, tCall, tMake, tCB, yLen, yAbs, yMax2, yMin2, yList, yTuple, yDict0, zLM, yApp, isLst, dkAt, keyOf, zGet1, zGet2, zPop1, zPop2, zForR1, zForR2, zForL, zForT, Z.intAt, refAt, zLc, iR1, iR2, iL, iT, wipe, List.getElem?_cons_zero, List.getElem?_cons_succ, List.set_cons_zero, List.set_cons_succ, List.cons_append, List.nil_append, List.append_nil, upd_same, at0, at1, at2, ix0, ix1, ix2, upd_upd, ite_true, ite_false, if_true, if_false, Bool.false_eq_true, decide_true, decide_false, reduceIte, true_and, and_true, Option.isSome_none, Option.isSome_some, Bool.not_false, Bool.not_true, zTupA, zLstA, yAddA, yMulA, sliceA, zS2A, zSAA, zSBA, yListA, yTupleA, zForE, yNeO, yReprB, tMakeN, zSlA, zSlB, wOnly, tCallN, zForR3, zMatch, zCase, zMethS, zRaiseO, yPopAt, zSl2, yIsiT, tysAt, zBInit, zOst, tXf, wAs, tMkO, zFmt, zJs, zJoin, yStr1, gLst, zCM, zListR1, zListR2, zLenR1, iR3, yInt1, yEqO, yAndO, yInO, yLenO, yReprO, isBl, Z.strAt, yEq0, yNe0, GF.zForG, GF.zLcG, GF.zListG, yIsi, tyAt, clsAt, ki_int_int, ki_bool_int, ki_none_int, ki_str_int, ki_list_int, ki_tuple_int, ki_int_bool, ki_bool_bool, ki_none_bool, ki_str_bool, ki_list_bool, ki_tuple_bool, zMakeV, tRz, zNever, hs4, lk_Setting_early]
  refine ⟨⟨T.cl_Setting, T.na_Setting_early⟩, by show 3 ≤ sizeLine; omega, fun p5 H5 _ s5 h5 => ?_⟩
  have hs5 := s5 _ _ hs4
  simp only [tSeq, tAsg, tIfS, tRet, tRetN, tDrop, tNext, tPar, tPar3, gName, gSub, gTup, gCons, gNil, zV, tC, tOp, tUn, tCons, tNil, tLst, tTup, tIf, tAnd, tOr, tNot, tYes, zB, zAnd, zOr, zNot, zChain, tDNewK, yAdd, ySub, yMul, yDiv, yMod, yPow, yNeg, yLt, yLe, yGt, yGe, yEq, yNe, yIs0, yNotIs0, yIx, ySet, yIn, sqAt, isNone, zFld, zSetF, insAt, zMeth, zProp, tCall, tMake, tCB, yLen, yAbs, yMax2, yMin2, yList, yTuple, yDict0, zLM, yApp, isLst, dkAt, keyOf, zGet1, zGet2, zPop1, zPop2, zForR1, zForR2, zForL, zForT, Z.intAt, refAt, zLc, iR1, iR2, iL, iT, wipe, List.getElem?_cons_zero, List.getElem?_cons_succ, List.set_cons_zero, List.set_cons_succ, List.cons_append, List.nil_append, List.append_nil, upd_same, at0, at1, at2, ix0, ix1, ix2, upd_upd, ite_true, ite_false, if_true, if_false, Bool.false_eq_true, decide_true, decide_false, reduceIte, true_and, and_true, Option.isSome_none, Option.isSome_some, Bool.not_false, Bool.not_true, zTupA, zLstA, yAddA, yMulA, sliceA, zS2A, zSAA, zSBA, yListA, yTupleA, zForE, yNeO, yReprB, tMakeN, zSlA, zSlB, wOnly, tCallN, zForR3, zMatch, zCase, zMethS, zRaiseO, yPopAt, zSl2, yIsiT, tysAt, zBInit, zOst, tXf, wAs, tMkO, zFmt, zJs, zJoin, yStr1, gLst, zCM, zListR1, zListR2, zLenR1, iR3, yInt1, yEqO, yAndO, yInO, yLenO, yReprO, isBl, Z.strAt, yEq0, yNe0, GF.zForG, GF.zLcG, GF.zListG, yIsi, tyAt, clsAt, ki_int_int, ki_bool_int, ki_none_int, ki_str_int, ki_list_int, ki_tuple_int, ki_int_bool, ki_bool_bool, ki_none_bool, ki_str_bool, ki_list_bool, ki_tuple_bool, zMakeV, tRz, zNever, hs5, lk_Setting_drain]
  refine ⟨⟨T.cl_Setting, T.na_Setting_drain⟩, by show 3 ≤ sizeLine; omega, fun p6 H6 _ s6 h6 => ?_⟩
  have hs6 := s6 _ _ hs5
  simp only [tSeq, tAsg, tIfS, tRet, tRetN, tDrop, tNext, tPar, tPar3, gName, gSub, gTup, gCons, gNil, zV, tC, tOp, tUn, tCons, tNil, tLst, tTup, tIf, tAnd, tOr, tNot, tYes, zB, zAnd, zOr, zNot, zChain, tDNewK, yAdd, ySub, yMul, yDiv, yMod, yPow, yNeg, yLt, yLe, yGt, yGe, yEq, yNe, yIs0, yNotIs0, yIx, ySet, yIn, sqAt, isNone, zFld, zSetF, insAt, zMeth, zProp, tCall, tMake, tCB, yLen, yAbs, yMax2, yMin2, yList, yTuple, yDict0, zLM, yApp, isLst, dkAt, keyOf, zGet1, zGet2, zPop1, zPop2, zForR1, zForR2, zForL, zForT, Z.intAt, refAt, zLc, iR1, iR2, iL, iT, wipe, List.getElem?_cons_zero, List.getElem?_cons_succ, List.set_cons_zero, List.set_cons_succ, List.cons_append, List.nil_append, List.append_nil, upd_same, at0, at1, at2, ix0, ix1, ix2, upd_upd, ite_true, ite_false, if_true, if_false, Bool.false_eq_true, decide_true, decide_false, reduceIte, true_and, and_true, Option.isSome_none, Option.isSome_some, Bool.not_false, Bool.not_true, zTupA, zLstA, yAddA, yMulA, sliceA, zS2A, zSAA, zSBA, yListA, yTupleA, zForE, yNeO, yReprB, tMakeN, zSlA, zSlB, wOnly, tCallN, zForR3, zMatch, zCase, zMethS, zRaiseO, yPopAt, zSl2, yIsiT, tysAt, zBInit, zOst, tXf, wAs, tMkO, zFmt, zJs, zJoin, yStr1, gLst, zCM, zListR1, zListR2, zLenR1, iR3, yInt1, yEqO, yAndO, yInO, yLenO, yReprO, isBl, Z.strAt, yEq0, yNe0, GF.zForG, GF.zLcG, GF.zListG, yIsi, tyAt, clsAt, ki_int_int, ki_bool_int, ki_none_int, ki_str_int, ki_list_int, ki_tuple_int, ki_int_bool, ki_bool_bool, ki_none_bool, ki_str_bool, ki_list_bool, ki_tuple_bool, zMakeV, tRz, zNever, hs6, lk_Setting_policy]
  refine ⟨⟨T.cl_Setting, T.na_Setting_policy⟩, by show 3 ≤ sizeLine; omega, fun p7 H7 _ s7 h7 => ⟨by show 3 ≤ sizeLine; omega, fun l2 H8 _ s8 h8 => ?_⟩⟩
  have h48 := (((s5.trans s6).trans s7).trans s8) _ _ h4
  simp only [tSeq, tAsg, tIfS, tRet, tRetN, tDrop, tNext, tPar, tPar3, gName, gSub, gTup, gCons, gNil, zV, tC, tOp, tUn, tCons, tNil, tLst, tTup, tIf, tAnd, tOr, tNot, tYes, zB, zAnd, zOr, zNot, zChain, tDNewK, yAdd, ySub, yMul, yDiv, yMod, yPow, yNeg, yLt, yLe, yGt, yGe, yEq, yNe, yIs0, yNotIs0, yIx, ySet, yIn, sqAt, isNone, zFld, zSetF, insAt, zMeth, zProp, tCall, tMake, tCB, yLen, yAbs, yMax2, yMin2, yList, yTuple, yDict0, zLM, yApp, isLst, dkAt, keyOf, zGet1, zGet2, zPop1, zPop2, zForR1, zForR2, zForL, zForT, Z.intAt, refAt, zLc, iR1, iR2, iL, iT, wipe, List.getElem?_cons_zero, List.getElem?_cons_succ, List.set_cons_zero, List.set_cons_succ, List.cons_append, List.nil_append, List.append_nil, upd_same, at0, at1, at2, ix0, ix1, ix2, upd_upd, ite_true, ite_false, if_true, if_false, Bool.false_eq_true, decide_true, decide_false, reduceIte, true_and, and_true, Option.isSome_none, Option.isSome_some, Bool.not_false, Bool.not_true, zTupA, zLstA, yAddA, yMulA, sliceA, zS2A, zSAA, zSBA, yListA, yTupleA, zForE, yNeO, yReprB, tMakeN, zSlA, zSlB, wOnly, tCallN, zForR3, zMatch, zCase, zMethS, zRaiseO, yPopAt, zSl2, yIsiT, tysAt, zBInit, zOst, tXf, wAs, tMkO, zFmt, zJs, zJoin, yStr1, gLst, zCM, zListR1, zListR2, zLenR1, iR3, yInt1, yEqO, yAndO, yInO, yLenO, yReprO, isBl, Z.strAt, yEq0, yNe0, GF.zForG, GF.zLcG, GF.zListG, yIsi, tyAt, clsAt, ki_int_int, ki_bool_int, ki_none_int, ki_str_int, ki_list_int, ki_tuple_int, ki_int_bool, ki_bool_bool, ki_none_bool, ki_str_bool, ki_list_bool, ki_tuple_bool, zMakeV, tRz, zNever, h48, h8]
  refine ⟨by show 3 + 3 ≤ sizeLine; omega, fun l3 H9 _ s9 h9 => ?_⟩
  have hs9 := ((s7.trans s8).trans s9) _ _ hs6
  unfold t_Setting_pairs_3
  simp only [tSeq, tAsg, tIfS, tRet, tRetN, tDrop, tNext, tPar, tPar3, gName, gSub, gTup, gCons, gNil, zV, tC, tOp, tUn, tCons, tNil, tLst, tTup, tIf, tAnd, tOr, tNot, tYes, zB, zAnd, zOr, zNot, zChain, tDNewK, yAdd, ySub, yMul, yDiv, yMod, yPow, yNeg, yLt, yLe, yGt, yGe, yEq, yNe, yIs0, yNotIs0, yIx, ySet, yIn, sqAt, isNone, zFld, zSetF, insAt, zMeth, zProp, tCall, tMake, tCB, yLen, yAbs, yMax2, yMin2, yList, yTuple, yDict0, zLM, yApp, isLst, dkAt, keyOf, zGet1, zGet2, zPop1, zPop2, zForR1, zForR2, zForL, zForT, Z.intAt, refAt, zLc, iR1, iR2, iL, iT, wipe, List.getElem?_cons_zero, List.getElem?_cons_succ, List.set_cons_zero, List.set_cons_succ, List.cons_append, List.nil_append, List.append_nil, upd_same, at0, at1, at2, ix0, ix1, ix2, upd_upd, ite_true, ite_false, if_true, if_false, Bool.false_eq_true, decide_true, decide_false, reduceIte, true_and, and_true, Option.isSome_none, Option.isSome_some, Bool.not_false, Bool.not_true, zTupA, zLstA, yAddA, yMulA, sliceA, zS2A, zSAA, zSBA, yListA, yTupleA, zForE, yNeO, yReprB, tMakeN, zSlA, zSlB, wOnly, tCallN, zForR3, zMatch, zCase, zMethS, zRaiseO, yPopAt, zSl2, yIsiT, tysAt, zBInit, zOst, tXf, wAs, tMkO, zFmt, zJs, zJoin, yStr1, gLst, zCM, zListR1, zListR2, zLenR1, iR3, yInt1, yEqO, yAndO, yInO, yLenO, yReprO, isBl, Z.strAt, yEq0, yNe0, GF.zForG, GF.zLcG, GF.zListG, yIsi, tyAt, clsAt, ki_int_int, ki_bool_int, ki_none_int, ki_str_int, ki_list_int, ki_tuple_int, ki_int_bool, ki_bool_bool, ki_none_bool, ki_str_bool, ki_list_bool, ki_tuple_bool, zMakeV, tRz, zNever, hs9, lk_Setting_groups]
  refine ⟨⟨T.cl_Setting, T.na_Setting_groups⟩, by show 3 ≤ sizeLine; omega, fun p10 H10 _ s10 h10 => ?_⟩
  have hs10 := s10 _ _ hs9
  simp only [tSeq, tAsg, tIfS, tRet, tRetN, tDrop, tNext, tPar, tPar3, gName, gSub, gTup, gCons, gNil, zV, tC, tOp, tUn, tCons, tNil, tLst, tTup, tIf, tAnd, tOr, tNot, tYes, zB, zAnd, zOr, zNot, zChain, tDNewK, yAdd, ySub, yMul, yDiv, yMod, yPow, yNeg, yLt, yLe, yGt, yGe, yEq, yNe, yIs0, yNotIs0, yIx, ySet, yIn, sqAt, isNone, zFld, zSetF, insAt, zMeth, zProp, tCall, tMake, tCB, yLen, yAbs, yMax2, yMin2, yList, yTuple, yDict0, zLM, yApp, isLst, dkAt, keyOf, zGet1, zGet2, zPop1, zPop2, zForR1, zForR2, zForL, zForT, Z.intAt, refAt, zLc, iR1, iR2, iL, iT, wipe, List.getElem?_cons_zero, List.getElem?_cons_succ, List.set_cons_zero, List.set_cons_succ, List.cons_append, List.nil_append, List.append_nil, upd_same, at0, at1, at2, ix0, ix1, ix2, upd_upd, ite_true, ite_false, if_true, if_false, Bool.false_eq_true, decide_true, decide_false, reduceIte, true_and, and_true, Option.isSome_none, Option.isSome_some, Bool.not_false, Bool.not_true, zTupA, zLstA, yAddA, yMulA, sliceA, zS2A, zSAA, zSBA, yListA, yTupleA, zForE, yNeO, yReprB, tMakeN, zSlA, zSlB, wOnly, tCallN, zForR3, zMatch, zCase, zMethS, zRaiseO, yPopAt, zSl2, yIsiT, tysAt, zBInit, zOst, tXf, wAs, tMkO, zFmt, zJs, zJoin, yStr1, gLst, zCM, zListR1, zListR2, zLenR1, iR3, yInt1, yEqO, yAndO, yInO, yLenO, yReprO, isBl, Z.strAt, yEq0, yNe0, GF.zForG, GF.zLcG, GF.zListG, yIsi, tyAt, clsAt, ki_int_int, ki_bool_int, ki_none_int, ki_str_int, ki_list_int, ki_tuple_int, ki_int_bool, ki_bool_bool, ki_none_bool, ki_str_bool, ki_list_bool, ki_tuple_bool, zMakeV, tRz, zNever, hs10, lk_Setting_tables]
  refine ⟨⟨T.cl_Setting, T.na_Setting_tables⟩, by show 3 ≤ sizeLine; omega, fun p11 H11 _ s11 h11 => ⟨by show 2 ≤ sizeLine; omega, fun l4 H12 _ s12 h12 => ?_⟩⟩
  have h912 := ((s10.trans s11).trans s12) _ _ h9
  simp only [tSeq, tAsg, tIfS, tRet, tRetN, tDrop, tNext, tPar, tPar3, gName, gSub, gTup, gCons, gNil, zV, tC, tOp, tUn, tCons, tNil, tLst, tTup, tIf, tAnd, tOr, tNot, tYes, zB, zAnd, zOr, zNot, zChain, tDNewK, yAdd, ySub, yMul, yDiv, yMod, yPow, yNeg, yLt, yLe, yGt, yGe, yEq, yNe, yIs0, yNotIs0, yIx, ySet, yIn, sqAt, isNone, zFld, zSetF, insAt, zMeth, zProp, tCall, tMake, tCB, yLen, yAbs, yMax2, yMin2, yList, yTuple, yDict0, zLM, yApp, isLst, dkAt, keyOf, zGet1, zGet2, zPop1, zPop2, zForR1, zForR2, zForL, zForT, Z.intAt, refAt, zLc, iR1, iR2, iL, iT, wipe, List.getElem?_cons_zero, List.getElem?_cons_succ, List.set_cons_zero, List.set_cons_succ, List.cons_append, List.nil_append, List.append_nil, upd_same, at0, at1, at2, ix0, ix1, ix2, upd_upd, ite_true, ite_false, if_true, if_false, Bool.false_eq_true, decide_true, decide_false, reduceIte, true_and, and_true, Option.isSome_none, Option.isSome_some, Bool.not_false, Bool.not_true, zTupA, zLstA, yAddA, yMulA, sliceA, zS2A, zSAA, zSBA, yListA, yTupleA, zForE, yNeO, yReprB, tMakeN, zSlA, zSlB, wOnly, tCallN, zForR3, zMatch, zCase, zMethS, zRaiseO, yPopAt, zSl2, yIsiT, tysAt, zBInit, zOst, tXf, wAs, tMkO, zFmt, zJs, zJoin, yStr1, gLst, zCM, zListR1, zListR2, zLenR1, iR3, yInt1, yEqO, yAndO, yInO, yLenO, yReprO, isBl, Z.strAt, yEq0, yNe0, GF.zForG, GF.zLcG, GF.zListG, yIsi, tyAt, clsAt, ki_int_int, ki_bool_int, ki_none_int, ki_str_int, ki_list_int, ki_tuple_int, ki_int_bool, ki_bool_bool, ki_none_bool, ki_str_bool, ki_list_bool, ki_tuple_bool, zMakeV, tRz, zNever, h912, h12]
  refine ⟨by show 6 + 2 ≤ sizeLine; omega, fun l5 H13 _ s13 h13 => ?_⟩
  have t12 := s12.trans s13
  have t11 := s11.trans t12
  have t10 := s10.trans t11
  have t9 := s9.trans t10
  have t8 := s8.trans t9
  have t7 := s7.trans t8
  have t6 := s6.trans t7
  have t5 := s5.trans t6
  have t4 := s4.trans t5
  have t3 := s3.trans t4
  have t2 := s2.trans t3
  refine q l5 H13 (s1.trans t2) (Dp.lst (SqL.of h13) ?_)
  refine .cons (.tup (SqT.of (t2 _ _ h1)) (.cons (.str _) (.cons (.str _) (.cons (.str _) .nil)))) (.cons (.tup (SqT.of (t3 _ _ h2)) (.cons (.str _) (.cons (.bl _) (.cons (.bl _) .nil)))) (.cons (.tup (SqT.of (t4 _ _ h3)) (.cons (.str _) (.cons (.int _) (.cons (.int _) .nil)))) ?_))
  refine .cons (.tup (SqT.of (t6 _ _ h5)) (.cons (.str _) (.cons (.bl _) (.cons (.bl _) .nil)))) (.cons (.tup (SqT.of (t7 _ _ h6)) (.cons (.str _) (.cons (.bl _) (.cons (.bl _) .nil)))) (.cons (.tup (SqT.of (t8 _ _ h7)) (.cons (.str _) (.cons (.str _) (.cons (.str _) .nil)))) ?_))
  exact .cons (.tup (SqT.of (t11 _ _ h10)) (.cons (.str _) (.cons (.int _) (.cons (.int _) .nil)))) (.cons (.tup (SqT.of (t12 _ _ h11)) (.cons (.str _) (.cons (.int _) (.cons (.int _) .nil)))) .nil)
theorem copies_ok {z : Str} (h : z ∈ (["none", "ends", "all"] : List Str)) : PyData.strOk z = true := by
  have all : ∀ z ∈ (["none", "ends", "all"] : List Str), PyData.strOk z = true := by decide +kernel
  exact all z h
theorem policy_ok {z : Str} (h : z ∈ (["first", "best", "worst", "next", "halves"] : List Str)) : PyData.strOk z = true := by
  have all : ∀ z ∈ (["first", "best", "worst", "next", "halves"] : List Str), PyData.strOk z = true := by decide +kernel
  exact all z h
theorem word_ok : ∀ z ∈ (["copies", "cached", "batch", "early", "drain", "policy", "groups", "tables", "none", "first"] : List Str), PyData.strOk z = true := by decide +kernel
theorem pairs_shaped' {S : Sett} (h : SettOk S) : SeqAt.shaped (pairsD S) = true := by
  have c := copies_ok h.1
  have p := policy_ok h.2.2.1
  have w := fun z hz => word_ok z hz
  refine shaped_of (n := 2) (lay_list fun x hx => ?_) (depth_list (n := 1) fun x hx => ?_) (by decide)
  · simp only [List.mem_cons, List.not_mem_nil, or_false] at hx
    rcases hx with rfl | rfl | rfl | rfl | rfl | rfl | rfl | rfl
    all_goals
      refine lay_tuple fun y hy => ?_
      simp only [List.mem_cons, List.not_mem_nil, or_false] at hy
      rcases hy with rfl | rfl | rfl
      all_goals first | (simp only [PyData.canLay0]; done) | (simp only [PyData.canLay0]; exact c) | (simp only [PyData.canLay0]; exact p) | (simp only [PyData.canLay0]; exact w _ (by simp))
  · simp only [List.mem_cons, List.not_mem_nil, or_false] at hx
    rcases hx with rfl | rfl | rfl | rfl | rfl | rfl | rfl | rfl
    all_goals
      refine depth_tuple (n := 0) fun y hy => ?_
      simp only [List.mem_cons, List.not_mem_nil, or_false] at hy
      rcases hy with rfl | rfl | rfl <;> simp only [PyData.depth] <;> decide
theorem rd_Setting___eq__ {K : PySem.W.Frag} {mg : Str → Option Value} (T : Top K mg) : ∀ vs H Q E, sp_Setting___eq__ K vs H Q E → t_Setting___eq__ K { nx := fun _ H' => Q .non H', rt := Q } (start nm_Setting___eq__ vs) H := by
  rintro vs H Q E ⟨s, b, S, D, y, rfl, hS, hB, hy⟩
  rw [start_Setting___eq__]
  unfold t_Setting___eq__ t_Setting___eq___1
  rcases hy with ⟨s', b', S', D', rfl, hS', hB', q⟩ | ⟨hy, q⟩
  · obtain ⟨dx, hs, okS⟩ := id hS
    obtain ⟨dx', hs', okS'⟩ := id hS'
    simp only [tSeq, tAsg, tIfS, tRet, tRetN, tDrop, tNext, tPar, tPar3, gName, gSub, gTup, gCons, gNil, zV, tC, tOp, tUn, tCons, tNil, tLst, tTup, tIf, tAnd, tOr, tNot, tYes, zB, zAnd, zOr, zNot, zChain, tDNewK, yAdd, ySub, yMul, yDiv, yMod, yPow, yNeg, yLt, yLe, yGt, yGe, yEq, yNe, yIs0, yNotIs0, yIx, ySet, yIn, sqAt, isNone, zFld, zSetF, insAt, zMeth, zProp, tCall, tMake, tCB, yLen, yAbs, yMax2, yMin2, yList, yTuple, yDict0, zLM, yApp, isLst, dkAt, keyOf, zGet1, zGet2, zPop1, zPop2, zForR1, zForR2, zForL, zForT, Z.intAt, refAt, zLc, iR1, iR2, iL, iT, wipe, List.getElem?_cons_zero, List.getElem?_cons_succ, List.set_cons_zero, List.set_cons_succ, List.cons_append, List.nil_append, List.append_nil, upd_same, at0, at1, at2, ix0, ix1, ix2, upd_upd, ite_true, ite_false, if_true, if_false, Bool.false_eq_true, decide_true, decide_false, reduceIte, true_and, and_true, Option.isSome_none, Option.isSome_some, Bool.not_false, Bool.not_true, zTupA, zLstA, yAddA, yMulA, sliceA, zS2A, zSAA, zSBA, yListA, yTupleA, zForE, yNeO, yReprB, tMakeN, zSlA, zSlB, wOnly, tCallN, zForR3, zMatch, zCase, zMethS, zRaiseO, yPopAt, zSl2, yIsiT, tysAt, zBInit, zOst, tXf, wAs, tMkO, zFmt, zJs, zJoin, yStr1, gLst, zCM, zListR1, zListR2, zLenR1, iR3, yInt1, yEqO, yAndO, yInO, yLenO, yReprO, isBl, Z.strAt, yEq0, yNe0, GF.zForG, GF.zLcG, GF.zListG, yIsi, tyAt, clsAt, ki_int_int, ki_bool_int, ki_none_int, ki_str_int, ki_list_int, ki_tuple_int, ki_int_bool, ki_bool_bool, ki_none_bool, ki_str_bool, ki_list_bool, ki_tuple_bool, zMakeV, tRz, zNever, hs', T.ki_Setting_Setting, t_Setting___eq___2, hs]
    refine ⟨T.i_Setting, no_Setting_pairs _ _ _ _ _ _ _ _ _, s, b, S, rfl, hS, fun l H1 s1 d1 => ?_⟩
    have hs1' := s1 _ _ hs'
    simp only [tSeq, tAsg, tIfS, tRet, tRetN, tDrop, tNext, tPar, tPar3, gName, gSub, gTup, gCons, gNil, zV, tC, tOp, tUn, tCons, tNil, tLst, tTup, tIf, tAnd, tOr, tNot, tYes, zB, zAnd, zOr, zNot, zChain, tDNewK, yAdd, ySub, yMul, yDiv, yMod, yPow, yNeg, yLt, yLe, yGt, yGe, yEq, yNe, yIs0, yNotIs0, yIx, ySet, yIn, sqAt, isNone, zFld, zSetF, insAt, zMeth, zProp, tCall, tMake, tCB, yLen, yAbs, yMax2, yMin2, yList, yTuple, yDict0, zLM, yApp, isLst, dkAt, keyOf, zGet1, zGet2, zPop1, zPop2, zForR1, zForR2, zForL, zForT, Z.intAt, refAt, zLc, iR1, iR2, iL, iT, wipe, List.getElem?_cons_zero, List.getElem?_cons_succ, List.set_cons_zero, List.set_cons_succ, List.cons_append, List.nil_append, List.append_nil, upd_same, at0, at1, at2, ix0, ix1, ix2, upd_upd, ite_true, ite_false, if_true, if_false, Bool.false_eq_true, decide_true, decide_false, reduceIte, true_and, and_true, Option.isSome_none, Option.isSome_some, Bool.not_false, Bool.not_true, zTupA, zLstA, yAddA, yMulA, sliceA, zS2A, zSAA, zSBA, yListA, yTupleA, zForE, yNeO, yReprB, tMakeN, zSlA, zSlB, wOnly, tCallN, zForR3, zMatch, zCase, zMethS, zRaiseO, yPopAt, zSl2, yIsiT, tysAt, zBInit, zOst, tXf, wAs, tMkO, zFmt, zJs, zJoin, yStr1, gLst, zCM, zListR1, zListR2, zLenR1, iR3, yInt1, yEqO, yAndO, yInO, yLenO, yReprO, isBl, Z.strAt, yEq0, yNe0, GF.zForG, GF.zLcG, GF.zListG, yIsi, tyAt, clsAt, ki_int_int, ki_bool_int, ki_none_int, ki_str_int, ki_list_int, ki_tuple_int, ki_int_bool, ki_bool_bool, ki_none_bool, ki_str_bool, ki_list_bool, ki_tuple_bool, zMakeV, tRz, zNever, hs1']
    refine ⟨no_Setting_pairs _ _ _ _ _ _ _ _ _, s', b', S', rfl, hS'.same s1, fun l2 H2 s2 d2 => ?_⟩
    refine ⟨_, _, dp_same s2 _ _ d1, d2, pairs_shaped' okS, pairs_shaped' okS', ?_⟩
    have s12 := s1.trans s2
    show (if eqS S S' = true then _ else _)
    cases e : eqS S S' with
    | false =>
      simp only [tSeq, tAsg, tIfS, tRet, tRetN, tDrop, tNext, tPar, tPar3, gName, gSub, gTup, gCons, gNil, zV, tC, tOp, tUn, tCons, tNil, tLst, tTup, tIf, tAnd, tOr, tNot, tYes, zB, zAnd, zOr, zNot, zChain, tDNewK, yAdd, ySub, yMul, yDiv, yMod, yPow, yNeg, yLt, yLe, yGt, yGe, yEq, yNe, yIs0, yNotIs0, yIx, ySet, yIn, sqAt, isNone, zFld, zSetF, insAt, zMeth, zProp, tCall, tMake, tCB, yLen, yAbs, yMax2, yMin2, yList, yTuple, yDict0, zLM, yApp, isLst, dkAt, keyOf, zGet1, zGet2, zPop1, zPop2, zForR1, zForR2, zForL, zForT, Z.intAt, refAt, zLc, iR1, iR2, iL, iT, wipe, List.getElem?_cons_zero, List.getElem?_cons_succ, List.set_cons_zero, List.set_cons_succ, List.cons_append, List.nil_append, List.append_nil, upd_same, at0, at1, at2, ix0, ix1, ix2, upd_upd, ite_true, ite_false, if_true, if_false, Bool.false_eq_true, decide_true, decide_false, reduceIte, true_and, and_true, Option.isSome_none, Option.isSome_some, Bool.not_false, Bool.not_true, zTupA, zLstA, yAddA, yMulA, sliceA, zS2A, zSAA, zSBA, yListA, yTupleA, zForE, yNeO, yReprB, tMakeN, zSlA, zSlB, wOnly, tCallN, zForR3, zMatch, zCase, zMethS, zRaiseO, yPopAt, zSl2, yIsiT, tysAt, zBInit, zOst, tXf, wAs, tMkO, zFmt, zJs, zJoin, yStr1, gLst, zCM, zListR1, zListR2, zLenR1, iR3, yInt1, yEqO, yAndO, yInO, yLenO, yReprO, isBl, Z.strAt, yEq0, yNe0, GF.zForG, GF.zLcG, GF.zListG, yIsi, tyAt, clsAt, ki_int_int, ki_bool_int, ki_none_int, ki_str_int, ki_list_int, ki_tuple_int, ki_int_bool, ki_bool_bool, ki_none_bool, ki_str_bool, ki_list_bool, ki_tuple_bool, zMakeV, tRz, zNever]
      rw [e] at q
      exact q _ s12
    | true =>
      rw [e] at q
      have hs2 := s12 _ _ hs
      have hs2' := s12 _ _ hs'
      have hB2 := hB.same s12
      have hB2' := hB'.same s12
      obtain ⟨db, fb, eb⟩ := hB2.ins
      obtain ⟨db', fb', eb'⟩ := hB2'.ins
      simp only [tSeq, tAsg, tIfS, tRet, tRetN, tDrop, tNext, tPar, tPar3, gName, gSub, gTup, gCons, gNil, zV, tC, tOp, tUn, tCons, tNil, tLst, tTup, tIf, tAnd, tOr, tNot, tYes, zB, zAnd, zOr, zNot, zChain, tDNewK, yAdd, ySub, yMul, yDiv, yMod, yPow, yNeg, yLt, yLe, yGt, yGe, yEq, yNe, yIs0, yNotIs0, yIx, ySet, yIn, sqAt, isNone, zFld, zSetF, insAt, zMeth, zProp, tCall, tMake, tCB, yLen, yAbs, yMax2, yMin2, yList, yTuple, yDict0, zLM, yApp, isLst, dkAt, keyOf, zGet1, zGet2, zPop1, zPop2, zForR1, zForR2, zForL, zForT, Z.intAt, refAt, zLc, iR1, iR2, iL, iT, wipe, List.getElem?_cons_zero, List.getElem?_cons_succ, List.set_cons_zero, List.set_cons_succ, List.cons_append, List.nil_append, List.append_nil, upd_same, at0, at1, at2, ix0, ix1, ix2, upd_upd, ite_true, ite_false, if_true, if_false, Bool.false_eq_true, decide_true, decide_false, reduceIte, true_and, and_true, Option.isSome_none, Option.isSome_some, Bool.not_false, Bool.not_true, zTupA, zLstA, yAddA, yMulA, sliceA, zS2A, zSAA, zSBA, yListA, yTupleA, zForE, yNeO, yReprB, tMakeN, zSlA, zSlB, wOnly, tCallN, zForR3, zMatch, zCase, zMethS, zRaiseO, yPopAt, zSl2, yIsiT, tysAt, zBInit, zOst, tXf, wAs, tMkO, zFmt, zJs, zJoin, yStr1, gLst, zCM, zListR1, zListR2, zLenR1, iR3, yInt1, yEqO, yAndO, yInO, yLenO, yReprO, isBl, Z.strAt, yEq0, yNe0, GF.zForG, GF.zLcG, GF.zListG, yIsi, tyAt, clsAt, ki_int_int, ki_bool_int, ki_none_int, ki_str_int, ki_list_int, ki_tuple_int, ki_int_bool, ki_bool_bool, ki_none_bool, ki_str_bool, ki_list_bool, ki_tuple_bool, zMakeV, tRz, zNever, hs2, hs2', lk_Setting_book, eb, eb']
      refine ⟨⟨T.cl_Setting, T.na_Setting_book⟩, ⟨T.cl_Setting, T.na_Setting_book⟩, T.i_Book, by simp [PySem.W.notFirst], b, D, .ref b', rfl, hB2, .inl ⟨b', D', rfl, hB2', fun H3 s3 => ?_⟩⟩
      simp only [tSeq, tAsg, tIfS, tRet, tRetN, tDrop, tNext, tPar, tPar3, gName, gSub, gTup, gCons, gNil, zV, tC, tOp, tUn, tCons, tNil, tLst, tTup, tIf, tAnd, tOr, tNot, tYes, zB, zAnd, zOr, zNot, zChain, tDNewK, yAdd, ySub, yMul, yDiv, yMod, yPow, yNeg, yLt, yLe, yGt, yGe, yEq, yNe, yIs0, yNotIs0, yIx, ySet, yIn, sqAt, isNone, zFld, zSetF, insAt, zMeth, zProp, tCall, tMake, tCB, yLen, yAbs, yMax2, yMin2, yList, yTuple, yDict0, zLM, yApp, isLst, dkAt, keyOf, zGet1, zGet2, zPop1, zPop2, zForR1, zForR2, zForL, zForT, Z.intAt, refAt, zLc, iR1, iR2, iL, iT, wipe, List.getElem?_cons_zero, List.getElem?_cons_succ, List.set_cons_zero, List.set_cons_succ, List.cons_append, List.nil_append, List.append_nil, upd_same, at0, at1, at2, ix0, ix1, ix2, upd_upd, ite_true, ite_false, if_true, if_false, Bool.false_eq_true, decide_true, decide_false, reduceIte, true_and, and_true, Option.isSome_none, Option.isSome_some, Bool.not_false, Bool.not_true, zTupA, zLstA, yAddA, yMulA, sliceA, zS2A, zSAA, zSBA, yListA, yTupleA, zForE, yNeO, yReprB, tMakeN, zSlA, zSlB, wOnly, tCallN, zForR3, zMatch, zCase, zMethS, zRaiseO, yPopAt, zSl2, yIsiT, tysAt, zBInit, zOst, tXf, wAs, tMkO, zFmt, zJs, zJoin, yStr1, gLst, zCM, zListR1, zListR2, zLenR1, iR3, yInt1, yEqO, yAndO, yInO, yLenO, yReprO, isBl, Z.strAt, yEq0, yNe0, GF.zForG, GF.zLcG, GF.zListG, yIsi, tyAt, clsAt, ki_int_int, ki_bool_int, ki_none_int, ki_str_int, ki_list_int, ki_tuple_int, ki_int_bool, ki_bool_bool, ki_none_bool, ki_str_bool, ki_list_bool, ki_tuple_bool, zMakeV, tRz, zNever]
      exact q _ (s12.trans s3)
  · have fin : t_Setting___eq___1t_1 K { nx := t_Setting___eq___2 K { nx := fun _ H' => Q .non H', rt := Q }, rt := Q } [some (.ref s), some y] H := by
      unfold t_Setting___eq___1t_1
      simp only [tSeq, tAsg, tIfS, tRet, tRetN, tDrop, tNext, tPar, tPar3, gName, gSub, gTup, gCons, gNil, zV, tC, tOp, tUn, tCons, tNil, tLst, tTup, tIf, tAnd, tOr, tNot, tYes, zB, zAnd, zOr, zNot, zChain, tDNewK, yAdd, ySub, yMul, yDiv, yMod, yPow, yNeg, yLt, yLe, yGt, yGe, yEq, yNe, yIs0, yNotIs0, yIx, ySet, yIn, sqAt, isNone, zFld, zSetF, insAt, zMeth, zProp, tCall, tMake, tCB, yLen, yAbs, yMax2, yMin2, yList, yTuple, yDict0, zLM, yApp, isLst, dkAt, keyOf, zGet1, zGet2, zPop1, zPop2, zForR1, zForR2, zForL, zForT, Z.intAt, refAt, zLc, iR1, iR2, iL, iT, wipe, List.getElem?_cons_zero, List.getElem?_cons_succ, List.set_cons_zero, List.set_cons_succ, List.cons_append, List.nil_append, List.append_nil, upd_same, at0, at1, at2, ix0, ix1, ix2, upd_upd, ite_true, ite_false, if_true, if_false, Bool.false_eq_true, decide_true, decide_false, reduceIte, true_and, and_true, Option.isSome_none, Option.isSome_some, Bool.not_false, Bool.not_true, zTupA, zLstA, yAddA, yMulA, sliceA, zS2A, zSAA, zSBA, yListA, yTupleA, zForE, yNeO, yReprB, tMakeN, zSlA, zSlB, wOnly, tCallN, zForR3, zMatch, zCase, zMethS, zRaiseO, yPopAt, zSl2, yIsiT, tysAt, zBInit, zOst, tXf, wAs, tMkO, zFmt, zJs, zJoin, yStr1, gLst, zCM, zListR1, zListR2, zLenR1, iR3, yInt1, yEqO, yAndO, yInO, yLenO, yReprO, isBl, Z.strAt, yEq0, yNe0, GF.zForG, GF.zLcG, GF.zListG, yIsi, tyAt, clsAt, ki_int_int, ki_bool_int, ki_none_int, ki_str_int, ki_list_int, ki_tuple_int, ki_int_bool, ki_bool_bool, ki_none_bool, ki_str_bool, ki_list_bool, ki_tuple_bool, zMakeV, tRz, zNever]
      exact q
    rcases hy with ⟨i, rfl⟩ | ⟨c, rfl⟩ | rfl | ⟨z, rfl⟩ | ⟨a, xs, rfl, ha⟩ | ⟨a, xs, rfl, ha⟩ | ⟨a, dx, fs, rfl, ha⟩
    · simp only [tSeq, tAsg, tIfS, tRet, tRetN, tDrop, tNext, tPar, tPar3, gName, gSub, gTup, gCons, gNil, zV, tC, tOp, tUn, tCons, tNil, tLst, tTup, tIf, tAnd, tOr, tNot, tYes, zB, zAnd, zOr, zNot, zChain, tDNewK, yAdd, ySub, yMul, yDiv, yMod, yPow, yNeg, yLt, yLe, yGt, yGe, yEq, yNe, yIs0, yNotIs0, yIx, ySet, yIn, sqAt, isNone, zFld, zSetF, insAt, zMeth, zProp, tCall, tMake, tCB, yLen, yAbs, yMax2, yMin2, yList, yTuple, yDict0, zLM, yApp, isLst, dkAt, keyOf, zGet1, zGet2, zPop1, zPop2, zForR1, zForR2, zForL, zForT, Z.intAt, refAt, zLc, iR1, iR2, iL, iT, wipe, List.getElem?_cons_zero, List.getElem?_cons_succ, List.set_cons_zero, List.set_cons_succ, List.cons_append, List.nil_append, List.append_nil, upd_same, at0, at1, at2, ix0, ix1, ix2, upd_upd, ite_true, ite_false, if_true, if_false, Bool.false_eq_true, decide_true, decide_false, reduceIte, true_and, and_true, Option.isSome_none, Option.isSome_some, Bool.not_false, Bool.not_true, zTupA, zLstA, yAddA, yMulA, sliceA, zS2A, zSAA, zSBA, yListA, yTupleA, zForE, yNeO, yReprB, tMakeN, zSlA, zSlB, wOnly, tCallN, zForR3, zMatch, zCase, zMethS, zRaiseO, yPopAt, zSl2, yIsiT, tysAt, zBInit, zOst, tXf, wAs, tMkO, zFmt, zJs, zJoin, yStr1, gLst, zCM, zListR1, zListR2, zLenR1, iR3, yInt1, yEqO, yAndO, yInO, yLenO, yReprO, isBl, Z.strAt, yEq0, yNe0, GF.zForG, GF.zLcG, GF.zListG, yIsi, tyAt, clsAt, ki_int_int, ki_bool_int, ki_none_int, ki_str_int, ki_list_int, ki_tuple_int, ki_int_bool, ki_bool_bool, ki_none_bool, ki_str_bool, ki_list_bool, ki_tuple_bool, zMakeV, tRz, zNever, T.kb_int_Setting]
      exact fin
    · simp only [tSeq, tAsg, tIfS, tRet, tRetN, tDrop, tNext, tPar, tPar3, gName, gSub, gTup, gCons, gNil, zV, tC, tOp, tUn, tCons, tNil, tLst, tTup, tIf, tAnd, tOr, tNot, tYes, zB, zAnd, zOr, zNot, zChain, tDNewK, yAdd, ySub, yMul, yDiv, yMod, yPow, yNeg, yLt, yLe, yGt, yGe, yEq, yNe, yIs0, yNotIs0, yIx, ySet, yIn, sqAt, isNone, zFld, zSetF, insAt, zMeth, zProp, tCall, tMake, tCB, yLen, yAbs, yMax2, yMin2, yList, yTuple, yDict0, zLM, yApp, isLst, dkAt, keyOf, zGet1, zGet2, zPop1, zPop2, zForR1, zForR2, zForL, zForT, Z.intAt, refAt, zLc, iR1, iR2, iL, iT, wipe, List.getElem?_cons_zero, List.getElem?_cons_succ, List.set_cons_zero, List.set_cons_succ, List.cons_append, List.nil_append, List.append_nil, upd_same, at0, at1, at2, ix0, ix1, ix2, upd_upd, ite_true, ite_false, if_true, if_false, Bool.false_eq_true, decide_true, decide_false, reduceIte, true_and, and_true, Option.isSome_none, Option.isSome_some, Bool.not_false, Bool.not_true, zTupA, zLstA, yAddA, yMulA, sliceA, zS2A, zSAA, zSBA, yListA, yTupleA, zForE, yNeO, yReprB, tMakeN, zSlA, zSlB, wOnly, tCallN, zForR3, zMatch, zCase, zMethS, zRaiseO, yPopAt, zSl2, yIsiT, tysAt, zBInit, zOst, tXf, wAs, tMkO, zFmt, zJs, zJoin, yStr1, gLst, zCM, zListR1, zListR2, zLenR1, iR3, yInt1, yEqO, yAndO, yInO, yLenO, yReprO, isBl, Z.strAt, yEq0, yNe0, GF.zForG, GF.zLcG, GF.zListG, yIsi, tyAt, clsAt, ki_int_int, ki_bool_int, ki_none_int, ki_str_int, ki_list_int, ki_tuple_int, ki_int_bool, ki_bool_bool, ki_none_bool, ki_str_bool, ki_list_bool, ki_tuple_bool, zMakeV, tRz, zNever, T.kb_bool_Setting]
      exact fin
    · simp only [tSeq, tAsg, tIfS, tRet, tRetN, tDrop, tNext, tPar, tPar3, gName, gSub, gTup, gCons, gNil, zV, tC, tOp, tUn, tCons, tNil, tLst, tTup, tIf, tAnd, tOr, tNot, tYes, zB, zAnd, zOr, zNot, zChain, tDNewK, yAdd, ySub, yMul, yDiv, yMod, yPow, yNeg, yLt, yLe, yGt, yGe, yEq, yNe, yIs0, yNotIs0, yIx, ySet, yIn, sqAt, isNone, zFld, zSetF, insAt, zMeth, zProp, tCall, tMake, tCB, yLen, yAbs, yMax2, yMin2, yList, yTuple, yDict0, zLM, yApp, isLst, dkAt, keyOf, zGet1, zGet2, zPop1, zPop2, zForR1, zForR2, zForL, zForT, Z.intAt, refAt, zLc, iR1, iR2, iL, iT, wipe, List.getElem?_cons_zero, List.getElem?_cons_succ, List.set_cons_zero, List.set_cons_succ, List.cons_append, List.nil_append, List.append_nil, upd_same, at0, at1, at2, ix0, ix1, ix2, upd_upd, ite_true, ite_false, if_true, if_false, Bool.false_eq_true, decide_true, decide_false, reduceIte, true_and, and_true, Option.isSome_none, Option.isSome_some, Bool.not_false, Bool.not_true, zTupA, zLstA, yAddA, yMulA, sliceA, zS2A, zSAA, zSBA, yListA, yTupleA, zForE, yNeO, yReprB, tMakeN, zSlA, zSlB, wOnly, tCallN, zForR3, zMatch, zCase, zMethS, zRaiseO, yPopAt, zSl2, yIsiT, tysAt, zBInit, zOst, tXf, wAs, tMkO, zFmt, zJs, zJoin, yStr1, gLst, zCM, zListR1, zListR2, zLenR1, iR3, yInt1, yEqO, yAndO, yInO, yLenO, yReprO, isBl, Z.strAt, yEq0, yNe0, GF.zForG, GF.zLcG, GF.zListG, yIsi, tyAt, clsAt, ki_int_int, ki_bool_int, ki_none_int, ki_str_int, ki_list_int, ki_tuple_int, ki_int_bool, ki_bool_bool, ki_none_bool, ki_str_bool, ki_list_bool, ki_tuple_bool, zMakeV, tRz, zNever, T.kb_NoneType_Setting]
      exact fin
    · simp only [tSeq, tAsg, tIfS, tRet, tRetN, tDrop, tNext, tPar, tPar3, gName, gSub, gTup, gCons, gNil, zV, tC, tOp, tUn, tCons, tNil, tLst, tTup, tIf, tAnd, tOr, tNot, tYes, zB, zAnd, zOr, zNot, zChain, tDNewK, yAdd, ySub, yMul, yDiv, yMod, yPow, yNeg, yLt, yLe, yGt, yGe, yEq, yNe, yIs0, yNotIs0, yIx, ySet, yIn, sqAt, isNone, zFld, zSetF, insAt, zMeth, zProp, tCall, tMake, tCB, yLen, yAbs, yMax2, yMin2, yList, yTuple, yDict0, zLM, yApp, isLst, dkAt, keyOf, zGet1, zGet2, zPop1, zPop2, zForR1, zForR2, zForL, zForT, Z.intAt, refAt, zLc, iR1, iR2, iL, iT, wipe, List.getElem?_cons_zero, List.getElem?_cons_succ, List.set_cons_zero, List.set_cons_succ, List.cons_append, List.nil_append, List.append_nil, upd_same, at0, at1, at2, ix0, ix1, ix2, upd_upd, ite_true, ite_false, if_true, if_false, Bool.false_eq_true, decide_true, decide_false, reduceIte, true_and, and_true, Option.isSome_none, Option.isSome_some, Bool.not_false, Bool.not_true, zTupA, zLstA, yAddA, yMulA, sliceA, zS2A, zSAA, zSBA, yListA, yTupleA, zForE, yNeO, yReprB, tMakeN, zSlA, zSlB, wOnly, tCallN, zForR3, zMatch, zCase, zMethS, zRaiseO, yPopAt, zSl2, yIsiT, tysAt, zBInit, zOst, tXf, wAs, tMkO, zFmt, zJs, zJoin, yStr1, gLst, zCM, zListR1, zListR2, zLenR1, iR3, yInt1, yEqO, yAndO, yInO, yLenO, yReprO, isBl, Z.strAt, yEq0, yNe0, GF.zForG, GF.zLcG, GF.zListG, yIsi, tyAt, clsAt, ki_int_int, ki_bool_int, ki_none_int, ki_str_int, ki_list_int, ki_tuple_int, ki_int_bool, ki_bool_bool, ki_none_bool, ki_str_bool, ki_list_bool, ki_tuple_bool, zMakeV, tRz, zNever, T.kb_str_Setting]
      exact fin
    · simp only [tSeq, tAsg, tIfS, tRet, tRetN, tDrop, tNext, tPar, tPar3, gName, gSub, gTup, gCons, gNil, zV, tC, tOp, tUn, tCons, tNil, tLst, tTup, tIf, tAnd, tOr, tNot, tYes, zB, zAnd, zOr, zNot, zChain, tDNewK, yAdd, ySub, yMul, yDiv, yMod, yPow, yNeg, yLt, yLe, yGt, yGe, yEq, yNe, yIs0, yNotIs0, yIx, ySet, yIn, sqAt, isNone, zFld, zSetF, insAt, zMeth, zProp, tCall, tMake, tCB, yLen, yAbs, yMax2, yMin2, yList, yTuple, yDict0, zLM, yApp, isLst, dkAt, keyOf, zGet1, zGet2, zPop1, zPop2, zForR1, zForR2, zForL, zForT, Z.intAt, refAt, zLc, iR1, iR2, iL, iT, wipe, List.getElem?_cons_zero, List.getElem?_cons_succ, List.set_cons_zero, List.set_cons_succ, List.cons_append, List.nil_append, List.append_nil, upd_same, at0, at1, at2, ix0, ix1, ix2, upd_upd, ite_true, ite_false, if_true, if_false, Bool.false_eq_true, decide_true, decide_false, reduceIte, true_and, and_true, Option.isSome_none, Option.isSome_some, Bool.not_false, Bool.not_true, zTupA, zLstA, yAddA, yMulA, sliceA, zS2A, zSAA, zSBA, yListA, yTupleA, zForE, yNeO, yReprB, tMakeN, zSlA, zSlB, wOnly, tCallN, zForR3, zMatch, zCase, zMethS, zRaiseO, yPopAt, zSl2, yIsiT, tysAt, zBInit, zOst, tXf, wAs, tMkO, zFmt, zJs, zJoin, yStr1, gLst, zCM, zListR1, zListR2, zLenR1, iR3, yInt1, yEqO, yAndO, yInO, yLenO, yReprO, isBl, Z.strAt, yEq0, yNe0, GF.zForG, GF.zLcG, GF.zListG, yIsi, tyAt, clsAt, ki_int_int, ki_bool_int, ki_none_int, ki_str_int, ki_list_int, ki_tuple_int, ki_int_bool, ki_bool_bool, ki_none_bool, ki_str_bool, ki_list_bool, ki_tuple_bool, zMakeV, tRz, zNever, ha, T.kb_list_Setting]
      exact fin
    · simp only [tSeq, tAsg, tIfS, tRet, tRetN, tDrop, tNext, tPar, tPar3, gName, gSub, gTup, gCons, gNil, zV, tC, tOp, tUn, tCons, tNil, tLst, tTup, tIf, tAnd, tOr, tNot, tYes, zB, zAnd, zOr, zNot, zChain, tDNewK, yAdd, ySub, yMul, yDiv, yMod, yPow, yNeg, yLt, yLe, yGt, yGe, yEq, yNe, yIs0, yNotIs0, yIx, ySet, yIn, sqAt, isNone, zFld, zSetF, insAt, zMeth, zProp, tCall, tMake, tCB, yLen, yAbs, yMax2, yMin2, yList, yTuple, yDict0, zLM, yApp, isLst, dkAt, keyOf, zGet1, zGet2, zPop1, zPop2, zForR1, zForR2, zForL, zForT, Z.intAt, refAt, zLc, iR1, iR2, iL, iT, wipe, List.getElem?_cons_zero, List.getElem?_cons_succ, List.set_cons_zero, List.set_cons_succ, List.cons_append, List.nil_append, List.append_nil, upd_same, at0, at1, at2, ix0, ix1, ix2, upd_upd, ite_true, ite_false, if_true, if_false, Bool.false_eq_true, decide_true, decide_false, reduceIte, true_and, and_true, Option.isSome_none, Option.isSome_some, Bool.not_false, Bool.not_true, zTupA, zLstA, yAddA, yMulA, sliceA, zS2A, zSAA, zSBA, yListA, yTupleA, zForE, yNeO, yReprB, tMakeN, zSlA, zSlB, wOnly, tCallN, zForR3, zMatch, zCase, zMethS, zRaiseO, yPopAt, zSl2, yIsiT, tysAt, zBInit, zOst, tXf, wAs, tMkO, zFmt, zJs, zJoin, yStr1, gLst, zCM, zListR1, zListR2, zLenR1, iR3, yInt1, yEqO, yAndO, yInO, yLenO, yReprO, isBl, Z.strAt, yEq0, yNe0, GF.zForG, GF.zLcG, GF.zListG, yIsi, tyAt, clsAt, ki_int_int, ki_bool_int, ki_none_int, ki_str_int, ki_list_int, ki_tuple_int, ki_int_bool, ki_bool_bool, ki_none_bool, ki_str_bool, ki_list_bool, ki_tuple_bool, zMakeV, tRz, zNever, ha, T.kb_tuple_Setting]
      exact fin
    · simp only [tSeq, tAsg, tIfS, tRet, tRetN, tDrop, tNext, tPar, tPar3, gName, gSub, gTup, gCons, gNil, zV, tC, tOp, tUn, tCons, tNil, tLst, tTup, tIf, tAnd, tOr, tNot, tYes, zB, zAnd, zOr, zNot, zChain, tDNewK, yAdd, ySub, yMul, yDiv, yMod, yPow, yNeg, yLt, yLe, yGt, yGe, yEq, yNe, yIs0, yNotIs0, yIx, ySet, yIn, sqAt, isNone, zFld, zSetF, insAt, zMeth, zProp, tCall, tMake, tCB, yLen, yAbs, yMax2, yMin2, yList, yTuple, yDict0, zLM, yApp, isLst, dkAt, keyOf, zGet1, zGet2, zPop1, zPop2, zForR1, zForR2, zForL, zForT, Z.intAt, refAt, zLc, iR1, iR2, iL, iT, wipe, List.getElem?_cons_zero, List.getElem?_cons_succ, List.set_cons_zero, List.set_cons_succ, List.cons_append, List.nil_append, List.append_nil, upd_same, at0, at1, at2, ix0, ix1, ix2, upd_upd, ite_true, ite_false, if_true, if_false, Bool.false_eq_true, decide_true, decide_false, reduceIte, true_and, and_true, Option.isSome_none, Option.isSome_some, Bool.not_false, Bool.not_true, zTupA, zLstA, yAddA, yMulA, sliceA, zS2A, zSAA, zSBA, yListA, yTupleA, zForE, yNeO, yReprB, tMakeN, zSlA, zSlB, wOnly, tCallN, zForR3, zMatch, zCase, zMethS, zRaiseO, yPopAt, zSl2, yIsiT, tysAt, zBInit, zOst, tXf, wAs, tMkO, zFmt, zJs, zJoin, yStr1, gLst, zCM, zListR1, zListR2, zLenR1, iR3, yInt1, yEqO, yAndO, yInO, yLenO, yReprO, isBl, Z.strAt, yEq0, yNe0, GF.zForG, GF.zLcG, GF.zListG, yIsi, tyAt, clsAt, ki_int_int, ki_bool_int, ki_none_int, ki_str_int, ki_list_int, ki_tuple_int, ki_int_bool, ki_bool_bool, ki_none_bool, ki_str_bool, ki_list_bool, ki_tuple_bool, zMakeV, tRz, zNever, ha, T.ki_Book_Setting]
      exact ⟨T.i_Book, fin⟩

theorem mk_book {K : PySem.W.Frag} {H : Hp} {v1 v2 v3 v4 v5 : V} {D : List (List Str)} {Q : Addr → Hp → Prop} {E : XK} (hd : DpAll K H [v1, v2, v3, v4, v5] (D.map dutyD)) (ok : ∀ d ∈ D, DOk d) (k : ∀ x H', H x = none → Same H H' → BookAt K H' x D → Q x H') : ∀ x dx, H x = none → H dx = none → dx ≠ x →
    sp_Book___init__ K [.ref x, v1, v2, v3, v4, v5] (upd (upd H dx (.own x)) x (.ins (He.ga K "Book") dx [])) (fun v H2 => v = .non ∧ Q x H2) E := fun x dx hx hdx ne => by
  have sm : Same H (upd (upd H dx (.own x)) x (.ins (He.ga K "Book") dx [])) := Same.upd (Same.new hdx) hx
  refine ⟨x, dx, v1, v2, v3, v4, v5, D, rfl, upd_same, dpAll_same' hd sm, ok, fun H' g h => ⟨rfl, k x H' hx (fun c u e => g c u (sm c u e) (ne_of_none e hx)) ⟨dx, v1, v2, v3, v4, v5, h, ?_, ok⟩⟩⟩
  exact dpAll_grow (fs := []) upd_same g _ _ (dpAll_same' hd sm)
theorem std_ok : ∀ d ∈ stdD, DOk d := by
  intro d hd
  unfold stdD at hd
  simp only [List.mem_cons, List.not_mem_nil, or_false] at hd
  rcases hd with rfl | rfl | rfl | rfl | rfl <;> (unfold DOk; decide +kernel)
theorem std_dp {K : PySem.W.Frag} {mg : Str → Option Value} (T : Top K mg) (H : Hp) : DpAll K H [.ref (He.ga K "DIRECTIONS"), .ref (He.ga K "BACK"), .ref (He.ga K "DIRECTIONS"), .ref (He.ga K "DIRECTIONS"), .ref (He.ga K "BACK")] (stdD.map dutyD) :=
  .cons (duty_of (T.t_DIRECTIONS H)) (.cons (duty_of (T.t_BACK H)) (.cons (duty_of (T.t_DIRECTIONS H)) (.cons (duty_of (T.t_DIRECTIONS H)) (.cons (duty_of (T.t_BACK H)) .nil))))
/-- a list of checks that all hold -/
structure Chk (H H' : Hp) (l : Addr) (ys : List V) : Prop where
  sm : Same H H'
  l0 : H l = none
  at_ : H' l = some (.lst ys)
  ok : ∀ y ∈ ys, ∃ p f, y = .ref p ∧ H' p = some (.tup [.str f, .bl true])
theorem Chk.add {H H1 H2 : Hp} {l p : Addr} {f : Str} {ys : List V} (c : Chk H H1 l ys) (s : Same H1 H2) (hp : H2 p = some (.tup [.str f, .bl true])) : Chk H (upd H2 l (.lst (ys ++ [.ref p]))) l (ys ++ [.ref p]) := by
  have hl := s _ _ c.at_
  refine ⟨Same.upd (c.sm.trans s) c.l0, c.l0, upd_same, fun y hy => ?_⟩
  rcases List.mem_append.mp hy with hy | hy
  · obtain ⟨q, g, e, h⟩ := c.ok y hy
    have h2 := s _ _ h
    exact ⟨q, g, e, by rw [upd_ne (fun z => by rw [z, hl] at h2; cases h2)]; exact h2⟩
  · obtain rfl := List.mem_singleton.mp hy
    exact ⟨p, f, rfl, by rw [upd_ne (fun z => by rw [z, hl] at hp; cases hp)]; exact hp⟩
theorem rd_Setting___init__ {K : PySem.W.Frag} {mg : Str → Option Value} (T : Top K mg) : ∀ vs H Q E, sp_Setting___init__ K vs H Q E → t_Setting___init__ K { nx := fun _ H' => Q .non H', rt := Q } (start nm_Setting___init__ vs) H := by
  rintro vs H Q E ⟨x, dx, S, v9, rfl, hx, ok, q⟩
  rw [start_Setting___init__]
  have szl := sizeLine_eq
  obtain ⟨o1, ⟨o2, o3⟩, o4, ⟨o5, o6⟩, o7, o8⟩ := id ok
  unfold t_Setting___init__ t_Setting___init___1
  simp only [tSeq, tAsg, tIfS, tRet, tRetN, tDrop, tNext, tPar, tPar3, gName, gSub, gTup, gCons, gNil, zV, tC, tOp, tUn, tCons, tNil, tLst, tTup, tIf, tAnd, tOr, tNot, tYes, zB, zAnd, zOr, zNot, zChain, tDNewK, yAdd, ySub, yMul, yDiv, yMod, yPow, yNeg, yLt, yLe, yGt, yGe, yEq, yNe, yIs0, yNotIs0, yIx, ySet, yIn, sqAt, isNone, zFld, zSetF, insAt, zMeth, zProp, tCall, tMake, tCB, yLen, yAbs, yMax2, yMin2, yList, yTuple, yDict0, zLM, yApp, isLst, dkAt, keyOf, zGet1, zGet2, zPop1, zPop2, zForR1, zForR2, zForL, zForT, Z.intAt, refAt, zLc, iR1, iR2, iL, iT, wipe, List.getElem?_cons_zero, List.getElem?_cons_succ, List.set_cons_zero, List.set_cons_succ, List.cons_append, List.nil_append, List.append_nil, upd_same, at0, at1, at2, ix0, ix1, ix2, upd_upd, ite_true, ite_false, if_true, if_false, Bool.false_eq_true, decide_true, decide_false, reduceIte, true_and, and_true, Option.isSome_none, Option.isSome_some, Bool.not_false, Bool.not_true, zTupA, zLstA, yAddA, yMulA, sliceA, zS2A, zSAA, zSBA, yListA, yTupleA, zForE, yNeO, yReprB, tMakeN, zSlA, zSlB, wOnly, tCallN, zForR3, zMatch, zCase, zMethS, zRaiseO, yPopAt, zSl2, yIsiT, tysAt, zBInit, zOst, tXf, wAs, tMkO, zFmt, zJs, zJoin, yStr1, gLst, zCM, zListR1, zListR2, zLenR1, iR3, yInt1, yEqO, yAndO, yInO, yLenO, yReprO, isBl, Z.strAt, yEq0, yNe0, GF.zForG, GF.zLcG, GF.zListG, yIsi, tyAt, clsAt, ki_int_int, ki_bool_int, ki_none_int, ki_str_int, ki_list_int, ki_tuple_int, ki_int_bool, ki_bool_bool, ki_none_bool, ki_str_bool, ki_list_bool, ki_tuple_bool, zMakeV, tRz, zNever]
  refine ⟨S.copies, _, _, rfl, T.t_COPIES _, o1, by show 2 ≤ sizeLine; omega, fun p1 H1 _ s1 h1 => ⟨by show 2 ≤ sizeLine; omega, fun p2 H2 _ s2 h2 => ⟨by show 2 ≤ sizeLine; omega, fun l1 H3 _ s3 h3 => ?_⟩⟩⟩
  unfold t_Setting___init___2
  simp only [tSeq, tAsg, tIfS, tRet, tRetN, tDrop, tNext, tPar, tPar3, gName, gSub, gTup, gCons, gNil, zV, tC, tOp, tUn, tCons, tNil, tLst, tTup, tIf, tAnd, tOr, tNot, tYes, zB, zAnd, zOr, zNot, zChain, tDNewK, yAdd, ySub, yMul, yDiv, yMod, yPow, yNeg, yLt, yLe, yGt, yGe, yEq, yNe, yIs0, yNotIs0, yIx, ySet, yIn, sqAt, isNone, zFld, zSetF, insAt, zMeth, zProp, tCall, tMake, tCB, yLen, yAbs, yMax2, yMin2, yList, yTuple, yDict0, zLM, yApp, isLst, dkAt, keyOf, zGet1, zGet2, zPop1, zPop2, zForR1, zForR2, zForL, zForT, Z.intAt, refAt, zLc, iR1, iR2, iL, iT, wipe, List.getElem?_cons_zero, List.getElem?_cons_succ, List.set_cons_zero, List.set_cons_succ, List.cons_append, List.nil_append, List.append_nil, upd_same, at0, at1, at2, ix0, ix1, ix2, upd_upd, ite_true, ite_false, if_true, if_false, Bool.false_eq_true, decide_true, decide_false, reduceIte, true_and, and_true, Option.isSome_none, Option.isSome_some, Bool.not_false, Bool.not_true, zTupA, zLstA, yAddA, yMulA, sliceA, zS2A, zSAA, zSBA, yListA, yTupleA, zForE, yNeO, yReprB, tMakeN, zSlA, zSlB, wOnly, tCallN, zForR3, zMatch, zCase, zMethS, zRaiseO, yPopAt, zSl2, yIsiT, tysAt, zBInit, zOst, tXf, wAs, tMkO, zFmt, zJs, zJoin, yStr1, gLst, zCM, zListR1, zListR2, zLenR1, iR3, yInt1, yEqO, yAndO, yInO, yLenO, yReprO, isBl, Z.strAt, yEq0, yNe0, GF.zForG, GF.zLcG, GF.zListG, yIsi, tyAt, clsAt, ki_int_int, ki_bool_int, ki_none_int, ki_str_int, ki_list_int, ki_tuple_int, ki_int_bool, ki_bool_bool, ki_none_bool, ki_str_bool, ki_list_bool, ki_tuple_bool, zMakeV, tRz, zNever]
  refine ⟨S.batch, 0, 8, rfl, o2, o3, by show 2 ≤ sizeLine; omega, fun p4 H4 _ s4 h4 => ⟨by show 2 ≤ sizeLine; omega, fun p5 H5 _ s5 h5 => ⟨by show 2 ≤ sizeLine; omega, fun l2 H6 _ s6 h6 => ?_⟩⟩⟩
  have h36 := ((s4.trans s5).trans s6) _ _ h3
  simp only [tSeq, tAsg, tIfS, tRet, tRetN, tDrop, tNext, tPar, tPar3, gName, gSub, gTup, gCons, gNil, zV, tC, tOp, tUn, tCons, tNil, tLst, tTup, tIf, tAnd, tOr, tNot, tYes, zB, zAnd, zOr, zNot, zChain, tDNewK, yAdd, ySub, yMul, yDiv, yMod, yPow, yNeg, yLt, yLe, yGt, yGe, yEq, yNe, yIs0, yNotIs0, yIx, ySet, yIn, sqAt, isNone, zFld, zSetF, insAt, zMeth, zProp, tCall, tMake, tCB, yLen, yAbs, yMax2, yMin2, yList, yTuple, yDict0, zLM, yApp, isLst, dkAt, keyOf, zGet1, zGet2, zPop1, zPop2, zForR1, zForR2, zForL, zForT, Z.intAt, refAt, zLc, iR1, iR2, iL, iT, wipe, List.getElem?_cons_zero, List.getElem?_cons_succ, List.set_cons_zero, List.set_cons_succ, List.cons_append, List.nil_append, List.append_nil, upd_same, at0, at1, at2, ix0, ix1, ix2, upd_upd, ite_true, ite_false, if_true, if_false, Bool.false_eq_true, decide_true, decide_false, reduceIte, true_and, and_true, Option.isSome_none, Option.isSome_some, Bool.not_false, Bool.not_true, zTupA, zLstA, yAddA, yMulA, sliceA, zS2A, zSAA, zSBA, yListA, yTupleA, zForE, yNeO, yReprB, tMakeN, zSlA, zSlB, wOnly, tCallN, zForR3, zMatch, zCase, zMethS, zRaiseO, yPopAt, zSl2, yIsiT, tysAt, zBInit, zOst, tXf, wAs, tMkO, zFmt, zJs, zJoin, yStr1, gLst, zCM, zListR1, zListR2, zLenR1, iR3, yInt1, yEqO, yAndO, yInO, yLenO, yReprO, isBl, Z.strAt, yEq0, yNe0, GF.zForG, GF.zLcG, GF.zListG, yIsi, tyAt, clsAt, ki_int_int, ki_bool_int, ki_none_int, ki_str_int, ki_list_int, ki_tuple_int, ki_int_bool, ki_bool_bool, ki_none_bool, ki_str_bool, ki_list_bool, ki_tuple_bool, zMakeV, tRz, zNever, h36, h6]
  refine ⟨by show 2 + 2 ≤ sizeLine; omega, fun l3 H7 _ s7 h7 => ?_⟩
  unfold t_Setting___init___3
  simp only [tSeq, tAsg, tIfS, tRet, tRetN, tDrop, tNext, tPar, tPar3, gName, gSub, gTup, gCons, gNil, zV, tC, tOp, tUn, tCons, tNil, tLst, tTup, tIf, tAnd, tOr, tNot, tYes, zB, zAnd, zOr, zNot, zChain, tDNewK, yAdd, ySub, yMul, yDiv, yMod, yPow, yNeg, yLt, yLe, yGt, yGe, yEq, yNe, yIs0, yNotIs0, yIx, ySet, yIn, sqAt, isNone, zFld, zSetF, insAt, zMeth, zProp, tCall, tMake, tCB, yLen, yAbs, yMax2, yMin2, yList, yTuple, yDict0, zLM, yApp, isLst, dkAt, keyOf, zGet1, zGet2, zPop1, zPop2, zForR1, zForR2, zForL, zForT, Z.intAt, refAt, zLc, iR1, iR2, iL, iT, wipe, List.getElem?_cons_zero, List.getElem?_cons_succ, List.set_cons_zero, List.set_cons_succ, List.cons_append, List.nil_append, List.append_nil, upd_same, at0, at1, at2, ix0, ix1, ix2, upd_upd, ite_true, ite_false, if_true, if_false, Bool.false_eq_true, decide_true, decide_false, reduceIte, true_and, and_true, Option.isSome_none, Option.isSome_some, Bool.not_false, Bool.not_true, zTupA, zLstA, yAddA, yMulA, sliceA, zS2A, zSAA, zSBA, yListA, yTupleA, zForE, yNeO, yReprB, tMakeN, zSlA, zSlB, wOnly, tCallN, zForR3, zMatch, zCase, zMethS, zRaiseO, yPopAt, zSl2, yIsiT, tysAt, zBInit, zOst, tXf, wAs, tMkO, zFmt, zJs, zJoin, yStr1, gLst, zCM, zListR1, zListR2, zLenR1, iR3, yInt1, yEqO, yAndO, yInO, yLenO, yReprO, isBl, Z.strAt, yEq0, yNe0, GF.zForG, GF.zLcG, GF.zListG, yIsi, tyAt, clsAt, ki_int_int, ki_bool_int, ki_none_int, ki_str_int, ki_list_int, ki_tuple_int, ki_int_bool, ki_bool_bool, ki_none_bool, ki_str_bool, ki_list_bool, ki_tuple_bool, zMakeV, tRz, zNever]
  refine ⟨by show 2 ≤ sizeLine; omega, fun p8 H8 _ s8 h8 => ⟨S.policy, _, _, rfl, T.t_POLICIES _, o4, by show 2 ≤ sizeLine; omega, fun p9 H9 _ s9 h9 => ⟨by show 2 ≤ sizeLine; omega, fun l4 H10 _ s10 h10 => ?_⟩⟩⟩
  have h710 := ((s8.trans s9).trans s10) _ _ h7
  simp only [tSeq, tAsg, tIfS, tRet, tRetN, tDrop, tNext, tPar, tPar3, gName, gSub, gTup, gCons, gNil, zV, tC, tOp, tUn, tCons, tNil, tLst, tTup, tIf, tAnd, tOr, tNot, tYes, zB, zAnd, zOr, zNot, zChain, tDNewK, yAdd, ySub, yMul, yDiv, yMod, yPow, yNeg, yLt, yLe, yGt, yGe, yEq, yNe, yIs0, yNotIs0, yIx, ySet, yIn, sqAt, isNone, zFld, zSetF, insAt, zMeth, zProp, tCall, tMake, tCB, yLen, yAbs, yMax2, yMin2, yList, yTuple, yDict0, zLM, yApp, isLst, dkAt, keyOf, zGet1, zGet2, zPop1, zPop2, zForR1, zForR2, zForL, zForT, Z.intAt, refAt, zLc, iR1, iR2, iL, iT, wipe, List.getElem?_cons_zero, List.getElem?_cons_succ, List.set_cons_zero, List.set_cons_succ, List.cons_append, List.nil_append, List.append_nil, upd_same, at0, at1, at2, ix0, ix1, ix2, upd_upd, ite_true, ite_false, if_true, if_false, Bool.false_eq_true, decide_true, decide_false, reduceIte, true_and, and_true, Option.isSome_none, Option.isSome_some, Bool.not_false, Bool.not_true, zTupA, zLstA, yAddA, yMulA, sliceA, zS2A, zSAA, zSBA, yListA, yTupleA, zForE, yNeO, yReprB, tMakeN, zSlA, zSlB, wOnly, tCallN, zForR3, zMatch, zCase, zMethS, zRaiseO, yPopAt, zSl2, yIsiT, tysAt, zBInit, zOst, tXf, wAs, tMkO, zFmt, zJs, zJoin, yStr1, gLst, zCM, zListR1, zListR2, zLenR1, iR3, yInt1, yEqO, yAndO, yInO, yLenO, yReprO, isBl, Z.strAt, yEq0, yNe0, GF.zForG, GF.zLcG, GF.zListG, yIsi, tyAt, clsAt, ki_int_int, ki_bool_int, ki_none_int, ki_str_int, ki_list_int, ki_tuple_int, ki_int_bool, ki_bool_bool, ki_none_bool, ki_str_bool, ki_list_bool, ki_tuple_bool, zMakeV, tRz, zNever, h710, h10]
  refine ⟨by show 4 + 2 ≤ sizeLine; omega, fun l5 H11 n11 s11 h11 => ?_⟩
  -- the list of checks, as pairs with true
  have t10 := s10.trans s11
  have t9 := s9.trans t10
  have t8 := s8.trans t9
  have t7 := s7.trans t8
  have t6 := s6.trans t7
  have t5 := s5.trans t6
  have t4 := s4.trans t5
  have t3 := s3.trans t4
  have t2 := s2.trans t3
  have sA : Same H H11 := s1.trans t2
  have good : ∀ y ∈ [V.ref p1, .ref p2, .ref p4, .ref p5, .ref p8, .ref p9], ∃ p f, y = .ref p ∧ H11 p = some (.tup [.str f, .bl true]) := by
    intro y hy
    simp only [List.mem_cons, List.not_mem_nil, or_false] at hy
    rcases hy with rfl | rfl | rfl | rfl | rfl | rfl
    · exact ⟨_, _, rfl, t2 _ _ h1⟩
    · exact ⟨_, _, rfl, t3 _ _ h2⟩
    · exact ⟨_, _, rfl, t5 _ _ h4⟩
    · exact ⟨_, _, rfl, t6 _ _ h5⟩
    · exact ⟨_, _, rfl, t9 _ _ h8⟩
    · exact ⟨_, _, rfl, t10 _ _ h9⟩
  have c0 : Chk H H11 l5 [V.ref p1, .ref p2, .ref p4, .ref p5, .ref p8, .ref p9] := ⟨sA, (((((((((s1.trans s2).trans s3).trans s4).trans s5).trans s6).trans s7).trans s8).trans s9).trans s10).free n11, h11, good⟩
  unfold t_Setting___init___4
  simp only [tSeq, tAsg, tIfS, tRet, tRetN, tDrop, tNext, tPar, tPar3, gName, gSub, gTup, gCons, gNil, zV, tC, tOp, tUn, tCons, tNil, tLst, tTup, tIf, tAnd, tOr, tNot, tYes, zB, zAnd, zOr, zNot, zChain, tDNewK, yAdd, ySub, yMul, yDiv, yMod, yPow, yNeg, yLt, yLe, yGt, yGe, yEq, yNe, yIs0, yNotIs0, yIx, ySet, yIn, sqAt, isNone, zFld, zSetF, insAt, zMeth, zProp, tCall, tMake, tCB, yLen, yAbs, yMax2, yMin2, yList, yTuple, yDict0, zLM, yApp, isLst, dkAt, keyOf, zGet1, zGet2, zPop1, zPop2, zForR1, zForR2, zForL, zForT, Z.intAt, refAt, zLc, iR1, iR2, iL, iT, wipe, List.getElem?_cons_zero, List.getElem?_cons_succ, List.set_cons_zero, List.set_cons_succ, List.cons_append, List.nil_append, List.append_nil, upd_same, at0, at1, at2, ix0, ix1, ix2, upd_upd, ite_true, ite_false, if_true, if_false, Bool.false_eq_true, decide_true, decide_false, reduceIte, true_and, and_true, Option.isSome_none, Option.isSome_some, Bool.not_false, Bool.not_true, zTupA, zLstA, yAddA, yMulA, sliceA, zS2A, zSAA, zSBA, yListA, yTupleA, zForE, yNeO, yReprB, tMakeN, zSlA, zSlB, wOnly, tCallN, zForR3, zMatch, zCase, zMethS, zRaiseO, yPopAt, zSl2, yIsiT, tysAt, zBInit, zOst, tXf, wAs, tMkO, zFmt, zJs, zJoin, yStr1, gLst, zCM, zListR1, zListR2, zLenR1, iR3, yInt1, yEqO, yAndO, yInO, yLenO, yReprO, isBl, Z.strAt, yEq0, yNe0, GF.zForG, GF.zLcG, GF.zListG, yIsi, tyAt, clsAt, ki_int_int, ki_bool_int, ki_none_int, ki_str_int, ki_list_int, ki_tuple_int, ki_int_bool, ki_bool_bool, ki_none_bool, ki_str_bool, ki_list_bool, ki_tuple_bool, zMakeV, tRz, zNever, h11]
  refine ⟨S.groups, 1, 32, rfl, o5, o6, by show 2 ≤ sizeLine; omega, fun p12 H12 _ s12 h12 => ?_⟩
  have l12 := s12 _ _ h11
  simp only [tSeq, tAsg, tIfS, tRet, tRetN, tDrop, tNext, tPar, tPar3, gName, gSub, gTup, gCons, gNil, zV, tC, tOp, tUn, tCons, tNil, tLst, tTup, tIf, tAnd, tOr, tNot, tYes, zB, zAnd, zOr, zNot, zChain, tDNewK, yAdd, ySub, yMul, yDiv, yMod, yPow, yNeg, yLt, yLe, yGt, yGe, yEq, yNe, yIs0, yNotIs0, yIx, ySet, yIn, sqAt, isNone, zFld, zSetF, insAt, zMeth, zProp, tCall, tMake, tCB, yLen, yAbs, yMax2, yMin2, yList, yTuple, yDict0, zLM, yApp, isLst, dkAt, keyOf, zGet1, zGet2, zPop1, zPop2, zForR1, zForR2, zForL, zForT, Z.intAt, refAt, zLc, iR1, iR2, iL, iT, wipe, List.getElem?_cons_zero, List.getElem?_cons_succ, List.set_cons_zero, List.set_cons_succ, List.cons_append, List.nil_append, List.append_nil, upd_same, at0, at1, at2, ix0, ix1, ix2, upd_upd, ite_true, ite_false, if_true, if_false, Bool.false_eq_true, decide_true, decide_false, reduceIte, true_and, and_true, Option.isSome_none, Option.isSome_some, Bool.not_false, Bool.not_true, zTupA, zLstA, yAddA, yMulA, sliceA, zS2A, zSAA, zSBA, yListA, yTupleA, zForE, yNeO, yReprB, tMakeN, zSlA, zSlB, wOnly, tCallN, zForR3, zMatch, zCase, zMethS, zRaiseO, yPopAt, zSl2, yIsiT, tysAt, zBInit, zOst, tXf, wAs, tMkO, zFmt, zJs, zJoin, yStr1, gLst, zCM, zListR1, zListR2, zLenR1, iR3, yInt1, yEqO, yAndO, yInO, yLenO, yReprO, isBl, Z.strAt, yEq0, yNe0, GF.zForG, GF.zLcG, GF.zListG, yIsi, tyAt, clsAt, ki_int_int, ki_bool_int, ki_none_int, ki_str_int, ki_list_int, ki_tuple_int, ki_int_bool, ki_bool_bool, ki_none_bool, ki_str_bool, ki_list_bool, ki_tuple_bool, zMakeV, tRz, zNever, l12]
  refine ⟨by show 6 < sizeLine; omega, ?_⟩
  have c1 := c0.add s12 h12
  have l13 := c1.at_
  simp only [List.cons_append, List.nil_append] at c1 l13 ⊢
  generalize upd H12 l5 (.lst [V.ref p1, .ref p2, .ref p4, .ref p5, .ref p8, .ref p9, .ref p12]) = H13 at c1 l13 ⊢
  unfold t_Setting___init___5
  simp only [tSeq, tAsg, tIfS, tRet, tRetN, tDrop, tNext, tPar, tPar3, gName, gSub, gTup, gCons, gNil, zV, tC, tOp, tUn, tCons, tNil, tLst, tTup, tIf, tAnd, tOr, tNot, tYes, zB, zAnd, zOr, zNot, zChain, tDNewK, yAdd, ySub, yMul, yDiv, yMod, yPow, yNeg, yLt, yLe, yGt, yGe, yEq, yNe, yIs0, yNotIs0, yIx, ySet, yIn, sqAt, isNone, zFld, zSetF, insAt, zMeth, zProp, tCall, tMake, tCB, yLen, yAbs, yMax2, yMin2, yList, yTuple, yDict0, zLM, yApp, isLst, dkAt, keyOf, zGet1, zGet2, zPop1, zPop2, zForR1, zForR2, zForL, zForT, Z.intAt, refAt, zLc, iR1, iR2, iL, iT, wipe, List.getElem?_cons_zero, List.getElem?_cons_succ, List.set_cons_zero, List.set_cons_succ, List.cons_append, List.nil_append, List.append_nil, upd_same, at0, at1, at2, ix0, ix1, ix2, upd_upd, ite_true, ite_false, if_true, if_false, Bool.false_eq_true, decide_true, decide_false, reduceIte, true_and, and_true, Option.isSome_none, Option.isSome_some, Bool.not_false, Bool.not_true, zTupA, zLstA, yAddA, yMulA, sliceA, zS2A, zSAA, zSBA, yListA, yTupleA, zForE, yNeO, yReprB, tMakeN, zSlA, zSlB, wOnly, tCallN, zForR3, zMatch, zCase, zMethS, zRaiseO, yPopAt, zSl2, yIsiT, tysAt, zBInit, zOst, tXf, wAs, tMkO, zFmt, zJs, zJoin, yStr1, gLst, zCM, zListR1, zListR2, zLenR1, iR3, yInt1, yEqO, yAndO, yInO, yLenO, yReprO, isBl, Z.strAt, yEq0, yNe0, GF.zForG, GF.zLcG, GF.zListG, yIsi, tyAt, clsAt, ki_int_int, ki_bool_int, ki_none_int, ki_str_int, ki_list_int, ki_tuple_int, ki_int_bool, ki_bool_bool, ki_none_bool, ki_str_bool, ki_list_bool, ki_tuple_bool, zMakeV, tRz, zNever, l13]
  refine ⟨S.tables, 1, 32, rfl, o7, o8, by show 2 ≤ sizeLine; omega, fun p14 H14 _ s14 h14 => ?_⟩
  have l14 := s14 _ _ l13
  simp only [tSeq, tAsg, tIfS, tRet, tRetN, tDrop, tNext, tPar, tPar3, gName, gSub, gTup, gCons, gNil, zV, tC, tOp, tUn, tCons, tNil, tLst, tTup, tIf, tAnd, tOr, tNot, tYes, zB, zAnd, zOr, zNot, zChain, tDNewK, yAdd, ySub, yMul, yDiv, yMod, yPow, yNeg, yLt, yLe, yGt, yGe, yEq, yNe, yIs0, yNotIs0, yIx, ySet, yIn, sqAt, isNone, zFld, zSetF, insAt, zMeth, zProp, tCall, tMake, tCB, yLen, yAbs, yMax2, yMin2, yList, yTuple, yDict0, zLM, yApp, isLst, dkAt, keyOf, zGet1, zGet2, zPop1, zPop2, zForR1, zForR2, zForL, zForT, Z.intAt, refAt, zLc, iR1, iR2, iL, iT, wipe, List.getElem?_cons_zero, List.getElem?_cons_succ, List.set_cons_zero, List.set_cons_succ, List.cons_append, List.nil_append, List.append_nil, upd_same, at0, at1, at2, ix0, ix1, ix2, upd_upd, ite_true, ite_false, if_true, if_false, Bool.false_eq_true, decide_true, decide_false, reduceIte, true_and, and_true, Option.isSome_none, Option.isSome_some, Bool.not_false, Bool.not_true, zTupA, zLstA, yAddA, yMulA, sliceA, zS2A, zSAA, zSBA, yListA, yTupleA, zForE, yNeO, yReprB, tMakeN, zSlA, zSlB, wOnly, tCallN, zForR3, zMatch, zCase, zMethS, zRaiseO, yPopAt, zSl2, yIsiT, tysAt, zBInit, zOst, tXf, wAs, tMkO, zFmt, zJs, zJoin, yStr1, gLst, zCM, zListR1, zListR2, zLenR1, iR3, yInt1, yEqO, yAndO, yInO, yLenO, yReprO, isBl, Z.strAt, yEq0, yNe0, GF.zForG, GF.zLcG, GF.zListG, yIsi, tyAt, clsAt, ki_int_int, ki_bool_int, ki_none_int, ki_str_int, ki_list_int, ki_tuple_int, ki_int_bool, ki_bool_bool, ki_none_bool, ki_str_bool, ki_list_bool, ki_tuple_bool, zMakeV, tRz, zNever, l14]
  refine ⟨by show 7 < sizeLine; omega, ?_⟩
  have c2 := c1.add s14 h14
  have l15 := c2.at_
  simp only [List.cons_append, List.nil_append] at c2 l15 ⊢
  generalize upd H14 l5 (.lst [V.ref p1, .ref p2, .ref p4, .ref p5, .ref p8, .ref p9, .ref p12, .ref p14]) = H15 at c2 l15 ⊢
  -- the rest, from the ninth check on
  have rest : ∀ H17, Chk H H17 l5 [V.ref p1, .ref p2, .ref p4, .ref p5, .ref p8, .ref p9, .ref p12, .ref p14] ∨ (∃ p, Chk H H17 l5 [V.ref p1, .ref p2, .ref p4, .ref p5, .ref p8, .ref p9, .ref p12, .ref p14, .ref p]) →
      tSeq (t_Setting___init___7 K) (tSeq (t_Setting___init___8 K) (tSeq (t_Setting___init___9 K) (tSeq (t_Setting___init___10 K) (tSeq (t_Setting___init___11 K) (tSeq (t_Setting___init___12 K) (tSeq (t_Setting___init___13 K) (tSeq (t_Setting___init___14 K) (tSeq (t_Setting___init___15 K) (t_Setting___init___16 K))))))))) { nx := fun _ H' => Q .non H', rt := Q } [some (.ref x), some (.str S.copies), some (.bl S.cached), some (.int S.batch), some (.bl S.early), some (.bl S.drain), some (.str S.policy), some (.int S.groups), some (.int S.tables), some v9, some (.ref l5), none, none] H17 := by
    intro H17 hc
    obtain ⟨ys, c⟩ : ∃ ys, Chk H H17 l5 ys := hc.elim (fun c => ⟨_, c⟩) (fun ⟨p, c⟩ => ⟨_, c⟩)
    unfold t_Setting___init___7
    simp only [tSeq, tAsg, tIfS, tRet, tRetN, tDrop, tNext, tPar, tPar3, gName, gSub, gTup, gCons, gNil, zV, tC, tOp, tUn, tCons, tNil, tLst, tTup, tIf, tAnd, tOr, tNot, tYes, zB, zAnd, zOr, zNot, zChain, tDNewK, yAdd, ySub, yMul, yDiv, yMod, yPow, yNeg, yLt, yLe, yGt, yGe, yEq, yNe, yIs0, yNotIs0, yIx, ySet, yIn, sqAt, isNone, zFld, zSetF, insAt, zMeth, zProp, tCall, tMake, tCB, yLen, yAbs, yMax2, yMin2, yList, yTuple, yDict0, zLM, yApp, isLst, dkAt, keyOf, zGet1, zGet2, zPop1, zPop2, zForR1, zForR2, zForL, zForT, Z.intAt, refAt, zLc, iR1, iR2, iL, iT, wipe, List.getElem?_cons_zero, List.getElem?_cons_succ, List.set_cons_zero, List.set_cons_succ, List.cons_append, List.nil_append, List.append_nil, upd_same, at0, at1, at2, ix0, ix1, ix2, upd_upd, ite_true, ite_false, if_true, if_false, Bool.false_eq_true, decide_true, decide_false, reduceIte, true_and, and_true, Option.isSome_none, Option.isSome_some, Bool.not_false, Bool.not_true, zTupA, zLstA, yAddA, yMulA, sliceA, zS2A, zSAA, zSBA, yListA, yTupleA, zForE, yNeO, yReprB, tMakeN, zSlA, zSlB, wOnly, tCallN, zForR3, zMatch, zCase, zMethS, zRaiseO, yPopAt, zSl2, yIsiT, tysAt, zBInit, zOst, tXf, wAs, tMkO, zFmt, zJs, zJoin, yStr1, gLst, zCM, zListR1, zListR2, zLenR1, iR3, yInt1, yEqO, yAndO, yInO, yLenO, yReprO, isBl, Z.strAt, yEq0, yNe0, GF.zForG, GF.zLcG, GF.zListG, yIsi, tyAt, clsAt, ki_int_int, ki_bool_int, ki_none_int, ki_str_int, ki_list_int, ki_tuple_int, ki_int_bool, ki_bool_bool, ki_none_bool, ki_str_bool, ki_list_bool, ki_tuple_bool, zMakeV, tRz, zNever]
    refine ⟨⟨_, SqL.of c.at_⟩, loopL (xs := ys) (fun i σ H' => ∃ v11 v12, σ = [some (.ref x), some (.str S.copies), some (.bl S.cached), some (.int S.batch), some (.bl S.early), some (.bl S.drain), some (.str S.policy), some (.int S.groups), some (.int S.tables), some v9, some (.ref l5), v11, v12] ∧ H' = H17) ⟨_, _, rfl, rfl⟩ ?_ ?_ ?_⟩
    · rintro i σ H' _ ⟨v11, v12, rfl, rfl⟩
      exact SqL.of c.at_
    · rintro i y σ H' hy ⟨v11, v12, rfl, rfl⟩
      obtain ⟨p, f, rfl, hp⟩ := c.ok y (List.mem_of_getElem? hy)
      simp only [tSeq, tAsg, tIfS, tRet, tRetN, tDrop, tNext, tPar, tPar3, gName, gSub, gTup, gCons, gNil, zV, tC, tOp, tUn, tCons, tNil, tLst, tTup, tIf, tAnd, tOr, tNot, tYes, zB, zAnd, zOr, zNot, zChain, tDNewK, yAdd, ySub, yMul, yDiv, yMod, yPow, yNeg, yLt, yLe, yGt, yGe, yEq, yNe, yIs0, yNotIs0, yIx, ySet, yIn, sqAt, isNone, zFld, zSetF, insAt, zMeth, zProp, tCall, tMake, tCB, yLen, yAbs, yMax2, yMin2, yList, yTuple, yDict0, zLM, yApp, isLst, dkAt, keyOf, zGet1, zGet2, zPop1, zPop2, zForR1, zForR2, zForL, zForT, Z.intAt, refAt, zLc, iR1, iR2, iL, iT, wipe, List.getElem?_cons_zero, List.getElem?_cons_succ, List.set_cons_zero, List.set_cons_succ, List.cons_append, List.nil_append, List.append_nil, upd_same, at0, at1, at2, ix0, ix1, ix2, upd_upd, ite_true, ite_false, if_true, if_false, Bool.false_eq_true, decide_true, decide_false, reduceIte, true_and, and_true, Option.isSome_none, Option.isSome_some, Bool.not_false, Bool.not_true, zTupA, zLstA, yAddA, yMulA, sliceA, zS2A, zSAA, zSBA, yListA, yTupleA, zForE, yNeO, yReprB, tMakeN, zSlA, zSlB, wOnly, tCallN, zForR3, zMatch, zCase, zMethS, zRaiseO, yPopAt, zSl2, yIsiT, tysAt, zBInit, zOst, tXf, wAs, tMkO, zFmt, zJs, zJoin, yStr1, gLst, zCM, zListR1, zListR2, zLenR1, iR3, yInt1, yEqO, yAndO, yInO, yLenO, yReprO, isBl, Z.strAt, yEq0, yNe0, GF.zForG, GF.zLcG, GF.zListG, yIsi, tyAt, clsAt, ki_int_int, ki_bool_int, ki_none_int, ki_str_int, ki_list_int, ki_tuple_int, ki_int_bool, ki_bool_bool, ki_none_bool, ki_str_bool, ki_list_bool, ki_tuple_bool, zMakeV, tRz, zNever]
      refine ⟨p, _, rfl, SqT.of hp, rfl, _, _, rfl, _, _, rfl, rfl, ?_⟩
      unfold t_Setting___init___7b_1
      simp only [tSeq, tAsg, tIfS, tRet, tRetN, tDrop, tNext, tPar, tPar3, gName, gSub, gTup, gCons, gNil, zV, tC, tOp, tUn, tCons, tNil, tLst, tTup, tIf, tAnd, tOr, tNot, tYes, zB, zAnd, zOr, zNot, zChain, tDNewK, yAdd, ySub, yMul, yDiv, yMod, yPow, yNeg, yLt, yLe, yGt, yGe, yEq, yNe, yIs0, yNotIs0, yIx, ySet, yIn, sqAt, isNone, zFld, zSetF, insAt, zMeth, zProp, tCall, tMake, tCB, yLen, yAbs, yMax2, yMin2, yList, yTuple, yDict0, zLM, yApp, isLst, dkAt, keyOf, zGet1, zGet2, zPop1, zPop2, zForR1, zForR2, zForL, zForT, Z.intAt, refAt, zLc, iR1, iR2, iL, iT, wipe, List.getElem?_cons_zero, List.getElem?_cons_succ, List.set_cons_zero, List.set_cons_succ, List.cons_append, List.nil_append, List.append_nil, upd_same, at0, at1, at2, ix0, ix1, ix2, upd_upd, ite_true, ite_false, if_true, if_false, Bool.false_eq_true, decide_true, decide_false, reduceIte, true_and, and_true, Option.isSome_none, Option.isSome_some, Bool.not_false, Bool.not_true, zTupA, zLstA, yAddA, yMulA, sliceA, zS2A, zSAA, zSBA, yListA, yTupleA, zForE, yNeO, yReprB, tMakeN, zSlA, zSlB, wOnly, tCallN, zForR3, zMatch, zCase, zMethS, zRaiseO, yPopAt, zSl2, yIsiT, tysAt, zBInit, zOst, tXf, wAs, tMkO, zFmt, zJs, zJoin, yStr1, gLst, zCM, zListR1, zListR2, zLenR1, iR3, yInt1, yEqO, yAndO, yInO, yLenO, yReprO, isBl, Z.strAt, yEq0, yNe0, GF.zForG, GF.zLcG, GF.zListG, yIsi, tyAt, clsAt, ki_int_int, ki_bool_int, ki_none_int, ki_str_int, ki_list_int, ki_tuple_int, ki_int_bool, ki_bool_bool, ki_none_bool, ki_str_bool, ki_list_bool, ki_tuple_bool, zMakeV, tRz, zNever]
      first | exact ⟨_, _, rfl, rfl⟩ | exact ⟨_, _, rfl⟩
    · rintro σ H' ⟨v11, v12, rfl, rfl⟩
      have hx' := c.sm _ _ hx
      simp only [tSeq, tAsg, tIfS, tRet, tRetN, tDrop, tNext, tPar, tPar3, gName, gSub, gTup, gCons, gNil, zV, tC, tOp, tUn, tCons, tNil, tLst, tTup, tIf, tAnd, tOr, tNot, tYes, zB, zAnd, zOr, zNot, zChain, tDNewK, yAdd, ySub, yMul, yDiv, yMod, yPow, yNeg, yLt, yLe, yGt, yGe, yEq, yNe, yIs0, yNotIs0, yIx, ySet, yIn, sqAt, isNone, zFld, zSetF, insAt, zMeth, zProp, tCall, tMake, tCB, yLen, yAbs, yMax2, yMin2, yList, yTuple, yDict0, zLM, yApp, isLst, dkAt, keyOf, zGet1, zGet2, zPop1, zPop2, zForR1, zForR2, zForL, zForT, Z.intAt, refAt, zLc, iR1, iR2, iL, iT, wipe, List.getElem?_cons_zero, List.getElem?_cons_succ, List.set_cons_zero, List.set_cons_succ, List.cons_append, List.nil_append, List.append_nil, upd_same, at0, at1, at2, ix0, ix1, ix2, upd_upd, ite_true, ite_false, if_true, if_false, Bool.false_eq_true, decide_true, decide_false, reduceIte, true_and, and_true, Option.isSome_none, Option.isSome_some, Bool.not_false, Bool.not_true, zTupA, zLstA, yAddA, yMulA, sliceA, zS2A, zSAA, zSBA, yListA, yTupleA, zForE, yNeO, yReprB, tMakeN, zSlA, zSlB, wOnly, tCallN, zForR3, zMatch, zCase, zMethS, zRaiseO, yPopAt, zSl2, yIsiT, tysAt, zBInit, zOst, tXf, wAs, tMkO, zFmt, zJs, zJoin, yStr1, gLst, zCM, zListR1, zListR2, zLenR1, iR3, yInt1, yEqO, yAndO, yInO, yLenO, yReprO, isBl, Z.strAt, yEq0, yNe0, GF.zForG, GF.zLcG, GF.zListG, yIsi, tyAt, clsAt, ki_int_int, ki_bool_int, ki_none_int, ki_str_int, ki_list_int, ki_tuple_int, ki_int_bool, ki_bool_bool, ki_none_bool, ki_str_bool, ki_list_bool, ki_tuple_bool, zMakeV, tRz, zNever, t_Setting___init___8, t_Setting___init___9, t_Setting___init___10, t_Setting___init___11, t_Setting___init___12, t_Setting___init___13, t_Setting___init___14, t_Setting___init___15, hx']
      rw [pn_Setting_copies (.str S.copies) .non .non .non .non .non .non .non .non, pn_Setting_cached (.str S.copies) (.bl S.cached) .non .non .non .non .non .non .non, pn_Setting_batch (.str S.copies) (.bl S.cached) (.int S.batch) .non .non .non .non .non .non, pn_Setting_early (.str S.copies) (.bl S.cached) (.int S.batch) (.bl S.early) .non .non .non .non .non, pn_Setting_drain (.str S.copies) (.bl S.cached) (.int S.batch) (.bl S.early) (.bl S.drain) .non .non .non .non, pn_Setting_policy (.str S.copies) (.bl S.cached) (.int S.batch) (.bl S.early) (.bl S.drain) (.str S.policy) .non .non .non, pn_Setting_groups (.str S.copies) (.bl S.cached) (.int S.batch) (.bl S.early) (.bl S.drain) (.str S.policy) (.int S.groups) .non .non, pn_Setting_tables (.str S.copies) (.bl S.cached) (.int S.batch) (.bl S.early) (.bl S.drain) (.str S.policy) (.int S.groups) (.int S.tables) .non]
      refine ⟨⟨T.cl_Setting, T.na_Setting_copies, by decide⟩, ⟨T.cl_Setting, T.na_Setting_cached, by show 1 < 1000; decide⟩, ⟨T.cl_Setting, T.na_Setting_batch, by show 2 < 1000; decide⟩, ⟨T.cl_Setting, T.na_Setting_early, by show 3 < 1000; decide⟩, ⟨T.cl_Setting, T.na_Setting_drain, by show 4 < 1000; decide⟩, ⟨T.cl_Setting, T.na_Setting_policy, by show 5 < 1000; decide⟩, ⟨T.cl_Setting, T.na_Setting_groups, by show 6 < 1000; decide⟩, ⟨T.cl_Setting, T.na_Setting_tables, by show 7 < 1000; decide⟩, ?_⟩
      unfold t_Setting___init___16
      have gx : ∀ (o : HO) c2 u, H c2 = some u → c2 ≠ x → (upd H' x o) c2 = some u := fun o c2 u e ne => by rw [upd_ne ne]; exact c.sm _ _ e
      rcases q with ⟨rfl, q⟩ | ⟨b, D, rfl, hB, q⟩
      · simp only [tSeq, tAsg, tIfS, tRet, tRetN, tDrop, tNext, tPar, tPar3, gName, gSub, gTup, gCons, gNil, zV, tC, tOp, tUn, tCons, tNil, tLst, tTup, tIf, tAnd, tOr, tNot, tYes, zB, zAnd, zOr, zNot, zChain, tDNewK, yAdd, ySub, yMul, yDiv, yMod, yPow, yNeg, yLt, yLe, yGt, yGe, yEq, yNe, yIs0, yNotIs0, yIx, ySet, yIn, sqAt, isNone, zFld, zSetF, insAt, zMeth, zProp, tCall, tMake, tCB, yLen, yAbs, yMax2, yMin2, yList, yTuple, yDict0, zLM, yApp, isLst, dkAt, keyOf, zGet1, zGet2, zPop1, zPop2, zForR1, zForR2, zForL, zForT, Z.intAt, refAt, zLc, iR1, iR2, iL, iT, wipe, List.getElem?_cons_zero, List.getElem?_cons_succ, List.set_cons_zero, List.set_cons_succ, List.cons_append, List.nil_append, List.append_nil, upd_same, at0, at1, at2, ix0, ix1, ix2, upd_upd, ite_true, ite_false, if_true, if_false, Bool.false_eq_true, decide_true, decide_false, reduceIte, true_and, and_true, Option.isSome_none, Option.isSome_some, Bool.not_false, Bool.not_true, zTupA, zLstA, yAddA, yMulA, sliceA, zS2A, zSAA, zSBA, yListA, yTupleA, zForE, yNeO, yReprB, tMakeN, zSlA, zSlB, wOnly, tCallN, zForR3, zMatch, zCase, zMethS, zRaiseO, yPopAt, zSl2, yIsiT, tysAt, zBInit, zOst, tXf, wAs, tMkO, zFmt, zJs, zJoin, yStr1, gLst, zCM, zListR1, zListR2, zLenR1, iR3, yInt1, yEqO, yAndO, yInO, yLenO, yReprO, isBl, Z.strAt, yEq0, yNe0, GF.zForG, GF.zLcG, GF.zListG, yIsi, tyAt, clsAt, ki_int_int, ki_bool_int, ki_none_int, ki_str_int, ki_list_int, ki_tuple_int, ki_int_bool, ki_bool_bool, ki_none_bool, ki_str_bool, ki_list_bool, ki_tuple_bool, zMakeV, tRz, zNever]
        refine ⟨rfl, rfl, mk_book (std_dp T _) std_ok fun b H18 hb s18 hB => ?_⟩
        have hx18 := s18 _ _ upd_same
        simp only [tSeq, tAsg, tIfS, tRet, tRetN, tDrop, tNext, tPar, tPar3, gName, gSub, gTup, gCons, gNil, zV, tC, tOp, tUn, tCons, tNil, tLst, tTup, tIf, tAnd, tOr, tNot, tYes, zB, zAnd, zOr, zNot, zChain, tDNewK, yAdd, ySub, yMul, yDiv, yMod, yPow, yNeg, yLt, yLe, yGt, yGe, yEq, yNe, yIs0, yNotIs0, yIx, ySet, yIn, sqAt, isNone, zFld, zSetF, insAt, zMeth, zProp, tCall, tMake, tCB, yLen, yAbs, yMax2, yMin2, yList, yTuple, yDict0, zLM, yApp, isLst, dkAt, keyOf, zGet1, zGet2, zPop1, zPop2, zForR1, zForR2, zForL, zForT, Z.intAt, refAt, zLc, iR1, iR2, iL, iT, wipe, List.getElem?_cons_zero, List.getElem?_cons_succ, List.set_cons_zero, List.set_cons_succ, List.cons_append, List.nil_append, List.append_nil, upd_same, at0, at1, at2, ix0, ix1, ix2, upd_upd, ite_true, ite_false, if_true, if_false, Bool.false_eq_true, decide_true, decide_false, reduceIte, true_and, and_true, Option.isSome_none, Option.isSome_some, Bool.not_false, Bool.not_true, zTupA, zLstA, yAddA, yMulA, sliceA, zS2A, zSAA, zSBA, yListA, yTupleA, zForE, yNeO, yReprB, tMakeN, zSlA, zSlB, wOnly, tCallN, zForR3, zMatch, zCase, zMethS, zRaiseO, yPopAt, zSl2, yIsiT, tysAt, zBInit, zOst, tXf, wAs, tMkO, zFmt, zJs, zJoin, yStr1, gLst, zCM, zListR1, zListR2, zLenR1, iR3, yInt1, yEqO, yAndO, yInO, yLenO, yReprO, isBl, Z.strAt, yEq0, yNe0, GF.zForG, GF.zLcG, GF.zListG, yIsi, tyAt, clsAt, ki_int_int, ki_bool_int, ki_none_int, ki_str_int, ki_list_int, ki_tuple_int, ki_int_bool, ki_bool_bool, ki_none_bool, ki_str_bool, ki_list_bool, ki_tuple_bool, zMakeV, tRz, zNever, hx18]
        rw [pn_Setting_book (.str S.copies) (.bl S.cached) (.int S.batch) (.bl S.early) (.bl S.drain) (.str S.policy) (.int S.groups) (.int S.tables) (.ref b)]
        refine ⟨⟨T.cl_Setting, T.na_Setting_book, by show 8 < 1000; decide⟩, ?_⟩
        have nbx : b ≠ x := fun e => by rw [e, upd_same] at hb; cases hb
        have hb0 : H b = none := by
          rw [upd_ne nbx] at hb
          exact c.sm.free hb
        refine q b _ hb0 (fun c2 u e ne => by rw [upd_ne ne]; exact s18 _ _ (gx _ c2 u e ne)) ⟨dx, upd_same, ok⟩ ?_
        obtain ⟨db, w1, w2, w3, w4, w5, eb, ed, eok⟩ := hB
        exact ⟨db, w1, w2, w3, w4, w5, by rw [upd_ne nbx]; exact eb, dpAll_grow hx18 (fun c2 u e ne => by rw [upd_ne ne]; exact e) _ _ ed, eok⟩
      · simp only [tSeq, tAsg, tIfS, tRet, tRetN, tDrop, tNext, tPar, tPar3, gName, gSub, gTup, gCons, gNil, zV, tC, tOp, tUn, tCons, tNil, tLst, tTup, tIf, tAnd, tOr, tNot, tYes, zB, zAnd, zOr, zNot, zChain, tDNewK, yAdd, ySub, yMul, yDiv, yMod, yPow, yNeg, yLt, yLe, yGt, yGe, yEq, yNe, yIs0, yNotIs0, yIx, ySet, yIn, sqAt, isNone, zFld, zSetF, insAt, zMeth, zProp, tCall, tMake, tCB, yLen, yAbs, yMax2, yMin2, yList, yTuple, yDict0, zLM, yApp, isLst, dkAt, keyOf, zGet1, zGet2, zPop1, zPop2, zForR1, zForR2, zForL, zForT, Z.intAt, refAt, zLc, iR1, iR2, iL, iT, wipe, List.getElem?_cons_zero, List.getElem?_cons_succ, List.set_cons_zero, List.set_cons_succ, List.cons_append, List.nil_append, List.append_nil, upd_same, at0, at1, at2, ix0, ix1, ix2, upd_upd, ite_true, ite_false, if_true, if_false, Bool.false_eq_true, decide_true, decide_false, reduceIte, true_and, and_true, Option.isSome_none, Option.isSome_some, Bool.not_false, Bool.not_true, zTupA, zLstA, yAddA, yMulA, sliceA, zS2A, zSAA, zSBA, yListA, yTupleA, zForE, yNeO, yReprB, tMakeN, zSlA, zSlB, wOnly, tCallN, zForR3, zMatch, zCase, zMethS, zRaiseO, yPopAt, zSl2, yIsiT, tysAt, zBInit, zOst, tXf, wAs, tMkO, zFmt, zJs, zJoin, yStr1, gLst, zCM, zListR1, zListR2, zLenR1, iR3, yInt1, yEqO, yAndO, yInO, yLenO, yReprO, isBl, Z.strAt, yEq0, yNe0, GF.zForG, GF.zLcG, GF.zListG, yIsi, tyAt, clsAt, ki_int_int, ki_bool_int, ki_none_int, ki_str_int, ki_list_int, ki_tuple_int, ki_int_bool, ki_bool_bool, ki_none_bool, ki_str_bool, ki_list_bool, ki_tuple_bool, zMakeV, tRz, zNever, reduceCtorEq]
        rw [pn_Setting_book (.str S.copies) (.bl S.cached) (.int S.batch) (.bl S.early) (.bl S.drain) (.str S.policy) (.int S.groups) (.int S.tables) (.ref b)]
        exact ⟨⟨T.cl_Setting, T.na_Setting_book, by show 8 < 1000; decide⟩, q _ (fun c2 u e ne => gx _ c2 u e ne) ⟨dx, upd_same, ok⟩⟩
  unfold t_Setting___init___6
  simp only [tSeq, tAsg, tIfS, tRet, tRetN, tDrop, tNext, tPar, tPar3, gName, gSub, gTup, gCons, gNil, zV, tC, tOp, tUn, tCons, tNil, tLst, tTup, tIf, tAnd, tOr, tNot, tYes, zB, zAnd, zOr, zNot, zChain, tDNewK, yAdd, ySub, yMul, yDiv, yMod, yPow, yNeg, yLt, yLe, yGt, yGe, yEq, yNe, yIs0, yNotIs0, yIx, ySet, yIn, sqAt, isNone, zFld, zSetF, insAt, zMeth, zProp, tCall, tMake, tCB, yLen, yAbs, yMax2, yMin2, yList, yTuple, yDict0, zLM, yApp, isLst, dkAt, keyOf, zGet1, zGet2, zPop1, zPop2, zForR1, zForR2, zForL, zForT, Z.intAt, refAt, zLc, iR1, iR2, iL, iT, wipe, List.getElem?_cons_zero, List.getElem?_cons_succ, List.set_cons_zero, List.set_cons_succ, List.cons_append, List.nil_append, List.append_nil, upd_same, at0, at1, at2, ix0, ix1, ix2, upd_upd, ite_true, ite_false, if_true, if_false, Bool.false_eq_true, decide_true, decide_false, reduceIte, true_and, and_true, Option.isSome_none, Option.isSome_some, Bool.not_false, Bool.not_true, zTupA, zLstA, yAddA, yMulA, sliceA, zS2A, zSAA, zSBA, yListA, yTupleA, zForE, yNeO, yReprB, tMakeN, zSlA, zSlB, wOnly, tCallN, zForR3, zMatch, zCase, zMethS, zRaiseO, yPopAt, zSl2, yIsiT, tysAt, zBInit, zOst, tXf, wAs, tMkO, zFmt, zJs, zJoin, yStr1, gLst, zCM, zListR1, zListR2, zLenR1, iR3, yInt1, yEqO, yAndO, yInO, yLenO, yReprO, isBl, Z.strAt, yEq0, yNe0, GF.zForG, GF.zLcG, GF.zListG, yIsi, tyAt, clsAt, ki_int_int, ki_bool_int, ki_none_int, ki_str_int, ki_list_int, ki_tuple_int, ki_int_bool, ki_bool_bool, ki_none_bool, ki_str_bool, ki_list_bool, ki_tuple_bool, zMakeV, tRz, zNever, l15]
  have fin : ∀ p16 H16, Same H15 H16 → H16 p16 = some (.tup [.str "book", .bl true]) → yApp (.ref l5) [.ref p16] H16 fun _ H17 => tSeq (t_Setting___init___7 K) (tSeq (t_Setting___init___8 K) (tSeq (t_Setting___init___9 K) (tSeq (t_Setting___init___10 K) (tSeq (t_Setting___init___11 K) (tSeq (t_Setting___init___12 K) (tSeq (t_Setting___init___13 K) (tSeq (t_Setting___init___14 K) (tSeq (t_Setting___init___15 K) (t_Setting___init___16 K))))))))) { nx := fun _ H' => Q .non H', rt := Q } [some (.ref x), some (.str S.copies), some (.bl S.cached), some (.int S.batch), some (.bl S.early), some (.bl S.drain), some (.str S.policy), some (.int S.groups), some (.int S.tables), some v9, some (.ref l5), none, none] H17 := by
    intro p16 H16 s16 h16
    have l16 := s16 _ _ l15
    unfold yApp
    simp only [l16]
    exact ⟨by show 8 < sizeLine; omega, rest _ (.inr ⟨p16, c2.add s16 h16⟩)⟩
  have hq := q
  rcases hq with ⟨e, _⟩ | ⟨b, D, e, hB, _⟩
  · rw [e] at fin ⊢
    simp only [tSeq, tAsg, tIfS, tRet, tRetN, tDrop, tNext, tPar, tPar3, gName, gSub, gTup, gCons, gNil, zV, tC, tOp, tUn, tCons, tNil, tLst, tTup, tIf, tAnd, tOr, tNot, tYes, zB, zAnd, zOr, zNot, zChain, tDNewK, yAdd, ySub, yMul, yDiv, yMod, yPow, yNeg, yLt, yLe, yGt, yGe, yEq, yNe, yIs0, yNotIs0, yIx, ySet, yIn, sqAt, isNone, zFld, zSetF, insAt, zMeth, zProp, tCall, tMake, tCB, yLen, yAbs, yMax2, yMin2, yList, yTuple, yDict0, zLM, yApp, isLst, dkAt, keyOf, zGet1, zGet2, zPop1, zPop2, zForR1, zForR2, zForL, zForT, Z.intAt, refAt, zLc, iR1, iR2, iL, iT, wipe, List.getElem?_cons_zero, List.getElem?_cons_succ, List.set_cons_zero, List.set_cons_succ, List.cons_append, List.nil_append, List.append_nil, upd_same, at0, at1, at2, ix0, ix1, ix2, upd_upd, ite_true, ite_false, if_true, if_false, Bool.false_eq_true, decide_true, decide_false, reduceIte, true_and, and_true, Option.isSome_none, Option.isSome_some, Bool.not_false, Bool.not_true, zTupA, zLstA, yAddA, yMulA, sliceA, zS2A, zSAA, zSBA, yListA, yTupleA, zForE, yNeO, yReprB, tMakeN, zSlA, zSlB, wOnly, tCallN, zForR3, zMatch, zCase, zMethS, zRaiseO, yPopAt, zSl2, yIsiT, tysAt, zBInit, zOst, tXf, wAs, tMkO, zFmt, zJs, zJoin, yStr1, gLst, zCM, zListR1, zListR2, zLenR1, iR3, yInt1, yEqO, yAndO, yInO, yLenO, yReprO, isBl, Z.strAt, yEq0, yNe0, GF.zForG, GF.zLcG, GF.zListG, yIsi, tyAt, clsAt, ki_int_int, ki_bool_int, ki_none_int, ki_str_int, ki_list_int, ki_tuple_int, ki_int_bool, ki_bool_bool, ki_none_bool, ki_str_bool, ki_list_bool, ki_tuple_bool, zMakeV, tRz, zNever]
    refine ⟨by show 2 ≤ sizeLine; omega, fun p16 H16 _ s16 h16 => ?_⟩
    have := fin p16 H16 s16 h16
    unfold yApp at this
    exact this
  · obtain ⟨db, w1, w2, w3, w4, w5, eb, _⟩ := id hB
    have eb15 := c2.sm _ _ eb
    rw [e] at fin ⊢
    simp only [tSeq, tAsg, tIfS, tRet, tRetN, tDrop, tNext, tPar, tPar3, gName, gSub, gTup, gCons, gNil, zV, tC, tOp, tUn, tCons, tNil, tLst, tTup, tIf, tAnd, tOr, tNot, tYes, zB, zAnd, zOr, zNot, zChain, tDNewK, yAdd, ySub, yMul, yDiv, yMod, yPow, yNeg, yLt, yLe, yGt, yGe, yEq, yNe, yIs0, yNotIs0, yIx, ySet, yIn, sqAt, isNone, zFld, zSetF, insAt, zMeth, zProp, tCall, tMake, tCB, yLen, yAbs, yMax2, yMin2, yList, yTuple, yDict0, zLM, yApp, isLst, dkAt, keyOf, zGet1, zGet2, zPop1, zPop2, zForR1, zForR2, zForL, zForT, Z.intAt, refAt, zLc, iR1, iR2, iL, iT, wipe, List.getElem?_cons_zero, List.getElem?_cons_succ, List.set_cons_zero, List.set_cons_succ, List.cons_append, List.nil_append, List.append_nil, upd_same, at0, at1, at2, ix0, ix1, ix2, upd_upd, ite_true, ite_false, if_true, if_false, Bool.false_eq_true, decide_true, decide_false, reduceIte, true_and, and_true, Option.isSome_none, Option.isSome_some, Bool.not_false, Bool.not_true, zTupA, zLstA, yAddA, yMulA, sliceA, zS2A, zSAA, zSBA, yListA, yTupleA, zForE, yNeO, yReprB, tMakeN, zSlA, zSlB, wOnly, tCallN, zForR3, zMatch, zCase, zMethS, zRaiseO, yPopAt, zSl2, yIsiT, tysAt, zBInit, zOst, tXf, wAs, tMkO, zFmt, zJs, zJoin, yStr1, gLst, zCM, zListR1, zListR2, zLenR1, iR3, yInt1, yEqO, yAndO, yInO, yLenO, yReprO, isBl, Z.strAt, yEq0, yNe0, GF.zForG, GF.zLcG, GF.zListG, yIsi, tyAt, clsAt, ki_int_int, ki_bool_int, ki_none_int, ki_str_int, ki_list_int, ki_tuple_int, ki_int_bool, ki_bool_bool, ki_none_bool, ki_str_bool, ki_list_bool, ki_tuple_bool, zMakeV, tRz, zNever, reduceCtorEq, eb15, T.ki_Book_Book]
    refine ⟨T.i_Book, by show 2 ≤ sizeLine; omega, fun p16 H16 _ s16 h16 => ?_⟩
    have := fin p16 H16 s16 h16
    unfold yApp at this
    exact this

/-! ### the bag moves, all else stays -/
def BagAt (H : Hp) (b : Addr) : Prop := ∃ o, H b = some o ∧ Bag2 o
theorem BagAt.lst {H : Hp} {b : Addr} (h : BagAt H b) : ∃ i j, H b = some (.lst [.int i, .int j]) := by
  obtain ⟨o, h1, L, M, rfl, _⟩ := h
  exact ⟨L, M, h1⟩
theorem BagAt.same {H H' : Hp} {b : Addr} (h : BagAt H b) (s : Same H H') : BagAt H' b := by
  obtain ⟨o, h1, h2⟩ := h
  exact ⟨o, s _ _ h1, h2⟩
theorem gS {H H' : Hp} (b : Addr) (s : Same H H') : Grow b H H' := fun c u e _ => s c u e
theorem gT {H H1 H2 : Hp} {b : Addr} (g : Grow b H H1) (g2 : Grow b H1 H2) : Grow b H H2 := fun c u e ne => g2 c u (g c u e ne) ne
theorem takeA {K : PySem.W.Frag} {H : Hp} {Q : VK} {E : XK} {b : Addr} {m : Int} (hb : BagAt H b) (hm : 0 < m) (hm2 : m < 1000000000) (k : ∀ d H', 0 ≤ d → d < m → Grow b H H' → BagAt H' b → Q (.int d) H') : sp_L_take K [.ref b, .int m] H Q E := by
  obtain ⟨o, h1, h2⟩ := hb
  exact use_take h1 h2 hm hm2 fun d o' d0 d1 ho => k d _ d0 d1 (fun c u e ne => by rw [upd_ne ne]; exact e) ⟨o', upd_same, ho⟩
theorem ofA {K : PySem.W.Frag} {H : Hp} {Q : VK} {E : XK} {b l : Addr} {xs : List V} (hb : BagAt H b) (hl : H l = some (.lst xs)) (nbl : b ≠ l) (ne : xs ≠ []) (len : xs.length < 1000000) (k : ∀ v ∈ xs, ∀ H', Grow b H H' → BagAt H' b → Q v H') : sp_L_of K [.ref b, .ref l] H Q E := by
  obtain ⟨o, h1, h2⟩ := hb
  exact ⟨b, l, o, xs, rfl, h1, h2, hl, ne, len, nbl, fun v hv o' ho => k v hv _ (fun c u e ne => by rw [upd_ne ne]; exact e) ⟨o', upd_same, ho⟩⟩
/-- tuples stay while a list changes -/
theorem sqT_growL {K : PySem.W.Frag} {H H' : Hp} {b a : Addr} {ys xs : List V} (hb : H b = some (.lst ys)) (g : Grow b H H') (h : SqT K H a xs) : SqT K H' a xs := by
  rcases h with (h | ⟨o, h⟩) | h
  · exact .inl (.inl (g _ _ h fun e => by rw [e, hb] at h; cases h))
  · exact .inl (.inr ⟨o, g _ _ h fun e => by rw [e, hb] at h; cases h⟩)
  · exact .inr h
theorem duty_growL {K : PySem.W.Frag} {H H' : Hp} {b : Addr} {ys : List V} {v : V} {ds : List Str} (hb : H b = some (.lst ys)) (g : Grow b H H') (h : Dp K H v (dutyD ds)) : Dp K H' v (dutyD ds) := by
  obtain ⟨a, rfl, h2⟩ := duty_sq h
  exact duty_of (sqT_growL hb g h2)
theorem duties_growL {K : PySem.W.Frag} {H H' : Hp} {b : Addr} {ys : List V} (hb : H b = some (.lst ys)) (g : Grow b H H') : ∀ {vs : List V} {D : List (List Str)}, DpAll K H vs (D.map dutyD) → DpAll K H' vs (D.map dutyD)
  | [], [], _ => .nil
  | [], _ :: _, h => by cases h
  | _ :: _, [], h => by cases h
  | v :: vs, d :: D, h => .cons (duty_growL hb g (DpAll.one h).1) (duties_growL hb g (DpAll.one h).2)
theorem NineAt.growL {K : PySem.W.Frag} {H H' : Hp} {b : Addr} {v : V} {o : Option (List (List Str))} (hb : BagAt H b) (g : Grow b H H') (h : NineAt K H v o) : NineAt K H' v o := by
  obtain ⟨i, j, hb⟩ := hb.lst
  cases o with
  | none => exact h
  | some D =>
    obtain ⟨d, v1, v2, v3, v4, v5, e, h1, h2⟩ := h
    exact ⟨d, v1, v2, v3, v4, v5, e, g _ _ h1 (fun z => by rw [z, hb] at h1; cases h1), duties_growL hb g h2⟩
theorem ArgsAt.growL {K : PySem.W.Frag} {H H' : Hp} {b l : Addr} {S : Sett} {o : Option (List (List Str))} (hb : BagAt H b) (g : Grow b H H') (h : ArgsAt K H l S o) : ArgsAt K H' l S o := by
  obtain ⟨v9, h1, h2⟩ := h
  obtain ⟨i, j, eb⟩ := hb.lst
  exact ⟨v9, g _ _ h1 (fun z => by rw [z, eb] at h1; cases h1), h2.growL hb g⟩
theorem NineAt.same {K : PySem.W.Frag} {H H' : Hp} {v : V} {o : Option (List (List Str))} (s : Same H H') (h : NineAt K H v o) : NineAt K H' v o := by
  cases o with
  | none => exact h
  | some D =>
    obtain ⟨d, v1, v2, v3, v4, v5, e, h1, h2⟩ := h
    exact ⟨d, v1, v2, v3, v4, v5, e, s _ _ h1, dpAll_same' h2 s⟩
theorem ArgsAt.same {K : PySem.W.Frag} {H H' : Hp} {l : Addr} {S : Sett} {o : Option (List (List Str))} (h : ArgsAt K H l S o) (s : Same H H') : ArgsAt K H' l S o := by
  obtain ⟨v9, h1, h2⟩ := h
  exact ⟨v9, s _ _ h1, h2.same s⟩
/-! ### ways -/
theorem ways_dok (n : Int) : DOk (waysOf n) := by
  unfold DOk waysOf
  by_cases h1 : n / 1 % 2 = 1 <;> by_cases h2 : n / 2 % 2 = 1 <;> by_cases h4 : n / 4 % 2 = 1 <;> simp only [List.filter_cons, List.filter_nil, h1, h2, h4, decide_true, decide_false, if_true, if_false, Bool.false_eq_true, List.map_cons, List.map_nil] <;> decide +kernel
theorem rd_L_ways {K : PySem.W.Frag} {mg : Str → Option Value} (T : Top K mg) : ∀ vs H Q E, sp_L_ways K vs H Q E → t_L_ways K { nx := fun _ H' => Q .non H', rt := Q } (start nm_L_ways vs) H := by
  rintro vs H Q E ⟨n, rfl, n0, n1, q⟩
  rw [start_L_ways]
  unfold t_L_ways t_L_ways_1
  have szl := sizeLine_eq
  simp only [tSeq, tAsg, tIfS, tRet, tRetN, tDrop, tNext, tPar, tPar3, gName, gSub, gTup, gCons, gNil, zV, tC, tOp, tUn, tCons, tNil, tLst, tTup, tIf, tAnd, tOr, tNot, tYes, zB, zAnd, zOr, zNot, zChain, tDNewK, yAdd, ySub, yMul, yDiv, yMod, yPow, yNeg, yLt, yLe, yGt, yGe, yEq, yNe, yIs0, yNotIs0, yIx, ySet, yIn, sqAt, isNone, zFld, zSetF, insAt, zMeth, zProp, tCall, tMake, tCB, yLen, yAbs, yMax2, yMin2, yList, yTuple, yDict0, zLM, yApp, isLst, dkAt, keyOf, zGet1, zGet2, zPop1, zPop2, zForR1, zForR2, zForL, zForT, Z.intAt, refAt, zLc, iR1, iR2, iL, iT, wipe, List.getElem?_cons_zero, List.getElem?_cons_succ, List.set_cons_zero, List.set_cons_succ, List.cons_append, List.nil_append, List.append_nil, upd_same, at0, at1, at2, ix0, ix1, ix2, upd_upd, ite_true, ite_false, if_true, if_false, Bool.false_eq_true, decide_true, decide_false, reduceIte, true_and, and_true, Option.isSome_none, Option.isSome_some, Bool.not_false, Bool.not_true, zTupA, zLstA, yAddA, yMulA, sliceA, zS2A, zSAA, zSBA, yListA, yTupleA, zForE, yNeO, yReprB, tMakeN, zSlA, zSlB, wOnly, tCallN, zForR3, zMatch, zCase, zMethS, zRaiseO, yPopAt, zSl2, yIsiT, tysAt, zBInit, zOst, tXf, wAs, tMkO, zFmt, zJs, zJoin, yStr1, gLst, zCM, zListR1, zListR2, zLenR1, iR3, yInt1, yEqO, yAndO, yInO, yLenO, yReprO, isBl, Z.strAt, yEq0, yNe0, GF.zForG, GF.zLcG, GF.zListG, yIsi, tyAt, clsAt, ki_int_int, ki_bool_int, ki_none_int, ki_str_int, ki_list_int, ki_tuple_int, ki_int_bool, ki_bool_bool, ki_none_bool, ki_str_bool, ki_list_bool, ki_tuple_bool, zMakeV, tRz, zNever]
  refine ⟨by show 2 ≤ sizeLine; omega, fun p1 H1 _ s1 h1 => ⟨by show 2 ≤ sizeLine; omega, fun p2 H2 _ s2 h2 => ⟨by show 2 ≤ sizeLine; omega, fun p3 H3 _ s3 h3 => ⟨by show 3 ≤ sizeLine; omega, fun p4 H4 _ s4 h4 => ⟨⟨_, SqT.of h4⟩, ?_⟩⟩⟩⟩⟩
  have h14 := ((s2.trans s3).trans s4) _ _ h1
  have h24 := (s3.trans s4) _ _ h2
  have h34 := s4 _ _ h3
  have s := ((s1.trans s2).trans s3).trans s4
  have S1 := steady_t (K := K) h4
  have it : ∀ i, i < 3 → ∃ p, [V.ref p1, .ref p2, .ref p3].getD i .non = .ref p ∧ H4 p = some (.tup [.str (([("to", 1), ("from", 2), ("both", 4)] : List (Str × Int)).getD i ("", 1)).1, .int (([("to", 1), ("from", 2), ("both", 4)] : List (Str × Int)).getD i ("", 1)).2]) ∧ 0 < (([("to", 1), ("from", 2), ("both", 4)] : List (Str × Int)).getD i ("", 1)).2 ∧ (([("to", 1), ("from", 2), ("both", 4)] : List (Str × Int)).getD i ("", 1)).2 < 1073741824 := fun i hi => by
    rcases (by omega : i = 0 ∨ i = 1 ∨ i = 2) with rfl | rfl | rfl
    · exact ⟨p1, rfl, h14, by decide, by decide⟩
    · exact ⟨p2, rfl, h24, by decide, by decide⟩
    · exact ⟨p3, rfl, h34, by decide, by decide⟩
  refine comp_core S1 (fun D i H' => Same H4 H' ∧ H' D = some (.lst (((([("to", 1), ("from", 2), ("both", 4)] : List (Str × Int)).take i).filter fun p => decide (n / p.2 % 2 = 1)).map fun p => V.str p.1))) (fun D i H' hD p => p.1) (fun D hD => ⟨Same.new hD, upd_same⟩) ?_ ?_
  · rintro D i H' hD hi ⟨s', hD'⟩
    have hi : i < 3 := hi
    obtain ⟨p, e, hp, b0, b1⟩ := it i hi
    show gTup K 2 (gCons (gName 1) (gCons (gName 2) gNil)) ([V.ref p1, .ref p2, .ref p3].getD i .non) _ H' _
    rw [e]
    have hp' := s' _ _ hp
    have tk : ([("to", 1), ("from", 2), ("both", 4)] : List (Str × Int)).take (i + 1) = ([("to", 1), ("from", 2), ("both", 4)] : List (Str × Int)).take i ++ [([("to", 1), ("from", 2), ("both", 4)] : List (Str × Int)).getD i ("", 1)] := by
      rcases (by omega : i = 0 ∨ i = 1 ∨ i = 2) with rfl | rfl | rfl <;> rfl
    rw [tk]
    generalize ([("to", 1), ("from", 2), ("both", 4)] : List (Str × Int)).getD i ("", 1) = pr at hp' b0 b1
    simp only [tSeq, tAsg, tIfS, tRet, tRetN, tDrop, tNext, tPar, tPar3, gName, gSub, gTup, gCons, gNil, zV, tC, tOp, tUn, tCons, tNil, tLst, tTup, tIf, tAnd, tOr, tNot, tYes, zB, zAnd, zOr, zNot, zChain, tDNewK, yAdd, ySub, yMul, yDiv, yMod, yPow, yNeg, yLt, yLe, yGt, yGe, yEq, yNe, yIs0, yNotIs0, yIx, ySet, yIn, sqAt, isNone, zFld, zSetF, insAt, zMeth, zProp, tCall, tMake, tCB, yLen, yAbs, yMax2, yMin2, yList, yTuple, yDict0, zLM, yApp, isLst, dkAt, keyOf, zGet1, zGet2, zPop1, zPop2, zForR1, zForR2, zForL, zForT, Z.intAt, refAt, zLc, iR1, iR2, iL, iT, wipe, List.getElem?_cons_zero, List.getElem?_cons_succ, List.set_cons_zero, List.set_cons_succ, List.cons_append, List.nil_append, List.append_nil, upd_same, at0, at1, at2, ix0, ix1, ix2, upd_upd, ite_true, ite_false, if_true, if_false, Bool.false_eq_true, decide_true, decide_false, reduceIte, true_and, and_true, Option.isSome_none, Option.isSome_some, Bool.not_false, Bool.not_true, zTupA, zLstA, yAddA, yMulA, sliceA, zS2A, zSAA, zSBA, yListA, yTupleA, zForE, yNeO, yReprB, tMakeN, zSlA, zSlB, wOnly, tCallN, zForR3, zMatch, zCase, zMethS, zRaiseO, yPopAt, zSl2, yIsiT, tysAt, zBInit, zOst, tXf, wAs, tMkO, zFmt, zJs, zJoin, yStr1, gLst, zCM, zListR1, zListR2, zLenR1, iR3, yInt1, yEqO, yAndO, yInO, yLenO, yReprO, isBl, Z.strAt, yEq0, yNe0, GF.zForG, GF.zLcG, GF.zListG, yIsi, tyAt, clsAt, ki_int_int, ki_bool_int, ki_none_int, ki_str_int, ki_list_int, ki_tuple_int, ki_int_bool, ki_bool_bool, ki_none_bool, ki_str_bool, ki_list_bool, ki_tuple_bool, zMakeV, tRz, zNever]
    refine ⟨p, _, rfl, SqT.of hp', rfl, _, _, rfl, _, _, rfl, rfl, ?_⟩
    simp only [tSeq, tAsg, tIfS, tRet, tRetN, tDrop, tNext, tPar, tPar3, gName, gSub, gTup, gCons, gNil, zV, tC, tOp, tUn, tCons, tNil, tLst, tTup, tIf, tAnd, tOr, tNot, tYes, zB, zAnd, zOr, zNot, zChain, tDNewK, yAdd, ySub, yMul, yDiv, yMod, yPow, yNeg, yLt, yLe, yGt, yGe, yEq, yNe, yIs0, yNotIs0, yIx, ySet, yIn, sqAt, isNone, zFld, zSetF, insAt, zMeth, zProp, tCall, tMake, tCB, yLen, yAbs, yMax2, yMin2, yList, yTuple, yDict0, zLM, yApp, isLst, dkAt, keyOf, zGet1, zGet2, zPop1, zPop2, zForR1, zForR2, zForL, zForT, Z.intAt, refAt, zLc, iR1, iR2, iL, iT, wipe, List.getElem?_cons_zero, List.getElem?_cons_succ, List.set_cons_zero, List.set_cons_succ, List.cons_append, List.nil_append, List.append_nil, upd_same, at0, at1, at2, ix0, ix1, ix2, upd_upd, ite_true, ite_false, if_true, if_false, Bool.false_eq_true, decide_true, decide_false, reduceIte, true_and, and_true, Option.isSome_none, Option.isSome_some, Bool.not_false, Bool.not_true, zTupA, zLstA, yAddA, yMulA, sliceA, zS2A, zSAA, zSBA, yListA, yTupleA, zForE, yNeO, yReprB, tMakeN, zSlA, zSlB, wOnly, tCallN, zForR3, zMatch, zCase, zMethS, zRaiseO, yPopAt, zSl2, yIsiT, tysAt, zBInit, zOst, tXf, wAs, tMkO, zFmt, zJs, zJoin, yStr1, gLst, zCM, zListR1, zListR2, zLenR1, iR3, yInt1, yEqO, yAndO, yInO, yLenO, yReprO, isBl, Z.strAt, yEq0, yNe0, GF.zForG, GF.zLcG, GF.zListG, yIsi, tyAt, clsAt, ki_int_int, ki_bool_int, ki_none_int, ki_str_int, ki_list_int, ki_tuple_int, ki_int_bool, ki_bool_bool, ki_none_bool, ki_str_bool, ki_list_bool, ki_tuple_bool, zMakeV, tRz, zNever]
    refine ⟨⟨b0, b1⟩, by decide, ?_⟩
    have len : ((([("to", 1), ("from", 2), ("both", 4)] : List (Str × Int)).take i).filter fun p => decide (n / p.2 % 2 = 1)).length ≤ 3 := Nat.le_trans (List.length_filter_le _ _) (by rw [List.length_take]; show min i 3 ≤ 3; omega)
    by_cases h : n / pr.2 % 2 = 1
    · simp only [tSeq, tAsg, tIfS, tRet, tRetN, tDrop, tNext, tPar, tPar3, gName, gSub, gTup, gCons, gNil, zV, tC, tOp, tUn, tCons, tNil, tLst, tTup, tIf, tAnd, tOr, tNot, tYes, zB, zAnd, zOr, zNot, zChain, tDNewK, yAdd, ySub, yMul, yDiv, yMod, yPow, yNeg, yLt, yLe, yGt, yGe, yEq, yNe, yIs0, yNotIs0, yIx, ySet, yIn, sqAt, isNone, zFld, zSetF, insAt, zMeth, zProp, tCall, tMake, tCB, yLen, yAbs, yMax2, yMin2, yList, yTuple, yDict0, zLM, yApp, isLst, dkAt, keyOf, zGet1, zGet2, zPop1, zPop2, zForR1, zForR2, zForL, zForT, Z.intAt, refAt, zLc, iR1, iR2, iL, iT, wipe, List.getElem?_cons_zero, List.getElem?_cons_succ, List.set_cons_zero, List.set_cons_succ, List.cons_append, List.nil_append, List.append_nil, upd_same, at0, at1, at2, ix0, ix1, ix2, upd_upd, ite_true, ite_false, if_true, if_false, Bool.false_eq_true, decide_true, decide_false, reduceIte, true_and, and_true, Option.isSome_none, Option.isSome_some, Bool.not_false, Bool.not_true, zTupA, zLstA, yAddA, yMulA, sliceA, zS2A, zSAA, zSBA, yListA, yTupleA, zForE, yNeO, yReprB, tMakeN, zSlA, zSlB, wOnly, tCallN, zForR3, zMatch, zCase, zMethS, zRaiseO, yPopAt, zSl2, yIsiT, tysAt, zBInit, zOst, tXf, wAs, tMkO, zFmt, zJs, zJoin, yStr1, gLst, zCM, zListR1, zListR2, zLenR1, iR3, yInt1, yEqO, yAndO, yInO, yLenO, yReprO, isBl, Z.strAt, yEq0, yNe0, GF.zForG, GF.zLcG, GF.zListG, yIsi, tyAt, clsAt, ki_int_int, ki_bool_int, ki_none_int, ki_str_int, ki_list_int, ki_tuple_int, ki_int_bool, ki_bool_bool, ki_none_bool, ki_str_bool, ki_list_bool, ki_tuple_bool, zMakeV, tRz, zNever, h]
      refine ⟨_, hD', by rw [List.length_map]; omega, Same.upd s' hD, ?_⟩
      try rw [upd_same]
      rw [List.filter_append, List.filter_cons_of_pos (by simp [h]), List.map_append]
      rfl
    · simp only [tSeq, tAsg, tIfS, tRet, tRetN, tDrop, tNext, tPar, tPar3, gName, gSub, gTup, gCons, gNil, zV, tC, tOp, tUn, tCons, tNil, tLst, tTup, tIf, tAnd, tOr, tNot, tYes, zB, zAnd, zOr, zNot, zChain, tDNewK, yAdd, ySub, yMul, yDiv, yMod, yPow, yNeg, yLt, yLe, yGt, yGe, yEq, yNe, yIs0, yNotIs0, yIx, ySet, yIn, sqAt, isNone, zFld, zSetF, insAt, zMeth, zProp, tCall, tMake, tCB, yLen, yAbs, yMax2, yMin2, yList, yTuple, yDict0, zLM, yApp, isLst, dkAt, keyOf, zGet1, zGet2, zPop1, zPop2, zForR1, zForR2, zForL, zForT, Z.intAt, refAt, zLc, iR1, iR2, iL, iT, wipe, List.getElem?_cons_zero, List.getElem?_cons_succ, List.set_cons_zero, List.set_cons_succ, List.cons_append, List.nil_append, List.append_nil, upd_same, at0, at1, at2, ix0, ix1, ix2, upd_upd, ite_true, ite_false, if_true, if_false, Bool.false_eq_true, decide_true, decide_false, reduceIte, true_and, and_true, Option.isSome_none, Option.isSome_some, Bool.not_false, Bool.not_true, zTupA, zLstA, yAddA, yMulA, sliceA, zS2A, zSAA, zSBA, yListA, yTupleA, zForE, yNeO, yReprB, tMakeN, zSlA, zSlB, wOnly, tCallN, zForR3, zMatch, zCase, zMethS, zRaiseO, yPopAt, zSl2, yIsiT, tysAt, zBInit, zOst, tXf, wAs, tMkO, zFmt, zJs, zJoin, yStr1, gLst, zCM, zListR1, zListR2, zLenR1, iR3, yInt1, yEqO, yAndO, yInO, yLenO, yReprO, isBl, Z.strAt, yEq0, yNe0, GF.zForG, GF.zLcG, GF.zListG, yIsi, tyAt, clsAt, ki_int_int, ki_bool_int, ki_none_int, ki_str_int, ki_list_int, ki_tuple_int, ki_int_bool, ki_bool_bool, ki_none_bool, ki_str_bool, ki_list_bool, ki_tuple_bool, zMakeV, tRz, zNever, h]
      refine ⟨s', ?_⟩
      rw [List.filter_append, List.filter_cons_of_neg (by simp [h]), List.filter_nil, List.append_nil]
      exact hD'
  · rintro D H' hD ⟨s', hD'⟩
    have hD2 : H' D = some (.lst ((waysOf n).map V.str)) := by
      rw [hD']
      unfold waysOf
      rw [List.map_map]
      rfl
    simp only [tSeq, tAsg, tIfS, tRet, tRetN, tDrop, tNext, tPar, tPar3, gName, gSub, gTup, gCons, gNil, zV, tC, tOp, tUn, tCons, tNil, tLst, tTup, tIf, tAnd, tOr, tNot, tYes, zB, zAnd, zOr, zNot, zChain, tDNewK, yAdd, ySub, yMul, yDiv, yMod, yPow, yNeg, yLt, yLe, yGt, yGe, yEq, yNe, yIs0, yNotIs0, yIx, ySet, yIn, sqAt, isNone, zFld, zSetF, insAt, zMeth, zProp, tCall, tMake, tCB, yLen, yAbs, yMax2, yMin2, yList, yTuple, yDict0, zLM, yApp, isLst, dkAt, keyOf, zGet1, zGet2, zPop1, zPop2, zForR1, zForR2, zForL, zForT, Z.intAt, refAt, zLc, iR1, iR2, iL, iT, wipe, List.getElem?_cons_zero, List.getElem?_cons_succ, List.set_cons_zero, List.set_cons_succ, List.cons_append, List.nil_append, List.append_nil, upd_same, at0, at1, at2, ix0, ix1, ix2, upd_upd, ite_true, ite_false, if_true, if_false, Bool.false_eq_true, decide_true, decide_false, reduceIte, true_and, and_true, Option.isSome_none, Option.isSome_some, Bool.not_false, Bool.not_true, zTupA, zLstA, yAddA, yMulA, sliceA, zS2A, zSAA, zSBA, yListA, yTupleA, zForE, yNeO, yReprB, tMakeN, zSlA, zSlB, wOnly, tCallN, zForR3, zMatch, zCase, zMethS, zRaiseO, yPopAt, zSl2, yIsiT, tysAt, zBInit, zOst, tXf, wAs, tMkO, zFmt, zJs, zJoin, yStr1, gLst, zCM, zListR1, zListR2, zLenR1, iR3, yInt1, yEqO, yAndO, yInO, yLenO, yReprO, isBl, Z.strAt, yEq0, yNe0, GF.zForG, GF.zLcG, GF.zListG, yIsi, tyAt, clsAt, ki_int_int, ki_bool_int, ki_none_int, ki_str_int, ki_list_int, ki_tuple_int, ki_int_bool, ki_bool_bool, ki_none_bool, ki_str_bool, ki_list_bool, ki_tuple_bool, zMakeV, tRz, zNever, hD2]
    intro t H5 _ s5 h5
    exact q t H5 ((s.trans s').trans s5) (duty_of (SqT.of h5))

theorem five {α : Type} {xs : List α} (h : xs.length = 5) : ∃ a b c d e, xs = [a, b, c, d, e] := by
  match xs, h with
  | [a, b, c, d, e], _ => exact ⟨a, b, c, d, e, rfl⟩
theorem duties_app {K : PySem.W.Frag} {H : Hp} : ∀ {ds es : List PyData} {vs ws : List V}, DpAll K H vs ds → DpAll K H ws es → DpAll K H (vs ++ ws) (ds ++ es)
  | [], es, [], ws, _, h => h
  | [], _, _ :: _, _, h, _ => by cases h
  | _ :: _, _, [], _, h, _ => by cases h
  | d :: ds, es, v :: vs, ws, h, h' => .cons (DpAll.one h).1 (duties_app (DpAll.one h).2 h')
theorem rd_L_arguments {K : PySem.W.Frag} {mg : Str → Option Value} (T : Top K mg) : ∀ vs H Q E, sp_L_arguments K vs H Q E → t_L_arguments K { nx := fun _ H' => Q .non H', rt := Q } (start nm_L_arguments vs) H := by
  rintro vs H Q E ⟨b, o, rfl, hb, hbo, q⟩
  rw [start_L_arguments]
  unfold t_L_arguments t_L_arguments_1
  have szl := sizeLine_eq
  have B0 : BagAt H b := ⟨o, hb, hbo⟩
  simp only [tSeq, tAsg, tIfS, tRet, tRetN, tDrop, tNext, tPar, tPar3, gName, gSub, gTup, gCons, gNil, zV, tC, tOp, tUn, tCons, tNil, tLst, tTup, tIf, tAnd, tOr, tNot, tYes, zB, zAnd, zOr, zNot, zChain, tDNewK, yAdd, ySub, yMul, yDiv, yMod, yPow, yNeg, yLt, yLe, yGt, yGe, yEq, yNe, yIs0, yNotIs0, yIx, ySet, yIn, sqAt, isNone, zFld, zSetF, insAt, zMeth, zProp, tCall, tMake, tCB, yLen, yAbs, yMax2, yMin2, yList, yTuple, yDict0, zLM, yApp, isLst, dkAt, keyOf, zGet1, zGet2, zPop1, zPop2, zForR1, zForR2, zForL, zForT, Z.intAt, refAt, zLc, iR1, iR2, iL, iT, wipe, List.getElem?_cons_zero, List.getElem?_cons_succ, List.set_cons_zero, List.set_cons_succ, List.cons_append, List.nil_append, List.append_nil, upd_same, at0, at1, at2, ix0, ix1, ix2, upd_upd, ite_true, ite_false, if_true, if_false, Bool.false_eq_true, decide_true, decide_false, reduceIte, true_and, and_true, Option.isSome_none, Option.isSome_some, Bool.not_false, Bool.not_true, zTupA, zLstA, yAddA, yMulA, sliceA, zS2A, zSAA, zSBA, yListA, yTupleA, zForE, yNeO, yReprB, tMakeN, zSlA, zSlB, wOnly, tCallN, zForR3, zMatch, zCase, zMethS, zRaiseO, yPopAt, zSl2, yIsiT, tysAt, zBInit, zOst, tXf, wAs, tMkO, zFmt, zJs, zJoin, yStr1, gLst, zCM, zListR1, zListR2, zLenR1, iR3, yInt1, yEqO, yAndO, yInO, yLenO, yReprO, isBl, Z.strAt, yEq0, yNe0, GF.zForG, GF.zLcG, GF.zListG, yIsi, tyAt, clsAt, ki_int_int, ki_bool_int, ki_none_int, ki_str_int, ki_list_int, ki_tuple_int, ki_int_bool, ki_bool_bool, ki_none_bool, ki_str_bool, ki_list_bool, ki_tuple_bool, zMakeV, tRz, zNever]
  refine ⟨by show 3 ≤ sizeLine; omega, fun l0 H1 n1 s1 e1 => ?_⟩
  refine ofA (B0.same s1) e1 (ne_of_none hb n1) (by simp) (by show 3 < 1000000; decide) fun v hv H2 g2 B2 => ?_
  obtain ⟨c, hc, rfl⟩ : ∃ c : Str, c ∈ (["none", "ends", "all"] : List Str) ∧ v = .str c := by
    simp only [List.mem_cons, List.not_mem_nil, or_false] at hv
    rcases hv with rfl | rfl | rfl
    · exact ⟨_, by simp, rfl⟩
    · exact ⟨_, by simp, rfl⟩
    · exact ⟨_, by simp, rfl⟩
  have G2 : Grow b H H2 := (gS b s1).gT g2
  refine takeA B2 (by decide) (by decide) fun d3 H3 _ _ g3 B3 => ?_
  simp only [tSeq, tAsg, tIfS, tRet, tRetN, tDrop, tNext, tPar, tPar3, gName, gSub, gTup, gCons, gNil, zV, tC, tOp, tUn, tCons, tNil, tLst, tTup, tIf, tAnd, tOr, tNot, tYes, zB, zAnd, zOr, zNot, zChain, tDNewK, yAdd, ySub, yMul, yDiv, yMod, yPow, yNeg, yLt, yLe, yGt, yGe, yEq, yNe, yIs0, yNotIs0, yIx, ySet, yIn, sqAt, isNone, zFld, zSetF, insAt, zMeth, zProp, tCall, tMake, tCB, yLen, yAbs, yMax2, yMin2, yList, yTuple, yDict0, zLM, yApp, isLst, dkAt, keyOf, zGet1, zGet2, zPop1, zPop2, zForR1, zForR2, zForL, zForT, Z.intAt, refAt, zLc, iR1, iR2, iL, iT, wipe, List.getElem?_cons_zero, List.getElem?_cons_succ, List.set_cons_zero, List.set_cons_succ, List.cons_append, List.nil_append, List.append_nil, upd_same, at0, at1, at2, ix0, ix1, ix2, upd_upd, ite_true, ite_false, if_true, if_false, Bool.false_eq_true, decide_true, decide_false, reduceIte, true_and, and_true, Option.isSome_none, Option.isSome_some, Bool.not_false, Bool.not_true, zTupA, zLstA, yAddA, yMulA, sliceA, zS2A, zSAA, zSBA, yListA, yTupleA, zForE, yNeO, yReprB, tMakeN, zSlA, zSlB, wOnly, tCallN, zForR3, zMatch, zCase, zMethS, zRaiseO, yPopAt, zSl2, yIsiT, tysAt, zBInit, zOst, tXf, wAs, tMkO, zFmt, zJs, zJoin, yStr1, gLst, zCM, zListR1, zListR2, zLenR1, iR3, yInt1, yEqO, yAndO, yInO, yLenO, yReprO, isBl, Z.strAt, yEq0, yNe0, GF.zForG, GF.zLcG, GF.zListG, yIsi, tyAt, clsAt, ki_int_int, ki_bool_int, ki_none_int, ki_str_int, ki_list_int, ki_tuple_int, ki_int_bool, ki_bool_bool, ki_none_bool, ki_str_bool, ki_list_bool, ki_tuple_bool, zMakeV, tRz, zNever]
  refine takeA B3 (by decide) (by decide) fun d4 H4 d40 d41 g4 B4 => ?_
  refine takeA B4 (by decide) (by decide) fun d5 H5 _ _ g5 B5 => ?_
  simp only [tSeq, tAsg, tIfS, tRet, tRetN, tDrop, tNext, tPar, tPar3, gName, gSub, gTup, gCons, gNil, zV, tC, tOp, tUn, tCons, tNil, tLst, tTup, tIf, tAnd, tOr, tNot, tYes, zB, zAnd, zOr, zNot, zChain, tDNewK, yAdd, ySub, yMul, yDiv, yMod, yPow, yNeg, yLt, yLe, yGt, yGe, yEq, yNe, yIs0, yNotIs0, yIx, ySet, yIn, sqAt, isNone, zFld, zSetF, insAt, zMeth, zProp, tCall, tMake, tCB, yLen, yAbs, yMax2, yMin2, yList, yTuple, yDict0, zLM, yApp, isLst, dkAt, keyOf, zGet1, zGet2, zPop1, zPop2, zForR1, zForR2, zForL, zForT, Z.intAt, refAt, zLc, iR1, iR2, iL, iT, wipe, List.getElem?_cons_zero, List.getElem?_cons_succ, List.set_cons_zero, List.set_cons_succ, List.cons_append, List.nil_append, List.append_nil, upd_same, at0, at1, at2, ix0, ix1, ix2, upd_upd, ite_true, ite_false, if_true, if_false, Bool.false_eq_true, decide_true, decide_false, reduceIte, true_and, and_true, Option.isSome_none, Option.isSome_some, Bool.not_false, Bool.not_true, zTupA, zLstA, yAddA, yMulA, sliceA, zS2A, zSAA, zSBA, yListA, yTupleA, zForE, yNeO, yReprB, tMakeN, zSlA, zSlB, wOnly, tCallN, zForR3, zMatch, zCase, zMethS, zRaiseO, yPopAt, zSl2, yIsiT, tysAt, zBInit, zOst, tXf, wAs, tMkO, zFmt, zJs, zJoin, yStr1, gLst, zCM, zListR1, zListR2, zLenR1, iR3, yInt1, yEqO, yAndO, yInO, yLenO, yReprO, isBl, Z.strAt, yEq0, yNe0, GF.zForG, GF.zLcG, GF.zListG, yIsi, tyAt, clsAt, ki_int_int, ki_bool_int, ki_none_int, ki_str_int, ki_list_int, ki_tuple_int, ki_int_bool, ki_bool_bool, ki_none_bool, ki_str_bool, ki_list_bool, ki_tuple_bool, zMakeV, tRz, zNever]
  have G5 : Grow b H H5 := ((G2.gT g3).gT g4).gT g5
  refine ⟨by show 4 ≤ sizeLine; omega, fun l1 H6 n6 s6 e6 => ?_⟩
  obtain ⟨i5, j5, b5⟩ := B5.lst
  have nl1 : l1 ≠ b := (ne_of_none b5 n6).symm
  have B6 := B5.same s6
  have G6 := G5.gT (gS b s6)
  unfold t_L_arguments_2
  simp only [tSeq, tAsg, tIfS, tRet, tRetN, tDrop, tNext, tPar, tPar3, gName, gSub, gTup, gCons, gNil, zV, tC, tOp, tUn, tCons, tNil, tLst, tTup, tIf, tAnd, tOr, tNot, tYes, zB, zAnd, zOr, zNot, zChain, tDNewK, yAdd, ySub, yMul, yDiv, yMod, yPow, yNeg, yLt, yLe, yGt, yGe, yEq, yNe, yIs0, yNotIs0, yIx, ySet, yIn, sqAt, isNone, zFld, zSetF, insAt, zMeth, zProp, tCall, tMake, tCB, yLen, yAbs, yMax2, yMin2, yList, yTuple, yDict0, zLM, yApp, isLst, dkAt, keyOf, zGet1, zGet2, zPop1, zPop2, zForR1, zForR2, zForL, zForT, Z.intAt, refAt, zLc, iR1, iR2, iL, iT, wipe, List.getElem?_cons_zero, List.getElem?_cons_succ, List.set_cons_zero, List.set_cons_succ, List.cons_append, List.nil_append, List.append_nil, upd_same, at0, at1, at2, ix0, ix1, ix2, upd_upd, ite_true, ite_false, if_true, if_false, Bool.false_eq_true, decide_true, decide_false, reduceIte, true_and, and_true, Option.isSome_none, Option.isSome_some, Bool.not_false, Bool.not_true, zTupA, zLstA, yAddA, yMulA, sliceA, zS2A, zSAA, zSBA, yListA, yTupleA, zForE, yNeO, yReprB, tMakeN, zSlA, zSlB, wOnly, tCallN, zForR3, zMatch, zCase, zMethS, zRaiseO, yPopAt, zSl2, yIsiT, tysAt, zBInit, zOst, tXf, wAs, tMkO, zFmt, zJs, zJoin, yStr1, gLst, zCM, zListR1, zListR2, zLenR1, iR3, yInt1, yEqO, yAndO, yInO, yLenO, yReprO, isBl, Z.strAt, yEq0, yNe0, GF.zForG, GF.zLcG, GF.zListG, yIsi, tyAt, clsAt, ki_int_int, ki_bool_int, ki_none_int, ki_str_int, ki_list_int, ki_tuple_int, ki_int_bool, ki_bool_bool, ki_none_bool, ki_str_bool, ki_list_bool, ki_tuple_bool, zMakeV, tRz, zNever]
  refine takeA B6 (by decide) (by decide) fun d7 H7 _ _ g7 B7 => ?_
  simp only [tSeq, tAsg, tIfS, tRet, tRetN, tDrop, tNext, tPar, tPar3, gName, gSub, gTup, gCons, gNil, zV, tC, tOp, tUn, tCons, tNil, tLst, tTup, tIf, tAnd, tOr, tNot, tYes, zB, zAnd, zOr, zNot, zChain, tDNewK, yAdd, ySub, yMul, yDiv, yMod, yPow, yNeg, yLt, yLe, yGt, yGe, yEq, yNe, yIs0, yNotIs0, yIx, ySet, yIn, sqAt, isNone, zFld, zSetF, insAt, zMeth, zProp, tCall, tMake, tCB, yLen, yAbs, yMax2, yMin2, yList, yTuple, yDict0, zLM, yApp, isLst, dkAt, keyOf, zGet1, zGet2, zPop1, zPop2, zForR1, zForR2, zForL, zForT, Z.intAt, refAt, zLc, iR1, iR2, iL, iT, wipe, List.getElem?_cons_zero, List.getElem?_cons_succ, List.set_cons_zero, List.set_cons_succ, List.cons_append, List.nil_append, List.append_nil, upd_same, at0, at1, at2, ix0, ix1, ix2, upd_upd, ite_true, ite_false, if_true, if_false, Bool.false_eq_true, decide_true, decide_false, reduceIte, true_and, and_true, Option.isSome_none, Option.isSome_some, Bool.not_false, Bool.not_true, zTupA, zLstA, yAddA, yMulA, sliceA, zS2A, zSAA, zSBA, yListA, yTupleA, zForE, yNeO, yReprB, tMakeN, zSlA, zSlB, wOnly, tCallN, zForR3, zMatch, zCase, zMethS, zRaiseO, yPopAt, zSl2, yIsiT, tysAt, zBInit, zOst, tXf, wAs, tMkO, zFmt, zJs, zJoin, yStr1, gLst, zCM, zListR1, zListR2, zLenR1, iR3, yInt1, yEqO, yAndO, yInO, yLenO, yReprO, isBl, Z.strAt, yEq0, yNe0, GF.zForG, GF.zLcG, GF.zListG, yIsi, tyAt, clsAt, ki_int_int, ki_bool_int, ki_none_int, ki_str_int, ki_list_int, ki_tuple_int, ki_int_bool, ki_bool_bool, ki_none_bool, ki_str_bool, ki_list_bool, ki_tuple_bool, zMakeV, tRz, zNever]
  refine ⟨by show 5 ≤ sizeLine; omega, fun l8 H8 n8 s8 e8 => ?_⟩
  obtain ⟨i7, j7, b7⟩ := B7.lst
  refine ofA (B7.same s8) e8 (ne_of_none b7 n8) (by simp) (by show 5 < 1000000; decide) fun v hv H9 g9 B9 => ?_
  obtain ⟨po, hpo, rfl⟩ : ∃ c : Str, c ∈ (["first", "best", "worst", "next", "halves"] : List Str) ∧ v = .str c := by
    simp only [List.mem_cons, List.not_mem_nil, or_false] at hv
    rcases hv with rfl | rfl | rfl | rfl | rfl
    · exact ⟨_, by simp, rfl⟩
    · exact ⟨_, by simp, rfl⟩
    · exact ⟨_, by simp, rfl⟩
    · exact ⟨_, by simp, rfl⟩
    · exact ⟨_, by simp, rfl⟩
  refine ⟨by show 2 ≤ sizeLine; omega, fun l10 H10 n10 s10 e10 => ?_⟩
  have g6to10 : Grow b H6 H10 := ((g7.gT (gS b s8)).gT g9).gT (gS b s10)
  have e610 := g6to10 _ _ e6 nl1
  simp only [tSeq, tAsg, tIfS, tRet, tRetN, tDrop, tNext, tPar, tPar3, gName, gSub, gTup, gCons, gNil, zV, tC, tOp, tUn, tCons, tNil, tLst, tTup, tIf, tAnd, tOr, tNot, tYes, zB, zAnd, zOr, zNot, zChain, tDNewK, yAdd, ySub, yMul, yDiv, yMod, yPow, yNeg, yLt, yLe, yGt, yGe, yEq, yNe, yIs0, yNotIs0, yIx, ySet, yIn, sqAt, isNone, zFld, zSetF, insAt, zMeth, zProp, tCall, tMake, tCB, yLen, yAbs, yMax2, yMin2, yList, yTuple, yDict0, zLM, yApp, isLst, dkAt, keyOf, zGet1, zGet2, zPop1, zPop2, zForR1, zForR2, zForL, zForT, Z.intAt, refAt, zLc, iR1, iR2, iL, iT, wipe, List.getElem?_cons_zero, List.getElem?_cons_succ, List.set_cons_zero, List.set_cons_succ, List.cons_append, List.nil_append, List.append_nil, upd_same, at0, at1, at2, ix0, ix1, ix2, upd_upd, ite_true, ite_false, if_true, if_false, Bool.false_eq_true, decide_true, decide_false, reduceIte, true_and, and_true, Option.isSome_none, Option.isSome_some, Bool.not_false, Bool.not_true, zTupA, zLstA, yAddA, yMulA, sliceA, zS2A, zSAA, zSBA, yListA, yTupleA, zForE, yNeO, yReprB, tMakeN, zSlA, zSlB, wOnly, tCallN, zForR3, zMatch, zCase, zMethS, zRaiseO, yPopAt, zSl2, yIsiT, tysAt, zBInit, zOst, tXf, wAs, tMkO, zFmt, zJs, zJoin, yStr1, gLst, zCM, zListR1, zListR2, zLenR1, iR3, yInt1, yEqO, yAndO, yInO, yLenO, yReprO, isBl, Z.strAt, yEq0, yNe0, GF.zForG, GF.zLcG, GF.zListG, yIsi, tyAt, clsAt, ki_int_int, ki_bool_int, ki_none_int, ki_str_int, ki_list_int, ki_tuple_int, ki_int_bool, ki_bool_bool, ki_none_bool, ki_str_bool, ki_list_bool, ki_tuple_bool, zMakeV, tRz, zNever, e610, e10]
  refine ⟨by show 4 + 2 ≤ sizeLine; omega, fun l11 H11 n11 s11 e11 => ?_⟩
  have B11 := (B9.same s10).same s11
  have G11 := (G6.gT g6to10).gT (gS b s11)
  obtain ⟨i10, j10, b10⟩ := (B9.same s10).lst
  have nl11 : l11 ≠ b := (ne_of_none b10 n11).symm
  unfold t_L_arguments_3
  simp only [tSeq, tAsg, tIfS, tRet, tRetN, tDrop, tNext, tPar, tPar3, gName, gSub, gTup, gCons, gNil, zV, tC, tOp, tUn, tCons, tNil, tLst, tTup, tIf, tAnd, tOr, tNot, tYes, zB, zAnd, zOr, zNot, zChain, tDNewK, yAdd, ySub, yMul, yDiv, yMod, yPow, yNeg, yLt, yLe, yGt, yGe, yEq, yNe, yIs0, yNotIs0, yIx, ySet, yIn, sqAt, isNone, zFld, zSetF, insAt, zMeth, zProp, tCall, tMake, tCB, yLen, yAbs, yMax2, yMin2, yList, yTuple, yDict0, zLM, yApp, isLst, dkAt, keyOf, zGet1, zGet2, zPop1, zPop2, zForR1, zForR2, zForL, zForT, Z.intAt, refAt, zLc, iR1, iR2, iL, iT, wipe, List.getElem?_cons_zero, List.getElem?_cons_succ, List.set_cons_zero, List.set_cons_succ, List.cons_append, List.nil_append, List.append_nil, upd_same, at0, at1, at2, ix0, ix1, ix2, upd_upd, ite_true, ite_false, if_true, if_false, Bool.false_eq_true, decide_true, decide_false, reduceIte, true_and, and_true, Option.isSome_none, Option.isSome_some, Bool.not_false, Bool.not_true, zTupA, zLstA, yAddA, yMulA, sliceA, zS2A, zSAA, zSBA, yListA, yTupleA, zForE, yNeO, yReprB, tMakeN, zSlA, zSlB, wOnly, tCallN, zForR3, zMatch, zCase, zMethS, zRaiseO, yPopAt, zSl2, yIsiT, tysAt, zBInit, zOst, tXf, wAs, tMkO, zFmt, zJs, zJoin, yStr1, gLst, zCM, zListR1, zListR2, zLenR1, iR3, yInt1, yEqO, yAndO, yInO, yLenO, yReprO, isBl, Z.strAt, yEq0, yNe0, GF.zForG, GF.zLcG, GF.zListG, yIsi, tyAt, clsAt, ki_int_int, ki_bool_int, ki_none_int, ki_str_int, ki_list_int, ki_tuple_int, ki_int_bool, ki_bool_bool, ki_none_bool, ki_str_bool, ki_list_bool, ki_tuple_bool, zMakeV, tRz, zNever]
  refine takeA B11 (by decide) (by decide) fun d12 H12 d120 d121 g12 B12 => ?_
  simp only [tSeq, tAsg, tIfS, tRet, tRetN, tDrop, tNext, tPar, tPar3, gName, gSub, gTup, gCons, gNil, zV, tC, tOp, tUn, tCons, tNil, tLst, tTup, tIf, tAnd, tOr, tNot, tYes, zB, zAnd, zOr, zNot, zChain, tDNewK, yAdd, ySub, yMul, yDiv, yMod, yPow, yNeg, yLt, yLe, yGt, yGe, yEq, yNe, yIs0, yNotIs0, yIx, ySet, yIn, sqAt, isNone, zFld, zSetF, insAt, zMeth, zProp, tCall, tMake, tCB, yLen, yAbs, yMax2, yMin2, yList, yTuple, yDict0, zLM, yApp, isLst, dkAt, keyOf, zGet1, zGet2, zPop1, zPop2, zForR1, zForR2, zForL, zForT, Z.intAt, refAt, zLc, iR1, iR2, iL, iT, wipe, List.getElem?_cons_zero, List.getElem?_cons_succ, List.set_cons_zero, List.set_cons_succ, List.cons_append, List.nil_append, List.append_nil, upd_same, at0, at1, at2, ix0, ix1, ix2, upd_upd, ite_true, ite_false, if_true, if_false, Bool.false_eq_true, decide_true, decide_false, reduceIte, true_and, and_true, Option.isSome_none, Option.isSome_some, Bool.not_false, Bool.not_true, zTupA, zLstA, yAddA, yMulA, sliceA, zS2A, zSAA, zSBA, yListA, yTupleA, zForE, yNeO, yReprB, tMakeN, zSlA, zSlB, wOnly, tCallN, zForR3, zMatch, zCase, zMethS, zRaiseO, yPopAt, zSl2, yIsiT, tysAt, zBInit, zOst, tXf, wAs, tMkO, zFmt, zJs, zJoin, yStr1, gLst, zCM, zListR1, zListR2, zLenR1, iR3, yInt1, yEqO, yAndO, yInO, yLenO, yReprO, isBl, Z.strAt, yEq0, yNe0, GF.zForG, GF.zLcG, GF.zListG, yIsi, tyAt, clsAt, ki_int_int, ki_bool_int, ki_none_int, ki_str_int, ki_list_int, ki_tuple_int, ki_int_bool, ki_bool_bool, ki_none_bool, ki_str_bool, ki_list_bool, ki_tuple_bool, zMakeV, tRz, zNever]
  refine takeA B12 (by decide) (by decide) fun d13 H13 d130 d131 g13 B13 => ?_
  simp only [tSeq, tAsg, tIfS, tRet, tRetN, tDrop, tNext, tPar, tPar3, gName, gSub, gTup, gCons, gNil, zV, tC, tOp, tUn, tCons, tNil, tLst, tTup, tIf, tAnd, tOr, tNot, tYes, zB, zAnd, zOr, zNot, zChain, tDNewK, yAdd, ySub, yMul, yDiv, yMod, yPow, yNeg, yLt, yLe, yGt, yGe, yEq, yNe, yIs0, yNotIs0, yIx, ySet, yIn, sqAt, isNone, zFld, zSetF, insAt, zMeth, zProp, tCall, tMake, tCB, yLen, yAbs, yMax2, yMin2, yList, yTuple, yDict0, zLM, yApp, isLst, dkAt, keyOf, zGet1, zGet2, zPop1, zPop2, zForR1, zForR2, zForL, zForT, Z.intAt, refAt, zLc, iR1, iR2, iL, iT, wipe, List.getElem?_cons_zero, List.getElem?_cons_succ, List.set_cons_zero, List.set_cons_succ, List.cons_append, List.nil_append, List.append_nil, upd_same, at0, at1, at2, ix0, ix1, ix2, upd_upd, ite_true, ite_false, if_true, if_false, Bool.false_eq_true, decide_true, decide_false, reduceIte, true_and, and_true, Option.isSome_none, Option.isSome_some, Bool.not_false, Bool.not_true, zTupA, zLstA, yAddA, yMulA, sliceA, zS2A, zSAA, zSBA, yListA, yTupleA, zForE, yNeO, yReprB, tMakeN, zSlA, zSlB, wOnly, tCallN, zForR3, zMatch, zCase, zMethS, zRaiseO, yPopAt, zSl2, yIsiT, tysAt, zBInit, zOst, tXf, wAs, tMkO, zFmt, zJs, zJoin, yStr1, gLst, zCM, zListR1, zListR2, zLenR1, iR3, yInt1, yEqO, yAndO, yInO, yLenO, yReprO, isBl, Z.strAt, yEq0, yNe0, GF.zForG, GF.zLcG, GF.zListG, yIsi, tyAt, clsAt, ki_int_int, ki_bool_int, ki_none_int, ki_str_int, ki_list_int, ki_tuple_int, ki_int_bool, ki_bool_bool, ki_none_bool, ki_str_bool, ki_list_bool, ki_tuple_bool, zMakeV, tRz, zNever]
  refine ⟨by show 2 ≤ sizeLine; omega, fun l14 H14 n14 s14 e14 => ?_⟩
  have g11to14 : Grow b H11 H14 := (g12.gT g13).gT (gS b s14)
  have e1114 := g11to14 _ _ e11 nl11
  simp only [tSeq, tAsg, tIfS, tRet, tRetN, tDrop, tNext, tPar, tPar3, gName, gSub, gTup, gCons, gNil, zV, tC, tOp, tUn, tCons, tNil, tLst, tTup, tIf, tAnd, tOr, tNot, tYes, zB, zAnd, zOr, zNot, zChain, tDNewK, yAdd, ySub, yMul, yDiv, yMod, yPow, yNeg, yLt, yLe, yGt, yGe, yEq, yNe, yIs0, yNotIs0, yIx, ySet, yIn, sqAt, isNone, zFld, zSetF, insAt, zMeth, zProp, tCall, tMake, tCB, yLen, yAbs, yMax2, yMin2, yList, yTuple, yDict0, zLM, yApp, isLst, dkAt, keyOf, zGet1, zGet2, zPop1, zPop2, zForR1, zForR2, zForL, zForT, Z.intAt, refAt, zLc, iR1, iR2, iL, iT, wipe, List.getElem?_cons_zero, List.getElem?_cons_succ, List.set_cons_zero, List.set_cons_succ, List.cons_append, List.nil_append, List.append_nil, upd_same, at0, at1, at2, ix0, ix1, ix2, upd_upd, ite_true, ite_false, if_true, if_false, Bool.false_eq_true, decide_true, decide_false, reduceIte, true_and, and_true, Option.isSome_none, Option.isSome_some, Bool.not_false, Bool.not_true, zTupA, zLstA, yAddA, yMulA, sliceA, zS2A, zSAA, zSBA, yListA, yTupleA, zForE, yNeO, yReprB, tMakeN, zSlA, zSlB, wOnly, tCallN, zForR3, zMatch, zCase, zMethS, zRaiseO, yPopAt, zSl2, yIsiT, tysAt, zBInit, zOst, tXf, wAs, tMkO, zFmt, zJs, zJoin, yStr1, gLst, zCM, zListR1, zListR2, zLenR1, iR3, yInt1, yEqO, yAndO, yInO, yLenO, yReprO, isBl, Z.strAt, yEq0, yNe0, GF.zForG, GF.zLcG, GF.zListG, yIsi, tyAt, clsAt, ki_int_int, ki_bool_int, ki_none_int, ki_str_int, ki_list_int, ki_tuple_int, ki_int_bool, ki_bool_bool, ki_none_bool, ki_str_bool, ki_list_bool, ki_tuple_bool, zMakeV, tRz, zNever, e1114, e14]
  refine ⟨by show 6 + 2 ≤ sizeLine; omega, fun l15 H15 n15 s15 e15 => ?_⟩
  have B14 := B13.same s14
  have B15 := B14.same s15
  have G15 := (G11.gT g11to14).gT (gS b s15)
  obtain ⟨i14, j14, b14⟩ := B14.lst
  have nl15 : l15 ≠ b := (ne_of_none b14 n15).symm
  unfold t_L_arguments_4
  simp only [tSeq, tAsg, tIfS, tRet, tRetN, tDrop, tNext, tPar, tPar3, gName, gSub, gTup, gCons, gNil, zV, tC, tOp, tUn, tCons, tNil, tLst, tTup, tIf, tAnd, tOr, tNot, tYes, zB, zAnd, zOr, zNot, zChain, tDNewK, yAdd, ySub, yMul, yDiv, yMod, yPow, yNeg, yLt, yLe, yGt, yGe, yEq, yNe, yIs0, yNotIs0, yIx, ySet, yIn, sqAt, isNone, zFld, zSetF, insAt, zMeth, zProp, tCall, tMake, tCB, yLen, yAbs, yMax2, yMin2, yList, yTuple, yDict0, zLM, yApp, isLst, dkAt, keyOf, zGet1, zGet2, zPop1, zPop2, zForR1, zForR2, zForL, zForT, Z.intAt, refAt, zLc, iR1, iR2, iL, iT, wipe, List.getElem?_cons_zero, List.getElem?_cons_succ, List.set_cons_zero, List.set_cons_succ, List.cons_append, List.nil_append, List.append_nil, upd_same, at0, at1, at2, ix0, ix1, ix2, upd_upd, ite_true, ite_false, if_true, if_false, Bool.false_eq_true, decide_true, decide_false, reduceIte, true_and, and_true, Option.isSome_none, Option.isSome_some, Bool.not_false, Bool.not_true, zTupA, zLstA, yAddA, yMulA, sliceA, zS2A, zSAA, zSBA, yListA, yTupleA, zForE, yNeO, yReprB, tMakeN, zSlA, zSlB, wOnly, tCallN, zForR3, zMatch, zCase, zMethS, zRaiseO, yPopAt, zSl2, yIsiT, tysAt, zBInit, zOst, tXf, wAs, tMkO, zFmt, zJs, zJoin, yStr1, gLst, zCM, zListR1, zListR2, zLenR1, iR3, yInt1, yEqO, yAndO, yInO, yLenO, yReprO, isBl, Z.strAt, yEq0, yNe0, GF.zForG, GF.zLcG, GF.zListG, yIsi, tyAt, clsAt, ki_int_int, ki_bool_int, ki_none_int, ki_str_int, ki_list_int, ki_tuple_int, ki_int_bool, ki_bool_bool, ki_none_bool, ki_str_bool, ki_list_bool, ki_tuple_bool, zMakeV, tRz, zNever]
  refine takeA B15 (by decide) (by decide) fun d16 H16 _ _ g16 B16 => ?_
  have e16 := g16 _ _ e15 nl15
  have G16 := G15.gT g16
  have ok : SettOk ⟨c, decide (d3 = 0), d4, decide (d5 = 0), decide (d7 = 0), po, 1 + d12, 1 + d13⟩ := ⟨hc, ⟨d40, by show d4 ≤ 8; omega⟩, hpo, ⟨by show 1 ≤ 1 + d12; omega, by show 1 + d12 ≤ 32; omega⟩, by show 1 ≤ 1 + d13; omega, by show 1 + d13 ≤ 32; omega⟩
  -- the end, from the ninth
  have fin : ∀ v9 D H17, Grow b H16 H17 → BagAt H17 b → DsOk D → NineAt K H17 v9 D → 1 ≤ sizeLine ∧ newA (.lst [v9]) H17 fun y H18 => yAddA (.ref l15) y H18 Q := by
    intro v9 D H17 g17 B17 okD h9
    refine ⟨by omega, fun l18 H18 n18 s18 e18 => ?_⟩
    have e1518 := s18 _ _ (g17 _ _ e16 nl15)
    unfold yAddA
    simp only [e1518, e18]
    refine ⟨by show 8 + 1 ≤ sizeLine; omega, fun l19 H19 n19 s19 e19 => ?_⟩
    obtain ⟨o19, h19, hbo19⟩ := (B17.same s18).same s19
    have G18 := (G16.gT g17).gT (gS b s18)
    have l0' : H l19 = none := by
      cases e : H l19 with
      | none => rfl
      | some u =>
        by_cases hh : l19 = b
        · obtain ⟨i, j, bb⟩ := (B17.same s18).lst
          rw [hh, bb] at n19
          cases n19
        · rw [G18 _ _ e hh] at n19
          cases n19
    exact q l19 _ D o19 H19 (G18.gT (gS b s19)) h19 hbo19 l0' ok okD ⟨v9, e19, (h9.same s18).same s19⟩
  by_cases hd : d16 = 0
  · simp only [tSeq, tAsg, tIfS, tRet, tRetN, tDrop, tNext, tPar, tPar3, gName, gSub, gTup, gCons, gNil, zV, tC, tOp, tUn, tCons, tNil, tLst, tTup, tIf, tAnd, tOr, tNot, tYes, zB, zAnd, zOr, zNot, zChain, tDNewK, yAdd, ySub, yMul, yDiv, yMod, yPow, yNeg, yLt, yLe, yGt, yGe, yEq, yNe, yIs0, yNotIs0, yIx, ySet, yIn, sqAt, isNone, zFld, zSetF, insAt, zMeth, zProp, tCall, tMake, tCB, yLen, yAbs, yMax2, yMin2, yList, yTuple, yDict0, zLM, yApp, isLst, dkAt, keyOf, zGet1, zGet2, zPop1, zPop2, zForR1, zForR2, zForL, zForT, Z.intAt, refAt, zLc, iR1, iR2, iL, iT, wipe, List.getElem?_cons_zero, List.getElem?_cons_succ, List.set_cons_zero, List.set_cons_succ, List.cons_append, List.nil_append, List.append_nil, upd_same, at0, at1, at2, ix0, ix1, ix2, upd_upd, ite_true, ite_false, if_true, if_false, Bool.false_eq_true, decide_true, decide_false, reduceIte, true_and, and_true, Option.isSome_none, Option.isSome_some, Bool.not_false, Bool.not_true, zTupA, zLstA, yAddA, yMulA, sliceA, zS2A, zSAA, zSBA, yListA, yTupleA, zForE, yNeO, yReprB, tMakeN, zSlA, zSlB, wOnly, tCallN, zForR3, zMatch, zCase, zMethS, zRaiseO, yPopAt, zSl2, yIsiT, tysAt, zBInit, zOst, tXf, wAs, tMkO, zFmt, zJs, zJoin, yStr1, gLst, zCM, zListR1, zListR2, zLenR1, iR3, yInt1, yEqO, yAndO, yInO, yLenO, yReprO, isBl, Z.strAt, yEq0, yNe0, GF.zForG, GF.zLcG, GF.zListG, yIsi, tyAt, clsAt, ki_int_int, ki_bool_int, ki_none_int, ki_str_int, ki_list_int, ki_tuple_int, ki_int_bool, ki_bool_bool, ki_none_bool, ki_str_bool, ki_list_bool, ki_tuple_bool, zMakeV, tRz, zNever, hd]
    refine ⟨⟨by decide, by decide⟩, compR (fun D i H' => Grow b H16 H' ∧ BagAt H' b ∧ D ≠ b ∧ ∃ (ws : List V) (Ds : List (List Str)), H' D = some (.lst ws) ∧ Ds.length = i ∧ (∀ d ∈ Ds, DOk d) ∧ DpAll K H' ws (Ds.map dutyD)) ?_ ?_ ?_⟩
    · intro D hD
      obtain ⟨i, j, bb⟩ := B16.lst
      exact ⟨(gS b (Same.new hD)), B16.same (Same.new hD), (ne_of_none bb hD).symm, [], [], upd_same, rfl, fun d hd => (List.not_mem_nil hd).elim, .nil⟩
    · rintro D i H' hD hi ⟨g, B, nDb, ws, Ds, hDl, len, okD, dp⟩
      have hi : i < 5 := hi
      simp only [tSeq, tAsg, tIfS, tRet, tRetN, tDrop, tNext, tPar, tPar3, gName, gSub, gTup, gCons, gNil, zV, tC, tOp, tUn, tCons, tNil, tLst, tTup, tIf, tAnd, tOr, tNot, tYes, zB, zAnd, zOr, zNot, zChain, tDNewK, yAdd, ySub, yMul, yDiv, yMod, yPow, yNeg, yLt, yLe, yGt, yGe, yEq, yNe, yIs0, yNotIs0, yIx, ySet, yIn, sqAt, isNone, zFld, zSetF, insAt, zMeth, zProp, tCall, tMake, tCB, yLen, yAbs, yMax2, yMin2, yList, yTuple, yDict0, zLM, yApp, isLst, dkAt, keyOf, zGet1, zGet2, zPop1, zPop2, zForR1, zForR2, zForL, zForT, Z.intAt, refAt, zLc, iR1, iR2, iL, iT, wipe, List.getElem?_cons_zero, List.getElem?_cons_succ, List.set_cons_zero, List.set_cons_succ, List.cons_append, List.nil_append, List.append_nil, upd_same, at0, at1, at2, ix0, ix1, ix2, upd_upd, ite_true, ite_false, if_true, if_false, Bool.false_eq_true, decide_true, decide_false, reduceIte, true_and, and_true, Option.isSome_none, Option.isSome_some, Bool.not_false, Bool.not_true, zTupA, zLstA, yAddA, yMulA, sliceA, zS2A, zSAA, zSBA, yListA, yTupleA, zForE, yNeO, yReprB, tMakeN, zSlA, zSlB, wOnly, tCallN, zForR3, zMatch, zCase, zMethS, zRaiseO, yPopAt, zSl2, yIsiT, tysAt, zBInit, zOst, tXf, wAs, tMkO, zFmt, zJs, zJoin, yStr1, gLst, zCM, zListR1, zListR2, zLenR1, iR3, yInt1, yEqO, yAndO, yInO, yLenO, yReprO, isBl, Z.strAt, yEq0, yNe0, GF.zForG, GF.zLcG, GF.zListG, yIsi, tyAt, clsAt, ki_int_int, ki_bool_int, ki_none_int, ki_str_int, ki_list_int, ki_tuple_int, ki_int_bool, ki_bool_bool, ki_none_bool, ki_str_bool, ki_list_bool, ki_tuple_bool, zMakeV, tRz, zNever]
      refine takeA B (by decide) (by decide) fun d17 H17 d170 d171 g17 B17 => ?_
      obtain ⟨i', j', bb⟩ := B.lst
      refine ⟨d17, rfl, d170, by omega, fun t H18 s18 dt => ?_⟩
      have hD18 := s18 _ _ (g17 _ _ hDl nDb)
      have dp18 := dpAll_same' (duties_growL bb g17 dp) s18
      have wl := dpAll_len dp
      rw [List.length_map] at wl
      have B18 := B17.same s18
      obtain ⟨i8, j8, b8⟩ := B18.lst
      refine ⟨ws, hD18, by omega, ?_, ?_, nDb, ws ++ [.ref t], Ds ++ [waysOf d17], rfl, by rw [List.length_append, len]; rfl, ?_, ?_⟩
      · intro c u e ne
        have cD : c ≠ D := fun z => by rw [z, hD] at e; cases e
        rw [upd_ne cD]
        exact ((g.gT g17).gT (gS b s18)) c u e ne
      · obtain ⟨o8, ho, hbo⟩ := B18
        exact ⟨o8, by rw [upd_ne (Ne.symm nDb)]; exact ho, hbo⟩
      · intro d hd
        rcases List.mem_append.1 hd with h | h
        · exact okD d h
        · rw [List.mem_singleton.1 h]
          exact ways_dok _
      · rw [List.map_append]
        exact duties_app (duties_growL hD18 (fun c u e ne => by rw [upd_ne ne]; exact e) dp18) (.cons (duty_growL hD18 (fun c u e ne => by rw [upd_ne ne]; exact e) dt) .nil)
    · rintro D H' hD ⟨g, B, nDb, ws, Ds, hDl, len, okD, dp⟩
      have wl := dpAll_len dp
      rw [List.length_map, len] at wl
      have wl : ws.length = 5 := wl
      obtain ⟨v1, v2, v3, v4, v5, rfl⟩ := five wl
      exact fin (.ref D) (some Ds) H' g B (fun D' e d hd => by cases e; exact okD d hd) ⟨D, v1, v2, v3, v4, v5, rfl, hDl, dp⟩
  · simp only [tSeq, tAsg, tIfS, tRet, tRetN, tDrop, tNext, tPar, tPar3, gName, gSub, gTup, gCons, gNil, zV, tC, tOp, tUn, tCons, tNil, tLst, tTup, tIf, tAnd, tOr, tNot, tYes, zB, zAnd, zOr, zNot, zChain, tDNewK, yAdd, ySub, yMul, yDiv, yMod, yPow, yNeg, yLt, yLe, yGt, yGe, yEq, yNe, yIs0, yNotIs0, yIx, ySet, yIn, sqAt, isNone, zFld, zSetF, insAt, zMeth, zProp, tCall, tMake, tCB, yLen, yAbs, yMax2, yMin2, yList, yTuple, yDict0, zLM, yApp, isLst, dkAt, keyOf, zGet1, zGet2, zPop1, zPop2, zForR1, zForR2, zForL, zForT, Z.intAt, refAt, zLc, iR1, iR2, iL, iT, wipe, List.getElem?_cons_zero, List.getElem?_cons_succ, List.set_cons_zero, List.set_cons_succ, List.cons_append, List.nil_append, List.append_nil, upd_same, at0, at1, at2, ix0, ix1, ix2, upd_upd, ite_true, ite_false, if_true, if_false, Bool.false_eq_true, decide_true, decide_false, reduceIte, true_and, and_true, Option.isSome_none, Option.isSome_some, Bool.not_false, Bool.not_true, zTupA, zLstA, yAddA, yMulA, sliceA, zS2A, zSAA, zSBA, yListA, yTupleA, zForE, yNeO, yReprB, tMakeN, zSlA, zSlB, wOnly, tCallN, zForR3, zMatch, zCase, zMethS, zRaiseO, yPopAt, zSl2, yIsiT, tysAt, zBInit, zOst, tXf, wAs, tMkO, zFmt, zJs, zJoin, yStr1, gLst, zCM, zListR1, zListR2, zLenR1, iR3, yInt1, yEqO, yAndO, yInO, yLenO, yReprO, isBl, Z.strAt, yEq0, yNe0, GF.zForG, GF.zLcG, GF.zListG, yIsi, tyAt, clsAt, ki_int_int, ki_bool_int, ki_none_int, ki_str_int, ki_list_int, ki_tuple_int, ki_int_bool, ki_bool_bool, ki_none_bool, ki_str_bool, ki_list_bool, ki_tuple_bool, zMakeV, tRz, zNever, hd]
    exact fin .non none H16 (fun _ _ e _ => e) B16 (fun D e => by cases e) rfl

theorem mk_set {K : PySem.W.Frag} {H : Hp} {S : Sett} {Q : Addr → Hp → Prop} {E : XK} (ok : SettOk S) (k : ∀ x b H', H x = none → Same H H' → SetAt K H' x S b → BookAt K H' b stdD → Q x H') : ∀ x dx, H x = none → H dx = none → dx ≠ x →
    sp_Setting___init__ K [.ref x, .str S.copies, .bl S.cached, .int S.batch, .bl S.early, .bl S.drain, .str S.policy, .int S.groups, .int S.tables, .non] (upd (upd H dx (.own x)) x (.ins (He.ga K "Setting") dx [])) (fun v H2 => v = .non ∧ Q x H2) E := fun x dx hx hdx ne => by
  have sm : Same H (upd (upd H dx (.own x)) x (.ins (He.ga K "Setting") dx [])) := Same.upd (Same.new hdx) hx
  exact ⟨x, dx, S, .non, rfl, upd_same, ok, .inl ⟨rfl, fun b H' _ g h1 h2 => ⟨rfl, k x b H' hx (fun c u e => g c u (sm c u e) (ne_of_none e hx)) h1 h2⟩⟩⟩
theorem mk_setB {K : PySem.W.Frag} {H : Hp} {S : Sett} {b : Addr} {D : List (List Str)} {Q : Addr → Hp → Prop} {E : XK} (ok : SettOk S) (hb : BookAt K H b D) (k : ∀ x H', H x = none → Same H H' → SetAt K H' x S b → BookAt K H' b D → Q x H') : ∀ x dx, H x = none → H dx = none → dx ≠ x →
    sp_Setting___init__ K [.ref x, .str S.copies, .bl S.cached, .int S.batch, .bl S.early, .bl S.drain, .str S.policy, .int S.groups, .int S.tables, .ref b] (upd (upd H dx (.own x)) x (.ins (He.ga K "Setting") dx [])) (fun v H2 => v = .non ∧ Q x H2) E := fun x dx hx hdx ne => by
  have sm : Same H (upd (upd H dx (.own x)) x (.ins (He.ga K "Setting") dx [])) := Same.upd (Same.new hdx) hx
  refine ⟨x, dx, S, .ref b, rfl, upd_same, ok, .inr ⟨b, D, rfl, hb.same sm, fun H' g h1 => ?_⟩⟩
  have sg : Same H H' := fun c u e => g c u (sm c u e) (ne_of_none e hx)
  exact ⟨rfl, k x H' hx sg h1 (hb.same sg)⟩
theorem rd_L_book {K : PySem.W.Frag} {mg : Str → Option Value} (T : Top K mg) : ∀ vs H Q E, sp_L_book K vs H Q E → t_L_book K { nx := fun _ H' => Q .non H', rt := Q } (start nm_L_book vs) H := by
  rintro vs H Q E ⟨d, v1, v2, v3, v4, v5, D, rfl, hd, dp, ok, q⟩
  rw [start_L_book]
  unfold t_L_book t_L_book_1
  simp only [tSeq, tAsg, tIfS, tRet, tRetN, tDrop, tNext, tPar, tPar3, gName, gSub, gTup, gCons, gNil, zV, tC, tOp, tUn, tCons, tNil, tLst, tTup, tIf, tAnd, tOr, tNot, tYes, zB, zAnd, zOr, zNot, zChain, tDNewK, yAdd, ySub, yMul, yDiv, yMod, yPow, yNeg, yLt, yLe, yGt, yGe, yEq, yNe, yIs0, yNotIs0, yIx, ySet, yIn, sqAt, isNone, zFld, zSetF, insAt, zMeth, zProp, tCall, tMake, tCB, yLen, yAbs, yMax2, yMin2, yList, yTuple, yDict0, zLM, yApp, isLst, dkAt, keyOf, zGet1, zGet2, zPop1, zPop2, zForR1, zForR2, zForL, zForT, Z.intAt, refAt, zLc, iR1, iR2, iL, iT, wipe, List.getElem?_cons_zero, List.getElem?_cons_succ, List.set_cons_zero, List.set_cons_succ, List.cons_append, List.nil_append, List.append_nil, upd_same, at0, at1, at2, ix0, ix1, ix2, upd_upd, ite_true, ite_false, if_true, if_false, Bool.false_eq_true, decide_true, decide_false, reduceIte, true_and, and_true, Option.isSome_none, Option.isSome_some, Bool.not_false, Bool.not_true, zTupA, zLstA, yAddA, yMulA, sliceA, zS2A, zSAA, zSBA, yListA, yTupleA, zForE, yNeO, yReprB, tMakeN, zSlA, zSlB, wOnly, tCallN, zForR3, zMatch, zCase, zMethS, zRaiseO, yPopAt, zSl2, yIsiT, tysAt, zBInit, zOst, tXf, wAs, tMkO, zFmt, zJs, zJoin, yStr1, gLst, zCM, zListR1, zListR2, zLenR1, iR3, yInt1, yEqO, yAndO, yInO, yLenO, yReprO, isBl, Z.strAt, yEq0, yNe0, GF.zForG, GF.zLcG, GF.zListG, yIsi, tyAt, clsAt, ki_int_int, ki_bool_int, ki_none_int, ki_str_int, ki_list_int, ki_tuple_int, ki_int_bool, ki_bool_bool, ki_none_bool, ki_str_bool, ki_list_bool, ki_tuple_bool, zMakeV, tRz, zNever]
  refine ⟨d, _, rfl, SqL.of hd, rfl, _, _, rfl, _, _, rfl, _, _, rfl, _, _, rfl, _, _, rfl, rfl, ?_⟩
  unfold t_L_book_2
  simp only [tSeq, tAsg, tIfS, tRet, tRetN, tDrop, tNext, tPar, tPar3, gName, gSub, gTup, gCons, gNil, zV, tC, tOp, tUn, tCons, tNil, tLst, tTup, tIf, tAnd, tOr, tNot, tYes, zB, zAnd, zOr, zNot, zChain, tDNewK, yAdd, ySub, yMul, yDiv, yMod, yPow, yNeg, yLt, yLe, yGt, yGe, yEq, yNe, yIs0, yNotIs0, yIx, ySet, yIn, sqAt, isNone, zFld, zSetF, insAt, zMeth, zProp, tCall, tMake, tCB, yLen, yAbs, yMax2, yMin2, yList, yTuple, yDict0, zLM, yApp, isLst, dkAt, keyOf, zGet1, zGet2, zPop1, zPop2, zForR1, zForR2, zForL, zForT, Z.intAt, refAt, zLc, iR1, iR2, iL, iT, wipe, List.getElem?_cons_zero, List.getElem?_cons_succ, List.set_cons_zero, List.set_cons_succ, List.cons_append, List.nil_append, List.append_nil, upd_same, at0, at1, at2, ix0, ix1, ix2, upd_upd, ite_true, ite_false, if_true, if_false, Bool.false_eq_true, decide_true, decide_false, reduceIte, true_and, and_true, Option.isSome_none, Option.isSome_some, Bool.not_false, Bool.not_true, zTupA, zLstA, yAddA, yMulA, sliceA, zS2A, zSAA, zSBA, yListA, yTupleA, zForE, yNeO, yReprB, tMakeN, zSlA, zSlB, wOnly, tCallN, zForR3, zMatch, zCase, zMethS, zRaiseO, yPopAt, zSl2, yIsiT, tysAt, zBInit, zOst, tXf, wAs, tMkO, zFmt, zJs, zJoin, yStr1, gLst, zCM, zListR1, zListR2, zLenR1, iR3, yInt1, yEqO, yAndO, yInO, yLenO, yReprO, isBl, Z.strAt, yEq0, yNe0, GF.zForG, GF.zLcG, GF.zListG, yIsi, tyAt, clsAt, ki_int_int, ki_bool_int, ki_none_int, ki_str_int, ki_list_int, ki_tuple_int, ki_int_bool, ki_bool_bool, ki_none_bool, ki_str_bool, ki_list_bool, ki_tuple_bool, zMakeV, tRz, zNever]
  refine ⟨rfl, rfl, mk_book dp ok fun b H' _ s h => q b H' s h⟩
theorem rd_L_setting {K : PySem.W.Frag} {mg : Str → Option Value} (T : Top K mg) : ∀ vs H Q E, sp_L_setting K vs H Q E → t_L_setting K { nx := fun _ H' => Q .non H', rt := Q } (start nm_L_setting vs) H := by
  rintro vs H Q E ⟨l, S, D, rfl, ⟨v9, hl, h9⟩, ok, okD, q⟩
  rw [start_L_setting]
  unfold t_L_setting t_L_setting_1
  simp only [tSeq, tAsg, tIfS, tRet, tRetN, tDrop, tNext, tPar, tPar3, gName, gSub, gTup, gCons, gNil, zV, tC, tOp, tUn, tCons, tNil, tLst, tTup, tIf, tAnd, tOr, tNot, tYes, zB, zAnd, zOr, zNot, zChain, tDNewK, yAdd, ySub, yMul, yDiv, yMod, yPow, yNeg, yLt, yLe, yGt, yGe, yEq, yNe, yIs0, yNotIs0, yIx, ySet, yIn, sqAt, isNone, zFld, zSetF, insAt, zMeth, zProp, tCall, tMake, tCB, yLen, yAbs, yMax2, yMin2, yList, yTuple, yDict0, zLM, yApp, isLst, dkAt, keyOf, zGet1, zGet2, zPop1, zPop2, zForR1, zForR2, zForL, zForT, Z.intAt, refAt, zLc, iR1, iR2, iL, iT, wipe, List.getElem?_cons_zero, List.getElem?_cons_succ, List.set_cons_zero, List.set_cons_succ, List.cons_append, List.nil_append, List.append_nil, upd_same, at0, at1, at2, ix0, ix1, ix2, upd_upd, ite_true, ite_false, if_true, if_false, Bool.false_eq_true, decide_true, decide_false, reduceIte, true_and, and_true, Option.isSome_none, Option.isSome_some, Bool.not_false, Bool.not_true, zTupA, zLstA, yAddA, yMulA, sliceA, zS2A, zSAA, zSBA, yListA, yTupleA, zForE, yNeO, yReprB, tMakeN, zSlA, zSlB, wOnly, tCallN, zForR3, zMatch, zCase, zMethS, zRaiseO, yPopAt, zSl2, yIsiT, tysAt, zBInit, zOst, tXf, wAs, tMkO, zFmt, zJs, zJoin, yStr1, gLst, zCM, zListR1, zListR2, zLenR1, iR3, yInt1, yEqO, yAndO, yInO, yLenO, yReprO, isBl, Z.strAt, yEq0, yNe0, GF.zForG, GF.zLcG, GF.zListG, yIsi, tyAt, clsAt, ki_int_int, ki_bool_int, ki_none_int, ki_str_int, ki_list_int, ki_tuple_int, ki_int_bool, ki_bool_bool, ki_none_bool, ki_str_bool, ki_list_bool, ki_tuple_bool, zMakeV, tRz, zNever]
  refine ⟨l, _, rfl, SqL.of hl, rfl, _, _, rfl, _, _, rfl, _, _, rfl, _, _, rfl, _, _, rfl, _, _, rfl, _, _, rfl, _, _, rfl, _, _, rfl, rfl, ?_⟩
  unfold t_L_setting_2
  cases D with
  | none =>
    obtain rfl := h9
    simp only [tSeq, tAsg, tIfS, tRet, tRetN, tDrop, tNext, tPar, tPar3, gName, gSub, gTup, gCons, gNil, zV, tC, tOp, tUn, tCons, tNil, tLst, tTup, tIf, tAnd, tOr, tNot, tYes, zB, zAnd, zOr, zNot, zChain, tDNewK, yAdd, ySub, yMul, yDiv, yMod, yPow, yNeg, yLt, yLe, yGt, yGe, yEq, yNe, yIs0, yNotIs0, yIx, ySet, yIn, sqAt, isNone, zFld, zSetF, insAt, zMeth, zProp, tCall, tMake, tCB, yLen, yAbs, yMax2, yMin2, yList, yTuple, yDict0, zLM, yApp, isLst, dkAt, keyOf, zGet1, zGet2, zPop1, zPop2, zForR1, zForR2, zForL, zForT, Z.intAt, refAt, zLc, iR1, iR2, iL, iT, wipe, List.getElem?_cons_zero, List.getElem?_cons_succ, List.set_cons_zero, List.set_cons_succ, List.cons_append, List.nil_append, List.append_nil, upd_same, at0, at1, at2, ix0, ix1, ix2, upd_upd, ite_true, ite_false, if_true, if_false, Bool.false_eq_true, decide_true, decide_false, reduceIte, true_and, and_true, Option.isSome_none, Option.isSome_some, Bool.not_false, Bool.not_true, zTupA, zLstA, yAddA, yMulA, sliceA, zS2A, zSAA, zSBA, yListA, yTupleA, zForE, yNeO, yReprB, tMakeN, zSlA, zSlB, wOnly, tCallN, zForR3, zMatch, zCase, zMethS, zRaiseO, yPopAt, zSl2, yIsiT, tysAt, zBInit, zOst, tXf, wAs, tMkO, zFmt, zJs, zJoin, yStr1, gLst, zCM, zListR1, zListR2, zLenR1, iR3, yInt1, yEqO, yAndO, yInO, yLenO, yReprO, isBl, Z.strAt, yEq0, yNe0, GF.zForG, GF.zLcG, GF.zListG, yIsi, tyAt, clsAt, ki_int_int, ki_bool_int, ki_none_int, ki_str_int, ki_list_int, ki_tuple_int, ki_int_bool, ki_bool_bool, ki_none_bool, ki_str_bool, ki_list_bool, ki_tuple_bool, zMakeV, tRz, zNever]
    unfold t_L_setting_3
    simp only [tSeq, tAsg, tIfS, tRet, tRetN, tDrop, tNext, tPar, tPar3, gName, gSub, gTup, gCons, gNil, zV, tC, tOp, tUn, tCons, tNil, tLst, tTup, tIf, tAnd, tOr, tNot, tYes, zB, zAnd, zOr, zNot, zChain, tDNewK, yAdd, ySub, yMul, yDiv, yMod, yPow, yNeg, yLt, yLe, yGt, yGe, yEq, yNe, yIs0, yNotIs0, yIx, ySet, yIn, sqAt, isNone, zFld, zSetF, insAt, zMeth, zProp, tCall, tMake, tCB, yLen, yAbs, yMax2, yMin2, yList, yTuple, yDict0, zLM, yApp, isLst, dkAt, keyOf, zGet1, zGet2, zPop1, zPop2, zForR1, zForR2, zForL, zForT, Z.intAt, refAt, zLc, iR1, iR2, iL, iT, wipe, List.getElem?_cons_zero, List.getElem?_cons_succ, List.set_cons_zero, List.set_cons_succ, List.cons_append, List.nil_append, List.append_nil, upd_same, at0, at1, at2, ix0, ix1, ix2, upd_upd, ite_true, ite_false, if_true, if_false, Bool.false_eq_true, decide_true, decide_false, reduceIte, true_and, and_true, Option.isSome_none, Option.isSome_some, Bool.not_false, Bool.not_true, zTupA, zLstA, yAddA, yMulA, sliceA, zS2A, zSAA, zSBA, yListA, yTupleA, zForE, yNeO, yReprB, tMakeN, zSlA, zSlB, wOnly, tCallN, zForR3, zMatch, zCase, zMethS, zRaiseO, yPopAt, zSl2, yIsiT, tysAt, zBInit, zOst, tXf, wAs, tMkO, zFmt, zJs, zJoin, yStr1, gLst, zCM, zListR1, zListR2, zLenR1, iR3, yInt1, yEqO, yAndO, yInO, yLenO, yReprO, isBl, Z.strAt, yEq0, yNe0, GF.zForG, GF.zLcG, GF.zListG, yIsi, tyAt, clsAt, ki_int_int, ki_bool_int, ki_none_int, ki_str_int, ki_list_int, ki_tuple_int, ki_int_bool, ki_bool_bool, ki_none_bool, ki_str_bool, ki_list_bool, ki_tuple_bool, zMakeV, tRz, zNever]
    exact ⟨rfl, rfl, mk_set ok fun x b H' _ s h1 h2 => q x b H' s h1 h2⟩
  | some D =>
    obtain ⟨d, v1, v2, v3, v4, v5, rfl, hd, dp⟩ := h9
    simp only [tSeq, tAsg, tIfS, tRet, tRetN, tDrop, tNext, tPar, tPar3, gName, gSub, gTup, gCons, gNil, zV, tC, tOp, tUn, tCons, tNil, tLst, tTup, tIf, tAnd, tOr, tNot, tYes, zB, zAnd, zOr, zNot, zChain, tDNewK, yAdd, ySub, yMul, yDiv, yMod, yPow, yNeg, yLt, yLe, yGt, yGe, yEq, yNe, yIs0, yNotIs0, yIx, ySet, yIn, sqAt, isNone, zFld, zSetF, insAt, zMeth, zProp, tCall, tMake, tCB, yLen, yAbs, yMax2, yMin2, yList, yTuple, yDict0, zLM, yApp, isLst, dkAt, keyOf, zGet1, zGet2, zPop1, zPop2, zForR1, zForR2, zForL, zForT, Z.intAt, refAt, zLc, iR1, iR2, iL, iT, wipe, List.getElem?_cons_zero, List.getElem?_cons_succ, List.set_cons_zero, List.set_cons_succ, List.cons_append, List.nil_append, List.append_nil, upd_same, at0, at1, at2, ix0, ix1, ix2, upd_upd, ite_true, ite_false, if_true, if_false, Bool.false_eq_true, decide_true, decide_false, reduceIte, true_and, and_true, Option.isSome_none, Option.isSome_some, Bool.not_false, Bool.not_true, zTupA, zLstA, yAddA, yMulA, sliceA, zS2A, zSAA, zSBA, yListA, yTupleA, zForE, yNeO, yReprB, tMakeN, zSlA, zSlB, wOnly, tCallN, zForR3, zMatch, zCase, zMethS, zRaiseO, yPopAt, zSl2, yIsiT, tysAt, zBInit, zOst, tXf, wAs, tMkO, zFmt, zJs, zJoin, yStr1, gLst, zCM, zListR1, zListR2, zLenR1, iR3, yInt1, yEqO, yAndO, yInO, yLenO, yReprO, isBl, Z.strAt, yEq0, yNe0, GF.zForG, GF.zLcG, GF.zListG, yIsi, tyAt, clsAt, ki_int_int, ki_bool_int, ki_none_int, ki_str_int, ki_list_int, ki_tuple_int, ki_int_bool, ki_bool_bool, ki_none_bool, ki_str_bool, ki_list_bool, ki_tuple_bool, zMakeV, tRz, zNever, reduceCtorEq]
    refine ⟨d, v1, v2, v3, v4, v5, D, rfl, hd, dp, okD D rfl, fun b H1 s1 hb => ?_⟩
    unfold t_L_setting_3
    simp only [tSeq, tAsg, tIfS, tRet, tRetN, tDrop, tNext, tPar, tPar3, gName, gSub, gTup, gCons, gNil, zV, tC, tOp, tUn, tCons, tNil, tLst, tTup, tIf, tAnd, tOr, tNot, tYes, zB, zAnd, zOr, zNot, zChain, tDNewK, yAdd, ySub, yMul, yDiv, yMod, yPow, yNeg, yLt, yLe, yGt, yGe, yEq, yNe, yIs0, yNotIs0, yIx, ySet, yIn, sqAt, isNone, zFld, zSetF, insAt, zMeth, zProp, tCall, tMake, tCB, yLen, yAbs, yMax2, yMin2, yList, yTuple, yDict0, zLM, yApp, isLst, dkAt, keyOf, zGet1, zGet2, zPop1, zPop2, zForR1, zForR2, zForL, zForT, Z.intAt, refAt, zLc, iR1, iR2, iL, iT, wipe, List.getElem?_cons_zero, List.getElem?_cons_succ, List.set_cons_zero, List.set_cons_succ, List.cons_append, List.nil_append, List.append_nil, upd_same, at0, at1, at2, ix0, ix1, ix2, upd_upd, ite_true, ite_false, if_true, if_false, Bool.false_eq_true, decide_true, decide_false, reduceIte, true_and, and_true, Option.isSome_none, Option.isSome_some, Bool.not_false, Bool.not_true, zTupA, zLstA, yAddA, yMulA, sliceA, zS2A, zSAA, zSBA, yListA, yTupleA, zForE, yNeO, yReprB, tMakeN, zSlA, zSlB, wOnly, tCallN, zForR3, zMatch, zCase, zMethS, zRaiseO, yPopAt, zSl2, yIsiT, tysAt, zBInit, zOst, tXf, wAs, tMkO, zFmt, zJs, zJoin, yStr1, gLst, zCM, zListR1, zListR2, zLenR1, iR3, yInt1, yEqO, yAndO, yInO, yLenO, yReprO, isBl, Z.strAt, yEq0, yNe0, GF.zForG, GF.zLcG, GF.zListG, yIsi, tyAt, clsAt, ki_int_int, ki_bool_int, ki_none_int, ki_str_int, ki_list_int, ki_tuple_int, ki_int_bool, ki_bool_bool, ki_none_bool, ki_str_bool, ki_list_bool, ki_tuple_bool, zMakeV, tRz, zNever]
    exact ⟨rfl, rfl, mk_setB ok hb fun x H' _ s h1 h2 => q x b H' (s1.trans s) h1 h2⟩
theorem rd_L_duties {K : PySem.W.Frag} {mg : Str → Option Value} (T : Top K mg) : ∀ vs H Q E, sp_L_duties K vs H Q E → t_L_duties K { nx := fun _ H' => Q .non H', rt := Q } (start nm_L_duties vs) H := by
  rintro vs H Q E ⟨b, D, rfl, ⟨dx, v1, v2, v3, v4, v5, hb, dp, ok⟩, q⟩
  rw [start_L_duties]
  unfold t_L_duties t_L_duties_1
  have szl := sizeLine_eq
  simp only [tSeq, tAsg, tIfS, tRet, tRetN, tDrop, tNext, tPar, tPar3, gName, gSub, gTup, gCons, gNil, zV, tC, tOp, tUn, tCons, tNil, tLst, tTup, tIf, tAnd, tOr, tNot, tYes, zB, zAnd, zOr, zNot, zChain, tDNewK, yAdd, ySub, yMul, yDiv, yMod, yPow, yNeg, yLt, yLe, yGt, yGe, yEq, yNe, yIs0, yNotIs0, yIx, ySet, yIn, sqAt, isNone, zFld, zSetF, insAt, zMeth, zProp, tCall, tMake, tCB, yLen, yAbs, yMax2, yMin2, yList, yTuple, yDict0, zLM, yApp, isLst, dkAt, keyOf, zGet1, zGet2, zPop1, zPop2, zForR1, zForR2, zForL, zForT, Z.intAt, refAt, zLc, iR1, iR2, iL, iT, wipe, List.getElem?_cons_zero, List.getElem?_cons_succ, List.set_cons_zero, List.set_cons_succ, List.cons_append, List.nil_append, List.append_nil, upd_same, at0, at1, at2, ix0, ix1, ix2, upd_upd, ite_true, ite_false, if_true, if_false, Bool.false_eq_true, decide_true, decide_false, reduceIte, true_and, and_true, Option.isSome_none, Option.isSome_some, Bool.not_false, Bool.not_true, zTupA, zLstA, yAddA, yMulA, sliceA, zS2A, zSAA, zSBA, yListA, yTupleA, zForE, yNeO, yReprB, tMakeN, zSlA, zSlB, wOnly, tCallN, zForR3, zMatch, zCase, zMethS, zRaiseO, yPopAt, zSl2, yIsiT, tysAt, zBInit, zOst, tXf, wAs, tMkO, zFmt, zJs, zJoin, yStr1, gLst, zCM, zListR1, zListR2, zLenR1, iR3, yInt1, yEqO, yAndO, yInO, yLenO, yReprO, isBl, Z.strAt, yEq0, yNe0, GF.zForG, GF.zLcG, GF.zListG, yIsi, tyAt, clsAt, ki_int_int, ki_bool_int, ki_none_int, ki_str_int, ki_list_int, ki_tuple_int, ki_int_bool, ki_bool_bool, ki_none_bool, ki_str_bool, ki_list_bool, ki_tuple_bool, zMakeV, tRz, zNever, hb, lk_Book_cleaned, lk_Book_dropped, lk_Book_bind_copied, lk_Book_give_copied, lk_Book_take_copied]
  refine ⟨⟨T.cl_Book, T.na_Book_cleaned⟩, ⟨T.cl_Book, T.na_Book_dropped⟩, ⟨T.cl_Book, T.na_Book_bind_copied⟩, ⟨T.cl_Book, T.na_Book_give_copied⟩, ⟨T.cl_Book, T.na_Book_take_copied⟩, by show 5 ≤ sizeLine; omega, fun l H' _ s h => ?_⟩
  exact q l H' s (Dp.lst (SqL.of h) (dpAll_same' dp s))

theorem cut_len (K : PySem.W.Frag) (xs : List V) (lo hi : Option Int) : (cutV xs lo hi).length ≤ xs.length := by
  unfold cutV
  rw [List.length_take, List.length_drop]
  omega
theorem ne_bag {H : Hp} {b l : Addr} {S : Sett} {D : Option (List (List Str))} {K : PySem.W.Frag} {i j : Int} (hb : H b = some (.lst [.int i, .int j])) (h : ArgsAt K H l S D) : b ≠ l := fun e => by
  obtain ⟨v9, h, _⟩ := h
  rw [← e, hb] at h
  cases h
theorem rd_L_changed {K : PySem.W.Frag} {mg : Str → Option Value} (T : Top K mg) : ∀ vs H Q E, sp_L_changed K vs H Q E → t_L_changed K { nx := fun _ H' => Q .non H', rt := Q } (start nm_L_changed vs) H := by
  rintro vs H Q E ⟨b, l, o, S, D, rfl, hb, hbo, nbl, hA, ok, okD, q⟩
  rw [start_L_changed]
  unfold t_L_changed t_L_changed_1
  have szl := sizeLine_eq
  simp only [tSeq, tAsg, tIfS, tRet, tRetN, tDrop, tNext, tPar, tPar3, gName, gSub, gTup, gCons, gNil, zV, tC, tOp, tUn, tCons, tNil, tLst, tTup, tIf, tAnd, tOr, tNot, tYes, zB, zAnd, zOr, zNot, zChain, tDNewK, yAdd, ySub, yMul, yDiv, yMod, yPow, yNeg, yLt, yLe, yGt, yGe, yEq, yNe, yIs0, yNotIs0, yIx, ySet, yIn, sqAt, isNone, zFld, zSetF, insAt, zMeth, zProp, tCall, tMake, tCB, yLen, yAbs, yMax2, yMin2, yList, yTuple, yDict0, zLM, yApp, isLst, dkAt, keyOf, zGet1, zGet2, zPop1, zPop2, zForR1, zForR2, zForL, zForT, Z.intAt, refAt, zLc, iR1, iR2, iL, iT, wipe, List.getElem?_cons_zero, List.getElem?_cons_succ, List.set_cons_zero, List.set_cons_succ, List.cons_append, List.nil_append, List.append_nil, upd_same, at0, at1, at2, ix0, ix1, ix2, upd_upd, ite_true, ite_false, if_true, if_false, Bool.false_eq_true, decide_true, decide_false, reduceIte, true_and, and_true, Option.isSome_none, Option.isSome_some, Bool.not_false, Bool.not_true, zTupA, zLstA, yAddA, yMulA, sliceA, zS2A, zSAA, zSBA, yListA, yTupleA, zForE, yNeO, yReprB, tMakeN, zSlA, zSlB, wOnly, tCallN, zForR3, zMatch, zCase, zMethS, zRaiseO, yPopAt, zSl2, yIsiT, tysAt, zBInit, zOst, tXf, wAs, tMkO, zFmt, zJs, zJoin, yStr1, gLst, zCM, zListR1, zListR2, zLenR1, iR3, yInt1, yEqO, yAndO, yInO, yLenO, yReprO, isBl, Z.strAt, yEq0, yNe0, GF.zForG, GF.zLcG, GF.zListG, yIsi, tyAt, clsAt, ki_int_int, ki_bool_int, ki_none_int, ki_str_int, ki_list_int, ki_tuple_int, ki_int_bool, ki_bool_bool, ki_none_bool, ki_str_bool, ki_list_bool, ki_tuple_bool, zMakeV, tRz, zNever]
  refine takeA ⟨o, hb, hbo⟩ (by decide) (by decide) fun d H1 d0 d1 g1 B1 => ?_
  obtain ⟨o1, h1, hb1⟩ := id B1
  refine ⟨b, o1, rfl, h1, hb1, fun l2 S2 D2 o2 H2 g2 h2 hb2 _ ok2 okD2 hA2 => ?_⟩
  have hA' := (hA.growL ⟨o, hb, hbo⟩ g1).growL B1 g2
  have g12 := g1.gT g2
  have B2 : BagAt H2 b := ⟨o2, h2, hb2⟩
  clear hA g1 g2
  obtain ⟨v9, hl, h9⟩ := hA'
  obtain ⟨w9, hl2, k9⟩ := hA2
  unfold t_L_changed_2
  refine ⟨_, _, rfl, ?_⟩
  simp only [tSeq, tAsg, tIfS, tRet, tRetN, tDrop, tNext, tPar, tPar3, gName, gSub, gTup, gCons, gNil, zV, tC, tOp, tUn, tCons, tNil, tLst, tTup, tIf, tAnd, tOr, tNot, tYes, zB, zAnd, zOr, zNot, zChain, tDNewK, yAdd, ySub, yMul, yDiv, yMod, yPow, yNeg, yLt, yLe, yGt, yGe, yEq, yNe, yIs0, yNotIs0, yIx, ySet, yIn, sqAt, isNone, zFld, zSetF, insAt, zMeth, zProp, tCall, tMake, tCB, yLen, yAbs, yMax2, yMin2, yList, yTuple, yDict0, zLM, yApp, isLst, dkAt, keyOf, zGet1, zGet2, zPop1, zPop2, zForR1, zForR2, zForL, zForT, Z.intAt, refAt, zLc, iR1, iR2, iL, iT, wipe, List.getElem?_cons_zero, List.getElem?_cons_succ, List.set_cons_zero, List.set_cons_succ, List.cons_append, List.nil_append, List.append_nil, upd_same, at0, at1, at2, ix0, ix1, ix2, upd_upd, ite_true, ite_false, if_true, if_false, Bool.false_eq_true, decide_true, decide_false, reduceIte, true_and, and_true, Option.isSome_none, Option.isSome_some, Bool.not_false, Bool.not_true, zTupA, zLstA, yAddA, yMulA, sliceA, zS2A, zSAA, zSBA, yListA, yTupleA, zForE, yNeO, yReprB, tMakeN, zSlA, zSlB, wOnly, tCallN, zForR3, zMatch, zCase, zMethS, zRaiseO, yPopAt, zSl2, yIsiT, tysAt, zBInit, zOst, tXf, wAs, tMkO, zFmt, zJs, zJoin, yStr1, gLst, zCM, zListR1, zListR2, zLenR1, iR3, yInt1, yEqO, yAndO, yInO, yLenO, yReprO, isBl, Z.strAt, yEq0, yNe0, GF.zForG, GF.zLcG, GF.zListG, yIsi, tyAt, clsAt, ki_int_int, ki_bool_int, ki_none_int, ki_str_int, ki_list_int, ki_tuple_int, ki_int_bool, ki_bool_bool, ki_none_bool, ki_str_bool, ki_list_bool, ki_tuple_bool, zMakeV, tRz, zNever, hl]
  intro p1 H3 n3 s3 e3
  have hl2' := s3 _ _ hl2
  have hl' := s3 _ _ hl
  obtain ⟨c2, S', D', x9, e1, e2, n9, ok', okD'⟩ : ∃ c2 S' D' x9, atI [V.str S2.copies, .bl S2.cached, .int S2.batch, .bl S2.early, .bl S2.drain, .str S2.policy, .int S2.groups, .int S2.tables, w9] d = some c2 ∧ cutV [V.str S.copies, .bl S.cached, .int S.batch, .bl S.early, .bl S.drain, .str S.policy, .int S.groups, .int S.tables, v9] none (some d) ++ [c2] ++ cutV [V.str S.copies, .bl S.cached, .int S.batch, .bl S.early, .bl S.drain, .str S.policy, .int S.groups, .int S.tables, v9] (some (d + 1)) none = [V.str S'.copies, .bl S'.cached, .int S'.batch, .bl S'.early, .bl S'.drain, .str S'.policy, .int S'.groups, .int S'.tables, x9] ∧ NineAt K H2 x9 D' ∧ SettOk S' ∧ DsOk D' := by
    obtain ⟨k1, ⟨k2, k3⟩, k4, ⟨k5, k6⟩, k7, k8⟩ := ok
    obtain ⟨j1, ⟨j2, j3⟩, j4, ⟨j5, j6⟩, j7, j8⟩ := ok2
    rcases (by omega : d = 0 ∨ d = 1 ∨ d = 2 ∨ d = 3 ∨ d = 4 ∨ d = 5 ∨ d = 6 ∨ d = 7 ∨ d = 8) with rfl | rfl | rfl | rfl | rfl | rfl | rfl | rfl | rfl
    · exact ⟨_, ⟨S2.copies, S.cached, S.batch, S.early, S.drain, S.policy, S.groups, S.tables⟩, D, v9, rfl, rfl, h9, ⟨j1, ⟨k2, k3⟩, k4, ⟨k5, k6⟩, k7, k8⟩, okD⟩
    · exact ⟨_, ⟨S.copies, S2.cached, S.batch, S.early, S.drain, S.policy, S.groups, S.tables⟩, D, v9, rfl, rfl, h9, ⟨k1, ⟨k2, k3⟩, k4, ⟨k5, k6⟩, k7, k8⟩, okD⟩
    · exact ⟨_, ⟨S.copies, S.cached, S2.batch, S.early, S.drain, S.policy, S.groups, S.tables⟩, D, v9, rfl, rfl, h9, ⟨k1, ⟨j2, j3⟩, k4, ⟨k5, k6⟩, k7, k8⟩, okD⟩
    · exact ⟨_, ⟨S.copies, S.cached, S.batch, S2.early, S.drain, S.policy, S.groups, S.tables⟩, D, v9, rfl, rfl, h9, ⟨k1, ⟨k2, k3⟩, k4, ⟨k5, k6⟩, k7, k8⟩, okD⟩
    · exact ⟨_, ⟨S.copies, S.cached, S.batch, S.early, S2.drain, S.policy, S.groups, S.tables⟩, D, v9, rfl, rfl, h9, ⟨k1, ⟨k2, k3⟩, k4, ⟨k5, k6⟩, k7, k8⟩, okD⟩
    · exact ⟨_, ⟨S.copies, S.cached, S.batch, S.early, S.drain, S2.policy, S.groups, S.tables⟩, D, v9, rfl, rfl, h9, ⟨k1, ⟨k2, k3⟩, j4, ⟨k5, k6⟩, k7, k8⟩, okD⟩
    · exact ⟨_, ⟨S.copies, S.cached, S.batch, S.early, S.drain, S.policy, S2.groups, S.tables⟩, D, v9, rfl, rfl, h9, ⟨k1, ⟨k2, k3⟩, k4, ⟨j5, j6⟩, k7, k8⟩, okD⟩
    · exact ⟨_, ⟨S.copies, S.cached, S.batch, S.early, S.drain, S.policy, S.groups, S2.tables⟩, D, v9, rfl, rfl, h9, ⟨k1, ⟨k2, k3⟩, k4, ⟨k5, k6⟩, j7, j8⟩, okD⟩
    · exact ⟨_, ⟨S.copies, S.cached, S.batch, S.early, S.drain, S.policy, S.groups, S.tables⟩, D2, w9, rfl, rfl, k9, ⟨k1, ⟨k2, k3⟩, k4, ⟨k5, k6⟩, k7, k8⟩, okD2⟩
  simp only [tSeq, tAsg, tIfS, tRet, tRetN, tDrop, tNext, tPar, tPar3, gName, gSub, gTup, gCons, gNil, zV, tC, tOp, tUn, tCons, tNil, tLst, tTup, tIf, tAnd, tOr, tNot, tYes, zB, zAnd, zOr, zNot, zChain, tDNewK, yAdd, ySub, yMul, yDiv, yMod, yPow, yNeg, yLt, yLe, yGt, yGe, yEq, yNe, yIs0, yNotIs0, yIx, ySet, yIn, sqAt, isNone, zFld, zSetF, insAt, zMeth, zProp, tCall, tMake, tCB, yLen, yAbs, yMax2, yMin2, yList, yTuple, yDict0, zLM, yApp, isLst, dkAt, keyOf, zGet1, zGet2, zPop1, zPop2, zForR1, zForR2, zForL, zForT, Z.intAt, refAt, zLc, iR1, iR2, iL, iT, wipe, List.getElem?_cons_zero, List.getElem?_cons_succ, List.set_cons_zero, List.set_cons_succ, List.cons_append, List.nil_append, List.append_nil, upd_same, at0, at1, at2, ix0, ix1, ix2, upd_upd, ite_true, ite_false, if_true, if_false, Bool.false_eq_true, decide_true, decide_false, reduceIte, true_and, and_true, Option.isSome_none, Option.isSome_some, Bool.not_false, Bool.not_true, zTupA, zLstA, yAddA, yMulA, sliceA, zS2A, zSAA, zSBA, yListA, yTupleA, zForE, yNeO, yReprB, tMakeN, zSlA, zSlB, wOnly, tCallN, zForR3, zMatch, zCase, zMethS, zRaiseO, yPopAt, zSl2, yIsiT, tysAt, zBInit, zOst, tXf, wAs, tMkO, zFmt, zJs, zJoin, yStr1, gLst, zCM, zListR1, zListR2, zLenR1, iR3, yInt1, yEqO, yAndO, yInO, yLenO, yReprO, isBl, Z.strAt, yEq0, yNe0, GF.zForG, GF.zLcG, GF.zListG, yIsi, tyAt, clsAt, ki_int_int, ki_bool_int, ki_none_int, ki_str_int, ki_list_int, ki_tuple_int, ki_int_bool, ki_bool_bool, ki_none_bool, ki_str_bool, ki_list_bool, ki_tuple_bool, zMakeV, tRz, zNever, hl2', e1]
  refine ⟨by show 1 ≤ sizeLine; omega, fun p2 H4 n4 s4 e4 => ?_⟩
  have e34 := s4 _ _ e3
  have hl4 := s4 _ _ hl'
  simp only [tSeq, tAsg, tIfS, tRet, tRetN, tDrop, tNext, tPar, tPar3, gName, gSub, gTup, gCons, gNil, zV, tC, tOp, tUn, tCons, tNil, tLst, tTup, tIf, tAnd, tOr, tNot, tYes, zB, zAnd, zOr, zNot, zChain, tDNewK, yAdd, ySub, yMul, yDiv, yMod, yPow, yNeg, yLt, yLe, yGt, yGe, yEq, yNe, yIs0, yNotIs0, yIx, ySet, yIn, sqAt, isNone, zFld, zSetF, insAt, zMeth, zProp, tCall, tMake, tCB, yLen, yAbs, yMax2, yMin2, yList, yTuple, yDict0, zLM, yApp, isLst, dkAt, keyOf, zGet1, zGet2, zPop1, zPop2, zForR1, zForR2, zForL, zForT, Z.intAt, refAt, zLc, iR1, iR2, iL, iT, wipe, List.getElem?_cons_zero, List.getElem?_cons_succ, List.set_cons_zero, List.set_cons_succ, List.cons_append, List.nil_append, List.append_nil, upd_same, at0, at1, at2, ix0, ix1, ix2, upd_upd, ite_true, ite_false, if_true, if_false, Bool.false_eq_true, decide_true, decide_false, reduceIte, true_and, and_true, Option.isSome_none, Option.isSome_some, Bool.not_false, Bool.not_true, zTupA, zLstA, yAddA, yMulA, sliceA, zS2A, zSAA, zSBA, yListA, yTupleA, zForE, yNeO, yReprB, tMakeN, zSlA, zSlB, wOnly, tCallN, zForR3, zMatch, zCase, zMethS, zRaiseO, yPopAt, zSl2, yIsiT, tysAt, zBInit, zOst, tXf, wAs, tMkO, zFmt, zJs, zJoin, yStr1, gLst, zCM, zListR1, zListR2, zLenR1, iR3, yInt1, yEqO, yAndO, yInO, yLenO, yReprO, isBl, Z.strAt, yEq0, yNe0, GF.zForG, GF.zLcG, GF.zListG, yIsi, tyAt, clsAt, ki_int_int, ki_bool_int, ki_none_int, ki_str_int, ki_list_int, ki_tuple_int, ki_int_bool, ki_bool_bool, ki_none_bool, ki_str_bool, ki_list_bool, ki_tuple_bool, zMakeV, tRz, zNever, e34, e4]
  have z1 := cut_len K [V.str S.copies, .bl S.cached, .int S.batch, .bl S.early, .bl S.drain, .str S.policy, .int S.groups, .int S.tables, v9] none (some d)
  have z2' : [V.str S.copies, .bl S.cached, .int S.batch, .bl S.early, .bl S.drain, .str S.policy, .int S.groups, .int S.tables, v9].length = 9 := rfl
  have z2 := cut_len K [V.str S.copies, .bl S.cached, .int S.batch, .bl S.early, .bl S.drain, .str S.policy, .int S.groups, .int S.tables, v9] (some (d + 1)) none
  refine ⟨by rw [List.length_singleton]; omega, fun p3 H5 n5 s5 e5 => ?_⟩
  have hl5 := s5 _ _ hl4
  simp only [tSeq, tAsg, tIfS, tRet, tRetN, tDrop, tNext, tPar, tPar3, gName, gSub, gTup, gCons, gNil, zV, tC, tOp, tUn, tCons, tNil, tLst, tTup, tIf, tAnd, tOr, tNot, tYes, zB, zAnd, zOr, zNot, zChain, tDNewK, yAdd, ySub, yMul, yDiv, yMod, yPow, yNeg, yLt, yLe, yGt, yGe, yEq, yNe, yIs0, yNotIs0, yIx, ySet, yIn, sqAt, isNone, zFld, zSetF, insAt, zMeth, zProp, tCall, tMake, tCB, yLen, yAbs, yMax2, yMin2, yList, yTuple, yDict0, zLM, yApp, isLst, dkAt, keyOf, zGet1, zGet2, zPop1, zPop2, zForR1, zForR2, zForL, zForT, Z.intAt, refAt, zLc, iR1, iR2, iL, iT, wipe, List.getElem?_cons_zero, List.getElem?_cons_succ, List.set_cons_zero, List.set_cons_succ, List.cons_append, List.nil_append, List.append_nil, upd_same, at0, at1, at2, ix0, ix1, ix2, upd_upd, ite_true, ite_false, if_true, if_false, Bool.false_eq_true, decide_true, decide_false, reduceIte, true_and, and_true, Option.isSome_none, Option.isSome_some, Bool.not_false, Bool.not_true, zTupA, zLstA, yAddA, yMulA, sliceA, zS2A, zSAA, zSBA, yListA, yTupleA, zForE, yNeO, yReprB, tMakeN, zSlA, zSlB, wOnly, tCallN, zForR3, zMatch, zCase, zMethS, zRaiseO, yPopAt, zSl2, yIsiT, tysAt, zBInit, zOst, tXf, wAs, tMkO, zFmt, zJs, zJoin, yStr1, gLst, zCM, zListR1, zListR2, zLenR1, iR3, yInt1, yEqO, yAndO, yInO, yLenO, yReprO, isBl, Z.strAt, yEq0, yNe0, GF.zForG, GF.zLcG, GF.zListG, yIsi, tyAt, clsAt, ki_int_int, ki_bool_int, ki_none_int, ki_str_int, ki_list_int, ki_tuple_int, ki_int_bool, ki_bool_bool, ki_none_bool, ki_str_bool, ki_list_bool, ki_tuple_bool, zMakeV, tRz, zNever, hl5]
  intro p4 H6 n6 s6 e6
  have e56 := s6 _ _ e5
  simp only [tSeq, tAsg, tIfS, tRet, tRetN, tDrop, tNext, tPar, tPar3, gName, gSub, gTup, gCons, gNil, zV, tC, tOp, tUn, tCons, tNil, tLst, tTup, tIf, tAnd, tOr, tNot, tYes, zB, zAnd, zOr, zNot, zChain, tDNewK, yAdd, ySub, yMul, yDiv, yMod, yPow, yNeg, yLt, yLe, yGt, yGe, yEq, yNe, yIs0, yNotIs0, yIx, ySet, yIn, sqAt, isNone, zFld, zSetF, insAt, zMeth, zProp, tCall, tMake, tCB, yLen, yAbs, yMax2, yMin2, yList, yTuple, yDict0, zLM, yApp, isLst, dkAt, keyOf, zGet1, zGet2, zPop1, zPop2, zForR1, zForR2, zForL, zForT, Z.intAt, refAt, zLc, iR1, iR2, iL, iT, wipe, List.getElem?_cons_zero, List.getElem?_cons_succ, List.set_cons_zero, List.set_cons_succ, List.cons_append, List.nil_append, List.append_nil, upd_same, at0, at1, at2, ix0, ix1, ix2, upd_upd, ite_true, ite_false, if_true, if_false, Bool.false_eq_true, decide_true, decide_false, reduceIte, true_and, and_true, Option.isSome_none, Option.isSome_some, Bool.not_false, Bool.not_true, zTupA, zLstA, yAddA, yMulA, sliceA, zS2A, zSAA, zSBA, yListA, yTupleA, zForE, yNeO, yReprB, tMakeN, zSlA, zSlB, wOnly, tCallN, zForR3, zMatch, zCase, zMethS, zRaiseO, yPopAt, zSl2, yIsiT, tysAt, zBInit, zOst, tXf, wAs, tMkO, zFmt, zJs, zJoin, yStr1, gLst, zCM, zListR1, zListR2, zLenR1, iR3, yInt1, yEqO, yAndO, yInO, yLenO, yReprO, isBl, Z.strAt, yEq0, yNe0, GF.zForG, GF.zLcG, GF.zListG, yIsi, tyAt, clsAt, ki_int_int, ki_bool_int, ki_none_int, ki_str_int, ki_list_int, ki_tuple_int, ki_int_bool, ki_bool_bool, ki_none_bool, ki_str_bool, ki_list_bool, ki_tuple_bool, zMakeV, tRz, zNever, e56, e6]
  refine ⟨by rw [List.length_append, List.length_singleton]; omega, fun p5 H7 n7 s7 e7 => ?_⟩
  rw [e2] at e7
  have s27 := (((s3.trans s4).trans s5).trans s6).trans s7
  obtain ⟨o7, h7, hb7⟩ := B2.same s27
  exact q p5 S' D' o7 H7 (g12.gT (gS b s27)) h7 hb7 ok' okD' ⟨x9, e7, n9.same s27⟩
theorem ways7 : waysOf 7 = Ways := by decide +kernel
theorem ways6 : waysOf 6 = (["from", "both"] : List Str) := by decide +kernel
theorem rd_L_full {K : PySem.W.Frag} {mg : Str → Option Value} (T : Top K mg) : ∀ vs H Q E, sp_L_full K vs H Q E → t_L_full K { nx := fun _ H' => Q .non H', rt := Q } (start nm_L_full vs) H := by
  rintro vs H Q E ⟨l, S, D, rfl, hA, q⟩
  rw [start_L_full]
  unfold t_L_full t_L_full_1
  have szl := sizeLine_eq
  simp only [tSeq, tAsg, tIfS, tRet, tRetN, tDrop, tNext, tPar, tPar3, gName, gSub, gTup, gCons, gNil, zV, tC, tOp, tUn, tCons, tNil, tLst, tTup, tIf, tAnd, tOr, tNot, tYes, zB, zAnd, zOr, zNot, zChain, tDNewK, yAdd, ySub, yMul, yDiv, yMod, yPow, yNeg, yLt, yLe, yGt, yGe, yEq, yNe, yIs0, yNotIs0, yIx, ySet, yIn, sqAt, isNone, zFld, zSetF, insAt, zMeth, zProp, tCall, tMake, tCB, yLen, yAbs, yMax2, yMin2, yList, yTuple, yDict0, zLM, yApp, isLst, dkAt, keyOf, zGet1, zGet2, zPop1, zPop2, zForR1, zForR2, zForL, zForT, Z.intAt, refAt, zLc, iR1, iR2, iL, iT, wipe, List.getElem?_cons_zero, List.getElem?_cons_succ, List.set_cons_zero, List.set_cons_succ, List.cons_append, List.nil_append, List.append_nil, upd_same, at0, at1, at2, ix0, ix1, ix2, upd_upd, ite_true, ite_false, if_true, if_false, Bool.false_eq_true, decide_true, decide_false, reduceIte, true_and, and_true, Option.isSome_none, Option.isSome_some, Bool.not_false, Bool.not_true, zTupA, zLstA, yAddA, yMulA, sliceA, zS2A, zSAA, zSBA, yListA, yTupleA, zForE, yNeO, yReprB, tMakeN, zSlA, zSlB, wOnly, tCallN, zForR3, zMatch, zCase, zMethS, zRaiseO, yPopAt, zSl2, yIsiT, tysAt, zBInit, zOst, tXf, wAs, tMkO, zFmt, zJs, zJoin, yStr1, gLst, zCM, zListR1, zListR2, zLenR1, iR3, yInt1, yEqO, yAndO, yInO, yLenO, yReprO, isBl, Z.strAt, yEq0, yNe0, GF.zForG, GF.zLcG, GF.zListG, yIsi, tyAt, clsAt, ki_int_int, ki_bool_int, ki_none_int, ki_str_int, ki_list_int, ki_tuple_int, ki_int_bool, ki_bool_bool, ki_none_bool, ki_str_bool, ki_list_bool, ki_tuple_bool, zMakeV, tRz, zNever]
  refine ⟨7, rfl, by decide, by decide, fun t1 H1 s1 d1 => ⟨6, rfl, by decide, by decide, fun t2 H2 s2 d2 => ⟨7, rfl, by decide, by decide, fun t3 H3 s3 d3 => ⟨7, rfl, by decide, by decide, fun t4 H4 s4 d4 => ⟨6, rfl, by decide, by decide, fun t5 H5 s5 d5 => ?_⟩⟩⟩⟩⟩
  refine ⟨by show 5 ≤ sizeLine; omega, fun l6 H6 n6 s6 e6 => ?_⟩
  rw [ways7] at d1 d3 d4
  rw [ways6] at d2 d5
  have dp : DpAll K H6 [.ref t1, .ref t2, .ref t3, .ref t4, .ref t5] (stdD.map dutyD) := .cons (dp_same ((((s2.trans s3).trans s4).trans s5).trans s6) _ _ d1) (.cons (dp_same (((s3.trans s4).trans s5).trans s6) _ _ d2) (.cons (dp_same ((s4.trans s5).trans s6) _ _ d3) (.cons (dp_same (s5.trans s6) _ _ d4) (.cons (dp_same s6 _ _ d5) .nil))))
  have s := ((((s1.trans s2).trans s3).trans s4).trans s5).trans s6
  obtain ⟨v9, hl, h9⟩ := hA.same s
  unfold t_L_full_2
  simp only [tSeq, tAsg, tIfS, tRet, tRetN, tDrop, tNext, tPar, tPar3, gName, gSub, gTup, gCons, gNil, zV, tC, tOp, tUn, tCons, tNil, tLst, tTup, tIf, tAnd, tOr, tNot, tYes, zB, zAnd, zOr, zNot, zChain, tDNewK, yAdd, ySub, yMul, yDiv, yMod, yPow, yNeg, yLt, yLe, yGt, yGe, yEq, yNe, yIs0, yNotIs0, yIx, ySet, yIn, sqAt, isNone, zFld, zSetF, insAt, zMeth, zProp, tCall, tMake, tCB, yLen, yAbs, yMax2, yMin2, yList, yTuple, yDict0, zLM, yApp, isLst, dkAt, keyOf, zGet1, zGet2, zPop1, zPop2, zForR1, zForR2, zForL, zForT, Z.intAt, refAt, zLc, iR1, iR2, iL, iT, wipe, List.getElem?_cons_zero, List.getElem?_cons_succ, List.set_cons_zero, List.set_cons_succ, List.cons_append, List.nil_append, List.append_nil, upd_same, at0, at1, at2, ix0, ix1, ix2, upd_upd, ite_true, ite_false, if_true, if_false, Bool.false_eq_true, decide_true, decide_false, reduceIte, true_and, and_true, Option.isSome_none, Option.isSome_some, Bool.not_false, Bool.not_true, zTupA, zLstA, yAddA, yMulA, sliceA, zS2A, zSAA, zSBA, yListA, yTupleA, zForE, yNeO, yReprB, tMakeN, zSlA, zSlB, wOnly, tCallN, zForR3, zMatch, zCase, zMethS, zRaiseO, yPopAt, zSl2, yIsiT, tysAt, zBInit, zOst, tXf, wAs, tMkO, zFmt, zJs, zJoin, yStr1, gLst, zCM, zListR1, zListR2, zLenR1, iR3, yInt1, yEqO, yAndO, yInO, yLenO, yReprO, isBl, Z.strAt, yEq0, yNe0, GF.zForG, GF.zLcG, GF.zListG, yIsi, tyAt, clsAt, ki_int_int, ki_bool_int, ki_none_int, ki_str_int, ki_list_int, ki_tuple_int, ki_int_bool, ki_bool_bool, ki_none_bool, ki_str_bool, ki_list_bool, ki_tuple_bool, zMakeV, tRz, zNever, hl]
  intro p7 H7 n7 s7 e7
  have hl7 := s7 _ _ hl
  simp only [tSeq, tAsg, tIfS, tRet, tRetN, tDrop, tNext, tPar, tPar3, gName, gSub, gTup, gCons, gNil, zV, tC, tOp, tUn, tCons, tNil, tLst, tTup, tIf, tAnd, tOr, tNot, tYes, zB, zAnd, zOr, zNot, zChain, tDNewK, yAdd, ySub, yMul, yDiv, yMod, yPow, yNeg, yLt, yLe, yGt, yGe, yEq, yNe, yIs0, yNotIs0, yIx, ySet, yIn, sqAt, isNone, zFld, zSetF, insAt, zMeth, zProp, tCall, tMake, tCB, yLen, yAbs, yMax2, yMin2, yList, yTuple, yDict0, zLM, yApp, isLst, dkAt, keyOf, zGet1, zGet2, zPop1, zPop2, zForR1, zForR2, zForL, zForT, Z.intAt, refAt, zLc, iR1, iR2, iL, iT, wipe, List.getElem?_cons_zero, List.getElem?_cons_succ, List.set_cons_zero, List.set_cons_succ, List.cons_append, List.nil_append, List.append_nil, upd_same, at0, at1, at2, ix0, ix1, ix2, upd_upd, ite_true, ite_false, if_true, if_false, Bool.false_eq_true, decide_true, decide_false, reduceIte, true_and, and_true, Option.isSome_none, Option.isSome_some, Bool.not_false, Bool.not_true, zTupA, zLstA, yAddA, yMulA, sliceA, zS2A, zSAA, zSBA, yListA, yTupleA, zForE, yNeO, yReprB, tMakeN, zSlA, zSlB, wOnly, tCallN, zForR3, zMatch, zCase, zMethS, zRaiseO, yPopAt, zSl2, yIsiT, tysAt, zBInit, zOst, tXf, wAs, tMkO, zFmt, zJs, zJoin, yStr1, gLst, zCM, zListR1, zListR2, zLenR1, iR3, yInt1, yEqO, yAndO, yInO, yLenO, yReprO, isBl, Z.strAt, yEq0, yNe0, GF.zForG, GF.zLcG, GF.zListG, yIsi, tyAt, clsAt, ki_int_int, ki_bool_int, ki_none_int, ki_str_int, ki_list_int, ki_tuple_int, ki_int_bool, ki_bool_bool, ki_none_bool, ki_str_bool, ki_list_bool, ki_tuple_bool, zMakeV, tRz, zNever, hl7]
  have at8 : atI [V.str S.copies, .bl S.cached, .int S.batch, .bl S.early, .bl S.drain, .str S.policy, .int S.groups, .int S.tables, v9] 8 = some v9 := rfl
  have fin : ∀ (x9 : V), NineAt K H6 x9 (some (duesOf D)) → 1 ≤ sizeLine ∧ newA (.lst [x9]) H7 fun y H8 => yAddA (.ref p7) y H8 Q := by
    intro x9 n9
    refine ⟨by omega, fun p8 H8 n8 s8 e8 => ?_⟩
    show yAddA (.ref p7) (.ref p8) H8 Q
    unfold yAddA
    simp only [s8 _ _ e7, e8]
    refine ⟨by show 8 + 1 ≤ sizeLine; omega, fun p9 H9 n9' s9 e9 => ?_⟩
    exact q p9 H9 (((s.trans s7).trans s8).trans s9) ⟨x9, e9, n9.same ((s7.trans s8).trans s9)⟩
  simp only [tSeq, tAsg, tIfS, tRet, tRetN, tDrop, tNext, tPar, tPar3, gName, gSub, gTup, gCons, gNil, zV, tC, tOp, tUn, tCons, tNil, tLst, tTup, tIf, tAnd, tOr, tNot, tYes, zB, zAnd, zOr, zNot, zChain, tDNewK, yAdd, ySub, yMul, yDiv, yMod, yPow, yNeg, yLt, yLe, yGt, yGe, yEq, yNe, yIs0, yNotIs0, yIx, ySet, yIn, sqAt, isNone, zFld, zSetF, insAt, zMeth, zProp, tCall, tMake, tCB, yLen, yAbs, yMax2, yMin2, yList, yTuple, yDict0, zLM, yApp, isLst, dkAt, keyOf, zGet1, zGet2, zPop1, zPop2, zForR1, zForR2, zForL, zForT, Z.intAt, refAt, zLc, iR1, iR2, iL, iT, wipe, List.getElem?_cons_zero, List.getElem?_cons_succ, List.set_cons_zero, List.set_cons_succ, List.cons_append, List.nil_append, List.append_nil, upd_same, at0, at1, at2, ix0, ix1, ix2, upd_upd, ite_true, ite_false, if_true, if_false, Bool.false_eq_true, decide_true, decide_false, reduceIte, true_and, and_true, Option.isSome_none, Option.isSome_some, Bool.not_false, Bool.not_true, zTupA, zLstA, yAddA, yMulA, sliceA, zS2A, zSAA, zSBA, yListA, yTupleA, zForE, yNeO, yReprB, tMakeN, zSlA, zSlB, wOnly, tCallN, zForR3, zMatch, zCase, zMethS, zRaiseO, yPopAt, zSl2, yIsiT, tysAt, zBInit, zOst, tXf, wAs, tMkO, zFmt, zJs, zJoin, yStr1, gLst, zCM, zListR1, zListR2, zLenR1, iR3, yInt1, yEqO, yAndO, yInO, yLenO, yReprO, isBl, Z.strAt, yEq0, yNe0, GF.zForG, GF.zLcG, GF.zListG, yIsi, tyAt, clsAt, ki_int_int, ki_bool_int, ki_none_int, ki_str_int, ki_list_int, ki_tuple_int, ki_int_bool, ki_bool_bool, ki_none_bool, ki_str_bool, ki_list_bool, ki_tuple_bool, zMakeV, tRz, zNever, at8]
  cases D with
  | none =>
    obtain rfl := h9
    simp only [tSeq, tAsg, tIfS, tRet, tRetN, tDrop, tNext, tPar, tPar3, gName, gSub, gTup, gCons, gNil, zV, tC, tOp, tUn, tCons, tNil, tLst, tTup, tIf, tAnd, tOr, tNot, tYes, zB, zAnd, zOr, zNot, zChain, tDNewK, yAdd, ySub, yMul, yDiv, yMod, yPow, yNeg, yLt, yLe, yGt, yGe, yEq, yNe, yIs0, yNotIs0, yIx, ySet, yIn, sqAt, isNone, zFld, zSetF, insAt, zMeth, zProp, tCall, tMake, tCB, yLen, yAbs, yMax2, yMin2, yList, yTuple, yDict0, zLM, yApp, isLst, dkAt, keyOf, zGet1, zGet2, zPop1, zPop2, zForR1, zForR2, zForL, zForT, Z.intAt, refAt, zLc, iR1, iR2, iL, iT, wipe, List.getElem?_cons_zero, List.getElem?_cons_succ, List.set_cons_zero, List.set_cons_succ, List.cons_append, List.nil_append, List.append_nil, upd_same, at0, at1, at2, ix0, ix1, ix2, upd_upd, ite_true, ite_false, if_true, if_false, Bool.false_eq_true, decide_true, decide_false, reduceIte, true_and, and_true, Option.isSome_none, Option.isSome_some, Bool.not_false, Bool.not_true, zTupA, zLstA, yAddA, yMulA, sliceA, zS2A, zSAA, zSBA, yListA, yTupleA, zForE, yNeO, yReprB, tMakeN, zSlA, zSlB, wOnly, tCallN, zForR3, zMatch, zCase, zMethS, zRaiseO, yPopAt, zSl2, yIsiT, tysAt, zBInit, zOst, tXf, wAs, tMkO, zFmt, zJs, zJoin, yStr1, gLst, zCM, zListR1, zListR2, zLenR1, iR3, yInt1, yEqO, yAndO, yInO, yLenO, yReprO, isBl, Z.strAt, yEq0, yNe0, GF.zForG, GF.zLcG, GF.zListG, yIsi, tyAt, clsAt, ki_int_int, ki_bool_int, ki_none_int, ki_str_int, ki_list_int, ki_tuple_int, ki_int_bool, ki_bool_bool, ki_none_bool, ki_str_bool, ki_list_bool, ki_tuple_bool, zMakeV, tRz, zNever]
    exact fin (.ref l6) ⟨l6, _, _, _, _, _, rfl, e6, dp⟩
  | some D =>
    obtain ⟨d, v1, v2, v3, v4, v5, rfl, hd, dpd⟩ := h9
    simp only [tSeq, tAsg, tIfS, tRet, tRetN, tDrop, tNext, tPar, tPar3, gName, gSub, gTup, gCons, gNil, zV, tC, tOp, tUn, tCons, tNil, tLst, tTup, tIf, tAnd, tOr, tNot, tYes, zB, zAnd, zOr, zNot, zChain, tDNewK, yAdd, ySub, yMul, yDiv, yMod, yPow, yNeg, yLt, yLe, yGt, yGe, yEq, yNe, yIs0, yNotIs0, yIx, ySet, yIn, sqAt, isNone, zFld, zSetF, insAt, zMeth, zProp, tCall, tMake, tCB, yLen, yAbs, yMax2, yMin2, yList, yTuple, yDict0, zLM, yApp, isLst, dkAt, keyOf, zGet1, zGet2, zPop1, zPop2, zForR1, zForR2, zForL, zForT, Z.intAt, refAt, zLc, iR1, iR2, iL, iT, wipe, List.getElem?_cons_zero, List.getElem?_cons_succ, List.set_cons_zero, List.set_cons_succ, List.cons_append, List.nil_append, List.append_nil, upd_same, at0, at1, at2, ix0, ix1, ix2, upd_upd, ite_true, ite_false, if_true, if_false, Bool.false_eq_true, decide_true, decide_false, reduceIte, true_and, and_true, Option.isSome_none, Option.isSome_some, Bool.not_false, Bool.not_true, zTupA, zLstA, yAddA, yMulA, sliceA, zS2A, zSAA, zSBA, yListA, yTupleA, zForE, yNeO, yReprB, tMakeN, zSlA, zSlB, wOnly, tCallN, zForR3, zMatch, zCase, zMethS, zRaiseO, yPopAt, zSl2, yIsiT, tysAt, zBInit, zOst, tXf, wAs, tMkO, zFmt, zJs, zJoin, yStr1, gLst, zCM, zListR1, zListR2, zLenR1, iR3, yInt1, yEqO, yAndO, yInO, yLenO, yReprO, isBl, Z.strAt, yEq0, yNe0, GF.zForG, GF.zLcG, GF.zListG, yIsi, tyAt, clsAt, ki_int_int, ki_bool_int, ki_none_int, ki_str_int, ki_list_int, ki_tuple_int, ki_int_bool, ki_bool_bool, ki_none_bool, ki_str_bool, ki_list_bool, ki_tuple_bool, zMakeV, tRz, zNever, reduceCtorEq]
    exact fin (.ref d) ⟨d, v1, v2, v3, v4, v5, rfl, hd, dpd⟩

/-! ### small data can be shown -/
structure Sm (n m : Nat) (d : PyData) : Prop where
  sh : d.showable = true
  nd : d.hasDict = false
  lv : d.leavesShort 13 = true
  wt : d.weight ≤ n
  dp : d.depth ≤ m
theorem Sm.shows {n m : Nat} {d : PyData} (h : Sm n m d) (hn : n ≤ 1048576) (hm : m ≤ 16) : Shows d := ⟨h.sh, h.nd, PyData.shown_fits (B := 13) (by decide) (by decide) h.lv (Nat.le_trans h.wt hn), Nat.le_trans h.dp hm⟩
theorem Sm.up {n m n' m' : Nat} {d : PyData} (h : Sm n m d) (hn : n ≤ n') (hm : m ≤ m') : Sm n' m' d := ⟨h.sh, h.nd, h.lv, Nat.le_trans h.wt hn, Nat.le_trans h.dp hm⟩
theorem Sm.bool (b : Bool) : Sm 0 0 (.bool b) := ⟨rfl, rfl, rfl, Nat.le_refl _, Nat.le_refl _⟩
theorem Sm.none : Sm 0 0 .none := ⟨rfl, rfl, rfl, Nat.le_refl _, Nat.le_refl _⟩
theorem Sm.int {i : Int} (h : i.natAbs < 1000000000000) : Sm 40 0 (.int i) := by
  have lg : i.natAbs.log2 < 40 := by
    by_cases h0 : i.natAbs = 0
    · rw [h0]; decide
    · exact (Nat.log2_lt h0).mpr (by have : (2 : Nat) ^ 40 = 1099511627776 := by decide
                                     omega)
  refine ⟨?_, rfl, ?_, ?_, Nat.le_refl _⟩
  · simp only [PyData.showable, decide_eq_true_eq]
    omega
  · simp only [PyData.leavesShort, decide_eq_true_eq]
    exact PyData.shown_int_le (by have : (10 : Nat) ^ 12 = 1000000000000 := by decide
                                  omega)
  · simp only [PyData.weight]
    split <;> omega
theorem Sm.str {n : Nat} {z : Str} (h : PyData.strOk z = true) (hz : z.cps.size ≤ n) : Sm n 0 (.str z) := by
  refine ⟨rfl, rfl, ?_, by simp only [PyData.weight]; exact hz, Nat.le_of_eq (by simp only [PyData.depth])⟩
  exact PyData.leavesShort_of_canLay0 13 _ (by simp only [PyData.canLay0]; exact h) rfl
theorem sm_all {n m : Nat} : ∀ {l : List PyData}, (∀ x ∈ l, Sm n m x) → PyData.showableAll l = true ∧ PyData.hasDictAll l = false ∧ PyData.leavesShortAll 13 l = true ∧ PyData.weightAll l ≤ (n + 1) * l.length ∧ PyData.depthAll l ≤ m
  | [], _ => ⟨rfl, rfl, rfl, Nat.zero_le _, Nat.zero_le _⟩
  | x :: l, h => by
    have hx := h x (List.mem_cons_self ..)
    obtain ⟨a, b, c, d, e⟩ := sm_all (l := l) fun y hy => h y (List.mem_cons_of_mem _ hy)
    refine ⟨?_, ?_, ?_, ?_, ?_⟩
    · simp only [PyData.showableAll, hx.sh, a, Bool.and_self]
    · simp only [PyData.hasDictAll, hx.nd, b, Bool.or_self]
    · simp only [PyData.leavesShortAll, hx.lv, c, Bool.and_self]
    · simp only [PyData.weightAll, List.length_cons, Nat.mul_add, Nat.mul_one]
      have := hx.wt
      omega
    · simp only [PyData.depthAll]
      exact Nat.max_le.mpr ⟨hx.dp, e⟩
theorem Sm.list {n m k : Nat} {l : List PyData} (h : ∀ x ∈ l, Sm n m x) (hk : (n + 1) * l.length ≤ k) : Sm k (m + 1) (.list l) := by
  obtain ⟨a, b, c, d, e⟩ := sm_all h
  exact ⟨by simp only [PyData.showable]; exact a, by simp only [PyData.hasDict]; exact b, by simp only [PyData.leavesShort]; exact c, by simp only [PyData.weight]; omega, by simp only [PyData.depth]; omega⟩
theorem Sm.tuple {n m k : Nat} {l : List PyData} (h : ∀ x ∈ l, Sm n m x) (hk : (n + 1) * l.length ≤ k) : Sm k (m + 1) (.tuple l) := by
  obtain ⟨a, b, c, d, e⟩ := sm_all h
  exact ⟨by simp only [PyData.showable]; exact a, by simp only [PyData.hasDict]; exact b, by simp only [PyData.leavesShort]; exact c, by simp only [PyData.weight]; omega, by simp only [PyData.depth]; omega⟩
/-- so can settings and duties -/
theorem duty_sm {ds : List Str} (h : DOk ds) : Sm 15 1 (dutyD ds) := by
  have len : ds.length ≤ 3 := by
    rw [h]
    exact Nat.le_trans (List.length_filter_le _ _) (by decide)
  refine Sm.tuple (n := 4) (m := 0) (fun x hx => ?_) (by rw [List.length_map]; omega)
  obtain ⟨y, hy, rfl⟩ := List.mem_map.mp hx
  refine Sm.str (h.ok y hy) ?_
  have hy' : y ∈ Ways := by
    rw [h] at hy
    exact (List.mem_filter.mp hy).1
  have all : ∀ z ∈ Ways, z.cps.size ≤ 4 := by decide +kernel
  exact all y hy'
theorem duties_sm {D : List (List Str)} (h : ∀ d ∈ D, DOk d) (hl : D.length ≤ 1000) : Sm 16000 2 (.list (D.map dutyD)) := by
  refine Sm.list (n := 15) (m := 1) (fun x hx => ?_) (by rw [List.length_map]; omega)
  obtain ⟨y, hy, rfl⟩ := List.mem_map.mp hx
  exact duty_sm (h y hy)
def flatD (S : Sett) : List PyData := [.str S.copies, .bool S.cached, .int S.batch, .bool S.early, .bool S.drain, .str S.policy, .int S.groups, .int S.tables]
theorem flat_sm {S : Sett} (ok : SettOk S) : Sm 400 1 (.list (flatD S)) := by
  refine Sm.list (n := 40) (m := 0) (fun x hx => ?_) (by show 41 * 8 ≤ 400; decide)
  obtain ⟨k1, ⟨k2, k3⟩, k4, ⟨k5, k6⟩, k7, k8⟩ := ok
  unfold flatD at hx
  simp only [List.mem_cons, List.not_mem_nil, or_false] at hx
  have a1 : ∀ z ∈ (["none", "ends", "all"] : List Str), z.cps.size ≤ 40 := by decide +kernel
  have a2 : ∀ z ∈ (["first", "best", "worst", "next", "halves"] : List Str), z.cps.size ≤ 40 := by decide +kernel
  rcases hx with rfl | rfl | rfl | rfl | rfl | rfl | rfl | rfl
  · exact Sm.str (copies_ok k1) (a1 _ k1)
  · exact (Sm.bool _).up (by decide) (by decide)
  · exact Sm.int (by omega)
  · exact (Sm.bool _).up (by decide) (by decide)
  · exact (Sm.bool _).up (by decide) (by decide)
  · exact Sm.str (policy_ok k4) (a2 _ k4)
  · exact Sm.int (by omega)
  · exact Sm.int (by omega)

theorem five_len {K : PySem.W.Frag} {H : Hp} {v1 v2 v3 v4 v5 : V} {D : List (List Str)} (h : DpAll K H [v1, v2, v3, v4, v5] (D.map dutyD)) : D.length = 5 := by
  have := dpAll_len h
  rw [List.length_map] at this
  exact this.symm
theorem dsok_dues {D : Option (List (List Str))} (h : DsOk D) : ∀ d ∈ duesOf D, DOk d := by
  cases D with
  | none => exact std_ok
  | some D => exact h D rfl
theorem rd_L_shows {K : PySem.W.Frag} {mg : Str → Option Value} (T : Top K mg) : ∀ vs H Q E, sp_L_shows K vs H Q E → t_L_shows K { nx := fun _ H' => Q .non H', rt := Q } (start nm_L_shows vs) H := by
  rintro vs H Q E ⟨s, b, l, S, D, rfl, hS, hB, hA, ok, okD, q⟩
  rw [start_L_shows]
  unfold t_L_shows t_L_shows_1
  have szl := sizeLine_eq
  simp only [tSeq, tAsg, tIfS, tRet, tRetN, tDrop, tNext, tPar, tPar3, gName, gSub, gTup, gCons, gNil, zV, tC, tOp, tUn, tCons, tNil, tLst, tTup, tIf, tAnd, tOr, tNot, tYes, zB, zAnd, zOr, zNot, zChain, tDNewK, yAdd, ySub, yMul, yDiv, yMod, yPow, yNeg, yLt, yLe, yGt, yGe, yEq, yNe, yIs0, yNotIs0, yIx, ySet, yIn, sqAt, isNone, zFld, zSetF, insAt, zMeth, zProp, tCall, tMake, tCB, yLen, yAbs, yMax2, yMin2, yList, yTuple, yDict0, zLM, yApp, isLst, dkAt, keyOf, zGet1, zGet2, zPop1, zPop2, zForR1, zForR2, zForL, zForT, Z.intAt, refAt, zLc, iR1, iR2, iL, iT, wipe, List.getElem?_cons_zero, List.getElem?_cons_succ, List.set_cons_zero, List.set_cons_succ, List.cons_append, List.nil_append, List.append_nil, upd_same, at0, at1, at2, ix0, ix1, ix2, upd_upd, ite_true, ite_false, if_true, if_false, Bool.false_eq_true, decide_true, decide_false, reduceIte, true_and, and_true, Option.isSome_none, Option.isSome_some, Bool.not_false, Bool.not_true, zTupA, zLstA, yAddA, yMulA, sliceA, zS2A, zSAA, zSBA, yListA, yTupleA, zForE, yNeO, yReprB, tMakeN, zSlA, zSlB, wOnly, tCallN, zForR3, zMatch, zCase, zMethS, zRaiseO, yPopAt, zSl2, yIsiT, tysAt, zBInit, zOst, tXf, wAs, tMkO, zFmt, zJs, zJoin, yStr1, gLst, zCM, zListR1, zListR2, zLenR1, iR3, yInt1, yEqO, yAndO, yInO, yLenO, yReprO, isBl, Z.strAt, yEq0, yNe0, GF.zForG, GF.zLcG, GF.zListG, yIsi, tyAt, clsAt, ki_int_int, ki_bool_int, ki_none_int, ki_str_int, ki_list_int, ki_tuple_int, ki_int_bool, ki_bool_bool, ki_none_bool, ki_str_bool, ki_list_bool, ki_tuple_bool, zMakeV, tRz, zNever]
  refine ⟨by show 3 ≤ sizeLine; omega, fun p1 H1 _ s1 e1 => ⟨by show 2 ≤ sizeLine; omega, fun p2 H2 _ s2 e2 => ⟨by show 3 ≤ sizeLine; omega, fun p3 H3 _ s3 e3 => ⟨by show 3 ≤ sizeLine; omega, fun p4 H4 _ s4 e4 => ⟨by show 4 ≤ sizeLine; omega, fun l5 H5 _ s5 e5 => ?_⟩⟩⟩⟩⟩
  have sA := (((s1.trans s2).trans s3).trans s4).trans s5
  have hA5 := hA.same sA
  obtain ⟨v9, hl5, h9⟩ := hA5
  unfold t_L_shows_2
  have at8 : atI [V.str S.copies, .bl S.cached, .int S.batch, .bl S.early, .bl S.drain, .str S.policy, .int S.groups, .int S.tables, v9] 8 = some v9 := rfl
  -- from the third line on
  have rest : ∀ d H6, Same H5 H6 → Dp K H6 (.ref d) (.list ((duesOf D).map dutyD)) → tSeq (t_L_shows_3 K) (tSeq (t_L_shows_4 K) (t_L_shows_5 K)) { nx := fun _ H' => Q .non H', rt := Q } [some (.ref s), some (.ref l), some (.ref l5), some (.ref d), none] H6 := by
    intro d H6 s6 hd
    have sB := sA.trans s6
    obtain ⟨dx, hs, _⟩ := hS
    have hs6 := sB _ _ hs
    have hl6 := s6 _ _ hl5
    unfold t_L_shows_3
    simp only [tSeq, tAsg, tIfS, tRet, tRetN, tDrop, tNext, tPar, tPar3, gName, gSub, gTup, gCons, gNil, zV, tC, tOp, tUn, tCons, tNil, tLst, tTup, tIf, tAnd, tOr, tNot, tYes, zB, zAnd, zOr, zNot, zChain, tDNewK, yAdd, ySub, yMul, yDiv, yMod, yPow, yNeg, yLt, yLe, yGt, yGe, yEq, yNe, yIs0, yNotIs0, yIx, ySet, yIn, sqAt, isNone, zFld, zSetF, insAt, zMeth, zProp, tCall, tMake, tCB, yLen, yAbs, yMax2, yMin2, yList, yTuple, yDict0, zLM, yApp, isLst, dkAt, keyOf, zGet1, zGet2, zPop1, zPop2, zForR1, zForR2, zForL, zForT, Z.intAt, refAt, zLc, iR1, iR2, iL, iT, wipe, List.getElem?_cons_zero, List.getElem?_cons_succ, List.set_cons_zero, List.set_cons_succ, List.cons_append, List.nil_append, List.append_nil, upd_same, at0, at1, at2, ix0, ix1, ix2, upd_upd, ite_true, ite_false, if_true, if_false, Bool.false_eq_true, decide_true, decide_false, reduceIte, true_and, and_true, Option.isSome_none, Option.isSome_some, Bool.not_false, Bool.not_true, zTupA, zLstA, yAddA, yMulA, sliceA, zS2A, zSAA, zSBA, yListA, yTupleA, zForE, yNeO, yReprB, tMakeN, zSlA, zSlB, wOnly, tCallN, zForR3, zMatch, zCase, zMethS, zRaiseO, yPopAt, zSl2, yIsiT, tysAt, zBInit, zOst, tXf, wAs, tMkO, zFmt, zJs, zJoin, yStr1, gLst, zCM, zListR1, zListR2, zLenR1, iR3, yInt1, yEqO, yAndO, yInO, yLenO, yReprO, isBl, Z.strAt, yEq0, yNe0, GF.zForG, GF.zLcG, GF.zListG, yIsi, tyAt, clsAt, ki_int_int, ki_bool_int, ki_none_int, ki_str_int, ki_list_int, ki_tuple_int, ki_int_bool, ki_bool_bool, ki_none_bool, ki_str_bool, ki_list_bool, ki_tuple_bool, zMakeV, tRz, zNever, hs6, lk_Setting_copies, lk_Setting_cached, lk_Setting_batch, lk_Setting_early, lk_Setting_drain, lk_Setting_policy, lk_Setting_groups, lk_Setting_tables]
    refine ⟨⟨T.cl_Setting, T.na_Setting_copies⟩, ⟨T.cl_Setting, T.na_Setting_cached⟩, ⟨T.cl_Setting, T.na_Setting_batch⟩, ⟨T.cl_Setting, T.na_Setting_early⟩, ⟨T.cl_Setting, T.na_Setting_drain⟩, ⟨T.cl_Setting, T.na_Setting_policy⟩, ⟨T.cl_Setting, T.na_Setting_groups⟩, ⟨T.cl_Setting, T.na_Setting_tables⟩, by show 8 ≤ sizeLine; omega, fun l7 H7 _ s7 e7 => ?_⟩
    have flat : ∀ (H : Hp) (a : Addr), H a = some (.lst [.str S.copies, .bl S.cached, .int S.batch, .bl S.early, .bl S.drain, .str S.policy, .int S.groups, .int S.tables]) → Dp K H (.ref a) (.list (flatD S)) := fun H a h => Dp.lst (SqL.of h) (.cons (.str _) (.cons (.bl _) (.cons (.int _) (.cons (.bl _) (.cons (.bl _) (.cons (.str _) (.cons (.int _) (.cons (.int _) .nil))))))))
    unfold t_L_shows_4
    simp only [tSeq, tAsg, tIfS, tRet, tRetN, tDrop, tNext, tPar, tPar3, gName, gSub, gTup, gCons, gNil, zV, tC, tOp, tUn, tCons, tNil, tLst, tTup, tIf, tAnd, tOr, tNot, tYes, zB, zAnd, zOr, zNot, zChain, tDNewK, yAdd, ySub, yMul, yDiv, yMod, yPow, yNeg, yLt, yLe, yGt, yGe, yEq, yNe, yIs0, yNotIs0, yIx, ySet, yIn, sqAt, isNone, zFld, zSetF, insAt, zMeth, zProp, tCall, tMake, tCB, yLen, yAbs, yMax2, yMin2, yList, yTuple, yDict0, zLM, yApp, isLst, dkAt, keyOf, zGet1, zGet2, zPop1, zPop2, zForR1, zForR2, zForL, zForT, Z.intAt, refAt, zLc, iR1, iR2, iL, iT, wipe, List.getElem?_cons_zero, List.getElem?_cons_succ, List.set_cons_zero, List.set_cons_succ, List.cons_append, List.nil_append, List.append_nil, upd_same, at0, at1, at2, ix0, ix1, ix2, upd_upd, ite_true, ite_false, if_true, if_false, Bool.false_eq_true, decide_true, decide_false, reduceIte, true_and, and_true, Option.isSome_none, Option.isSome_some, Bool.not_false, Bool.not_true, zTupA, zLstA, yAddA, yMulA, sliceA, zS2A, zSAA, zSBA, yListA, yTupleA, zForE, yNeO, yReprB, tMakeN, zSlA, zSlB, wOnly, tCallN, zForR3, zMatch, zCase, zMethS, zRaiseO, yPopAt, zSl2, yIsiT, tysAt, zBInit, zOst, tXf, wAs, tMkO, zFmt, zJs, zJoin, yStr1, gLst, zCM, zListR1, zListR2, zLenR1, iR3, yInt1, yEqO, yAndO, yInO, yLenO, yReprO, isBl, Z.strAt, yEq0, yNe0, GF.zForG, GF.zLcG, GF.zListG, yIsi, tyAt, clsAt, ki_int_int, ki_bool_int, ki_none_int, ki_str_int, ki_list_int, ki_tuple_int, ki_int_bool, ki_bool_bool, ki_none_bool, ki_str_bool, ki_list_bool, ki_tuple_bool, zMakeV, tRz, zNever]
    refine ⟨l7, _, rfl, flat _ _ e7, (flat_sm ok).shows (by decide) (by decide), ?_⟩
    have hl7 := s7 _ _ hl6
    simp only [tSeq, tAsg, tIfS, tRet, tRetN, tDrop, tNext, tPar, tPar3, gName, gSub, gTup, gCons, gNil, zV, tC, tOp, tUn, tCons, tNil, tLst, tTup, tIf, tAnd, tOr, tNot, tYes, zB, zAnd, zOr, zNot, zChain, tDNewK, yAdd, ySub, yMul, yDiv, yMod, yPow, yNeg, yLt, yLe, yGt, yGe, yEq, yNe, yIs0, yNotIs0, yIx, ySet, yIn, sqAt, isNone, zFld, zSetF, insAt, zMeth, zProp, tCall, tMake, tCB, yLen, yAbs, yMax2, yMin2, yList, yTuple, yDict0, zLM, yApp, isLst, dkAt, keyOf, zGet1, zGet2, zPop1, zPop2, zForR1, zForR2, zForL, zForT, Z.intAt, refAt, zLc, iR1, iR2, iL, iT, wipe, List.getElem?_cons_zero, List.getElem?_cons_succ, List.set_cons_zero, List.set_cons_succ, List.cons_append, List.nil_append, List.append_nil, upd_same, at0, at1, at2, ix0, ix1, ix2, upd_upd, ite_true, ite_false, if_true, if_false, Bool.false_eq_true, decide_true, decide_false, reduceIte, true_and, and_true, Option.isSome_none, Option.isSome_some, Bool.not_false, Bool.not_true, zTupA, zLstA, yAddA, yMulA, sliceA, zS2A, zSAA, zSBA, yListA, yTupleA, zForE, yNeO, yReprB, tMakeN, zSlA, zSlB, wOnly, tCallN, zForR3, zMatch, zCase, zMethS, zRaiseO, yPopAt, zSl2, yIsiT, tysAt, zBInit, zOst, tXf, wAs, tMkO, zFmt, zJs, zJoin, yStr1, gLst, zCM, zListR1, zListR2, zLenR1, iR3, yInt1, yEqO, yAndO, yInO, yLenO, yReprO, isBl, Z.strAt, yEq0, yNe0, GF.zForG, GF.zLcG, GF.zListG, yIsi, tyAt, clsAt, ki_int_int, ki_bool_int, ki_none_int, ki_str_int, ki_list_int, ki_tuple_int, ki_int_bool, ki_bool_bool, ki_none_bool, ki_str_bool, ki_list_bool, ki_tuple_bool, zMakeV, tRz, zNever, hl7]
    intro l8 H8 _ s8 e8
    simp only [tSeq, tAsg, tIfS, tRet, tRetN, tDrop, tNext, tPar, tPar3, gName, gSub, gTup, gCons, gNil, zV, tC, tOp, tUn, tCons, tNil, tLst, tTup, tIf, tAnd, tOr, tNot, tYes, zB, zAnd, zOr, zNot, zChain, tDNewK, yAdd, ySub, yMul, yDiv, yMod, yPow, yNeg, yLt, yLe, yGt, yGe, yEq, yNe, yIs0, yNotIs0, yIx, ySet, yIn, sqAt, isNone, zFld, zSetF, insAt, zMeth, zProp, tCall, tMake, tCB, yLen, yAbs, yMax2, yMin2, yList, yTuple, yDict0, zLM, yApp, isLst, dkAt, keyOf, zGet1, zGet2, zPop1, zPop2, zForR1, zForR2, zForL, zForT, Z.intAt, refAt, zLc, iR1, iR2, iL, iT, wipe, List.getElem?_cons_zero, List.getElem?_cons_succ, List.set_cons_zero, List.set_cons_succ, List.cons_append, List.nil_append, List.append_nil, upd_same, at0, at1, at2, ix0, ix1, ix2, upd_upd, ite_true, ite_false, if_true, if_false, Bool.false_eq_true, decide_true, decide_false, reduceIte, true_and, and_true, Option.isSome_none, Option.isSome_some, Bool.not_false, Bool.not_true, zTupA, zLstA, yAddA, yMulA, sliceA, zS2A, zSAA, zSBA, yListA, yTupleA, zForE, yNeO, yReprB, tMakeN, zSlA, zSlB, wOnly, tCallN, zForR3, zMatch, zCase, zMethS, zRaiseO, yPopAt, zSl2, yIsiT, tysAt, zBInit, zOst, tXf, wAs, tMkO, zFmt, zJs, zJoin, yStr1, gLst, zCM, zListR1, zListR2, zLenR1, iR3, yInt1, yEqO, yAndO, yInO, yLenO, yReprO, isBl, Z.strAt, yEq0, yNe0, GF.zForG, GF.zLcG, GF.zListG, yIsi, tyAt, clsAt, ki_int_int, ki_bool_int, ki_none_int, ki_str_int, ki_list_int, ki_tuple_int, ki_int_bool, ki_bool_bool, ki_none_bool, ki_str_bool, ki_list_bool, ki_tuple_bool, zMakeV, tRz, zNever]
    refine ⟨l8, _, rfl, flat _ _ e8, (flat_sm ok).shows (by decide) (by decide), ?_⟩
    have hs8 := (s7.trans s8) _ _ hs6
    have hB8 := hB.same (sB.trans (s7.trans s8))
    obtain ⟨dxb, w1, w2, w3, w4, w5, hb8, dp8, _⟩ := id hB8
    simp only [tSeq, tAsg, tIfS, tRet, tRetN, tDrop, tNext, tPar, tPar3, gName, gSub, gTup, gCons, gNil, zV, tC, tOp, tUn, tCons, tNil, tLst, tTup, tIf, tAnd, tOr, tNot, tYes, zB, zAnd, zOr, zNot, zChain, tDNewK, yAdd, ySub, yMul, yDiv, yMod, yPow, yNeg, yLt, yLe, yGt, yGe, yEq, yNe, yIs0, yNotIs0, yIx, ySet, yIn, sqAt, isNone, zFld, zSetF, insAt, zMeth, zProp, tCall, tMake, tCB, yLen, yAbs, yMax2, yMin2, yList, yTuple, yDict0, zLM, yApp, isLst, dkAt, keyOf, zGet1, zGet2, zPop1, zPop2, zForR1, zForR2, zForL, zForT, Z.intAt, refAt, zLc, iR1, iR2, iL, iT, wipe, List.getElem?_cons_zero, List.getElem?_cons_succ, List.set_cons_zero, List.set_cons_succ, List.cons_append, List.nil_append, List.append_nil, upd_same, at0, at1, at2, ix0, ix1, ix2, upd_upd, ite_true, ite_false, if_true, if_false, Bool.false_eq_true, decide_true, decide_false, reduceIte, true_and, and_true, Option.isSome_none, Option.isSome_some, Bool.not_false, Bool.not_true, zTupA, zLstA, yAddA, yMulA, sliceA, zS2A, zSAA, zSBA, yListA, yTupleA, zForE, yNeO, yReprB, tMakeN, zSlA, zSlB, wOnly, tCallN, zForR3, zMatch, zCase, zMethS, zRaiseO, yPopAt, zSl2, yIsiT, tysAt, zBInit, zOst, tXf, wAs, tMkO, zFmt, zJs, zJoin, yStr1, gLst, zCM, zListR1, zListR2, zLenR1, iR3, yInt1, yEqO, yAndO, yInO, yLenO, yReprO, isBl, Z.strAt, yEq0, yNe0, GF.zForG, GF.zLcG, GF.zListG, yIsi, tyAt, clsAt, ki_int_int, ki_bool_int, ki_none_int, ki_str_int, ki_list_int, ki_tuple_int, ki_int_bool, ki_bool_bool, ki_none_bool, ki_str_bool, ki_list_bool, ki_tuple_bool, zMakeV, tRz, zNever, hs8, lk_Setting_book, hb8, T.ki_Book_Book]
    refine ⟨⟨T.cl_Setting, T.na_Setting_book⟩, T.i_Book, ?_⟩
    unfold t_L_shows_5
    simp only [tSeq, tAsg, tIfS, tRet, tRetN, tDrop, tNext, tPar, tPar3, gName, gSub, gTup, gCons, gNil, zV, tC, tOp, tUn, tCons, tNil, tLst, tTup, tIf, tAnd, tOr, tNot, tYes, zB, zAnd, zOr, zNot, zChain, tDNewK, yAdd, ySub, yMul, yDiv, yMod, yPow, yNeg, yLt, yLe, yGt, yGe, yEq, yNe, yIs0, yNotIs0, yIx, ySet, yIn, sqAt, isNone, zFld, zSetF, insAt, zMeth, zProp, tCall, tMake, tCB, yLen, yAbs, yMax2, yMin2, yList, yTuple, yDict0, zLM, yApp, isLst, dkAt, keyOf, zGet1, zGet2, zPop1, zPop2, zForR1, zForR2, zForL, zForT, Z.intAt, refAt, zLc, iR1, iR2, iL, iT, wipe, List.getElem?_cons_zero, List.getElem?_cons_succ, List.set_cons_zero, List.set_cons_succ, List.cons_append, List.nil_append, List.append_nil, upd_same, at0, at1, at2, ix0, ix1, ix2, upd_upd, ite_true, ite_false, if_true, if_false, Bool.false_eq_true, decide_true, decide_false, reduceIte, true_and, and_true, Option.isSome_none, Option.isSome_some, Bool.not_false, Bool.not_true, zTupA, zLstA, yAddA, yMulA, sliceA, zS2A, zSAA, zSBA, yListA, yTupleA, zForE, yNeO, yReprB, tMakeN, zSlA, zSlB, wOnly, tCallN, zForR3, zMatch, zCase, zMethS, zRaiseO, yPopAt, zSl2, yIsiT, tysAt, zBInit, zOst, tXf, wAs, tMkO, zFmt, zJs, zJoin, yStr1, gLst, zCM, zListR1, zListR2, zLenR1, iR3, yInt1, yEqO, yAndO, yInO, yLenO, yReprO, isBl, Z.strAt, yEq0, yNe0, GF.zForG, GF.zLcG, GF.zListG, yIsi, tyAt, clsAt, ki_int_int, ki_bool_int, ki_none_int, ki_str_int, ki_list_int, ki_tuple_int, ki_int_bool, ki_bool_bool, ki_none_bool, ki_str_bool, ki_list_bool, ki_tuple_bool, zMakeV, tRz, zNever, hs8, lk_Setting_book]
    refine ⟨⟨T.cl_Setting, T.na_Setting_book⟩, b, duesOf D, rfl, hB8, fun l9 H9 s9 d9 => ?_⟩
    have sh := (duties_sm (dsok_dues okD) (by rw [five_len dp8]; decide)).shows (by decide) (by decide)
    simp only [tSeq, tAsg, tIfS, tRet, tRetN, tDrop, tNext, tPar, tPar3, gName, gSub, gTup, gCons, gNil, zV, tC, tOp, tUn, tCons, tNil, tLst, tTup, tIf, tAnd, tOr, tNot, tYes, zB, zAnd, zOr, zNot, zChain, tDNewK, yAdd, ySub, yMul, yDiv, yMod, yPow, yNeg, yLt, yLe, yGt, yGe, yEq, yNe, yIs0, yNotIs0, yIx, ySet, yIn, sqAt, isNone, zFld, zSetF, insAt, zMeth, zProp, tCall, tMake, tCB, yLen, yAbs, yMax2, yMin2, yList, yTuple, yDict0, zLM, yApp, isLst, dkAt, keyOf, zGet1, zGet2, zPop1, zPop2, zForR1, zForR2, zForL, zForT, Z.intAt, refAt, zLc, iR1, iR2, iL, iT, wipe, List.getElem?_cons_zero, List.getElem?_cons_succ, List.set_cons_zero, List.set_cons_succ, List.cons_append, List.nil_append, List.append_nil, upd_same, at0, at1, at2, ix0, ix1, ix2, upd_upd, ite_true, ite_false, if_true, if_false, Bool.false_eq_true, decide_true, decide_false, reduceIte, true_and, and_true, Option.isSome_none, Option.isSome_some, Bool.not_false, Bool.not_true, zTupA, zLstA, yAddA, yMulA, sliceA, zS2A, zSAA, zSBA, yListA, yTupleA, zForE, yNeO, yReprB, tMakeN, zSlA, zSlB, wOnly, tCallN, zForR3, zMatch, zCase, zMethS, zRaiseO, yPopAt, zSl2, yIsiT, tysAt, zBInit, zOst, tXf, wAs, tMkO, zFmt, zJs, zJoin, yStr1, gLst, zCM, zListR1, zListR2, zLenR1, iR3, yInt1, yEqO, yAndO, yInO, yLenO, yReprO, isBl, Z.strAt, yEq0, yNe0, GF.zForG, GF.zLcG, GF.zListG, yIsi, tyAt, clsAt, ki_int_int, ki_bool_int, ki_none_int, ki_str_int, ki_list_int, ki_tuple_int, ki_int_bool, ki_bool_bool, ki_none_bool, ki_str_bool, ki_list_bool, ki_tuple_bool, zMakeV, tRz, zNever]
    refine ⟨l9, _, rfl, d9, sh, d, _, rfl, dp_same ((s7.trans s8).trans s9) _ _ hd, sh, ?_⟩
    simp only [tSeq, tAsg, tIfS, tRet, tRetN, tDrop, tNext, tPar, tPar3, gName, gSub, gTup, gCons, gNil, zV, tC, tOp, tUn, tCons, tNil, tLst, tTup, tIf, tAnd, tOr, tNot, tYes, zB, zAnd, zOr, zNot, zChain, tDNewK, yAdd, ySub, yMul, yDiv, yMod, yPow, yNeg, yLt, yLe, yGt, yGe, yEq, yNe, yIs0, yNotIs0, yIx, ySet, yIn, sqAt, isNone, zFld, zSetF, insAt, zMeth, zProp, tCall, tMake, tCB, yLen, yAbs, yMax2, yMin2, yList, yTuple, yDict0, zLM, yApp, isLst, dkAt, keyOf, zGet1, zGet2, zPop1, zPop2, zForR1, zForR2, zForL, zForT, Z.intAt, refAt, zLc, iR1, iR2, iL, iT, wipe, List.getElem?_cons_zero, List.getElem?_cons_succ, List.set_cons_zero, List.set_cons_succ, List.cons_append, List.nil_append, List.append_nil, upd_same, at0, at1, at2, ix0, ix1, ix2, upd_upd, ite_true, ite_false, if_true, if_false, Bool.false_eq_true, decide_true, decide_false, reduceIte, true_and, and_true, Option.isSome_none, Option.isSome_some, Bool.not_false, Bool.not_true, zTupA, zLstA, yAddA, yMulA, sliceA, zS2A, zSAA, zSBA, yListA, yTupleA, zForE, yNeO, yReprB, tMakeN, zSlA, zSlB, wOnly, tCallN, zForR3, zMatch, zCase, zMethS, zRaiseO, yPopAt, zSl2, yIsiT, tysAt, zBInit, zOst, tXf, wAs, tMkO, zFmt, zJs, zJoin, yStr1, gLst, zCM, zListR1, zListR2, zLenR1, iR3, yInt1, yEqO, yAndO, yInO, yLenO, yReprO, isBl, Z.strAt, yEq0, yNe0, GF.zForG, GF.zLcG, GF.zListG, yIsi, tyAt, clsAt, ki_int_int, ki_bool_int, ki_none_int, ki_str_int, ki_list_int, ki_tuple_int, ki_int_bool, ki_bool_bool, ki_none_bool, ki_str_bool, ki_list_bool, ki_tuple_bool, zMakeV, tRz, zNever]
    exact q _ (sB.trans ((s7.trans s8).trans s9))
  simp only [tSeq, tAsg, tIfS, tRet, tRetN, tDrop, tNext, tPar, tPar3, gName, gSub, gTup, gCons, gNil, zV, tC, tOp, tUn, tCons, tNil, tLst, tTup, tIf, tAnd, tOr, tNot, tYes, zB, zAnd, zOr, zNot, zChain, tDNewK, yAdd, ySub, yMul, yDiv, yMod, yPow, yNeg, yLt, yLe, yGt, yGe, yEq, yNe, yIs0, yNotIs0, yIx, ySet, yIn, sqAt, isNone, zFld, zSetF, insAt, zMeth, zProp, tCall, tMake, tCB, yLen, yAbs, yMax2, yMin2, yList, yTuple, yDict0, zLM, yApp, isLst, dkAt, keyOf, zGet1, zGet2, zPop1, zPop2, zForR1, zForR2, zForL, zForT, Z.intAt, refAt, zLc, iR1, iR2, iL, iT, wipe, List.getElem?_cons_zero, List.getElem?_cons_succ, List.set_cons_zero, List.set_cons_succ, List.cons_append, List.nil_append, List.append_nil, upd_same, at0, at1, at2, ix0, ix1, ix2, upd_upd, ite_true, ite_false, if_true, if_false, Bool.false_eq_true, decide_true, decide_false, reduceIte, true_and, and_true, Option.isSome_none, Option.isSome_some, Bool.not_false, Bool.not_true, zTupA, zLstA, yAddA, yMulA, sliceA, zS2A, zSAA, zSBA, yListA, yTupleA, zForE, yNeO, yReprB, tMakeN, zSlA, zSlB, wOnly, tCallN, zForR3, zMatch, zCase, zMethS, zRaiseO, yPopAt, zSl2, yIsiT, tysAt, zBInit, zOst, tXf, wAs, tMkO, zFmt, zJs, zJoin, yStr1, gLst, zCM, zListR1, zListR2, zLenR1, iR3, yInt1, yEqO, yAndO, yInO, yLenO, yReprO, isBl, Z.strAt, yEq0, yNe0, GF.zForG, GF.zLcG, GF.zListG, yIsi, tyAt, clsAt, ki_int_int, ki_bool_int, ki_none_int, ki_str_int, ki_list_int, ki_tuple_int, ki_int_bool, ki_bool_bool, ki_none_bool, ki_str_bool, ki_list_bool, ki_tuple_bool, zMakeV, tRz, zNever, hl5, at8]
  cases D with
  | none =>
    obtain rfl := h9
    simp only [tSeq, tAsg, tIfS, tRet, tRetN, tDrop, tNext, tPar, tPar3, gName, gSub, gTup, gCons, gNil, zV, tC, tOp, tUn, tCons, tNil, tLst, tTup, tIf, tAnd, tOr, tNot, tYes, zB, zAnd, zOr, zNot, zChain, tDNewK, yAdd, ySub, yMul, yDiv, yMod, yPow, yNeg, yLt, yLe, yGt, yGe, yEq, yNe, yIs0, yNotIs0, yIx, ySet, yIn, sqAt, isNone, zFld, zSetF, insAt, zMeth, zProp, tCall, tMake, tCB, yLen, yAbs, yMax2, yMin2, yList, yTuple, yDict0, zLM, yApp, isLst, dkAt, keyOf, zGet1, zGet2, zPop1, zPop2, zForR1, zForR2, zForL, zForT, Z.intAt, refAt, zLc, iR1, iR2, iL, iT, wipe, List.getElem?_cons_zero, List.getElem?_cons_succ, List.set_cons_zero, List.set_cons_succ, List.cons_append, List.nil_append, List.append_nil, upd_same, at0, at1, at2, ix0, ix1, ix2, upd_upd, ite_true, ite_false, if_true, if_false, Bool.false_eq_true, decide_true, decide_false, reduceIte, true_and, and_true, Option.isSome_none, Option.isSome_some, Bool.not_false, Bool.not_true, zTupA, zLstA, yAddA, yMulA, sliceA, zS2A, zSAA, zSBA, yListA, yTupleA, zForE, yNeO, yReprB, tMakeN, zSlA, zSlB, wOnly, tCallN, zForR3, zMatch, zCase, zMethS, zRaiseO, yPopAt, zSl2, yIsiT, tysAt, zBInit, zOst, tXf, wAs, tMkO, zFmt, zJs, zJoin, yStr1, gLst, zCM, zListR1, zListR2, zLenR1, iR3, yInt1, yEqO, yAndO, yInO, yLenO, yReprO, isBl, Z.strAt, yEq0, yNe0, GF.zForG, GF.zLcG, GF.zListG, yIsi, tyAt, clsAt, ki_int_int, ki_bool_int, ki_none_int, ki_str_int, ki_list_int, ki_tuple_int, ki_int_bool, ki_bool_bool, ki_none_bool, ki_str_bool, ki_list_bool, ki_tuple_bool, zMakeV, tRz, zNever]
    refine ⟨by show 2 ≤ sizeLine; omega, fun p6 H6 _ s6 e6 => ⟨by show 1 ≤ sizeLine; omega, fun l7 H7 _ s7 e7 => ?_⟩⟩
    have e57 := (s6.trans s7) _ _ e5
    simp only [tSeq, tAsg, tIfS, tRet, tRetN, tDrop, tNext, tPar, tPar3, gName, gSub, gTup, gCons, gNil, zV, tC, tOp, tUn, tCons, tNil, tLst, tTup, tIf, tAnd, tOr, tNot, tYes, zB, zAnd, zOr, zNot, zChain, tDNewK, yAdd, ySub, yMul, yDiv, yMod, yPow, yNeg, yLt, yLe, yGt, yGe, yEq, yNe, yIs0, yNotIs0, yIx, ySet, yIn, sqAt, isNone, zFld, zSetF, insAt, zMeth, zProp, tCall, tMake, tCB, yLen, yAbs, yMax2, yMin2, yList, yTuple, yDict0, zLM, yApp, isLst, dkAt, keyOf, zGet1, zGet2, zPop1, zPop2, zForR1, zForR2, zForL, zForT, Z.intAt, refAt, zLc, iR1, iR2, iL, iT, wipe, List.getElem?_cons_zero, List.getElem?_cons_succ, List.set_cons_zero, List.set_cons_succ, List.cons_append, List.nil_append, List.append_nil, upd_same, at0, at1, at2, ix0, ix1, ix2, upd_upd, ite_true, ite_false, if_true, if_false, Bool.false_eq_true, decide_true, decide_false, reduceIte, true_and, and_true, Option.isSome_none, Option.isSome_some, Bool.not_false, Bool.not_true, zTupA, zLstA, yAddA, yMulA, sliceA, zS2A, zSAA, zSBA, yListA, yTupleA, zForE, yNeO, yReprB, tMakeN, zSlA, zSlB, wOnly, tCallN, zForR3, zMatch, zCase, zMethS, zRaiseO, yPopAt, zSl2, yIsiT, tysAt, zBInit, zOst, tXf, wAs, tMkO, zFmt, zJs, zJoin, yStr1, gLst, zCM, zListR1, zListR2, zLenR1, iR3, yInt1, yEqO, yAndO, yInO, yLenO, yReprO, isBl, Z.strAt, yEq0, yNe0, GF.zForG, GF.zLcG, GF.zListG, yIsi, tyAt, clsAt, ki_int_int, ki_bool_int, ki_none_int, ki_str_int, ki_list_int, ki_tuple_int, ki_int_bool, ki_bool_bool, ki_none_bool, ki_str_bool, ki_list_bool, ki_tuple_bool, zMakeV, tRz, zNever, e57, e7]
    refine ⟨by show 4 + 1 ≤ sizeLine; omega, fun l8 H8 _ s8 e8 => ?_⟩
    refine rest l8 H8 ((s6.trans s7).trans s8) (Dp.lst (SqL.of e8) ?_)
    have t7 := s7.trans s8
    have t6 := s6.trans t7
    have t5 := s5.trans t6
    have t4 := s4.trans t5
    have t3 := s3.trans t4
    have t2 := s2.trans t3
    exact .cons (duty_of (SqT.of (t2 _ _ e1))) (.cons (duty_of (SqT.of (t3 _ _ e2))) (.cons (duty_of (SqT.of (t4 _ _ e3))) (.cons (duty_of (SqT.of (t5 _ _ e4))) (.cons (duty_of (SqT.of (t7 _ _ e6))) .nil))))
  | some D =>
    obtain ⟨d, v1, v2, v3, v4, v5, rfl, hd, dpd⟩ := h9
    simp only [tSeq, tAsg, tIfS, tRet, tRetN, tDrop, tNext, tPar, tPar3, gName, gSub, gTup, gCons, gNil, zV, tC, tOp, tUn, tCons, tNil, tLst, tTup, tIf, tAnd, tOr, tNot, tYes, zB, zAnd, zOr, zNot, zChain, tDNewK, yAdd, ySub, yMul, yDiv, yMod, yPow, yNeg, yLt, yLe, yGt, yGe, yEq, yNe, yIs0, yNotIs0, yIx, ySet, yIn, sqAt, isNone, zFld, zSetF, insAt, zMeth, zProp, tCall, tMake, tCB, yLen, yAbs, yMax2, yMin2, yList, yTuple, yDict0, zLM, yApp, isLst, dkAt, keyOf, zGet1, zGet2, zPop1, zPop2, zForR1, zForR2, zForL, zForT, Z.intAt, refAt, zLc, iR1, iR2, iL, iT, wipe, List.getElem?_cons_zero, List.getElem?_cons_succ, List.set_cons_zero, List.set_cons_succ, List.cons_append, List.nil_append, List.append_nil, upd_same, at0, at1, at2, ix0, ix1, ix2, upd_upd, ite_true, ite_false, if_true, if_false, Bool.false_eq_true, decide_true, decide_false, reduceIte, true_and, and_true, Option.isSome_none, Option.isSome_some, Bool.not_false, Bool.not_true, zTupA, zLstA, yAddA, yMulA, sliceA, zS2A, zSAA, zSBA, yListA, yTupleA, zForE, yNeO, yReprB, tMakeN, zSlA, zSlB, wOnly, tCallN, zForR3, zMatch, zCase, zMethS, zRaiseO, yPopAt, zSl2, yIsiT, tysAt, zBInit, zOst, tXf, wAs, tMkO, zFmt, zJs, zJoin, yStr1, gLst, zCM, zListR1, zListR2, zLenR1, iR3, yInt1, yEqO, yAndO, yInO, yLenO, yReprO, isBl, Z.strAt, yEq0, yNe0, GF.zForG, GF.zLcG, GF.zListG, yIsi, tyAt, clsAt, ki_int_int, ki_bool_int, ki_none_int, ki_str_int, ki_list_int, ki_tuple_int, ki_int_bool, ki_bool_bool, ki_none_bool, ki_str_bool, ki_list_bool, ki_tuple_bool, zMakeV, tRz, zNever, reduceCtorEq]
    exact rest d H5 (Same.refl _) (Dp.lst (SqL.of hd) dpd)

/-! ### the plain law -/
def fullD (S : Sett) (D : List (List Str)) : PyData := .list (flatD S ++ [.list (D.map dutyD)])
theorem full_dp {K : PySem.W.Frag} {H : Hp} {l : Addr} {S : Sett} {D : List (List Str)} (h : ArgsAt K H l S (some D)) : Dp K H (.ref l) (fullD S D) := by
  obtain ⟨v9, h, d, v1, v2, v3, v4, v5, rfl, hd, dp⟩ := h
  exact Dp.lst (SqL.of h) (.cons (.str _) (.cons (.bl _) (.cons (.int _) (.cons (.bl _) (.cons (.bl _) (.cons (.str _) (.cons (.int _) (.cons (.int _) (.cons (Dp.lst (SqL.of hd) dp) .nil)))))))))
theorem full_shaped {S : Sett} {D : List (List Str)} (ok : SettOk S) (okD : ∀ d ∈ D, DOk d) : SeqAt.shaped (fullD S D) = true := by
  have c := copies_ok ok.1
  have p := policy_ok ok.2.2.1
  have ld := duties_shaped okD
  refine shaped_of (n := 3) (lay_list fun x hx => ?_) (depth_list (n := 2) fun x hx => ?_) (by decide)
  · rcases List.mem_append.mp hx with hx | hx
    · unfold flatD at hx
      simp only [List.mem_cons, List.not_mem_nil, or_false] at hx
      rcases hx with rfl | rfl | rfl | rfl | rfl | rfl | rfl | rfl
      · simp only [PyData.canLay0]; exact c
      · rfl
      · rfl
      · rfl
      · rfl
      · simp only [PyData.canLay0]; exact p
      · rfl
      · rfl
    · obtain rfl := List.mem_singleton.mp hx
      exact lay_list fun y hy => by
        obtain ⟨z, hz, rfl⟩ := List.mem_map.mp hy
        exact (duty_lay (okD z hz)).1
  · rcases List.mem_append.mp hx with hx | hx
    · unfold flatD at hx
      simp only [List.mem_cons, List.not_mem_nil, or_false] at hx
      rcases hx with rfl | rfl | rfl | rfl | rfl | rfl | rfl | rfl <;> (simp only [PyData.depth]; decide)
    · obtain rfl := List.mem_singleton.mp hx
      exact depth_list (n := 1) fun y hy => by
        obtain ⟨z, hz, rfl⟩ := List.mem_map.mp hy
        exact (duty_lay (okD z hz)).2
theorem full_eq (S S' : Sett) (D D' : List (List Str)) : PyData.eqv (fullD S D) (fullD S' D') = (eqS S S' && eqD D D') := by
  have e1 : ∀ z : Str, PyData.eqv (.str z) (.str z) = true := fun z => by simp [PyData.eqv]
  have e2 : ∀ z : Bool, PyData.eqv (.bool z) (.bool z) = true := fun z => by simp [PyData.eqv]
  have e3 : ∀ z : Int, PyData.eqv (.int z) (.int z) = true := fun z => by simp [PyData.eqv]
  have e4 : PyData.eqv (.list (D.map dutyD)) (.list (D'.map dutyD)) = eqD D D' := by simp only [PyData.eqv]; rfl
  unfold fullD flatD eqS pairsD
  rw [PyData.eqv, PyData.eqv]
  simp only [List.cons_append, List.nil_append, PyData.eqvAll]
  rw [e4]
  generalize eqD D D' = x
  simp only [PyData.eqv, PyData.eqvAll]
  simp [Bool.and_assoc]
theorem eqS_refl {S : Sett} (h : SettOk S) : eqS S S = true := SeqAt.eqv_refl _ (SeqAt.canLay_of_shaped (pairs_shaped' h))
/-! ### a turn -/
theorem nf_own {K : PySem.W.Frag} {C : Addr} : PySem.W.notFirst K C (.ref C) = true := by unfold PySem.W.notFirst; simp
theorem nf_kit {K : PySem.W.Frag} {C : Addr} {t : Value} (h : PySem.W.kitOne K t (.ref C) = some false) : PySem.W.notFirst K C t = true := by
  unfold PySem.W.kitOne at h
  split at h
  · cases h
  · unfold PySem.W.kitCls at h
    simp only at h
    split at h
    · unfold PySem.W.notFirst
      simp [h]
    · cases h
def firstS : Sett := ⟨"none", false, 0, false, true, "first", 16, 16⟩
theorem first_ok : SettOk firstS := by unfold SettOk firstS; decide +kernel
structure Tn (K : PySem.W.Frag) (l1 lt lo s1 s2 : Addr) (S S' : Sett) (D D' : Option (List (List Str))) (b1 b2 : Addr) (H : Hp) : Prop where
  F : ArgsAt K H l1 firstS none
  A1 : ArgsAt K H lt S D
  A2 : ArgsAt K H lo S' D'
  S1 : SetAt K H s1 S b1
  B1 : BookAt K H b1 (duesOf D)
  S2 : SetAt K H s2 S' b2
  B2 : BookAt K H b2 (duesOf D')
  ok1 : SettOk S
  ok2 : SettOk S'
  od1 : DsOk D
  od2 : DsOk D'
theorem Tn.same {K : PySem.W.Frag} {l1 lt lo s1 s2 : Addr} {S S' : Sett} {D D' : Option (List (List Str))} {b1 b2 : Addr} {H H' : Hp} (c : Tn K l1 lt lo s1 s2 S S' D D' b1 b2 H) (s : Same H H') : Tn K l1 lt lo s1 s2 S S' D D' b1 b2 H' :=
  ⟨c.F.same s, c.A1.same s, c.A2.same s, c.S1.same s, c.B1.same s, c.S2.same s, c.B2.same s, c.ok1, c.ok2, c.od1, c.od2⟩
section
variable {K : PySem.W.Frag} {mg : Str → Option Value} {l1 lt lo s1 s2 b1 b2 a b : Addr} {S S' : Sett} {D D' : Option (List (List Str))} {H : Hp} {Dn : Ends} {v2 v4 v9 : Option V}
theorem turn4 (T : Top K mg) (c : Tn K l1 lt lo s1 s2 S S' D D' b1 b2 H) (k : ∀ H', Same H H' → Dn.nx [some (.ref a), some (.ref l1), v2, some (.ref b), v4, some (.ref lt), some (.ref lo), some (.ref s1), some (.ref s2), v9] H') : t_law_4b_2b_4 K Dn [some (.ref a), some (.ref l1), v2, some (.ref b), v4, some (.ref lt), some (.ref lo), some (.ref s1), some (.ref s2), v9] H := by
  unfold t_law_4b_2b_4
  simp only [tSeq, tAsg, tIfS, tRet, tRetN, tDrop, tNext, tPar, tPar3, gName, gSub, gTup, gCons, gNil, zV, tC, tOp, tUn, tCons, tNil, tLst, tTup, tIf, tAnd, tOr, tNot, tYes, zB, zAnd, zOr, zNot, zChain, tDNewK, yAdd, ySub, yMul, yDiv, yMod, yPow, yNeg, yLt, yLe, yGt, yGe, yEq, yNe, yIs0, yNotIs0, yIx, ySet, yIn, sqAt, isNone, zFld, zSetF, insAt, zMeth, zProp, tCall, tMake, tCB, yLen, yAbs, yMax2, yMin2, yList, yTuple, yDict0, zLM, yApp, isLst, dkAt, keyOf, zGet1, zGet2, zPop1, zPop2, zForR1, zForR2, zForL, zForT, Z.intAt, refAt, zLc, iR1, iR2, iL, iT, wipe, List.getElem?_cons_zero, List.getElem?_cons_succ, List.set_cons_zero, List.set_cons_succ, List.cons_append, List.nil_append, List.append_nil, upd_same, at0, at1, at2, ix0, ix1, ix2, upd_upd, ite_true, ite_false, if_true, if_false, Bool.false_eq_true, decide_true, decide_false, reduceIte, true_and, and_true, Option.isSome_none, Option.isSome_some, Bool.not_false, Bool.not_true, zTupA, zLstA, yAddA, yMulA, sliceA, zS2A, zSAA, zSBA, yListA, yTupleA, zForE, yNeO, yReprB, tMakeN, zSlA, zSlB, wOnly, tCallN, zForR3, zMatch, zCase, zMethS, zRaiseO, yPopAt, zSl2, yIsiT, tysAt, zBInit, zOst, tXf, wAs, tMkO, zFmt, zJs, zJoin, yStr1, gLst, zCM, zListR1, zListR2, zLenR1, iR3, yInt1, yEqO, yAndO, yInO, yLenO, yReprO, isBl, Z.strAt, yEq0, yNe0, GF.zForG, GF.zLcG, GF.zListG, yIsi, tyAt, clsAt, ki_int_int, ki_bool_int, ki_none_int, ki_str_int, ki_list_int, ki_tuple_int, ki_int_bool, ki_bool_bool, ki_none_bool, ki_str_bool, ki_list_bool, ki_tuple_bool, zMakeV, tRz, zNever]
  refine ⟨s1, b1, lt, S, D, rfl, c.S1, c.B1, c.A1, c.ok1, c.od1, fun H1 h1 => ?_⟩
  simp only [tSeq, tAsg, tIfS, tRet, tRetN, tDrop, tNext, tPar, tPar3, gName, gSub, gTup, gCons, gNil, zV, tC, tOp, tUn, tCons, tNil, tLst, tTup, tIf, tAnd, tOr, tNot, tYes, zB, zAnd, zOr, zNot, zChain, tDNewK, yAdd, ySub, yMul, yDiv, yMod, yPow, yNeg, yLt, yLe, yGt, yGe, yEq, yNe, yIs0, yNotIs0, yIx, ySet, yIn, sqAt, isNone, zFld, zSetF, insAt, zMeth, zProp, tCall, tMake, tCB, yLen, yAbs, yMax2, yMin2, yList, yTuple, yDict0, zLM, yApp, isLst, dkAt, keyOf, zGet1, zGet2, zPop1, zPop2, zForR1, zForR2, zForL, zForT, Z.intAt, refAt, zLc, iR1, iR2, iL, iT, wipe, List.getElem?_cons_zero, List.getElem?_cons_succ, List.set_cons_zero, List.set_cons_succ, List.cons_append, List.nil_append, List.append_nil, upd_same, at0, at1, at2, ix0, ix1, ix2, upd_upd, ite_true, ite_false, if_true, if_false, Bool.false_eq_true, decide_true, decide_false, reduceIte, true_and, and_true, Option.isSome_none, Option.isSome_some, Bool.not_false, Bool.not_true, zTupA, zLstA, yAddA, yMulA, sliceA, zS2A, zSAA, zSBA, yListA, yTupleA, zForE, yNeO, yReprB, tMakeN, zSlA, zSlB, wOnly, tCallN, zForR3, zMatch, zCase, zMethS, zRaiseO, yPopAt, zSl2, yIsiT, tysAt, zBInit, zOst, tXf, wAs, tMkO, zFmt, zJs, zJoin, yStr1, gLst, zCM, zListR1, zListR2, zLenR1, iR3, yInt1, yEqO, yAndO, yInO, yLenO, yReprO, isBl, Z.strAt, yEq0, yNe0, GF.zForG, GF.zLcG, GF.zListG, yIsi, tyAt, clsAt, ki_int_int, ki_bool_int, ki_none_int, ki_str_int, ki_list_int, ki_tuple_int, ki_int_bool, ki_bool_bool, ki_none_bool, ki_str_bool, ki_list_bool, ki_tuple_bool, zMakeV, tRz, zNever]
  have c1 := c.same h1
  refine ⟨s2, b2, lo, S', D', rfl, c1.S2, c1.B2, c1.A2, c1.ok2, c1.od2, fun H2 h2 => ?_⟩
  simp only [tSeq, tAsg, tIfS, tRet, tRetN, tDrop, tNext, tPar, tPar3, gName, gSub, gTup, gCons, gNil, zV, tC, tOp, tUn, tCons, tNil, tLst, tTup, tIf, tAnd, tOr, tNot, tYes, zB, zAnd, zOr, zNot, zChain, tDNewK, yAdd, ySub, yMul, yDiv, yMod, yPow, yNeg, yLt, yLe, yGt, yGe, yEq, yNe, yIs0, yNotIs0, yIx, ySet, yIn, sqAt, isNone, zFld, zSetF, insAt, zMeth, zProp, tCall, tMake, tCB, yLen, yAbs, yMax2, yMin2, yList, yTuple, yDict0, zLM, yApp, isLst, dkAt, keyOf, zGet1, zGet2, zPop1, zPop2, zForR1, zForR2, zForL, zForT, Z.intAt, refAt, zLc, iR1, iR2, iL, iT, wipe, List.getElem?_cons_zero, List.getElem?_cons_succ, List.set_cons_zero, List.set_cons_succ, List.cons_append, List.nil_append, List.append_nil, upd_same, at0, at1, at2, ix0, ix1, ix2, upd_upd, ite_true, ite_false, if_true, if_false, Bool.false_eq_true, decide_true, decide_false, reduceIte, true_and, and_true, Option.isSome_none, Option.isSome_some, Bool.not_false, Bool.not_true, zTupA, zLstA, yAddA, yMulA, sliceA, zS2A, zSAA, zSBA, yListA, yTupleA, zForE, yNeO, yReprB, tMakeN, zSlA, zSlB, wOnly, tCallN, zForR3, zMatch, zCase, zMethS, zRaiseO, yPopAt, zSl2, yIsiT, tysAt, zBInit, zOst, tXf, wAs, tMkO, zFmt, zJs, zJoin, yStr1, gLst, zCM, zListR1, zListR2, zLenR1, iR3, yInt1, yEqO, yAndO, yInO, yLenO, yReprO, isBl, Z.strAt, yEq0, yNe0, GF.zForG, GF.zLcG, GF.zListG, yIsi, tyAt, clsAt, ki_int_int, ki_bool_int, ki_none_int, ki_str_int, ki_list_int, ki_tuple_int, ki_int_bool, ki_bool_bool, ki_none_bool, ki_str_bool, ki_list_bool, ki_tuple_bool, zMakeV, tRz, zNever]
  have c2 := c1.same h2
  refine ⟨lt, S, D, rfl, c2.A1, fun l3 H3 h3 A3 => ⟨l3, S, some (duesOf D), rfl, A3, c.ok1, fun D' e => by cases e; exact dsok_dues c.od1, fun s4 b4 H4 h4 S4 B4 => ?_⟩⟩
  have c4 := c2.same (h3.trans h4)
  obtain ⟨dx1, e1, _⟩ := id c4.S1
  obtain ⟨dx4, e4, _⟩ := id S4
  simp only [tSeq, tAsg, tIfS, tRet, tRetN, tDrop, tNext, tPar, tPar3, gName, gSub, gTup, gCons, gNil, zV, tC, tOp, tUn, tCons, tNil, tLst, tTup, tIf, tAnd, tOr, tNot, tYes, zB, zAnd, zOr, zNot, zChain, tDNewK, yAdd, ySub, yMul, yDiv, yMod, yPow, yNeg, yLt, yLe, yGt, yGe, yEq, yNe, yIs0, yNotIs0, yIx, ySet, yIn, sqAt, isNone, zFld, zSetF, insAt, zMeth, zProp, tCall, tMake, tCB, yLen, yAbs, yMax2, yMin2, yList, yTuple, yDict0, zLM, yApp, isLst, dkAt, keyOf, zGet1, zGet2, zPop1, zPop2, zForR1, zForR2, zForL, zForT, Z.intAt, refAt, zLc, iR1, iR2, iL, iT, wipe, List.getElem?_cons_zero, List.getElem?_cons_succ, List.set_cons_zero, List.set_cons_succ, List.cons_append, List.nil_append, List.append_nil, upd_same, at0, at1, at2, ix0, ix1, ix2, upd_upd, ite_true, ite_false, if_true, if_false, Bool.false_eq_true, decide_true, decide_false, reduceIte, true_and, and_true, Option.isSome_none, Option.isSome_some, Bool.not_false, Bool.not_true, zTupA, zLstA, yAddA, yMulA, sliceA, zS2A, zSAA, zSBA, yListA, yTupleA, zForE, yNeO, yReprB, tMakeN, zSlA, zSlB, wOnly, tCallN, zForR3, zMatch, zCase, zMethS, zRaiseO, yPopAt, zSl2, yIsiT, tysAt, zBInit, zOst, tXf, wAs, tMkO, zFmt, zJs, zJoin, yStr1, gLst, zCM, zListR1, zListR2, zLenR1, iR3, yInt1, yEqO, yAndO, yInO, yLenO, yReprO, isBl, Z.strAt, yEq0, yNe0, GF.zForG, GF.zLcG, GF.zListG, yIsi, tyAt, clsAt, ki_int_int, ki_bool_int, ki_none_int, ki_str_int, ki_list_int, ki_tuple_int, ki_int_bool, ki_bool_bool, ki_none_bool, ki_str_bool, ki_list_bool, ki_tuple_bool, zMakeV, tRz, zNever, e1, e4]
  refine ⟨T.i_Setting, nf_own, s1, b1, S, _, .ref s4, rfl, c4.S1, c4.B1, .inl ⟨s4, b4, S, _, rfl, S4, B4, fun H5 h5 => ?_⟩⟩
  show isBl _ (.bl (eqS S S && eqD (duesOf D) (duesOf D))) H5
  rw [eqS_refl c.ok1, eqD_refl (dsok_dues c.od1)]
  simp only [tSeq, tAsg, tIfS, tRet, tRetN, tDrop, tNext, tPar, tPar3, gName, gSub, gTup, gCons, gNil, zV, tC, tOp, tUn, tCons, tNil, tLst, tTup, tIf, tAnd, tOr, tNot, tYes, zB, zAnd, zOr, zNot, zChain, tDNewK, yAdd, ySub, yMul, yDiv, yMod, yPow, yNeg, yLt, yLe, yGt, yGe, yEq, yNe, yIs0, yNotIs0, yIx, ySet, yIn, sqAt, isNone, zFld, zSetF, insAt, zMeth, zProp, tCall, tMake, tCB, yLen, yAbs, yMax2, yMin2, yList, yTuple, yDict0, zLM, yApp, isLst, dkAt, keyOf, zGet1, zGet2, zPop1, zPop2, zForR1, zForR2, zForL, zForT, Z.intAt, refAt, zLc, iR1, iR2, iL, iT, wipe, List.getElem?_cons_zero, List.getElem?_cons_succ, List.set_cons_zero, List.set_cons_succ, List.cons_append, List.nil_append, List.append_nil, upd_same, at0, at1, at2, ix0, ix1, ix2, upd_upd, ite_true, ite_false, if_true, if_false, Bool.false_eq_true, decide_true, decide_false, reduceIte, true_and, and_true, Option.isSome_none, Option.isSome_some, Bool.not_false, Bool.not_true, zTupA, zLstA, yAddA, yMulA, sliceA, zS2A, zSAA, zSBA, yListA, yTupleA, zForE, yNeO, yReprB, tMakeN, zSlA, zSlB, wOnly, tCallN, zForR3, zMatch, zCase, zMethS, zRaiseO, yPopAt, zSl2, yIsiT, tysAt, zBInit, zOst, tXf, wAs, tMkO, zFmt, zJs, zJoin, yStr1, gLst, zCM, zListR1, zListR2, zLenR1, iR3, yInt1, yEqO, yAndO, yInO, yLenO, yReprO, isBl, Z.strAt, yEq0, yNe0, GF.zForG, GF.zLcG, GF.zListG, yIsi, tyAt, clsAt, ki_int_int, ki_bool_int, ki_none_int, ki_str_int, ki_list_int, ki_tuple_int, ki_int_bool, ki_bool_bool, ki_none_bool, ki_str_bool, ki_list_bool, ki_tuple_bool, zMakeV, tRz, zNever]
  exact k H5 ((((h1.trans h2).trans h3).trans h4).trans h5)
theorem turn5 (T : Top K mg) (c : Tn K l1 lt lo s1 s2 S S' D D' b1 b2 H) (k : ∀ H', Same H H' → Dn.nx [some (.ref a), some (.ref l1), v2, some (.ref b), v4, some (.ref lt), some (.ref lo), some (.ref s1), some (.ref s2), v9] H') : t_law_4b_2b_5 K Dn [some (.ref a), some (.ref l1), v2, some (.ref b), v4, some (.ref lt), some (.ref lo), some (.ref s1), some (.ref s2), v9] H := by
  unfold t_law_4b_2b_5
  obtain ⟨dx1, e1, _⟩ := id c.S1
  obtain ⟨dx2, e2, _⟩ := id c.S2
  simp only [tSeq, tAsg, tIfS, tRet, tRetN, tDrop, tNext, tPar, tPar3, gName, gSub, gTup, gCons, gNil, zV, tC, tOp, tUn, tCons, tNil, tLst, tTup, tIf, tAnd, tOr, tNot, tYes, zB, zAnd, zOr, zNot, zChain, tDNewK, yAdd, ySub, yMul, yDiv, yMod, yPow, yNeg, yLt, yLe, yGt, yGe, yEq, yNe, yIs0, yNotIs0, yIx, ySet, yIn, sqAt, isNone, zFld, zSetF, insAt, zMeth, zProp, tCall, tMake, tCB, yLen, yAbs, yMax2, yMin2, yList, yTuple, yDict0, zLM, yApp, isLst, dkAt, keyOf, zGet1, zGet2, zPop1, zPop2, zForR1, zForR2, zForL, zForT, Z.intAt, refAt, zLc, iR1, iR2, iL, iT, wipe, List.getElem?_cons_zero, List.getElem?_cons_succ, List.set_cons_zero, List.set_cons_succ, List.cons_append, List.nil_append, List.append_nil, upd_same, at0, at1, at2, ix0, ix1, ix2, upd_upd, ite_true, ite_false, if_true, if_false, Bool.false_eq_true, decide_true, decide_false, reduceIte, true_and, and_true, Option.isSome_none, Option.isSome_some, Bool.not_false, Bool.not_true, zTupA, zLstA, yAddA, yMulA, sliceA, zS2A, zSAA, zSBA, yListA, yTupleA, zForE, yNeO, yReprB, tMakeN, zSlA, zSlB, wOnly, tCallN, zForR3, zMatch, zCase, zMethS, zRaiseO, yPopAt, zSl2, yIsiT, tysAt, zBInit, zOst, tXf, wAs, tMkO, zFmt, zJs, zJoin, yStr1, gLst, zCM, zListR1, zListR2, zLenR1, iR3, yInt1, yEqO, yAndO, yInO, yLenO, yReprO, isBl, Z.strAt, yEq0, yNe0, GF.zForG, GF.zLcG, GF.zListG, yIsi, tyAt, clsAt, ki_int_int, ki_bool_int, ki_none_int, ki_str_int, ki_list_int, ki_tuple_int, ki_int_bool, ki_bool_bool, ki_none_bool, ki_str_bool, ki_list_bool, ki_tuple_bool, zMakeV, tRz, zNever, e1, e2]
  refine ⟨T.i_Setting, nf_own, s1, b1, S, _, .ref s2, rfl, c.S1, c.B1, .inl ⟨s2, b2, S', _, rfl, c.S2, c.B2, fun H1 h1 => ?_⟩⟩
  have c1 := c.same h1
  simp only [tSeq, tAsg, tIfS, tRet, tRetN, tDrop, tNext, tPar, tPar3, gName, gSub, gTup, gCons, gNil, zV, tC, tOp, tUn, tCons, tNil, tLst, tTup, tIf, tAnd, tOr, tNot, tYes, zB, zAnd, zOr, zNot, zChain, tDNewK, yAdd, ySub, yMul, yDiv, yMod, yPow, yNeg, yLt, yLe, yGt, yGe, yEq, yNe, yIs0, yNotIs0, yIx, ySet, yIn, sqAt, isNone, zFld, zSetF, insAt, zMeth, zProp, tCall, tMake, tCB, yLen, yAbs, yMax2, yMin2, yList, yTuple, yDict0, zLM, yApp, isLst, dkAt, keyOf, zGet1, zGet2, zPop1, zPop2, zForR1, zForR2, zForL, zForT, Z.intAt, refAt, zLc, iR1, iR2, iL, iT, wipe, List.getElem?_cons_zero, List.getElem?_cons_succ, List.set_cons_zero, List.set_cons_succ, List.cons_append, List.nil_append, List.append_nil, upd_same, at0, at1, at2, ix0, ix1, ix2, upd_upd, ite_true, ite_false, if_true, if_false, Bool.false_eq_true, decide_true, decide_false, reduceIte, true_and, and_true, Option.isSome_none, Option.isSome_some, Bool.not_false, Bool.not_true, zTupA, zLstA, yAddA, yMulA, sliceA, zS2A, zSAA, zSBA, yListA, yTupleA, zForE, yNeO, yReprB, tMakeN, zSlA, zSlB, wOnly, tCallN, zForR3, zMatch, zCase, zMethS, zRaiseO, yPopAt, zSl2, yIsiT, tysAt, zBInit, zOst, tXf, wAs, tMkO, zFmt, zJs, zJoin, yStr1, gLst, zCM, zListR1, zListR2, zLenR1, iR3, yInt1, yEqO, yAndO, yInO, yLenO, yReprO, isBl, Z.strAt, yEq0, yNe0, GF.zForG, GF.zLcG, GF.zListG, yIsi, tyAt, clsAt, ki_int_int, ki_bool_int, ki_none_int, ki_str_int, ki_list_int, ki_tuple_int, ki_int_bool, ki_bool_bool, ki_none_bool, ki_str_bool, ki_list_bool, ki_tuple_bool, zMakeV, tRz, zNever]
  refine ⟨lt, S, D, rfl, c1.A1, fun l2 H2 h2 A2 => ⟨lo, S', D', rfl, (c1.same h2).A2, fun l3 H3 h3 A3 => ?_⟩⟩
  simp only [tSeq, tAsg, tIfS, tRet, tRetN, tDrop, tNext, tPar, tPar3, gName, gSub, gTup, gCons, gNil, zV, tC, tOp, tUn, tCons, tNil, tLst, tTup, tIf, tAnd, tOr, tNot, tYes, zB, zAnd, zOr, zNot, zChain, tDNewK, yAdd, ySub, yMul, yDiv, yMod, yPow, yNeg, yLt, yLe, yGt, yGe, yEq, yNe, yIs0, yNotIs0, yIx, ySet, yIn, sqAt, isNone, zFld, zSetF, insAt, zMeth, zProp, tCall, tMake, tCB, yLen, yAbs, yMax2, yMin2, yList, yTuple, yDict0, zLM, yApp, isLst, dkAt, keyOf, zGet1, zGet2, zPop1, zPop2, zForR1, zForR2, zForL, zForT, Z.intAt, refAt, zLc, iR1, iR2, iL, iT, wipe, List.getElem?_cons_zero, List.getElem?_cons_succ, List.set_cons_zero, List.set_cons_succ, List.cons_append, List.nil_append, List.append_nil, upd_same, at0, at1, at2, ix0, ix1, ix2, upd_upd, ite_true, ite_false, if_true, if_false, Bool.false_eq_true, decide_true, decide_false, reduceIte, true_and, and_true, Option.isSome_none, Option.isSome_some, Bool.not_false, Bool.not_true, zTupA, zLstA, yAddA, yMulA, sliceA, zS2A, zSAA, zSBA, yListA, yTupleA, zForE, yNeO, yReprB, tMakeN, zSlA, zSlB, wOnly, tCallN, zForR3, zMatch, zCase, zMethS, zRaiseO, yPopAt, zSl2, yIsiT, tysAt, zBInit, zOst, tXf, wAs, tMkO, zFmt, zJs, zJoin, yStr1, gLst, zCM, zListR1, zListR2, zLenR1, iR3, yInt1, yEqO, yAndO, yInO, yLenO, yReprO, isBl, Z.strAt, yEq0, yNe0, GF.zForG, GF.zLcG, GF.zListG, yIsi, tyAt, clsAt, ki_int_int, ki_bool_int, ki_none_int, ki_str_int, ki_list_int, ki_tuple_int, ki_int_bool, ki_bool_bool, ki_none_bool, ki_str_bool, ki_list_bool, ki_tuple_bool, zMakeV, tRz, zNever]
  refine ⟨_, _, full_dp (A2.same h3), full_dp A3, full_shaped c.ok1 (dsok_dues c.od1), full_shaped c.ok2 (dsok_dues c.od2), ?_⟩
  rw [full_eq]
  simp only [tSeq, tAsg, tIfS, tRet, tRetN, tDrop, tNext, tPar, tPar3, gName, gSub, gTup, gCons, gNil, zV, tC, tOp, tUn, tCons, tNil, tLst, tTup, tIf, tAnd, tOr, tNot, tYes, zB, zAnd, zOr, zNot, zChain, tDNewK, yAdd, ySub, yMul, yDiv, yMod, yPow, yNeg, yLt, yLe, yGt, yGe, yEq, yNe, yIs0, yNotIs0, yIx, ySet, yIn, sqAt, isNone, zFld, zSetF, insAt, zMeth, zProp, tCall, tMake, tCB, yLen, yAbs, yMax2, yMin2, yList, yTuple, yDict0, zLM, yApp, isLst, dkAt, keyOf, zGet1, zGet2, zPop1, zPop2, zForR1, zForR2, zForL, zForT, Z.intAt, refAt, zLc, iR1, iR2, iL, iT, wipe, List.getElem?_cons_zero, List.getElem?_cons_succ, List.set_cons_zero, List.set_cons_succ, List.cons_append, List.nil_append, List.append_nil, upd_same, at0, at1, at2, ix0, ix1, ix2, upd_upd, ite_true, ite_false, if_true, if_false, Bool.false_eq_true, decide_true, decide_false, reduceIte, true_and, and_true, Option.isSome_none, Option.isSome_some, Bool.not_false, Bool.not_true, zTupA, zLstA, yAddA, yMulA, sliceA, zS2A, zSAA, zSBA, yListA, yTupleA, zForE, yNeO, yReprB, tMakeN, zSlA, zSlB, wOnly, tCallN, zForR3, zMatch, zCase, zMethS, zRaiseO, yPopAt, zSl2, yIsiT, tysAt, zBInit, zOst, tXf, wAs, tMkO, zFmt, zJs, zJoin, yStr1, gLst, zCM, zListR1, zListR2, zLenR1, iR3, yInt1, yEqO, yAndO, yInO, yLenO, yReprO, isBl, Z.strAt, yEq0, yNe0, GF.zForG, GF.zLcG, GF.zListG, yIsi, tyAt, clsAt, ki_int_int, ki_bool_int, ki_none_int, ki_str_int, ki_list_int, ki_tuple_int, ki_int_bool, ki_bool_bool, ki_none_bool, ki_str_bool, ki_list_bool, ki_tuple_bool, zMakeV, tRz, zNever]
  exact k H3 ((h1.trans h2).trans h3)
theorem turn6 (T : Top K mg) (c : Tn K l1 lt lo s1 s2 S S' D D' b1 b2 H) (k : ∀ H', Same H H' → Dn.nx [some (.ref a), some (.ref l1), v2, some (.ref b), v4, some (.ref lt), some (.ref lo), some (.ref s1), some (.ref s2), v9] H') : t_law_4b_2b_6 K Dn [some (.ref a), some (.ref l1), v2, some (.ref b), v4, some (.ref lt), some (.ref lo), some (.ref s1), some (.ref s2), v9] H := by
  unfold t_law_4b_2b_6
  obtain ⟨dx1, e1, _⟩ := id c.S1
  obtain ⟨dx2, e2, _⟩ := id c.S2
  obtain ⟨dy1, f1, g1⟩ := c.B1.ins
  obtain ⟨dy2, f2, g2⟩ := c.B2.ins
  simp only [tSeq, tAsg, tIfS, tRet, tRetN, tDrop, tNext, tPar, tPar3, gName, gSub, gTup, gCons, gNil, zV, tC, tOp, tUn, tCons, tNil, tLst, tTup, tIf, tAnd, tOr, tNot, tYes, zB, zAnd, zOr, zNot, zChain, tDNewK, yAdd, ySub, yMul, yDiv, yMod, yPow, yNeg, yLt, yLe, yGt, yGe, yEq, yNe, yIs0, yNotIs0, yIx, ySet, yIn, sqAt, isNone, zFld, zSetF, insAt, zMeth, zProp, tCall, tMake, tCB, yLen, yAbs, yMax2, yMin2, yList, yTuple, yDict0, zLM, yApp, isLst, dkAt, keyOf, zGet1, zGet2, zPop1, zPop2, zForR1, zForR2, zForL, zForT, Z.intAt, refAt, zLc, iR1, iR2, iL, iT, wipe, List.getElem?_cons_zero, List.getElem?_cons_succ, List.set_cons_zero, List.set_cons_succ, List.cons_append, List.nil_append, List.append_nil, upd_same, at0, at1, at2, ix0, ix1, ix2, upd_upd, ite_true, ite_false, if_true, if_false, Bool.false_eq_true, decide_true, decide_false, reduceIte, true_and, and_true, Option.isSome_none, Option.isSome_some, Bool.not_false, Bool.not_true, zTupA, zLstA, yAddA, yMulA, sliceA, zS2A, zSAA, zSBA, yListA, yTupleA, zForE, yNeO, yReprB, tMakeN, zSlA, zSlB, wOnly, tCallN, zForR3, zMatch, zCase, zMethS, zRaiseO, yPopAt, zSl2, yIsiT, tysAt, zBInit, zOst, tXf, wAs, tMkO, zFmt, zJs, zJoin, yStr1, gLst, zCM, zListR1, zListR2, zLenR1, iR3, yInt1, yEqO, yAndO, yInO, yLenO, yReprO, isBl, Z.strAt, yEq0, yNe0, GF.zForG, GF.zLcG, GF.zListG, yIsi, tyAt, clsAt, ki_int_int, ki_bool_int, ki_none_int, ki_str_int, ki_list_int, ki_tuple_int, ki_int_bool, ki_bool_bool, ki_none_bool, ki_str_bool, ki_list_bool, ki_tuple_bool, zMakeV, tRz, zNever, e1, e2, lk_Setting_book, g1, g2]
  refine ⟨⟨T.cl_Setting, T.na_Setting_book⟩, ⟨T.cl_Setting, T.na_Setting_book⟩, T.i_Book, nf_own, b1, _, .ref b2, rfl, c.B1, .inl ⟨b2, _, rfl, c.B2, fun H1 h1 => ?_⟩⟩
  have c1 := c.same h1
  simp only [tSeq, tAsg, tIfS, tRet, tRetN, tDrop, tNext, tPar, tPar3, gName, gSub, gTup, gCons, gNil, zV, tC, tOp, tUn, tCons, tNil, tLst, tTup, tIf, tAnd, tOr, tNot, tYes, zB, zAnd, zOr, zNot, zChain, tDNewK, yAdd, ySub, yMul, yDiv, yMod, yPow, yNeg, yLt, yLe, yGt, yGe, yEq, yNe, yIs0, yNotIs0, yIx, ySet, yIn, sqAt, isNone, zFld, zSetF, insAt, zMeth, zProp, tCall, tMake, tCB, yLen, yAbs, yMax2, yMin2, yList, yTuple, yDict0, zLM, yApp, isLst, dkAt, keyOf, zGet1, zGet2, zPop1, zPop2, zForR1, zForR2, zForL, zForT, Z.intAt, refAt, zLc, iR1, iR2, iL, iT, wipe, List.getElem?_cons_zero, List.getElem?_cons_succ, List.set_cons_zero, List.set_cons_succ, List.cons_append, List.nil_append, List.append_nil, upd_same, at0, at1, at2, ix0, ix1, ix2, upd_upd, ite_true, ite_false, if_true, if_false, Bool.false_eq_true, decide_true, decide_false, reduceIte, true_and, and_true, Option.isSome_none, Option.isSome_some, Bool.not_false, Bool.not_true, zTupA, zLstA, yAddA, yMulA, sliceA, zS2A, zSAA, zSBA, yListA, yTupleA, zForE, yNeO, yReprB, tMakeN, zSlA, zSlB, wOnly, tCallN, zForR3, zMatch, zCase, zMethS, zRaiseO, yPopAt, zSl2, yIsiT, tysAt, zBInit, zOst, tXf, wAs, tMkO, zFmt, zJs, zJoin, yStr1, gLst, zCM, zListR1, zListR2, zLenR1, iR3, yInt1, yEqO, yAndO, yInO, yLenO, yReprO, isBl, Z.strAt, yEq0, yNe0, GF.zForG, GF.zLcG, GF.zListG, yIsi, tyAt, clsAt, ki_int_int, ki_bool_int, ki_none_int, ki_str_int, ki_list_int, ki_tuple_int, ki_int_bool, ki_bool_bool, ki_none_bool, ki_str_bool, ki_list_bool, ki_tuple_bool, zMakeV, tRz, zNever]
  refine ⟨lt, S, D, rfl, c1.A1, fun l2 H2 h2 A2 => ?_⟩
  obtain ⟨v9', a2, d2, u1, u2, u3, u4, u5, rfl, ad2, dp2⟩ := id A2
  have at8 : ∀ (S : Sett) (v9 : V), atI [V.str S.copies, .bl S.cached, .int S.batch, .bl S.early, .bl S.drain, .str S.policy, .int S.groups, .int S.tables, v9] 8 = some v9 := fun _ _ => rfl
  simp only [tSeq, tAsg, tIfS, tRet, tRetN, tDrop, tNext, tPar, tPar3, gName, gSub, gTup, gCons, gNil, zV, tC, tOp, tUn, tCons, tNil, tLst, tTup, tIf, tAnd, tOr, tNot, tYes, zB, zAnd, zOr, zNot, zChain, tDNewK, yAdd, ySub, yMul, yDiv, yMod, yPow, yNeg, yLt, yLe, yGt, yGe, yEq, yNe, yIs0, yNotIs0, yIx, ySet, yIn, sqAt, isNone, zFld, zSetF, insAt, zMeth, zProp, tCall, tMake, tCB, yLen, yAbs, yMax2, yMin2, yList, yTuple, yDict0, zLM, yApp, isLst, dkAt, keyOf, zGet1, zGet2, zPop1, zPop2, zForR1, zForR2, zForL, zForT, Z.intAt, refAt, zLc, iR1, iR2, iL, iT, wipe, List.getElem?_cons_zero, List.getElem?_cons_succ, List.set_cons_zero, List.set_cons_succ, List.cons_append, List.nil_append, List.append_nil, upd_same, at0, at1, at2, ix0, ix1, ix2, upd_upd, ite_true, ite_false, if_true, if_false, Bool.false_eq_true, decide_true, decide_false, reduceIte, true_and, and_true, Option.isSome_none, Option.isSome_some, Bool.not_false, Bool.not_true, zTupA, zLstA, yAddA, yMulA, sliceA, zS2A, zSAA, zSBA, yListA, yTupleA, zForE, yNeO, yReprB, tMakeN, zSlA, zSlB, wOnly, tCallN, zForR3, zMatch, zCase, zMethS, zRaiseO, yPopAt, zSl2, yIsiT, tysAt, zBInit, zOst, tXf, wAs, tMkO, zFmt, zJs, zJoin, yStr1, gLst, zCM, zListR1, zListR2, zLenR1, iR3, yInt1, yEqO, yAndO, yInO, yLenO, yReprO, isBl, Z.strAt, yEq0, yNe0, GF.zForG, GF.zLcG, GF.zListG, yIsi, tyAt, clsAt, ki_int_int, ki_bool_int, ki_none_int, ki_str_int, ki_list_int, ki_tuple_int, ki_int_bool, ki_bool_bool, ki_none_bool, ki_str_bool, ki_list_bool, ki_tuple_bool, zMakeV, tRz, zNever, a2, at8]
  refine ⟨lo, S', D', rfl, (c1.same h2).A2, fun l3 H3 h3 A3 => ?_⟩
  obtain ⟨v9', a3, d3, w1, w2, w3, w4, w5, rfl, ad3, dp3⟩ := id A3
  simp only [tSeq, tAsg, tIfS, tRet, tRetN, tDrop, tNext, tPar, tPar3, gName, gSub, gTup, gCons, gNil, zV, tC, tOp, tUn, tCons, tNil, tLst, tTup, tIf, tAnd, tOr, tNot, tYes, zB, zAnd, zOr, zNot, zChain, tDNewK, yAdd, ySub, yMul, yDiv, yMod, yPow, yNeg, yLt, yLe, yGt, yGe, yEq, yNe, yIs0, yNotIs0, yIx, ySet, yIn, sqAt, isNone, zFld, zSetF, insAt, zMeth, zProp, tCall, tMake, tCB, yLen, yAbs, yMax2, yMin2, yList, yTuple, yDict0, zLM, yApp, isLst, dkAt, keyOf, zGet1, zGet2, zPop1, zPop2, zForR1, zForR2, zForL, zForT, Z.intAt, refAt, zLc, iR1, iR2, iL, iT, wipe, List.getElem?_cons_zero, List.getElem?_cons_succ, List.set_cons_zero, List.set_cons_succ, List.cons_append, List.nil_append, List.append_nil, upd_same, at0, at1, at2, ix0, ix1, ix2, upd_upd, ite_true, ite_false, if_true, if_false, Bool.false_eq_true, decide_true, decide_false, reduceIte, true_and, and_true, Option.isSome_none, Option.isSome_some, Bool.not_false, Bool.not_true, zTupA, zLstA, yAddA, yMulA, sliceA, zS2A, zSAA, zSBA, yListA, yTupleA, zForE, yNeO, yReprB, tMakeN, zSlA, zSlB, wOnly, tCallN, zForR3, zMatch, zCase, zMethS, zRaiseO, yPopAt, zSl2, yIsiT, tysAt, zBInit, zOst, tXf, wAs, tMkO, zFmt, zJs, zJoin, yStr1, gLst, zCM, zListR1, zListR2, zLenR1, iR3, yInt1, yEqO, yAndO, yInO, yLenO, yReprO, isBl, Z.strAt, yEq0, yNe0, GF.zForG, GF.zLcG, GF.zListG, yIsi, tyAt, clsAt, ki_int_int, ki_bool_int, ki_none_int, ki_str_int, ki_list_int, ki_tuple_int, ki_int_bool, ki_bool_bool, ki_none_bool, ki_str_bool, ki_list_bool, ki_tuple_bool, zMakeV, tRz, zNever, a3, at8]
  refine ⟨_, _, Dp.lst (SqL.of (h3 _ _ ad2)) (dpAll_same' dp2 h3), Dp.lst (SqL.of ad3) dp3, (duties_shaped (dsok_dues c.od1)).2, (duties_shaped (dsok_dues c.od2)).2, ?_⟩
  have e4 : PyData.eqv (.list ((duesOf D).map dutyD)) (.list ((duesOf D').map dutyD)) = eqD (duesOf D) (duesOf D') := by simp only [PyData.eqv]; rfl
  rw [e4]
  simp only [tSeq, tAsg, tIfS, tRet, tRetN, tDrop, tNext, tPar, tPar3, gName, gSub, gTup, gCons, gNil, zV, tC, tOp, tUn, tCons, tNil, tLst, tTup, tIf, tAnd, tOr, tNot, tYes, zB, zAnd, zOr, zNot, zChain, tDNewK, yAdd, ySub, yMul, yDiv, yMod, yPow, yNeg, yLt, yLe, yGt, yGe, yEq, yNe, yIs0, yNotIs0, yIx, ySet, yIn, sqAt, isNone, zFld, zSetF, insAt, zMeth, zProp, tCall, tMake, tCB, yLen, yAbs, yMax2, yMin2, yList, yTuple, yDict0, zLM, yApp, isLst, dkAt, keyOf, zGet1, zGet2, zPop1, zPop2, zForR1, zForR2, zForL, zForT, Z.intAt, refAt, zLc, iR1, iR2, iL, iT, wipe, List.getElem?_cons_zero, List.getElem?_cons_succ, List.set_cons_zero, List.set_cons_succ, List.cons_append, List.nil_append, List.append_nil, upd_same, at0, at1, at2, ix0, ix1, ix2, upd_upd, ite_true, ite_false, if_true, if_false, Bool.false_eq_true, decide_true, decide_false, reduceIte, true_and, and_true, Option.isSome_none, Option.isSome_some, Bool.not_false, Bool.not_true, zTupA, zLstA, yAddA, yMulA, sliceA, zS2A, zSAA, zSBA, yListA, yTupleA, zForE, yNeO, yReprB, tMakeN, zSlA, zSlB, wOnly, tCallN, zForR3, zMatch, zCase, zMethS, zRaiseO, yPopAt, zSl2, yIsiT, tysAt, zBInit, zOst, tXf, wAs, tMkO, zFmt, zJs, zJoin, yStr1, gLst, zCM, zListR1, zListR2, zLenR1, iR3, yInt1, yEqO, yAndO, yInO, yLenO, yReprO, isBl, Z.strAt, yEq0, yNe0, GF.zForG, GF.zLcG, GF.zListG, yIsi, tyAt, clsAt, ki_int_int, ki_bool_int, ki_none_int, ki_str_int, ki_list_int, ki_tuple_int, ki_int_bool, ki_bool_bool, ki_none_bool, ki_str_bool, ki_list_bool, ki_tuple_bool, zMakeV, tRz, zNever]
  exact k H3 ((h1.trans h2).trans h3)
end

theorem tyAt_imp {K : PySem.W.Frag} {H : Hp} {x : V} {R R' : Value → Prop} (h : tyAt K H x R) (k : ∀ t, R t → R' t) : tyAt K H x R' := by
  unfold tyAt at h ⊢
  split at h <;> first | exact k _ h | (split at h <;> first | exact k _ h | exact ⟨h.1, k _ h.2⟩ | exact h.elim) | exact h.elim
theorem eq_no {K : PySem.W.Frag} {H : Hp} {C s dx : Addr} {fs : List (Str × V)} {sp : Sp} {y : V} {Q : VK} (hs : H s = some (.ins C dx fs)) (ty : tyAt K H y fun t => PySem.W.notFirst K C t = true) (q : sp [.ref s, y] H (isBl fun b H' => Q (.bl b) H') C8.E0) : yEqO K C sp (.ref s) y H Q := by
  unfold yEqO
  simp only [hs]
  exact ⟨trivial, tyAt_imp ty fun t h => ⟨h, q⟩⟩
section
variable {K : PySem.W.Frag} {mg : Str → Option Value} {l1 lt lo s1 s2 b1 b2 a b : Addr} {S S' : Sett} {D D' : Option (List (List Str))} {H : Hp} {Dn : Ends} {v2 v4 v9 : Option V}
theorem turn7 (T : Top K mg) (c : Tn K l1 lt lo s1 s2 S S' D D' b1 b2 H) (k : ∀ H', Same H H' → Dn.nx [some (.ref a), some (.ref l1), v2, some (.ref b), v4, some (.ref lt), some (.ref lo), some (.ref s1), some (.ref s2), v9] H') : t_law_4b_2b_7 K Dn [some (.ref a), some (.ref l1), v2, some (.ref b), v4, some (.ref lt), some (.ref lo), some (.ref s1), some (.ref s2), v9] H := by
  unfold t_law_4b_2b_7
  have szl := sizeLine_eq
  simp only [tSeq, tAsg, tIfS, tRet, tRetN, tDrop, tNext, tPar, tPar3, gName, gSub, gTup, gCons, gNil, zV, tC, tOp, tUn, tCons, tNil, tLst, tTup, tIf, tAnd, tOr, tNot, tYes, zB, zAnd, zOr, zNot, zChain, tDNewK, yAdd, ySub, yMul, yDiv, yMod, yPow, yNeg, yLt, yLe, yGt, yGe, yEq, yNe, yIs0, yNotIs0, yIx, ySet, yIn, sqAt, isNone, zFld, zSetF, insAt, zMeth, zProp, tCall, tMake, tCB, yLen, yAbs, yMax2, yMin2, yList, yTuple, yDict0, zLM, yApp, isLst, dkAt, keyOf, zGet1, zGet2, zPop1, zPop2, zForR1, zForR2, zForL, zForT, Z.intAt, refAt, zLc, iR1, iR2, iL, iT, wipe, List.getElem?_cons_zero, List.getElem?_cons_succ, List.set_cons_zero, List.set_cons_succ, List.cons_append, List.nil_append, List.append_nil, upd_same, at0, at1, at2, ix0, ix1, ix2, upd_upd, ite_true, ite_false, if_true, if_false, Bool.false_eq_true, decide_true, decide_false, reduceIte, true_and, and_true, Option.isSome_none, Option.isSome_some, Bool.not_false, Bool.not_true, zTupA, zLstA, yAddA, yMulA, sliceA, zS2A, zSAA, zSBA, yListA, yTupleA, zForE, yNeO, yReprB, tMakeN, zSlA, zSlB, wOnly, tCallN, zForR3, zMatch, zCase, zMethS, zRaiseO, yPopAt, zSl2, yIsiT, tysAt, zBInit, zOst, tXf, wAs, tMkO, zFmt, zJs, zJoin, yStr1, gLst, zCM, zListR1, zListR2, zLenR1, iR3, yInt1, yEqO, yAndO, yInO, yLenO, yReprO, isBl, Z.strAt, yEq0, yNe0, GF.zForG, GF.zLcG, GF.zListG, yIsi, tyAt, clsAt, ki_int_int, ki_bool_int, ki_none_int, ki_str_int, ki_list_int, ki_tuple_int, ki_int_bool, ki_bool_bool, ki_none_bool, ki_str_bool, ki_list_bool, ki_tuple_bool, zMakeV, tRz, zNever]
  refine ⟨by show 0 ≤ sizeLine; omega, fun p1 H1 _ h1 e1 => ⟨by show 0 ≤ sizeLine; omega, fun p2 H2 _ h2 e2 => ?_⟩⟩
  simp only [tSeq, tAsg, tIfS, tRet, tRetN, tDrop, tNext, tPar, tPar3, gName, gSub, gTup, gCons, gNil, zV, tC, tOp, tUn, tCons, tNil, tLst, tTup, tIf, tAnd, tOr, tNot, tYes, zB, zAnd, zOr, zNot, zChain, tDNewK, yAdd, ySub, yMul, yDiv, yMod, yPow, yNeg, yLt, yLe, yGt, yGe, yEq, yNe, yIs0, yNotIs0, yIx, ySet, yIn, sqAt, isNone, zFld, zSetF, insAt, zMeth, zProp, tCall, tMake, tCB, yLen, yAbs, yMax2, yMin2, yList, yTuple, yDict0, zLM, yApp, isLst, dkAt, keyOf, zGet1, zGet2, zPop1, zPop2, zForR1, zForR2, zForL, zForT, Z.intAt, refAt, zLc, iR1, iR2, iL, iT, wipe, List.getElem?_cons_zero, List.getElem?_cons_succ, List.set_cons_zero, List.set_cons_succ, List.cons_append, List.nil_append, List.append_nil, upd_same, at0, at1, at2, ix0, ix1, ix2, upd_upd, ite_true, ite_false, if_true, if_false, Bool.false_eq_true, decide_true, decide_false, reduceIte, true_and, and_true, Option.isSome_none, Option.isSome_some, Bool.not_false, Bool.not_true, zTupA, zLstA, yAddA, yMulA, sliceA, zS2A, zSAA, zSBA, yListA, yTupleA, zForE, yNeO, yReprB, tMakeN, zSlA, zSlB, wOnly, tCallN, zForR3, zMatch, zCase, zMethS, zRaiseO, yPopAt, zSl2, yIsiT, tysAt, zBInit, zOst, tXf, wAs, tMkO, zFmt, zJs, zJoin, yStr1, gLst, zCM, zListR1, zListR2, zLenR1, iR3, yInt1, yEqO, yAndO, yInO, yLenO, yReprO, isBl, Z.strAt, yEq0, yNe0, GF.zForG, GF.zLcG, GF.zListG, yIsi, tyAt, clsAt, ki_int_int, ki_bool_int, ki_none_int, ki_str_int, ki_list_int, ki_tuple_int, ki_int_bool, ki_bool_bool, ki_none_bool, ki_str_bool, ki_list_bool, ki_tuple_bool, zMakeV, tRz, zNever]
  refine ⟨rfl, rfl, mk_book (std_dp T _) std_ok fun b3 H3 _ h3 B3 => ?_⟩
  have h03 := (h1.trans h2).trans h3
  refine ⟨lt, S, D, rfl, (c.same h03).A1, fun l4 H4 h4 A4 => ⟨by show 8 ≤ sizeLine; omega, fun p5 H5 _ h5 e5 => ?_⟩⟩
  refine ⟨⟨_, SqT.of e5⟩, ?_⟩
  have h05 := (h03.trans h4).trans h5
  have c5 := c.same h05
  obtain ⟨dx1, x1, _⟩ := id c5.S1
  have y1 := ((h2.trans h3).trans (h4.trans h5)) _ _ e1
  have y2 := (h3.trans (h4.trans h5)) _ _ e2
  obtain ⟨dx3, f3, y3⟩ := (B3.same (h4.trans h5)).ins
  obtain ⟨v9', y4, _⟩ := A4.same h5
  have S1 := steady_t (K := K) e5
  have no : ∀ i, i < 8 → ∃ y, ([V.non, .bl true, .int 0, .str "", .ref p1, .ref p2, .ref b3, .ref l4] : List V).getD i .non = y ∧ ∀ H', Same H5 H' → NoSet K H' y ∧ tyAt K H' y fun t => PySem.W.notFirst K (He.ga K "Setting") t = true := by
    intro i hi
    rcases (by omega : i = 0 ∨ i = 1 ∨ i = 2 ∨ i = 3 ∨ i = 4 ∨ i = 5 ∨ i = 6 ∨ i = 7) with rfl | rfl | rfl | rfl | rfl | rfl | rfl | rfl
    · exact ⟨.non, rfl, fun H' s => ⟨.inr (.inr (.inl rfl)), T.nf_Setting_NoneType⟩⟩
    · exact ⟨.bl true, rfl, fun H' s => ⟨.inr (.inl ⟨_, rfl⟩), T.nf_Setting_bool⟩⟩
    · exact ⟨.int 0, rfl, fun H' s => ⟨.inl ⟨_, rfl⟩, T.nf_Setting_int⟩⟩
    · exact ⟨.str "", rfl, fun H' s => ⟨.inr (.inr (.inr (.inl ⟨_, rfl⟩))), T.nf_Setting_str⟩⟩
    · exact ⟨.ref p1, rfl, fun H' s => ⟨.inr (.inr (.inr (.inr (.inr (.inl ⟨_, _, rfl, s _ _ y1⟩))))), by unfold tyAt; simp only [s _ _ y1]; exact T.nf_Setting_tuple⟩⟩
    · exact ⟨.ref p2, rfl, fun H' s => ⟨.inr (.inr (.inr (.inr (.inl ⟨_, _, rfl, s _ _ y2⟩)))), by unfold tyAt; simp only [s _ _ y2]; exact T.nf_Setting_list⟩⟩
    · exact ⟨.ref b3, rfl, fun H' s => ⟨.inr (.inr (.inr (.inr (.inr (.inr ⟨_, _, _, rfl, s _ _ y3⟩))))), by unfold tyAt; simp only [s _ _ y3]; exact ⟨T.i_Book, nf_kit T.ki_Book_Setting⟩⟩⟩
    · exact ⟨.ref l4, rfl, fun H' s => ⟨.inr (.inr (.inr (.inr (.inl ⟨_, _, rfl, s _ _ y4⟩)))), by unfold tyAt; simp only [s _ _ y4]; exact T.nf_Setting_list⟩⟩
  refine comp_core S1 (fun D i H' => Same H5 H' ∧ H' D = some (.lst [])) (fun D i H' hD p => p.1) (fun D hD => ⟨Same.new hD, upd_same⟩) ?_ ?_
  · rintro Dl i H' hD hi ⟨s', hD'⟩
    obtain ⟨y, ey, nt⟩ := no i hi
    obtain ⟨ny, ty⟩ := nt H' s'
    have x1' := s' _ _ x1
    have c' := c5.same s'
    simp only [ey]
    clear no ey nt e5
    simp only [tSeq, tAsg, tIfS, tRet, tRetN, tDrop, tNext, tPar, tPar3, gName, gSub, gTup, gCons, gNil, zV, tC, tOp, tUn, tCons, tNil, tLst, tTup, tIf, tAnd, tOr, tNot, tYes, zB, zAnd, zOr, zNot, zChain, tDNewK, yAdd, ySub, yMul, yDiv, yMod, yPow, yNeg, yLt, yLe, yGt, yGe, yEq, yNe, yIs0, yNotIs0, yIx, ySet, yIn, sqAt, isNone, zFld, zSetF, insAt, zMeth, zProp, tCall, tMake, tCB, yLen, yAbs, yMax2, yMin2, yList, yTuple, yDict0, zLM, yApp, isLst, dkAt, keyOf, zGet1, zGet2, zPop1, zPop2, zForR1, zForR2, zForL, zForT, Z.intAt, refAt, zLc, iR1, iR2, iL, iT, wipe, List.getElem?_cons_zero, List.getElem?_cons_succ, List.set_cons_zero, List.set_cons_succ, List.cons_append, List.nil_append, List.append_nil, upd_same, at0, at1, at2, ix0, ix1, ix2, upd_upd, ite_true, ite_false, if_true, if_false, Bool.false_eq_true, decide_true, decide_false, reduceIte, true_and, and_true, Option.isSome_none, Option.isSome_some, Bool.not_false, Bool.not_true, zTupA, zLstA, yAddA, yMulA, sliceA, zS2A, zSAA, zSBA, yListA, yTupleA, zForE, yNeO, yReprB, tMakeN, zSlA, zSlB, wOnly, tCallN, zForR3, zMatch, zCase, zMethS, zRaiseO, yPopAt, zSl2, yIsiT, tysAt, zBInit, zOst, tXf, wAs, tMkO, zFmt, zJs, zJoin, yStr1, gLst, zCM, zListR1, zListR2, zLenR1, iR3, yInt1, yAndO, yLenO, yReprO, isBl, Z.strAt, yEq0, yNe0, GF.zForG, GF.zLcG, GF.zListG, yIsi, tyAt, clsAt, ki_int_int, ki_bool_int, ki_none_int, ki_str_int, ki_list_int, ki_tuple_int, ki_int_bool, ki_bool_bool, ki_none_bool, ki_str_bool, ki_list_bool, ki_tuple_bool, zMakeV, tRz, zNever]
    refine eq_no x1' ty ⟨s1, b1, S, _, y, rfl, c'.S1, c'.B1, .inr ⟨ny, ?_⟩⟩
    simp only [tSeq, tAsg, tIfS, tRet, tRetN, tDrop, tNext, tPar, tPar3, gName, gSub, gTup, gCons, gNil, zV, tC, tOp, tUn, tCons, tNil, tLst, tTup, tIf, tAnd, tOr, tNot, tYes, zB, zAnd, zOr, zNot, zChain, tDNewK, yAdd, ySub, yMul, yDiv, yMod, yPow, yNeg, yLt, yLe, yGt, yGe, yEq, yNe, yIs0, yNotIs0, yIx, ySet, yIn, sqAt, isNone, zFld, zSetF, insAt, zMeth, zProp, tCall, tMake, tCB, yLen, yAbs, yMax2, yMin2, yList, yTuple, yDict0, zLM, yApp, isLst, dkAt, keyOf, zGet1, zGet2, zPop1, zPop2, zForR1, zForR2, zForL, zForT, Z.intAt, refAt, zLc, iR1, iR2, iL, iT, wipe, List.getElem?_cons_zero, List.getElem?_cons_succ, List.set_cons_zero, List.set_cons_succ, List.cons_append, List.nil_append, List.append_nil, upd_same, at0, at1, at2, ix0, ix1, ix2, upd_upd, ite_true, ite_false, if_true, if_false, Bool.false_eq_true, decide_true, decide_false, reduceIte, true_and, and_true, Option.isSome_none, Option.isSome_some, Bool.not_false, Bool.not_true, zTupA, zLstA, yAddA, yMulA, sliceA, zS2A, zSAA, zSBA, yListA, yTupleA, zForE, yNeO, yReprB, tMakeN, zSlA, zSlB, wOnly, tCallN, zForR3, zMatch, zCase, zMethS, zRaiseO, yPopAt, zSl2, yIsiT, tysAt, zBInit, zOst, tXf, wAs, tMkO, zFmt, zJs, zJoin, yStr1, gLst, zCM, zListR1, zListR2, zLenR1, iR3, yInt1, yAndO, yLenO, yReprO, isBl, Z.strAt, yEq0, yNe0, GF.zForG, GF.zLcG, GF.zListG, yIsi, tyAt, clsAt, ki_int_int, ki_bool_int, ki_none_int, ki_str_int, ki_list_int, ki_tuple_int, ki_int_bool, ki_bool_bool, ki_none_bool, ki_str_bool, ki_list_bool, ki_tuple_bool, zMakeV, tRz, zNever]
    exact ⟨s', hD'⟩
  · rintro Dl H' hD ⟨s', hD'⟩
    refine ⟨by show 0 ≤ sizeLine; omega, fun q6 H6 _ s6 e6 => ?_⟩
    simp only [tSeq, tAsg, tIfS, tRet, tRetN, tDrop, tNext, tPar, tPar3, gName, gSub, gTup, gCons, gNil, zV, tC, tOp, tUn, tCons, tNil, tLst, tTup, tIf, tAnd, tOr, tNot, tYes, zB, zAnd, zOr, zNot, zChain, tDNewK, yAdd, ySub, yMul, yDiv, yMod, yPow, yNeg, yLt, yLe, yGt, yGe, yEq, yNe, yIs0, yNotIs0, yIx, ySet, yIn, sqAt, isNone, zFld, zSetF, insAt, zMeth, zProp, tCall, tMake, tCB, yLen, yAbs, yMax2, yMin2, yList, yTuple, yDict0, zLM, yApp, isLst, dkAt, keyOf, zGet1, zGet2, zPop1, zPop2, zForR1, zForR2, zForL, zForT, Z.intAt, refAt, zLc, iR1, iR2, iL, iT, wipe, List.getElem?_cons_zero, List.getElem?_cons_succ, List.set_cons_zero, List.set_cons_succ, List.cons_append, List.nil_append, List.append_nil, upd_same, at0, at1, at2, ix0, ix1, ix2, upd_upd, ite_true, ite_false, if_true, if_false, Bool.false_eq_true, decide_true, decide_false, reduceIte, true_and, and_true, Option.isSome_none, Option.isSome_some, Bool.not_false, Bool.not_true, zTupA, zLstA, yAddA, yMulA, sliceA, zS2A, zSAA, zSBA, yListA, yTupleA, zForE, yNeO, yReprB, tMakeN, zSlA, zSlB, wOnly, tCallN, zForR3, zMatch, zCase, zMethS, zRaiseO, yPopAt, zSl2, yIsiT, tysAt, zBInit, zOst, tXf, wAs, tMkO, zFmt, zJs, zJoin, yStr1, gLst, zCM, zListR1, zListR2, zLenR1, iR3, yInt1, yEqO, yAndO, yInO, yLenO, yReprO, isBl, Z.strAt, yEq0, yNe0, GF.zForG, GF.zLcG, GF.zListG, yIsi, tyAt, clsAt, ki_int_int, ki_bool_int, ki_none_int, ki_str_int, ki_list_int, ki_tuple_int, ki_int_bool, ki_bool_bool, ki_none_bool, ki_str_bool, ki_list_bool, ki_tuple_bool, zMakeV, tRz, zNever, s6 _ _ hD', e6]
    exact ⟨.inl trivial, k H6 (h05.trans (s'.trans s6))⟩
end
section
variable {K : PySem.W.Frag} {mg : Str → Option Value} {l1 lt lo s1 s2 b1 b2 a b : Addr} {S S' : Sett} {D D' : Option (List (List Str))} {H : Hp} {Dn : Ends} {v2 v4 v9 : Option V}
theorem at8' : ∀ (S : Sett) (v9 : V), atI [V.str S.copies, .bl S.cached, .int S.batch, .bl S.early, .bl S.drain, .str S.policy, .int S.groups, .int S.tables, v9] 8 = some v9 := fun _ _ => rfl
theorem turn8 (T : Top K mg) (c : Tn K l1 lt lo s1 s2 S S' D D' b1 b2 H) (k : ∀ H', Same H H' → Dn.nx [some (.ref a), some (.ref l1), v2, some (.ref b), v4, some (.ref lt), some (.ref lo), some (.ref s1), some (.ref s2), v9] H') : t_law_4b_2b_8 K Dn [some (.ref a), some (.ref l1), v2, some (.ref b), v4, some (.ref lt), some (.ref lo), some (.ref s1), some (.ref s2), v9] H := by
  unfold t_law_4b_2b_8
  have szl := sizeLine_eq
  simp only [tSeq, tAsg, tIfS, tRet, tRetN, tDrop, tNext, tPar, tPar3, gName, gSub, gTup, gCons, gNil, zV, tC, tOp, tUn, tCons, tNil, tLst, tTup, tIf, tAnd, tOr, tNot, tYes, zB, zAnd, zOr, zNot, zChain, tDNewK, yAdd, ySub, yMul, yDiv, yMod, yPow, yNeg, yLt, yLe, yGt, yGe, yEq, yNe, yIs0, yNotIs0, yIx, ySet, yIn, sqAt, isNone, zFld, zSetF, insAt, zMeth, zProp, tCall, tMake, tCB, yLen, yAbs, yMax2, yMin2, yList, yTuple, yDict0, zLM, yApp, isLst, dkAt, keyOf, zGet1, zGet2, zPop1, zPop2, zForR1, zForR2, zForL, zForT, Z.intAt, refAt, zLc, iR1, iR2, iL, iT, wipe, List.getElem?_cons_zero, List.getElem?_cons_succ, List.set_cons_zero, List.set_cons_succ, List.cons_append, List.nil_append, List.append_nil, upd_same, at0, at1, at2, ix0, ix1, ix2, upd_upd, ite_true, ite_false, if_true, if_false, Bool.false_eq_true, decide_true, decide_false, reduceIte, true_and, and_true, Option.isSome_none, Option.isSome_some, Bool.not_false, Bool.not_true, zTupA, zLstA, yAddA, yMulA, sliceA, zS2A, zSAA, zSBA, yListA, yTupleA, zForE, yNeO, yReprB, tMakeN, zSlA, zSlB, wOnly, tCallN, zForR3, zMatch, zCase, zMethS, zRaiseO, yPopAt, zSl2, yIsiT, tysAt, zBInit, zOst, tXf, wAs, tMkO, zFmt, zJs, zJoin, yStr1, gLst, zCM, zListR1, zListR2, zLenR1, iR3, yInt1, yEqO, yAndO, yInO, yLenO, yReprO, isBl, Z.strAt, yEq0, yNe0, GF.zForG, GF.zLcG, GF.zListG, yIsi, tyAt, clsAt, ki_int_int, ki_bool_int, ki_none_int, ki_str_int, ki_list_int, ki_tuple_int, ki_int_bool, ki_bool_bool, ki_none_bool, ki_str_bool, ki_list_bool, ki_tuple_bool, zMakeV, tRz, zNever]
  refine ⟨by show 0 ≤ sizeLine; omega, fun p1 H1 _ h1 e1 => ?_⟩
  simp only [tSeq, tAsg, tIfS, tRet, tRetN, tDrop, tNext, tPar, tPar3, gName, gSub, gTup, gCons, gNil, zV, tC, tOp, tUn, tCons, tNil, tLst, tTup, tIf, tAnd, tOr, tNot, tYes, zB, zAnd, zOr, zNot, zChain, tDNewK, yAdd, ySub, yMul, yDiv, yMod, yPow, yNeg, yLt, yLe, yGt, yGe, yEq, yNe, yIs0, yNotIs0, yIx, ySet, yIn, sqAt, isNone, zFld, zSetF, insAt, zMeth, zProp, tCall, tMake, tCB, yLen, yAbs, yMax2, yMin2, yList, yTuple, yDict0, zLM, yApp, isLst, dkAt, keyOf, zGet1, zGet2, zPop1, zPop2, zForR1, zForR2, zForL, zForT, Z.intAt, refAt, zLc, iR1, iR2, iL, iT, wipe, List.getElem?_cons_zero, List.getElem?_cons_succ, List.set_cons_zero, List.set_cons_succ, List.cons_append, List.nil_append, List.append_nil, upd_same, at0, at1, at2, ix0, ix1, ix2, upd_upd, ite_true, ite_false, if_true, if_false, Bool.false_eq_true, decide_true, decide_false, reduceIte, true_and, and_true, Option.isSome_none, Option.isSome_some, Bool.not_false, Bool.not_true, zTupA, zLstA, yAddA, yMulA, sliceA, zS2A, zSAA, zSBA, yListA, yTupleA, zForE, yNeO, yReprB, tMakeN, zSlA, zSlB, wOnly, tCallN, zForR3, zMatch, zCase, zMethS, zRaiseO, yPopAt, zSl2, yIsiT, tysAt, zBInit, zOst, tXf, wAs, tMkO, zFmt, zJs, zJoin, yStr1, gLst, zCM, zListR1, zListR2, zLenR1, iR3, yInt1, yEqO, yAndO, yInO, yLenO, yReprO, isBl, Z.strAt, yEq0, yNe0, GF.zForG, GF.zLcG, GF.zListG, yIsi, tyAt, clsAt, ki_int_int, ki_bool_int, ki_none_int, ki_str_int, ki_list_int, ki_tuple_int, ki_int_bool, ki_bool_bool, ki_none_bool, ki_str_bool, ki_list_bool, ki_tuple_bool, zMakeV, tRz, zNever]
  refine ⟨rfl, rfl, mk_set (S := firstS) first_ok fun s3 b3 H3 _ h3 S3 B3 => ?_⟩
  have h03 := h1.trans h3
  refine ⟨lt, S, D, rfl, (c.same h03).A1, fun l4 H4 h4 A4 => ?_⟩
  obtain ⟨v9', a4, d4, u1, u2, u3, u4, u5, rfl, ad4, dp4⟩ := id A4
  simp only [tSeq, tAsg, tIfS, tRet, tRetN, tDrop, tNext, tPar, tPar3, gName, gSub, gTup, gCons, gNil, zV, tC, tOp, tUn, tCons, tNil, tLst, tTup, tIf, tAnd, tOr, tNot, tYes, zB, zAnd, zOr, zNot, zChain, tDNewK, yAdd, ySub, yMul, yDiv, yMod, yPow, yNeg, yLt, yLe, yGt, yGe, yEq, yNe, yIs0, yNotIs0, yIx, ySet, yIn, sqAt, isNone, zFld, zSetF, insAt, zMeth, zProp, tCall, tMake, tCB, yLen, yAbs, yMax2, yMin2, yList, yTuple, yDict0, zLM, yApp, isLst, dkAt, keyOf, zGet1, zGet2, zPop1, zPop2, zForR1, zForR2, zForL, zForT, Z.intAt, refAt, zLc, iR1, iR2, iL, iT, wipe, List.getElem?_cons_zero, List.getElem?_cons_succ, List.set_cons_zero, List.set_cons_succ, List.cons_append, List.nil_append, List.append_nil, upd_same, at0, at1, at2, ix0, ix1, ix2, upd_upd, ite_true, ite_false, if_true, if_false, Bool.false_eq_true, decide_true, decide_false, reduceIte, true_and, and_true, Option.isSome_none, Option.isSome_some, Bool.not_false, Bool.not_true, zTupA, zLstA, yAddA, yMulA, sliceA, zS2A, zSAA, zSBA, yListA, yTupleA, zForE, yNeO, yReprB, tMakeN, zSlA, zSlB, wOnly, tCallN, zForR3, zMatch, zCase, zMethS, zRaiseO, yPopAt, zSl2, yIsiT, tysAt, zBInit, zOst, tXf, wAs, tMkO, zFmt, zJs, zJoin, yStr1, gLst, zCM, zListR1, zListR2, zLenR1, iR3, yInt1, yEqO, yAndO, yInO, yLenO, yReprO, isBl, Z.strAt, yEq0, yNe0, GF.zForG, GF.zLcG, GF.zListG, yIsi, tyAt, clsAt, ki_int_int, ki_bool_int, ki_none_int, ki_str_int, ki_list_int, ki_tuple_int, ki_int_bool, ki_bool_bool, ki_none_bool, ki_str_bool, ki_list_bool, ki_tuple_bool, zMakeV, tRz, zNever, a4, at8']
  refine ⟨by show 4 ≤ sizeLine; omega, fun p5 H5 _ h5 e5 => ?_⟩
  refine ⟨⟨_, SqT.of e5⟩, ?_⟩
  have h05 := (h03.trans h4).trans h5
  have c5 := c.same h05
  obtain ⟨dx1, x1, _⟩ := id c5.S1
  obtain ⟨dy1, g1, x2⟩ := c5.B1.ins
  have y1 := (h3.trans (h4.trans h5)) _ _ e1
  obtain ⟨dx3, f3, y3⟩ := (S3.same (h4.trans h5)).ins
  have y4 := h5 _ _ ad4
  have St := steady_t (K := K) e5
  have no : ∀ i, i < 4 → ∃ y, ([V.non, .ref p1, .ref s3, .ref d4] : List V).getD i .non = y ∧ ∀ H', Same H5 H' → NoBook K H' y ∧ tyAt K H' y fun t => PySem.W.notFirst K (He.ga K "Book") t = true := by
    intro i hi
    rcases (by omega : i = 0 ∨ i = 1 ∨ i = 2 ∨ i = 3) with rfl | rfl | rfl | rfl
    · exact ⟨.non, rfl, fun H' s => ⟨.inr (.inr (.inl rfl)), T.nf_Book_NoneType⟩⟩
    · exact ⟨.ref p1, rfl, fun H' s => ⟨.inr (.inr (.inr (.inr (.inr (.inl ⟨_, _, rfl, s _ _ y1⟩))))), by unfold tyAt; simp only [s _ _ y1]; exact T.nf_Book_tuple⟩⟩
    · exact ⟨.ref s3, rfl, fun H' s => ⟨.inr (.inr (.inr (.inr (.inr (.inr ⟨_, _, _, rfl, s _ _ y3⟩))))), by unfold tyAt; simp only [s _ _ y3]; exact ⟨T.i_Setting, nf_kit T.ki_Setting_Book⟩⟩⟩
    · exact ⟨.ref d4, rfl, fun H' s => ⟨.inr (.inr (.inr (.inr (.inl ⟨_, _, rfl, s _ _ y4⟩)))), by unfold tyAt; simp only [s _ _ y4]; exact T.nf_Book_list⟩⟩
  refine comp_core St (fun D i H' => Same H5 H' ∧ H' D = some (.lst [])) (fun D i H' hD p => p.1) (fun D hD => ⟨Same.new hD, upd_same⟩) ?_ ?_
  · rintro Dl i H' hD hi ⟨s', hD'⟩
    obtain ⟨y, ey, nt⟩ := no i hi
    obtain ⟨ny, ty⟩ := nt H' s'
    have x1' := s' _ _ x1
    have x2' := s' _ _ x2
    have c' := c5.same s'
    simp only [ey]
    clear no ey nt e5
    simp only [tSeq, tAsg, tIfS, tRet, tRetN, tDrop, tNext, tPar, tPar3, gName, gSub, gTup, gCons, gNil, zV, tC, tOp, tUn, tCons, tNil, tLst, tTup, tIf, tAnd, tOr, tNot, tYes, zB, zAnd, zOr, zNot, zChain, tDNewK, yAdd, ySub, yMul, yDiv, yMod, yPow, yNeg, yLt, yLe, yGt, yGe, yEq, yNe, yIs0, yNotIs0, yIx, ySet, yIn, sqAt, isNone, zFld, zSetF, insAt, zMeth, zProp, tCall, tMake, tCB, yLen, yAbs, yMax2, yMin2, yList, yTuple, yDict0, zLM, yApp, isLst, dkAt, keyOf, zGet1, zGet2, zPop1, zPop2, zForR1, zForR2, zForL, zForT, Z.intAt, refAt, zLc, iR1, iR2, iL, iT, wipe, List.getElem?_cons_zero, List.getElem?_cons_succ, List.set_cons_zero, List.set_cons_succ, List.cons_append, List.nil_append, List.append_nil, upd_same, at0, at1, at2, ix0, ix1, ix2, upd_upd, ite_true, ite_false, if_true, if_false, Bool.false_eq_true, decide_true, decide_false, reduceIte, true_and, and_true, Option.isSome_none, Option.isSome_some, Bool.not_false, Bool.not_true, zTupA, zLstA, yAddA, yMulA, sliceA, zS2A, zSAA, zSBA, yListA, yTupleA, zForE, yNeO, yReprB, tMakeN, zSlA, zSlB, wOnly, tCallN, zForR3, zMatch, zCase, zMethS, zRaiseO, yPopAt, zSl2, yIsiT, tysAt, zBInit, zOst, tXf, wAs, tMkO, zFmt, zJs, zJoin, yStr1, gLst, zCM, zListR1, zListR2, zLenR1, iR3, yInt1, yAndO, yLenO, yReprO, isBl, Z.strAt, yEq0, yNe0, GF.zForG, GF.zLcG, GF.zListG, yIsi, tyAt, clsAt, ki_int_int, ki_bool_int, ki_none_int, ki_str_int, ki_list_int, ki_tuple_int, ki_int_bool, ki_bool_bool, ki_none_bool, ki_str_bool, ki_list_bool, ki_tuple_bool, zMakeV, tRz, zNever, x1', lk_Setting_book]
    refine ⟨⟨T.cl_Setting, T.na_Setting_book⟩, eq_no x2' ty ⟨b1, _, y, rfl, c'.B1, .inr ⟨ny, ?_⟩⟩⟩
    simp only [tSeq, tAsg, tIfS, tRet, tRetN, tDrop, tNext, tPar, tPar3, gName, gSub, gTup, gCons, gNil, zV, tC, tOp, tUn, tCons, tNil, tLst, tTup, tIf, tAnd, tOr, tNot, tYes, zB, zAnd, zOr, zNot, zChain, tDNewK, yAdd, ySub, yMul, yDiv, yMod, yPow, yNeg, yLt, yLe, yGt, yGe, yEq, yNe, yIs0, yNotIs0, yIx, ySet, yIn, sqAt, isNone, zFld, zSetF, insAt, zMeth, zProp, tCall, tMake, tCB, yLen, yAbs, yMax2, yMin2, yList, yTuple, yDict0, zLM, yApp, isLst, dkAt, keyOf, zGet1, zGet2, zPop1, zPop2, zForR1, zForR2, zForL, zForT, Z.intAt, refAt, zLc, iR1, iR2, iL, iT, wipe, List.getElem?_cons_zero, List.getElem?_cons_succ, List.set_cons_zero, List.set_cons_succ, List.cons_append, List.nil_append, List.append_nil, upd_same, at0, at1, at2, ix0, ix1, ix2, upd_upd, ite_true, ite_false, if_true, if_false, Bool.false_eq_true, decide_true, decide_false, reduceIte, true_and, and_true, Option.isSome_none, Option.isSome_some, Bool.not_false, Bool.not_true, zTupA, zLstA, yAddA, yMulA, sliceA, zS2A, zSAA, zSBA, yListA, yTupleA, zForE, yNeO, yReprB, tMakeN, zSlA, zSlB, wOnly, tCallN, zForR3, zMatch, zCase, zMethS, zRaiseO, yPopAt, zSl2, yIsiT, tysAt, zBInit, zOst, tXf, wAs, tMkO, zFmt, zJs, zJoin, yStr1, gLst, zCM, zListR1, zListR2, zLenR1, iR3, yInt1, yAndO, yLenO, yReprO, isBl, Z.strAt, yEq0, yNe0, GF.zForG, GF.zLcG, GF.zListG, yIsi, tyAt, clsAt, ki_int_int, ki_bool_int, ki_none_int, ki_str_int, ki_list_int, ki_tuple_int, ki_int_bool, ki_bool_bool, ki_none_bool, ki_str_bool, ki_list_bool, ki_tuple_bool, zMakeV, tRz, zNever]
    exact ⟨s', hD'⟩
  · rintro Dl H' hD ⟨s', hD'⟩
    refine ⟨by show 0 ≤ sizeLine; omega, fun q6 H6 _ s6 e6 => ?_⟩
    simp only [tSeq, tAsg, tIfS, tRet, tRetN, tDrop, tNext, tPar, tPar3, gName, gSub, gTup, gCons, gNil, zV, tC, tOp, tUn, tCons, tNil, tLst, tTup, tIf, tAnd, tOr, tNot, tYes, zB, zAnd, zOr, zNot, zChain, tDNewK, yAdd, ySub, yMul, yDiv, yMod, yPow, yNeg, yLt, yLe, yGt, yGe, yEq, yNe, yIs0, yNotIs0, yIx, ySet, yIn, sqAt, isNone, zFld, zSetF, insAt, zMeth, zProp, tCall, tMake, tCB, yLen, yAbs, yMax2, yMin2, yList, yTuple, yDict0, zLM, yApp, isLst, dkAt, keyOf, zGet1, zGet2, zPop1, zPop2, zForR1, zForR2, zForL, zForT, Z.intAt, refAt, zLc, iR1, iR2, iL, iT, wipe, List.getElem?_cons_zero, List.getElem?_cons_succ, List.set_cons_zero, List.set_cons_succ, List.cons_append, List.nil_append, List.append_nil, upd_same, at0, at1, at2, ix0, ix1, ix2, upd_upd, ite_true, ite_false, if_true, if_false, Bool.false_eq_true, decide_true, decide_false, reduceIte, true_and, and_true, Option.isSome_none, Option.isSome_some, Bool.not_false, Bool.not_true, zTupA, zLstA, yAddA, yMulA, sliceA, zS2A, zSAA, zSBA, yListA, yTupleA, zForE, yNeO, yReprB, tMakeN, zSlA, zSlB, wOnly, tCallN, zForR3, zMatch, zCase, zMethS, zRaiseO, yPopAt, zSl2, yIsiT, tysAt, zBInit, zOst, tXf, wAs, tMkO, zFmt, zJs, zJoin, yStr1, gLst, zCM, zListR1, zListR2, zLenR1, iR3, yInt1, yEqO, yAndO, yInO, yLenO, yReprO, isBl, Z.strAt, yEq0, yNe0, GF.zForG, GF.zLcG, GF.zListG, yIsi, tyAt, clsAt, ki_int_int, ki_bool_int, ki_none_int, ki_str_int, ki_list_int, ki_tuple_int, ki_int_bool, ki_bool_bool, ki_none_bool, ki_str_bool, ki_list_bool, ki_tuple_bool, zMakeV, tRz, zNever, s6 _ _ hD', e6]
    exact ⟨.inl trivial, k H6 (h05.trans (s'.trans s6))⟩
theorem turn9 (T : Top K mg) (c : Tn K l1 lt lo s1 s2 S S' D D' b1 b2 H) (k : ∀ H', Same H H' → Dn.nx [some (.ref a), some (.ref l1), v2, some (.ref b), v4, some (.ref lt), some (.ref lo), some (.ref s1), some (.ref s2), v9] H') : t_law_4b_2b_9 K Dn [some (.ref a), some (.ref l1), v2, some (.ref b), v4, some (.ref lt), some (.ref lo), some (.ref s1), some (.ref s2), v9] H := by
  unfold t_law_4b_2b_9
  have szl := sizeLine_eq
  obtain ⟨v9', a1, _⟩ := id c.A1
  obtain ⟨w9, a0, ew⟩ := id c.F
  simp only [tSeq, tAsg, tIfS, tRet, tRetN, tDrop, tNext, tPar, tPar3, gName, gSub, gTup, gCons, gNil, zV, tC, tOp, tUn, tCons, tNil, tLst, tTup, tIf, tAnd, tOr, tNot, tYes, zB, zAnd, zOr, zNot, zChain, tDNewK, yAdd, ySub, yMul, yDiv, yMod, yPow, yNeg, yLt, yLe, yGt, yGe, yEq, yNe, yIs0, yNotIs0, yIx, ySet, yIn, sqAt, isNone, zFld, zSetF, insAt, zMeth, zProp, tCall, tMake, tCB, yLen, yAbs, yMax2, yMin2, yList, yTuple, yDict0, zLM, yApp, isLst, dkAt, keyOf, zGet1, zGet2, zPop1, zPop2, zForR1, zForR2, zForL, zForT, Z.intAt, refAt, zLc, iR1, iR2, iL, iT, wipe, List.getElem?_cons_zero, List.getElem?_cons_succ, List.set_cons_zero, List.set_cons_succ, List.cons_append, List.nil_append, List.append_nil, upd_same, at0, at1, at2, ix0, ix1, ix2, upd_upd, ite_true, ite_false, if_true, if_false, Bool.false_eq_true, decide_true, decide_false, reduceIte, true_and, and_true, Option.isSome_none, Option.isSome_some, Bool.not_false, Bool.not_true, zTupA, zLstA, yAddA, yMulA, sliceA, zS2A, zSAA, zSBA, yListA, yTupleA, zForE, yNeO, yReprB, tMakeN, zSlA, zSlB, wOnly, tCallN, zForR3, zMatch, zCase, zMethS, zRaiseO, yPopAt, zSl2, yIsiT, tysAt, zBInit, zOst, tXf, wAs, tMkO, zFmt, zJs, zJoin, yStr1, gLst, zCM, zListR1, zListR2, zLenR1, iR3, yInt1, yEqO, yAndO, yInO, yLenO, yReprO, isBl, Z.strAt, yEq0, yNe0, GF.zForG, GF.zLcG, GF.zListG, yIsi, tyAt, clsAt, ki_int_int, ki_bool_int, ki_none_int, ki_str_int, ki_list_int, ki_tuple_int, ki_int_bool, ki_bool_bool, ki_none_bool, ki_str_bool, ki_list_bool, ki_tuple_bool, zMakeV, tRz, zNever, a1]
  have ok : SettOk ⟨S.copies, false, 0, false, true, "first", 16, 16⟩ := ⟨c.ok1.1, first_ok.2⟩
  refine ⟨rfl, rfl, mk_set (S := ⟨S.copies, false, 0, false, true, "first", 16, 16⟩) ok fun s3 b3 H3 _ h3 S3 B3 => ?_⟩
  simp only [tSeq, tAsg, tIfS, tRet, tRetN, tDrop, tNext, tPar, tPar3, gName, gSub, gTup, gCons, gNil, zV, tC, tOp, tUn, tCons, tNil, tLst, tTup, tIf, tAnd, tOr, tNot, tYes, zB, zAnd, zOr, zNot, zChain, tDNewK, yAdd, ySub, yMul, yDiv, yMod, yPow, yNeg, yLt, yLe, yGt, yGe, yEq, yNe, yIs0, yNotIs0, yIx, ySet, yIn, sqAt, isNone, zFld, zSetF, insAt, zMeth, zProp, tCall, tMake, tCB, yLen, yAbs, yMax2, yMin2, yList, yTuple, yDict0, zLM, yApp, isLst, dkAt, keyOf, zGet1, zGet2, zPop1, zPop2, zForR1, zForR2, zForL, zForT, Z.intAt, refAt, zLc, iR1, iR2, iL, iT, wipe, List.getElem?_cons_zero, List.getElem?_cons_succ, List.set_cons_zero, List.set_cons_succ, List.cons_append, List.nil_append, List.append_nil, upd_same, at0, at1, at2, ix0, ix1, ix2, upd_upd, ite_true, ite_false, if_true, if_false, Bool.false_eq_true, decide_true, decide_false, reduceIte, true_and, and_true, Option.isSome_none, Option.isSome_some, Bool.not_false, Bool.not_true, zTupA, zLstA, yAddA, yMulA, sliceA, zS2A, zSAA, zSBA, yListA, yTupleA, zForE, yNeO, yReprB, tMakeN, zSlA, zSlB, wOnly, tCallN, zForR3, zMatch, zCase, zMethS, zRaiseO, yPopAt, zSl2, yIsiT, tysAt, zBInit, zOst, tXf, wAs, tMkO, zFmt, zJs, zJoin, yStr1, gLst, zCM, zListR1, zListR2, zLenR1, iR3, yInt1, yEqO, yAndO, yInO, yLenO, yReprO, isBl, Z.strAt, yEq0, yNe0, GF.zForG, GF.zLcG, GF.zListG, yIsi, tyAt, clsAt, ki_int_int, ki_bool_int, ki_none_int, ki_str_int, ki_list_int, ki_tuple_int, ki_int_bool, ki_bool_bool, ki_none_bool, ki_str_bool, ki_list_bool, ki_tuple_bool, zMakeV, tRz, zNever, h3 _ _ a1]
  refine ⟨by show 1 ≤ sizeLine; omega, fun p4 H4 _ h4 e4 => ?_⟩
  have h04 := h3.trans h4
  simp only [tSeq, tAsg, tIfS, tRet, tRetN, tDrop, tNext, tPar, tPar3, gName, gSub, gTup, gCons, gNil, zV, tC, tOp, tUn, tCons, tNil, tLst, tTup, tIf, tAnd, tOr, tNot, tYes, zB, zAnd, zOr, zNot, zChain, tDNewK, yAdd, ySub, yMul, yDiv, yMod, yPow, yNeg, yLt, yLe, yGt, yGe, yEq, yNe, yIs0, yNotIs0, yIx, ySet, yIn, sqAt, isNone, zFld, zSetF, insAt, zMeth, zProp, tCall, tMake, tCB, yLen, yAbs, yMax2, yMin2, yList, yTuple, yDict0, zLM, yApp, isLst, dkAt, keyOf, zGet1, zGet2, zPop1, zPop2, zForR1, zForR2, zForL, zForT, Z.intAt, refAt, zLc, iR1, iR2, iL, iT, wipe, List.getElem?_cons_zero, List.getElem?_cons_succ, List.set_cons_zero, List.set_cons_succ, List.cons_append, List.nil_append, List.append_nil, upd_same, at0, at1, at2, ix0, ix1, ix2, upd_upd, ite_true, ite_false, if_true, if_false, Bool.false_eq_true, decide_true, decide_false, reduceIte, true_and, and_true, Option.isSome_none, Option.isSome_some, Bool.not_false, Bool.not_true, zTupA, zLstA, yAddA, yMulA, sliceA, zS2A, zSAA, zSBA, yListA, yTupleA, zForE, yNeO, yReprB, tMakeN, zSlA, zSlB, wOnly, tCallN, zForR3, zMatch, zCase, zMethS, zRaiseO, yPopAt, zSl2, yIsiT, tysAt, zBInit, zOst, tXf, wAs, tMkO, zFmt, zJs, zJoin, yStr1, gLst, zCM, zListR1, zListR2, zLenR1, iR3, yInt1, yEqO, yAndO, yInO, yLenO, yReprO, isBl, Z.strAt, yEq0, yNe0, GF.zForG, GF.zLcG, GF.zListG, yIsi, tyAt, clsAt, ki_int_int, ki_bool_int, ki_none_int, ki_str_int, ki_list_int, ki_tuple_int, ki_int_bool, ki_bool_bool, ki_none_bool, ki_str_bool, ki_list_bool, ki_tuple_bool, zMakeV, tRz, zNever, h04 _ _ a0]
  intro p5 H5 _ h5 e5
  simp only [tSeq, tAsg, tIfS, tRet, tRetN, tDrop, tNext, tPar, tPar3, gName, gSub, gTup, gCons, gNil, zV, tC, tOp, tUn, tCons, tNil, tLst, tTup, tIf, tAnd, tOr, tNot, tYes, zB, zAnd, zOr, zNot, zChain, tDNewK, yAdd, ySub, yMul, yDiv, yMod, yPow, yNeg, yLt, yLe, yGt, yGe, yEq, yNe, yIs0, yNotIs0, yIx, ySet, yIn, sqAt, isNone, zFld, zSetF, insAt, zMeth, zProp, tCall, tMake, tCB, yLen, yAbs, yMax2, yMin2, yList, yTuple, yDict0, zLM, yApp, isLst, dkAt, keyOf, zGet1, zGet2, zPop1, zPop2, zForR1, zForR2, zForL, zForT, Z.intAt, refAt, zLc, iR1, iR2, iL, iT, wipe, List.getElem?_cons_zero, List.getElem?_cons_succ, List.set_cons_zero, List.set_cons_succ, List.cons_append, List.nil_append, List.append_nil, upd_same, at0, at1, at2, ix0, ix1, ix2, upd_upd, ite_true, ite_false, if_true, if_false, Bool.false_eq_true, decide_true, decide_false, reduceIte, true_and, and_true, Option.isSome_none, Option.isSome_some, Bool.not_false, Bool.not_true, zTupA, zLstA, yAddA, yMulA, sliceA, zS2A, zSAA, zSBA, yListA, yTupleA, zForE, yNeO, yReprB, tMakeN, zSlA, zSlB, wOnly, tCallN, zForR3, zMatch, zCase, zMethS, zRaiseO, yPopAt, zSl2, yIsiT, tysAt, zBInit, zOst, tXf, wAs, tMkO, zFmt, zJs, zJoin, yStr1, gLst, zCM, zListR1, zListR2, zLenR1, iR3, yInt1, yEqO, yAndO, yInO, yLenO, yReprO, isBl, Z.strAt, yEq0, yNe0, GF.zForG, GF.zLcG, GF.zListG, yIsi, tyAt, clsAt, ki_int_int, ki_bool_int, ki_none_int, ki_str_int, ki_list_int, ki_tuple_int, ki_int_bool, ki_bool_bool, ki_none_bool, ki_str_bool, ki_list_bool, ki_tuple_bool, zMakeV, tRz, zNever, h5 _ _ e4, e5]
  obtain rfl := ew
  have ec : (V.str S.copies :: cutV [V.str firstS.copies, V.bl firstS.cached, V.int firstS.batch, V.bl firstS.early, V.bl firstS.drain, V.str firstS.policy, V.int firstS.groups, V.int firstS.tables, .non] (some 1) none) = [.str S.copies, .bl false, .int 0, .bl false, .bl true, .str "first", .int 16, .int 16, .non] := rfl
  refine ⟨by show 1 + 8 ≤ sizeLine; omega, fun p6 H6 _ h6 e6 => ?_⟩
  rw [ec] at e6
  refine ⟨p6, ⟨S.copies, false, 0, false, true, "first", 16, 16⟩, none, rfl, ⟨.non, e6, rfl⟩, ok, (fun _ e => by cases e), fun s7 b7 H7 h7 S7 B7 => ?_⟩
  have h37 := (h4.trans h5).trans (h6.trans h7)
  have S3' := S3.same h37
  have B3' := B3.same h37
  obtain ⟨dx1, x1, _⟩ := id S3'
  obtain ⟨dx4, x4, _⟩ := id S7
  simp only [tSeq, tAsg, tIfS, tRet, tRetN, tDrop, tNext, tPar, tPar3, gName, gSub, gTup, gCons, gNil, zV, tC, tOp, tUn, tCons, tNil, tLst, tTup, tIf, tAnd, tOr, tNot, tYes, zB, zAnd, zOr, zNot, zChain, tDNewK, yAdd, ySub, yMul, yDiv, yMod, yPow, yNeg, yLt, yLe, yGt, yGe, yEq, yNe, yIs0, yNotIs0, yIx, ySet, yIn, sqAt, isNone, zFld, zSetF, insAt, zMeth, zProp, tCall, tMake, tCB, yLen, yAbs, yMax2, yMin2, yList, yTuple, yDict0, zLM, yApp, isLst, dkAt, keyOf, zGet1, zGet2, zPop1, zPop2, zForR1, zForR2, zForL, zForT, Z.intAt, refAt, zLc, iR1, iR2, iL, iT, wipe, List.getElem?_cons_zero, List.getElem?_cons_succ, List.set_cons_zero, List.set_cons_succ, List.cons_append, List.nil_append, List.append_nil, upd_same, at0, at1, at2, ix0, ix1, ix2, upd_upd, ite_true, ite_false, if_true, if_false, Bool.false_eq_true, decide_true, decide_false, reduceIte, true_and, and_true, Option.isSome_none, Option.isSome_some, Bool.not_false, Bool.not_true, zTupA, zLstA, yAddA, yMulA, sliceA, zS2A, zSAA, zSBA, yListA, yTupleA, zForE, yNeO, yReprB, tMakeN, zSlA, zSlB, wOnly, tCallN, zForR3, zMatch, zCase, zMethS, zRaiseO, yPopAt, zSl2, yIsiT, tysAt, zBInit, zOst, tXf, wAs, tMkO, zFmt, zJs, zJoin, yStr1, gLst, zCM, zListR1, zListR2, zLenR1, iR3, yInt1, yEqO, yAndO, yInO, yLenO, yReprO, isBl, Z.strAt, yEq0, yNe0, GF.zForG, GF.zLcG, GF.zListG, yIsi, tyAt, clsAt, ki_int_int, ki_bool_int, ki_none_int, ki_str_int, ki_list_int, ki_tuple_int, ki_int_bool, ki_bool_bool, ki_none_bool, ki_str_bool, ki_list_bool, ki_tuple_bool, zMakeV, tRz, zNever, x1, x4]
  refine ⟨T.i_Setting, nf_own, s3, b3, _, _, .ref s7, rfl, S3', B3', .inl ⟨s7, b7, _, _, rfl, S7, B7, fun H8 h8 => ?_⟩⟩
  show isBl _ (.bl (eqS _ _ && eqD stdD stdD)) H8
  rw [eqS_refl ok, eqD_refl std_ok]
  simp only [tSeq, tAsg, tIfS, tRet, tRetN, tDrop, tNext, tPar, tPar3, gName, gSub, gTup, gCons, gNil, zV, tC, tOp, tUn, tCons, tNil, tLst, tTup, tIf, tAnd, tOr, tNot, tYes, zB, zAnd, zOr, zNot, zChain, tDNewK, yAdd, ySub, yMul, yDiv, yMod, yPow, yNeg, yLt, yLe, yGt, yGe, yEq, yNe, yIs0, yNotIs0, yIx, ySet, yIn, sqAt, isNone, zFld, zSetF, insAt, zMeth, zProp, tCall, tMake, tCB, yLen, yAbs, yMax2, yMin2, yList, yTuple, yDict0, zLM, yApp, isLst, dkAt, keyOf, zGet1, zGet2, zPop1, zPop2, zForR1, zForR2, zForL, zForT, Z.intAt, refAt, zLc, iR1, iR2, iL, iT, wipe, List.getElem?_cons_zero, List.getElem?_cons_succ, List.set_cons_zero, List.set_cons_succ, List.cons_append, List.nil_append, List.append_nil, upd_same, at0, at1, at2, ix0, ix1, ix2, upd_upd, ite_true, ite_false, if_true, if_false, Bool.false_eq_true, decide_true, decide_false, reduceIte, true_and, and_true, Option.isSome_none, Option.isSome_some, Bool.not_false, Bool.not_true, zTupA, zLstA, yAddA, yMulA, sliceA, zS2A, zSAA, zSBA, yListA, yTupleA, zForE, yNeO, yReprB, tMakeN, zSlA, zSlB, wOnly, tCallN, zForR3, zMatch, zCase, zMethS, zRaiseO, yPopAt, zSl2, yIsiT, tysAt, zBInit, zOst, tXf, wAs, tMkO, zFmt, zJs, zJoin, yStr1, gLst, zCM, zListR1, zListR2, zLenR1, iR3, yInt1, yEqO, yAndO, yInO, yLenO, yReprO, isBl, Z.strAt, yEq0, yNe0, GF.zForG, GF.zLcG, GF.zListG, yIsi, tyAt, clsAt, ki_int_int, ki_bool_int, ki_none_int, ki_str_int, ki_list_int, ki_tuple_int, ki_int_bool, ki_bool_bool, ki_none_bool, ki_str_bool, ki_list_bool, ki_tuple_bool, zMakeV, tRz, zNever]
  exact k H8 ((h3.trans h37).trans h8)
theorem turn10 (T : Top K mg) (c : Tn K l1 lt lo s1 s2 S S' D D' b1 b2 H) (k : ∀ H', Same H H' → Dn.nx [some (.ref a), some (.ref l1), v2, some (.ref b), v4, some (.ref lt), some (.ref lo), some (.ref s1), some (.ref s2), v9] H') : t_law_4b_2b_10 K Dn [some (.ref a), some (.ref l1), v2, some (.ref b), v4, some (.ref lt), some (.ref lo), some (.ref s1), some (.ref s2), v9] H := by
  unfold t_law_4b_2b_10
  have szl := sizeLine_eq
  obtain ⟨v9', a1, _⟩ := id c.A1
  obtain ⟨w9, a0, ew⟩ := id c.F
  obtain rfl := ew
  simp only [tSeq, tAsg, tIfS, tRet, tRetN, tDrop, tNext, tPar, tPar3, gName, gSub, gTup, gCons, gNil, zV, tC, tOp, tUn, tCons, tNil, tLst, tTup, tIf, tAnd, tOr, tNot, tYes, zB, zAnd, zOr, zNot, zChain, tDNewK, yAdd, ySub, yMul, yDiv, yMod, yPow, yNeg, yLt, yLe, yGt, yGe, yEq, yNe, yIs0, yNotIs0, yIx, ySet, yIn, sqAt, isNone, zFld, zSetF, insAt, zMeth, zProp, tCall, tMake, tCB, yLen, yAbs, yMax2, yMin2, yList, yTuple, yDict0, zLM, yApp, isLst, dkAt, keyOf, zGet1, zGet2, zPop1, zPop2, zForR1, zForR2, zForL, zForT, Z.intAt, refAt, zLc, iR1, iR2, iL, iT, wipe, List.getElem?_cons_zero, List.getElem?_cons_succ, List.set_cons_zero, List.set_cons_succ, List.cons_append, List.nil_append, List.append_nil, upd_same, at0, at1, at2, ix0, ix1, ix2, upd_upd, ite_true, ite_false, if_true, if_false, Bool.false_eq_true, decide_true, decide_false, reduceIte, true_and, and_true, Option.isSome_none, Option.isSome_some, Bool.not_false, Bool.not_true, zTupA, zLstA, yAddA, yMulA, sliceA, zS2A, zSAA, zSBA, yListA, yTupleA, zForE, yNeO, yReprB, tMakeN, zSlA, zSlB, wOnly, tCallN, zForR3, zMatch, zCase, zMethS, zRaiseO, yPopAt, zSl2, yIsiT, tysAt, zBInit, zOst, tXf, wAs, tMkO, zFmt, zJs, zJoin, yStr1, gLst, zCM, zListR1, zListR2, zLenR1, iR3, yInt1, yEqO, yAndO, yInO, yLenO, yReprO, isBl, Z.strAt, yEq0, yNe0, GF.zForG, GF.zLcG, GF.zListG, yIsi, tyAt, clsAt, ki_int_int, ki_bool_int, ki_none_int, ki_str_int, ki_list_int, ki_tuple_int, ki_int_bool, ki_bool_bool, ki_none_bool, ki_str_bool, ki_list_bool, ki_tuple_bool, zMakeV, tRz, zNever, a1]
  have ok : SettOk ⟨"none", S.cached, S.batch, false, true, "first", 16, 16⟩ := ⟨first_ok.1, c.ok1.2.1, first_ok.2.2⟩
  refine ⟨rfl, rfl, mk_set (S := ⟨"none", S.cached, S.batch, false, true, "first", 16, 16⟩) ok fun s3 b3 H3 _ h3 S3 B3 => ?_⟩
  simp only [tSeq, tAsg, tIfS, tRet, tRetN, tDrop, tNext, tPar, tPar3, gName, gSub, gTup, gCons, gNil, zV, tC, tOp, tUn, tCons, tNil, tLst, tTup, tIf, tAnd, tOr, tNot, tYes, zB, zAnd, zOr, zNot, zChain, tDNewK, yAdd, ySub, yMul, yDiv, yMod, yPow, yNeg, yLt, yLe, yGt, yGe, yEq, yNe, yIs0, yNotIs0, yIx, ySet, yIn, sqAt, isNone, zFld, zSetF, insAt, zMeth, zProp, tCall, tMake, tCB, yLen, yAbs, yMax2, yMin2, yList, yTuple, yDict0, zLM, yApp, isLst, dkAt, keyOf, zGet1, zGet2, zPop1, zPop2, zForR1, zForR2, zForL, zForT, Z.intAt, refAt, zLc, iR1, iR2, iL, iT, wipe, List.getElem?_cons_zero, List.getElem?_cons_succ, List.set_cons_zero, List.set_cons_succ, List.cons_append, List.nil_append, List.append_nil, upd_same, at0, at1, at2, ix0, ix1, ix2, upd_upd, ite_true, ite_false, if_true, if_false, Bool.false_eq_true, decide_true, decide_false, reduceIte, true_and, and_true, Option.isSome_none, Option.isSome_some, Bool.not_false, Bool.not_true, zTupA, zLstA, yAddA, yMulA, sliceA, zS2A, zSAA, zSBA, yListA, yTupleA, zForE, yNeO, yReprB, tMakeN, zSlA, zSlB, wOnly, tCallN, zForR3, zMatch, zCase, zMethS, zRaiseO, yPopAt, zSl2, yIsiT, tysAt, zBInit, zOst, tXf, wAs, tMkO, zFmt, zJs, zJoin, yStr1, gLst, zCM, zListR1, zListR2, zLenR1, iR3, yInt1, yEqO, yAndO, yInO, yLenO, yReprO, isBl, Z.strAt, yEq0, yNe0, GF.zForG, GF.zLcG, GF.zListG, yIsi, tyAt, clsAt, ki_int_int, ki_bool_int, ki_none_int, ki_str_int, ki_list_int, ki_tuple_int, ki_int_bool, ki_bool_bool, ki_none_bool, ki_str_bool, ki_list_bool, ki_tuple_bool, zMakeV, tRz, zNever, h3 _ _ a1]
  refine ⟨by show 3 ≤ sizeLine; omega, fun p4 H4 _ h4 e4 => ?_⟩
  have h04 := h3.trans h4
  simp only [tSeq, tAsg, tIfS, tRet, tRetN, tDrop, tNext, tPar, tPar3, gName, gSub, gTup, gCons, gNil, zV, tC, tOp, tUn, tCons, tNil, tLst, tTup, tIf, tAnd, tOr, tNot, tYes, zB, zAnd, zOr, zNot, zChain, tDNewK, yAdd, ySub, yMul, yDiv, yMod, yPow, yNeg, yLt, yLe, yGt, yGe, yEq, yNe, yIs0, yNotIs0, yIx, ySet, yIn, sqAt, isNone, zFld, zSetF, insAt, zMeth, zProp, tCall, tMake, tCB, yLen, yAbs, yMax2, yMin2, yList, yTuple, yDict0, zLM, yApp, isLst, dkAt, keyOf, zGet1, zGet2, zPop1, zPop2, zForR1, zForR2, zForL, zForT, Z.intAt, refAt, zLc, iR1, iR2, iL, iT, wipe, List.getElem?_cons_zero, List.getElem?_cons_succ, List.set_cons_zero, List.set_cons_succ, List.cons_append, List.nil_append, List.append_nil, upd_same, at0, at1, at2, ix0, ix1, ix2, upd_upd, ite_true, ite_false, if_true, if_false, Bool.false_eq_true, decide_true, decide_false, reduceIte, true_and, and_true, Option.isSome_none, Option.isSome_some, Bool.not_false, Bool.not_true, zTupA, zLstA, yAddA, yMulA, sliceA, zS2A, zSAA, zSBA, yListA, yTupleA, zForE, yNeO, yReprB, tMakeN, zSlA, zSlB, wOnly, tCallN, zForR3, zMatch, zCase, zMethS, zRaiseO, yPopAt, zSl2, yIsiT, tysAt, zBInit, zOst, tXf, wAs, tMkO, zFmt, zJs, zJoin, yStr1, gLst, zCM, zListR1, zListR2, zLenR1, iR3, yInt1, yEqO, yAndO, yInO, yLenO, yReprO, isBl, Z.strAt, yEq0, yNe0, GF.zForG, GF.zLcG, GF.zListG, yIsi, tyAt, clsAt, ki_int_int, ki_bool_int, ki_none_int, ki_str_int, ki_list_int, ki_tuple_int, ki_int_bool, ki_bool_bool, ki_none_bool, ki_str_bool, ki_list_bool, ki_tuple_bool, zMakeV, tRz, zNever, h04 _ _ a0]
  intro p5 H5 _ h5 e5
  simp only [tSeq, tAsg, tIfS, tRet, tRetN, tDrop, tNext, tPar, tPar3, gName, gSub, gTup, gCons, gNil, zV, tC, tOp, tUn, tCons, tNil, tLst, tTup, tIf, tAnd, tOr, tNot, tYes, zB, zAnd, zOr, zNot, zChain, tDNewK, yAdd, ySub, yMul, yDiv, yMod, yPow, yNeg, yLt, yLe, yGt, yGe, yEq, yNe, yIs0, yNotIs0, yIx, ySet, yIn, sqAt, isNone, zFld, zSetF, insAt, zMeth, zProp, tCall, tMake, tCB, yLen, yAbs, yMax2, yMin2, yList, yTuple, yDict0, zLM, yApp, isLst, dkAt, keyOf, zGet1, zGet2, zPop1, zPop2, zForR1, zForR2, zForL, zForT, Z.intAt, refAt, zLc, iR1, iR2, iL, iT, wipe, List.getElem?_cons_zero, List.getElem?_cons_succ, List.set_cons_zero, List.set_cons_succ, List.cons_append, List.nil_append, List.append_nil, upd_same, at0, at1, at2, ix0, ix1, ix2, upd_upd, ite_true, ite_false, if_true, if_false, Bool.false_eq_true, decide_true, decide_false, reduceIte, true_and, and_true, Option.isSome_none, Option.isSome_some, Bool.not_false, Bool.not_true, zTupA, zLstA, yAddA, yMulA, sliceA, zS2A, zSAA, zSBA, yListA, yTupleA, zForE, yNeO, yReprB, tMakeN, zSlA, zSlB, wOnly, tCallN, zForR3, zMatch, zCase, zMethS, zRaiseO, yPopAt, zSl2, yIsiT, tysAt, zBInit, zOst, tXf, wAs, tMkO, zFmt, zJs, zJoin, yStr1, gLst, zCM, zListR1, zListR2, zLenR1, iR3, yInt1, yEqO, yAndO, yInO, yLenO, yReprO, isBl, Z.strAt, yEq0, yNe0, GF.zForG, GF.zLcG, GF.zListG, yIsi, tyAt, clsAt, ki_int_int, ki_bool_int, ki_none_int, ki_str_int, ki_list_int, ki_tuple_int, ki_int_bool, ki_bool_bool, ki_none_bool, ki_str_bool, ki_list_bool, ki_tuple_bool, zMakeV, tRz, zNever, h5 _ _ e4, e5]
  have ec : (V.str "none" :: V.bl S.cached :: V.int S.batch :: cutV [V.str firstS.copies, V.bl firstS.cached, V.int firstS.batch, V.bl firstS.early, V.bl firstS.drain, V.str firstS.policy, V.int firstS.groups, V.int firstS.tables, .non] (some 3) none) = [.str "none", .bl S.cached, .int S.batch, .bl false, .bl true, .str "first", .int 16, .int 16, .non] := rfl
  refine ⟨by show 3 + 6 ≤ sizeLine; omega, fun p6 H6 _ h6 e6 => ?_⟩
  rw [ec] at e6
  refine ⟨p6, ⟨"none", S.cached, S.batch, false, true, "first", 16, 16⟩, none, rfl, ⟨.non, e6, rfl⟩, ok, (fun _ e => by cases e), fun s7 b7 H7 h7 S7 B7 => ?_⟩
  have h37 := (h4.trans h5).trans (h6.trans h7)
  have S3' := S3.same h37
  have B3' := B3.same h37
  obtain ⟨dx1, x1, _⟩ := id S3'
  obtain ⟨dx4, x4, _⟩ := id S7
  simp only [tSeq, tAsg, tIfS, tRet, tRetN, tDrop, tNext, tPar, tPar3, gName, gSub, gTup, gCons, gNil, zV, tC, tOp, tUn, tCons, tNil, tLst, tTup, tIf, tAnd, tOr, tNot, tYes, zB, zAnd, zOr, zNot, zChain, tDNewK, yAdd, ySub, yMul, yDiv, yMod, yPow, yNeg, yLt, yLe, yGt, yGe, yEq, yNe, yIs0, yNotIs0, yIx, ySet, yIn, sqAt, isNone, zFld, zSetF, insAt, zMeth, zProp, tCall, tMake, tCB, yLen, yAbs, yMax2, yMin2, yList, yTuple, yDict0, zLM, yApp, isLst, dkAt, keyOf, zGet1, zGet2, zPop1, zPop2, zForR1, zForR2, zForL, zForT, Z.intAt, refAt, zLc, iR1, iR2, iL, iT, wipe, List.getElem?_cons_zero, List.getElem?_cons_succ, List.set_cons_zero, List.set_cons_succ, List.cons_append, List.nil_append, List.append_nil, upd_same, at0, at1, at2, ix0, ix1, ix2, upd_upd, ite_true, ite_false, if_true, if_false, Bool.false_eq_true, decide_true, decide_false, reduceIte, true_and, and_true, Option.isSome_none, Option.isSome_some, Bool.not_false, Bool.not_true, zTupA, zLstA, yAddA, yMulA, sliceA, zS2A, zSAA, zSBA, yListA, yTupleA, zForE, yNeO, yReprB, tMakeN, zSlA, zSlB, wOnly, tCallN, zForR3, zMatch, zCase, zMethS, zRaiseO, yPopAt, zSl2, yIsiT, tysAt, zBInit, zOst, tXf, wAs, tMkO, zFmt, zJs, zJoin, yStr1, gLst, zCM, zListR1, zListR2, zLenR1, iR3, yInt1, yEqO, yAndO, yInO, yLenO, yReprO, isBl, Z.strAt, yEq0, yNe0, GF.zForG, GF.zLcG, GF.zListG, yIsi, tyAt, clsAt, ki_int_int, ki_bool_int, ki_none_int, ki_str_int, ki_list_int, ki_tuple_int, ki_int_bool, ki_bool_bool, ki_none_bool, ki_str_bool, ki_list_bool, ki_tuple_bool, zMakeV, tRz, zNever, x1, x4]
  refine ⟨T.i_Setting, nf_own, s3, b3, _, _, .ref s7, rfl, S3', B3', .inl ⟨s7, b7, _, _, rfl, S7, B7, fun H8 h8 => ?_⟩⟩
  show isBl _ (.bl (eqS _ _ && eqD stdD stdD)) H8
  rw [eqS_refl ok, eqD_refl std_ok]
  simp only [tSeq, tAsg, tIfS, tRet, tRetN, tDrop, tNext, tPar, tPar3, gName, gSub, gTup, gCons, gNil, zV, tC, tOp, tUn, tCons, tNil, tLst, tTup, tIf, tAnd, tOr, tNot, tYes, zB, zAnd, zOr, zNot, zChain, tDNewK, yAdd, ySub, yMul, yDiv, yMod, yPow, yNeg, yLt, yLe, yGt, yGe, yEq, yNe, yIs0, yNotIs0, yIx, ySet, yIn, sqAt, isNone, zFld, zSetF, insAt, zMeth, zProp, tCall, tMake, tCB, yLen, yAbs, yMax2, yMin2, yList, yTuple, yDict0, zLM, yApp, isLst, dkAt, keyOf, zGet1, zGet2, zPop1, zPop2, zForR1, zForR2, zForL, zForT, Z.intAt, refAt, zLc, iR1, iR2, iL, iT, wipe, List.getElem?_cons_zero, List.getElem?_cons_succ, List.set_cons_zero, List.set_cons_succ, List.cons_append, List.nil_append, List.append_nil, upd_same, at0, at1, at2, ix0, ix1, ix2, upd_upd, ite_true, ite_false, if_true, if_false, Bool.false_eq_true, decide_true, decide_false, reduceIte, true_and, and_true, Option.isSome_none, Option.isSome_some, Bool.not_false, Bool.not_true, zTupA, zLstA, yAddA, yMulA, sliceA, zS2A, zSAA, zSBA, yListA, yTupleA, zForE, yNeO, yReprB, tMakeN, zSlA, zSlB, wOnly, tCallN, zForR3, zMatch, zCase, zMethS, zRaiseO, yPopAt, zSl2, yIsiT, tysAt, zBInit, zOst, tXf, wAs, tMkO, zFmt, zJs, zJoin, yStr1, gLst, zCM, zListR1, zListR2, zLenR1, iR3, yInt1, yEqO, yAndO, yInO, yLenO, yReprO, isBl, Z.strAt, yEq0, yNe0, GF.zForG, GF.zLcG, GF.zListG, yIsi, tyAt, clsAt, ki_int_int, ki_bool_int, ki_none_int, ki_str_int, ki_list_int, ki_tuple_int, ki_int_bool, ki_bool_bool, ki_none_bool, ki_str_bool, ki_list_bool, ki_tuple_bool, zMakeV, tRz, zNever]
  exact k H8 ((h3.trans h37).trans h8)
/-! ### the law -/
theorem ways_sh : SeqAt.shaped (dutyD Ways) = true := shaped_of (duty_lay (by unfold DOk; decide +kernel)).1 (duty_lay (by unfold DOk; decide +kernel)).2 (by decide)
theorem rd_law (T : Top K mg) : ∀ vs H Q E, sp_law K vs H Q E → t_law K { nx := fun _ H' => Q .non H', rt := Q } (start nm_law vs) H := by
  rintro vs H Q E ⟨a, ns, rfl, hs, len, only, q⟩
  rw [start_law]
  unfold t_law t_law_1
  have szl := sizeLine_eq
  try simp only [tSeq, tAsg, tIfS, tRet, tRetN, tDrop, tNext, tPar, tPar3, gName, gSub, gTup, gCons, gNil, zV, tC, tOp, tUn, tCons, tNil, tLst, tTup, tIf, tAnd, tOr, tNot, tYes, zB, zAnd, zOr, zNot, zChain, tDNewK, yAdd, ySub, yMul, yDiv, yMod, yPow, yNeg, yLt, yLe, yGt, yGe, yEq, yNe, yIs0, yNotIs0, yIx, ySet, yIn, sqAt, isNone, zFld, zSetF, insAt, zMeth, zProp, tCall, tMake, tCB, yLen, yAbs, yMax2, yMin2, yList, yTuple, yDict0, zLM, yApp, isLst, dkAt, keyOf, zGet1, zGet2, zPop1, zPop2, zForR1, zForR2, zForL, zForT, Z.intAt, refAt, zLc, iR1, iR2, iL, iT, wipe, List.getElem?_cons_zero, List.getElem?_cons_succ, List.set_cons_zero, List.set_cons_succ, List.cons_append, List.nil_append, List.append_nil, upd_same, at0, at1, at2, ix0, ix1, ix2, upd_upd, ite_true, ite_false, if_true, if_false, Bool.false_eq_true, decide_true, decide_false, reduceIte, true_and, and_true, Option.isSome_none, Option.isSome_some, Bool.not_false, Bool.not_true, zTupA, zLstA, yAddA, yMulA, sliceA, zS2A, zSAA, zSBA, yListA, yTupleA, zForE, yNeO, yReprB, tMakeN, zSlA, zSlB, wOnly, tCallN, zForR3, zMatch, zCase, zMethS, zRaiseO, yPopAt, zSl2, yIsiT, tysAt, zBInit, zOst, tXf, wAs, tMkO, zFmt, zJs, zJoin, yStr1, gLst, zCM, zListR1, zListR2, zLenR1, iR3, yInt1, yEqO, yAndO, yInO, yLenO, yReprO, isBl, Z.strAt, yEq0, yNe0, GF.zForG, GF.zLcG, GF.zListG, yIsi, tyAt, clsAt, ki_int_int, ki_bool_int, ki_none_int, ki_str_int, ki_list_int, ki_tuple_int, ki_int_bool, ki_bool_bool, ki_none_bool, ki_str_bool, ki_list_bool, ki_tuple_bool, zMakeV, tRz, zNever]
  refine ⟨by show 9 ≤ sizeLine; omega, fun l1 H1 _ h1 e1 => ?_⟩
  have F1 : ArgsAt K H1 l1 firstS none := ⟨.non, e1, rfl⟩
  unfold t_law_2
  try simp only [tSeq, tAsg, tIfS, tRet, tRetN, tDrop, tNext, tPar, tPar3, gName, gSub, gTup, gCons, gNil, zV, tC, tOp, tUn, tCons, tNil, tLst, tTup, tIf, tAnd, tOr, tNot, tYes, zB, zAnd, zOr, zNot, zChain, tDNewK, yAdd, ySub, yMul, yDiv, yMod, yPow, yNeg, yLt, yLe, yGt, yGe, yEq, yNe, yIs0, yNotIs0, yIx, ySet, yIn, sqAt, isNone, zFld, zSetF, insAt, zMeth, zProp, tCall, tMake, tCB, yLen, yAbs, yMax2, yMin2, yList, yTuple, yDict0, zLM, yApp, isLst, dkAt, keyOf, zGet1, zGet2, zPop1, zPop2, zForR1, zForR2, zForL, zForT, Z.intAt, refAt, zLc, iR1, iR2, iL, iT, wipe, List.getElem?_cons_zero, List.getElem?_cons_succ, List.set_cons_zero, List.set_cons_succ, List.cons_append, List.nil_append, List.append_nil, upd_same, at0, at1, at2, ix0, ix1, ix2, upd_upd, ite_true, ite_false, if_true, if_false, Bool.false_eq_true, decide_true, decide_false, reduceIte, true_and, and_true, Option.isSome_none, Option.isSome_some, Bool.not_false, Bool.not_true, zTupA, zLstA, yAddA, yMulA, sliceA, zS2A, zSAA, zSBA, yListA, yTupleA, zForE, yNeO, yReprB, tMakeN, zSlA, zSlB, wOnly, tCallN, zForR3, zMatch, zCase, zMethS, zRaiseO, yPopAt, zSl2, yIsiT, tysAt, zBInit, zOst, tXf, wAs, tMkO, zFmt, zJs, zJoin, yStr1, gLst, zCM, zListR1, zListR2, zLenR1, iR3, yInt1, yEqO, yAndO, yInO, yLenO, yReprO, isBl, Z.strAt, yEq0, yNe0, GF.zForG, GF.zLcG, GF.zListG, yIsi, tyAt, clsAt, ki_int_int, ki_bool_int, ki_none_int, ki_str_int, ki_list_int, ki_tuple_int, ki_int_bool, ki_bool_bool, ki_none_bool, ki_str_bool, ki_list_bool, ki_tuple_bool, zMakeV, tRz, zNever]
  refine ⟨rfl, rfl, mk_set (S := firstS) first_ok fun s2 b2 H2 _ h2 S2 B2 => ?_⟩
  try simp only [tSeq, tAsg, tIfS, tRet, tRetN, tDrop, tNext, tPar, tPar3, gName, gSub, gTup, gCons, gNil, zV, tC, tOp, tUn, tCons, tNil, tLst, tTup, tIf, tAnd, tOr, tNot, tYes, zB, zAnd, zOr, zNot, zChain, tDNewK, yAdd, ySub, yMul, yDiv, yMod, yPow, yNeg, yLt, yLe, yGt, yGe, yEq, yNe, yIs0, yNotIs0, yIx, ySet, yIn, sqAt, isNone, zFld, zSetF, insAt, zMeth, zProp, tCall, tMake, tCB, yLen, yAbs, yMax2, yMin2, yList, yTuple, yDict0, zLM, yApp, isLst, dkAt, keyOf, zGet1, zGet2, zPop1, zPop2, zForR1, zForR2, zForL, zForT, Z.intAt, refAt, zLc, iR1, iR2, iL, iT, wipe, List.getElem?_cons_zero, List.getElem?_cons_succ, List.set_cons_zero, List.set_cons_succ, List.cons_append, List.nil_append, List.append_nil, upd_same, at0, at1, at2, ix0, ix1, ix2, upd_upd, ite_true, ite_false, if_true, if_false, Bool.false_eq_true, decide_true, decide_false, reduceIte, true_and, and_true, Option.isSome_none, Option.isSome_some, Bool.not_false, Bool.not_true, zTupA, zLstA, yAddA, yMulA, sliceA, zS2A, zSAA, zSBA, yListA, yTupleA, zForE, yNeO, yReprB, tMakeN, zSlA, zSlB, wOnly, tCallN, zForR3, zMatch, zCase, zMethS, zRaiseO, yPopAt, zSl2, yIsiT, tysAt, zBInit, zOst, tXf, wAs, tMkO, zFmt, zJs, zJoin, yStr1, gLst, zCM, zListR1, zListR2, zLenR1, iR3, yInt1, yEqO, yAndO, yInO, yLenO, yReprO, isBl, Z.strAt, yEq0, yNe0, GF.zForG, GF.zLcG, GF.zListG, yIsi, tyAt, clsAt, ki_int_int, ki_bool_int, ki_none_int, ki_str_int, ki_list_int, ki_tuple_int, ki_int_bool, ki_bool_bool, ki_none_bool, ki_str_bool, ki_list_bool, ki_tuple_bool, zMakeV, tRz, zNever]
  refine ⟨s2, b2, l1, firstS, none, rfl, S2, B2, F1.same h2, first_ok, (fun _ e => by cases e), fun H3 h3 => ?_⟩
  try simp only [tSeq, tAsg, tIfS, tRet, tRetN, tDrop, tNext, tPar, tPar3, gName, gSub, gTup, gCons, gNil, zV, tC, tOp, tUn, tCons, tNil, tLst, tTup, tIf, tAnd, tOr, tNot, tYes, zB, zAnd, zOr, zNot, zChain, tDNewK, yAdd, ySub, yMul, yDiv, yMod, yPow, yNeg, yLt, yLe, yGt, yGe, yEq, yNe, yIs0, yNotIs0, yIx, ySet, yIn, sqAt, isNone, zFld, zSetF, insAt, zMeth, zProp, tCall, tMake, tCB, yLen, yAbs, yMax2, yMin2, yList, yTuple, yDict0, zLM, yApp, isLst, dkAt, keyOf, zGet1, zGet2, zPop1, zPop2, zForR1, zForR2, zForL, zForT, Z.intAt, refAt, zLc, iR1, iR2, iL, iT, wipe, List.getElem?_cons_zero, List.getElem?_cons_succ, List.set_cons_zero, List.set_cons_succ, List.cons_append, List.nil_append, List.append_nil, upd_same, at0, at1, at2, ix0, ix1, ix2, upd_upd, ite_true, ite_false, if_true, if_false, Bool.false_eq_true, decide_true, decide_false, reduceIte, true_and, and_true, Option.isSome_none, Option.isSome_some, Bool.not_false, Bool.not_true, zTupA, zLstA, yAddA, yMulA, sliceA, zS2A, zSAA, zSBA, yListA, yTupleA, zForE, yNeO, yReprB, tMakeN, zSlA, zSlB, wOnly, tCallN, zForR3, zMatch, zCase, zMethS, zRaiseO, yPopAt, zSl2, yIsiT, tysAt, zBInit, zOst, tXf, wAs, tMkO, zFmt, zJs, zJoin, yStr1, gLst, zCM, zListR1, zListR2, zLenR1, iR3, yInt1, yEqO, yAndO, yInO, yLenO, yReprO, isBl, Z.strAt, yEq0, yNe0, GF.zForG, GF.zLcG, GF.zListG, yIsi, tyAt, clsAt, ki_int_int, ki_bool_int, ki_none_int, ki_str_int, ki_list_int, ki_tuple_int, ki_int_bool, ki_bool_bool, ki_none_bool, ki_str_bool, ki_list_bool, ki_tuple_bool, zMakeV, tRz, zNever]
  refine ⟨by show 3 ≤ sizeLine; omega, fun p4 H4 _ h4 e4 => ?_⟩
  try simp only [tSeq, tAsg, tIfS, tRet, tRetN, tDrop, tNext, tPar, tPar3, gName, gSub, gTup, gCons, gNil, zV, tC, tOp, tUn, tCons, tNil, tLst, tTup, tIf, tAnd, tOr, tNot, tYes, zB, zAnd, zOr, zNot, zChain, tDNewK, yAdd, ySub, yMul, yDiv, yMod, yPow, yNeg, yLt, yLe, yGt, yGe, yEq, yNe, yIs0, yNotIs0, yIx, ySet, yIn, sqAt, isNone, zFld, zSetF, insAt, zMeth, zProp, tCall, tMake, tCB, yLen, yAbs, yMax2, yMin2, yList, yTuple, yDict0, zLM, yApp, isLst, dkAt, keyOf, zGet1, zGet2, zPop1, zPop2, zForR1, zForR2, zForL, zForT, Z.intAt, refAt, zLc, iR1, iR2, iL, iT, wipe, List.getElem?_cons_zero, List.getElem?_cons_succ, List.set_cons_zero, List.set_cons_succ, List.cons_append, List.nil_append, List.append_nil, upd_same, at0, at1, at2, ix0, ix1, ix2, upd_upd, ite_true, ite_false, if_true, if_false, Bool.false_eq_true, decide_true, decide_false, reduceIte, true_and, and_true, Option.isSome_none, Option.isSome_some, Bool.not_false, Bool.not_true, zTupA, zLstA, yAddA, yMulA, sliceA, zS2A, zSAA, zSBA, yListA, yTupleA, zForE, yNeO, yReprB, tMakeN, zSlA, zSlB, wOnly, tCallN, zForR3, zMatch, zCase, zMethS, zRaiseO, yPopAt, zSl2, yIsiT, tysAt, zBInit, zOst, tXf, wAs, tMkO, zFmt, zJs, zJoin, yStr1, gLst, zCM, zListR1, zListR2, zLenR1, iR3, yInt1, yEqO, yAndO, yInO, yLenO, yReprO, isBl, Z.strAt, yEq0, yNe0, GF.zForG, GF.zLcG, GF.zListG, yIsi, tyAt, clsAt, ki_int_int, ki_bool_int, ki_none_int, ki_str_int, ki_list_int, ki_tuple_int, ki_int_bool, ki_bool_bool, ki_none_bool, ki_str_bool, ki_list_bool, ki_tuple_bool, zMakeV, tRz, zNever]
  refine ⟨dutyD Ways, dutyD Ways, duty_of (T.t_DIRECTIONS _), duty_of (SqT.of e4), ways_sh, ways_sh, ?_⟩
  rw [SeqAt.eqv_refl _ (SeqAt.canLay_of_shaped ways_sh)]
  unfold t_law_3
  try simp only [tSeq, tAsg, tIfS, tRet, tRetN, tDrop, tNext, tPar, tPar3, gName, gSub, gTup, gCons, gNil, zV, tC, tOp, tUn, tCons, tNil, tLst, tTup, tIf, tAnd, tOr, tNot, tYes, zB, zAnd, zOr, zNot, zChain, tDNewK, yAdd, ySub, yMul, yDiv, yMod, yPow, yNeg, yLt, yLe, yGt, yGe, yEq, yNe, yIs0, yNotIs0, yIx, ySet, yIn, sqAt, isNone, zFld, zSetF, insAt, zMeth, zProp, tCall, tMake, tCB, yLen, yAbs, yMax2, yMin2, yList, yTuple, yDict0, zLM, yApp, isLst, dkAt, keyOf, zGet1, zGet2, zPop1, zPop2, zForR1, zForR2, zForL, zForT, Z.intAt, refAt, zLc, iR1, iR2, iL, iT, wipe, List.getElem?_cons_zero, List.getElem?_cons_succ, List.set_cons_zero, List.set_cons_succ, List.cons_append, List.nil_append, List.append_nil, upd_same, at0, at1, at2, ix0, ix1, ix2, upd_upd, ite_true, ite_false, if_true, if_false, Bool.false_eq_true, decide_true, decide_false, reduceIte, true_and, and_true, Option.isSome_none, Option.isSome_some, Bool.not_false, Bool.not_true, zTupA, zLstA, yAddA, yMulA, sliceA, zS2A, zSAA, zSBA, yListA, yTupleA, zForE, yNeO, yReprB, tMakeN, zSlA, zSlB, wOnly, tCallN, zForR3, zMatch, zCase, zMethS, zRaiseO, yPopAt, zSl2, yIsiT, tysAt, zBInit, zOst, tXf, wAs, tMkO, zFmt, zJs, zJoin, yStr1, gLst, zCM, zListR1, zListR2, zLenR1, iR3, yInt1, yEqO, yAndO, yInO, yLenO, yReprO, isBl, Z.strAt, yEq0, yNe0, GF.zForG, GF.zLcG, GF.zListG, yIsi, tyAt, clsAt, ki_int_int, ki_bool_int, ki_none_int, ki_str_int, ki_list_int, ki_tuple_int, ki_int_bool, ki_bool_bool, ki_none_bool, ki_str_bool, ki_list_bool, ki_tuple_bool, zMakeV, tRz, zNever]
  refine ⟨rfl, rfl, mk_book (std_dp T _) std_ok fun b5 H5 _ h5 B5 => ?_⟩
  have h14 := (h2.trans h3).trans h4
  refine ⟨l1, firstS, none, rfl, F1.same (h14.trans h5), fun l6 H6 h6 A6 => ?_⟩
  obtain ⟨v9', a6, d6, u1, u2, u3, u4, u5, rfl, ad6, dp6⟩ := id A6
  try simp only [tSeq, tAsg, tIfS, tRet, tRetN, tDrop, tNext, tPar, tPar3, gName, gSub, gTup, gCons, gNil, zV, tC, tOp, tUn, tCons, tNil, tLst, tTup, tIf, tAnd, tOr, tNot, tYes, zB, zAnd, zOr, zNot, zChain, tDNewK, yAdd, ySub, yMul, yDiv, yMod, yPow, yNeg, yLt, yLe, yGt, yGe, yEq, yNe, yIs0, yNotIs0, yIx, ySet, yIn, sqAt, isNone, zFld, zSetF, insAt, zMeth, zProp, tCall, tMake, tCB, yLen, yAbs, yMax2, yMin2, yList, yTuple, yDict0, zLM, yApp, isLst, dkAt, keyOf, zGet1, zGet2, zPop1, zPop2, zForR1, zForR2, zForL, zForT, Z.intAt, refAt, zLc, iR1, iR2, iL, iT, wipe, List.getElem?_cons_zero, List.getElem?_cons_succ, List.set_cons_zero, List.set_cons_succ, List.cons_append, List.nil_append, List.append_nil, upd_same, at0, at1, at2, ix0, ix1, ix2, upd_upd, ite_true, ite_false, if_true, if_false, Bool.false_eq_true, decide_true, decide_false, reduceIte, true_and, and_true, Option.isSome_none, Option.isSome_some, Bool.not_false, Bool.not_true, zTupA, zLstA, yAddA, yMulA, sliceA, zS2A, zSAA, zSBA, yListA, yTupleA, zForE, yNeO, yReprB, tMakeN, zSlA, zSlB, wOnly, tCallN, zForR3, zMatch, zCase, zMethS, zRaiseO, yPopAt, zSl2, yIsiT, tysAt, zBInit, zOst, tXf, wAs, tMkO, zFmt, zJs, zJoin, yStr1, gLst, zCM, zListR1, zListR2, zLenR1, iR3, yInt1, yEqO, yAndO, yInO, yLenO, yReprO, isBl, Z.strAt, yEq0, yNe0, GF.zForG, GF.zLcG, GF.zListG, yIsi, tyAt, clsAt, ki_int_int, ki_bool_int, ki_none_int, ki_str_int, ki_list_int, ki_tuple_int, ki_int_bool, ki_bool_bool, ki_none_bool, ki_str_bool, ki_list_bool, ki_tuple_bool, zMakeV, tRz, zNever, a6, at8']
  refine ⟨d6, u1, u2, u3, u4, u5, _, rfl, ad6, dp6, std_ok, fun b7 H7 h7 B7 => ?_⟩
  obtain ⟨dx5, f5, e5⟩ := (B5.same (h6.trans h7)).ins
  obtain ⟨dx7, f7, e7⟩ := B7.ins
  try simp only [tSeq, tAsg, tIfS, tRet, tRetN, tDrop, tNext, tPar, tPar3, gName, gSub, gTup, gCons, gNil, zV, tC, tOp, tUn, tCons, tNil, tLst, tTup, tIf, tAnd, tOr, tNot, tYes, zB, zAnd, zOr, zNot, zChain, tDNewK, yAdd, ySub, yMul, yDiv, yMod, yPow, yNeg, yLt, yLe, yGt, yGe, yEq, yNe, yIs0, yNotIs0, yIx, ySet, yIn, sqAt, isNone, zFld, zSetF, insAt, zMeth, zProp, tCall, tMake, tCB, yLen, yAbs, yMax2, yMin2, yList, yTuple, yDict0, zLM, yApp, isLst, dkAt, keyOf, zGet1, zGet2, zPop1, zPop2, zForR1, zForR2, zForL, zForT, Z.intAt, refAt, zLc, iR1, iR2, iL, iT, wipe, List.getElem?_cons_zero, List.getElem?_cons_succ, List.set_cons_zero, List.set_cons_succ, List.cons_append, List.nil_append, List.append_nil, upd_same, at0, at1, at2, ix0, ix1, ix2, upd_upd, ite_true, ite_false, if_true, if_false, Bool.false_eq_true, decide_true, decide_false, reduceIte, true_and, and_true, Option.isSome_none, Option.isSome_some, Bool.not_false, Bool.not_true, zTupA, zLstA, yAddA, yMulA, sliceA, zS2A, zSAA, zSBA, yListA, yTupleA, zForE, yNeO, yReprB, tMakeN, zSlA, zSlB, wOnly, tCallN, zForR3, zMatch, zCase, zMethS, zRaiseO, yPopAt, zSl2, yIsiT, tysAt, zBInit, zOst, tXf, wAs, tMkO, zFmt, zJs, zJoin, yStr1, gLst, zCM, zListR1, zListR2, zLenR1, iR3, yInt1, yEqO, yAndO, yInO, yLenO, yReprO, isBl, Z.strAt, yEq0, yNe0, GF.zForG, GF.zLcG, GF.zListG, yIsi, tyAt, clsAt, ki_int_int, ki_bool_int, ki_none_int, ki_str_int, ki_list_int, ki_tuple_int, ki_int_bool, ki_bool_bool, ki_none_bool, ki_str_bool, ki_list_bool, ki_tuple_bool, zMakeV, tRz, zNever, e5, e7]
  refine ⟨T.i_Book, nf_own, b5, _, .ref b7, rfl, B5.same (h6.trans h7), .inl ⟨b7, _, rfl, B7, fun H8 h8 => ?_⟩⟩
  show isBl _ (.bl (eqD stdD stdD)) H8
  rw [eqD_refl std_ok]
  try simp only [tSeq, tAsg, tIfS, tRet, tRetN, tDrop, tNext, tPar, tPar3, gName, gSub, gTup, gCons, gNil, zV, tC, tOp, tUn, tCons, tNil, tLst, tTup, tIf, tAnd, tOr, tNot, tYes, zB, zAnd, zOr, zNot, zChain, tDNewK, yAdd, ySub, yMul, yDiv, yMod, yPow, yNeg, yLt, yLe, yGt, yGe, yEq, yNe, yIs0, yNotIs0, yIx, ySet, yIn, sqAt, isNone, zFld, zSetF, insAt, zMeth, zProp, tCall, tMake, tCB, yLen, yAbs, yMax2, yMin2, yList, yTuple, yDict0, zLM, yApp, isLst, dkAt, keyOf, zGet1, zGet2, zPop1, zPop2, zForR1, zForR2, zForL, zForT, Z.intAt, refAt, zLc, iR1, iR2, iL, iT, wipe, List.getElem?_cons_zero, List.getElem?_cons_succ, List.set_cons_zero, List.set_cons_succ, List.cons_append, List.nil_append, List.append_nil, upd_same, at0, at1, at2, ix0, ix1, ix2, upd_upd, ite_true, ite_false, if_true, if_false, Bool.false_eq_true, decide_true, decide_false, reduceIte, true_and, and_true, Option.isSome_none, Option.isSome_some, Bool.not_false, Bool.not_true, zTupA, zLstA, yAddA, yMulA, sliceA, zS2A, zSAA, zSBA, yListA, yTupleA, zForE, yNeO, yReprB, tMakeN, zSlA, zSlB, wOnly, tCallN, zForR3, zMatch, zCase, zMethS, zRaiseO, yPopAt, zSl2, yIsiT, tysAt, zBInit, zOst, tXf, wAs, tMkO, zFmt, zJs, zJoin, yStr1, gLst, zCM, zListR1, zListR2, zLenR1, iR3, yInt1, yEqO, yAndO, yInO, yLenO, yReprO, isBl, Z.strAt, yEq0, yNe0, GF.zForG, GF.zLcG, GF.zListG, yIsi, tyAt, clsAt, ki_int_int, ki_bool_int, ki_none_int, ki_str_int, ki_list_int, ki_tuple_int, ki_int_bool, ki_bool_bool, ki_none_bool, ki_str_bool, ki_list_bool, ki_tuple_bool, zMakeV, tRz, zNever]
  have h18 := (h14.trans h5).trans ((h6.trans h7).trans h8)
  have s8 := h1.trans h18
  have F8 := F1.same h18
  have l18 : H1 l1 ≠ none := fun e => by rw [e1] at e; cases e
  clear h18 h14 h2 h3 h4 h5 h6 h7 h8 e4 S2 B2 B5 A6 a6 ad6 dp6 B7 e5 e7 F1 h1 e1
  have la : SqL K H8 a (ns.map V.int) := s8.seq hs
  unfold t_law_4
  try simp only [tSeq, tAsg, tIfS, tRet, tRetN, tDrop, tNext, tPar, tPar3, gName, gSub, gTup, gCons, gNil, zV, tC, tOp, tUn, tCons, tNil, tLst, tTup, tIf, tAnd, tOr, tNot, tYes, zB, zAnd, zOr, zNot, zChain, tDNewK, yAdd, ySub, yMul, yDiv, yMod, yPow, yNeg, yLt, yLe, yGt, yGe, yEq, yNe, yIs0, yNotIs0, yIx, ySet, yIn, sqAt, isNone, zFld, zSetF, insAt, zMeth, zProp, tCall, tMake, tCB, yLen, yAbs, yMax2, yMin2, yList, yTuple, yDict0, zLM, yApp, isLst, dkAt, keyOf, zGet1, zGet2, zPop1, zPop2, zForR1, zForR2, zForL, zForT, Z.intAt, refAt, zLc, iR1, iR2, iL, iT, wipe, List.getElem?_cons_zero, List.getElem?_cons_succ, List.set_cons_zero, List.set_cons_succ, List.cons_append, List.nil_append, List.append_nil, upd_same, at0, at1, at2, ix0, ix1, ix2, upd_upd, ite_true, ite_false, if_true, if_false, Bool.false_eq_true, decide_true, decide_false, reduceIte, true_and, and_true, Option.isSome_none, Option.isSome_some, Bool.not_false, Bool.not_true, zTupA, zLstA, yAddA, yMulA, sliceA, zS2A, zSAA, zSBA, yListA, yTupleA, zForE, yNeO, yReprB, tMakeN, zSlA, zSlB, wOnly, tCallN, zForR3, zMatch, zCase, zMethS, zRaiseO, yPopAt, zSl2, yIsiT, tysAt, zBInit, zOst, tXf, wAs, tMkO, zFmt, zJs, zJoin, yStr1, gLst, zCM, zListR1, zListR2, zLenR1, iR3, yInt1, yEqO, yAndO, yInO, yLenO, yReprO, isBl, Z.strAt, yEq0, yNe0, GF.zForG, GF.zLcG, GF.zListG, yIsi, tyAt, clsAt, ki_int_int, ki_bool_int, ki_none_int, ki_str_int, ki_list_int, ki_tuple_int, ki_int_bool, ki_bool_bool, ki_none_bool, ki_str_bool, ki_list_bool, ki_tuple_bool, zMakeV, tRz, zNever]
  refine ⟨a, _, rfl, la, ?_⟩
  try simp only [tSeq, tAsg, tIfS, tRet, tRetN, tDrop, tNext, tPar, tPar3, gName, gSub, gTup, gCons, gNil, zV, tC, tOp, tUn, tCons, tNil, tLst, tTup, tIf, tAnd, tOr, tNot, tYes, zB, zAnd, zOr, zNot, zChain, tDNewK, yAdd, ySub, yMul, yDiv, yMod, yPow, yNeg, yLt, yLe, yGt, yGe, yEq, yNe, yIs0, yNotIs0, yIx, ySet, yIn, sqAt, isNone, zFld, zSetF, insAt, zMeth, zProp, tCall, tMake, tCB, yLen, yAbs, yMax2, yMin2, yList, yTuple, yDict0, zLM, yApp, isLst, dkAt, keyOf, zGet1, zGet2, zPop1, zPop2, zForR1, zForR2, zForL, zForT, Z.intAt, refAt, zLc, iR1, iR2, iL, iT, wipe, List.getElem?_cons_zero, List.getElem?_cons_succ, List.set_cons_zero, List.set_cons_succ, List.cons_append, List.nil_append, List.append_nil, upd_same, at0, at1, at2, ix0, ix1, ix2, upd_upd, ite_true, ite_false, if_true, if_false, Bool.false_eq_true, decide_true, decide_false, reduceIte, true_and, and_true, Option.isSome_none, Option.isSome_some, Bool.not_false, Bool.not_true, zTupA, zLstA, yAddA, yMulA, sliceA, zS2A, zSAA, zSBA, yListA, yTupleA, zForE, yNeO, yReprB, tMakeN, zSlA, zSlB, wOnly, tCallN, zForR3, zMatch, zCase, zMethS, zRaiseO, yPopAt, zSl2, yIsiT, tysAt, zBInit, zOst, tXf, wAs, tMkO, zFmt, zJs, zJoin, yStr1, gLst, zCM, zListR1, zListR2, zLenR1, iR3, yInt1, yEqO, yAndO, yInO, yLenO, yReprO, isBl, Z.strAt, yEq0, yNe0, GF.zForG, GF.zLcG, GF.zListG, yIsi, tyAt, clsAt, ki_int_int, ki_bool_int, ki_none_int, ki_str_int, ki_list_int, ki_tuple_int, ki_int_bool, ki_bool_bool, ki_none_bool, ki_str_bool, ki_list_bool, ki_tuple_bool, zMakeV, tRz, zNever]
  generalize hN : (if (if (↑(List.map V.int ns).length : Int) < 6 then ↑(List.map V.int ns).length else (6 : Int)) > 2 then if (↑(List.map V.int ns).length : Int) < 6 then ↑(List.map V.int ns).length else (6 : Int) else 2) = N
  have hN2 : 0 ≤ N ∧ N ≤ 6 := by rw [← hN]; split <;> (try split) <;> omega
  clear hN
  refine ⟨⟨by omega, by omega⟩, loopR (fun _ σ H => (∃ v2 v3 v4 v5 v6 v7 v8 v9, σ = [some (.ref a), some (.ref l1), v2, v3, v4, v5, v6, v7, v8, v9]) ∧ Same H8 H) ⟨⟨_, _, _, _, _, _, _, _, rfl⟩, Same.refl H8⟩ ?_ ?_⟩
  · rintro i σ G1 hi ⟨⟨v2, v3, v4, v5, v6, v7, v8, v9, rfl⟩, g1⟩
    unfold t_law_4b_1
    try simp only [tSeq, tAsg, tIfS, tRet, tRetN, tDrop, tNext, tPar, tPar3, gName, gSub, gTup, gCons, gNil, zV, tC, tOp, tUn, tCons, tNil, tLst, tTup, tIf, tAnd, tOr, tNot, tYes, zB, zAnd, zOr, zNot, zChain, tDNewK, yAdd, ySub, yMul, yDiv, yMod, yPow, yNeg, yLt, yLe, yGt, yGe, yEq, yNe, yIs0, yNotIs0, yIx, ySet, yIn, sqAt, isNone, zFld, zSetF, insAt, zMeth, zProp, tCall, tMake, tCB, yLen, yAbs, yMax2, yMin2, yList, yTuple, yDict0, zLM, yApp, isLst, dkAt, keyOf, zGet1, zGet2, zPop1, zPop2, zForR1, zForR2, zForL, zForT, Z.intAt, refAt, zLc, iR1, iR2, iL, iT, wipe, List.getElem?_cons_zero, List.getElem?_cons_succ, List.set_cons_zero, List.set_cons_succ, List.cons_append, List.nil_append, List.append_nil, upd_same, at0, at1, at2, ix0, ix1, ix2, upd_upd, ite_true, ite_false, if_true, if_false, Bool.false_eq_true, decide_true, decide_false, reduceIte, true_and, and_true, Option.isSome_none, Option.isSome_some, Bool.not_false, Bool.not_true, zTupA, zLstA, yAddA, yMulA, sliceA, zS2A, zSAA, zSBA, yListA, yTupleA, zForE, yNeO, yReprB, tMakeN, zSlA, zSlB, wOnly, tCallN, zForR3, zMatch, zCase, zMethS, zRaiseO, yPopAt, zSl2, yIsiT, tysAt, zBInit, zOst, tXf, wAs, tMkO, zFmt, zJs, zJoin, yStr1, gLst, zCM, zListR1, zListR2, zLenR1, iR3, yInt1, yEqO, yAndO, yInO, yLenO, yReprO, isBl, Z.strAt, yEq0, yNe0, GF.zForG, GF.zLcG, GF.zListG, yIsi, tyAt, clsAt, ki_int_int, ki_bool_int, ki_none_int, ki_str_int, ki_list_int, ki_tuple_int, ki_int_bool, ki_bool_bool, ki_none_bool, ki_str_bool, ki_list_bool, ki_tuple_bool, zMakeV, tRz, zNever]
    refine ⟨a, _, ns, rfl, g1.seq la, by omega, by omega, fun b o G2 hb g2 hb2 ho => ?_⟩
    have b0 : H8 b = none := g1.free hb
    have g02 := g1.trans g2
    unfold t_law_4b_2
    try simp only [tSeq, tAsg, tIfS, tRet, tRetN, tDrop, tNext, tPar, tPar3, gName, gSub, gTup, gCons, gNil, zV, tC, tOp, tUn, tCons, tNil, tLst, tTup, tIf, tAnd, tOr, tNot, tYes, zB, zAnd, zOr, zNot, zChain, tDNewK, yAdd, ySub, yMul, yDiv, yMod, yPow, yNeg, yLt, yLe, yGt, yGe, yEq, yNe, yIs0, yNotIs0, yIx, ySet, yIn, sqAt, isNone, zFld, zSetF, insAt, zMeth, zProp, tCall, tMake, tCB, yLen, yAbs, yMax2, yMin2, yList, yTuple, yDict0, zLM, yApp, isLst, dkAt, keyOf, zGet1, zGet2, zPop1, zPop2, zForR1, zForR2, zForL, zForT, Z.intAt, refAt, zLc, iR1, iR2, iL, iT, wipe, List.getElem?_cons_zero, List.getElem?_cons_succ, List.set_cons_zero, List.set_cons_succ, List.cons_append, List.nil_append, List.append_nil, upd_same, at0, at1, at2, ix0, ix1, ix2, upd_upd, ite_true, ite_false, if_true, if_false, Bool.false_eq_true, decide_true, decide_false, reduceIte, true_and, and_true, Option.isSome_none, Option.isSome_some, Bool.not_false, Bool.not_true, zTupA, zLstA, yAddA, yMulA, sliceA, zS2A, zSAA, zSBA, yListA, yTupleA, zForE, yNeO, yReprB, tMakeN, zSlA, zSlB, wOnly, tCallN, zForR3, zMatch, zCase, zMethS, zRaiseO, yPopAt, zSl2, yIsiT, tysAt, zBInit, zOst, tXf, wAs, tMkO, zFmt, zJs, zJoin, yStr1, gLst, zCM, zListR1, zListR2, zLenR1, iR3, yInt1, yEqO, yAndO, yInO, yLenO, yReprO, isBl, Z.strAt, yEq0, yNe0, GF.zForG, GF.zLcG, GF.zListG, yIsi, tyAt, clsAt, ki_int_int, ki_bool_int, ki_none_int, ki_str_int, ki_list_int, ki_tuple_int, ki_int_bool, ki_bool_bool, ki_none_bool, ki_str_bool, ki_list_bool, ki_tuple_bool, zMakeV, tRz, zNever]
    refine ⟨⟨by decide, by decide⟩, loopR (fun _ σ H => (∃ v4 v5 v6 v7 v8 v9, σ = [some (.ref a), some (.ref l1), some (.int (0 + (i : Int))), some (.ref b), v4, v5, v6, v7, v8, v9]) ∧ Same H8 H ∧ BagAt H b) ⟨⟨_, _, _, _, _, _, rfl⟩, g02, ⟨_, hb2, ho⟩⟩ ?_ ?_⟩
    · rintro j σ G3 hj ⟨⟨v4, v5, v6, v7, v8, v9, rfl⟩, g3, B3⟩
      try simp only [tSeq, tAsg, tIfS, tRet, tRetN, tDrop, tNext, tPar, tPar3, gName, gSub, gTup, gCons, gNil, zV, tC, tOp, tUn, tCons, tNil, tLst, tTup, tIf, tAnd, tOr, tNot, tYes, zB, zAnd, zOr, zNot, zChain, tDNewK, yAdd, ySub, yMul, yDiv, yMod, yPow, yNeg, yLt, yLe, yGt, yGe, yEq, yNe, yIs0, yNotIs0, yIx, ySet, yIn, sqAt, isNone, zFld, zSetF, insAt, zMeth, zProp, tCall, tMake, tCB, yLen, yAbs, yMax2, yMin2, yList, yTuple, yDict0, zLM, yApp, isLst, dkAt, keyOf, zGet1, zGet2, zPop1, zPop2, zForR1, zForR2, zForL, zForT, Z.intAt, refAt, zLc, iR1, iR2, iL, iT, wipe, List.getElem?_cons_zero, List.getElem?_cons_succ, List.set_cons_zero, List.set_cons_succ, List.cons_append, List.nil_append, List.append_nil, upd_same, at0, at1, at2, ix0, ix1, ix2, upd_upd, ite_true, ite_false, if_true, if_false, Bool.false_eq_true, decide_true, decide_false, reduceIte, true_and, and_true, Option.isSome_none, Option.isSome_some, Bool.not_false, Bool.not_true, zTupA, zLstA, yAddA, yMulA, sliceA, zS2A, zSAA, zSBA, yListA, yTupleA, zForE, yNeO, yReprB, tMakeN, zSlA, zSlB, wOnly, tCallN, zForR3, zMatch, zCase, zMethS, zRaiseO, yPopAt, zSl2, yIsiT, tysAt, zBInit, zOst, tXf, wAs, tMkO, zFmt, zJs, zJoin, yStr1, gLst, zCM, zListR1, zListR2, zLenR1, iR3, yInt1, yEqO, yAndO, yInO, yLenO, yReprO, isBl, Z.strAt, yEq0, yNe0, GF.zForG, GF.zLcG, GF.zListG, yIsi, tyAt, clsAt, ki_int_int, ki_bool_int, ki_none_int, ki_str_int, ki_list_int, ki_tuple_int, ki_int_bool, ki_bool_bool, ki_none_bool, ki_str_bool, ki_list_bool, ki_tuple_bool, zMakeV, tRz, zNever]
      unfold t_law_4b_2b_1
      try simp only [tSeq, tAsg, tIfS, tRet, tRetN, tDrop, tNext, tPar, tPar3, gName, gSub, gTup, gCons, gNil, zV, tC, tOp, tUn, tCons, tNil, tLst, tTup, tIf, tAnd, tOr, tNot, tYes, zB, zAnd, zOr, zNot, zChain, tDNewK, yAdd, ySub, yMul, yDiv, yMod, yPow, yNeg, yLt, yLe, yGt, yGe, yEq, yNe, yIs0, yNotIs0, yIx, ySet, yIn, sqAt, isNone, zFld, zSetF, insAt, zMeth, zProp, tCall, tMake, tCB, yLen, yAbs, yMax2, yMin2, yList, yTuple, yDict0, zLM, yApp, isLst, dkAt, keyOf, zGet1, zGet2, zPop1, zPop2, zForR1, zForR2, zForL, zForT, Z.intAt, refAt, zLc, iR1, iR2, iL, iT, wipe, List.getElem?_cons_zero, List.getElem?_cons_succ, List.set_cons_zero, List.set_cons_succ, List.cons_append, List.nil_append, List.append_nil, upd_same, at0, at1, at2, ix0, ix1, ix2, upd_upd, ite_true, ite_false, if_true, if_false, Bool.false_eq_true, decide_true, decide_false, reduceIte, true_and, and_true, Option.isSome_none, Option.isSome_some, Bool.not_false, Bool.not_true, zTupA, zLstA, yAddA, yMulA, sliceA, zS2A, zSAA, zSBA, yListA, yTupleA, zForE, yNeO, yReprB, tMakeN, zSlA, zSlB, wOnly, tCallN, zForR3, zMatch, zCase, zMethS, zRaiseO, yPopAt, zSl2, yIsiT, tysAt, zBInit, zOst, tXf, wAs, tMkO, zFmt, zJs, zJoin, yStr1, gLst, zCM, zListR1, zListR2, zLenR1, iR3, yInt1, yEqO, yAndO, yInO, yLenO, yReprO, isBl, Z.strAt, yEq0, yNe0, GF.zForG, GF.zLcG, GF.zListG, yIsi, tyAt, clsAt, ki_int_int, ki_bool_int, ki_none_int, ki_str_int, ki_list_int, ki_tuple_int, ki_int_bool, ki_bool_bool, ki_none_bool, ki_str_bool, ki_list_bool, ki_tuple_bool, zMakeV, tRz, zNever]
      obtain ⟨o3, hb3, ho3⟩ := id B3
      refine ⟨b, o3, rfl, hb3, ho3, fun lt S D o4 G4 g4 h4 hb4 n4 ok4 okD4 A4 => ?_⟩
      have s4 : Same H8 G4 := fun c u e => g4 _ _ (g3 _ _ e) (ne_of_none e b0)
      unfold t_law_4b_2b_2
      try simp only [tSeq, tAsg, tIfS, tRet, tRetN, tDrop, tNext, tPar, tPar3, gName, gSub, gTup, gCons, gNil, zV, tC, tOp, tUn, tCons, tNil, tLst, tTup, tIf, tAnd, tOr, tNot, tYes, zB, zAnd, zOr, zNot, zChain, tDNewK, yAdd, ySub, yMul, yDiv, yMod, yPow, yNeg, yLt, yLe, yGt, yGe, yEq, yNe, yIs0, yNotIs0, yIx, ySet, yIn, sqAt, isNone, zFld, zSetF, insAt, zMeth, zProp, tCall, tMake, tCB, yLen, yAbs, yMax2, yMin2, yList, yTuple, yDict0, zLM, yApp, isLst, dkAt, keyOf, zGet1, zGet2, zPop1, zPop2, zForR1, zForR2, zForL, zForT, Z.intAt, refAt, zLc, iR1, iR2, iL, iT, wipe, List.getElem?_cons_zero, List.getElem?_cons_succ, List.set_cons_zero, List.set_cons_succ, List.cons_append, List.nil_append, List.append_nil, upd_same, at0, at1, at2, ix0, ix1, ix2, upd_upd, ite_true, ite_false, if_true, if_false, Bool.false_eq_true, decide_true, decide_false, reduceIte, true_and, and_true, Option.isSome_none, Option.isSome_some, Bool.not_false, Bool.not_true, zTupA, zLstA, yAddA, yMulA, sliceA, zS2A, zSAA, zSBA, yListA, yTupleA, zForE, yNeO, yReprB, tMakeN, zSlA, zSlB, wOnly, tCallN, zForR3, zMatch, zCase, zMethS, zRaiseO, yPopAt, zSl2, yIsiT, tysAt, zBInit, zOst, tXf, wAs, tMkO, zFmt, zJs, zJoin, yStr1, gLst, zCM, zListR1, zListR2, zLenR1, iR3, yInt1, yEqO, yAndO, yInO, yLenO, yReprO, isBl, Z.strAt, yEq0, yNe0, GF.zForG, GF.zLcG, GF.zListG, yIsi, tyAt, clsAt, ki_int_int, ki_bool_int, ki_none_int, ki_str_int, ki_list_int, ki_tuple_int, ki_int_bool, ki_bool_bool, ki_none_bool, ki_str_bool, ki_list_bool, ki_tuple_bool, zMakeV, tRz, zNever]
      obtain ⟨iL, jL, eb4⟩ := BagAt.lst ⟨o4, h4, hb4⟩
      refine ⟨b, lt, o4, S, D, rfl, h4, hb4, ne_bag eb4 A4, A4, ok4, okD4, fun lo S' D' o5 G5 g5 h5 hb5 ok5 okD5 A5 => ?_⟩
      have s5 : Same H8 G5 := fun c u e => g5 _ _ (s4 _ _ e) (ne_of_none e b0)
      have A45 := A4.growL ⟨o4, h4, hb4⟩ g5
      unfold t_law_4b_2b_3
      try simp only [tSeq, tAsg, tIfS, tRet, tRetN, tDrop, tNext, tPar, tPar3, gName, gSub, gTup, gCons, gNil, zV, tC, tOp, tUn, tCons, tNil, tLst, tTup, tIf, tAnd, tOr, tNot, tYes, zB, zAnd, zOr, zNot, zChain, tDNewK, yAdd, ySub, yMul, yDiv, yMod, yPow, yNeg, yLt, yLe, yGt, yGe, yEq, yNe, yIs0, yNotIs0, yIx, ySet, yIn, sqAt, isNone, zFld, zSetF, insAt, zMeth, zProp, tCall, tMake, tCB, yLen, yAbs, yMax2, yMin2, yList, yTuple, yDict0, zLM, yApp, isLst, dkAt, keyOf, zGet1, zGet2, zPop1, zPop2, zForR1, zForR2, zForL, zForT, Z.intAt, refAt, zLc, iR1, iR2, iL, iT, wipe, List.getElem?_cons_zero, List.getElem?_cons_succ, List.set_cons_zero, List.set_cons_succ, List.cons_append, List.nil_append, List.append_nil, upd_same, at0, at1, at2, ix0, ix1, ix2, upd_upd, ite_true, ite_false, if_true, if_false, Bool.false_eq_true, decide_true, decide_false, reduceIte, true_and, and_true, Option.isSome_none, Option.isSome_some, Bool.not_false, Bool.not_true, zTupA, zLstA, yAddA, yMulA, sliceA, zS2A, zSAA, zSBA, yListA, yTupleA, zForE, yNeO, yReprB, tMakeN, zSlA, zSlB, wOnly, tCallN, zForR3, zMatch, zCase, zMethS, zRaiseO, yPopAt, zSl2, yIsiT, tysAt, zBInit, zOst, tXf, wAs, tMkO, zFmt, zJs, zJoin, yStr1, gLst, zCM, zListR1, zListR2, zLenR1, iR3, yInt1, yEqO, yAndO, yInO, yLenO, yReprO, isBl, Z.strAt, yEq0, yNe0, GF.zForG, GF.zLcG, GF.zListG, yIsi, tyAt, clsAt, ki_int_int, ki_bool_int, ki_none_int, ki_str_int, ki_list_int, ki_tuple_int, ki_int_bool, ki_bool_bool, ki_none_bool, ki_str_bool, ki_list_bool, ki_tuple_bool, zMakeV, tRz, zNever]
      refine ⟨lt, S, D, rfl, A45, ok4, okD4, fun s1 b1 G6 g6 S6 B6 => ⟨lo, S', D', rfl, A5.same g6, ok5, okD5, fun s2 b2 G7 g7 S7 B7 => ?_⟩⟩
      try simp only [tSeq, tAsg, tIfS, tRet, tRetN, tDrop, tNext, tPar, tPar3, gName, gSub, gTup, gCons, gNil, zV, tC, tOp, tUn, tCons, tNil, tLst, tTup, tIf, tAnd, tOr, tNot, tYes, zB, zAnd, zOr, zNot, zChain, tDNewK, yAdd, ySub, yMul, yDiv, yMod, yPow, yNeg, yLt, yLe, yGt, yGe, yEq, yNe, yIs0, yNotIs0, yIx, ySet, yIn, sqAt, isNone, zFld, zSetF, insAt, zMeth, zProp, tCall, tMake, tCB, yLen, yAbs, yMax2, yMin2, yList, yTuple, yDict0, zLM, yApp, isLst, dkAt, keyOf, zGet1, zGet2, zPop1, zPop2, zForR1, zForR2, zForL, zForT, Z.intAt, refAt, zLc, iR1, iR2, iL, iT, wipe, List.getElem?_cons_zero, List.getElem?_cons_succ, List.set_cons_zero, List.set_cons_succ, List.cons_append, List.nil_append, List.append_nil, upd_same, at0, at1, at2, ix0, ix1, ix2, upd_upd, ite_true, ite_false, if_true, if_false, Bool.false_eq_true, decide_true, decide_false, reduceIte, true_and, and_true, Option.isSome_none, Option.isSome_some, Bool.not_false, Bool.not_true, zTupA, zLstA, yAddA, yMulA, sliceA, zS2A, zSAA, zSBA, yListA, yTupleA, zForE, yNeO, yReprB, tMakeN, zSlA, zSlB, wOnly, tCallN, zForR3, zMatch, zCase, zMethS, zRaiseO, yPopAt, zSl2, yIsiT, tysAt, zBInit, zOst, tXf, wAs, tMkO, zFmt, zJs, zJoin, yStr1, gLst, zCM, zListR1, zListR2, zLenR1, iR3, yInt1, yEqO, yAndO, yInO, yLenO, yReprO, isBl, Z.strAt, yEq0, yNe0, GF.zForG, GF.zLcG, GF.zListG, yIsi, tyAt, clsAt, ki_int_int, ki_bool_int, ki_none_int, ki_str_int, ki_list_int, ki_tuple_int, ki_int_bool, ki_bool_bool, ki_none_bool, ki_str_bool, ki_list_bool, ki_tuple_bool, zMakeV, tRz, zNever]
      refine ⟨by show 2 ≤ sizeLine; omega, fun p8 G8 _ g8 e8 => ?_⟩
      have g68 := (g6.trans g7).trans g8
      refine ⟨p8, _, rfl, SqT.of e8, rfl, _, _, rfl, _, _, rfl, rfl, ?_⟩
      try simp only [tSeq, tAsg, tIfS, tRet, tRetN, tDrop, tNext, tPar, tPar3, gName, gSub, gTup, gCons, gNil, zV, tC, tOp, tUn, tCons, tNil, tLst, tTup, tIf, tAnd, tOr, tNot, tYes, zB, zAnd, zOr, zNot, zChain, tDNewK, yAdd, ySub, yMul, yDiv, yMod, yPow, yNeg, yLt, yLe, yGt, yGe, yEq, yNe, yIs0, yNotIs0, yIx, ySet, yIn, sqAt, isNone, zFld, zSetF, insAt, zMeth, zProp, tCall, tMake, tCB, yLen, yAbs, yMax2, yMin2, yList, yTuple, yDict0, zLM, yApp, isLst, dkAt, keyOf, zGet1, zGet2, zPop1, zPop2, zForR1, zForR2, zForL, zForT, Z.intAt, refAt, zLc, iR1, iR2, iL, iT, wipe, List.getElem?_cons_zero, List.getElem?_cons_succ, List.set_cons_zero, List.set_cons_succ, List.cons_append, List.nil_append, List.append_nil, upd_same, at0, at1, at2, ix0, ix1, ix2, upd_upd, ite_true, ite_false, if_true, if_false, Bool.false_eq_true, decide_true, decide_false, reduceIte, true_and, and_true, Option.isSome_none, Option.isSome_some, Bool.not_false, Bool.not_true, zTupA, zLstA, yAddA, yMulA, sliceA, zS2A, zSAA, zSBA, yListA, yTupleA, zForE, yNeO, yReprB, tMakeN, zSlA, zSlB, wOnly, tCallN, zForR3, zMatch, zCase, zMethS, zRaiseO, yPopAt, zSl2, yIsiT, tysAt, zBInit, zOst, tXf, wAs, tMkO, zFmt, zJs, zJoin, yStr1, gLst, zCM, zListR1, zListR2, zLenR1, iR3, yInt1, yEqO, yAndO, yInO, yLenO, yReprO, isBl, Z.strAt, yEq0, yNe0, GF.zForG, GF.zLcG, GF.zListG, yIsi, tyAt, clsAt, ki_int_int, ki_bool_int, ki_none_int, ki_str_int, ki_list_int, ki_tuple_int, ki_int_bool, ki_bool_bool, ki_none_bool, ki_str_bool, ki_list_bool, ki_tuple_bool, zMakeV, tRz, zNever]
      have c : Tn K l1 lt lo s1 s2 S S' D D' b1 b2 G8 := ⟨F8.same (s5.trans g68), A45.same g68, A5.same g68, S6.same (g7.trans g8), B6.same (g7.trans g8), S7.same g8, B7.same g8, ok4, ok5, okD4, okD5⟩
      have s8 := s5.trans g68
      have BB : BagAt G8 b := BagAt.same ⟨o5, h5, hb5⟩ g68
      refine turn4 T c fun G9 g9 => ?_
      refine turn5 T (c.same g9) fun G10 g10 => ?_
      refine turn6 T (c.same (g9.trans g10)) fun G11 g11 => ?_
      refine turn7 T (c.same ((g9.trans g10).trans g11)) fun G12 g12 => ?_
      refine turn8 T (c.same (((g9.trans g10).trans g11).trans g12)) fun G13 g13 => ?_
      refine turn9 T (c.same ((((g9.trans g10).trans g11).trans g12).trans g13)) fun G14 g14 => ?_
      refine turn10 T (c.same (((((g9.trans g10).trans g11).trans g12).trans g13).trans g14)) fun G15 g15 => ?_
      have s := (((((g9.trans g10).trans g11).trans g12).trans g13).trans g14).trans g15
      exact ⟨⟨_, _, _, _, _, _, rfl⟩, s8.trans s, BB.same s⟩
    · rintro σ G3 ⟨⟨v4, v5, v6, v7, v8, v9, rfl⟩, g3, B3⟩
      exact ⟨⟨_, _, _, _, _, _, _, _, rfl⟩, g3⟩
  · rintro σ G1 ⟨⟨v2, v3, v4, v5, v6, v7, v8, v9, rfl⟩, g1⟩
    unfold t_law_5
    try simp only [tSeq, tAsg, tIfS, tRet, tRetN, tDrop, tNext, tPar, tPar3, gName, gSub, gTup, gCons, gNil, zV, tC, tOp, tUn, tCons, tNil, tLst, tTup, tIf, tAnd, tOr, tNot, tYes, zB, zAnd, zOr, zNot, zChain, tDNewK, yAdd, ySub, yMul, yDiv, yMod, yPow, yNeg, yLt, yLe, yGt, yGe, yEq, yNe, yIs0, yNotIs0, yIx, ySet, yIn, sqAt, isNone, zFld, zSetF, insAt, zMeth, zProp, tCall, tMake, tCB, yLen, yAbs, yMax2, yMin2, yList, yTuple, yDict0, zLM, yApp, isLst, dkAt, keyOf, zGet1, zGet2, zPop1, zPop2, zForR1, zForR2, zForL, zForT, Z.intAt, refAt, zLc, iR1, iR2, iL, iT, wipe, List.getElem?_cons_zero, List.getElem?_cons_succ, List.set_cons_zero, List.set_cons_succ, List.cons_append, List.nil_append, List.append_nil, upd_same, at0, at1, at2, ix0, ix1, ix2, upd_upd, ite_true, ite_false, if_true, if_false, Bool.false_eq_true, decide_true, decide_false, reduceIte, true_and, and_true, Option.isSome_none, Option.isSome_some, Bool.not_false, Bool.not_true, zTupA, zLstA, yAddA, yMulA, sliceA, zS2A, zSAA, zSBA, yListA, yTupleA, zForE, yNeO, yReprB, tMakeN, zSlA, zSlB, wOnly, tCallN, zForR3, zMatch, zCase, zMethS, zRaiseO, yPopAt, zSl2, yIsiT, tysAt, zBInit, zOst, tXf, wAs, tMkO, zFmt, zJs, zJoin, yStr1, gLst, zCM, zListR1, zListR2, zLenR1, iR3, yInt1, yEqO, yAndO, yInO, yLenO, yReprO, isBl, Z.strAt, yEq0, yNe0, GF.zForG, GF.zLcG, GF.zListG, yIsi, tyAt, clsAt, ki_int_int, ki_bool_int, ki_none_int, ki_str_int, ki_list_int, ki_tuple_int, ki_int_bool, ki_bool_bool, ki_none_bool, ki_str_bool, ki_list_bool, ki_tuple_bool, zMakeV, tRz, zNever]
    exact q _
end

theorem fnF_is_integer {P : Program} {w : World} {K : PySem.W.Frag} {mg : Str → Option Value} {base : Heap} (T : Top K mg) {fd : FuncData} (F : FunD K "is_integer" "is_integer" (defArgs st_is_integer) (defBody st_is_integer) (defScope st_is_integer) [] [] (He.ga K "is_integer") fd) : FnOk P w K mg base C8.CX0 1 (He.ga K "is_integer") fd ["thing"] (sp_is_integer K) := by
  refine Hk.fn_ok (k := 0) F sc_is_integer (ln_sp_is_integer (K := K)) (t := t_is_integer K) (fun cdv A outer s H E hr => ?_) (rd_is_integer T)
  exact (pss_one (ps_ret (e_and (pe_callB c_isi (by rfl) T.f_isinstance (by decide +kernel) (pa_cons (pz 0) (pa_cons (pe_ty (by rfl) T.f_int (by decide +kernel)) pa_nil))) (pe_one (e_not (pe_callB c_isi (by rfl) T.f_isinstance (by decide +kernel) (pa_cons (pz 0) (pa_cons (pe_ty (by rfl) T.f_bool (by decide +kernel)) pa_nil))))))))
theorem fn_is_integer {P : Program} {w : World} {K : PySem.W.Frag} {mg : Str → Option Value} {base : Heap} (T : Top K mg) : ∃ fd, FnOk P w K mg base C8.CX0 1 (He.ga K "is_integer") fd ["thing"] (sp_is_integer K) ∧ PySem.W.keepIn K (.ref (He.ga K "is_integer")) = true ∧ Binds K fd ["thing"] [] := by
  obtain ⟨fd, F⟩ := T.d_is_integer
  exact ⟨fd, fnF_is_integer T F, F.kp, F.bindsN (fun _ _ _ _ _ _ us hl => match us, hl with | [_], _ => rfl)⟩
theorem ok_is_integer {P : Program} {w : World} {K : PySem.W.Frag} {mg : Str → Option Value} {base : Heap} (T : Top K mg) : C8.Cal P w K mg base 1 "is_integer" (sp_is_integer K) [] := by
  obtain ⟨fd, F, kp, b⟩ := fn_is_integer (P := P) (w := w) (base := base) T
  exact ⟨_, fd, _, [], F, T.g_is_integer, kp, b, .nil⟩
theorem fnF_is_from_to {P : Program} {w : World} {K : PySem.W.Frag} {mg : Str → Option Value} {base : Heap} (T : Top K mg) {fd : FuncData} (F : FunD K "is_from_to" "is_from_to" (defArgs st_is_from_to) (defBody st_is_from_to) (defScope st_is_from_to) [] [] (He.ga K "is_from_to") fd) : FnOk P w K mg base C8.CX0 2 (He.ga K "is_from_to") fd ["thing", "least", "most"] (sp_is_from_to K) := by
  refine Hk.fn_ok (k := 1) F sc_is_from_to (ln_sp_is_from_to (K := K)) (t := t_is_from_to K) (fun cdv A outer s H E hr => ?_) (rd_is_from_to T)
  exact (pss_one (ps_ret (e_and (C8.pe_c (ok_is_integer T) hr (by decide) (by rfl) (pa_cons (pz 0) pa_nil)) (pe_one (e_chain o_le o_le (pz 1) (pz 0) (pz 2))))))
theorem fn_is_from_to {P : Program} {w : World} {K : PySem.W.Frag} {mg : Str → Option Value} {base : Heap} (T : Top K mg) : ∃ fd, FnOk P w K mg base C8.CX0 2 (He.ga K "is_from_to") fd ["thing", "least", "most"] (sp_is_from_to K) ∧ PySem.W.keepIn K (.ref (He.ga K "is_from_to")) = true ∧ Binds K fd ["thing", "least", "most"] [] := by
  obtain ⟨fd, F⟩ := T.d_is_from_to
  exact ⟨fd, fnF_is_from_to T F, F.kp, F.bindsN (fun _ _ _ _ _ _ us hl => match us, hl with | [_, _, _], _ => rfl)⟩
theorem ok_is_from_to {P : Program} {w : World} {K : PySem.W.Frag} {mg : Str → Option Value} {base : Heap} (T : Top K mg) : C8.Cal P w K mg base 2 "is_from_to" (sp_is_from_to K) [] := by
  obtain ⟨fd, F, kp, b⟩ := fn_is_from_to (P := P) (w := w) (base := base) T
  exact ⟨_, fd, _, [], F, T.g_is_from_to, kp, b, .nil⟩
theorem fnF_is_duty {P : Program} {w : World} {K : PySem.W.Frag} {mg : Str → Option Value} {base : Heap} (T : Top K mg) {fd : FuncData} (F : FunD K "is_duty" "is_duty" (defArgs st_is_duty) (defBody st_is_duty) (defScope st_is_duty) [] [] (He.ga K "is_duty") fd) : FnOk P w K mg base C8.CX0 1 (He.ga K "is_duty") fd ["told"] (sp_is_duty K) := by
  refine Hk.fn_ok (k := 0) F sc_is_duty (ln_sp_is_duty (K := K)) (t := t_is_duty K) (fun cdv A outer s H E hr => ?_) (rd_is_duty T)
  exact (pss_one (ps_ret (e_and (pe_callB call_isi (by rfl) T.f_isinstance (by decide +kernel) (pa_cons (pz 0) (pa_cons (pe_ty (by rfl) T.f_tuple (by decide +kernel)) pa_nil))) (pe_one (pe_cmpR (o_eq hr.units) (pe_callTy c_listQ (by rfl) T.f_list (by decide +kernel) (pa_cons (pz 0) pa_nil)) (pe_lc (own := [("direction", 1)]) (by rfl) sc_is_duty.nd (i_t (C8.pe_gc (by rfl) ⟨_, T.m_DIRECTIONS, rfl⟩)) (blkOk_by (own := [("direction", 1)]) (N := nm_is_duty) (sc := defScope st_is_duty) (by decide +kernel)) (fun _ _ _ _ _ => (pg_name (i := 1) sc_is_duty.nd rfl (Or.inl rfl))) (fun _ _ _ _ _ => (pts_one (t_cmp op_in_seq (pz 1) (pz 0) (by rfl)))) (fun _ _ _ _ _ => (pz 1))) (nomark _))))))
theorem fn_is_duty {P : Program} {w : World} {K : PySem.W.Frag} {mg : Str → Option Value} {base : Heap} (T : Top K mg) : ∃ fd, FnOk P w K mg base C8.CX0 1 (He.ga K "is_duty") fd ["told"] (sp_is_duty K) ∧ PySem.W.keepIn K (.ref (He.ga K "is_duty")) = true ∧ Binds K fd ["told"] [] := by
  obtain ⟨fd, F⟩ := T.d_is_duty
  exact ⟨fd, fnF_is_duty T F, F.kp, F.bindsN (fun _ _ _ _ _ _ us hl => match us, hl with | [_], _ => rfl)⟩
theorem ok_is_duty {P : Program} {w : World} {K : PySem.W.Frag} {mg : Str → Option Value} {base : Heap} (T : Top K mg) : C8.Cal P w K mg base 1 "is_duty" (sp_is_duty K) [] := by
  obtain ⟨fd, F, kp, b⟩ := fn_is_duty (P := P) (w := w) (base := base) T
  exact ⟨_, fd, _, [], F, T.g_is_duty, kp, b, .nil⟩
theorem fnF_is_word_of {P : Program} {w : World} {K : PySem.W.Frag} {mg : Str → Option Value} {base : Heap} (T : Top K mg) {fd : FuncData} (F : FunD K "is_word_of" "is_word_of" (defArgs st_is_word_of) (defBody st_is_word_of) (defScope st_is_word_of) [] [] (He.ga K "is_word_of") fd) : FnOk P w K mg base C8.CX0 1 (He.ga K "is_word_of") fd ["told", "words"] (sp_is_word_of K) := by
  refine Hk.fn_ok (k := 0) F sc_is_word_of (ln_sp_is_word_of (K := K)) (t := t_is_word_of K) (fun cdv A outer s H E hr => ?_) (rd_is_word_of T)
  exact (pss_one (ps_ret (e_and (pe_callB c_isi (by rfl) T.f_isinstance (by decide +kernel) (pa_cons (pz 0) (pa_cons (pe_ty (by rfl) T.f_str (by decide +kernel)) pa_nil))) (pe_one (pe_cmpR op_in_seq (pz 0) (pz 1) (by rfl))))))
theorem fn_is_word_of {P : Program} {w : World} {K : PySem.W.Frag} {mg : Str → Option Value} {base : Heap} (T : Top K mg) : ∃ fd, FnOk P w K mg base C8.CX0 1 (He.ga K "is_word_of") fd ["told", "words"] (sp_is_word_of K) ∧ PySem.W.keepIn K (.ref (He.ga K "is_word_of")) = true ∧ Binds K fd ["told", "words"] [] := by
  obtain ⟨fd, F⟩ := T.d_is_word_of
  exact ⟨fd, fnF_is_word_of T F, F.kp, F.bindsN (fun _ _ _ _ _ _ us hl => match us, hl with | [_, _], _ => rfl)⟩
theorem ok_is_word_of {P : Program} {w : World} {K : PySem.W.Frag} {mg : Str → Option Value} {base : Heap} (T : Top K mg) : C8.Cal P w K mg base 1 "is_word_of" (sp_is_word_of K) [] := by
  obtain ⟨fd, F, kp, b⟩ := fn_is_word_of (P := P) (w := w) (base := base) T
  exact ⟨_, fd, _, [], F, T.g_is_word_of, kp, b, .nil⟩
theorem fnF_Book___init__ {P : Program} {w : World} {K : PySem.W.Frag} {mg : Str → Option Value} {base : Heap} (T : Top K mg) {fd : FuncData} (F : FunD K "__init__" "Book.__init__" (defArgs st_Book___init__) (defBody st_Book___init__) (defScope st_Book___init__) [] [(("cleaned" : Str), (.ref (He.ga K "DIRECTIONS") : V)), (("dropped" : Str), (.ref (He.ga K "BACK") : V)), (("bind_copied" : Str), (.ref (He.ga K "DIRECTIONS") : V)), (("give_copied" : Str), (.ref (He.ga K "DIRECTIONS") : V)), (("take_copied" : Str), (.ref (He.ga K "BACK") : V))] (He.ma K (He.ga K "Book") "__init__") fd) : FnOk P w K mg base C8.CX0 2 (He.ma K (He.ga K "Book") "__init__") fd ["self", "cleaned", "dropped", "bind_copied", "give_copied", "take_copied"] (sp_Book___init__ K) := by
  refine Hk.fn_okD (k := 1) F sc_Book___init__ (ln_sp_Book___init__ (K := K)) (t := t_Book___init__ K) (fun cdv A outer s H E hr => ?_) (rd_Book___init__ T)
  exact (pss_cons (ps_set (i := 6) sc_Book___init__.nd rfl (Or.inl rfl) (e_tupA (pa_cons (e_tupA (pa_cons pe_str (pa_cons (pz 1) pa_nil))) (pa_cons (e_tupA (pa_cons pe_str (pa_cons (pz 2) pa_nil))) (pa_cons (e_tupA (pa_cons pe_str (pa_cons (pz 3) pa_nil))) (pa_cons (e_tupA (pa_cons pe_str (pa_cons (pz 4) pa_nil))) (pa_cons (e_tupA (pa_cons pe_str (pa_cons (pz 5) pa_nil))) pa_nil))))))) (pss_cons (s_forT PassesOwn.never rfl (pz 6) (pg_tup rfl (pgs_cons (pg_name (i := 7) sc_Book___init__.nd rfl (Or.inl rfl)) (pgs_cons (pg_name (i := 8) sc_Book___init__.nd rfl (Or.inl rfl)) pgs_nil))) (pss_one (ps_if (pt_not (t_val (C8.pe_c (ok_is_duty T) hr (by decide) (by rfl) (pa_cons (pz 8) pa_nil)))) (pss_one Z.ps_never) pss_nil))) (pss_cons (s_fld (pz 0) (pz 1) rfl) (pss_cons (s_fld (pz 0) (pz 2) rfl) (pss_cons (s_fld (pz 0) (pz 3) rfl) (pss_cons (s_fld (pz 0) (pz 4) rfl) (pss_one (s_fld (pz 0) (pz 5) rfl))))))))
theorem mk0_Book_0 {P : Program} {w : World} {K : PySem.W.Frag} {mg : Str → Option Value} {base : Heap} (T : Top K mg) : Mak0N P w K mg base 2 "Book" (He.ga K "Book") (sp_Book___init__ K) [] (fun us ws => us ++ (ws ++ ([.ref (He.ga K "DIRECTIONS"), .ref (He.ga K "BACK"), .ref (He.ga K "DIRECTIONS"), .ref (He.ga K "DIRECTIONS"), .ref (He.ga K "BACK")] : List V))) := by
  obtain ⟨fd, F⟩ := T.d_Book___init__
  obtain ⟨mv, b⟩ := F.kbinds0 (ps := ["self", "cleaned", "dropped", "bind_copied", "give_copied", "take_copied"]) 1 [] [(("cleaned" : Str), (.ref (He.ga K "DIRECTIONS") : V)), (("dropped" : Str), (.ref (He.ga K "BACK") : V)), (("bind_copied" : Str), (.ref (He.ga K "DIRECTIONS") : V)), (("give_copied" : Str), (.ref (He.ga K "DIRECTIONS") : V)), (("take_copied" : Str), (.ref (He.ga K "BACK") : V))] (fun us mv ws => us ++ (ws ++ mv)) (by simp) (by simp) (fun r1 r2 r3 => r1.append (r3.append r2)) (fun D doc pm an cdv ct us mv ws h1 h2 h3 => match us, mv, ws, h1, h2, h3 with | [_], [_, _, _, _, _], [], _, _, _ => ⟨_, _, _, _, _, _, rfl, rfl, ⟨_, _, _, _, _, _, rfl, rfl, ⟨_, _, _, _, _, _, rfl, rfl, ⟨_, _, _, _, _, _, rfl, rfl, ⟨_, _, _, _, _, _, rfl, rfl, rfl⟩⟩⟩⟩⟩)
  exact ⟨_, fd, _, _, T.mk_Book, fnF_Book___init__ T F, T.m_Book, b⟩
theorem mk0_Book_1 {P : Program} {w : World} {K : PySem.W.Frag} {mg : Str → Option Value} {base : Heap} (T : Top K mg) : Mak0N P w K mg base 2 "Book" (He.ga K "Book") (sp_Book___init__ K) [("take_copied" : Str), ("give_copied" : Str), ("bind_copied" : Str), ("dropped" : Str), ("cleaned" : Str)] (fun us ws => us ++ ((ws.drop 4).take 1 ++ ((ws.drop 3).take 1 ++ ((ws.drop 2).take 1 ++ ((ws.drop 1).take 1 ++ ((ws.drop 0).take 1 ++ [])))))) := by
  obtain ⟨fd, F⟩ := T.d_Book___init__
  obtain ⟨mv, b⟩ := F.kbinds0 (ps := ["self", "cleaned", "dropped", "bind_copied", "give_copied", "take_copied"]) 1 [("take_copied" : Str), ("give_copied" : Str), ("bind_copied" : Str), ("dropped" : Str), ("cleaned" : Str)] [] (fun us mv ws => us ++ ((ws.drop 4).take 1 ++ ((ws.drop 3).take 1 ++ ((ws.drop 2).take 1 ++ ((ws.drop 1).take 1 ++ ((ws.drop 0).take 1 ++ [])))))) (by simp) (by simp) (fun r1 r2 r3 => r1.append ((vals_one r3 4).append ((vals_one r3 3).append ((vals_one r3 2).append ((vals_one r3 1).append ((vals_one r3 0).append .nil)))))) (fun D doc pm an cdv ct us mv ws h1 h2 h3 => match us, mv, ws, h1, h2, h3 with | [_], [], [_, _, _, _, _], _, _, _ => (by with_unfolding_all rfl))
  exact ⟨_, fd, _, _, T.mk_Book, fnF_Book___init__ T F, T.m_Book, b⟩
theorem fnF_Book_duties {P : Program} {w : World} {K : PySem.W.Frag} {mg : Str → Option Value} {base : Heap} (T : Top K mg) {fd : FuncData} (F : FunD K "duties" "Book.duties" (defArgs st_Book_duties) (defBody st_Book_duties) (defScope st_Book_duties) [] [] (He.ma K (He.ga K "Book") "duties") fd) : FnOk P w K mg base C8.CX0 1 (He.ma K (He.ga K "Book") "duties") fd ["self"] (sp_Book_duties K) := by
  refine Hk.fn_ok (k := 0) F sc_Book_duties (ln_sp_Book_duties (K := K)) (t := t_Book_duties K) (fun cdv A outer s H E hr => ?_) (rd_Book_duties T)
  exact (pss_one (ps_ret (e_tupA (pa_cons (e_fld (pz 0) rfl) (pa_cons (e_fld (pz 0) rfl) (pa_cons (e_fld (pz 0) rfl) (pa_cons (e_fld (pz 0) rfl) (pa_cons (e_fld (pz 0) rfl) pa_nil))))))))
theorem fn_Book_duties {P : Program} {w : World} {K : PySem.W.Frag} {mg : Str → Option Value} {base : Heap} (T : Top K mg) : ∃ fd, FnOk P w K mg base C8.CX0 1 (He.ma K (He.ga K "Book") "duties") fd ["self"] (sp_Book_duties K) ∧ PySem.W.keepIn K (.ref (He.ma K (He.ga K "Book") "duties")) = true ∧ Binds K fd ["self"] [] := by
  obtain ⟨fd, F⟩ := T.d_Book_duties
  exact ⟨fd, fnF_Book_duties T F, F.kp, F.bindsN (fun _ _ _ _ _ _ us hl => match us, hl with | [_], _ => rfl)⟩
theorem ok_Book_duties {P : Program} {w : World} {K : PySem.W.Frag} {mg : Str → Option Value} {base : Heap} (T : Top K mg) : C8.Met P w K mg base 1 (He.ga K "Book") "duties" (sp_Book_duties K) [] := by
  obtain ⟨fd, F, kp, b⟩ := fn_Book_duties (P := P) (w := w) (base := base) T
  exact ⟨_, fd, _, [], T.cl_Book, T.me_Book_duties, F, b, .nil⟩
theorem fnF_Book___eq__ {P : Program} {w : World} {K : PySem.W.Frag} {mg : Str → Option Value} {base : Heap} (T : Top K mg) {fd : FuncData} (F : FunD K "__eq__" "Book.__eq__" (defArgs st_Book___eq__) (defBody st_Book___eq__) (defScope st_Book___eq__) [] [] (He.ma K (He.ga K "Book") "__eq__") fd) : FnOk P w K mg base C8.CX0 2 (He.ma K (He.ga K "Book") "__eq__") fd ["self", "other"] (sp_Book___eq__ K) := by
  refine Hk.fn_ok (k := 1) F sc_Book___eq__ (ln_sp_Book___eq__ (K := K)) (t := t_Book___eq__ K) (fun cdv A outer s H E hr => ?_) (rd_Book___eq__ T)
  exact (pss_one (ps_ret (e_and (pe_callB c_isi (by rfl) T.f_isinstance (by decide +kernel) (pa_cons (pz 1) (pa_cons (C8.pe_gc (by rfl) ⟨_, T.m_Book, rfl⟩) pa_nil))) (pe_one (pe_cmpR (o_eq hr.units) (e_mt0 (ok_Book_duties T) hr (by decide) (pz 0)) (e_mt0 (ok_Book_duties T) hr (by decide) (pz 1)) (nomark _))))))
theorem fn_Book___eq__ {P : Program} {w : World} {K : PySem.W.Frag} {mg : Str → Option Value} {base : Heap} (T : Top K mg) : ∃ fd, FnOk P w K mg base C8.CX0 2 (He.ma K (He.ga K "Book") "__eq__") fd ["self", "other"] (sp_Book___eq__ K) ∧ PySem.W.keepIn K (.ref (He.ma K (He.ga K "Book") "__eq__")) = true ∧ Binds K fd ["self", "other"] [] := by
  obtain ⟨fd, F⟩ := T.d_Book___eq__
  exact ⟨fd, fnF_Book___eq__ T F, F.kp, F.bindsN (fun _ _ _ _ _ _ us hl => match us, hl with | [_, _], _ => rfl)⟩
theorem ok_Book___eq__ {P : Program} {w : World} {K : PySem.W.Frag} {mg : Str → Option Value} {base : Heap} (T : Top K mg) : C8.Met P w K mg base 2 (He.ga K "Book") "__eq__" (sp_Book___eq__ K) [] := by
  obtain ⟨fd, F, kp, b⟩ := fn_Book___eq__ (P := P) (w := w) (base := base) T
  exact ⟨_, fd, _, [], T.cl_Book, T.me_Book___eq__, F, b, .nil⟩
theorem fnF_Setting___init__ {P : Program} {w : World} {K : PySem.W.Frag} {mg : Str → Option Value} {base : Heap} (T : Top K mg) {fd : FuncData} (F : FunD K "__init__" "Setting.__init__" (defArgs st_Setting___init__) (defBody st_Setting___init__) (defScope st_Setting___init__) [] [(("copies" : Str), (.str "none" : V)), (("cached" : Str), (.bl false : V)), (("batch" : Str), (.int 0 : V)), (("early" : Str), (.bl false : V)), (("drain" : Str), (.bl true : V)), (("policy" : Str), (.str "first" : V)), (("groups" : Str), (.int 16 : V)), (("tables" : Str), (.int 16 : V)), (("book" : Str), (.non : V))] (He.ma K (He.ga K "Setting") "__init__") fd) : FnOk P w K mg base C8.CX0 5 (He.ma K (He.ga K "Setting") "__init__") fd ["self", "copies", "cached", "batch", "early", "drain", "policy", "groups", "tables", "book"] (sp_Setting___init__ K) := by
  refine Hk.fn_okD (k := 4) F sc_Setting___init__ (ln_sp_Setting___init__ (K := K)) (t := t_Setting___init__ K) (fun cdv A outer s H E hr => ?_) (rd_Setting___init__ T)
  exact (pss_cons (ps_set (i := 10) sc_Setting___init__.nd rfl (Or.inl rfl) (e_lstA (pa_cons (e_tupA (pa_cons pe_str (pa_cons (C8.pe_c (ok_is_word_of T) hr (by decide) (by rfl) (pa_cons (pz 1) (pa_cons (C8.pe_gc (by rfl) ⟨_, T.m_COPIES, rfl⟩) pa_nil))) pa_nil))) (pa_cons (e_tupA (pa_cons pe_str (pa_cons (pe_callB c_isi (by rfl) T.f_isinstance (by decide +kernel) (pa_cons (pz 2) (pa_cons (pe_ty (by rfl) T.f_bool (by decide +kernel)) pa_nil))) pa_nil))) pa_nil)))) (pss_cons (ps_set (i := 10) sc_Setting___init__.nd rfl (Or.inl rfl) (pe_op o_addA (pz 10) (e_lstA (pa_cons (e_tupA (pa_cons pe_str (pa_cons (C8.pe_c (ok_is_from_to T) hr (by decide) (by rfl) (pa_cons (pz 3) (pa_cons pe_int (pa_cons (C8.pe_gc (by rfl) T.g_MOST_BATCH) pa_nil)))) pa_nil))) (pa_cons (e_tupA (pa_cons pe_str (pa_cons (pe_callB c_isi (by rfl) T.f_isinstance (by decide +kernel) (pa_cons (pz 4) (pa_cons (pe_ty (by rfl) T.f_bool (by decide +kernel)) pa_nil))) pa_nil))) pa_nil))))) (pss_cons (ps_set (i := 10) sc_Setting___init__.nd rfl (Or.inl rfl) (pe_op o_addA (pz 10) (e_lstA (pa_cons (e_tupA (pa_cons pe_str (pa_cons (pe_callB c_isi (by rfl) T.f_isinstance (by decide +kernel) (pa_cons (pz 5) (pa_cons (pe_ty (by rfl) T.f_bool (by decide +kernel)) pa_nil))) pa_nil))) (pa_cons (e_tupA (pa_cons pe_str (pa_cons (C8.pe_c (ok_is_word_of T) hr (by decide) (by rfl) (pa_cons (pz 6) (pa_cons (C8.pe_gc (by rfl) ⟨_, T.m_POLICIES, rfl⟩) pa_nil))) pa_nil))) pa_nil))))) (pss_cons (ps_expr (e_app (pz 10) (e_tupA (pa_cons pe_str (pa_cons (C8.pe_c (ok_is_from_to T) hr (by decide) (by rfl) (pa_cons (pz 7) (pa_cons pe_int (pa_cons (C8.pe_gc (by rfl) T.g_MOST_GROUPS) pa_nil)))) pa_nil))))) (pss_cons (ps_expr (e_app (pz 10) (e_tupA (pa_cons pe_str (pa_cons (C8.pe_c (ok_is_from_to T) hr (by decide) (by rfl) (pa_cons (pz 8) (pa_cons pe_int (pa_cons (C8.pe_gc (by rfl) T.g_MOST_TABLES) pa_nil)))) pa_nil))))) (pss_cons (ps_expr (e_app (pz 10) (e_tupA (pa_cons pe_str (pa_cons (e_or (pe_cmpR o_is0 (pz 9) pe_non (nomark _)) (pe_one (pe_callB c_isi (by rfl) T.f_isinstance (by decide +kernel) (pa_cons (pz 9) (pa_cons (C8.pe_gc (by rfl) ⟨_, T.m_Book, rfl⟩) pa_nil))))) pa_nil))))) (pss_cons (s_forL PassesOwn.never rfl (pz 10) (pg_tup rfl (pgs_cons (pg_name (i := 11) sc_Setting___init__.nd rfl (Or.inl rfl)) (pgs_cons (pg_name (i := 12) sc_Setting___init__.nd rfl (Or.inl rfl)) pgs_nil))) (pss_one (ps_if (pt_not (t_val (pz 12))) (pss_one Z.ps_never) pss_nil))) (pss_cons (s_fld (pz 0) (pz 1) rfl) (pss_cons (s_fld (pz 0) (pz 2) rfl) (pss_cons (s_fld (pz 0) (pz 3) rfl) (pss_cons (s_fld (pz 0) (pz 4) rfl) (pss_cons (s_fld (pz 0) (pz 5) rfl) (pss_cons (s_fld (pz 0) (pz 6) rfl) (pss_cons (s_fld (pz 0) (pz 7) rfl) (pss_cons (s_fld (pz 0) (pz 8) rfl) (pss_one (s_fld (pz 0) (pe_ifExp (t_cmp o_is0 (pz 9) pe_non (nomark _)) (e_mk0N (mk0_Book_0 T) hr (by decide) (by rfl) pk_nil) (pz 9)) rfl)))))))))))))))))
theorem mk0_Setting_0 {P : Program} {w : World} {K : PySem.W.Frag} {mg : Str → Option Value} {base : Heap} (T : Top K mg) : Mak0N P w K mg base 5 "Setting" (He.ga K "Setting") (sp_Setting___init__ K) [("book" : Str), ("tables" : Str), ("groups" : Str), ("policy" : Str), ("drain" : Str), ("early" : Str), ("batch" : Str), ("cached" : Str), ("copies" : Str)] (fun us ws => us ++ ((ws.drop 8).take 1 ++ ((ws.drop 7).take 1 ++ ((ws.drop 6).take 1 ++ ((ws.drop 5).take 1 ++ ((ws.drop 4).take 1 ++ ((ws.drop 3).take 1 ++ ((ws.drop 2).take 1 ++ ((ws.drop 1).take 1 ++ ((ws.drop 0).take 1 ++ [])))))))))) := by
  obtain ⟨fd, F⟩ := T.d_Setting___init__
  obtain ⟨mv, b⟩ := F.kbinds0 (ps := ["self", "copies", "cached", "batch", "early", "drain", "policy", "groups", "tables", "book"]) 1 [("book" : Str), ("tables" : Str), ("groups" : Str), ("policy" : Str), ("drain" : Str), ("early" : Str), ("batch" : Str), ("cached" : Str), ("copies" : Str)] [] (fun us mv ws => us ++ ((ws.drop 8).take 1 ++ ((ws.drop 7).take 1 ++ ((ws.drop 6).take 1 ++ ((ws.drop 5).take 1 ++ ((ws.drop 4).take 1 ++ ((ws.drop 3).take 1 ++ ((ws.drop 2).take 1 ++ ((ws.drop 1).take 1 ++ ((ws.drop 0).take 1 ++ [])))))))))) (by simp) (by simp) (fun r1 r2 r3 => r1.append ((vals_one r3 8).append ((vals_one r3 7).append ((vals_one r3 6).append ((vals_one r3 5).append ((vals_one r3 4).append ((vals_one r3 3).append ((vals_one r3 2).append ((vals_one r3 1).append ((vals_one r3 0).append .nil)))))))))) (fun D doc pm an cdv ct us mv ws h1 h2 h3 => match us, mv, ws, h1, h2, h3 with | [_], [], [_, _, _, _, _, _, _, _, _], _, _, _ => (by with_unfolding_all rfl))
  exact ⟨_, fd, _, _, T.mk_Setting, fnF_Setting___init__ T F, T.m_Setting, b⟩
theorem mk0_Setting_1 {P : Program} {w : World} {K : PySem.W.Frag} {mg : Str → Option Value} {base : Heap} (T : Top K mg) : Mak0N P w K mg base 5 "Setting" (He.ga K "Setting") (sp_Setting___init__ K) [] (fun us ws => us ++ (ws ++ ([.str "none", .bl false, .int 0, .bl false, .bl true, .str "first", .int 16, .int 16, .non] : List V))) := by
  obtain ⟨fd, F⟩ := T.d_Setting___init__
  obtain ⟨mv, b⟩ := F.kbinds0 (ps := ["self", "copies", "cached", "batch", "early", "drain", "policy", "groups", "tables", "book"]) 1 [] [(("copies" : Str), (.str "none" : V)), (("cached" : Str), (.bl false : V)), (("batch" : Str), (.int 0 : V)), (("early" : Str), (.bl false : V)), (("drain" : Str), (.bl true : V)), (("policy" : Str), (.str "first" : V)), (("groups" : Str), (.int 16 : V)), (("tables" : Str), (.int 16 : V)), (("book" : Str), (.non : V))] (fun us mv ws => us ++ (ws ++ mv)) (by simp) (by simp) (fun r1 r2 r3 => r1.append (r3.append r2)) (fun D doc pm an cdv ct us mv ws h1 h2 h3 => match us, mv, ws, h1, h2, h3 with | [_], [_, _, _, _, _, _, _, _, _], [], _, _, _ => ⟨_, _, _, _, _, _, rfl, rfl, ⟨_, _, _, _, _, _, rfl, rfl, ⟨_, _, _, _, _, _, rfl, rfl, ⟨_, _, _, _, _, _, rfl, rfl, ⟨_, _, _, _, _, _, rfl, rfl, ⟨_, _, _, _, _, _, rfl, rfl, ⟨_, _, _, _, _, _, rfl, rfl, ⟨_, _, _, _, _, _, rfl, rfl, ⟨_, _, _, _, _, _, rfl, rfl, rfl⟩⟩⟩⟩⟩⟩⟩⟩⟩)
  exact ⟨_, fd, _, _, T.mk_Setting, fnF_Setting___init__ T F, T.m_Setting, b⟩
theorem mk0_Setting_2 {P : Program} {w : World} {K : PySem.W.Frag} {mg : Str → Option Value} {base : Heap} (T : Top K mg) : Mak0N P w K mg base 5 "Setting" (He.ga K "Setting") (sp_Setting___init__ K) [("copies" : Str)] (fun us ws => us ++ (ws ++ ([.bl false, .int 0, .bl false, .bl true, .str "first", .int 16, .int 16, .non] : List V))) := by
  obtain ⟨fd, F⟩ := T.d_Setting___init__
  obtain ⟨mv, b⟩ := F.kbinds0 (ps := ["self", "copies", "cached", "batch", "early", "drain", "policy", "groups", "tables", "book"]) 1 [("copies" : Str)] [(("cached" : Str), (.bl false : V)), (("batch" : Str), (.int 0 : V)), (("early" : Str), (.bl false : V)), (("drain" : Str), (.bl true : V)), (("policy" : Str), (.str "first" : V)), (("groups" : Str), (.int 16 : V)), (("tables" : Str), (.int 16 : V)), (("book" : Str), (.non : V))] (fun us mv ws => us ++ (ws ++ mv)) (by simp) (by simp) (fun r1 r2 r3 => r1.append (r3.append r2)) (fun D doc pm an cdv ct us mv ws h1 h2 h3 => match us, mv, ws, h1, h2, h3 with | [_], [_, _, _, _, _, _, _, _], [_], _, _, _ => ⟨_, _, _, _, _, _, rfl, rfl, ⟨_, _, _, _, _, _, rfl, rfl, ⟨_, _, _, _, _, _, rfl, rfl, ⟨_, _, _, _, _, _, rfl, rfl, ⟨_, _, _, _, _, _, rfl, rfl, ⟨_, _, _, _, _, _, rfl, rfl, ⟨_, _, _, _, _, _, rfl, rfl, ⟨_, _, _, _, _, _, rfl, rfl, rfl⟩⟩⟩⟩⟩⟩⟩⟩)
  exact ⟨_, fd, _, _, T.mk_Setting, fnF_Setting___init__ T F, T.m_Setting, b⟩
theorem mk0_Setting_3 {P : Program} {w : World} {K : PySem.W.Frag} {mg : Str → Option Value} {base : Heap} (T : Top K mg) : Mak0N P w K mg base 5 "Setting" (He.ga K "Setting") (sp_Setting___init__ K) [("cached" : Str), ("batch" : Str)] (fun us ws => us ++ ((([.str "none", .bl false, .bl true, .str "first", .int 16, .int 16, .non] : List V).drop 0).take 1 ++ ((ws.drop 0).take 1 ++ ((ws.drop 1).take 1 ++ ((([.str "none", .bl false, .bl true, .str "first", .int 16, .int 16, .non] : List V).drop 1).take 1 ++ ((([.str "none", .bl false, .bl true, .str "first", .int 16, .int 16, .non] : List V).drop 2).take 1 ++ ((([.str "none", .bl false, .bl true, .str "first", .int 16, .int 16, .non] : List V).drop 3).take 1 ++ ((([.str "none", .bl false, .bl true, .str "first", .int 16, .int 16, .non] : List V).drop 4).take 1 ++ ((([.str "none", .bl false, .bl true, .str "first", .int 16, .int 16, .non] : List V).drop 5).take 1 ++ ((([.str "none", .bl false, .bl true, .str "first", .int 16, .int 16, .non] : List V).drop 6).take 1 ++ [])))))))))) := by
  obtain ⟨fd, F⟩ := T.d_Setting___init__
  obtain ⟨mv, b⟩ := F.kbinds0 (ps := ["self", "copies", "cached", "batch", "early", "drain", "policy", "groups", "tables", "book"]) 1 [("cached" : Str), ("batch" : Str)] [(("copies" : Str), (.str "none" : V)), (("early" : Str), (.bl false : V)), (("drain" : Str), (.bl true : V)), (("policy" : Str), (.str "first" : V)), (("groups" : Str), (.int 16 : V)), (("tables" : Str), (.int 16 : V)), (("book" : Str), (.non : V))] (fun us mv ws => us ++ ((mv.drop 0).take 1 ++ ((ws.drop 0).take 1 ++ ((ws.drop 1).take 1 ++ ((mv.drop 1).take 1 ++ ((mv.drop 2).take 1 ++ ((mv.drop 3).take 1 ++ ((mv.drop 4).take 1 ++ ((mv.drop 5).take 1 ++ ((mv.drop 6).take 1 ++ [])))))))))) (by simp) (by simp) (fun r1 r2 r3 => r1.append ((vals_one r2 0).append ((vals_one r3 0).append ((vals_one r3 1).append ((vals_one r2 1).append ((vals_one r2 2).append ((vals_one r2 3).append ((vals_one r2 4).append ((vals_one r2 5).append ((vals_one r2 6).append .nil)))))))))) (fun D doc pm an cdv ct us mv ws h1 h2 h3 => match us, mv, ws, h1, h2, h3 with | [_], [_, _, _, _, _, _, _], [_, _], _, _, _ => ⟨_, _, _, _, _, _, rfl, rfl, ⟨_, _, _, _, _, _, rfl, rfl, ⟨_, _, _, _, _, _, rfl, rfl, ⟨_, _, _, _, _, _, rfl, rfl, ⟨_, _, _, _, _, _, rfl, rfl, ⟨_, _, _, _, _, _, rfl, rfl, ⟨_, _, _, _, _, _, rfl, rfl, (by with_unfolding_all rfl)⟩⟩⟩⟩⟩⟩⟩)
  exact ⟨_, fd, _, _, T.mk_Setting, fnF_Setting___init__ T F, T.m_Setting, b⟩
theorem fnF_Setting_pairs {P : Program} {w : World} {K : PySem.W.Frag} {mg : Str → Option Value} {base : Heap} (T : Top K mg) {fd : FuncData} (F : FunD K "pairs" "Setting.pairs" (defArgs st_Setting_pairs) (defBody st_Setting_pairs) (defScope st_Setting_pairs) [] [] (He.ma K (He.ga K "Setting") "pairs") fd) : FnOk P w K mg base C8.CX0 1 (He.ma K (He.ga K "Setting") "pairs") fd ["self"] (sp_Setting_pairs K) := by
  refine Hk.fn_ok (k := 0) F sc_Setting_pairs (ln_sp_Setting_pairs (K := K)) (t := t_Setting_pairs K) (fun cdv A outer s H E hr => ?_) (rd_Setting_pairs T)
  exact (pss_cons (ps_set (i := 1) sc_Setting_pairs.nd rfl (Or.inl rfl) (e_lstA (pa_cons (e_tupA (pa_cons pe_str (pa_cons (e_fld (pz 0) rfl) (pa_cons pe_str pa_nil)))) (pa_cons (e_tupA (pa_cons pe_str (pa_cons (e_fld (pz 0) rfl) (pa_cons pe_bl pa_nil)))) (pa_cons (e_tupA (pa_cons pe_str (pa_cons (e_fld (pz 0) rfl) (pa_cons pe_int pa_nil)))) pa_nil))))) (pss_cons (ps_set (i := 1) sc_Setting_pairs.nd rfl (Or.inl rfl) (pe_op o_addA (pz 1) (e_lstA (pa_cons (e_tupA (pa_cons pe_str (pa_cons (e_fld (pz 0) rfl) (pa_cons pe_bl pa_nil)))) (pa_cons (e_tupA (pa_cons pe_str (pa_cons (e_fld (pz 0) rfl) (pa_cons pe_bl pa_nil)))) (pa_cons (e_tupA (pa_cons pe_str (pa_cons (e_fld (pz 0) rfl) (pa_cons pe_str pa_nil)))) pa_nil)))))) (pss_one (ps_ret (pe_op o_addA (pz 1) (e_lstA (pa_cons (e_tupA (pa_cons pe_str (pa_cons (e_fld (pz 0) rfl) (pa_cons pe_int pa_nil)))) (pa_cons (e_tupA (pa_cons pe_str (pa_cons (e_fld (pz 0) rfl) (pa_cons pe_int pa_nil)))) pa_nil))))))))
theorem fn_Setting_pairs {P : Program} {w : World} {K : PySem.W.Frag} {mg : Str → Option Value} {base : Heap} (T : Top K mg) : ∃ fd, FnOk P w K mg base C8.CX0 1 (He.ma K (He.ga K "Setting") "pairs") fd ["self"] (sp_Setting_pairs K) ∧ PySem.W.keepIn K (.ref (He.ma K (He.ga K "Setting") "pairs")) = true ∧ Binds K fd ["self"] [] := by
  obtain ⟨fd, F⟩ := T.d_Setting_pairs
  exact ⟨fd, fnF_Setting_pairs T F, F.kp, F.bindsN (fun _ _ _ _ _ _ us hl => match us, hl with | [_], _ => rfl)⟩
theorem ok_Setting_pairs {P : Program} {w : World} {K : PySem.W.Frag} {mg : Str → Option Value} {base : Heap} (T : Top K mg) : C8.Met P w K mg base 1 (He.ga K "Setting") "pairs" (sp_Setting_pairs K) [] := by
  obtain ⟨fd, F, kp, b⟩ := fn_Setting_pairs (P := P) (w := w) (base := base) T
  exact ⟨_, fd, _, [], T.cl_Setting, T.me_Setting_pairs, F, b, .nil⟩
theorem fnF_Setting___eq__ {P : Program} {w : World} {K : PySem.W.Frag} {mg : Str → Option Value} {base : Heap} (T : Top K mg) {fd : FuncData} (F : FunD K "__eq__" "Setting.__eq__" (defArgs st_Setting___eq__) (defBody st_Setting___eq__) (defScope st_Setting___eq__) [] [] (He.ma K (He.ga K "Setting") "__eq__") fd) : FnOk P w K mg base C8.CX0 4 (He.ma K (He.ga K "Setting") "__eq__") fd ["self", "other"] (sp_Setting___eq__ K) := by
  refine Hk.fn_ok (k := 3) F sc_Setting___eq__ (ln_sp_Setting___eq__ (K := K)) (t := t_Setting___eq__ K) (fun cdv A outer s H E hr => ?_) (rd_Setting___eq__ T)
  exact (pss_cons (ps_if (pt_not (t_val (pe_callB c_isi (by rfl) T.f_isinstance (by decide +kernel) (pa_cons (pz 1) (pa_cons (C8.pe_gc (by rfl) ⟨_, T.m_Setting, rfl⟩) pa_nil))))) (pss_one (ps_ret pe_bl)) pss_nil) (pss_one (ps_ret (e_and (pe_cmpR (o_eq hr.units) (e_mt0 (ok_Setting_pairs T) hr (by decide) (pz 0)) (e_mt0 (ok_Setting_pairs T) hr (by decide) (pz 1)) (nomark _)) (pe_one (pe_cmpR (o_eqO (ok_Book___eq__ T) hr (by decide)) (e_fld (pz 0) rfl) (e_fld (pz 1) rfl) (nomark _)))))))
theorem fn_Setting___eq__ {P : Program} {w : World} {K : PySem.W.Frag} {mg : Str → Option Value} {base : Heap} (T : Top K mg) : ∃ fd, FnOk P w K mg base C8.CX0 4 (He.ma K (He.ga K "Setting") "__eq__") fd ["self", "other"] (sp_Setting___eq__ K) ∧ PySem.W.keepIn K (.ref (He.ma K (He.ga K "Setting") "__eq__")) = true ∧ Binds K fd ["self", "other"] [] := by
  obtain ⟨fd, F⟩ := T.d_Setting___eq__
  exact ⟨fd, fnF_Setting___eq__ T F, F.kp, F.bindsN (fun _ _ _ _ _ _ us hl => match us, hl with | [_, _], _ => rfl)⟩
theorem ok_Setting___eq__ {P : Program} {w : World} {K : PySem.W.Frag} {mg : Str → Option Value} {base : Heap} (T : Top K mg) : C8.Met P w K mg base 4 (He.ga K "Setting") "__eq__" (sp_Setting___eq__ K) [] := by
  obtain ⟨fd, F, kp, b⟩ := fn_Setting___eq__ (P := P) (w := w) (base := base) T
  exact ⟨_, fd, _, [], T.cl_Setting, T.me_Setting___eq__, F, b, .nil⟩
theorem fnF_L_bag {P : Program} {w : World} {K : PySem.W.Frag} {mg : Str → Option Value} {base : Heap} (T : Top K mg) {fd : FuncData} (F : FunD K "_law_bag" "_law_bag" (defArgs st_L_bag) (defBody st_L_bag) (defScope st_L_bag) [] [] (He.ga K "_law_bag") fd) : FnOk P w K mg base C8.CX0 1 (He.ga K "_law_bag") fd ["_law_script", "_law_at"] (sp_L_bag K) := by
  refine Hk.fn_ok (k := 0) F sc_L_bag (ln_sp_L_bag (K := K)) (t := t_L_bag K) (fun cdv A outer s H E hr => ?_) (rd_L_bag T)
  exact (pss_cons (ps_set (i := 2) sc_L_bag.nd rfl (Or.inl rfl) (pe_ifExp (t_cmp o_lt (pz 1) (pe_callB c_lenS (by rfl) T.f_len (by decide +kernel) (pa_cons (pz 0) pa_nil)) (nomark _)) (pe_ix ix_list (pz 0) (pz 1) (fun _ _ => rfl)) pe_int)) (pss_cons (ps_set (i := 3) sc_L_bag.nd rfl (Or.inl rfl) (pe_op o_addA (pe_op o_mulA pe_int (pz 1)) pe_int)) (pss_cons (s_forE PassesOwn.never rfl (by rfl) T.f_enumerate (e_slB (pz 0) pe_int) (pg_tup rfl (pgs_cons (pg_name (i := 4) sc_L_bag.nd rfl (Or.inl rfl)) (pgs_cons (pg_name (i := 5) sc_L_bag.nd rfl (Or.inl rfl)) pgs_nil))) (pss_one (ps_set (i := 3) sc_L_bag.nd rfl (Or.inl rfl) (pe_op o_mod (pe_op o_addA (pe_op o_addA (pe_op o_addA (pe_op o_mulA (pz 3) pe_int) (pe_op o_mod (pz 5) pe_int)) (pe_op o_mulA pe_int (pz 4))) pe_int) pe_int)))) (pss_one (ps_ret (e_lstA (pa_cons (pe_ifExp (t_cmp o_ge (pe_callB c_abs (by rfl) T.f_abs (by decide +kernel) (pa_cons (pz 2) pa_nil)) (pe_op o_pow pe_int pe_int) (nomark _)) (pe_callB c_abs (by rfl) T.f_abs (by decide +kernel) (pa_cons (pz 2) pa_nil)) pe_int) (pa_cons (pz 3) pa_nil))))))))
theorem fn_L_bag {P : Program} {w : World} {K : PySem.W.Frag} {mg : Str → Option Value} {base : Heap} (T : Top K mg) : ∃ fd, FnOk P w K mg base C8.CX0 1 (He.ga K "_law_bag") fd ["_law_script", "_law_at"] (sp_L_bag K) ∧ PySem.W.keepIn K (.ref (He.ga K "_law_bag")) = true ∧ Binds K fd ["_law_script", "_law_at"] [] := by
  obtain ⟨fd, F⟩ := T.d_L_bag
  exact ⟨fd, fnF_L_bag T F, F.kp, F.bindsN (fun _ _ _ _ _ _ us hl => match us, hl with | [_, _], _ => rfl)⟩
theorem ok_L_bag {P : Program} {w : World} {K : PySem.W.Frag} {mg : Str → Option Value} {base : Heap} (T : Top K mg) : C8.Cal P w K mg base 1 "_law_bag" (sp_L_bag K) [] := by
  obtain ⟨fd, F, kp, b⟩ := fn_L_bag (P := P) (w := w) (base := base) T
  exact ⟨_, fd, _, [], F, T.g_L_bag, kp, b, .nil⟩
theorem fnF_L_take {P : Program} {w : World} {K : PySem.W.Frag} {mg : Str → Option Value} {base : Heap} (T : Top K mg) {fd : FuncData} (F : FunD K "_law_take" "_law_take" (defArgs st_L_take) (defBody st_L_take) (defScope st_L_take) [] [] (He.ga K "_law_take") fd) : FnOk P w K mg base C8.CX0 1 (He.ga K "_law_take") fd ["_law_bag_here", "_law_many"] (sp_L_take K) := by
  refine Hk.fn_ok (k := 0) F sc_L_take (ln_sp_L_take (K := K)) (t := t_L_take K) (fun cdv A outer s H E hr => ?_) (rd_L_take T)
  exact (pss_cons (ps_if (t_cmp o_gt (e_ix (hu_of hr) (pz 0) pe_int (fun _ _ => rfl)) pe_int (nomark _)) (pss_cons (ps_set (i := 2) sc_L_take.nd rfl (Or.inl rfl) (pe_op o_mod (e_ix (hu_of hr) (pz 0) pe_int (fun _ _ => rfl)) (pz 1))) (pss_cons (ps_asg (pe_op o_div (e_ix (hu_of hr) (pz 0) pe_int (fun _ _ => rfl)) (pz 1)) (pg_sub (pz 0) pe_int (set_any (hu_of hr)))) (pss_one (ps_ret (pz 2))))) pss_nil) (pss_cons (ps_asg (pe_op o_mod (pe_op o_addA (pe_op o_mulA (e_ix (hu_of hr) (pz 0) pe_int (fun _ _ => rfl)) pe_int) pe_int) pe_int) (pg_sub (pz 0) pe_int (set_any (hu_of hr)))) (pss_one (ps_ret (pe_op o_mod (pe_op o_div (pe_op o_mod (pe_op o_mulA (pe_op o_div (e_ix (hu_of hr) (pz 0) pe_int (fun _ _ => rfl)) pe_int) pe_int) pe_int) pe_int) (pz 1))))))
theorem fn_L_take {P : Program} {w : World} {K : PySem.W.Frag} {mg : Str → Option Value} {base : Heap} (T : Top K mg) : ∃ fd, FnOk P w K mg base C8.CX0 1 (He.ga K "_law_take") fd ["_law_bag_here", "_law_many"] (sp_L_take K) ∧ PySem.W.keepIn K (.ref (He.ga K "_law_take")) = true ∧ Binds K fd ["_law_bag_here", "_law_many"] [] := by
  obtain ⟨fd, F⟩ := T.d_L_take
  exact ⟨fd, fnF_L_take T F, F.kp, F.bindsN (fun _ _ _ _ _ _ us hl => match us, hl with | [_, _], _ => rfl)⟩
theorem ok_L_take {P : Program} {w : World} {K : PySem.W.Frag} {mg : Str → Option Value} {base : Heap} (T : Top K mg) : C8.Cal P w K mg base 1 "_law_take" (sp_L_take K) [] := by
  obtain ⟨fd, F, kp, b⟩ := fn_L_take (P := P) (w := w) (base := base) T
  exact ⟨_, fd, _, [], F, T.g_L_take, kp, b, .nil⟩
theorem fnF_L_of {P : Program} {w : World} {K : PySem.W.Frag} {mg : Str → Option Value} {base : Heap} (T : Top K mg) {fd : FuncData} (F : FunD K "_law_of" "_law_of" (defArgs st_L_of) (defBody st_L_of) (defScope st_L_of) [] [] (He.ga K "_law_of") fd) : FnOk P w K mg base C8.CX0 2 (He.ga K "_law_of") fd ["_law_bag_here", "_law_some"] (sp_L_of K) := by
  refine Hk.fn_ok (k := 1) F sc_L_of (ln_sp_L_of (K := K)) (t := t_L_of K) (fun cdv A outer s H E hr => ?_) (rd_L_of T)
  exact (pss_one (ps_ret (e_ix (hu_of hr) (pz 1) (C8.pe_c (ok_L_take T) hr (by decide) (by rfl) (pa_cons (pz 0) (pa_cons (pe_callB c_len (by rfl) T.f_len (by decide +kernel) (pa_cons (pz 1) pa_nil)) pa_nil))) (fun _ _ => rfl))))
theorem fn_L_of {P : Program} {w : World} {K : PySem.W.Frag} {mg : Str → Option Value} {base : Heap} (T : Top K mg) : ∃ fd, FnOk P w K mg base C8.CX0 2 (He.ga K "_law_of") fd ["_law_bag_here", "_law_some"] (sp_L_of K) ∧ PySem.W.keepIn K (.ref (He.ga K "_law_of")) = true ∧ Binds K fd ["_law_bag_here", "_law_some"] [] := by
  obtain ⟨fd, F⟩ := T.d_L_of
  exact ⟨fd, fnF_L_of T F, F.kp, F.bindsN (fun _ _ _ _ _ _ us hl => match us, hl with | [_, _], _ => rfl)⟩
theorem ok_L_of {P : Program} {w : World} {K : PySem.W.Frag} {mg : Str → Option Value} {base : Heap} (T : Top K mg) : C8.Cal P w K mg base 2 "_law_of" (sp_L_of K) [] := by
  obtain ⟨fd, F, kp, b⟩ := fn_L_of (P := P) (w := w) (base := base) T
  exact ⟨_, fd, _, [], F, T.g_L_of, kp, b, .nil⟩
theorem fnF_L_ways {P : Program} {w : World} {K : PySem.W.Frag} {mg : Str → Option Value} {base : Heap} (T : Top K mg) {fd : FuncData} (F : FunD K "_law_ways" "_law_ways" (defArgs st_L_ways) (defBody st_L_ways) (defScope st_L_ways) [] [] (He.ga K "_law_ways") fd) : FnOk P w K mg base C8.CX0 1 (He.ga K "_law_ways") fd ["_law_number"] (sp_L_ways K) := by
  refine Hk.fn_ok (k := 0) F sc_L_ways (ln_sp_L_ways (K := K)) (t := t_L_ways K) (fun cdv A outer s H E hr => ?_) (rd_L_ways T)
  exact (pss_one (ps_ret (pe_callTy c_tupleA (by rfl) T.f_tuple (by decide +kernel) (pa_cons (pe_lc (own := [("_law_way", 1), ("_law_bit", 2)]) (by rfl) sc_L_ways.nd (i_t (e_tupA (pa_cons (e_tupA (pa_cons pe_str (pa_cons pe_int pa_nil))) (pa_cons (e_tupA (pa_cons pe_str (pa_cons pe_int pa_nil))) (pa_cons (e_tupA (pa_cons pe_str (pa_cons pe_int pa_nil))) pa_nil))))) (blkOk_by (own := [("_law_way", 1), ("_law_bit", 2)]) (N := nm_L_ways) (sc := defScope st_L_ways) (by decide +kernel)) (fun _ _ _ _ _ => (pg_tup rfl (pgs_cons (pg_name (i := 1) sc_L_ways.nd rfl (Or.inl rfl)) (pgs_cons (pg_name (i := 2) sc_L_ways.nd rfl (Or.inl rfl)) pgs_nil)))) (fun _ _ _ _ _ => (pts_one (t_cmp (o_eq hr.units) (pe_op o_mod (pe_op o_div (pz 0) (pz 2)) pe_int) pe_int (nomark _)))) (fun _ _ _ _ _ => (pz 1))) pa_nil))))
theorem fn_L_ways {P : Program} {w : World} {K : PySem.W.Frag} {mg : Str → Option Value} {base : Heap} (T : Top K mg) : ∃ fd, FnOk P w K mg base C8.CX0 1 (He.ga K "_law_ways") fd ["_law_number"] (sp_L_ways K) ∧ PySem.W.keepIn K (.ref (He.ga K "_law_ways")) = true ∧ Binds K fd ["_law_number"] [] := by
  obtain ⟨fd, F⟩ := T.d_L_ways
  exact ⟨fd, fnF_L_ways T F, F.kp, F.bindsN (fun _ _ _ _ _ _ us hl => match us, hl with | [_], _ => rfl)⟩
theorem ok_L_ways {P : Program} {w : World} {K : PySem.W.Frag} {mg : Str → Option Value} {base : Heap} (T : Top K mg) : C8.Cal P w K mg base 1 "_law_ways" (sp_L_ways K) [] := by
  obtain ⟨fd, F, kp, b⟩ := fn_L_ways (P := P) (w := w) (base := base) T
  exact ⟨_, fd, _, [], F, T.g_L_ways, kp, b, .nil⟩
theorem fnF_L_arguments {P : Program} {w : World} {K : PySem.W.Frag} {mg : Str → Option Value} {base : Heap} (T : Top K mg) {fd : FuncData} (F : FunD K "_law_arguments" "_law_arguments" (defArgs st_L_arguments) (defBody st_L_arguments) (defScope st_L_arguments) [] [] (He.ga K "_law_arguments") fd) : FnOk P w K mg base C8.CX0 3 (He.ga K "_law_arguments") fd ["_law_bag_here"] (sp_L_arguments K) := by
  refine Hk.fn_ok (k := 2) F sc_L_arguments (ln_sp_L_arguments (K := K)) (t := t_L_arguments K) (fun cdv A outer s H E hr => ?_) (rd_L_arguments T)
  exact (pss_cons (ps_set (i := 1) sc_L_arguments.nd rfl (Or.inl rfl) (e_lstA (pa_cons (C8.pe_c (ok_L_of T) hr (by decide) (by rfl) (pa_cons (pz 0) (pa_cons (e_lstA (pa_cons pe_str (pa_cons pe_str (pa_cons pe_str pa_nil)))) pa_nil))) (pa_cons (pe_cmpR (o_eq hr.units) (C8.pe_c (ok_L_take T) hr (by decide) (by rfl) (pa_cons (pz 0) (pa_cons pe_int pa_nil))) pe_int (nomark _)) (pa_cons (C8.pe_c (ok_L_take T) hr (by decide) (by rfl) (pa_cons (pz 0) (pa_cons pe_int pa_nil))) (pa_cons (pe_cmpR (o_eq hr.units) (C8.pe_c (ok_L_take T) hr (by decide) (by rfl) (pa_cons (pz 0) (pa_cons pe_int pa_nil))) pe_int (nomark _)) pa_nil)))))) (pss_cons (ps_set (i := 1) sc_L_arguments.nd rfl (Or.inl rfl) (pe_op o_addA (pz 1) (e_lstA (pa_cons (pe_cmpR (o_eq hr.units) (C8.pe_c (ok_L_take T) hr (by decide) (by rfl) (pa_cons (pz 0) (pa_cons pe_int pa_nil))) pe_int (nomark _)) (pa_cons (C8.pe_c (ok_L_of T) hr (by decide) (by rfl) (pa_cons (pz 0) (pa_cons (e_lstA (pa_cons pe_str (pa_cons pe_str (pa_cons pe_str (pa_cons pe_str (pa_cons pe_str pa_nil)))))) pa_nil))) pa_nil))))) (pss_cons (ps_set (i := 1) sc_L_arguments.nd rfl (Or.inl rfl) (pe_op o_addA (pz 1) (e_lstA (pa_cons (pe_op o_addA pe_int (C8.pe_c (ok_L_take T) hr (by decide) (by rfl) (pa_cons (pz 0) (pa_cons pe_int pa_nil)))) (pa_cons (pe_op o_addA pe_int (C8.pe_c (ok_L_take T) hr (by decide) (by rfl) (pa_cons (pz 0) (pa_cons pe_int pa_nil)))) pa_nil))))) (pss_one (ps_ret (pe_op o_addA (pz 1) (e_lstA (pa_cons (pe_ifExp (t_cmp (o_eq hr.units) (C8.pe_c (ok_L_take T) hr (by decide) (by rfl) (pa_cons (pz 0) (pa_cons pe_int pa_nil))) pe_int (nomark _)) (pe_lc (own := [("_law_k", 2)]) (by rfl) sc_L_arguments.nd (i_r1 (by rfl) T.f_range pe_int) (blkOk_by (own := [("_law_k", 2)]) (N := nm_L_arguments) (sc := defScope st_L_arguments) (by decide +kernel)) (fun _ _ _ _ _ => (pg_name (i := 2) sc_L_arguments.nd rfl (Or.inl rfl))) (fun _ _ _ _ _ => pts_nil) (fun _ _ _ _ _ => (C8.pe_c (ok_L_ways T) hr (by decide) (by rfl) (pa_cons (C8.pe_c (ok_L_take T) hr (by decide) (by rfl) (pa_cons (pz 0) (pa_cons pe_int pa_nil))) pa_nil)))) pe_non) pa_nil))))))))
theorem fn_L_arguments {P : Program} {w : World} {K : PySem.W.Frag} {mg : Str → Option Value} {base : Heap} (T : Top K mg) : ∃ fd, FnOk P w K mg base C8.CX0 3 (He.ga K "_law_arguments") fd ["_law_bag_here"] (sp_L_arguments K) ∧ PySem.W.keepIn K (.ref (He.ga K "_law_arguments")) = true ∧ Binds K fd ["_law_bag_here"] [] := by
  obtain ⟨fd, F⟩ := T.d_L_arguments
  exact ⟨fd, fnF_L_arguments T F, F.kp, F.bindsN (fun _ _ _ _ _ _ us hl => match us, hl with | [_], _ => rfl)⟩
theorem ok_L_arguments {P : Program} {w : World} {K : PySem.W.Frag} {mg : Str → Option Value} {base : Heap} (T : Top K mg) : C8.Cal P w K mg base 3 "_law_arguments" (sp_L_arguments K) [] := by
  obtain ⟨fd, F, kp, b⟩ := fn_L_arguments (P := P) (w := w) (base := base) T
  exact ⟨_, fd, _, [], F, T.g_L_arguments, kp, b, .nil⟩
theorem fnF_L_book {P : Program} {w : World} {K : PySem.W.Frag} {mg : Str → Option Value} {base : Heap} (T : Top K mg) {fd : FuncData} (F : FunD K "_law_book" "_law_book" (defArgs st_L_book) (defBody st_L_book) (defScope st_L_book) [] [] (He.ga K "_law_book") fd) : FnOk P w K mg base C8.CX0 4 (He.ga K "_law_book") fd ["_law_duties_here"] (sp_L_book K) := by
  refine Hk.fn_ok (k := 3) F sc_L_book (ln_sp_L_book (K := K)) (t := t_L_book K) (fun cdv A outer s H E hr => ?_) (rd_L_book T)
  exact (pss_cons (ps_asg (pz 0) (pg_lst rfl (pgs_cons (pg_name (i := 1) sc_L_book.nd rfl (Or.inl rfl)) (pgs_cons (pg_name (i := 2) sc_L_book.nd rfl (Or.inl rfl)) (pgs_cons (pg_name (i := 3) sc_L_book.nd rfl (Or.inl rfl)) (pgs_cons (pg_name (i := 4) sc_L_book.nd rfl (Or.inl rfl)) (pgs_cons (pg_name (i := 5) sc_L_book.nd rfl (Or.inl rfl)) pgs_nil))))))) (pss_one (ps_ret (e_mk0N (mk0_Book_1 T) hr (by decide) (by rfl) (pk_cons (pz 5) (pk_cons (pz 4) (pk_cons (pz 3) (pk_cons (pz 2) (pk_cons (pz 1) pk_nil)))))))))
theorem fn_L_book {P : Program} {w : World} {K : PySem.W.Frag} {mg : Str → Option Value} {base : Heap} (T : Top K mg) : ∃ fd, FnOk P w K mg base C8.CX0 4 (He.ga K "_law_book") fd ["_law_duties_here"] (sp_L_book K) ∧ PySem.W.keepIn K (.ref (He.ga K "_law_book")) = true ∧ Binds K fd ["_law_duties_here"] [] := by
  obtain ⟨fd, F⟩ := T.d_L_book
  exact ⟨fd, fnF_L_book T F, F.kp, F.bindsN (fun _ _ _ _ _ _ us hl => match us, hl with | [_], _ => rfl)⟩
theorem ok_L_book {P : Program} {w : World} {K : PySem.W.Frag} {mg : Str → Option Value} {base : Heap} (T : Top K mg) : C8.Cal P w K mg base 4 "_law_book" (sp_L_book K) [] := by
  obtain ⟨fd, F, kp, b⟩ := fn_L_book (P := P) (w := w) (base := base) T
  exact ⟨_, fd, _, [], F, T.g_L_book, kp, b, .nil⟩
theorem fnF_L_setting {P : Program} {w : World} {K : PySem.W.Frag} {mg : Str → Option Value} {base : Heap} (T : Top K mg) {fd : FuncData} (F : FunD K "_law_setting" "_law_setting" (defArgs st_L_setting) (defBody st_L_setting) (defScope st_L_setting) [] [] (He.ga K "_law_setting") fd) : FnOk P w K mg base C8.CX0 7 (He.ga K "_law_setting") fd ["_law_told"] (sp_L_setting K) := by
  refine Hk.fn_ok (k := 6) F sc_L_setting (ln_sp_L_setting (K := K)) (t := t_L_setting K) (fun cdv A outer s H E hr => ?_) (rd_L_setting T)
  exact (pss_cons (ps_asg (pz 0) (pg_lst rfl (pgs_cons (pg_name (i := 2) sc_L_setting.nd rfl (Or.inl rfl)) (pgs_cons (pg_name (i := 3) sc_L_setting.nd rfl (Or.inl rfl)) (pgs_cons (pg_name (i := 4) sc_L_setting.nd rfl (Or.inl rfl)) (pgs_cons (pg_name (i := 5) sc_L_setting.nd rfl (Or.inl rfl)) (pgs_cons (pg_name (i := 6) sc_L_setting.nd rfl (Or.inl rfl)) (pgs_cons (pg_name (i := 7) sc_L_setting.nd rfl (Or.inl rfl)) (pgs_cons (pg_name (i := 8) sc_L_setting.nd rfl (Or.inl rfl)) (pgs_cons (pg_name (i := 9) sc_L_setting.nd rfl (Or.inl rfl)) (pgs_cons (pg_name (i := 10) sc_L_setting.nd rfl (Or.inl rfl)) pgs_nil))))))))))) (pss_cons (ps_set (i := 1) sc_L_setting.nd rfl (Or.inl rfl) (pe_ifExp (t_cmp o_is0 (pz 10) pe_non (nomark _)) pe_non (C8.pe_c (ok_L_book T) hr (by decide) (by rfl) (pa_cons (pz 10) pa_nil)))) (pss_one (ps_ret (e_mk0N (mk0_Setting_0 T) hr (by decide) (by rfl) (pk_cons (pz 1) (pk_cons (pz 9) (pk_cons (pz 8) (pk_cons (pz 7) (pk_cons (pz 6) (pk_cons (pz 5) (pk_cons (pz 4) (pk_cons (pz 3) (pk_cons (pz 2) pk_nil))))))))))))))
theorem fn_L_setting {P : Program} {w : World} {K : PySem.W.Frag} {mg : Str → Option Value} {base : Heap} (T : Top K mg) : ∃ fd, FnOk P w K mg base C8.CX0 7 (He.ga K "_law_setting") fd ["_law_told"] (sp_L_setting K) ∧ PySem.W.keepIn K (.ref (He.ga K "_law_setting")) = true ∧ Binds K fd ["_law_told"] [] := by
  obtain ⟨fd, F⟩ := T.d_L_setting
  exact ⟨fd, fnF_L_setting T F, F.kp, F.bindsN (fun _ _ _ _ _ _ us hl => match us, hl with | [_], _ => rfl)⟩
theorem ok_L_setting {P : Program} {w : World} {K : PySem.W.Frag} {mg : Str → Option Value} {base : Heap} (T : Top K mg) : C8.Cal P w K mg base 7 "_law_setting" (sp_L_setting K) [] := by
  obtain ⟨fd, F, kp, b⟩ := fn_L_setting (P := P) (w := w) (base := base) T
  exact ⟨_, fd, _, [], F, T.g_L_setting, kp, b, .nil⟩
theorem fnF_L_duties {P : Program} {w : World} {K : PySem.W.Frag} {mg : Str → Option Value} {base : Heap} (T : Top K mg) {fd : FuncData} (F : FunD K "_law_duties" "_law_duties" (defArgs st_L_duties) (defBody st_L_duties) (defScope st_L_duties) [] [] (He.ga K "_law_duties") fd) : FnOk P w K mg base C8.CX0 1 (He.ga K "_law_duties") fd ["_law_some"] (sp_L_duties K) := by
  refine Hk.fn_ok (k := 0) F sc_L_duties (ln_sp_L_duties (K := K)) (t := t_L_duties K) (fun cdv A outer s H E hr => ?_) (rd_L_duties T)
  exact (pss_one (ps_ret (e_lstA (pa_cons (e_fld (pz 0) rfl) (pa_cons (e_fld (pz 0) rfl) (pa_cons (e_fld (pz 0) rfl) (pa_cons (e_fld (pz 0) rfl) (pa_cons (e_fld (pz 0) rfl) pa_nil))))))))
theorem fn_L_duties {P : Program} {w : World} {K : PySem.W.Frag} {mg : Str → Option Value} {base : Heap} (T : Top K mg) : ∃ fd, FnOk P w K mg base C8.CX0 1 (He.ga K "_law_duties") fd ["_law_some"] (sp_L_duties K) ∧ PySem.W.keepIn K (.ref (He.ga K "_law_duties")) = true ∧ Binds K fd ["_law_some"] [] := by
  obtain ⟨fd, F⟩ := T.d_L_duties
  exact ⟨fd, fnF_L_duties T F, F.kp, F.bindsN (fun _ _ _ _ _ _ us hl => match us, hl with | [_], _ => rfl)⟩
theorem ok_L_duties {P : Program} {w : World} {K : PySem.W.Frag} {mg : Str → Option Value} {base : Heap} (T : Top K mg) : C8.Cal P w K mg base 1 "_law_duties" (sp_L_duties K) [] := by
  obtain ⟨fd, F, kp, b⟩ := fn_L_duties (P := P) (w := w) (base := base) T
  exact ⟨_, fd, _, [], F, T.g_L_duties, kp, b, .nil⟩
theorem fnF_L_shows {P : Program} {w : World} {K : PySem.W.Frag} {mg : Str → Option Value} {base : Heap} (T : Top K mg) {fd : FuncData} (F : FunD K "_law_shows" "_law_shows" (defArgs st_L_shows) (defBody st_L_shows) (defScope st_L_shows) [] [] (He.ga K "_law_shows") fd) : FnG P w K mg base C8.CX0 4 (He.ga K "_law_shows") fd ["_law_one", "_law_told"] (sp_L_shows K) := by
  refine fn_g (k := 3) F sc_L_shows (ln_sp_L_shows (K := K)) (t := t_L_shows K) (fun cdv A outer s H E hg hr => ?_) (rd_L_shows T)
  exact (pss_cons (ps_set (i := 2) sc_L_shows.nd rfl (Or.inl rfl) (e_lstA (pa_cons (e_tupA (pa_cons pe_str (pa_cons pe_str (pa_cons pe_str pa_nil)))) (pa_cons (e_tupA (pa_cons pe_str (pa_cons pe_str pa_nil))) (pa_cons (e_tupA (pa_cons pe_str (pa_cons pe_str (pa_cons pe_str pa_nil)))) (pa_cons (e_tupA (pa_cons pe_str (pa_cons pe_str (pa_cons pe_str pa_nil)))) pa_nil)))))) (pss_cons (ps_set (i := 3) sc_L_shows.nd rfl (Or.inl rfl) (pe_ifExp (t_cmp o_isnot0 (e_ix (hu_of hr) (pz 1) pe_int (fun _ _ => rfl)) pe_non (nomark _)) (e_ix (hu_of hr) (pz 1) pe_int (fun _ _ => rfl)) (pe_op o_addA (pz 2) (e_lstA (pa_cons (e_tupA (pa_cons pe_str (pa_cons pe_str pa_nil))) pa_nil))))) (pss_cons (ps_set (i := 4) sc_L_shows.nd rfl (Or.inl rfl) (e_lstA (pa_cons (e_fld (pz 0) rfl) (pa_cons (e_fld (pz 0) rfl) (pa_cons (e_fld (pz 0) rfl) (pa_cons (e_fld (pz 0) rfl) (pa_cons (e_fld (pz 0) rfl) (pa_cons (e_fld (pz 0) rfl) (pa_cons (e_fld (pz 0) rfl) (pa_cons (e_fld (pz 0) rfl) pa_nil)))))))))) (pss_cons (ps_if (PW.pt (pw_or (t_cmp (o_ne hr.units) (pe_callB (c_reprB hg hr) (by rfl) T.f_repr (by decide +kernel) (pa_cons (pz 4) pa_nil)) (pe_callB (c_reprB hg hr) (by rfl) T.f_repr (by decide +kernel) (pa_cons (e_sBA (pz 1) pe_int) pa_nil)) (nomark _)) (pw_or1 (pt_not (t_val (pe_callB c_isi (by rfl) T.f_isinstance (by decide +kernel) (pa_cons (e_fld (pz 0) rfl) (pa_cons (C8.pe_gc (by rfl) ⟨_, T.m_Book, rfl⟩) pa_nil)))))))) (pss_one (ps_ret pe_bl)) pss_nil) (pss_one (ps_ret (pe_cmpR (o_eq hr.units) (pe_callB (c_reprB hg hr) (by rfl) T.f_repr (by decide +kernel) (pa_cons (C8.pe_c (ok_L_duties T) hr (by decide) (by rfl) (pa_cons (e_fld (pz 0) rfl) pa_nil)) pa_nil)) (pe_callB (c_reprB hg hr) (by rfl) T.f_repr (by decide +kernel) (pa_cons (pz 3) pa_nil)) (nomark _))))))))
theorem okg_L_shows {P : Program} {w : World} {K : PySem.W.Frag} {mg : Str → Option Value} {base : Heap} (T : Top K mg) : CalG P w K mg base 4 "_law_shows" (sp_L_shows K) := by
  obtain ⟨fd, F⟩ := T.d_L_shows
  exact ⟨_, fd, _, fnF_L_shows T F, T.g_L_shows, F.kp, F.bindsN (fun _ _ _ _ _ _ us hl => match us, hl with | [_, _], _ => rfl)⟩
theorem fnF_L_changed {P : Program} {w : World} {K : PySem.W.Frag} {mg : Str → Option Value} {base : Heap} (T : Top K mg) {fd : FuncData} (F : FunD K "_law_changed" "_law_changed" (defArgs st_L_changed) (defBody st_L_changed) (defScope st_L_changed) [] [] (He.ga K "_law_changed") fd) : FnOk P w K mg base C8.CX0 4 (He.ga K "_law_changed") fd ["_law_bag_here", "_law_told"] (sp_L_changed K) := by
  refine Hk.fn_ok (k := 3) F sc_L_changed (ln_sp_L_changed (K := K)) (t := t_L_changed K) (fun cdv A outer s H E hr => ?_) (rd_L_changed T)
  exact (pss_cons (ps_par (i := 2) (j := 3) (by rfl) sc_L_changed.nd rfl rfl (by decide) rfl rfl (pa_cons (C8.pe_c (ok_L_take T) hr (by decide) (by rfl) (pa_cons (pz 0) (pa_cons pe_int pa_nil))) (pa_cons (C8.pe_c (ok_L_arguments T) hr (by decide) (by rfl) (pa_cons (pz 0) pa_nil)) pa_nil)) (by rfl)) (pss_one (ps_ret (pe_op o_addA (pe_op o_addA (e_sBA (pz 1) (pz 2)) (e_lstA (pa_cons (e_ix (hu_of hr) (pz 3) (pz 2) (fun _ _ => rfl)) pa_nil))) (e_sAA (pz 1) (pe_op o_addA (pz 2) pe_int))))))
theorem fn_L_changed {P : Program} {w : World} {K : PySem.W.Frag} {mg : Str → Option Value} {base : Heap} (T : Top K mg) : ∃ fd, FnOk P w K mg base C8.CX0 4 (He.ga K "_law_changed") fd ["_law_bag_here", "_law_told"] (sp_L_changed K) ∧ PySem.W.keepIn K (.ref (He.ga K "_law_changed")) = true ∧ Binds K fd ["_law_bag_here", "_law_told"] [] := by
  obtain ⟨fd, F⟩ := T.d_L_changed
  exact ⟨fd, fnF_L_changed T F, F.kp, F.bindsN (fun _ _ _ _ _ _ us hl => match us, hl with | [_, _], _ => rfl)⟩
theorem ok_L_changed {P : Program} {w : World} {K : PySem.W.Frag} {mg : Str → Option Value} {base : Heap} (T : Top K mg) : C8.Cal P w K mg base 4 "_law_changed" (sp_L_changed K) [] := by
  obtain ⟨fd, F, kp, b⟩ := fn_L_changed (P := P) (w := w) (base := base) T
  exact ⟨_, fd, _, [], F, T.g_L_changed, kp, b, .nil⟩
theorem fnF_L_full {P : Program} {w : World} {K : PySem.W.Frag} {mg : Str → Option Value} {base : Heap} (T : Top K mg) {fd : FuncData} (F : FunD K "_law_full" "_law_full" (defArgs st_L_full) (defBody st_L_full) (defScope st_L_full) [] [] (He.ga K "_law_full") fd) : FnOk P w K mg base C8.CX0 2 (He.ga K "_law_full") fd ["_law_told"] (sp_L_full K) := by
  refine Hk.fn_ok (k := 1) F sc_L_full (ln_sp_L_full (K := K)) (t := t_L_full K) (fun cdv A outer s H E hr => ?_) (rd_L_full T)
  exact (pss_cons (ps_set (i := 1) sc_L_full.nd rfl (Or.inl rfl) (e_lstA (pa_cons (C8.pe_c (ok_L_ways T) hr (by decide) (by rfl) (pa_cons pe_int pa_nil)) (pa_cons (C8.pe_c (ok_L_ways T) hr (by decide) (by rfl) (pa_cons pe_int pa_nil)) (pa_cons (C8.pe_c (ok_L_ways T) hr (by decide) (by rfl) (pa_cons pe_int pa_nil)) (pa_cons (C8.pe_c (ok_L_ways T) hr (by decide) (by rfl) (pa_cons pe_int pa_nil)) (pa_cons (C8.pe_c (ok_L_ways T) hr (by decide) (by rfl) (pa_cons pe_int pa_nil)) pa_nil))))))) (pss_one (ps_ret (pe_op o_addA (e_sBA (pz 0) pe_int) (e_lstA (pa_cons (pe_ifExp (t_cmp o_is0 (e_ix (hu_of hr) (pz 0) pe_int (fun _ _ => rfl)) pe_non (nomark _)) (pz 1) (e_ix (hu_of hr) (pz 0) pe_int (fun _ _ => rfl))) pa_nil))))))
theorem fn_L_full {P : Program} {w : World} {K : PySem.W.Frag} {mg : Str → Option Value} {base : Heap} (T : Top K mg) : ∃ fd, FnOk P w K mg base C8.CX0 2 (He.ga K "_law_full") fd ["_law_told"] (sp_L_full K) ∧ PySem.W.keepIn K (.ref (He.ga K "_law_full")) = true ∧ Binds K fd ["_law_told"] [] := by
  obtain ⟨fd, F⟩ := T.d_L_full
  exact ⟨fd, fnF_L_full T F, F.kp, F.bindsN (fun _ _ _ _ _ _ us hl => match us, hl with | [_], _ => rfl)⟩
theorem ok_L_full {P : Program} {w : World} {K : PySem.W.Frag} {mg : Str → Option Value} {base : Heap} (T : Top K mg) : C8.Cal P w K mg base 2 "_law_full" (sp_L_full K) [] := by
  obtain ⟨fd, F, kp, b⟩ := fn_L_full (P := P) (w := w) (base := base) T
  exact ⟨_, fd, _, [], F, T.g_L_full, kp, b, .nil⟩
theorem fnF_law {P : Program} {w : World} {K : PySem.W.Frag} {mg : Str → Option Value} {base : Heap} (T : Top K mg) {fd : FuncData} (F : FunD K "law" "law" (defArgs st_law) (defBody st_law) (defScope st_law) [] [] (He.ga K "law") fd) : FnG P w K mg base C8.CX0 11 (He.ga K "law") fd ["_law_script"] (sp_law K) := by
  refine fn_g (k := 10) F sc_law (ln_sp_law (K := K)) (t := t_law K) (fun cdv A outer s H E hg hr => ?_) (rd_law T)
  exact (pss_cons (ps_set (i := 1) sc_law.nd rfl (Or.inl rfl) (e_lstA (pa_cons pe_str (pa_cons pe_bl (pa_cons pe_int (pa_cons pe_bl (pa_cons pe_bl (pa_cons pe_str (pa_cons pe_int (pa_cons pe_int (pa_cons pe_non pa_nil))))))))))) (pss_cons (ps_if (PW.pt (pw_or (pt_not (t_val (e_cG (okg_L_shows T) hg hr (by decide) (by rfl) (pa_cons (e_mk0N (mk0_Setting_1 T) hr (by decide) (by rfl) pk_nil) (pa_cons (pz 1) pa_nil))))) (pw_or1 (t_cmp (o_ne hr.units) (C8.pe_gc (by rfl) ⟨_, T.m_DIRECTIONS, rfl⟩) (e_tupA (pa_cons pe_str (pa_cons pe_str (pa_cons pe_str pa_nil)))) (nomark _))))) (pss_one (ps_ret pe_bl)) pss_nil) (pss_cons (ps_if (t_cmp (o_neO (ok_Book___eq__ T) T.nef_Book hr (by decide)) (e_mk0N (mk0_Book_0 T) hr (by decide) (by rfl) pk_nil) (C8.pe_c (ok_L_book T) hr (by decide) (by rfl) (pa_cons (e_ix (hu_of hr) (C8.pe_c (ok_L_full T) hr (by decide) (by rfl) (pa_cons (pz 1) pa_nil)) pe_int (fun _ _ => rfl)) pa_nil)) (nomark _)) (pss_one (ps_ret pe_bl)) pss_nil) (pss_cons (s_forR1 PassesOwn.never rfl (by rfl) T.f_range (pe_callB (c_max2 rfl) (by rfl) T.f_max (by decide +kernel) (pa_cons pe_int (pa_cons (pe_callB (c_min2 rfl) (by rfl) T.f_min (by decide +kernel) (pa_cons pe_int (pa_cons (pe_callB c_lenS (by rfl) T.f_len (by decide +kernel) (pa_cons (pz 0) pa_nil)) pa_nil))) pa_nil))) (pg_name (i := 2) sc_law.nd rfl (Or.inl rfl)) (pss_cons (ps_set (i := 3) sc_law.nd rfl (Or.inl rfl) (C8.pe_c (ok_L_bag T) hr (by decide) (by rfl) (pa_cons (pz 0) (pa_cons (pz 2) pa_nil)))) (pss_one (s_forR1 PassesOwn.never rfl (by rfl) T.f_range pe_int (pg_name (i := 4) sc_law.nd rfl (Or.inl rfl)) (pss_cons (ps_set (i := 5) sc_law.nd rfl (Or.inl rfl) (C8.pe_c (ok_L_arguments T) hr (by decide) (by rfl) (pa_cons (pz 3) pa_nil))) (pss_cons (ps_set (i := 6) sc_law.nd rfl (Or.inl rfl) (C8.pe_c (ok_L_changed T) hr (by decide) (by rfl) (pa_cons (pz 3) (pa_cons (pz 5) pa_nil)))) (pss_cons (ps_asg (e_tupA (pa_cons (C8.pe_c (ok_L_setting T) hr (by decide) (by rfl) (pa_cons (pz 5) pa_nil)) (pa_cons (C8.pe_c (ok_L_setting T) hr (by decide) (by rfl) (pa_cons (pz 6) pa_nil)) pa_nil))) (pg_tup rfl (pgs_cons (pg_name (i := 7) sc_law.nd rfl (Or.inr rfl)) (pgs_cons (pg_name (i := 8) sc_law.nd rfl (Or.inl rfl)) pgs_nil)))) (pss_cons (ps_if (PW.pt (pw_or (pt_not (t_val (e_cG (okg_L_shows T) hg hr (by decide) (by rfl) (pa_cons (pz 7) (pa_cons (pz 5) pa_nil))))) (pw_or (pt_not (t_val (e_cG (okg_L_shows T) hg hr (by decide) (by rfl) (pa_cons (pz 8) (pa_cons (pz 6) pa_nil))))) (pw_or1 (t_cmp (o_neO (ok_Setting___eq__ T) T.nef_Setting hr (by decide)) (pz 7) (C8.pe_c (ok_L_setting T) hr (by decide) (by rfl) (pa_cons (C8.pe_c (ok_L_full T) hr (by decide) (by rfl) (pa_cons (pz 5) pa_nil)) pa_nil)) (nomark _)))))) (pss_one (ps_ret pe_bl)) pss_nil) (pss_cons (ps_if (t_cmp (o_ne hr.units) (pe_callB (c_reprB hg hr) (by rfl) T.f_repr (by decide +kernel) (pa_cons (pe_cmpR (o_eqO (ok_Setting___eq__ T) hr (by decide)) (pz 7) (pz 8) (nomark _)) pa_nil)) (pe_callB (c_reprB hg hr) (by rfl) T.f_repr (by decide +kernel) (pa_cons (pe_cmpR (o_eq hr.units) (C8.pe_c (ok_L_full T) hr (by decide) (by rfl) (pa_cons (pz 5) pa_nil)) (C8.pe_c (ok_L_full T) hr (by decide) (by rfl) (pa_cons (pz 6) pa_nil)) (nomark _)) pa_nil)) (nomark _)) (pss_one (ps_ret pe_bl)) pss_nil) (pss_cons (ps_if (t_cmp (o_ne hr.units) (pe_callB (c_reprB hg hr) (by rfl) T.f_repr (by decide +kernel) (pa_cons (pe_cmpR (o_eqO (ok_Book___eq__ T) hr (by decide)) (e_fld (pz 7) rfl) (e_fld (pz 8) rfl) (nomark _)) pa_nil)) (pe_callB (c_reprB hg hr) (by rfl) T.f_repr (by decide +kernel) (pa_cons (pe_cmpR (o_eq hr.units) (e_ix (hu_of hr) (C8.pe_c (ok_L_full T) hr (by decide) (by rfl) (pa_cons (pz 5) pa_nil)) pe_int (fun _ _ => rfl)) (e_ix (hu_of hr) (C8.pe_c (ok_L_full T) hr (by decide) (by rfl) (pa_cons (pz 6) pa_nil)) pe_int (fun _ _ => rfl)) (nomark _)) pa_nil)) (nomark _)) (pss_one (ps_ret pe_bl)) pss_nil) (pss_cons (ps_if (t_cmp (o_ne0 hr.units0) (pe_lc (own := [("_law_value", 9)]) (by rfl) sc_law.nd (i_t (e_tupA (pa_cons pe_non (pa_cons pe_bl (pa_cons pe_int (pa_cons pe_str (pa_cons (e_tupA pa_nil) (pa_cons (e_lstA pa_nil) (pa_cons (e_mk0N (mk0_Book_0 T) hr (by decide) (by rfl) pk_nil) (pa_cons (C8.pe_c (ok_L_full T) hr (by decide) (by rfl) (pa_cons (pz 5) pa_nil)) pa_nil)))))))))) (blkOk_by (own := [("_law_value", 9)]) (N := nm_law) (sc := defScope st_law) (by decide +kernel)) (fun _ _ _ _ _ => (pg_name (i := 9) sc_law.nd rfl (Or.inl rfl))) (fun _ _ _ _ _ => (pts_one (t_cmp (o_eqO (ok_Setting___eq__ T) hr (by decide)) (pz 7) (pz 9) (nomark _)))) (fun _ _ _ _ _ => (pz 9))) (e_lstA pa_nil) (nomark _)) (pss_one (ps_ret pe_bl)) pss_nil) (pss_cons (ps_if (t_cmp (o_ne0 hr.units0) (pe_lc (own := [("_law_value", 9)]) (by rfl) sc_law.nd (i_t (e_tupA (pa_cons pe_non (pa_cons (e_tupA pa_nil) (pa_cons (e_mk0N (mk0_Setting_1 T) hr (by decide) (by rfl) pk_nil) (pa_cons (e_ix (hu_of hr) (C8.pe_c (ok_L_full T) hr (by decide) (by rfl) (pa_cons (pz 5) pa_nil)) pe_int (fun _ _ => rfl)) pa_nil)))))) (blkOk_by (own := [("_law_value", 9)]) (N := nm_law) (sc := defScope st_law) (by decide +kernel)) (fun _ _ _ _ _ => (pg_name (i := 9) sc_law.nd rfl (Or.inl rfl))) (fun _ _ _ _ _ => (pts_one (t_cmp (o_eqO (ok_Book___eq__ T) hr (by decide)) (e_fld (pz 7) rfl) (pz 9) (nomark _)))) (fun _ _ _ _ _ => (pz 9))) (e_lstA pa_nil) (nomark _)) (pss_one (ps_ret pe_bl)) pss_nil) (pss_cons (ps_if (t_cmp (o_neO (ok_Setting___eq__ T) T.nef_Setting hr (by decide)) (e_mk0N (mk0_Setting_2 T) hr (by decide) (by rfl) (pk_cons (e_ix (hu_of hr) (pz 5) pe_int (fun _ _ => rfl)) pk_nil)) (C8.pe_c (ok_L_setting T) hr (by decide) (by rfl) (pa_cons (pe_op o_addA (e_lstA (pa_cons (e_ix (hu_of hr) (pz 5) pe_int (fun _ _ => rfl)) pa_nil)) (e_sAA (pz 1) pe_int)) pa_nil)) (nomark _)) (pss_one (ps_ret pe_bl)) pss_nil) (pss_one (ps_if (t_cmp (o_neO (ok_Setting___eq__ T) T.nef_Setting hr (by decide)) (e_mk0N (mk0_Setting_3 T) hr (by decide) (by rfl) (pk_cons (e_ix (hu_of hr) (pz 5) pe_int (fun _ _ => rfl)) (pk_cons (e_ix (hu_of hr) (pz 5) pe_int (fun _ _ => rfl)) pk_nil))) (C8.pe_c (ok_L_setting T) hr (by decide) (by rfl) (pa_cons (pe_op o_addA (e_lstA (pa_cons pe_str (pa_cons (e_ix (hu_of hr) (pz 5) pe_int (fun _ _ => rfl)) (pa_cons (e_ix (hu_of hr) (pz 5) pe_int (fun _ _ => rfl)) pa_nil)))) (e_sAA (pz 1) pe_int)) pa_nil)) (nomark _)) (pss_one (ps_ret pe_bl)) pss_nil))))))))))))))) (pss_one (ps_ret pe_bl))))))
theorem okg_law {P : Program} {w : World} {K : PySem.W.Frag} {mg : Str → Option Value} {base : Heap} (T : Top K mg) : CalG P w K mg base 11 "law" (sp_law K) := by
  obtain ⟨fd, F⟩ := T.d_law
  exact ⟨_, fd, _, fnF_law T F, T.g_law, F.kp, F.bindsN (fun _ _ _ _ _ _ us hl => match us, hl with | [_], _ => rfl)⟩
set_option maxHeartbeats 0
/-! ### the head: facts by names, the run -/
def fa : List Hk.Fact := [
  .of (.glo "law"),
  .of (.glo "is_integer"),
  .of (.glo "is_from_to"),
  .of (.glo "is_duty"),
  .of (.glo "is_word_of"),
  .of (.glo "_law_bag"),
  .of (.glo "_law_take"),
  .of (.glo "_law_of"),
  .of (.glo "_law_ways"),
  .of (.glo "_law_arguments"),
  .of (.glo "_law_book"),
  .of (.glo "_law_setting"),
  .of (.glo "_law_duties"),
  .of (.glo "_law_shows"),
  .of (.glo "_law_changed"),
  .of (.glo "_law_full"),
  .of (.free "len"),
  .of (.free "abs"),
  .of (.free "max"),
  .of (.free "min"),
  .of (.free "range"),
  .of (.free "isinstance"),
  .of (.free "int"),
  .of (.free "bool"),
  .of (.free "list"),
  .of (.free "tuple"),
  .of (.free "str"),
  .of (.free "enumerate"),
  .of (.free "repr"),
  .of (.int "MOST_BATCH" 8),
  .of (.int "MOST_GROUPS" 32),
  .of (.int "MOST_TABLES" 32),
  .of (.glo "Book"),
  .of (.glo "Setting"),
  .of (.cls "Book"),
  .of (.noat "Book" "cleaned"),
  .of (.noat "Book" "dropped"),
  .of (.noat "Book" "bind_copied"),
  .of (.noat "Book" "give_copied"),
  .of (.noat "Book" "take_copied"),
  .of (.mkr "Book"),
  .of (.cls "Setting"),
  .of (.noat "Setting" "copies"),
  .of (.noat "Setting" "cached"),
  .of (.noat "Setting" "batch"),
  .of (.noat "Setting" "early"),
  .of (.noat "Setting" "drain"),
  .of (.noat "Setting" "policy"),
  .of (.noat "Setting" "groups"),
  .of (.noat "Setting" "tables"),
  .of (.noat "Setting" "book"),
  .of (.mkr "Setting"),
  .of (.meth "Book" "duties"),
  .of (.meth "Book" "__eq__"),
  .of (.meth "Setting" "pairs"),
  .of (.meth "Setting" "__eq__"),
  .of (.glo "POLICIES"),
  Hk.tupB "POLICIES" ["first", "best", "worst", "next", "halves"],
  .of (.glo "DIRECTIONS"),
  Hk.tupB "DIRECTIONS" ["to", "from", "both"],
  .of (.glo "BACK"),
  Hk.tupB "BACK" ["from", "both"],
  .of (.glo "COPIES"),
  Hk.tupB "COPIES" ["none", "ends", "all"],
  Hk.insB "Book",
  Hk.insB "Setting",
  Hk.neFB "Book",
  Hk.neFB "Setting",
  Hk.sfB "Book",
  Hk.sfB "Setting",
  Hk.nfB "Book" "int",
  Hk.nfB "Book" "bool",
  Hk.nfB "Book" "str",
  Hk.nfB "Book" "list",
  Hk.nfB "Book" "tuple",
  Hk.nfB "Book" "NoneType",
  Hk.nfB "Setting" "int",
  Hk.nfB "Setting" "bool",
  Hk.nfB "Setting" "str",
  Hk.nfB "Setting" "list",
  Hk.nfB "Setting" "tuple",
  Hk.nfB "Setting" "NoneType",
  Hk.kitBB "int" "Book" false,
  Hk.kitBB "bool" "Book" false,
  Hk.kitBB "str" "Book" false,
  Hk.kitBB "list" "Book" false,
  Hk.kitBB "tuple" "Book" false,
  Hk.kitBB "NoneType" "Book" false,
  Hk.kitBB "int" "Setting" false,
  Hk.kitBB "bool" "Setting" false,
  Hk.kitBB "str" "Setting" false,
  Hk.kitBB "list" "Setting" false,
  Hk.kitBB "tuple" "Setting" false,
  Hk.kitBB "NoneType" "Setting" false,
  Hk.kitTB "Book" "int" false,
  Hk.kitTB "Book" "bool" false,
  Hk.kitCB "Book" "Book" true,
  Hk.kitCB "Book" "Setting" false,
  Hk.kitCB "Setting" "Book" false,
  Hk.kitCB "Setting" "Setting" true]
def fn : List Hk.DP := [
  ⟨fun K => (He.ga K "is_integer"), "is_integer", "is_integer", defArgs st_is_integer, defBody st_is_integer, defScope st_is_integer, [], []⟩,
  ⟨fun K => (He.ga K "is_from_to"), "is_from_to", "is_from_to", defArgs st_is_from_to, defBody st_is_from_to, defScope st_is_from_to, [], []⟩,
  ⟨fun K => (He.ga K "is_duty"), "is_duty", "is_duty", defArgs st_is_duty, defBody st_is_duty, defScope st_is_duty, [], []⟩,
  ⟨fun K => (He.ga K "is_word_of"), "is_word_of", "is_word_of", defArgs st_is_word_of, defBody st_is_word_of, defScope st_is_word_of, [], []⟩,
  ⟨fun K => (He.ma K (He.ga K "Book") "__init__"), "__init__", "Book.__init__", defArgs st_Book___init__, defBody st_Book___init__, defScope st_Book___init__, [], [("cleaned", .glo "DIRECTIONS"), ("dropped", .glo "BACK"), ("bind_copied", .glo "DIRECTIONS"), ("give_copied", .glo "DIRECTIONS"), ("take_copied", .glo "BACK")]⟩,
  ⟨fun K => (He.ma K (He.ga K "Book") "duties"), "duties", "Book.duties", defArgs st_Book_duties, defBody st_Book_duties, defScope st_Book_duties, [], []⟩,
  ⟨fun K => (He.ma K (He.ga K "Book") "__eq__"), "__eq__", "Book.__eq__", defArgs st_Book___eq__, defBody st_Book___eq__, defScope st_Book___eq__, [], []⟩,
  ⟨fun K => (He.ma K (He.ga K "Setting") "__init__"), "__init__", "Setting.__init__", defArgs st_Setting___init__, defBody st_Setting___init__, defScope st_Setting___init__, [], [("copies", .str "none"), ("cached", .bl false), ("batch", .int 0), ("early", .bl false), ("drain", .bl true), ("policy", .str "first"), ("groups", .int 16), ("tables", .int 16), ("book", .non)]⟩,
  ⟨fun K => (He.ma K (He.ga K "Setting") "pairs"), "pairs", "Setting.pairs", defArgs st_Setting_pairs, defBody st_Setting_pairs, defScope st_Setting_pairs, [], []⟩,
  ⟨fun K => (He.ma K (He.ga K "Setting") "__eq__"), "__eq__", "Setting.__eq__", defArgs st_Setting___eq__, defBody st_Setting___eq__, defScope st_Setting___eq__, [], []⟩,
  ⟨fun K => (He.ga K "_law_bag"), "_law_bag", "_law_bag", defArgs st_L_bag, defBody st_L_bag, defScope st_L_bag, [], []⟩,
  ⟨fun K => (He.ga K "_law_take"), "_law_take", "_law_take", defArgs st_L_take, defBody st_L_take, defScope st_L_take, [], []⟩,
  ⟨fun K => (He.ga K "_law_of"), "_law_of", "_law_of", defArgs st_L_of, defBody st_L_of, defScope st_L_of, [], []⟩,
  ⟨fun K => (He.ga K "_law_ways"), "_law_ways", "_law_ways", defArgs st_L_ways, defBody st_L_ways, defScope st_L_ways, [], []⟩,
  ⟨fun K => (He.ga K "_law_arguments"), "_law_arguments", "_law_arguments", defArgs st_L_arguments, defBody st_L_arguments, defScope st_L_arguments, [], []⟩,
  ⟨fun K => (He.ga K "_law_book"), "_law_book", "_law_book", defArgs st_L_book, defBody st_L_book, defScope st_L_book, [], []⟩,
  ⟨fun K => (He.ga K "_law_setting"), "_law_setting", "_law_setting", defArgs st_L_setting, defBody st_L_setting, defScope st_L_setting, [], []⟩,
  ⟨fun K => (He.ga K "_law_duties"), "_law_duties", "_law_duties", defArgs st_L_duties, defBody st_L_duties, defScope st_L_duties, [], []⟩,
  ⟨fun K => (He.ga K "_law_shows"), "_law_shows", "_law_shows", defArgs st_L_shows, defBody st_L_shows, defScope st_L_shows, [], []⟩,
  ⟨fun K => (He.ga K "_law_changed"), "_law_changed", "_law_changed", defArgs st_L_changed, defBody st_L_changed, defScope st_L_changed, [], []⟩,
  ⟨fun K => (He.ga K "_law_full"), "_law_full", "_law_full", defArgs st_L_full, defBody st_L_full, defScope st_L_full, [], []⟩,
  ⟨fun K => (He.ga K "law"), "law", "law", defArgs st_law, defBody st_law, defScope st_law, [], []⟩]
def names : List Str := (["_wall", "WindowError", "BadSetting", "is_integer", "is_from_to", "NEXT", "HALVES", "POLICIES", "TO", "FROM", "BOTH", "DIRECTIONS", "BACK", "COPIES", "MOST_BATCH", "MOST_GROUPS", "MOST_TABLES", "is_duty", "is_word_of", "shown", "Book", "Setting", "_law_bag", "_law_take", "_law_of", "_law_ways", "_law_arguments", "_law_book", "_law_setting", "_law_duties"] : List Str) ++ (["_law_shows", "_law_changed", "_law_full"] : List Str)
abbrev R : PySem.W.OpenRow := PySem.W.OpenLaw.row PySem.Challenge.rw_devicewindows_k19_books_and_settings_mad
abbrev hk : PySem.W.Hook := Hk.hook 7 fa fn
def ob (s : PySem.W.SharedT) : Hk.Al := Hk.obsG 7 fa fn (HandSHeadRun.getT s)
theorem ob_eq (s : PySem.W.SharedT) : ob s = hk.obs s.abs := Hk.obsG_eq (HandSHeadRun.getT_eq s)
theorem run (w : World) : HandSHeadRun.RunEq R (PySem.W.view R.prog [37]) hk ob 6000 names w := by
  intro os
  kernel_rfl
theorem top_of {K : PySem.W.Frag} {h : Heap} {mg : Str → Option Value} (X : K.In h) (G : h.Ns mainGlobals mg) (c : Hk.Says fa fn K) : Top K mg :=
  ⟨He.glo_ok X G (c.fact 0), He.glo_ok X G (c.fact 1), He.glo_ok X G (c.fact 2), He.glo_ok X G (c.fact 3), He.glo_ok X G (c.fact 4), He.glo_ok X G (c.fact 5), He.glo_ok X G (c.fact 6), He.glo_ok X G (c.fact 7), He.glo_ok X G (c.fact 8), He.glo_ok X G (c.fact 9), He.glo_ok X G (c.fact 10), He.glo_ok X G (c.fact 11), He.glo_ok X G (c.fact 12), He.glo_ok X G (c.fact 13), He.glo_ok X G (c.fact 14), He.glo_ok X G (c.fact 15), He.free_ok X G (c.fact 16), He.free_ok X G (c.fact 17), He.free_ok X G (c.fact 18), He.free_ok X G (c.fact 19), He.free_ok X G (c.fact 20), He.free_ok X G (c.fact 21), He.free_ok X G (c.fact 22), He.free_ok X G (c.fact 23), He.free_ok X G (c.fact 24), He.free_ok X G (c.fact 25), He.free_ok X G (c.fact 26), He.free_ok X G (c.fact 27), He.free_ok X G (c.fact 28), (by obtain ⟨t, h⟩ := He.int_ok X G (c.fact 29); exact ⟨_, h, t, rfl⟩), (by obtain ⟨t, h⟩ := He.int_ok X G (c.fact 30); exact ⟨_, h, t, rfl⟩), (by obtain ⟨t, h⟩ := He.int_ok X G (c.fact 31); exact ⟨_, h, t, rfl⟩), He.glo_ok X G (c.fact 32), He.glo_ok X G (c.fact 33), He.cls_ok (c.fact 34), He.noat_ok (c.fact 35), He.noat_ok (c.fact 36), He.noat_ok (c.fact 37), He.noat_ok (c.fact 38), He.noat_ok (c.fact 39), He.mkr_ok (c.fact 40), He.cls_ok (c.fact 41), He.noat_ok (c.fact 42), He.noat_ok (c.fact 43), He.noat_ok (c.fact 44), He.noat_ok (c.fact 45), He.noat_ok (c.fact 46), He.noat_ok (c.fact 47), He.noat_ok (c.fact 48), He.noat_ok (c.fact 49), He.noat_ok (c.fact 50), He.mkr_ok (c.fact 51), He.meth_ok (c.fact 52), He.meth_ok (c.fact 53), He.meth_ok (c.fact 54), He.meth_ok (c.fact 55), He.glo_ok X G (c.fact 56), Hk.tupB_ok (by decide) (c.fact 57), He.glo_ok X G (c.fact 58), Hk.tupB_ok (by decide) (c.fact 59), He.glo_ok X G (c.fact 60), Hk.tupB_ok (by decide) (c.fact 61), He.glo_ok X G (c.fact 62), Hk.tupB_ok (by decide) (c.fact 63), Hk.insB_ok (c.fact 64), Hk.insB_ok (c.fact 65), Hk.neFB_ok (c.fact 66), Hk.neFB_ok (c.fact 67), c.fact 68, c.fact 69, c.fact 70, c.fact 71, c.fact 72, c.fact 73, c.fact 74, c.fact 75, c.fact 76, c.fact 77, c.fact 78, c.fact 79, c.fact 80, c.fact 81, Hk.kitBB_ok (c.fact 82), Hk.kitBB_ok (c.fact 83), Hk.kitBB_ok (c.fact 84), Hk.kitBB_ok (c.fact 85), Hk.kitBB_ok (c.fact 86), Hk.kitBB_ok (c.fact 87), Hk.kitBB_ok (c.fact 88), Hk.kitBB_ok (c.fact 89), Hk.kitBB_ok (c.fact 90), Hk.kitBB_ok (c.fact 91), Hk.kitBB_ok (c.fact 92), Hk.kitBB_ok (c.fact 93), Hk.kitTB_ok (c.fact 94), Hk.kitTB_ok (c.fact 95), Hk.kitCB_ok (c.fact 96), Hk.kitCB_ok (c.fact 97), Hk.kitCB_ok (c.fact 98), Hk.kitCB_ok (c.fact 99), c.def_ 0, c.def_ 1, c.def_ 2, c.def_ 3, c.def_ 4, c.def_ 5, c.def_ 6, c.def_ 7, c.def_ 8, c.def_ 9, c.def_ 10, c.def_ 11, c.def_ 12, c.def_ 13, c.def_ 14, c.def_ 15, c.def_ 16, c.def_ 17, c.def_ 18, c.def_ 19, c.def_ 20, c.def_ 21⟩

end K19
open PySem PySem.W PySem.Calls PyProof.Rows
set_option maxHeartbeats 0
theorem PySem.Challenge.cw_devicewindows_k19_books_and_settings_mad_holds : PySem.Challenge.rw_devicewindows_k19_books_and_settings_mad.Holds := by
  w_on; o_law
  refine HandSHeadRun.head_any (r := OpenLaw.row PySem.Challenge.rw_devicewindows_k19_books_and_settings_mad) (q := view (OpenLaw.row PySem.Challenge.rw_devicewindows_k19_books_and_settings_mad).prog [37]) (H := K19.hk) (ob := K19.ob) (M := 6000) (loose := K19.names) (d := HandSHeadRun.topDef (OpenLaw.row PySem.Challenge.rw_devicewindows_k19_books_and_settings_mad).prog 37) (kwd := []) K19.ob_eq
    (by kernel_rfl) (fun s => by kernel_rfl) K19.run (by kernel_rfl) (by kernel_rfl) (by kernel_rfl) (by rfl) (by first | assumption | decide +kernel) (by decide +kernel) ⟨rfl, rfl, rfl, rfl, rfl, by decide +kernel⟩ ?hw ?hc
  case hw => w_witness2
  case hc =>
    refine Z.walk_g (l := PySem.Challenge.rw_devicewindows_k19_books_and_settings_mad) (n := 63) (k := 11) (x := "_law_script") rfl (by decide) (by kernel_rfl) ⟨rfl, by decide, by decide⟩ ?F
    intro w mg fa h Y G hmg0
    obtain ⟨K, KX, c⟩ := Y
    have hmg : mg ("law" : PySem.Str) = some (.ref fa) := by
      have e : (HandSHeadRun.topDef (OpenLaw.row PySem.Challenge.rw_devicewindows_k19_books_and_settings_mad).prog 37).name = ("law" : PySem.Str) := by kernel_rfl
      rw [← e]
      exact hmg0
    have T := K19.top_of KX G c
    have ea := hmg.symm.trans T.g_law
    cases ea
    obtain ⟨fd, FD⟩ := T.d_law
    have b := L2.FunD.bindsA (ps := ["_law_script"]) FD fun _ _ _ _ _ _ us hl => match us, hl with | [_], _ => rfl
    refine ⟨K, fd, K19.sp_law K, KX, fun s v => b s [v] rfl, fun H a ns hl ho hS => ⟨a, ns, rfl, hS, hl, ho, fun _ => rfl⟩, fun base _ _ => ?_⟩
    exact K19.fnF_law (P := (PySem.Challenge.rw_devicewindows_k19_books_and_settings_mad).prog) (w := w) (base := base) T FD
