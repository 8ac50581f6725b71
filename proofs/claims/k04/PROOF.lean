import PyProof.Rows.All
import Wide.All
import OpenK.AllK
import Wide.FinOn
import HandS.Base
import HandS.Call
import HandS.List
import HandS.Comp
import HandS.Ends
import HandS.Dict
import HandS.Iter
import HandS.Text
import HandS.Words
import HandS.WordsList
import HandS.More
import HandS.Codes
import HandS.Defaults
import HandS.Property
import HandS.WordsDict
import HandS.ClsMeth
import HandS.Style
import HandS.HeadHook1
import HandS.HeadHook2
import HandS.HeadEnd
import HandS.Head2
import KE.KStateDown
import HandS.IsInst
import HandS.Exc
import HandS.ExcOwn
import HandS.ExcIs
import HandS.MakeKw
import HandS.Lambda
import HandS.EndTab
import HandS.WordsExc
import HandS.HeadWalk
import HandS.HeadHook4
import HandS.HeadNt
import HandS.GenList
import HandS.OwnEq
import HandS.Conv
import HandS.FStr
import HandS.TryOnly
import HandS.ExcInit
import HandS.ExcField
import KE.KExcInit
import HandS.TryMany
import HandS.SortKw
import KE.DataMinMax
import HandS.MakeKwOnly
import PyProof.ReprNest
import PySem.Challenge.RW_devicewindows_k04_segments_by_greed
set_option Elab.async false
set_option linter.all false
set_option maxRecDepth 100000
set_option maxHeartbeats 4000000
namespace Z
open PySem PySem.Spec PyProof.Rows L2

/-! ### weaker readings -/
section
variable {X : Cx} {e : Expr}
theorem pe_imp {t t' : TE} (h : PE X e t) (k : ∀ σ H Q, t' σ H Q → t σ H Q) : PE X e t' := ⟨fun pins s σ H Q I q => h.run pins s σ H Q I (k σ H Q q)⟩
theorem pt_imp {t t' : TT} (h : PT X e t) (k : ∀ σ H Q, t' σ H Q → t σ H Q) : PT X e t' := ⟨fun pins s σ H Q I q => h.run pins s σ H Q I (k σ H Q q)⟩
theorem ps_imp {st : Stmt} {t t' : TS} (h : PS X st t) (k : ∀ D σ H, t' D σ H → t D σ H) : PS X st t' := ⟨fun pins s σ H D I q => h.run pins s σ H D I (k D σ H q)⟩
theorem or_imp {f : Value → Value → Sem Value} {r r' : R2} (h : OpR X f r) (k : ∀ x y H Q, r' x y H Q → r x y H Q) : OpR X f r' := fun pins s σ H x y v u Q I rx ry q => h pins s σ H x y v u Q I rx ry (k x y H Q q)
theorem or_or {f : Value → Value → Sem Value} {r r' : R2} (h : OpR X f r) (h' : OpR X f r') : OpR X f (fun x y H Q => r x y H Q ∨ r' x y H Q) := fun pins s σ H x y v u Q I rx ry q => q.elim (h pins s σ H x y v u Q I rx ry) (h' pins s σ H x y v u Q I rx ry)
theorem cr_imp {f : Value} {r r' : List V → Hp → VK → Prop} (h : CallR X f r) (k : ∀ xs H Q, r' xs H Q → r xs H Q) : CallR X f r' := fun pins s σ H xs us Q I rv q => h pins s σ H xs us Q I rv (k xs H Q q)
theorem cr_or {f : Value} {r r' : List V → Hp → VK → Prop} (h : CallR X f r) (h' : CallR X f r') : CallR X f (fun xs H Q => r xs H Q ∨ r' xs H Q) := fun pins s σ H xs us Q I rv q => q.elim (h pins s σ H xs us Q I rv) (h' pins s σ H xs us Q I rv)
theorem ix_imp {r r' : R2} (h : IxR X r) (k : ∀ x y H Q, r' x y H Q → r x y H Q) : IxR X r' := fun value slice pins s σ H x y v u Q I rx ry q hs => h value slice pins s σ H x y v u Q I rx ry (k x y H Q q) hs
theorem set_imp {t t' : TSet} (h : PSet X t) (k : ∀ o i v H Q, t' o i v H Q → t o i v H Q) : PSet X t' := fun pins s σ H o i v ov iv u Q I ro ri rv q => h pins s σ H o i v ov iv u Q I ro ri rv (k o i v H Q q)
theorem mt_imp {id : String} {r r' : V → List V → Hp → VK → Prop} (h : MtR X id r) (k : ∀ x xs H Q, r' x xs H Q → r x xs H Q) : MtR X id r' := fun pins s σ H x xs v us Q I rx rs q => h pins s σ H x xs v us Q I rx rs (k x xs H Q q)
end

/-! ### names -/
def zV (i : Nat) : TE := fun σ H Q => match σ[i]? with
  | some (some v) => Q v H
  | _ => False
theorem pz {X : Cx} (i : Nat) {x : Str} {pos : Pos} (hN : X.N[i]? = some x := by rfl) (hv : Vis X.env.scope x := by first | exact Or.inl rfl | exact Or.inr (Or.inl rfl) | exact Or.inr (Or.inr rfl)) (hd : (x == ("__debug__" : Str)) = false := by decide)
    (hcd : (x == ("__classdict__" : Str)) = false := by decide) : PE X (.Name x pos) (zV i) := pe_imp (pe_var hN hv hd hcd) fun σ H Q q => by
  unfold zV at q
  split at q
  · exact ⟨_, by assumption, q⟩
  · exact q.elim

/-! ### operators on values -/
def yAdd : R2 := fun x y H Q => match x, y with
  | .int i, .int j => Q (.int (i + j)) H
  | .str a, .str b => a.length + b.length ≤ sizeLine ∧ Q (.str (a ++ b)) H
  | .ref p, .ref q => (match H p, H q with
    | some (.lst xs), some (.lst ys) => xs.length + ys.length ≤ sizeLine ∧ ∀ l, H l = none → Q (.ref l) (upd H l (.lst (xs ++ ys)))
    | _, _ => False)
  | _, _ => False
def ySub : R2 := fun x y H Q => match x, y with
  | .int i, .int j => Q (.int (i - j)) H
  | _, _ => False
def yMul : R2 := fun x y H Q => match x, y with
  | .int i, .int j => CMul i j ∧ Q (.int (i * j)) H
  | .ref p, .int k => (match H p with
    | some (.lst xs) => (-(2 ^ 63) ≤ k ∧ k < 2 ^ 63 ∧ xs.length * k.toNat ≤ sizeLine) ∧ ∀ l, H l = none → Q (.ref l) (upd H l (.lst ((List.replicate k.toNat xs).flatten)))
    | _ => False)
  | _, _ => False
def yDiv : R2 := fun x y H Q => match x, y with
  | .int i, .int j => (0 < j ∧ j < 1073741824) ∧ Q (.int (i / j)) H
  | _, _ => False
def yMod : R2 := fun x y H Q => match x, y with
  | .int i, .int j => 0 < j ∧ Q (.int (i % j)) H
  | _, _ => False
def yPow : R2 := fun x y H Q => match x, y with
  | .int i, .int j => CPow i j ∧ Q (.int (i ^ j.toNat)) H
  | _, _ => False
def yNeg : V → Hp → VK → Prop := fun x H Q => match x with
  | .int i => Q (.int (-i)) H
  | _ => False
def yLt : R2 := fun x y H Q => match x, y with
  | .int i, .int j => Q (.bl (decide (i < j))) H
  | _, _ => False
def yLe : R2 := fun x y H Q => match x, y with
  | .int i, .int j => Q (.bl (decide (i ≤ j))) H
  | _, _ => False
def yGt : R2 := fun x y H Q => match x, y with
  | .int i, .int j => Q (.bl (decide (j < i))) H
  | _, _ => False
def yGe : R2 := fun x y H Q => match x, y with
  | .int i, .int j => Q (.bl (decide (j ≤ i))) H
  | _, _ => False
/-- == of scalars; of data at addresses -/
def yEq (K : PySem.W.Frag) : R2 := fun x y H Q => match x, y with
  | .int i, .int j => Q (.bl (decide (i = j))) H
  | .bl i, .bl j => Q (.bl (decide (i = j))) H
  | .str i, .str j => Q (.bl (decide (i = j))) H
  | .non, .non => Q (.bl true) H
  | .non, .int _ => Q (.bl false) H
  | .int _, .non => Q (.bl false) H
  | .non, .str _ => Q (.bl false) H
  | .str _, .non => Q (.bl false) H
  | .int _, .str _ => Q (.bl false) H
  | .str _, .int _ => Q (.bl false) H
  | _, _ => rEqD K x y H Q
def yNe (K : PySem.W.Frag) : R2 := fun x y H Q => match x, y with
  | .int i, .int j => Q (.bl (!decide (i = j))) H
  | .bl i, .bl j => Q (.bl (!decide (i = j))) H
  | .str i, .str j => Q (.bl (!decide (i = j))) H
  | .non, .non => Q (.bl false) H
  | .non, .int _ => Q (.bl true) H
  | .int _, .non => Q (.bl true) H
  | .non, .str _ => Q (.bl true) H
  | .str _, .non => Q (.bl true) H
  | .int _, .str _ => Q (.bl true) H
  | .str _, .int _ => Q (.bl true) H
  | _, _ => rNeD K x y H Q
def yIs0 : R2 := fun x y H Q => y = .non ∧ Q (.bl (decide (x = .non))) H
def yNotIs0 : R2 := fun x y H Q => y = .non ∧ Q (.bl (!decide (x = .non))) H

section
variable {X : Cx}
theorem o_add : OpR X (binaryOp .Add) yAdd := or_imp (or_or op_add (or_or op_add_str op_cat)) fun x y H Q q => by
  unfold yAdd at q
  split at q
  · exact .inl ⟨_, _, rfl, rfl, q⟩
  · exact .inr (.inl ⟨_, _, rfl, rfl, q.1, q.2⟩)
  · rename_i p r
    cases h1 : H p with
    | none => rw [h1] at q; exact q.elim
    | some o1 =>
      cases h2 : H r with
      | none => rw [h1, h2] at q; cases o1 <;> exact q.elim
      | some o2 =>
        rw [h1, h2] at q
        cases o1 <;> cases o2 <;> first | exact q.elim | exact .inr (.inr ⟨_, _, _, _, rfl, rfl, h1, h2, q.1, q.2⟩)
  · exact q.elim
theorem o_sub : OpR X (binaryOp .Sub) ySub := or_imp op_sub fun x y H Q q => by
  unfold ySub at q; split at q
  · exact ⟨_, _, rfl, rfl, q⟩
  · exact q.elim
theorem o_mul : OpR X (binaryOp .Mult) yMul := or_imp (or_or op_mul op_rep) fun x y H Q q => by
  unfold yMul at q; split at q
  · exact .inl ⟨_, _, rfl, rfl, q.1, q.2⟩
  · rename_i p k
    cases h1 : H p with
    | none => rw [h1] at q; exact q.elim
    | some o1 =>
      rw [h1] at q
      cases o1 with
      | lst xs => exact .inr ⟨_, _, _, rfl, rfl, h1, q.1.1, q.1.2.1, q.1.2.2, q.2⟩
      | _ => exact q.elim
  · exact q.elim
theorem o_div : OpR X (binaryOp .FloorDiv) yDiv := or_imp op_fdiv fun x y H Q q => by
  unfold yDiv at q; split at q
  · exact ⟨_, _, rfl, rfl, q.1, q.2⟩
  · exact q.elim
theorem o_mod : OpR X (binaryOp .Mod) yMod := or_imp op_mod fun x y H Q q => by
  unfold yMod at q; split at q
  · exact ⟨_, _, rfl, rfl, q.1, q.2⟩
  · exact q.elim
theorem o_pow : OpR X (binaryOp .Pow) yPow := or_imp op_pow fun x y H Q q => by
  unfold yPow at q; split at q
  · exact ⟨_, _, rfl, rfl, q.1, q.2⟩
  · exact q.elim
theorem u_neg : UnR X (unaryOp .USub) yNeg := fun pins s σ H x v Q I rx q => un_neg pins s σ H x v Q I rx (by
  unfold yNeg at q; split at q
  · exact ⟨_, rfl, q⟩
  · exact q.elim)
theorem o_lt : OpR X (compareOp .Lt) yLt := or_imp op_lt fun x y H Q q => by
  unfold yLt at q; split at q
  · exact ⟨_, _, rfl, rfl, q⟩
  · exact q.elim
theorem o_le : OpR X (compareOp .LtE) yLe := or_imp op_le fun x y H Q q => by
  unfold yLe at q; split at q
  · exact ⟨_, _, rfl, rfl, q⟩
  · exact q.elim
theorem o_gt : OpR X (compareOp .Gt) yGt := or_imp op_gt fun x y H Q q => by
  unfold yGt at q; split at q
  · exact ⟨_, _, rfl, rfl, q⟩
  · exact q.elim
theorem o_ge : OpR X (compareOp .GtE) yGe := or_imp op_ge fun x y H Q q => by
  unfold yGe at q; split at q
  · exact ⟨_, _, rfl, rfl, q⟩
  · exact q.elim
theorem o_eq (hu : X.A.units + 64 < cLine) : OpR X (compareOp .Eq) (yEq X.K) := or_imp (or_or op_eq (op_eqD hu)) fun x y H Q q => by
  unfold yEq at q
  split at q <;> first | exact .inr q | exact .inl ⟨rfl, by simpa using q⟩
theorem o_ne (hu : X.A.units + 64 < cLine) : OpR X (compareOp .NotEq) (yNe X.K) := or_imp (or_or op_ne (op_neD hu)) fun x y H Q q => by
  unfold yNe at q
  split at q <;> first | exact .inr q | exact .inl ⟨rfl, by simpa using q⟩
theorem o_is0 : OpR X (compareOp .Is) yIs0 := op_isN
theorem o_isnot0 : OpR X (compareOp .IsNot) yNotIs0 := op_notN
end

/-! ### a reading, closed under what follows -/
def up (t : TE) : TE := fun σ H Q => ∃ Q0 : VK, (∀ v H', Q0 v H' → Q v H') ∧ t σ H Q0
def upT (t : TT) : TT := fun σ H Q => ∃ Q0 : Bool → Hp → Prop, (∀ v H', Q0 v H' → Q v H') ∧ t σ H Q0
def upA (t : TA) : TA := fun σ H Q => ∃ Q0 : List V → Hp → Prop, (∀ v H', Q0 v H' → Q v H') ∧ t σ H Q0
def upR (r : R2) : R2 := fun x y H Q => ∃ Q0 : VK, (∀ v H', Q0 v H' → Q v H') ∧ r x y H Q0
section
variable {X : Cx} {e : Expr}
theorem pe_up {t : TE} (h : PE X e t) : PE X e (up t) := ⟨fun pins s σ H Q I ⟨Q0, k, q⟩ => thn (h.run pins s σ H Q0 I q) fun u s' ⟨v, H', I', r, q'⟩ => ⟨v, H', I', r, k v H' q'⟩⟩
theorem pt_up {t : TT} (h : PT X e t) : PT X e (upT t) := ⟨fun pins s σ H Q I ⟨Q0, k, q⟩ => thn (h.run pins s σ H Q0 I q) fun u s' ⟨H', I', q'⟩ => ⟨H', I', k u H' q'⟩⟩
theorem pa_up {es : List Expr} {t : TA} (h : PA X es t) : PA X es (upA t) := ⟨fun pos pins s σ H Q I ⟨Q0, k, q⟩ => thn (h.run pos pins s σ H Q0 I q) fun u s' ⟨v, H', I', r, q'⟩ => ⟨v, H', I', r, k v H' q'⟩⟩
theorem or_up {f : Value → Value → Sem Value} {r : R2} (h : OpR X f r) : OpR X f (upR r) := fun pins s σ H x y v u Q I rx ry ⟨Q0, k, q⟩ => thn (h pins s σ H x y v u Q0 I rx ry q) fun w s' ⟨z, H', I', rz, q'⟩ => ⟨z, H', I', rz, k z H' q'⟩
end

/-! ### tests -/
def zB (t : TE) : TT := fun σ H Q => t σ H fun x H' => match x with
  | .bl k => Q k H'
  | _ => False
section
variable {X : Cx} {a b c e : Expr} {ta tb tc t : TE} {pos : Pos}
theorem zB_imp {t : TE} {σ : L2.St} {H : Hp} {Q : Bool → Hp → Prop} (q : zB t σ H Q) : L2.tB (up t) σ H Q := ⟨_, fun v H' q => by
  split at q
  · exact ⟨_, rfl, q⟩
  · exact q.elim, q⟩
/-- a comparison as a test -/
theorem t_cmp {op : CmpOp} {r : R2} (ho : OpR X (compareOp op) r) (ha : PE X a ta) (hb : PE X b tb) (hm : behindInMarks op b = false) : PT X (.Compare a [op] [b] pos) (zB (tOp r ta tb)) :=
  pt_imp (pt_cmpR (or_up ho) (pe_up ha) (pe_up hb) hm) fun σ H Q q => ⟨_, fun x H1 q => ⟨_, fun y H2 q => ⟨_, fun z H3 q => by
    split at q
    · exact ⟨_, rfl, q⟩
    · exact q.elim, q⟩, q⟩, q⟩
/-- a value that is a bool, as a test -/
theorem t_val (h : PE X e t) (he : ∀ whole, isTrue e X.env whole = (do let v ← whole; standAt e.pos; holding [v] (truthy v)) := by intro _; rfl) : PT X e (zB t) :=
  pt_imp (pt_val (pe_up h) he) fun _ _ _ q => zB_imp q
/-- a op b op c -/
def zChain (r r' : R2) (ta tb tc : TE) : TE := fun σ H Q => ta σ H fun x H1 => tb σ H1 fun y H2 => r x y H2 fun z H3 => match z with
  | .bl k => (if k = true then tc σ H3 fun w' H4 => r' y w' H4 Q else Q (.bl false) H3)
  | _ => False
theorem zChain_imp {r r' : R2} {σ : L2.St} {H : Hp} {Q : VK} (q : zChain r r' ta tb tc σ H Q) : tChain (upR r) r' (up ta) (up tb) tc σ H Q := ⟨_, fun x H1 q => ⟨_, fun y H2 q => ⟨_, fun z H3 q => by
    split at q
    · exact ⟨_, rfl, q⟩
    · exact q.elim, q⟩, q⟩, q⟩
theorem e_chain {op op' : CmpOp} {r r' : R2} (ho : OpR X (compareOp op) r) (ho' : OpR X (compareOp op') r') (ha : PE X a ta) (hb : PE X b tb) (hc : PE X c tc)
    (hm : lastMarks [op, op'] [b, c] = false := by with_unfolding_all rfl) : PE X (.Compare a [op, op'] [b, c] pos) (zChain r r' ta tb tc) :=
  pe_imp (pe_chain (or_up ho) ho' (pe_up ha) (pe_up hb) hc hm) fun _ _ _ q => zChain_imp q
theorem t_chain {op op' : CmpOp} {r r' : R2} (ho : OpR X (compareOp op) r) (ho' : OpR X (compareOp op') r') (ha : PE X a ta) (hb : PE X b tb) (hc : PE X c tc)
    (hm : lastMarks [op, op'] [b, c] = false := by with_unfolding_all rfl) : PT X (.Compare a [op, op'] [b, c] pos) (zB (zChain r r' ta tb tc)) :=
  pt_imp (pt_chain (or_up ho) (or_up ho') (pe_up ha) (pe_up hb) (pe_up hc) hm) fun σ H Q q => ⟨_, fun x H1 q => ⟨_, fun y H2 q => ⟨_, fun z H3 q => by
    split at q
    · rename_i k
      refine ⟨k, rfl, ?_⟩
      cases k with
      | true =>
        rw [if_pos rfl] at q ⊢
        exact ⟨_, fun w H4 q => ⟨_, fun z2 H5 q => by
          split at q
          · exact ⟨_, rfl, q⟩
          · exact q.elim, q⟩, q⟩
      | false =>
        rw [if_neg Bool.false_ne_true] at q ⊢
        exact ⟨_, rfl, q⟩
    · exact q.elim, q⟩, q⟩, q⟩
def zAnd (ta tb : TE) : TE := fun σ H Q => ta σ H fun x H1 => match x with
  | .bl c => (if c = true then tb σ H1 Q else Q (.bl false) H1)
  | _ => False
def zOr (ta tb : TE) : TE := fun σ H Q => ta σ H fun x H1 => match x with
  | .bl c => (if c = true then Q (.bl true) H1 else tb σ H1 Q)
  | _ => False
def zNot (ta : TE) : TE := fun σ H Q => ta σ H fun x H1 => match x with
  | .bl c => Q (.bl (!c)) H1
  | _ => False
variable {rest : List Expr}
theorem e_and (ha : PE X a ta) (hb : PE X (.BoolOp .And (b :: rest) pos) tb) : PE X (.BoolOp .And (a :: b :: rest) pos) (zAnd ta tb) :=
  pe_imp (pe_and (pe_up ha) hb) fun σ H Q q => ⟨_, fun v H' q => by
    split at q
    · exact ⟨_, rfl, q⟩
    · exact q.elim, q⟩
theorem e_or (ha : PE X a ta) (hb : PE X (.BoolOp .Or (b :: rest) pos) tb) : PE X (.BoolOp .Or (a :: b :: rest) pos) (zOr ta tb) :=
  pe_imp (pe_or (pe_up ha) hb) fun σ H Q q => ⟨_, fun v H' q => by
    split at q
    · exact ⟨_, rfl, q⟩
    · exact q.elim, q⟩
theorem e_not (ha : PE X a ta) : PE X (.UnaryOp .Not a pos) (zNot ta) :=
  pe_imp (pe_not (pe_up ha)) fun σ H Q q => ⟨_, fun v H' q => by
    split at q
    · exact ⟨_, rfl, q⟩
    · exact q.elim, q⟩
end

/-! ### what stands at an address: a list or tuple that is read -/
def sqAt (K : PySem.W.Frag) (H : Hp) (p : Addr) (R : List V → Prop) : Prop := match H p with
  | some (.lst xs) => R xs
  | some (.tup xs) => R xs
  | _ => ∃ xs, (SqL K H p xs ∨ SqT K H p xs) ∧ R xs
theorem sqAt_ok {K : PySem.W.Frag} {H : Hp} {p : Addr} {R : List V → Prop} (h : sqAt K H p R) : ∃ xs, (SqL K H p xs ∨ SqT K H p xs) ∧ R xs := by
  unfold sqAt at h
  split at h
  · exact ⟨_, .inl (SqL.of (by assumption)), h⟩
  · exact ⟨_, .inr (SqT.of (by assumption)), h⟩
  · exact h
theorem sqAt_l {K : PySem.W.Frag} {H : Hp} {p : Addr} {R : List V → Prop} {xs : List V} (h : H p = some (.lst xs)) : sqAt K H p R = R xs := by unfold sqAt; rw [h]
theorem sqAt_t {K : PySem.W.Frag} {H : Hp} {p : Addr} {R : List V → Prop} {xs : List V} (h : H p = some (.tup xs)) : sqAt K H p R = R xs := by unfold sqAt; rw [h]
theorem sqAt_of {K : PySem.W.Frag} {H : Hp} {p : Addr} {R : List V → Prop} {xs : List V} (h : SqL K H p xs) (hn : ∀ ys, H p ≠ some (.lst ys)) (hm : ∀ ys, H p ≠ some (.tup ys)) (r : R xs) : sqAt K H p R := by
  unfold sqAt
  split
  · exact absurd (by assumption) (hn _)
  · exact absurd (by assumption) (hm _)
  · exact ⟨xs, .inl h, r⟩

/-! ### a[b] -/
def isNone {α : Type} (o : Option α) (Q : α → Prop) : Prop := match o with
  | some v => Q v
  | none => False
theorem isNone_some {α : Type} {v : α} {Q : α → Prop} : isNone (some v) Q = Q v := rfl
def yIx (K : PySem.W.Frag) : R2 := fun x y H Q => match x, y with
  | .ref p, .int i => (match H p with
    | some (.dK kvs) => isNone (valV kvs (Sum.inl i)) fun v => Q v H
    | _ => sqAt K H p fun xs => isNone (atI xs i) fun v => Q v H)
  | .ref p, .str k => (match H p with
    | some (.dK kvs) => isNone (valV kvs (Sum.inr k)) fun v => Q v H
    | _ => False)
  | .str z, .int i => z.length ≤ sizeLine ∧ isNone (atI z.cps.toList i) fun c => Q (.str ⟨#[c]⟩) H
  | _, _ => False
theorem isNone_ok {α : Type} {o : Option α} {Q : α → Prop} (h : isNone o Q) : ∃ v, o = some v ∧ Q v := by
  cases o with
  | none => exact h.elim
  | some v => exact ⟨v, rfl, h⟩
section
variable {X : Cx} {a b : Expr} {ta tb : TE} {pos : Pos}
theorem ix_dict (hu : X.A.units + 1 < cLine) : IxR X (fun x y H Q => ∃ p v, x = .ref p ∧ DGet H p y (some v) ∧ Q v H) := by
  intro value slice pins s σ H x y v u Q I rx ry h hs
  obtain ⟨p, w, rfl, g, q⟩ := h
  cases rx
  exact tail_any (dict_typeIs I g) PySem.F.slot_dict_getitem.lookup (d_getItem hu I g ry fun w' s3 I3 rw' => ⟨w, H, I3, rw', q⟩) hs
theorem ix_any (hu : X.A.units + 1 < cLine) : IxR X (yIx X.K) := ix_imp ((ix_list.or ix_tup).or (ix_str.or (ix_dict hu))) fun x y H Q q => by
  unfold yIx at q
  split at q
  · rename_i p i
    split at q
    · rename_i kvs hp
      obtain ⟨v, hv, q⟩ := isNone_ok q
      exact .inr (.inr ⟨p, v, rfl, by rw [← hv]; exact DGet.k (k := Sum.inl i) hp, q⟩)
    · obtain ⟨xs, hx, q⟩ := sqAt_ok q
      obtain ⟨v, hv, q⟩ := isNone_ok q
      rcases hx with hx | hx
      · exact .inl (.inl ⟨p, xs, i, v, rfl, rfl, hx, hv, q⟩)
      · exact .inl (.inr ⟨p, xs, i, v, rfl, rfl, hx, hv, q⟩)
  · rename_i p k
    split at q
    · rename_i kvs hp
      obtain ⟨v, hv, q⟩ := isNone_ok q
      exact .inr (.inr ⟨p, v, rfl, by rw [← hv]; exact DGet.k (k := Sum.inr k) hp, q⟩)
    · exact q.elim
  · rename_i z i
    obtain ⟨v, hv, q2⟩ := isNone_ok q.2
    exact .inr (.inl ⟨z, i, v, rfl, rfl, q.1, hv, q2⟩)
  · exact q.elim
theorem e_ix (hu : X.A.units + 1 < cLine) (ha : PE X a ta) (hb : PE X b tb) (hs : PlainIx b) : PE X (.Subscript a b pos) (tOp (yIx X.K) ta tb) := pe_ix (ix_any hu) ha hb hs
end

/-! ### a[b] = c -/
def ySet : V → V → V → Hp → (Hp → Prop) → Prop := fun o i v H Q => match o, i with
  | .ref p, .int k => (match H p with
    | some (.lst xs) => isNone (ixN xs.length k) fun j => Q (upd H p (.lst (xs.set j v)))
    | some (.dK kvs) => kvs.length < sizeLine ∧ Q (upd H p (.dK (putK kvs (Sum.inl k) v)))
    | _ => False)
  | .ref p, .str k => (match H p with
    | some (.dK kvs) => kvs.length < sizeLine ∧ Q (upd H p (.dK (putK kvs (Sum.inr k) v)))
    | _ => False)
  | _, _ => False
theorem set_any {X : Cx} (hu : X.A.units + 1 < cLine) : PSet X ySet := by
  intro pins s σ H o i v ov iv u Q I ro ri rv q
  unfold ySet at q
  split at q
  · rename_i p k
    split at q
    · rename_i xs hp
      obtain ⟨j, hj, q⟩ := isNone_ok q
      exact set_list pins s σ H _ _ v ov iv u Q I ro ri rv ⟨p, xs, k, j, rfl, rfl, hp, hj, q⟩
    · rename_i kvs hp
      cases ro
      exact d_setItem hu I (DPut.k (k := Sum.inl k) hp q.1) ri rv fun s' I' => ⟨_, I', q.2⟩
    · exact q.elim
  · rename_i p k
    split at q
    · rename_i kvs hp
      cases ro
      exact d_setItem hu I (DPut.k (k := Sum.inr k) hp q.1) ri rv fun s' I' => ⟨_, I', q.2⟩
    · exact q.elim
  · exact q.elim

/-! ### in, not in -/
def yIn (K : PySem.W.Frag) (neg : Bool) : R2 := fun x y H Q => match y with
  | .ref p => (match H p with
    | some (.dK kvs) => (match x with
      | .int i => Q (.bl (if neg then !(valV kvs (Sum.inl i)).isSome else (valV kvs (Sum.inl i)).isSome)) H
      | .str i => Q (.bl (if neg then !(valV kvs (Sum.inr i)).isSome else (valV kvs (Sum.inr i)).isSome)) H
      | _ => False)
    | _ => sqAt K H p fun xs => flatV x = true ∧ xs.all flatV = true ∧ Q (.bl (if neg then !inV x xs else inV x xs)) H)
  | _ => False
section
variable {X : Cx}
theorem o_in (hu : X.A.units + 1 < cLine) : OpR X (compareOp .In) (yIn X.K false) := by
  intro pins s σ H x y v u Q I rx ry q
  unfold yIn at q
  split at q
  · rename_i p
    split at q
    · rename_i kvs hp
      cases ry
      split at q
      · rename_i i
        exact d_in hu I (DGet.k (k := Sum.inl i) hp) rx fun s3 I3 => ⟨.bl _, H, I3, rfl, q⟩
      · rename_i i
        exact d_in hu I (DGet.k (k := Sum.inr i) hp) rx fun s3 I3 => ⟨.bl _, H, I3, rfl, q⟩
      · exact q.elim
    · obtain ⟨xs, hx, q1, q2, q⟩ := sqAt_ok q
      exact op_in_seq pins s σ H x _ v u Q I rx ry ⟨p, xs, rfl, hx, q1, q2, q⟩
  · exact q.elim
theorem o_notin (hu : X.A.units + 1 < cLine) : OpR X (compareOp .NotIn) (yIn X.K true) := by
  intro pins s σ H x y v u Q I rx ry q
  unfold yIn at q
  split at q
  · rename_i p
    split at q
    · rename_i kvs hp
      cases ry
      split at q
      · rename_i i
        exact d_notIn hu I (DGet.k (k := Sum.inl i) hp) rx fun s3 I3 => ⟨.bl _, H, I3, rfl, q⟩
      · rename_i i
        exact d_notIn hu I (DGet.k (k := Sum.inr i) hp) rx fun s3 I3 => ⟨.bl _, H, I3, rfl, q⟩
      · exact q.elim
    · obtain ⟨xs, hx, q1, q2, q⟩ := sqAt_ok q
      exact op_notIn_seq pins s σ H x _ v u Q I rx ry ⟨p, xs, rfl, hx, q1, q2, q⟩
  · exact q.elim
end

/-! ### fields and methods -/
def insAt (H : Hp) (x : V) (R : Addr → Addr → Addr → List (Str × V) → Prop) : Prop := match x with
  | .ref a => (match H a with
    | some (.ins C dx fs) => R a C dx fs
    | _ => False)
  | _ => False
theorem insAt_ok {H : Hp} {x : V} {R : Addr → Addr → Addr → List (Str × V) → Prop} (h : insAt H x R) : ∃ a C dx fs, x = .ref a ∧ H a = some (.ins C dx fs) ∧ R a C dx fs := by
  unfold insAt at h
  split at h
  · split at h
    · exact ⟨_, _, _, _, rfl, by assumption, h⟩
    · exact h.elim
  · exact h.elim
def zFld (K : PySem.W.Frag) (ta : TE) (f : Str) : TE := fun σ H Q => ta σ H fun x H1 => insAt H1 x fun a C dx fs => (Cls K C ∧ NoAttr K C f) ∧ isNone (fs.lookup f) fun v => Q v H1
def zSetF (K : PySem.W.Frag) (ta tv : TE) (f : Str) : TS := fun D σ H => tv σ H fun y H1 => ta σ H1 fun x H2 => insAt H2 x fun a C dx fs => (Cls K C ∧ NoAttr K C f ∧ fs.length < 1000) ∧ D.nx σ (upd H2 a (.ins C dx (putF f y fs)))
def zMeth (C : Addr) (m : Str) (sp : Sp) (dvs : List V) (E : XK) (ta : TE) (t : TA) : TE := fun σ H Q => ta σ H fun x H1 => insAt H1 x fun a C' dx fs => (C' = C ∧ fs.lookup m = none) ∧ t σ H1 fun vs H2 => sp (x :: (vs ++ dvs)) H2 Q E
section
variable {X : Cx} {e o value : Expr} {ta tv : TE} {f : Str} {pos pos' : Pos}
theorem e_fld (he : PE X e ta) (hb : attributeBase e f X.env (eval e X.env) = eval e X.env) : PE X (.Attribute e f pos) (zFld X.K ta f) :=
  pe_imp (pe_fld (pe_up he) hb) fun σ H Q q => ⟨_, fun x H1 q => by
    obtain ⟨a, C, dx, fs, rfl, ha, ⟨q1, q2⟩, q⟩ := insAt_ok q
    obtain ⟨v, hv, q⟩ := isNone_ok q
    exact ⟨a, C, dx, fs, v, rfl, ha, q1, q2, hv, q⟩, q⟩
theorem s_fld (ha : PE X o ta) (hv : PE X value tv) (hs : swapsWith value (some (.Attribute o f pos')) pos.line X.env = pure false) : PS X (.Assign [.Attribute o f pos'] value pos) (zSetF X.K ta tv f) :=
  ps_imp (ps_fld (pe_up ha) (pe_up hv) hs) fun D σ H q => ⟨_, fun y H1 q => ⟨_, fun x H2 q => by
    obtain ⟨a, C, dx, fs, rfl, ha, ⟨q1, q2, q3⟩, q⟩ := insAt_ok q
    exact ⟨a, C, dx, fs, rfl, ha, q1, q2, q3, q⟩, q⟩, q⟩
variable {k j : Nat} {C : Addr} {m : Str} {sp : Sp} {dvs : List V} {apos : Pos} {es : List Expr} {t : TA}
theorem e_mt {pl : Sem Bool} (c : C8.Met X.prog X.w X.K X.mg X.base k C m sp dvs) (hr : Room j X.A) (hk : k ≤ j) (he : PE X o ta) (ha : PA X (e :: es) t)
    (hst : starEach (e :: es) X.env = (false, eval e X.env) :: starEach es X.env := by rfl) (hpl : (backTo pos (starEach es X.env)).any (·.1) = false := by rfl)
    (ht : eval (.Call (.Attribute o m apos) (e :: es) [] pos) X.env = (do
      let ov ← eval o X.env
      standAt apos.atName
      let (f, first) ← holding [ov] (getMethod ov m pl)
      callWith pos f first (backTo pos (starEach (e :: es) X.env)) (backToKw pos (keywordEach [] X.env))) := by rfl) :
    PE X (.Call (.Attribute o m apos) (e :: es) [] pos) (zMeth C m sp dvs C8.E0 ta t) :=
  pe_imp (C8.pe_mt (pl := pl) c hr hk (pe_up he) ha hst hpl ht) fun σ H Q q => ⟨_, fun x H1 q => by
    obtain ⟨a, C', dx, fs, ex, ha, ⟨ec, q2⟩, q3⟩ := insAt_ok q
    subst ec
    exact ⟨a, dx, fs, ex, ha, q2, q3⟩, q⟩
theorem e_mt0 {pl : Sem Bool} (c : C8.Met X.prog X.w X.K X.mg X.base k C m sp dvs) (hr : Room j X.A) (hk : k ≤ j) (he : PE X o ta)
    (ht : eval (.Call (.Attribute o m apos) [] [] pos) X.env = (do
      let ov ← eval o X.env
      standAt apos.atName
      let (f, first) ← holding [ov] (getMethod ov m pl)
      callWith pos f first (backTo pos (starEach [] X.env)) (backToKw pos (keywordEach [] X.env))) := by rfl) :
    PE X (.Call (.Attribute o m apos) [] [] pos) (zMeth C m sp dvs C8.E0 ta tNil) :=
  pe_imp (C8.pe_mt0 (pl := pl) c hr hk (pe_up he) ht) fun σ H Q q => ⟨_, fun x H1 q => by
    obtain ⟨a, C', dx, fs, ex, ha, ⟨ec, q2⟩, q3⟩ := insAt_ok q
    subst ec
    exact ⟨a, dx, fs, ex, ha, q2, q3⟩, q⟩
end

/-! ### built-in functions -/
def yLen (K : PySem.W.Frag) : List V → Hp → VK → Prop := fun vs H Q => match vs with
  | [.ref p] => (match H p with
    | some (.dK kvs) => Q (.int kvs.length) H
    | _ => sqAt K H p fun xs => Q (.int xs.length) H)
  | [.str z] => z.length ≤ sizeLine ∧ Q (.int z.length) H
  | _ => False
/-- len of a list that may be the script -/
def yLenS (K : PySem.W.Frag) : List V → Hp → VK → Prop := fun vs H Q => ∃ p ys, vs = [.ref p] ∧ SqL K H p ys ∧ Q (.int ys.length) H
theorem c_lenS {X : Cx} : CallR X (.builtin "len") (yLenS X.K) := cr_imp call_len_seq fun xs H Q q => by
  obtain ⟨p, ys, rfl, h, q⟩ := q
  exact ⟨p, ys, rfl, .inl h, q⟩
def yAbs : List V → Hp → VK → Prop := fun vs H Q => match vs with
  | [.int i] => Q (.int (if i < 0 then -i else i)) H
  | _ => False
def yMax2 : List V → Hp → VK → Prop := fun vs H Q => match vs with
  | [.int i, .int j] => Q (.int (if j > i then j else i)) H
  | _ => False
def yMin2 : List V → Hp → VK → Prop := fun vs H Q => match vs with
  | [.int i, .int j] => Q (.int (if j < i then j else i)) H
  | _ => False
def yList (K : PySem.W.Frag) : List V → Hp → VK → Prop := fun vs H Q => match vs with
  | [.ref p] => sqAt K H p fun xs => ∀ l, H l = none → Q (.ref l) (upd H l (.lst xs))
  | _ => False
def yTuple (K : PySem.W.Frag) : List V → Hp → VK → Prop := fun vs H Q => match vs with
  | [.ref p] => (match H p with
    | some (.lst xs) => ∀ l, H l = none → Q (.ref l) (upd H l (.tup xs))
    | some (.tup _) => Q (.ref p) H
    | _ => False)
  | _ => False
/-- sorted of the int keys of a dict -/
def ySortedKeys : List V → Hp → VK → Prop := fun vs H Q => match vs with
  | [.ref p] => (match H p with
    | some (.dK kvs) => ∃ ks : List Int, kvs.map (·.1) = ks.map Sum.inl ∧ ks.length < 64 ∧ ∀ (ys : List Int) (l : Addr), ys.Perm ks → ys.Pairwise (· ≤ ·) → H l = none → Q (.ref l) (upd H l (.lst (ys.map V.int)))
    | _ => False)
  | _ => False
def yDict0 : List V → Hp → VK → Prop := fun vs H Q => match vs with
  | [] => ∀ p, H p = none → Q (.ref p) (upd H p (.dK []))
  | _ => False
section
variable {X : Cx}
theorem c_len : CallR X (.builtin "len") (yLen X.K) := cr_imp (cr_or call_len call_lenD) fun xs H Q q => by
  unfold yLen at q
  split at q
  · split at q
    · exact .inr ⟨_, _, rfl, by assumption, q⟩
    · obtain ⟨xs, hx, q⟩ := sqAt_ok q
      exact .inl ⟨_, xs.length, rfl, hx.elim (fun h => .inl ⟨xs, h, rfl⟩) (fun h => .inr ⟨xs, h, rfl⟩), q⟩
  · exact .inl ⟨_, _, rfl, ⟨q.1, rfl⟩, q.2⟩
  · exact q.elim
theorem c_abs : CallR X (.builtin "abs") yAbs := cr_imp call_abs fun xs H Q q => by
  unfold yAbs at q; split at q
  · exact ⟨_, rfl, q⟩
  · exact q.elim
theorem c_max2 (hc : X.calm = true) : CallR X (.builtin "max") yMax2 := cr_imp (call_max2 hc) fun xs H Q q => by
  unfold yMax2 at q; split at q
  · exact ⟨_, _, rfl, q⟩
  · exact q.elim
theorem c_min2 (hc : X.calm = true) : CallR X (.builtin "min") yMin2 := cr_imp (call_min2 hc) fun xs H Q q => by
  unfold yMin2 at q; split at q
  · exact ⟨_, _, rfl, q⟩
  · exact q.elim
theorem c_list : CallR X (.type "list") (yList X.K) := cr_imp call_list_of fun xs H Q q => by
  unfold yList at q; split at q
  · obtain ⟨xs, hx, q⟩ := sqAt_ok q
    exact ⟨_, xs, rfl, hx, q⟩
  · exact q.elim
theorem c_tuple : CallR X (.type "tuple") (yTuple X.K) := cr_imp call_tuple_of fun xs H Q q => by
  unfold yTuple at q; split at q
  · split at q
    · exact ⟨_, _, rfl, .inl ⟨SqL.of (by assumption), q⟩⟩
    · exact ⟨_, _, rfl, .inr ⟨SqT.of (by assumption), q⟩⟩
    · exact q.elim
  · exact q.elim
theorem c_sortedKeys (hc : X.calm = true) : CallR X (.builtin "sorted") ySortedKeys := cr_imp (call_sortedDI hc) fun xs H Q q => by
  unfold ySortedKeys at q; split at q
  · split at q
    · obtain ⟨ks, h1, h2, q⟩ := q
      exact ⟨_, _, ks, rfl, .inl (by assumption), h1, h2, q⟩
    · exact q.elim
  · exact q.elim
theorem c_dict0 : CallR X (.type "dict") yDict0 := by
  intro pins s σ H xs us Q I r q
  unfold yDict0 at q
  split at q
  · obtain rfl := Vals.zero r
    exact L2.FK.call_dict0 ⟨.ref s.heap.objs.size, _, I.laid (a := s.heap.objs.size) (o := .dK []) (t' := s.toks) (fun _ _ q => Heap.get?_push_of_some _ q) (Nat.le_refl _) (dk_empty s.heap I.big), rfl, q _ (I.hok.fresh (Nat.le_refl _))⟩
  · exact q.elim
end

/-! ### list methods -/
def isLst (H : Hp) (x : V) : Prop := match x with
  | .ref p => (match H p with
    | some (.lst _) => True
    | _ => False)
  | _ => False
theorem isLst_ok {K : PySem.W.Frag} {H : Hp} {x : V} (h : isLst H x) : tyV K "list" x H := by
  unfold isLst at h
  split at h
  · split at h
    · exact .inl ⟨rfl, _, SqL.of (by assumption)⟩
    · exact h.elim
  · exact h.elim
def yApp : V → List V → Hp → VK → Prop := fun x vs H Q => match x, vs with
  | .ref l, [y] => (match H l with
    | some (.lst xs) => xs.length < sizeLine ∧ Q .non (upd H l (.lst (xs ++ [y])))
    | _ => False)
  | _, _ => False
def zLM (r : V → List V → Hp → VK → Prop) (to : TE) (t : TA) : TE := fun σ H Q => to σ H fun x H1 => isLst H1 x ∧ t σ H1 fun xs H2 => r x xs H2 Q
section
variable {X : Cx} {o e : Expr} {to te : TE} {apos cpos : Pos}
theorem m_app : MtR X "list.append" yApp := mt_imp mt_append fun x xs H Q q => by
  unfold yApp at q
  split at q
  · split at q
    · exact ⟨_, _, _, rfl, rfl, by assumption, q.1, q.2⟩
    · exact q.elim
  · exact q.elim
theorem e_app (ho : PE X o to) (he : PE X e te)
    (hbase : attributeBase o "append" X.env (eval o X.env) = eval o X.env := by rfl)
    (hfew : ((backTo cpos (starEach [e] X.env)).all (fun x => !x.1) && (backToKw cpos (keywordEach [] X.env)).all (fun x => x.1.isSome)
      && decide ([e].length + ([] : List Keyword).length + (if ([] : List Keyword).isEmpty then 0 else 1) < 30)) = true := by rfl)
    (hline : (apos.endLine == cpos.line) = true := by rfl) (hs : starEach [e] X.env = (false, eval e X.env) :: starEach [] X.env := by rfl) (hplain : (backTo cpos (starEach [] X.env)).any (·.1) = false := by rfl) :
    PE X (.Call (.Attribute o "append" apos) [e] [] cpos) (zLM yApp to (tCons te tNil)) :=
  pe_imp (pe_bm PySem.F.plainAttrs_list PySem.F.slot_list_append PySem.F.type_list_append m_app (pe_up ho) (pa_cons he pa_nil hs) hbase hfew hline hs hplain) fun σ H Q q => ⟨_, fun x H1 q => ⟨isLst_ok q.1, q.2⟩, q⟩
end

/-! ### dict methods -/
def dkAt (H : Hp) (x : V) (R : Addr → List (Key × V) → Prop) : Prop := match x with
  | .ref p => (match H p with
    | some (.dK kvs) => R p kvs
    | _ => False)
  | _ => False
theorem dkAt_ok {H : Hp} {x : V} {R : Addr → List (Key × V) → Prop} (h : dkAt H x R) : ∃ p kvs, x = .ref p ∧ H p = some (.dK kvs) ∧ R p kvs := by
  unfold dkAt at h
  split at h
  · split at h
    · exact ⟨_, _, rfl, by assumption, h⟩
    · exact h.elim
  · exact h.elim
def keyOf (y : V) (R : Key → Prop) : Prop := match y with
  | .int i => R (Sum.inl i)
  | .str i => R (Sum.inr i)
  | _ => False
theorem keyOf_ok {y : V} {R : Key → Prop} (h : keyOf y R) : ∃ k, y = kV k ∧ R k := by
  unfold keyOf at h
  split at h
  · exact ⟨Sum.inl _, rfl, h⟩
  · exact ⟨Sum.inr _, rfl, h⟩
  · exact h.elim
/-- d.get(k), d.get(k, x), d.pop(k), d.pop(k, x) -/
def zGet1 (td ty : TE) : TE := fun σ H Q => td σ H fun x H1 => dkAt H1 x (fun _ _ => True) ∧ ty σ H1 fun y H2 => dkAt H2 x fun p kvs => keyOf y fun k => Q ((valV kvs k).getD .non) H2
def zGet2 (td ty tx : TE) : TE := fun σ H Q => td σ H fun x H1 => dkAt H1 x (fun _ _ => True) ∧ ty σ H1 fun y H2 => tx σ H2 fun z H3 => dkAt H3 x fun p kvs => keyOf y fun k => Q ((valV kvs k).getD z) H3
def zPop1 (td ty : TE) : TE := fun σ H Q => td σ H fun x H1 => dkAt H1 x (fun _ _ => True) ∧ ty σ H1 fun y H2 => dkAt H2 x fun p kvs => keyOf y fun k => isNone (valV kvs k) fun v => Q v (upd H2 p (.dK (dropK kvs k)))
def zPop2 (td ty tx : TE) : TE := fun σ H Q => td σ H fun x H1 => dkAt H1 x (fun _ _ => True) ∧ ty σ H1 fun y H2 => tx σ H2 fun z H3 => dkAt H3 x fun p kvs => keyOf y fun k =>
  (∀ v, valV kvs k = some v → Q v (upd H3 p (.dK (dropK kvs k)))) ∧ (valV kvs k = none → Q z H3)
section
variable {X : Cx} {o e f : Expr} {apos cpos : Pos} {td ty tx : TE}
theorem e_get1 (hu : X.A.units + 1 < cLine) (ho : PE X o td) (he : PE X e ty) (m : M1 X o "get" apos e cpos) : PE X (.Call (.Attribute o "get" apos) [e] [] cpos) (zGet1 td ty) :=
  pe_imp (pe_dget1 hu (pe_up ho) (pe_up he) m) fun σ H Q q => ⟨_, fun x H1 q => by
    obtain ⟨h1, q⟩ := q
    obtain ⟨p, kvs, rfl, hp, _⟩ := dkAt_ok h1
    refine ⟨p, rfl, .inl ⟨kvs, .inl hp⟩, _, fun y H2 q => ?_, q⟩
    obtain ⟨p', kvs', e, hp', q⟩ := dkAt_ok q
    cases e
    obtain ⟨k, ek, q5⟩ := keyOf_ok q
    subst ek
    exact ⟨_, DGet.k hp', q5⟩, q⟩
theorem e_get2 (hu : X.A.units + 1 < cLine) (ho : PE X o td) (he : PE X e ty) (hf : PE X f tx) (m : M2 X o "get" apos e f cpos) : PE X (.Call (.Attribute o "get" apos) [e, f] [] cpos) (zGet2 td ty tx) :=
  pe_imp (pe_dget2 hu (pe_up ho) (pe_up he) (pe_up hf) m) fun σ H Q q => ⟨_, fun x H1 q => by
    obtain ⟨h1, q⟩ := q
    obtain ⟨p, kvs, rfl, hp, _⟩ := dkAt_ok h1
    refine ⟨p, rfl, .inl ⟨kvs, .inl hp⟩, _, fun y H2 q => ⟨_, fun z H3 q => ?_, q⟩, q⟩
    obtain ⟨p', kvs', e, hp', q⟩ := dkAt_ok q
    cases e
    obtain ⟨k, ek, q5⟩ := keyOf_ok q
    subst ek
    exact ⟨_, DGet.k hp', q5⟩, q⟩
theorem e_pop1 (ho : PE X o td) (he : PE X e ty) (m : M1 X o "pop" apos e cpos) : PE X (.Call (.Attribute o "pop" apos) [e] [] cpos) (zPop1 td ty) :=
  pe_imp (pe_dpop1 (pe_up ho) (pe_up he) m) fun σ H Q q => ⟨_, fun x H1 q => by
    obtain ⟨h1, q⟩ := q
    obtain ⟨p, kvs, rfl, hp, _⟩ := dkAt_ok h1
    refine ⟨p, rfl, .inl ⟨kvs, .inl hp⟩, _, fun y H2 q => ?_, q⟩
    obtain ⟨p', kvs', e, hp', q⟩ := dkAt_ok q
    cases e
    obtain ⟨k, ek, q5⟩ := keyOf_ok q
    subst ek
    obtain ⟨v, hv, q6⟩ := isNone_ok q5
    exact ⟨_, _, _, hp', rfl, hv, q6⟩, q⟩
theorem e_pop2 (ho : PE X o td) (he : PE X e ty) (hf : PE X f tx) (m : M2 X o "pop" apos e f cpos) : PE X (.Call (.Attribute o "pop" apos) [e, f] [] cpos) (zPop2 td ty tx) :=
  pe_imp (pe_dpop2 (pe_up ho) (pe_up he) (pe_up hf) m) fun σ H Q q => ⟨_, fun x H1 q => by
    obtain ⟨h1, q⟩ := q
    obtain ⟨p, kvs, rfl, hp, _⟩ := dkAt_ok h1
    refine ⟨p, rfl, .inl ⟨kvs, .inl hp⟩, _, fun y H2 q => ⟨_, fun z H3 q => ?_, q⟩, q⟩
    obtain ⟨p', kvs', e, hp', q⟩ := dkAt_ok q
    cases e
    obtain ⟨k, ek, q5⟩ := keyOf_ok q
    subst ek
    exact ⟨_, _, hp', rfl, q5.1, q5.2⟩, q⟩
end

/-! ### for over a range, a list -/
def loopOn (J : It) (g : TG) (tb : TS) : TS := fun D σ H => ∃ W : Nat → Nat → L2.St → Hp → Prop, (∃ m, W 0 m σ H) ∧ ∀ i m σ H, W i m σ H →
  (J.stop i H ∧ D.nx σ H) ∨ (J.go i H ∧ ∃ N : L2.St → Hp → Prop, (∀ σ' H', N σ' H' → ∃ m', m' < m ∧ W (i + 1) m' σ' H') ∧ ∀ x H', J.yld i H x H' → g x σ H' fun σ2 H2 => tb { D with nx := N, ct := N, bk := D.nx } σ2 H2)
def intAt (v : V) (R : Int → Prop) : Prop := match v with
  | .int n => R n
  | _ => False
def refAt (v : V) (R : Addr → Prop) : Prop := match v with
  | .ref n => R n
  | _ => False
def zForR1 (te : TE) (g : TG) (tb : TS) : TS := fun D σ H => te σ H fun v H1 => intAt v fun n => (-(2 ^ 62) ≤ n ∧ n < 2 ^ 62) ∧ loopOn (Itr 0 n.toNat) g tb D σ H1
def zForR2 (ta te : TE) (g : TG) (tb : TS) : TS := fun D σ H => ta σ H fun u H1 => te σ H1 fun v H2 => intAt u fun m => intAt v fun n => (-(2 ^ 62) ≤ m ∧ m < 2 ^ 62 ∧ -(2 ^ 62) ≤ n ∧ n < 2 ^ 62) ∧ loopOn (Itr m (n - m).toNat) g tb D σ H2
def zForL (K : PySem.W.Frag) (te : TE) (g : TG) (tb : TS) : TS := fun D σ H => te σ H fun v H1 => refAt v fun a => (∃ xs, SqL K H1 a xs) ∧ loopOn (Itl K a) g tb D σ H1
def zForT (K : PySem.W.Frag) (te : TE) (g : TG) (tb : TS) : TS := fun D σ H => te σ H fun v H1 => refAt v fun a => (∃ xs, SqT K H1 a xs) ∧ loopOn (Itt K a) g tb D σ H1
theorem intAt_ok {v : V} {R : Int → Prop} (h : intAt v R) : ∃ n, v = .int n ∧ R n := by
  unfold intAt at h; split at h
  · exact ⟨_, rfl, h⟩
  · exact h.elim
theorem refAt_ok {v : V} {R : Addr → Prop} (h : refAt v R) : ∃ n, v = .ref n ∧ R n := by
  unfold refAt at h; split at h
  · exact ⟨_, rfl, h⟩
  · exact h.elim
section
variable {X : Cx} {tg e e2 : Expr} {body : List Stmt} {te ta : TE} {g : TG} {tb : TS} {pos p pos2 : Pos}
theorem s_forR1 (hp : PassesOwn (model X.prog X.w) X.A X.env X.xe) (hc : X.calm = true) (hg : Gl X "range") (hm : X.mg "range" = none) (he : PE X e te) (hgt : PG X tg g) (hb : PSs X body tb)
    (hst : starEach [e] X.env = [(false, eval e X.env)] := by rfl) (hs : ∀ x, foldedSetIterable (.Call (.Name "range" p) [e] [] pos2) X.env x = pure x := by intro _; rfl) :
    PS X (.For tg (.Call (.Name "range" p) [e] [] pos2) body [] pos) (zForR1 te g tb) :=
  ps_imp (ps_for hp hc (pi_range1 hg hm (pa_cons (pe_up he) pa_nil hst) hst) hgt hb hs) fun D σ H q => ⟨_, fun v H1 q => by
    obtain ⟨n, en, ⟨h1, h2⟩, q6⟩ := intAt_ok q
    subst en
    exact ⟨n, rfl, h1, h2, q6⟩, q⟩
theorem s_forR2 (hp : PassesOwn (model X.prog X.w) X.A X.env X.xe) (hc : X.calm = true) (hg : Gl X "range") (hm : X.mg "range" = none) (ha : PE X e2 ta) (he : PE X e te) (hgt : PG X tg g) (hb : PSs X body tb)
    (hst : starEach [e2, e] X.env = [(false, eval e2 X.env), (false, eval e X.env)] := by rfl) (hst2 : starEach [e] X.env = [(false, eval e X.env)] := by rfl) (hs : ∀ x, foldedSetIterable (.Call (.Name "range" p) [e2, e] [] pos2) X.env x = pure x := by intro _; rfl) :
    PS X (.For tg (.Call (.Name "range" p) [e2, e] [] pos2) body [] pos) (zForR2 ta te g tb) :=
  ps_imp (ps_for hp hc (pi_range2 hg hm (pa_cons (pe_up ha) (pa_cons (pe_up he) pa_nil hst2) (hst.trans (by rw [hst2]))) hst hst2) hgt hb hs) fun D σ H q => ⟨_, fun u H1 q => ⟨_, fun v H2 q => by
    obtain ⟨m, em, q5⟩ := intAt_ok q
    obtain ⟨n, en, ⟨h1, h2⟩, q6⟩ := intAt_ok q5
    subst em en
    exact ⟨m, n, rfl, ⟨h1, h2⟩, q6⟩, q⟩, q⟩
theorem s_forL (hp : PassesOwn (model X.prog X.w) X.A X.env X.xe) (hc : X.calm = true) (he : PE X e te) (hgt : PG X tg g) (hb : PSs X body tb)
    (hs : ∀ x, foldedSetIterable e X.env x = pure x := by intro _; rfl) : PS X (.For tg e body [] pos) (zForL X.K te g tb) :=
  ps_imp (ps_for hp hc (pi_list (pe_up he)) hgt hb hs) fun D σ H q => ⟨_, fun v H1 q => by
    obtain ⟨a, en, h1, q6⟩ := refAt_ok q
    subst en
    exact ⟨a, rfl, h1, q6⟩, q⟩
theorem s_forT (hp : PassesOwn (model X.prog X.w) X.A X.env X.xe) (hc : X.calm = true) (he : PE X e te) (hgt : PG X tg g) (hb : PSs X body tb)
    (hs : ∀ x, foldedSetIterable e X.env x = pure x := by intro _; rfl) : PS X (.For tg e body [] pos) (zForT X.K te g tb) :=
  ps_imp (ps_for hp hc (pi_tup (pe_up he)) hgt hb hs) fun D σ H q => ⟨_, fun v H1 q => by
    obtain ⟨a, en, h1, q6⟩ := refAt_ok q
    subst en
    exact ⟨a, rfl, h1, q6⟩, q⟩
end
theorem loopR {lo : Int} {n : Nat} {g : TG} {tb : TS} {D : Ends} {σ : L2.St} {H : Hp} (Pv : Nat → L2.St → Hp → Prop) (h0 : Pv 0 σ H)
    (hs : ∀ i σ H, i < n → Pv i σ H → g (.int (lo + i)) σ H fun σ2 H2 => tb { D with nx := Pv (i + 1), ct := Pv (i + 1), bk := D.nx } σ2 H2) (hd : ∀ σ H, Pv n σ H → D.nx σ H) : loopOn (Itr lo n) g tb D σ H := for_range Pv h0 hs hd
theorem loopL {K : PySem.W.Frag} {a : Addr} {xs : List V} {g : TG} {tb : TS} {D : Ends} {σ : L2.St} {H : Hp} (Pv : Nat → L2.St → Hp → Prop) (h0 : Pv 0 σ H) (hl : ∀ i σ H, i ≤ xs.length → Pv i σ H → SqL K H a xs)
    (hs : ∀ i x σ H, xs[i]? = some x → Pv i σ H → g x σ H fun σ2 H2 => tb { D with nx := Pv (i + 1), ct := Pv (i + 1), bk := D.nx } σ2 H2) (hd : ∀ σ H, Pv xs.length σ H → D.nx σ H) : loopOn (Itl K a) g tb D σ H := for_list Pv h0 hl hs hd
theorem loopT {K : PySem.W.Frag} {a : Addr} {xs : List V} {g : TG} {tb : TS} {D : Ends} {σ : L2.St} {H : Hp} (Pv : Nat → L2.St → Hp → Prop) (h0 : Pv 0 σ H) (hl : ∀ i σ H, i ≤ xs.length → Pv i σ H → SqT K H a xs)
    (hs : ∀ i x σ H, xs[i]? = some x → Pv i σ H → g x σ H fun σ2 H2 => tb { D with nx := Pv (i + 1), ct := Pv (i + 1), bk := D.nx } σ2 H2) (hd : ∀ σ H, Pv xs.length σ H → D.nx σ H) : loopOn (Itt K a) g tb D σ H := for_tup Pv h0 hl hs hd

/-! ### comprehensions -/
def compOn (J : It) (g : TG) (tt : TT) (te : TE) (vs : List Nat) : TE := fun σ H1 Q => ∀ D, H1 D = none → ∃ W : Nat → Nat → Hp → Prop, (∃ m, W 0 m (upd H1 D (.lst []))) ∧ ∀ i m H, W i m H →
  (J.stop i H ∧ Q (.ref D) H) ∨ (J.go i H ∧ ∃ Nx : Hp → Prop, (∀ H', Nx H' → ∃ m', m' < m ∧ W (i + 1) m' H') ∧ ∀ x H', J.yld i H x H' → g x (wipe σ vs) H' fun σ2 H2 => wipe σ2 vs = wipe σ vs ∧ tt σ2 H2 fun b H3 =>
    if b = true then te σ2 H3 fun y H4 => ∃ acc, H4 D = some (.lst acc) ∧ acc.length < sizeLine ∧ Nx (upd H4 D (.lst (acc ++ [y]))) else Nx H3)
def iR1 (te : TE) : TI := fun σ H R => te σ H fun v H1 => intAt v fun n => (-(2 ^ 62) ≤ n ∧ n < 2 ^ 62) ∧ R (Itr 0 n.toNat) H1
def iR2 (ta te : TE) : TI := fun σ H R => ta σ H fun u H1 => te σ H1 fun v H2 => intAt u fun m => intAt v fun n => (-(2 ^ 62) ≤ m ∧ m < 2 ^ 62 ∧ -(2 ^ 62) ≤ n ∧ n < 2 ^ 62) ∧ R (Itr m (n - m).toNat) H2
def iL (K : PySem.W.Frag) (te : TE) : TI := fun σ H R => te σ H fun v H1 => refAt v fun a => (∃ xs, SqL K H1 a xs) ∧ R (Itl K a) H1
def iT (K : PySem.W.Frag) (te : TE) : TI := fun σ H R => te σ H fun v H1 => refAt v fun a => (∃ xs, SqT K H1 a xs) ∧ R (Itt K a) H1
def zLc (wi : TI) (g : TG) (tt : TT) (te : TE) (vs : List Nat) : TE := fun σ H Q => wi σ H fun J H1 => compOn J g tt te vs σ H1 Q
theorem pi_imp {X : Cx} {tg it : Expr} {w w' : TI} (h : PI X tg it w) (k : ∀ σ H R, w' σ H R → w σ H R) : PI X tg it w' := ⟨fun pins s σ H R I q => h.run pins s σ H R I (k σ H R q)⟩
section
variable {X : Cx} {tg e e2 : Expr} {te ta : TE} {p pos2 : Pos}
theorem i_r1 (hg : Gl X "range") (hm : X.mg "range" = none) (he : PE X e te) (hst : starEach [e] X.env = [(false, eval e X.env)] := by rfl) : PI X tg (.Call (.Name "range" p) [e] [] pos2) (iR1 te) :=
  pi_imp (pi_range1 hg hm (pa_cons (pe_up he) pa_nil hst) hst) fun σ H R q => ⟨_, fun v H1 q => by
    obtain ⟨n, en, ⟨h1, h2⟩, q6⟩ := intAt_ok q
    subst en
    exact ⟨n, rfl, h1, h2, q6⟩, q⟩
theorem i_r2 (hg : Gl X "range") (hm : X.mg "range" = none) (ha : PE X e2 ta) (he : PE X e te) (hst : starEach [e2, e] X.env = [(false, eval e2 X.env), (false, eval e X.env)] := by rfl) (hst2 : starEach [e] X.env = [(false, eval e X.env)] := by rfl) : PI X tg (.Call (.Name "range" p) [e2, e] [] pos2) (iR2 ta te) :=
  pi_imp (pi_range2 hg hm (pa_cons (pe_up ha) (pa_cons (pe_up he) pa_nil hst2) (hst.trans (by rw [hst2]))) hst hst2) fun σ H R q => ⟨_, fun u H1 q => ⟨_, fun v H2 q => by
    obtain ⟨m, em, q5⟩ := intAt_ok q
    obtain ⟨n, en, ⟨h1, h2⟩, q6⟩ := intAt_ok q5
    subst em en
    exact ⟨m, n, rfl, ⟨h1, h2⟩, q6⟩, q⟩, q⟩
theorem i_l (he : PE X e te) : PI X tg e (iL X.K te) := pi_imp (pi_list (pe_up he)) fun σ H R q => ⟨_, fun v H1 q => by
    obtain ⟨a, en, h1, q6⟩ := refAt_ok q
    subst en
    exact ⟨a, rfl, h1, q6⟩, q⟩
theorem i_t (he : PE X e te) : PI X tg e (iT X.K te) := pi_imp (pi_tup (pe_up he)) fun σ H R q => ⟨_, fun v H1 q => by
    obtain ⟨a, en, h1, q6⟩ := refAt_ok q
    subst en
    exact ⟨a, rfl, h1, q6⟩, q⟩
end
theorem compR {lo : Int} {n : Nat} {g : TG} {tt : TT} {te : TE} {vs : List Nat} {σ : L2.St} {H1 : Hp} {Q : VK} (Pv : Addr → Nat → Hp → Prop) (h0 : ∀ D, H1 D = none → Pv D 0 (upd H1 D (.lst [])))
    (hs : ∀ D i H, H1 D = none → i < n → Pv D i H → g (.int (lo + i)) (wipe σ vs) H fun σ2 H2 => wipe σ2 vs = wipe σ vs ∧ tt σ2 H2 fun b H3 =>
      if b = true then te σ2 H3 fun y H4 => ∃ acc, H4 D = some (.lst acc) ∧ acc.length < sizeLine ∧ Pv D (i + 1) (upd H4 D (.lst (acc ++ [y]))) else Pv D (i + 1) H3) (hd : ∀ D H, H1 D = none → Pv D n H → Q (.ref D) H) :
    compOn (Itr lo n) g tt te vs σ H1 Q := fun D hD => lc_range (Pv D) (h0 D hD) (fun i H hi p => hs D i H hD hi p) (fun H p => hd D H hD p)
theorem compL {K : PySem.W.Frag} {a : Addr} {xs : List V} {g : TG} {tt : TT} {te : TE} {vs : List Nat} {σ : L2.St} {H1 : Hp} {Q : VK} (Pv : Addr → Nat → Hp → Prop) (h0 : ∀ D, H1 D = none → Pv D 0 (upd H1 D (.lst []))) (hl : ∀ D i H, H1 D = none → i ≤ xs.length → Pv D i H → SqL K H a xs)
    (hs : ∀ D i x H, H1 D = none → xs[i]? = some x → Pv D i H → g x (wipe σ vs) H fun σ2 H2 => wipe σ2 vs = wipe σ vs ∧ tt σ2 H2 fun b H3 =>
      if b = true then te σ2 H3 fun y H4 => ∃ acc, H4 D = some (.lst acc) ∧ acc.length < sizeLine ∧ Pv D (i + 1) (upd H4 D (.lst (acc ++ [y]))) else Pv D (i + 1) H3) (hd : ∀ D H, H1 D = none → Pv D xs.length H → Q (.ref D) H) :
    compOn (Itl K a) g tt te vs σ H1 Q := fun D hD => lc_list (Pv D) (h0 D hD) (fun i H hi p => hl D i H hD hi p) (fun i x H hx p => hs D i x H hD hx p) (fun H p => hd D H hD p)

/-! ### properties, constants of a class -/
def zProp (C : Addr) (sp : Sp) (dvs : List V) (E : XK) (ta : TE) : TE := fun σ H Q => ta σ H fun x H1 => insAt H1 x fun a C' dx fs => C' = C ∧ sp (.ref a :: dvs) H1 Q E
section
variable {X : Cx} {k j : Nat} {C p g : Addr} {f : Str} {fd : FuncData} {ps : List Str} {sp : Sp} {dvs : List V} {ds : List Value} {E : XK} {e : Expr} {pos : Pos} {ta : TE}
theorem e_prop (he : PE X e ta) (c : Cls X.K C) (hp : PropOf X.K C f p g) (F : FnOk X.prog X.w X.K X.mg X.base C8.CX0 k g fd ps sp) (hr : Room j X.A) (hk : k + 1 ≤ j) (hb : Binds X.K fd ps ds) (hd : Vals dvs ds)
    (hab : attributeBase e f X.env (eval e X.env) = eval e X.env := by rfl) : PE X (.Attribute e f pos) (zProp C sp dvs E ta) :=
  pe_imp (pe_prop (pe_up he) c hp F (hr.mono hk) hb hd (C8.pass0 (X := X.nox) (E := E)) hab) fun σ H Q q => ⟨_, fun x H1 q => by
    obtain ⟨a, C', dx, fs, ex, ha, ec, q3⟩ := insAt_ok q
    rw [ec] at ha
    exact ⟨a, dx, fs, ex, ha, q3⟩, q⟩
theorem e_propC (he : PE X e ta) (c : Cls X.K C) (hp : PropOf X.K C f p g) (F : ∃ fd, FnOk X.prog X.w X.K X.mg X.base C8.CX0 k g fd ps sp ∧ PySem.W.keepIn X.K (.ref g) = true ∧ L2.Binds X.K fd ps []) (hr : Room j X.A) (hk : k + 1 ≤ j)
    (hab : attributeBase e f X.env (eval e X.env) = eval e X.env := by rfl) : PE X (.Attribute e f pos) (zProp C sp [] E ta) := by
  obtain ⟨fd, F, _, b⟩ := F
  exact e_prop he c hp F hr hk b .nil hab
end

/-! ### small facts for readings -/
theorem at0 {α : Type} {a : α} {l : List α} : atI (a :: l) 0 = some a := by
  unfold atI ixN; rw [if_pos (by decide), if_pos (by simp only [List.length_cons]; omega)]; rfl
theorem at1 {α : Type} {a b : α} {l : List α} : atI (a :: b :: l) 1 = some b := by
  unfold atI ixN; rw [if_pos (by decide), if_pos (by simp only [List.length_cons]; omega)]; rfl
theorem at2 {α : Type} {a b c : α} {l : List α} : atI (a :: b :: c :: l) 2 = some c := by
  unfold atI ixN; rw [if_pos (by decide), if_pos (by simp only [List.length_cons]; omega)]; rfl
theorem ix0 {α : Type} {a : α} {l : List α} : ixN (a :: l).length 0 = some 0 := by
  unfold ixN; rw [if_pos (by decide), if_pos (by simp only [List.length_cons]; omega)]; rfl
theorem ix1 {α : Type} {a b : α} {l : List α} : ixN (a :: b :: l).length 1 = some 1 := by
  unfold ixN; rw [if_pos (by decide), if_pos (by simp only [List.length_cons]; omega)]; rfl
theorem ix2 {α : Type} {a b c : α} {l : List α} : ixN (a :: b :: c :: l).length 2 = some 2 := by
  unfold ixN; rw [if_pos (by decide), if_pos (by simp only [List.length_cons]; omega)]; rfl
theorem upd_comm {H : Hp} {a b : Addr} {o u : HO} (h : a ≠ b) : upd (upd H a o) b u = upd (upd H b u) a o := by
  funext c
  unfold upd
  by_cases h1 : c = b
  · by_cases h2 : c = a
    · exact absurd (h2.symm.trans h1) h
    · simp [h1, h2, Ne.symm h]
  · simp [h1]

/-! ### comprehensions that leave what stood -/
/-- J gives item 0 .. item (n - 1), whatever is new -/
def Steady (J : It) (n : Nat) (item : Nat → V) (H1 : Hp) : Prop := ∀ H', Same H1 H' → (∀ i, n ≤ i → J.stop i H') ∧ (∀ i, i < n → J.go i H') ∧ ∀ i x H'', i < n → J.yld i H' x H'' → H'' = H' ∧ x = item i
theorem steady_l {K : PySem.W.Frag} {a : Addr} {xs : List V} {H1 : Hp} (h : SqL K H1 a xs) : Steady (Itl K a) xs.length (fun i => xs.getD i .non) H1 := fun H' s => by
  have h' := s.seq h
  refine ⟨fun i hi => ⟨xs, h', hi⟩, fun i hi => ⟨xs, xs[i], h', by simp [hi]⟩, fun i x H'' hi y => ?_⟩
  obtain ⟨e, y⟩ := y
  have e2 := y xs h'
  refine ⟨e, ?_⟩
  show x = xs.getD i V.non
  rw [List.getD_eq_getElem?_getD, e2] <;> rfl
theorem steady_t {K : PySem.W.Frag} {a : Addr} {xs : List V} {H1 : Hp} (h : H1 a = some (.tup xs)) : Steady (Itt K a) xs.length (fun i => xs.getD i .non) H1 := fun H' s => by
  have h' : SqT K H' a xs := SqT.of (s _ _ h)
  refine ⟨fun i hi => ⟨xs, h', hi⟩, fun i hi => ⟨xs, xs[i], h', by simp [hi]⟩, fun i x H'' hi y => ?_⟩
  obtain ⟨e, y⟩ := y
  have e2 := y xs h'
  refine ⟨e, ?_⟩
  show x = xs.getD i V.non
  rw [List.getD_eq_getElem?_getD, e2] <;> rfl
theorem steady_r {lo : Int} {n : Nat} {H1 : Hp} : Steady (Itr lo n) n (fun i => .int (lo + i)) H1 := fun H' _ => ⟨fun _ hi => hi, fun _ hi => hi, fun _ _ _ _ y => y⟩
theorem comp_core {J : It} {n : Nat} {item : Nat → V} {g : TG} {tt : TT} {te : TE} {vs : List Nat} {σ : L2.St} {H1 : Hp} {Q : VK} (S : Steady J n item H1) (Pv : Addr → Nat → Hp → Prop) (hsame : ∀ D i H, H1 D = none → Pv D i H → Same H1 H)
    (h0 : ∀ D, H1 D = none → Pv D 0 (upd H1 D (.lst [])))
    (hs : ∀ D i H, H1 D = none → i < n → Pv D i H → g (item i) (wipe σ vs) H fun σ2 H2 => wipe σ2 vs = wipe σ vs ∧ tt σ2 H2 fun b H3 =>
      if b = true then te σ2 H3 fun y H4 => ∃ acc, H4 D = some (.lst acc) ∧ acc.length < sizeLine ∧ Pv D (i + 1) (upd H4 D (.lst (acc ++ [y]))) else Pv D (i + 1) H3) (hd : ∀ D H, H1 D = none → Pv D n H → Q (.ref D) H) :
    compOn J g tt te vs σ H1 Q := by
  intro D hD
  refine ⟨fun i m H => m = n - i ∧ i ≤ n ∧ Pv D i H, ⟨n, by simp, Nat.zero_le _, h0 D hD⟩, ?_⟩
  rintro i m H ⟨rfl, hi, p⟩
  obtain ⟨s1, s2, s3⟩ := S H (hsame D i H hD p)
  by_cases hlt : i < n
  · refine .inr ⟨s2 i hlt, Pv D (i + 1), fun H' p' => ⟨n - (i + 1), by omega, rfl, hlt, p'⟩, fun x H' y => ?_⟩
    obtain ⟨e1, e2⟩ := s3 i x H' hlt y
    rw [e1, e2]
    exact hs D i H hD hlt p
  · have e : i = n := by omega
    subst e
    exact .inl ⟨s1 i (Nat.le_refl _), hd D H hD p⟩
/-- elements that are new tuples -/
theorem comp_tups {J : It} {n j : Nat} {item : Nat → V} {te : TE} {vs : List Nat} {σ : L2.St} {H1 : Hp} {Q : VK} (S : Steady J n item H1) (hn : n < sizeLine) (f : Nat → List V) (hw : ∀ x, wipe ((wipe σ vs).set j (some x)) vs = wipe σ vs)
    (he : ∀ i H', i < n → Same H1 H' → ∀ Q' : VK, (∀ t, H' t = none → Q' (.ref t) (upd H' t (.tup (f i)))) → te ((wipe σ vs).set j (some (item i))) H' Q')
    (k : ∀ (D : Addr) (H' : Hp) (ts : List Addr), H1 D = none → Same H1 H' → ts.length = n → H' D = some (.lst (ts.map V.ref)) → (∀ (i : Nat) t, ts[i]? = some t → H' t = some (.tup (f i))) → Q (.ref D) H') : compOn J (gName j) tYes te vs σ H1 Q := by
  refine comp_core S (fun D i H' => Same H1 H' ∧ ∃ ts : List Addr, ts.length = i ∧ H' D = some (.lst (ts.map V.ref)) ∧ ∀ (j : Nat) t, ts[j]? = some t → H' t = some (.tup (f j))) (fun D i H _ p => p.1) ?_ ?_ ?_
  · intro D hD
    refine ⟨fun b o e => by rw [upd_ne (ne_of_none e hD)]; exact e, [], rfl, upd_same, fun j t h => by simp at h⟩
  · rintro D i H hD hi ⟨s, ts, hl, hDl, ht⟩
    refine ⟨hw _, ?_⟩
    show te ((wipe σ vs).set j (some (item i))) H _
    refine he i H hi s _ fun t htn => ?_
    have nDt : D ≠ t := ne_of_none hDl htn
    refine ⟨ts.map V.ref, by rw [upd_ne nDt]; exact hDl, by rw [List.length_map]; omega, fun b o e => ?_, ts ++ [t], by rw [List.length_append, hl] <;> rfl, by rw [upd_same, List.map_append] <;> rfl, fun j' t' h => ?_⟩
    · rw [upd_ne (ne_of_none e hD), upd_ne (ne_of_none (s b o e) htn)]
      exact s b o e
    · by_cases hj : j' < ts.length
      · rw [List.getElem?_append_left hj] at h
        have h' := ht j' t' h
        rw [upd_ne (ne_of h' hDl (by intro z; cases z)), upd_ne (ne_of_none h' htn)]
        exact h'
      · rw [List.getElem?_append_right (by omega)] at h
        have hj2 : j' - ts.length = 0 := by
          have := (List.getElem?_eq_some_iff.mp h).1
          simp at this
          omega
        rw [hj2] at h
        have e1 : t = t' := by simpa using h
        subst e1
        rw [upd_ne nDt.symm, upd_same]
        have : j' = i := by omega
        rw [this]
  · rintro D H hD ⟨s, ts, hl, hDl, ht⟩
    exact k D H ts hD s hl hDl ht
/-- elements that are values -/
theorem comp_vals {J : It} {n j : Nat} {item : Nat → V} {te : TE} {vs : List Nat} {σ : L2.St} {H1 : Hp} {Q : VK} (S : Steady J n item H1) (hn : n < sizeLine) (f : Nat → V) (hw : ∀ x, wipe ((wipe σ vs).set j (some x)) vs = wipe σ vs)
    (he : ∀ i H', i < n → Same H1 H' → ∀ Q' : VK, Q' (f i) H' → te ((wipe σ vs).set j (some (item i))) H' Q')
    (k : ∀ D, H1 D = none → Q (.ref D) (upd H1 D (.lst ((List.range n).map f)))) : compOn J (gName j) tYes te vs σ H1 Q := by
  refine comp_core S (fun D i H' => H' = upd H1 D (.lst ((List.range i).map f))) (fun D i H hD p b o e => ?_) (fun D _ => rfl) ?_ ?_
  · rw [p, upd_ne (ne_of_none e hD)]
    exact e
  · rintro D i H hD hi rfl
    refine ⟨hw _, ?_⟩
    show te ((wipe σ vs).set j (some (item i))) _ _
    refine he i _ hi (fun b o e => by rw [upd_ne (ne_of_none e hD)]; exact e) _ ⟨_, upd_same, by rw [List.length_map, List.length_range]; omega, ?_⟩
    rw [upd_upd, List.range_succ, List.map_append] <;> rfl
  · rintro D H hD rfl
    exact k D hD
/-- a tuple of tuples of flat things, as data -/
theorem dp_all {K : PySem.W.Frag} {H : Hp} : ∀ {vs : List V} {ds : List PyData}, vs.length = ds.length → (∀ (i : Nat) v d, vs[i]? = some v → ds[i]? = some d → Dp K H v d) → DpAll K H vs ds
  | [], [], _, _ => .nil
  | [], _ :: _, h, _ => by cases h
  | _ :: _, [], h, _ => by cases h
  | v :: vs, d :: ds, h, k => .cons (k 0 v d rfl rfl) (dp_all (by simpa using h) fun i v' d' h1 h2 => k (i + 1) v' d' (by simpa using h1) (by simpa using h2))

/-! ### data that == takes -/
theorem shaped_of {d : PyData} {n : Nat} (h1 : d.canLay0 = true) (h2 : d.depth ≤ n) (hn : n ≤ 64) : SeqAt.shaped d = true := by
  unfold SeqAt.shaped
  rw [h1, Bool.true_and]
  exact decide_eq_true (Nat.le_trans h2 hn)
theorem lay_all : ∀ {l : List PyData}, (∀ x ∈ l, x.canLay0 = true) → PyData.canLayAll0 l = true
  | [], _ => by simp only [PyData.canLayAll0]
  | x :: r, h => by
    simp only [PyData.canLayAll0, Bool.and_eq_true]
    exact ⟨h x (List.mem_cons_self ..), lay_all fun y hy => h y (List.mem_cons_of_mem _ hy)⟩
theorem depth_all {n : Nat} : ∀ {l : List PyData}, (∀ x ∈ l, x.depth ≤ n) → PyData.depthAll l ≤ n
  | [], _ => by simp only [PyData.depthAll]; exact Nat.zero_le _
  | x :: r, h => by
    simp only [PyData.depthAll]
    exact Nat.max_le.mpr ⟨h x (List.mem_cons_self ..), depth_all fun y hy => h y (List.mem_cons_of_mem _ hy)⟩
theorem lay_list {l : List PyData} (h : ∀ x ∈ l, x.canLay0 = true) : (PyData.list l).canLay0 = true := by simp only [PyData.canLay0]; exact lay_all h
theorem lay_tuple {l : List PyData} (h : ∀ x ∈ l, x.canLay0 = true) : (PyData.tuple l).canLay0 = true := by simp only [PyData.canLay0]; exact lay_all h
theorem depth_list {n : Nat} {l : List PyData} (h : ∀ x ∈ l, x.depth ≤ n) : (PyData.list l).depth ≤ n + 1 := by simp only [PyData.depth]; exact Nat.succ_le_succ (depth_all h)
theorem depth_tuple {n : Nat} {l : List PyData} (h : ∀ x ∈ l, x.depth ≤ n) : (PyData.tuple l).depth ≤ n + 1 := by simp only [PyData.depth]; exact Nat.succ_le_succ (depth_all h)
/-- two equal data -/
theorem ne_same {K : PySem.W.Frag} {x y : V} {H : Hp} {Q : VK} {d : PyData} (h1 : Dp K H x d) (h2 : Dp K H y d) (hs : SeqAt.shaped d = true) (q : Q (.bl false) H) : rNeD K x y H Q :=
  ⟨d, d, h1, h2, hs, hs, by rw [SeqAt.eqv_refl d (SeqAt.canLay_of_shaped hs)]; exact q⟩
theorem eq_same {K : PySem.W.Frag} {x y : V} {H : Hp} {Q : VK} {d : PyData} (h1 : Dp K H x d) (h2 : Dp K H y d) (hs : SeqAt.shaped d = true) (q : Q (.bl true) H) : rEqD K x y H Q :=
  ⟨d, d, h1, h2, hs, hs, by rw [SeqAt.eqv_refl d (SeqAt.canLay_of_shaped hs)]; exact q⟩

theorem sqT_same {K : PySem.W.Frag} {H H' : Hp} {a : Addr} {xs : List V} (e : Same H H') (h : SqT K H a xs) : SqT K H' a xs := by
  rcases h with (h | ⟨o, h⟩) | h
  · exact .inl (.inl (e _ _ h))
  · exact .inl (.inr ⟨o, e _ _ h⟩)
  · exact .inr h
mutual
theorem dp_same {K : PySem.W.Frag} {H H' : Hp} (s : Same H H') : ∀ (d : PyData) (v : V), Dp K H v d → Dp K H' v d
  | .none, _, h => by cases h; exact .non
  | .bool b, _, h => by cases h; exact .bl b
  | .int i, _, h => by cases h; exact .int i
  | .str x, _, h => by cases h; exact .str x
  | .list ds, _, h => by
    cases h with
    | lst hs ha => exact .lst (s.seq hs) (dpAll_same s ds _ ha)
  | .tuple ds, _, h => by
    cases h with
    | tup hs ha => exact .tup (sqT_same s hs) (dpAll_same s ds _ ha)
  | .dict _, _, h => by cases h
theorem dpAll_same {K : PySem.W.Frag} {H H' : Hp} (s : Same H H') : ∀ (ds : List PyData) (vs : List V), DpAll K H vs ds → DpAll K H' vs ds
  | [], _, h => by cases h; exact .nil
  | d :: ds, _, h => by
    cases h with
    | cons h1 h2 => exact .cons (dp_same s d _ h1) (dpAll_same s ds _ h2)
end
end Z
namespace Hk
open PySem PySem.Spec PyProof.Rows L2
/-! ### a def at a path -/
structure DP where
  at_ : PySem.W.Frag → Addr
  name : Str
  qual : Str
  params : Arguments
  body : List Stmt
  scope : Scope
  dfl : List He.Dv := []
  kwd : List (Str × He.Dv) := []
def fnW (K : PySem.W.Frag) (a : Addr) : He.FnW := match K.lookup a with
  | some ⟨_, _, .func fd, _⟩ => some (fd.name, fd.qualname, fd.params, fd.body, fd.scope, fd.globals, fd.closure, fd.builtins)
  | _ => none
def DP.val (d : DP) : He.FnW := some (d.name, d.qual, d.params, .stmts d.body, d.scope, mainGlobals, [], builtinsNs)
def DP.dvs (K : PySem.W.Frag) (d : DP) : List V := d.dfl.map (He.Dv.v K)
def DP.kws (K : PySem.W.Frag) (d : DP) : List (Str × V) := d.kwd.map fun q => (q.1, q.2.v K)
def DP.ok (K : PySem.W.Frag) (d : DP) : Bool := PySem.W.keepIn K (.ref (d.at_ K)) && (match K.lookup (d.at_ K) with
  | some ⟨_, _, .func fd, _⟩ => PySem.W.codeIn K fd.code d.qual && (He.dflB K fd.defaults (d.dvs K) && He.kwdB K fd.kwdefaults (d.kws K))
  | _ => false)
theorem DP.funD {K : PySem.W.Frag} {d : DP} (e : fnW K (d.at_ K) = d.val) (c : d.ok K = true) : ∃ fd, FunD K d.name d.qual d.params d.body d.scope (d.dvs K) (d.kws K) (d.at_ K) fd := by
  obtain ⟨kp, c2⟩ := He.ba c
  unfold fnW at e
  cases q : K.lookup (d.at_ K) with
  | none =>
    rw [q] at c2
    cases c2
  | some o =>
    obtain ⟨oc, od, dt, osl⟩ := o
    rw [q] at c2 e
    cases dt with
    | func fd =>
      obtain ⟨n1, n2, n3, n4, n5, n6, n7, n8, n9, n10, n11, n12, n13, n14, n15⟩ := fd
      have e2 : (some (n1, n2, n3, n4, n5, n6, n7, n15) : He.FnW) = some (d.name, d.qual, d.params, .stmts d.body, d.scope, mainGlobals, [], builtinsNs) := e
      simp only [Option.some.injEq, Prod.mk.injEq] at e2
      obtain ⟨h1, h2, h3, h4, h5, h6, h7, h8⟩ := e2
      subst h1 h2 h3 h4 h5 h6 h7 h8
      have c3 : (PySem.W.codeIn K n13 d.qual && (He.dflB K n8 (d.dvs K) && He.kwdB K n9 (d.kws K))) = true := c2
      obtain ⟨k1, k2⟩ := He.ba c3
      obtain ⟨k3, k4⟩ := He.ba k2
      exact ⟨_, ⟨oc, od, n8, n9, n10, n11, n12, n13, n14, osl, rfl, q, k1, He.dflB_ok k3, He.kwdB_ok k4⟩, kp⟩
    | _ => cases c2
/-! ### facts -/
abbrev Fact := PySem.W.Frag → Bool
def Fact.of (f : He.Fa) : Fact := fun K => f.ok K
/-- a property's own address, its getter's -/
def prG (C f : Str) (K : PySem.W.Frag) : Addr := match PySem.W.recIn K (He.ma K (He.ga K C) f) "property" with
  | some (.ref g :: _) => g
  | _ => 0
def propB (C f : Str) : Fact := fun K => He.eqO (PySem.W.findIn K (.ref (He.ga K C)) f) (some (some (.ref (He.ma K (He.ga K C) f)))) &&
  (He.eqO (PySem.W.specialIn K (.ref (He.ma K (He.ga K C) f)) "__get__") (some (some (.builtin "property.__get__"))) &&
  (decide (PySem.W.takesIn K (.ref (He.ma K (He.ga K C) f)) = some true) && (match PySem.W.recIn K (He.ma K (He.ga K C) f) "property" with
    | some (.ref _ :: _) => true
    | _ => false)))
theorem propB_ok {K : PySem.W.Frag} {C f : Str} (h : propB C f K = true) : PropOf K (He.ga K C) f (He.ma K (He.ga K C) f) (prG C f K) := by
  obtain ⟨h1, h⟩ := He.ba h
  obtain ⟨h2, h⟩ := He.ba h
  obtain ⟨h3, h4⟩ := He.ba h
  refine ⟨He.eqO_ok h1, He.eqO_ok h2, of_decide_eq_true h3, ?_⟩
  unfold prG
  split at h4
  · rename_i g rest e
    rw [e]
    exact ⟨rest, rfl⟩
  · cases h4
/-- C.f is a constant of the class -/
def CK (K : PySem.W.Frag) (C : Addr) (f : Str) (v : V) : Prop := ∃ mc u, ClX.CRead K C mc ∧ ClX.CVal K C mc f v u
def cvalB (C f : Str) (v : V) : Fact := fun K => PySem.W.readsIn K (He.ga K C) (.type "type") && (He.eqO (PySem.W.specialIn K (.ref (He.ga K C)) "__getattribute__") (some (some (.builtin "type.__getattribute__"))) &&
  (match PySem.W.findCls K (.ref (He.ga K C)) (.type "type") f with
    | some (.val u) => He.relB v u
    | _ => false))
theorem cvalB_ok {K : PySem.W.Frag} {C f : Str} {v : V} (h : cvalB C f v K = true) : CK K (He.ga K C) f v := by
  obtain ⟨h1, h⟩ := He.ba h
  obtain ⟨h2, h3⟩ := He.ba h
  split at h3
  · rename_i u e
    exact ⟨_, u, ⟨h1, He.eqO_ok h2⟩, ⟨e, He.relB_ok h3⟩⟩
  · cases h3
theorem e_cval {X : Cx} {C : Addr} {x f : Str} {v : V} {p pos : Pos} (hg : Gl X x) (hm : X.mg x = some (.ref C)) (k : CK X.K C f v) (hd : (x == ("__debug__" : Str)) = false := by decide) (hb : attributeBase (.Name x p) f X.env (eval (.Name x p) X.env) = eval (.Name x p) X.env := by rfl) :
    PE X (.Attribute (.Name x p) f pos) (tC v) := by
  obtain ⟨mc, u, r, c⟩ := k
  exact Z.pe_imp (ClX.pe_cval (pe_glob (v := .ref C) hg hm rfl hd) hb) fun σ H Q q => ⟨C, mc, v, u, rfl, r, c, q⟩
/-! ### the Hook -/
def frag (n : Nat) (g : Addr → Option Obj) : PySem.W.Frag := He.frG g (He.asD g n ++ [cStatics])
abbrev Al : Type := Bool × List He.FnW
def obsP (fa : List Fact) (fn : List DP) (K : PySem.W.Frag) : Al := ((fa.all fun f => f K) && fn.all fun d => d.ok K, fn.map fun d => fnW K (d.at_ K))
def valP (fn : List DP) : Al := (true, fn.map DP.val)
def Says (fa : List Fact) (fn : List DP) (K : PySem.W.Frag) : Prop := obsP fa fn K = valP fn
def obsG (n : Nat) (fa : List Fact) (fn : List DP) (g : Addr → Option Obj) : Al := obsP fa fn (frag n g)
def hook (n : Nat) (fa : List Fact) (fn : List DP) : PySem.W.Hook where
  α := Al
  obs := fun s => obsG n fa fn s.heap.get?
  val := fun _ => valP fn
  says := fun _ h => ∃ K : PySem.W.Frag, K.In h ∧ Says fa fn K
  of := fun _ _ e => ⟨_, He.frG_in, e⟩
  keeps := fun _ _ _ ⟨K, hK, c⟩ k => ⟨K, PySem.W.Frag.In.keeps hK k, c⟩
theorem obsG_eq {n : Nat} {fa : List Fact} {fn : List DP} {g : Addr → Option Obj} {s : Shared} (h : ∀ a, g a = s.heap.get? a) : obsG n fa fn g = (hook n fa fn).obs s := by
  have e : g = s.heap.get? := funext h
  rw [e] <;> rfl
section
variable {fa : List Fact} {fn : List DP} {K : PySem.W.Frag}
theorem Says.fact (c : Says fa fn K) (i : Nat) {f : Fact} (h : fa[i]? = some f := by rfl) : f K = true := by
  have c1 := (He.ba (show ((fa.all fun f => f K) && fn.all fun d => d.ok K) = true from congrArg (fun z : Al => z.1) c)).1
  exact List.all_eq_true.mp c1 f (List.mem_of_getElem? h)
theorem Says.def_ (c : Says fa fn K) (i : Nat) {d : DP} (h : fn[i]? = some d := by rfl) : ∃ fd, FunD K d.name d.qual d.params d.body d.scope (d.dvs K) (d.kws K) (d.at_ K) fd := by
  have c2 := (He.ba (show ((fa.all fun f => f K) && fn.all fun d => d.ok K) = true from congrArg (fun z : Al => z.1) c)).2
  have e : fn.map (fun d => fnW K (d.at_ K)) = fn.map DP.val := congrArg (fun z : Al => z.2) c
  have e2 : (fn.map fun d => fnW K (d.at_ K))[i]? = (fn.map DP.val)[i]? := by rw [e]
  rw [List.getElem?_map, List.getElem?_map, h] at e2
  exact DP.funD (Option.some.inj e2) (List.all_eq_true.mp c2 d (List.mem_of_getElem? h))
end
theorem putF_ne {f g : Str} {a b : V} {r : List (Str × V)} (h : ¬ g = f) : putF f a ((g, b) :: r) = (g, b) :: putF f a r := by
  show (if g = f then (g, a) :: r else (g, b) :: putF f a r) = _
  rw [if_neg h]
theorem putF_eq {f : Str} {a b : V} {r : List (Str × V)} : putF f a ((f, b) :: r) = (f, a) :: r := by
  show (if f = f then (f, a) :: r else (f, b) :: putF f a r) = _
  rw [if_pos rfl]
/-! ### calls by names, from a def's promise -/
section
variable {P : Program} {w : World} {K : PySem.W.Frag} {mg : Str → Option Value} {base : Heap} {x qual : Str} {f C : Addr} {st : Stmt}
/-- what of the text a def is -/
abbrev FN (K : PySem.W.Frag) (x qual : Str) (st : Stmt) (f : Addr) : Prop := ∃ fd, FunD K x qual (defArgs st) (defBody st) (defScope st) [] [] f fd
theorem fn_ok {N ps : List Str} {k : Nat} {sp : Sp} {fd : FuncData} (F : FunD K x qual (defArgs st) (defBody st) (defScope st) [] [] f fd) (S : FnScope N ps (defScope st)) (len : ∀ vs H Q E, sp vs H Q E → vs.length = ps.length) {t : TS}
    (hd : ∀ (cdv : Value) (A : Around) (outer : List Env) (s : Shared) (H : Hp) (E : XK), Room k (A.deeper (envOfC qual (defScope st) s.heap.objs.size f cdv)) → PSs (cxOf C8.CX0 P w K mg base N qual (defScope st) f cdv A outer s H E).nox (defBody st) t)
    (hrd : ∀ vs H Q E, sp vs H Q E → t { nx := fun _ H' => Q .non H', rt := Q } (start N vs) H) : FnOk P w K mg base C8.CX0 (k + 1) f fd ps sp :=
  F.ok S len fun cdv A outer s H vs Q E hr h => ⟨t, PSs.nox (hd cdv A outer s H E hr), hrd vs H Q E h⟩
end
end Hk
namespace Z
open PySem PySem.Spec PyProof.Rows L2
/-! ### isinstance -/
structure InsF (K : PySem.W.Frag) (C : Addr) : Prop where
  cl : Cls K C
  ha : PySem.W.findIn K (.ref C) "__class__" = some (some (.builtin "object.__class__"))
  hn : PySem.W.specialIn K (.builtin "object.__class__") "__get__" = some (some (.builtin "getset_descriptor.__get__"))
  htk : PySem.W.takesIn K (.builtin "object.__class__") = some true
  hm : PySem.W.mroIn K C (.type "object") = some true
def tyAt (K : PySem.W.Frag) (H : Hp) (x : V) (R : Value → Prop) : Prop := match x with
  | .int _ => R (.type "int")
  | .bl _ => R (.type "bool")
  | .non => R (.type "NoneType")
  | .str _ => R (.type "str")
  | .ref a => (match H a with
    | some (.lst _) => R (.type "list")
    | some (.tup _) => R (.type "tuple")
    | some (.dK _) => R (.type "dict")
    | some (.ins C _ _) => InsF K C ∧ R (.ref C)
    | _ => False)
  | _ => False
theorem tyAt_ok {K : PySem.W.Frag} {H : Hp} {x : V} {R : Value → Prop} (h : tyAt K H x R) : ∃ t, TyX K H x t ∧ R t := by
  unfold tyAt at h
  split at h
  · exact ⟨_, .base (.int _), h⟩
  · exact ⟨_, .base (.bl _), h⟩
  · exact ⟨_, .base .non, h⟩
  · exact ⟨_, .base (.str _), h⟩
  · split at h
    · exact ⟨_, .base (.lst (by assumption)), h⟩
    · exact ⟨_, .base (.tup (by assumption)), h⟩
    · exact ⟨_, .base (.dK (by assumption)), h⟩
    · exact ⟨_, .base (.ins (by assumption) h.1.cl h.1.ha h.1.hn h.1.htk h.1.hm), h.2⟩
    · exact h.elim
  · exact h.elim
def clsAt (c : V) (R : Value → Prop) : Prop := match c with
  | .ty n => R (.type n)
  | .ref C => R (.ref C)
  | _ => False
theorem clsAt_ok {c : V} {R : Value → Prop} (h : clsAt c R) : ∃ u, ClsV c u ∧ R u := by
  unfold clsAt at h
  split at h
  · exact ⟨_, .ty _, h⟩
  · exact ⟨_, .own _, h⟩
  · exact h.elim
def yIsi (K : PySem.W.Frag) : List V → Hp → VK → Prop := fun vs H Q => match vs with
  | [x, c] => clsAt c fun u => tyAt K H x fun t => isNone (PySem.W.kitOne K t u) fun b => Q (.bl b) H
  | _ => False
theorem c_isi {X : Cx} : CallR X (.builtin "isinstance") (yIsi X.K) := cr_imp call_isi fun xs H Q q => by
  unfold yIsi at q
  split at q
  · obtain ⟨u, hu, q⟩ := clsAt_ok q
    obtain ⟨t, ht, q⟩ := tyAt_ok q
    obtain ⟨b, hb, q⟩ := isNone_ok q
    exact ⟨_, _, t, u, b, rfl, hu, ht, hb, q⟩
  · exact q.elim
theorem ki_int_int {K : PySem.W.Frag} : PySem.W.kitOne K (.type "int") (.type "int") = some true := kit_ty (by decide +kernel)
theorem ki_bool_int {K : PySem.W.Frag} : PySem.W.kitOne K (.type "bool") (.type "int") = some true := kit_ty (by decide +kernel)
theorem ki_none_int {K : PySem.W.Frag} : PySem.W.kitOne K (.type "NoneType") (.type "int") = some false := kit_ty (by decide +kernel)
theorem ki_str_int {K : PySem.W.Frag} : PySem.W.kitOne K (.type "str") (.type "int") = some false := kit_ty (by decide +kernel)
theorem ki_list_int {K : PySem.W.Frag} : PySem.W.kitOne K (.type "list") (.type "int") = some false := kit_ty (by decide +kernel)
theorem ki_tuple_int {K : PySem.W.Frag} : PySem.W.kitOne K (.type "tuple") (.type "int") = some false := kit_ty (by decide +kernel)
theorem ki_int_bool {K : PySem.W.Frag} : PySem.W.kitOne K (.type "int") (.type "bool") = some false := kit_ty (by decide +kernel)
theorem ki_bool_bool {K : PySem.W.Frag} : PySem.W.kitOne K (.type "bool") (.type "bool") = some true := kit_ty (by decide +kernel)
theorem ki_none_bool {K : PySem.W.Frag} : PySem.W.kitOne K (.type "NoneType") (.type "bool") = some false := kit_ty (by decide +kernel)
theorem ki_str_bool {K : PySem.W.Frag} : PySem.W.kitOne K (.type "str") (.type "bool") = some false := kit_ty (by decide +kernel)
theorem ki_list_bool {K : PySem.W.Frag} : PySem.W.kitOne K (.type "list") (.type "bool") = some false := kit_ty (by decide +kernel)
theorem ki_tuple_bool {K : PySem.W.Frag} : PySem.W.kitOne K (.type "tuple") (.type "bool") = some false := kit_ty (by decide +kernel)
/-- a built-in type, by its name -/
theorem pe_ty {X : Cx} {x : Str} {n : String} {pos : Pos} (hg : Gl X x) (hm : X.mg x = none) (hv : bootBuiltins x = some (.type n)) (hnm : x ≠ "__name__" := by decide) (hdb : (x == ("__debug__" : Str)) = false := by decide) : PE X (.Name x pos) (tC (.ty n)) := by
  refine ⟨fun pins s σ H Q I q => ?_⟩
  exact ld_blt I hg hm hv ⟨.ty n, H, I, rfl, q⟩ hnm hdb
/-! ### what is never reached; raise -/
def zNever : TS := fun _ _ _ => False
theorem ps_never {X : Cx} {st : Stmt} : PS X st zNever := ⟨fun _ _ _ _ _ _ q => q.elim⟩
def tRz (E : XK) (C : Addr) : TS := fun _ _ H => E (.ref C) none H
theorem s_raise {X : Cx} {x m : Str} {C : Addr} {E : XK} {j : Nat} {p p2 pos pos2 : Pos} (hc : X.calm = true) (tk : Takes X (fun cls d _ H => E cls d H))
    (q : PySem.W.excIn X.K C He.veBase "ValueError.__new__" = true ∧ PySem.W.keepIn X.K (.ref C) = true ∧ PySem.W.subIn X.K (.ref C) (.type "BaseException") = some true ∧ PySem.W.typeIn X.K (.ref C) = some (.type "type"))
    (gC : X.mg x = some (.ref C)) (hg : Gl X x) (hdb : (x == ("__debug__" : Str)) = false := by decide) : PS X (.Raise (some (.Call (.Name x p) [.Constant (.str m) j p2] [] pos)) none pos2) (tRz E C) :=
  ps_imp (ps_raise hc tk (pmk_own F.excBase_ValueError q.1 gC q.2.1 (raises_own q.2.2.1 q.2.2.2) hg hdb)) fun D σ H q => q
/-! ### a def that may raise -/
theorem fn_okX {P : Program} {w : World} {K : PySem.W.Frag} {mg : Str → Option Value} {base : Heap} {x qual : Str} {f : Addr} {st : Stmt} {N ps : List Str} {k : Nat} {sp : Sp} {fd : FuncData} (F : FunD K x qual (defArgs st) (defBody st) (defScope st) [] [] f fd) (S : FnScope N ps (defScope st)) (len : ∀ vs H Q E, sp vs H Q E → vs.length = ps.length) {t : XK → TS}
    (hd : ∀ (cdv : Value) (A : Around) (outer : List Env) (s : Shared) (H : Hp) (E : XK), Room k (A.deeper (envOfC qual (defScope st) s.heap.objs.size f cdv)) → Takes (cxOf (L2.CX P w) P w K mg base N qual (defScope st) f cdv A outer s H E) (fun cls d _ H => E cls d H) → PassesOwn (model P w) (cxOf (L2.CX P w) P w K mg base N qual (defScope st) f cdv A outer s H E).A (cxOf (L2.CX P w) P w K mg base N qual (defScope st) f cdv A outer s H E).env (cxOf (L2.CX P w) P w K mg base N qual (defScope st) f cdv A outer s H E).xe → PSs (cxOf (L2.CX P w) P w K mg base N qual (defScope st) f cdv A outer s H E) (defBody st) (t E))
    (hrd : ∀ vs H Q E, sp vs H Q E → t E { nx := fun _ H' => Q .non H', rt := Q } (start N vs) H) : FnOk P w K mg base (L2.CX P w) (k + 1) f fd ps sp :=
  F.ok S len fun cdv A outer s H vs Q E hr h => ⟨t E, hd cdv A outer s H E hr (takes_of rfl rfl rfl rfl) (passes_of rfl), hrd vs H Q E h⟩
/-! ### a class in a variable; by keywords -/
section
variable {X : Cx} {CX : CXT} {k i : Nat} {f C : Addr} {fd : FuncData} {ps ks : List Str} {sp : Sp} {E : XK} {x m : Str} {p pos apos : Pos} {e o : Expr} {es : List Expr} {kws : List Keyword} {ta : TE} {t tk : TA} {g : List Value → List Value → List Value} {gV : List V → List V → List V}
def zMakeV (i : Nat) (C : Addr) (sp : Sp) (E : XK) (t : TA) : TE := fun σ H Q => (match σ[i]? with
  | some (some v) => v = .ref C
  | _ => False) ∧ tMake C sp [] E t σ H Q
theorem e_makeV (M : Mk X.K C f) (F : FnOk X.prog X.w X.K X.mg X.base CX k f fd ps sp) (hr : Room (k + 1) X.A) (hb : Binds X.K fd ps []) (hx : Passes CX X E) (hN : X.N[i]? = some x) (hv : Vis X.env.scope x) (ha : PA X (e :: es) t)
    (hd : (x == ("__debug__" : Str)) = false := by decide) (hcd : (x == ("__classdict__" : Str)) = false := by decide)
    (he : starEach (e :: es) X.env = (false, eval e X.env) :: starEach es X.env := by rfl) (hpl : (backTo pos (starEach es X.env)).any (·.1) = false := by rfl) :
    PE X (.Call (.Name x p) (e :: es) [] pos) (zMakeV i C sp E t) := by
  refine ⟨fun pins s σ H Q I h => ?_⟩
  obtain ⟨hs, ht⟩ := h
  have hs' : σ[i]? = some (some (.ref C)) := by
    split at hs
    · rename_i e1
      rw [e1, hs]
    · exact hs.elim
  refine wpAny_Call_Name_kw (thn ((pe_var (pos := p) hN hv hd hcd).run pins s σ H (fun v H1 => v = .ref C ∧ H1 = H) I ⟨.ref C, hs', rfl, rfl⟩) fun u s1 ⟨v, H1, I1, r1, q1⟩ => ?_)
  obtain ⟨rfl, rfl⟩ := q1
  cases r1
  refine PySem.W.callWith_K (h₀ := X.base) I.ok.mod.kin M.kp (thn (ha.run pos pins s1 σ _ _ I1 ht) fun us s2 ⟨vs, H2, I2, r, q⟩ => ⟨I2.kIn, ?_⟩) he hpl
  exact run_make M F hr hb .nil hx I2 r q
/-- C(k = v, ..) -/
theorem e_make0N (M : Mk X.K C f) (F : FnOk X.prog X.w X.K X.mg X.base CX k f fd ps sp) (hr : Room (k + 1) X.A) (hg : Gl X x) (hm : X.mg x = some (.ref C)) (hb : KBn X.K fd ps 1 ks g gV) (hx : Passes CX X E)
    (hkw : PK X kws tk) (hall : (backToKw pos (keywordEach kws X.env)).all (·.1.isSome) = true := by rfl) (hks : (backToKw pos (keywordEach kws X.env)).filterMap (·.1) = ks := by rfl)
    (hdb : (x == ("__debug__" : Str)) = false := by decide)
    (hpl : ((backTo pos (starEach [] X.env)).any (·.1) || (backToKw pos (keywordEach kws X.env)).any (·.1.isNone)) = false := by rfl) :
    PE X (.Call (.Name x p) [] kws pos) (tMakeN C 0 ks.length sp gV E tNil tk) := by
  refine ⟨fun pins s σ H Q I h => ?_⟩
  refine wpAny_Call_Name_kw (ld_glob I hg hm ?_ hdb)
  refine PySem.W.callWith_KW0 (h₀ := X.base) I.ok.mod.kin M.kp hall (thn (hkw.run pos pins s σ H _ I h) fun ws s2 ⟨zs, H2, I2, rz, l1, l2, q2⟩ => ⟨I2.kIn, ?_⟩) hpl
  rw [hks]
  exact run_makeN (us := []) (vs := []) M F hr hb hx I2 .nil rz l1 l2 q2
/-! ### a class whose __init__ may raise -/
def MakX (P : Program) (w : World) (K : PySem.W.Frag) (mg : Str → Option Value) (base : Heap) (k : Nat) (x : Str) (C : Addr) (sp : Sp) : Prop := ∃ f fd ps, Mk K C f ∧ FnOk P w K mg base (L2.CX P w) k f fd ps sp ∧ mg x = some (.ref C) ∧ Binds K fd ps []
theorem e_mkX {j : Nat} (c : MakX X.prog X.w X.K X.mg X.base k x C sp) (hr : Room j X.A) (hk : k + 1 ≤ j) (hg : Gl X x) (hx : Passes (L2.CX X.prog X.w) X E) (ha : PA X (e :: es) t)
    (hdb : (x == ("__debug__" : Str)) = false := by decide) (he : starEach (e :: es) X.env = (false, eval e X.env) :: starEach es X.env := by rfl) (hpl : (backTo pos (starEach es X.env)).any (·.1) = false := by rfl) :
    PE X (.Call (.Name x p) (e :: es) [] pos) (tMake C sp [] E t) := by
  obtain ⟨f, fd, ps, M, F, hm, b⟩ := c
  exact pe_make M F (hr.mono hk) hg hm b .nil hx ha hdb he hpl
theorem e_mkV {j : Nat} (c : MakX X.prog X.w X.K X.mg X.base k m C sp) (hr : Room j X.A) (hk : k + 1 ≤ j) (hx : Passes (L2.CX X.prog X.w) X E) (hN : X.N[i]? = some x) (hv : Vis X.env.scope x) (ha : PA X (e :: es) t)
    (hd : (x == ("__debug__" : Str)) = false := by decide) (hcd : (x == ("__classdict__" : Str)) = false := by decide)
    (he : starEach (e :: es) X.env = (false, eval e X.env) :: starEach es X.env := by rfl) (hpl : (backTo pos (starEach es X.env)).any (·.1) = false := by rfl) :
    PE X (.Call (.Name x p) (e :: es) [] pos) (zMakeV i C sp E t) := by
  obtain ⟨f, fd, ps, M, F, hm, b⟩ := c
  exact e_makeV M F (hr.mono hk) b hx hN hv ha hd hcd he hpl
/-! ### classmethods -/
theorem fnR_of (F : FnOk X.prog X.w X.K X.mg X.base CX k f fd ps sp) (hb : Binds X.K fd ps []) : FnR X.prog X.w X.K X.mg X.base CX k f sp := fun A outer s H us vs Q E hr e0 r h => by
  have hl : us.length = ps.length := by rw [← r.length]; exact F.len _ _ _ _ h
  have kin : X.K.In s.heap := e0.mod.kin.keeps fun b o e => (e0.bs b o e).1
  have b := hb s us kin (by rw [List.append_nil]; exact hl)
  rw [List.append_nil] at b
  exact F.run A outer s H ⟨us, []⟩ us vs Q E hr e0 b r h
def zCMethN (C : Addr) (n : Nat) (sp : Sp) (gV : List V → List V → List V) (E : XK) (tk : TA) : TE := fun σ H Q => tk σ H fun zs H2 => zs.length = n ∧ sp (gV [.ref C] zs) H2 Q E
/-- C.m(k = v, ..) -/
theorem e_cmethN {mc : Value} {cp : Addr} {pl : Sem Bool} (hg : Gl X x) (hm : X.mg x = some (.ref C)) (r : ClX.CRead X.K C mc) (c : ClX.CMet X.K C mc m cp f) (F : FnOk X.prog X.w X.K X.mg X.base CX k f fd ps sp) (hr : Room k X.A) (hx : Passes CX X E) (hb : KBn X.K fd ps 1 ks g gV)
    (hkw : PK X kws tk) (hall : (backToKw pos (keywordEach kws X.env)).all (·.1.isSome) = true := by rfl) (hks : (backToKw pos (keywordEach kws X.env)).filterMap (·.1) = ks := by rfl)
    (hpl : ((backTo pos (starEach [] X.env)).any (·.1) || (backToKw pos (keywordEach kws X.env)).any (·.1.isNone)) = false := by rfl) (hdb : (x == ("__debug__" : Str)) = false := by decide)
    (ht : eval (.Call (.Attribute (.Name x p) m apos) [] kws pos) X.env = (do
      let ov ← eval (.Name x p) X.env
      standAt apos.atName
      let (f, first) ← holding [ov] (getMethod ov m pl)
      callWith pos f first (backTo pos (starEach [] X.env)) (backToKw pos (keywordEach kws X.env))) := by rfl) :
    PE X (.Call (.Attribute (.Name x p) m apos) [] kws pos) (zCMethN C ks.length sp gV E tk) := by
  refine ⟨fun pins s σ H Q I h => ?_⟩
  rw [ht]
  refine wpAny_bind (ld_glob I hg hm ?_ hdb)
  refine wpAny_bind (wpAny_standAt (wpAny_bind (wpAny_holding ?_)))
  refine ClX.getmethcm_ok I r c fun s2 I2 => ?_
  refine PySem.W.callWith_of hpl (PySem.W.keeps_M (self := .ref C) c.fi) (evalArgs_kw2_nil hall (thn (hkw.run pos _ s2 σ H _ I2 h) fun ws s3 ⟨zs, H2, I3, rz, l2, q2⟩ => ⟨⟨ClX.pin_at I3, I3.kIn⟩, ?_⟩))
  rw [hks]
  have r1 : Vals [V.ref C] [Value.ref C] := .cons rfl .nil
  have e2 : ws.length = ks.length := rz.length.symm.trans l2
  refine wpAny_call (PySem.W.method_call (ClX.pin_at I3) (codeAny_mono (F.run X.A X.stack s3 H2 ⟨[.ref C], ks.zip ws⟩ (g [.ref C] ws) (gV [.ref C] zs) Q E hr I3.env0 (hb.to _ [.ref C] ws I3.kIn rfl e2) (hb.rel r1 rz) q2) fun r s' hq => ?_))
  have I4 := ClX.unpin I3
  cases r with
  | error e => exact hx pins σ H2 s3 e s' I4 hq
  | ok fl =>
    cases fl with
    | ret u => exact I4.after hq
    | next => exact False.elim hq
    | brk => exact False.elim hq
    | cont => exact False.elim hq
end
end Z
namespace Hk
open PySem PySem.Spec PyProof.Rows L2
/-! ### more facts -/
def insB (C : Str) : Fact := fun K => (He.Fa.cls C).ok K && (He.eqO (PySem.W.findIn K (.ref (He.ga K C)) "__class__") (some (some (.builtin "object.__class__"))) && (He.eqO (PySem.W.specialIn K (.builtin "object.__class__") "__get__") (some (some (.builtin "getset_descriptor.__get__"))) &&
  (decide (PySem.W.takesIn K (.builtin "object.__class__") = some true) && decide (PySem.W.mroIn K (He.ga K C) (.type "object") = some true))))
theorem insB_ok {K : PySem.W.Frag} {C : Str} (h : insB C K = true) : Z.InsF K (He.ga K C) := by
  obtain ⟨h1, h⟩ := He.ba h
  obtain ⟨h2, h⟩ := He.ba h
  obtain ⟨h3, h⟩ := He.ba h
  obtain ⟨h4, h5⟩ := He.ba h
  exact ⟨He.cls_ok h1, He.eqO_ok h2, He.eqO_ok h3, of_decide_eq_true h4, of_decide_eq_true h5⟩
def kitTB (C : Str) (T : String) (b : Bool) : Fact := fun K => decide (PySem.W.kitOne K (.ref (He.ga K C)) (.type T) = some b)
theorem kitTB_ok {K : PySem.W.Frag} {C : Str} {T : String} {b : Bool} (h : kitTB C T b K = true) : PySem.W.kitOne K (.ref (He.ga K C)) (.type T) = some b := of_decide_eq_true h
def kitCB (C D : Str) (b : Bool) : Fact := fun K => decide (PySem.W.kitOne K (.ref (He.ga K C)) (.ref (He.ga K D)) = some b)
theorem kitCB_ok {K : PySem.W.Frag} {C D : Str} {b : Bool} (h : kitCB C D b K = true) : PySem.W.kitOne K (.ref (He.ga K C)) (.ref (He.ga K D)) = some b := of_decide_eq_true h
def excCB (C : Str) : Fact := fun K => He.eqO (PySem.W.findIn K (.ref (He.ga K C)) "__getattribute__") (some (some (.builtin "BaseException.__getattribute__"))) && (He.eqO (PySem.W.findIn K (.ref (He.ga K C)) "__getattr__") (some none) &&
  (decide (PySem.W.subIn K (.ref (He.ga K C)) (.type "BaseException") = some true) && (PySem.W.hasDictIn K (He.ga K C) && (He.eqO (PySem.W.findIn K (.ref (He.ga K C)) "__class__") (some (some (.builtin "object.__class__"))) &&
  (He.eqO (PySem.W.specialIn K (.builtin "object.__class__") "__get__") (some (some (.builtin "getset_descriptor.__get__"))) && (decide (PySem.W.takesIn K (.builtin "object.__class__") = some true) && decide (PySem.W.mroIn K (He.ga K C) (.type "object") = some true)))))))
theorem excCB_ok {K : PySem.W.Frag} {C : Str} (h : excCB C K = true) : ExcC K (He.ga K C) := by
  obtain ⟨h1, h⟩ := He.ba h
  obtain ⟨h2, h⟩ := He.ba h
  obtain ⟨h3, h⟩ := He.ba h
  obtain ⟨h4, h⟩ := He.ba h
  obtain ⟨h5, h⟩ := He.ba h
  obtain ⟨h6, h⟩ := He.ba h
  obtain ⟨h7, h8⟩ := He.ba h
  exact ⟨He.eqO_ok h1, He.eqO_ok h2, of_decide_eq_true h3, h4, He.eqO_ok h5, He.eqO_ok h6, of_decide_eq_true h7, of_decide_eq_true h8⟩
/-- a classmethod -/
def cmG (C m : Str) (K : PySem.W.Frag) : Addr := He5.wf K (He.ga K C) "classmethod" m
def cmB (C m : Str) : Fact := fun K => PySem.W.readsIn K (He.ga K C) (.type "type") && (He.eqO (PySem.W.specialIn K (.ref (He.ga K C)) "__getattribute__") (some (some (.builtin "type.__getattribute__"))) &&
  (He5.wrapB K (He.ga K C) "classmethod" "classmethod.__get__" m && PySem.W.fnIn K (cmG C m K)))
theorem cmB_ok {K : PySem.W.Frag} {C m : Str} (h : cmB C m K = true) : ClX.CRead K (He.ga K C) (.type "type") ∧ ClX.CMet K (He.ga K C) (.type "type") m (He.ma K (He.ga K C) m) (cmG C m K) := by
  obtain ⟨h1, h⟩ := He.ba h
  obtain ⟨h2, h⟩ := He.ba h
  obtain ⟨h3, h4⟩ := He.ba h
  exact ⟨⟨h1, He.eqO_ok h2⟩, He5.cmet_of h3 h4⟩
/-- a def of the top, its code object known -/
theorem fn_okC {P : Program} {w : World} {K : PySem.W.Frag} {mg : Str → Option Value} {base : Heap} {x qual : Str} {st : Stmt} {N ps : List Str} {k : Nat} {sp : Sp} {fd : FuncData} (F : FunD K x qual (defArgs st) (defBody st) (defScope st) [] [] (He.ga K x) fd) (S : FnScope N ps (defScope st)) (len : ∀ vs H Q E, sp vs H Q E → vs.length = ps.length) {t : TS}
    (hd : ∀ (A : Around) (outer : List Env) (s : Shared) (H : Hp) (E : XK), Room k (A.deeper (envOfC qual (defScope st) s.heap.objs.size (He.ga K x) (.ref (He.cT K (x, none)).1))) → PSs (cxOf C8.CX0 P w K mg base N qual (defScope st) (He.ga K x) (.ref (He.cT K (x, none)).1) A outer s H E).nox (defBody st) t)
    (hrd : ∀ vs H Q E, sp vs H Q E → t { nx := fun _ H' => Q .non H', rt := Q } (start N vs) H) : FnOk P w K mg base C8.CX0 (k + 1) (He.ga K x) fd ps sp := by
  obtain ⟨oc, od, dV, kV, doc, pm, an, cdv, ct, osl, rfl, lk, hcd, _, _⟩ := F.ex
  obtain ⟨c, rfl⟩ := He.codeIn_ref hcd
  have ec : He.codeOf K (x, none) = c := He.codeOf_eq (p := (x, none)) lk rfl
  refine fn_of lk hcd S len fun A outer s H vs Q E hr hsp => ⟨t, PSs.nox ?_, hrd vs H Q E hsp⟩
  have h := hd A outer s H E
  rw [show (He.cT K (x, none)).1 = c from ec] at h
  exact h hr
/-! ### the Hook with tables -/
def fragT (n : Nat) (g : Addr → Option Obj) : PySem.W.Frag := He.frT g (He.asD g n ++ [cStatics])
def obsTT (n : Nat) (fa : List Fact) (fn : List DP) (tf : List He.Defn) (g : Addr → Option Obj) : Al × Bool := (obsP fa fn (fragT n g), He.tabsB g tf (fragT n g))
structure SaysT (fa : List Fact) (fn : List DP) (tf : List He.Defn) (h : Heap) (K : PySem.W.Frag) : Prop where
  t : Says fa fn K
  hd : ∀ p ∈ tf, PySem.W.codeHdIn K (He.cT K p).1 (He.cT K p).2 = true
  out : ∀ p ∈ tf, K.lookup (He.cT K p).2 = none
  empty : ∀ p ∈ tf, h.get? (He.cT K p).2 = some { cls := .none, data := .fields #[] }
theorem saysT_of {n : Nat} {fa : List Fact} {fn : List DP} {tf : List He.Defn} {h : Heap} (e : obsTT n fa fn tf h.get? = (valP fn, true)) : SaysT fa fn tf h (fragT n h.get?) := by
  have e1 : obsP fa fn (fragT n h.get?) = valP fn := congrArg (fun z : Al × Bool => z.1) e
  have e2 : He.tabsB h.get? tf (fragT n h.get?) = true := congrArg (fun z : Al × Bool => z.2) e
  have key : ∀ p ∈ tf, PySem.W.codeHdIn (fragT n h.get?) (He.cT (fragT n h.get?) p).1 (He.cT (fragT n h.get?) p).2 = true ∧ ∃ o, h.get? (He.cT (fragT n h.get?) p).2 = some o ∧ He.emptyTab o = true := fun p hp => by
    obtain ⟨h3, h4⟩ := He.ba (List.all_eq_true.mp e2 p hp)
    refine ⟨h3, ?_⟩
    cases q : h.get? (He.cT (fragT n h.get?) p).2 with
    | none =>
      rw [q] at h4
      cases h4
    | some o =>
      rw [q] at h4
      exact ⟨o, rfl, h4⟩
  exact ⟨e1, fun p hp => (key p hp).1, fun p hp => by
    obtain ⟨_, o, q, z⟩ := key p hp
    exact He.frT_none q z, fun p hp => by
    obtain ⟨_, o, q, z⟩ := key p hp
    rw [q, He.emptyTab_eq z]⟩
def hookT (n : Nat) (fa : List Fact) (fn : List DP) (tf : List He.Defn) : PySem.W.Hook where
  α := Al × Bool
  obs := fun s => obsTT n fa fn tf s.heap.get?
  val := fun _ => (valP fn, true)
  says := fun _ h => ∃ K : PySem.W.Frag, K.In h ∧ SaysT fa fn tf h K
  of := fun _ _ e => ⟨_, He.frT_in, saysT_of e⟩
  keeps := fun _ _ _ ⟨K, hK, c⟩ k => ⟨K, PySem.W.Frag.In.keeps hK k, ⟨c.t, c.hd, c.out, fun p hp => k _ _ (c.empty p hp)⟩⟩
theorem obsTT_eq {n : Nat} {fa : List Fact} {fn : List DP} {tf : List He.Defn} {g : Addr → Option Obj} {s : Shared} (h : ∀ a, g a = s.heap.get? a) : obsTT n fa fn tf g = (hookT n fa fn tf).obs s := by
  have e : g = s.heap.get? := funext h
  rw [e] <;> rfl
end Hk
/-! Sleeping generators stay as they are: a run that never wakes them does not change them. -/
namespace GF
open PySem PyProof.Rows L2
open Sem (wp)
/-- a sleeper that cannot be woken -/
def stuck : GenState → GenState
  | .suspended _ l c p fs cl => .suspended (fun _ => .unsupported "asleep") l c p fs cl
  | x => x
def susp : GenState → Bool
  | .suspended .. => true
  | _ => false
theorem seen_stuck (x : GenState) : (stuck x).seen = x.seen := by cases x <;> rfl
theorem bare_stuck (x : GenState) : (stuck x).bare = x.bare := by cases x <;> rfl
theorem never {M : Model} {Γ : Ctx} {p : Pos} {t : Sem PySem.Fin} {fs : List Frame} {s s' : Shared} {e : End} {m : String} (h : Runs M Γ p t fs s e s') : t = .unsupported m → False := by
  induction h <;> intro q <;> first | (cases q; done) | (rename_i ih _; exact ih q) | (rename_i ih; exact ih q) | (rename_i ih _ _; exact ih q)
/-- G is y's table with the sleepers o awake again -/
structure RelG (o : Nat → Option GenState) (Y G : Array GenState) : Prop where
  size : G.size = Y.size
  some_ : ∀ i gs, o i = some gs → susp gs = true ∧ G[i]? = some gs ∧ Y[i]? = some (stuck gs)
  none_ : ∀ i, o i = none → G[i]? = Y[i]?
def OkG (o : Nat → Option GenState) (Y : Array GenState) : Prop := ∀ i k l c p fs cl, o i = none → Y[i]? = some (.suspended k l c p fs cl) → splitAtGen fs = none
def EndOk : End → Prop
  | .ret _ => True
  | .susp _ _ _ _ _ _ fs => splitAtGen fs = none
theorem split_cons {F : Frame} {fs : List Frame} (h : splitAtGen (F :: fs) = none) : (∃ k hd g l c p kp, F = .ret k hd g l c p kp) ∧ splitAtGen fs = none := by
  cases F with
  | gen g k l c p => cases h
  | ret k hd g l c p kp =>
    refine ⟨⟨_, _, _, _, _, _, _, rfl⟩, ?_⟩
    have h' : (splitAtGen fs).map _ = none := h
    cases e : splitAtGen fs with
    | none => rfl
    | some x => rw [e] at h'; cases h'
theorem split_app {xs ys : List Frame} (h1 : splitAtGen xs = none) (h2 : splitAtGen ys = none) : splitAtGen (xs ++ ys) = none := by
  induction xs with
  | nil => exact h2
  | cons F fs ih =>
    obtain ⟨⟨k, hd, g, l, c, p, kp, rfl⟩, h3⟩ := split_cons h1
    show (splitAtGen (fs ++ ys)).map _ = none
    rw [ih h3]
    rfl
section
variable {o : Nat → Option GenState} {Y G : Array GenState}
theorem RelG.set (r : RelG o Y G) {g : Nat} (hg : o g = none) (x : GenState) : RelG o (Y.setIfInBounds g x) (G.setIfInBounds g x) := by
  refine ⟨by rw [Array.size_setIfInBounds, Array.size_setIfInBounds, r.size], fun i gs h => ?_, fun i h => ?_⟩
  · obtain ⟨h1, h2, h3⟩ := r.some_ i gs h
    have ne : g ≠ i := fun e => by rw [e, h] at hg; cases hg
    refine ⟨h1, ?_, ?_⟩
    · rw [Array.getElem?_setIfInBounds_ne ne]; exact h2
    · rw [Array.getElem?_setIfInBounds_ne ne]; exact h3
  · by_cases e : g = i
    · subst e
      rw [Array.getElem?_setIfInBounds_self, Array.getElem?_setIfInBounds_self, r.size]
    · rw [Array.getElem?_setIfInBounds_ne e, Array.getElem?_setIfInBounds_ne e]; exact r.none_ i h
theorem RelG.push (r : RelG o Y G) (c : Code) : RelG o (Y.push (.fresh c)) (G.push (.fresh c)) := by
  refine ⟨by rw [Array.size_push, Array.size_push, r.size], fun i gs h => ?_, fun i h => ?_⟩
  · obtain ⟨h1, h2, h3⟩ := r.some_ i gs h
    have hlt : i < Y.size := (Array.getElem?_eq_some_iff.mp h3).1
    refine ⟨h1, ?_, ?_⟩
    · rw [Array.getElem?_push, if_neg (by rw [r.size]; omega)]; exact h2
    · rw [Array.getElem?_push, if_neg (by omega)]; exact h3
  · rw [Array.getElem?_push, Array.getElem?_push, r.size, r.none_ i h]
theorem OkG.set (k : OkG o Y) {g : Nat} {x : GenState} (h : ∀ k l c p fs cl, x = .suspended k l c p fs cl → splitAtGen fs = none) : OkG o (Y.setIfInBounds g x) := fun i k' l c p fs cl hi e => by
  by_cases q : g = i
  · subst q
    rw [Array.getElem?_setIfInBounds_self] at e
    split at e
    · exact h _ _ _ _ _ _ (Option.some.inj e)
    · cases e
  · rw [Array.getElem?_setIfInBounds_ne q] at e
    exact k i _ _ _ _ _ _ hi e
theorem OkG.push (k : OkG o Y) (c : Code) : OkG o (Y.push (.fresh c)) := fun i k' l c' p fs cl hi e => by
  rw [Array.getElem?_push] at e
  split at e
  · cases e
  · exact k i _ _ _ _ _ _ hi e
/-- a state that is no sleeper of ours is the same in both -/
theorem RelG.same (r : RelG o Y G) {g : Nat} {x : GenState} (h : Y[g]? = some x) (hx : susp x = false) : o g = none ∧ G[g]? = some x := by
  cases q : o g with
  | none => exact ⟨rfl, (r.none_ g q).trans h⟩
  | some gs =>
    obtain ⟨h1, _, h3⟩ := r.some_ g gs q
    rw [h] at h3
    cases h3
    cases gs <;> first | (cases h1; done) | cases hx
end
def st (s : Shared) (G : Array GenState) : Shared := { s with gens := G }
theorem endSet {e : End} (h : EndOk e) : ∀ k l c p fs cl, e.genState = .suspended k l c p fs cl → splitAtGen fs = none := fun k l c p fs cl q => by
  cases e with
  | ret r => cases q
  | susp v g l' k' c' p' fs' =>
    have q' : GenState.suspended k' l' c' p' fs' _ = .suspended k l c p fs cl := q
    injection q' with _ _ _ _ e5 _
    rw [← e5]
    exact h
theorem runs_frame {M : Model} {o : Nat → Option GenState} {Γ : Ctx} {p : Pos} {t : Sem PySem.Fin} {fs : List Frame} {y y' : Shared} {e : End} (h : Runs M Γ p t fs y e y') : splitAtGen fs = none → OkG o y.gens → ∀ G, RelG o y.gens G →
    ∃ G', Runs M Γ p t fs (st y G) e (st y' G') ∧ RelG o y'.gens G' ∧ OkG o y'.gens ∧ EndOk e := by
  induction h with
  | done => exact fun _ k G r => ⟨G, .done, r, k, trivial⟩
  | raise => exact fun _ k G r => ⟨G, .raise, r, k, trivial⟩
  | again hq _ ih => exact fun hf k G r => let ⟨G', a, b⟩ := ih hf k G r; ⟨G', .again hq a, b⟩
  | rule _ ih => exact fun hf k G r => let ⟨G', a, b⟩ := ih hf k G r; ⟨G', .rule a, b⟩
  | «at» _ ih => exact fun hf k G r => let ⟨G', a, b⟩ := ih hf k G r; ⟨G', .at a, b⟩
  | load ho _ ih => exact fun hf k G r => let ⟨G', a, b⟩ := ih hf k G r; ⟨G', .load ho a, b⟩
  | update ho _ ih => exact fun hf k G r => let ⟨G', a, b⟩ := ih hf k G r; ⟨G', .update ho a, b⟩
  | loadIfAlive _ ih => exact fun hf k G r => let ⟨G', a, b⟩ := ih hf k G r; ⟨G', .loadIfAlive a, b⟩
  | point _ ih => exact fun hf k G r => let ⟨G', a, b⟩ := ih hf k G r; ⟨G', .point a, b⟩
  | alloc _ ih => exact fun hf k G r => let ⟨G', a, b⟩ := ih hf k G r; ⟨G', .alloc a, b⟩
  | fresh _ ih => exact fun hf k G r => let ⟨G', a, b⟩ := ih hf k G r; ⟨G', .fresh a, b⟩
  | ask _ ih => exact fun hf k G r => let ⟨G', a, b⟩ := ih hf k G r; ⟨G', .ask a, b⟩
  | choose hn _ ih => exact fun hf k G r => let ⟨G', a, b⟩ := ih hf k G r; ⟨G', .choose hn a, b⟩
  | os _ ih => exact fun hf k G r => let ⟨G', a, b⟩ := ih hf k G r; ⟨G', .os a, b⟩
  | handled _ ih => exact fun hf k G r => let ⟨G', a, b⟩ := ih hf k G r; ⟨G', .handled a, b⟩
  | @genState g st' Γ p k s e s' hs _ ih =>
    intro hf kk G r
    obtain ⟨G', a, b⟩ := ih hf kk G r
    cases q : o g with
    | none => exact ⟨G', .genState (st := st') ((r.none_ g q).trans hs) a, b⟩
    | some gs =>
      obtain ⟨h1, h2, h3⟩ := r.some_ g gs q
      rw [hs] at h3
      have e3 : st' = stuck gs := Option.some.inj h3
      refine ⟨G', .genState (st := gs) h2 ?_, b⟩
      rw [← seen_stuck gs, ← e3]
      exact a
  | stack _ ih => exact fun hf k G r => let ⟨G', a, b⟩ := ih hf k G r; ⟨G', .stack a, b⟩
  | thread _ ih => exact fun hf k G r => let ⟨G', a, b⟩ := ih hf k G r; ⟨G', .thread a, b⟩
  | @newGen Γ p k s e s' c _ ih =>
    intro hf kk G r
    obtain ⟨G', a, b⟩ := ih hf (kk.push c) _ (r.push c)
    refine ⟨G', .newGen ?_, b⟩
    have e1 : (st s G).gens.size = s.gens.size := r.size
    rw [e1]
    exact a
  | call _ _ ih1 ih2 =>
    intro hf k G r
    obtain ⟨G1, a1, r1, k1, _⟩ := ih1 rfl k G r
    obtain ⟨G2, a2, b⟩ := ih2 hf k1 G1 r1
    exact ⟨G2, .call a1 a2, b⟩
  | callSusp _ ih1 =>
    intro hf k G r
    obtain ⟨G1, a1, r1, k1, e1⟩ := ih1 rfl k G r
    exact ⟨G1, .callSusp a1, r1, k1, split_app e1 rfl⟩
  | yield => exact fun _ k G r => ⟨G, .yield, r, k, rfl⟩
  | @resumeFresh Γ p g l k s c e₁ s₁ e s' hs _ hq _ ih1 ih2 =>
    intro hf kk G r
    obtain ⟨og, hG⟩ := r.same hs rfl
    obtain ⟨G1, a1, r1, k1, e1⟩ := ih1 rfl (kk.set fun _ _ _ _ _ _ z => by cases z) _ (r.set og .running)
    obtain ⟨G2, a2, b⟩ := ih2 hf (k1.set (endSet e1)) _ (r1.set og e₁.genState)
    exact ⟨G2, .resumeFresh hG a1 hq a2, b⟩
  | @resumeSuspended Γ p g rr l k s k₀ l₀ c₀ p₀ fs cl e₁ s₁ e s' hs h1 hq _ ih1 ih2 =>
    intro hf kk G r
    cases q : o g with
    | some gs =>
      obtain ⟨g1, g2, g3⟩ := r.some_ g gs q
      rw [hs] at g3
      cases gs with
      | suspended k' l' c' p' fs' cl' =>
        have g4 := Option.some.inj g3
        injection g4 with z1 _ _ _ _ _
        rw [z1] at h1
        exact (never h1 rfl).elim
      | _ => cases g1
    | none =>
      have hG : G[g]? = _ := (r.none_ g q).trans hs
      obtain ⟨G1, a1, r1, k1, e1⟩ := ih1 (kk g _ _ _ _ _ _ q hs) (kk.set fun _ _ _ _ _ _ z => by cases z) _ (r.set q .running)
      obtain ⟨G2, a2, b⟩ := ih2 hf (k1.set (endSet e1)) _ (r1.set q e₁.genState)
      exact ⟨G2, .resumeSuspended hG a1 hq a2, b⟩
  | resumeJustStarted hs hv _ ih => exact fun hf k G r => let ⟨G', a, b⟩ := ih hf k G r; ⟨G', .resumeJustStarted (r.same hs rfl).2 hv a, b⟩
  | resumeThrowFresh hs _ ih =>
    intro hf k G r
    obtain ⟨og, hG⟩ := r.same hs rfl
    obtain ⟨G', a, b⟩ := ih hf (k.set fun _ _ _ _ _ _ z => by cases z) _ (r.set og .finished)
    exact ⟨G', .resumeThrowFresh hG a, b⟩
  | resumeRunning hs _ ih => exact fun hf k G r => let ⟨G', a, b⟩ := ih hf k G r; ⟨G', .resumeRunning (r.same hs rfl).2 a, b⟩
  | resumeFinished hs _ ih => exact fun hf k G r => let ⟨G', a, b⟩ := ih hf k G r; ⟨G', .resumeFinished (r.same hs rfl).2 a, b⟩
  | segRet _ _ ih1 ih2 =>
    intro hf k G r
    obtain ⟨_, hf2⟩ := split_cons hf
    obtain ⟨G1, a1, r1, k1, _⟩ := ih1 rfl k G r
    obtain ⟨G2, a2, b⟩ := ih2 hf2 k1 G1 r1
    exact ⟨G2, .segRet a1 a2, b⟩
  | segGen _ _ _ _ => exact fun hf => by cases hf
  | segSuspOut hs _ ih1 =>
    intro hf k G r
    obtain ⟨G1, a1, r1, k1, e1⟩ := ih1 rfl k G r
    exact ⟨G1, .segSuspOut hs a1, r1, k1, split_app e1 hf⟩
  | segSuspGen hs _ _ _ _ _ => exact fun hf => by rw [hf] at hs; cases hs
/-! ### at the level of wp -/
theorem wakes_frame {M : Model} {o : Nat → Option GenState} {Γ : Ctx} {p : Pos} {g : Nat} {r : Resume} {s s' : Shared} {res : GenResult} (h : Wakes M Γ p g r s res s') (k : OkG o s.gens) {G : Array GenState} (rl : RelG o s.gens G) :
    ∃ G', Wakes M Γ p g r (st s G) res (st s' G') ∧ RelG o s'.gens G' ∧ OkG o s'.gens := by
  unfold Wakes at h
  cases q : s.gens[g]? with
  | none => rw [q] at h; exact h.elim
  | some x =>
    rw [q] at h
    cases x with
    | fresh c =>
      obtain ⟨og, hG⟩ := rl.same q rfl
      cases r with
      | send v =>
        by_cases hv : v = .none
        · subst hv
          obtain ⟨e₁, s₁, hr, hq, h1, h2⟩ := h
          obtain ⟨G1, a1, r1, k1, e1⟩ := runs_frame hr rfl (k.set fun _ _ _ _ _ _ z => by cases z) _ (rl.set og .running)
          refine ⟨G1.setIfInBounds g e₁.genState, ?_, ?_, ?_⟩
          · unfold Wakes
            rw [show (st s G).gens[g]? = _ from hG]
            exact ⟨e₁, _, a1, hq, h1, by rw [h2]; rfl⟩
          · rw [h2]; exact r1.set og _
          · rw [h2]; exact k1.set (endSet e1)
        · have h' : res = .justStarted ∧ s' = s := by
            cases v <;> first | exact absurd rfl hv | exact h
          obtain ⟨h1, h2⟩ := h'
          refine ⟨G, ?_, by rw [h2]; exact rl, by rw [h2]; exact k⟩
          unfold Wakes
          rw [show (st s G).gens[g]? = _ from hG]
          cases v <;> first | exact absurd rfl hv | exact ⟨h1, by rw [h2]⟩
      | throw x =>
        obtain ⟨h1, h2⟩ := h
        refine ⟨G.setIfInBounds g .finished, ?_, by rw [h2]; exact rl.set og _, by rw [h2]; exact k.set fun _ _ _ _ _ _ z => by cases z⟩
        unfold Wakes
        rw [show (st s G).gens[g]? = _ from hG]
        exact ⟨h1, by rw [h2]; rfl⟩
    | suspended k₀ l₀ c₀ p₀ fs cl =>
      obtain ⟨e₁, s₁, hr, hq, h1, h2⟩ := h
      cases qo : o g with
      | some gs =>
        obtain ⟨g1, g2, g3⟩ := rl.some_ g gs qo
        rw [q] at g3
        cases gs with
        | suspended k' l' c' p' fs' cl' =>
          have g4 := Option.some.inj g3
          injection g4 with z1 _ _ _ _ _
          rw [z1] at hr
          exact (never hr rfl).elim
        | _ => cases g1
      | none =>
        have hG : G[g]? = _ := (rl.none_ g qo).trans q
        obtain ⟨G1, a1, r1, k1, e1⟩ := runs_frame hr (k g _ _ _ _ _ _ qo q) (k.set fun _ _ _ _ _ _ z => by cases z) _ (rl.set qo .running)
        refine ⟨G1.setIfInBounds g e₁.genState, ?_, ?_, ?_⟩
        · unfold Wakes
          rw [show (st s G).gens[g]? = _ from hG]
          exact ⟨e₁, _, a1, hq, h1, by rw [h2]; rfl⟩
        · rw [h2]; exact r1.set qo _
        · rw [h2]; exact k1.set (endSet e1)
    | running =>
      obtain ⟨og, hG⟩ := rl.same q rfl
      obtain ⟨h1, h2⟩ := h
      refine ⟨G, ?_, by rw [h2]; exact rl, by rw [h2]; exact k⟩
      unfold Wakes
      rw [show (st s G).gens[g]? = _ from hG]
      exact ⟨h1, by rw [h2]⟩
    | finished =>
      obtain ⟨og, hG⟩ := rl.same q rfl
      obtain ⟨h1, h2⟩ := h
      refine ⟨G, ?_, by rw [h2]; exact rl, by rw [h2]; exact k⟩
      unfold Wakes
      rw [show (st s G).gens[g]? = _ from hG]
      exact ⟨h1, by rw [h2]⟩
theorem wp_frame {α : Type} {M : Model} {Γ : Ctx} {o : Nat → Option GenState} (t : Sem α) : ∀ (Q : α → Pos → Shared → Prop) (E : Value → Pos → Shared → Prop) (p : Pos) (s : Shared) (G : Array GenState), wp M Γ t Q E p s → OkG o s.gens → RelG o s.gens G →
    wp M Γ t (fun a p' x => ∃ y G', x = st y G' ∧ Q a p' y ∧ RelG o y.gens G' ∧ OkG o y.gens) (fun e p' x => ∃ y G', x = st y G' ∧ E e p' y ∧ RelG o y.gens G' ∧ OkG o y.gens) p (st s G) := by
  induction t with
  | pure a => intro Q E p s G h k r; exact ⟨s, G, rfl, h, r, k⟩
  | raise e => intro Q E p s G h k r; exact ⟨s, G, rfl, h, r, k⟩
  | unsupported _ => intro Q E p s G h k r; exact h
  | finish _ => intro Q E p s G h k r; exact h
  | rule _ kk ih => intro Q E p s G h k r; exact ih () Q E p s G h k r
  | «at» p' kk ih => intro Q E p s G h k r; exact ih () Q E p' s G h k r
  | load a _ kk ih => intro Q E p s G h k r; obtain ⟨ob, ho, h⟩ := h; exact ⟨ob, ho, ih ob Q E p s G h k r⟩
  | update a _ f kk ih => intro Q E p s G h k r; exact ⟨h.1, ih () Q E p _ G h.2 k r⟩
  | loadIfAlive a kk ih => intro Q E p s G h k r; exact ih _ Q E p s G h k r
  | point _ kk ih => intro Q E p s G h k r; exact ih () Q E p s G h k r
  | register _ _ => intro Q E p s G h k r; exact h
  | alloc ob kk ih => intro Q E p s G h k r; exact ih _ Q E p { s with heap := s.heap.push ob } G h k r
  | fresh kk ih => intro Q E p s G h k r; exact ih _ Q E p { s with toks := s.toks + 1 } G h k r
  | ask kk ih => intro Q E p s G h k r; exact ih _ Q E p s G h k r
  | choose src m kk ih => intro Q E p s G h k r; exact ⟨h.1, ih _ Q E p { s with drawn := s.drawn.bump src } G h.2 k r⟩
  | os q _ kk ih => intro Q E p s G h k r; exact ih _ Q E p { s with os := (Os.step s.os q).1 } G h k r
  | call c hd _ _ kk ih =>
    intro Q E p s G h k r
    obtain ⟨res, s', hr, h⟩ := h
    obtain ⟨G', a, r', k', _⟩ := runs_frame hr rfl k G r
    exact ⟨res, _, a, ih res Q E p s' G' h k' r'⟩
  | handled own kk ih => intro Q E p s G h k r; exact ih _ Q E p s G h k r
  | genState g kk ih =>
    intro Q E p s G h k r
    obtain ⟨x, hs, h⟩ := h
    cases q : o g with
    | none => exact ⟨x, (r.none_ g q).trans hs, ih _ Q E p s G h k r⟩
    | some gs =>
      obtain ⟨h1, h2, h3⟩ := r.some_ g gs q
      rw [hs] at h3
      have e3 : x = stuck gs := Option.some.inj h3
      refine ⟨gs, h2, ?_⟩
      rw [← seen_stuck gs, ← e3]
      exact ih _ Q E p s G h k r
  | newGen c kk ih =>
    intro Q E p s G h k r
    have e1 : (st s G).gens.size = s.gens.size := r.size
    show wp M Γ (kk (st s G).gens.size) _ _ p _
    rw [e1]
    exact ih _ Q E p { s with gens := s.gens.push (.fresh c) } (G.push (.fresh c)) h (k.push c) (r.push c)
  | resume g rr _ kk ih =>
    intro Q E p s G h k r
    obtain ⟨res, s', hw, h⟩ := h
    obtain ⟨G', a, r', k'⟩ := wakes_frame hw k r
    exact ⟨res, _, a, ih res Q E p s' G' h k' r'⟩
  | yield _ _ _ _ => intro Q E p s G h k r; exact h
  | stack kk ih => intro Q E p s G h k r; exact ih _ Q E p s G h k r
  | fork _ _ => intro Q E p s G h k r; exact h
  | thread kk ih => intro Q E p s G h k r; exact ih _ Q E p s G h k r
  | await _ _ _ _ _ => intro Q E p s G h k r; exact h
theorem wpAny_frame {α : Type} {M : Model} {A : Around} {o : Nat → Option GenState} {t : Sem α} {Q : α → Shared → Prop} {E : Value → Shared → Prop} {s : Shared} {G : Array GenState} (h : wpAny M A t Q E s) (k : OkG o s.gens) (r : RelG o s.gens G) :
    wpAny M A t (fun a x => ∃ y G', x = st y G' ∧ Q a y ∧ RelG o y.gens G' ∧ OkG o y.gens) (fun e x => ∃ y G', x = st y G' ∧ E e y ∧ RelG o y.gens G' ∧ OkG o y.gens) (st s G) := fun Γ p hΓ =>
  wp_frame t _ _ p s G (h Γ p hΓ) k r
/-- every sleeper of G, put to sleep for good -/
def asleep (G : Array GenState) : Array GenState := G.map stuck
def orig (G : Array GenState) : Nat → Option GenState := fun i => match G[i]? with
  | some gs => if susp gs = true then some gs else none
  | none => none
theorem rel_asleep (G : Array GenState) : RelG (orig G) (asleep G) G := by
  unfold asleep
  refine ⟨by rw [Array.size_map], fun i gs h => ?_, fun i h => ?_⟩
  · unfold orig at h
    split at h
    · rename_i x e
      split at h
      · cases h
        refine ⟨by assumption, e, ?_⟩
        rw [Array.getElem?_map, e] <;> rfl
      · cases h
    · cases h
  · rw [Array.getElem?_map]
    unfold orig at h
    split at h
    · rename_i x e
      split at h
      · cases h
      · rename_i hs
        rw [e]
        cases x <;> first | rfl | exact absurd rfl hs
    · rename_i e
      rw [e] <;> rfl
theorem ok_asleep (G : Array GenState) : OkG (orig G) (asleep G) := fun i k l c p fs cl hi e => by
  unfold asleep at e
  rw [Array.getElem?_map] at e
  unfold orig at hi
  cases q : G[i]? with
  | none => rw [q] at e; cases e
  | some x =>
    rw [q] at e hi
    cases x with
    | suspended _ _ _ _ _ _ => cases hi
    | _ => cases e
theorem bare_asleep {G : Array GenState} (h : AllBare G) : AllBare (asleep G) := fun x hx => by
  unfold asleep at hx
  obtain ⟨y, hy, rfl⟩ := Array.mem_map.mp hx
  rw [bare_stuck]
  exact h y hy
/-- what was asleep stands as it was; all is bare if the new ones are -/
theorem RelG.at {G0 Y G : Array GenState} (r : RelG (orig G0) Y G) {g : Nat} {gs : GenState} (h : G0[g]? = some gs) (hs : susp gs = true) : G[g]? = some gs := (r.some_ g gs (by unfold orig; rw [h]; simp only [hs, if_true])).2.1
theorem RelG.bare {G0 Y G : Array GenState} (r : RelG (orig G0) Y G) (h0 : AllBare G0) (hY : AllBare Y) : AllBare G := fun x hx => by
  obtain ⟨i, hi, e⟩ := Array.mem_iff_getElem.mp hx
  have e' : G[i]? = some x := by rw [Array.getElem?_eq_getElem hi, e]
  cases q : orig G0 i with
  | some gs =>
    obtain ⟨_, h2, _⟩ := r.some_ i gs q
    rw [e'] at h2
    cases h2
    unfold orig at q
    split at q
    · rename_i y ey
      split at q
      · cases q
        exact h0 _ (Array.mem_of_getElem? ey)
      · cases q
    · cases q
  | none =>
    have h2 := r.none_ i q
    rw [e'] at h2
    exact hY x (Array.mem_of_getElem? h2.symm)
end GF
/-! One piece of a generator's run: up to its next yield, or its end. -/
namespace GF
open PySem PyProof.Rows L2
open Sem (wp)
def Seg1 (M : Model) (A : Around) (Φ : End → Shared → Prop) (c : Code) (t : Sem PySem.Fin) (fs : List Frame) (s : Shared) : Prop := ∀ Γ p, Γ.code = c → Γ.Woken A → ∃ e s', Runs M Γ p t fs s e s' ∧ Φ e s'
section
variable {M : Model} {A : Around} {Φ : End → Shared → Prop} {c : Code} {fs : List Frame} {s : Shared}
theorem s1_wrap {α : Type} {m : Sem α} {K : α → Sem PySem.Fin} {H : Value → Sem PySem.Fin} {gd lv} (h : wpAny M (A.over c fs) m (fun a s' => Seg1 M A Φ c (K a) fs s') (fun x s' => Seg1 M A Φ c (H x) fs s') s) : Seg1 M A Φ c (m.wrap K H gd lv) fs s := by
  rintro Γ p rfl hΓ
  exact runs_wrap_of_wp K H gd lv m (h (Γ.over fs) p (hΓ.over fs)) (fun a p' s' h' => h' Γ p' rfl hΓ) (fun x p' s' h' => h' Γ p' rfl hΓ)
theorem s1_bind {α : Type} {m : Sem α} {K : α → Sem PySem.Fin} (h : wpAny M (A.over c fs) m (fun a s' => Seg1 M A Φ c (K a) fs s') (fun x s' => Seg1 M A Φ c (.raise x) fs s') s) : Seg1 M A Φ c (m >>= K) fs s := by
  rw [Sem.bind_eq_wrap']; exact s1_wrap h
theorem s1_bind_wrap {α β : Type} {m : Sem α} {K : α → Sem β} {K' : β → Sem PySem.Fin} {H' : Value → Sem PySem.Fin} {gd lv} (h : wpAny M (A.over c fs) m (fun a s' => Seg1 M A Φ c ((K a).wrap K' H' gd lv) fs s') (fun x s' => Seg1 M A Φ c (H' x) fs s') s) :
    Seg1 M A Φ c ((m >>= K).wrap K' H' gd lv) fs s := by
  rw [Sem.bind_eq_wrap', Sem.wrap_wrap]
  exact s1_wrap h
theorem s1_at {p' : Pos} {k : Unit → Sem PySem.Fin} (h : Seg1 M A Φ c (k ()) fs s) : Seg1 M A Φ c (.at p' k) fs s :=
  s1_wrap (m := standAt p') (K := k) (H := .raise) (gd := id) (lv := id) (wpAny_standAt h)
theorem s1_point {l : List Value} {k : Unit → Sem PySem.Fin} (h : Seg1 M A Φ c (k ()) fs s) : Seg1 M A Φ c (.point l k) fs s :=
  s1_wrap (m := point) (K := k) (H := .raise) (gd := id) (lv := fun _ => l) (wpAny_point h)
theorem s1_call {c' : Code} {h g l} {k : Result → Sem PySem.Fin} (hc : ∀ p, Seg1 M A Φ c' (M.den c') (.ret k h g l c p [] :: fs) s) : Seg1 M A Φ c (.call c' h g l k) fs s := by
  rintro Γ p rfl hΓ
  obtain ⟨e, s', hr, he⟩ := hc p (Γ.goto c') p rfl (hΓ.goto c')
  exact ⟨e, s', runs_call_seg hr, he⟩
theorem s1_leaf {k h g l c₁ p₁ kp} (r : Result) (hk : Seg1 M A Φ c₁ (k r) fs s) : Seg1 M A Φ c (leafOf r) (.ret k h g l c₁ p₁ kp :: fs) s := by
  rintro Γ p rfl hΓ
  obtain ⟨e, s', hr, he⟩ := hk (Γ.goto c₁) p₁ rfl (hΓ.goto c₁)
  exact ⟨e, s', Runs.pop r hr, he⟩
theorem s1_again {c' : Code} (hq : c'.quiet = true) (hc : Seg1 M A Φ c' (M.den c') fs s) : Seg1 M A Φ c (.pure (.again c')) fs s := by
  rintro Γ p rfl hΓ
  obtain ⟨e, s', hr, he⟩ := hc (Γ.goto c') p rfl (hΓ.goto c')
  exact ⟨e, s', Runs.head (c₁ := c') (fun _ _ x => .again hq x) hr, he⟩
theorem s1_end (r : Result) (h : Φ (.ret r) s) : Seg1 M A Φ c (leafOf r) [] s := by
  rintro Γ p rfl _
  exact ⟨.ret r, s, Runs.leaf r, h⟩
theorem s1_yield {v g l} {k : Resume → Sem PySem.Fin} (hfs : splitAtGen fs = none) (h : ∀ p, Φ (.susp v g l k c p fs) s) : Seg1 M A Φ c (.yield v g l k) fs s := by
  rintro Γ p rfl _
  exact ⟨_, s, Runs.yield' fs hfs, h p⟩
end
/-- a state goes on by r -/
def Goes1 (M : Model) (A : Around) (Φ : End → Shared → Prop) (gs : GenState) (r : Resume) (s : Shared) : Prop := match gs with
  | .fresh c => r = .send .none ∧ Seg1 M A Φ c (M.den c) [] s
  | .suspended k _ c _ fs _ => Seg1 M A Φ c (k r) fs s
  | _ => False
theorem resume1 {M : Model} {A : Around} {Φ : End → Shared → Prop} {E : Value → Shared → Prop} {s : Shared} {g : Nat} {gs : GenState} {r : Resume} {l : List Value} {α : Type} {k : GenResult → Sem α} {Q : α → Shared → Prop} (hg : s.gens[g]? = some gs)
    (hgo : Goes1 M A Φ gs r (s.setGen g .running)) (hΦ : ∀ e s₁, Φ e s₁ → e.quiet = true ∧ wpAny M A (k e.result) Q E (s₁.setGen g e.genState)) : wpAny M A (.resume g r l k) Q E s := by
  intro Γ p hΓ
  rw [Sem.wp_resume]
  have hB : ∀ c, (Γ.wake c p).Woken A := fun c => hΓ.wake c p
  cases gs with
  | fresh c =>
    obtain ⟨rfl, hs⟩ := hgo
    obtain ⟨e₁, s₁, hr, he⟩ := hs (Γ.wake c p) p rfl (hB c)
    obtain ⟨h1, h2⟩ := hΦ e₁ s₁ he
    exact ⟨_, _, by unfold Wakes; rw [hg]; exact ⟨e₁, s₁, hr, h1, rfl, rfl⟩, h2 Γ p hΓ⟩
  | suspended k₀ l₀ c₀ p₀ fs₀ cl =>
    obtain ⟨e₁, s₁, hr, he⟩ := hgo (Γ.wake c₀ p) p₀ rfl (hB c₀)
    obtain ⟨h1, h2⟩ := hΦ e₁ s₁ he
    exact ⟨_, _, by unfold Wakes; rw [hg]; exact ⟨e₁, s₁, hr, h1, rfl, rfl⟩, h2 Γ p hΓ⟩
  | running => exact hgo.elim
  | finished => exact hgo.elim
/-- next(g): a yield, or the end -/
theorem next1 {P : Program} {w : World} {A : Around} {E : Value → Shared → Prop} {s : Shared} {a : Addr} {g : Nat} {gs : GenState} {Φ : End → Shared → Prop} {Q : Option Value → Shared → Prop} (hh : A.handled = none) (hl : s.heap.NoLimit) (hroom : A.depth < recursionLimit) (hg : s.heap.IsGen a g) (hgs : s.gens[g]? = some gs)
    (hgo : Goes1 (model P w) A.in1 Φ gs (.send .none) (s.setGen g .running))
    (hΦ : ∀ e s₁, Φ e s₁ → e.quiet = true ∧ match e with
      | .ret r => (r = .ok (.ret .none) ∨ r = .ok .next) ∧ ∀ h', (∀ b o, s₁.heap.get? b = some o → h'.get? b = some o) → Q none { s₁.setGen g .finished with heap := h' }
      | .susp v .. => Q (some v) (s₁.setGen g e.genState)) : wpAny (model P w) A (pyNext (.ref a)) Q E s := by
  unfold pyNext
  refine wpAny_bind (wpAny_attempt (wpAny_callSpecial?_slot (name := Str.ofString "__next__") hg.typeIs slot_gen_next
    (wpAny_call_entry slot_gen_next hg.typeIs entry_gen_next ?_ (args_gen_next _))))
  show wpAny _ A.in1 (Builtin.Generator.genWake (.ref a) (.send .none)) _ _ s
  unfold Builtin.Generator.genWake
  refine wpAny_bind (wpAny_holding (wpAny_genNumber hg (wpAny_bind (wpAny_genState hgs ?_))))
  cases gs with
  | running => exact hgo.elim
  | finished => exact hgo.elim
  | _ =>
    refine wpAny_bind (wpAny_roomToWake hl hroom ?_)
    show wpAny _ A.in1 (.resume g (.send .none) [] _) _ _ s
    refine resume1 hgs hgo fun e s₁ he => ?_
    obtain ⟨hq, he⟩ := hΦ e s₁ he
    refine ⟨hq, ?_⟩
    cases e with
    | ret r =>
      obtain ⟨hr, hp⟩ := he
      have hres : End.result (.ret r) = .returned .none := by
        rcases hr with hr | hr <;> rw [hr] <;> rfl
      first | rw [hres] | simp only [hres]
      show wpAny _ A.in1 (newExc (.type "StopIteration") [] >>= _) _ _ _
      refine wpAny_bind ?_
      simp only [newExc, newTuple]
      refine wpAny_bind (wpAny_newObj_type ?_ (by size_fits))
      refine wpAny_bind (m := firstArgMember _ _) (wpAny_of_eq (a := Value.none) (by first | rfl | (simp only [firstArgMember]; rfl)) ?_)
      refine wpAny_newObj_type ?_ (by size_fits)
      simp only [raiseNew]
      refine wpAny_bind (wpAny_bind (wpAny_handled ?_))
      first | rw [show A.in1.handled = none from hh] | rw [hh]
      refine wpAny_throw ?_
      refine wpAny_bind (wpAny_isInstance (T := "StopIteration") (b := true) ⟨_, Heap.get?_push_size _ rfl, rfl⟩ isSubtype_stop ?_)
      exact wpAny_pure (hp _ fun b o hb => Heap.get?_push_of_some _ (Heap.get?_push_of_some _ hb))
    | susp v g₀ l₀ k₀ c₀ p₀ fs₀ => exact wpAny_pure ⟨v, rfl, wpAny_pure he⟩
end GF
/-! for x in ITER: yield x -/
namespace GF
open PySem PyProof.Rows L2
open Sem (wp)
section
variable {prog : Program} {w : World} {A : Around} {Φ : End → Shared → Prop} {c : Code} {fs : List Frame} {s : Shared} {env : Env} {K : Flow → Sem PySem.Fin} {H : Value → Sem PySem.Fin} {gd : Bool → Bool} {lv : List Value → List Value}
theorem s1_execs_nil {M : Model} (h : Seg1 M A Φ c (K .next) fs s) : Seg1 M A Φ c ((execs [] env).wrap K H gd lv) fs s := h
theorem s1_execs_cons {M : Model} {st : Stmt} {rest : List Stmt} (h : Seg1 M A Φ c ((exec st env).wrap (fun f => match f with | .next => (execs rest env).wrap K H gd lv | f => K f) H gd lv) fs s) : Seg1 M A Φ c ((execs (st :: rest) env).wrap K H gd lv) fs s := by
  rw [execs_cons_wrap]; exact h
theorem s1_func {body : List Stmt} (h : Seg1 (model prog w) A Φ (.func body env) ((execs body env).wrap (fun f => .pure (.done (.ret (match f with | .ret v => v | _ => .none)))) (fun e => (leaving env e).wrap (fun _ => .raise e) .raise id id) id id) fs s) :
    Seg1 (model prog w) A Φ (.func body env) ((model prog w).den (.func body env)) fs s := by
  show Seg1 _ A Φ _ (.point [] fun _ => ((execs body env).onRaise (leaving env)) >>= _) fs s
  refine s1_point ?_
  rw [Sem.onRaise_eq_wrap, Sem.bind_eq_wrap', Sem.wrap_wrap]
  rw [Sem.wrap_congr (execs body env) _ _ (K' := fun f => .pure (.done (.ret (match f with | .ret v => v | _ => .none))))
    (H' := fun e => (leaving env e).wrap (fun _ => .raise e) .raise id id) (fun f => by cases f <;> rfl)
    (fun e => by rw [Sem.bind_eq_wrap, Sem.wrap_wrap]; rfl)]
  exact h
/-- what stands under a loop's code -/
def ownFrame (env : Env) (K : Flow → Sem PySem.Fin) (H : Value → Sem PySem.Fin) (gd : Bool → Bool) (lv : List Value → List Value) (c : Code) (p : Pos) : Frame :=
  .ret (fun r => ((match r with | .ok f => (.pure f : Sem Flow) | .error e => .raise e).onRaise (cameBack env)).wrap K H gd lv) none (gd false) (lv []) c p []
theorem s1_For {target iter : Expr} {body orelse : List Stmt} {pos : Pos} {M : Model}
    (h : wpAny M (A.over c fs) (eval iter env) (fun x s₁ => wpAny M (A.over c fs) (pyIter x) (fun it s₂ => ∀ p, Seg1 M A Φ (.forLoop target it body orelse env) (M.den (.forLoop target it body orelse env)) (ownFrame env K H gd lv c p :: fs) s₂) (fun x s' => Seg1 M A Φ c (H x) fs s') s₁) (fun x s' => Seg1 M A Φ c (H x) fs s') s)
    (hs : ∀ x, foldedSetIterable iter env x = pure x := by intro _; rfl) : Seg1 M A Φ c ((exec (.For target iter body orelse pos) env).wrap K H gd lv) fs s := by
  rw [exec_For]
  refine s1_bind_wrap (wpAny_standAt (s1_bind_wrap (wpAny_mono h (fun x s₁ h₁ => ?_) fun _ _ z => z)))
  refine s1_bind_wrap (wpAny_of_eq (hs x) (s1_bind_wrap (wpAny_standAt (s1_bind_wrap (wpAny_holding (wpAny_mono h₁ (fun it s₂ h₂ => ?_) fun _ _ z => z))))))
  exact s1_call h₂
def loopK (target : Expr) (it : Value) (body orelse : List Stmt) (env : Env) : Flow → Sem PySem.Fin := fun f => match f with
  | .next | .cont => .pure (.again (.forLoop target it body orelse env))
  | .brk => .pure (.done .next)
  | .ret v => .pure (.done (.ret v))
def loopH (env : Env) : Value → Sem PySem.Fin := fun e => (do noteFrame e env; theTreesLotGoes e : Sem Unit).wrap (fun _ => .raise e) .raise id id
theorem s1_forLoop {target : Expr} {it : Value} {body orelse : List Stmt}
    (h : wpAny (model prog w) (A.over (.forLoop target it body orelse env) fs) (pyNext it) (fun r s₁ => match r with
      | none => Seg1 (model prog w) A Φ (.block orelse env) ((model prog w).den (.block orelse env)) fs s₁
      | some v => wpAny (model prog w) (A.over (.forLoop target it body orelse env) fs) (letOwnedTupleGo target it v) (fun _ s₂ => wpAny (model prog w) (A.over (.forLoop target it body orelse env) fs) (assign target env v) (fun _ s₃ =>
        Seg1 (model prog w) A Φ (.forLoop target it body orelse env) ((execs body env).wrap (loopK target it body orelse env) (loopH env) id id) fs s₃) (fun _ _ => False) s₂) (fun _ _ => False) s₁) (fun _ _ => False) s) :
    Seg1 (model prog w) A Φ (.forLoop target it body orelse env) ((model prog w).den (.forLoop target it body orelse env)) fs s := by
  show Seg1 _ A Φ _ ((forTurn target it body orelse env).onRaise (fun x => do noteFrame x env; theTreesLotGoes x)) fs s
  unfold forTurn
  rw [Sem.onRaise_eq_wrap]
  refine s1_bind_wrap (wpAny_standAt (s1_bind_wrap (wpAny_onRaise (wpAny_mono h (fun r s₁ h₁ => ?_) fun _ _ z => z.elim))))
  cases r with
  | none => exact s1_again rfl h₁
  | some v =>
    refine s1_bind_wrap (wpAny_mono h₁ (fun _ s₂ h₂ => ?_) fun _ _ z => z.elim)
    refine s1_bind_wrap (wpAny_mono h₂ (fun _ s₃ h₃ => ?_) fun _ _ z => z.elim)
    rw [Sem.bind_eq_wrap', Sem.wrap_wrap]
    rw [Sem.wrap_congr (execs body env) _ _ (K' := loopK target it body orelse env) (H' := loopH env)
      (fun f => by cases f <;> rfl)
      (fun e => by first | exact Sem.bind_eq_wrap _ _ | (show (do noteFrame e env; theTreesLotGoes e : Sem Unit).bind (fun _ => .raise e) = _; rw [Sem.bind_eq_wrap]; rfl))]
    exact h₃
/-- a yield: what its continuation does -/
theorem s1_Yield {M : Model} {e : Expr} {ypos pos : Pos} (hfs : splitAtGen fs = none)
    (h : wpAny M (A.over c fs) (eval e env) (fun v s' => ∀ (l : List Value) (k : Resume → Sem PySem.Fin) (p : Pos), (∀ A' Φ' s'', Seg1 M A' Φ' c (K .next) fs s'' → Seg1 M A' Φ' c (k (.send .none)) fs s'') → Φ (.susp v (gd false) l k c p fs) s') (fun _ _ => False) s)
    (hco : env.scope.isCoroutine = false := by rfl) (hi : interactive env = false := by rfl) : Seg1 M A Φ c ((exec (.Expr (.Yield (some e) ypos) pos) env).wrap K H gd lv) fs s := by
  rw [exec_Expr env _ pos hi rfl]
  show Seg1 M A Φ c (.at pos fun _ => ((eval e env >>= fun v => (standAt ypos >>= fun _ => yieldOut env v)) >>= fun x =>
    dropValue (.Yield (some e) ypos) pos x).wrap K H gd lv) fs s
  have hy : ∀ v, yieldOut env v = yieldValue v := fun v => by simp only [yieldOut, hco, Bool.false_eq_true, if_false]
  simp only [hy]
  refine s1_at ?_
  rw [Sem.bind_eq_wrap', Sem.bind_eq_wrap', Sem.wrap_wrap, Sem.wrap_wrap]
  refine s1_wrap (wpAny_mono h (fun v s' h' => ?_) fun _ _ x => x.elim)
  refine s1_at (s1_yield hfs fun p => h' _ _ p fun A' Φ' s'' hx => ?_)
  exact hx
end
end GF
namespace GF
open PySem PyProof.Rows L2
open Sem (wp)
/-- the text of such a def -/
structure GTxt where
  xn : Str
  iter : Expr
  px : Pos
  py : Pos
  yp : Pos
  ep : Pos
  fp : Pos
abbrev GTxt.tgt (t : GTxt) : Expr := .Name t.xn t.px
abbrev GTxt.inner (t : GTxt) : List Stmt := [.Expr (.Yield (some (.Name t.xn t.py)) t.yp) t.ep]
abbrev GTxt.body (t : GTxt) : List Stmt := [.For t.tgt t.iter t.inner [] t.fp]
def gK0 : Flow → Sem PySem.Fin := fun f => .pure (.done (.ret (match f with | .ret v => v | _ => .none)))
def gH0 (env : Env) : Value → Sem PySem.Fin := fun e => (leaving env e).wrap (fun _ => .raise e) .raise id id
def gK1 (env : Env) : Flow → Sem PySem.Fin := fun f => match f with
  | .next => (execs [] env).wrap gK0 (gH0 env) id id
  | f => gK0 f
def gFr (t : GTxt) (env : Env) (p : Pos) : List Frame := [ownFrame env (gK1 env) (gH0 env) id id (.func t.body env) p]
/-- asleep behind a yield of the loop over it -/
def Asl (M : Model) (t : GTxt) (env : Env) (it : Value) (gs : GenState) : Prop := susp gs = true ∧ gs.bare = true ∧ ∃ p, ∀ A' Φ' s'', Seg1 M A' Φ' (.forLoop t.tgt it t.inner [] env) (M.den (.forLoop t.tgt it t.inner [] env)) (gFr t env p) s'' → Goes1 M A' Φ' gs (.send .none) s''
/-- what a turn is to reach -/
def TurnTo (M : Model) (A : Around) (t : GTxt) (env : Env) (it : Value) (Φ : End → Shared → Prop) (r : Option Value) (s₁ : Shared) : Prop := match r with
  | none => Φ (.ret (.ok (.ret .none))) s₁
  | some v => wpAny M A (letOwnedTupleGo t.tgt it v) (fun _ s₂ => wpAny M A (assign t.tgt env v) (fun _ s₃ => wpAny M A (eval (.Name t.xn t.py) env) (fun u s₄ =>
      ∀ g l k c p fs, End.quiet (.susp u g l k c p fs) = true → Asl M t env it (End.genState (.susp u g l k c p fs)) → Φ (.susp u g l k c p fs) s₄) (fun _ _ => False) s₃) (fun _ _ => False) s₂) (fun _ _ => False) s₁
section
variable {prog : Program} {w : World} {A : Around} {Φ : End → Shared → Prop} {s : Shared} {env : Env} {t : GTxt} {it : Value} {p : Pos}
theorem over_gFr : A.over (.forLoop t.tgt it t.inner [] env) (gFr t env p) = A.deeper env := (GenW.over_loop rfl rfl).trans GenW.over_func
theorem s1_turn (hco : env.scope.isCoroutine = false) (hi : interactive env = false) (h : wpAny (model prog w) (A.deeper env) (pyNext it) (TurnTo (model prog w) (A.deeper env) t env it Φ) (fun _ _ => False) s) :
    Seg1 (model prog w) A Φ (.forLoop t.tgt it t.inner [] env) ((model prog w).den (.forLoop t.tgt it t.inner [] env)) (gFr t env p) s := by
  refine s1_forLoop ?_
  rw [over_gFr]
  refine wpAny_mono h (fun r s₁ h₁ => ?_) fun _ _ z => z
  cases r with
  | none =>
    show Seg1 _ A Φ (.block [] env) ((model prog w).den (.block [] env)) (gFr t env p) s₁
    have e : Seg1 (model prog w) A Φ (.block [] env) (leafOf (.ok .next)) (gFr t env p) s₁ := s1_leaf (.ok .next) (s1_end (.ok (.ret .none)) h₁)
    first
      | exact e
      | (rw [Sem.onRaise_eq_wrap]; exact e)
  | some v =>
    refine wpAny_mono h₁ (fun _ s₂ h₂ => wpAny_mono h₂ (fun _ s₃ h₃ => ?_) fun _ _ z => z) fun _ _ z => z
    refine s1_execs_cons (s1_Yield rfl ?_ hco hi)
    rw [over_gFr]
    refine wpAny_mono h₃ (fun u s₄ h₄ l k pp hk => ?_) fun _ _ z => z
    refine h₄ _ _ _ _ _ _ rfl ⟨rfl, rfl, p, fun A' Φ' s'' hx => ?_⟩
    exact hk A' Φ' s'' (s1_execs_nil (s1_again rfl hx))
theorem goes_wake {gs : GenState} (hco : env.scope.isCoroutine = false) (hi : interactive env = false) (a : Asl (model prog w) t env it gs) (h : wpAny (model prog w) (A.deeper env) (pyNext it) (TurnTo (model prog w) (A.deeper env) t env it Φ) (fun _ _ => False) s) : Goes1 (model prog w) A Φ gs (.send .none) s := by
  obtain ⟨_, _, p, k⟩ := a
  exact k A Φ s (s1_turn hco hi h)
theorem goes_first (hco : env.scope.isCoroutine = false) (hi : interactive env = false) (hs : ∀ x, foldedSetIterable t.iter env x = pure x)
    (h : wpAny (model prog w) (A.deeper env) (eval t.iter env) (fun x s₁ => wpAny (model prog w) (A.deeper env) (pyIter x) (fun it s₂ => wpAny (model prog w) (A.deeper env) (pyNext it) (TurnTo (model prog w) (A.deeper env) t env it Φ) (fun _ _ => False) s₂) (fun _ _ => False) s₁) (fun _ _ => False) s) :
    Goes1 (model prog w) A Φ (.fresh (.func t.body env)) (.send .none) s := by
  refine ⟨rfl, s1_func (s1_execs_cons (s1_For ?_ hs))⟩
  rw [GenW.over_func]
  exact wpAny_mono h (fun x s₁ h₁ => wpAny_mono h₁ (fun itv s₂ h₂ p => s1_turn hco hi h₂) fun _ _ z => z.elim) fun _ _ z => z.elim
end
end GF
namespace GF
open PySem PySem.Spec PyProof.Rows L2
/-! ### a heap cut at an address -/
theorem cut_ex (h : Heap) (L : Nat) (hL : L ≤ h.objs.size) : ∃ hc : Heap, hc.objs.size = L ∧ (∀ b, b < L → hc.get? b = h.get? b) ∧ ∀ b, L ≤ b → hc.get? b = none := by
  have e : ∀ b, (h.objs.extract 0 L)[b]? = if b < L then h.objs[b]? else none := fun b => by
    rw [Array.getElem?_extract]
    by_cases hb : b < L
    · rw [if_pos hb, if_pos (by omega), Nat.zero_add]
    · rw [if_neg hb, if_neg (by omega)]
  refine ⟨{ h with objs := h.objs.extract 0 L }, by show (h.objs.extract 0 L).size = L; rw [Array.size_extract]; omega, fun b hb => ?_, fun b hb => ?_⟩
  · unfold Heap.get?
    show (match (h.objs.extract 0 L)[b]? with | some ⟨_, _, .freed, _⟩ => none | x => x) = _
    rw [e b, if_pos hb]
    rfl
  · unfold Heap.get?
    show (match (h.objs.extract 0 L)[b]? with | some ⟨_, _, .freed, _⟩ => none | x => x) = _
    rw [e b, if_neg (by omega)]
theorem funs_cut {h h' base : Heap} : ∀ {l : List Env}, (∀ b ∈ frs l, ∀ o, h.get? b = some o → h'.get? b = some o) → h.FunFrames base l → h'.FunFrames base l
  | [], _, _ => trivial
  | env :: rest, k, ⟨hk, ⟨L, o, hf, hn, ho, hd⟩, hr⟩ => ⟨hk, ⟨L, o, hf, hn, k L (List.mem_filterMap.mpr ⟨env, List.mem_cons_self, hf⟩) o ho, hd⟩, funs_cut (fun b hb => k b (by
      obtain ⟨e, he, q⟩ := List.mem_filterMap.mp hb
      exact List.mem_filterMap.mpr ⟨e, List.mem_cons_of_mem _ he, q⟩)) hr⟩
/-- a generator def's scope: no cell -/
structure GSc (N : List Str) (sc : Scope) : Prop where
  kind : sc.kind = .function
  co : sc.isCoroutine = false
  nd : N.Nodup
  nocell : ∀ n, cellsFrom n sc.names [] = []
  nofree : ∀ y ∈ sc.names, y.2 ≠ .free ∧ y.2 ≠ .cell
abbrev gX (P : Program) (w : World) (K : PySem.W.Frag) (mg : Str → Option Value) (base : Heap) (N : List Str) (qual : Str) (scope : Scope) (f : Addr) (cdv : Value) (A : Around) (outer : List Env) (sc : Shared) (Hc : Hp) : Cx := (cxOf C8.CX0 P w K mg base N qual scope f cdv A outer sc Hc C8.E0).nox
section
variable {P : Program} {w : World} {K : PySem.W.Frag} {mg : Str → Option Value} {base : Heap} {N : List Str} {qual : Str} {scope : Scope} {f : Addr} {cdv : Value} {A : Around} {outer : List Env} {s sc : Shared} {H Hc : Hp} {σ : L2.St} {pins : List (Addr × Obj)}
theorem gen_inv (S : GSc N scope) (hd : A.handled = none) (e0 : Env0 P w K mg base A outer s H) (eos : s.os = sc.os) (h1 : ∀ b o, sc.heap.get? b = some o → b < sc.heap.objs.size ∧ s.heap.get? b = some o) (h2 : ∀ b o, b < sc.heap.objs.size → s.heap.get? b = some o → sc.heap.get? b = some o)
    (hH : ∀ b, b < sc.heap.objs.size → Hc b = H b) (hH' : ∀ b, sc.heap.objs.size ≤ b → Hc b = none) (hbase : base.objs.size ≤ sc.heap.objs.size) (hfr : ∀ b ∈ frs outer, b < sc.heap.objs.size)
    (hloc : ∃ m, s.heap.Ns sc.heap.objs.size m ∧ ∀ (i : Nat) (x : Str) (v : V), N[i]? = some x → σ[i]? = some (some v) → Vis scope x → ∃ u, RelV v u ∧ (envOfC qual scope sc.heap.objs.size f cdv).kindOf x = some .local ∧ m x = some u)
    (hfree : H sc.heap.objs.size = none) (hpin : ∀ p ∈ pins, s.heap.get? p.1 = some p.2 ∧ H p.1 = none ∧ p.1 ≠ sc.heap.objs.size ∧ p.1 ∉ frs outer ∧ ∀ v, p.2.data ≠ .cell v) (hlen : σ.length = N.length) :
    Inv (gX P w K mg base N qual scope f cdv A outer sc Hc) pins σ H s := by
  have nc : (envOfC qual scope sc.heap.objs.size f cdv).cells = [] := S.nocell _
  have noc : ∀ {x c}, (envOfC qual scope sc.heap.objs.size f cdv).cells.lookup x = some c → False := fun {x c} h => by rw [nc] at h; cases h
  have noA : ∀ b : Addr, b ∉ (gX P w K mg base N qual scope f cdv A outer sc Hc).ex := fun b z => absurd (show b ∈ ([] : List Addr) from z) (by simp)
  refine ⟨⟨e0.mod, S.kind, rfl, rfl, Nat.le_refl _, fun y z c q1 _ => (noc q1).elim, fun y hy => ?_, fun y c _ q => (noc q).elim, fun _ => hd, Around.frames_deeper e0.frames, .inr ⟨rfl, rfl⟩, fun b z => absurd z (noA b), fun b o e => ?_, hbase, fun b _ _ => noA b, fun b z => absurd z (noA b), funs_cut (fun b hb o e => h2 b o (hfr b hb) e) e0.funs, fun b hb => ?_⟩,
    eos, e0.bare, ⟨fun b o e _ _ _ => (h1 b o e).2, fun b o e _ _ _ => ⟨o.slots, (h1 b o e).2⟩, fun b o e n _ => ?_, fun b o e _ => ⟨o, (h1 b o e).2⟩, fun b xs e => ?_, fun b o u e => ?_, fun b ps e => ⟨#[], ?_⟩⟩, ?_, fun y c q => (noc q).elim, hfree, fun y c q => (noc q).elim, fun p hp => hpin p hp, e0.hok, hlen⟩
  · have hy : scope.names.lookup y = some .cell ∨ scope.names.lookup y = some .free := hy
    rcases hy with hy | hy
    · exact absurd rfl (S.nofree _ (PySem.mem_of_lookup hy)).2
    · exact absurd rfl (S.nofree _ (PySem.mem_of_lookup hy)).1
  · obtain ⟨q1, q2⟩ := e0.bs b o e
    have hb : b < sc.heap.objs.size := Nat.lt_of_lt_of_le (Heap.lt_size e) hbase
    exact ⟨h2 b o hb q1, by show Hc b = none; rw [hH b hb]; exact q2⟩
  · show Hc b = none
    rw [hH b (hfr b hb)]
    exact e0.frf b hb
  · have e2 := (h1 b o e).1
    rw [← hH b e2]
    exact n
  · have lt : b < sc.heap.objs.size := by
      by_cases h : b < sc.heap.objs.size
      · exact h
      · have z := hH' b (Nat.le_of_not_lt h)
        rw [show Hc b = _ from e] at z; cases z
    rw [← hH b lt]; exact e
  · have lt : b < sc.heap.objs.size := by
      by_cases h : b < sc.heap.objs.size
      · exact h
      · have z := hH' b (Nat.le_of_not_lt h)
        rw [show Hc b = _ from e] at z; cases z
    rw [← hH b lt]; exact e
  · have lt : b < sc.heap.objs.size := by
      by_cases h : b < sc.heap.objs.size
      · exact h
      · have z := hH' b (Nat.le_of_not_lt h)
        rw [show Hc b = _ from e] at z; cases z
    rw [← hH b lt, show Hc b = _ from e]; simp
  · obtain ⟨m, hn, hl⟩ := hloc
    refine ⟨m, hn, fun i x v q1 q2 q3 => ?_⟩
    obtain ⟨u, r, q4, q5⟩ := hl i x v q1 q2 q3
    exact ⟨u, r, .inl ⟨q4, q5⟩⟩
end
end GF
namespace GF
open PySem PySem.Spec PyProof.Rows L2
def isCell (o : Obj) : Bool := match o.data with
  | .cell _ => true
  | _ => false
theorem notCell {o : Obj} (h : isCell o = false) : ∀ v, o.data ≠ .cell v := fun v e => by unfold isCell at h; rw [e] at h; cases h
/-- all that stands from L on, but L, fp, the cells and what is tracked -/
def pinsFrom (s : Shared) (H : Hp) (L : Addr) (fp : List Addr) : List (Addr × Obj) := (List.range s.heap.objs.size).filterMap fun b => if L < b ∧ b ∉ fp then (match s.heap.get? b, H b with
  | some o, none => if isCell o = true then none else some (b, o)
  | _, _ => none) else none
def cellsAt (s : Shared) (H : Hp) (L : Addr) : List Addr := (List.range s.heap.objs.size).filter fun b => (decide (L < b) && (H b).isNone) && (match s.heap.get? b with
  | some o => isCell o
  | none => false)
section
variable {s : Shared} {H : Hp} {L : Addr} {fp : List Addr}
theorem mem_pins {b : Addr} {o : Obj} (h1 : L < b) (h2 : b ∉ fp) (h3 : s.heap.get? b = some o) (h4 : H b = none) (h5 : isCell o = false) : (b, o) ∈ pinsFrom s H L fp := by
  refine List.mem_filterMap.mpr ⟨b, List.mem_range.mpr (Heap.lt_size h3), ?_⟩
  rw [if_pos ⟨h1, h2⟩, h3, h4]
  simp only [h5, Bool.false_eq_true, if_false]
theorem of_pins {p : Addr × Obj} (h : p ∈ pinsFrom s H L fp) : L < p.1 ∧ p.1 ∉ fp ∧ s.heap.get? p.1 = some p.2 ∧ H p.1 = none ∧ isCell p.2 = false := by
  obtain ⟨b, _, e⟩ := List.mem_filterMap.mp h
  split at e
  · rename_i c
    cases h3 : s.heap.get? b with
    | none => rw [h3] at e; cases e
    | some o =>
      cases h4 : H b with
      | some u => rw [h3, h4] at e; cases e
      | none =>
        rw [h3, h4] at e
        simp only at e
        split at e
        · cases e
        · rename_i h5
          have e' := Option.some.inj e
          subst e'
          exact ⟨c.1, c.2, h3, h4, by cases q : isCell o with | false => rfl | true => exact absurd q h5⟩
  · cases e
theorem of_cells {b : Addr} (h : b ∈ cellsAt s H L) : L < b ∧ H b = none ∧ ∃ o, s.heap.get? b = some o ∧ isCell o = true := by
  obtain ⟨_, e⟩ := List.mem_filter.mp h
  obtain ⟨e1, e2⟩ := Bool.and_eq_true_iff.mp e
  obtain ⟨e3, e4⟩ := Bool.and_eq_true_iff.mp e1
  refine ⟨of_decide_eq_true e3, Option.isNone_iff_eq_none.mp e4, ?_⟩
  cases q : s.heap.get? b with
  | none => rw [q] at e2; cases e2
  | some o => rw [q] at e2; exact ⟨o, rfl, e2⟩
theorem mem_cells {b : Addr} {o : Obj} (h1 : L < b) (h4 : H b = none) (h2 : s.heap.get? b = some o) (h3 : isCell o = true) : b ∈ cellsAt s H L := by
  refine List.mem_filter.mpr ⟨List.mem_range.mpr (Heap.lt_size h2), ?_⟩
  rw [h2, h4]
  simp only [h3, Bool.and_true, Option.isNone_none]
  exact decide_eq_true h1
end
section
variable {P : Program} {w : World} {K : PySem.W.Frag} {mg : Str → Option Value} {base : Heap} {N : List Str} {qual : Str} {scope : Scope} {f : Addr} {cdv : Value} {A : Around} {outer : List Env} {s sc s1 s0 : Shared} {H H' Hc : Hp} {σ : L2.St} {fp : List Addr}
/-- behind a piece: what the consumer is told. s0: the state with the generator running -/
theorem un_piece (J : Inv (gX P w K mg base N qual scope f cdv A outer sc Hc) (pinsFrom s H sc.heap.objs.size fp) σ H' s1) (h2 : ∀ b o, b < sc.heap.objs.size → s.heap.get? b = some o → sc.heap.get? b = some o)
    (hH : ∀ b, b < sc.heap.objs.size → Hc b = H b) (hfr : ∀ b ∈ frs outer, b < sc.heap.objs.size) (hsame : ∀ b o, sc.heap.objs.size ≤ b → H b = some o → H' b = some o) :
    Un (frs outer) (sc.heap.objs.size :: (fp ++ cellsAt s H sc.heap.objs.size)) H H' s.heap s1.heap := by
  have noA : ∀ b : Addr, b ∉ (gX P w K mg base N qual scope f cdv A outer sc Hc).ex := fun b z => absurd (show b ∈ ([] : List Addr) from z) (by simp)
  have big : ∀ b o, s.heap.get? b = some o → H b = none → b ∉ sc.heap.objs.size :: (fp ++ cellsAt s H sc.heap.objs.size) → ¬ b < sc.heap.objs.size → s1.heap.get? b = some o ∧ H' b = none := fun b o e n hc hb => by
    have n1 : b ≠ sc.heap.objs.size := fun z => hc (by rw [z]; exact List.mem_cons_self)
    have lt : sc.heap.objs.size < b := Nat.lt_of_le_of_ne (Nat.le_of_not_lt hb) (Ne.symm n1)
    have n2 : b ∉ fp := fun z => hc (List.mem_cons_of_mem _ (List.mem_append_left _ z))
    have n3 : isCell o = false := by
      cases q : isCell o with
      | false => rfl
      | true => exact absurd (List.mem_cons_of_mem _ (List.mem_append_right _ (mem_cells lt n e q))) hc
    obtain ⟨q1, q2, _⟩ := J.pin (b, o) (List.mem_append_right _ (mem_pins lt n2 e n n3))
    exact ⟨q1, q2⟩
  refine ⟨fun b o e n hf hc => ?_, fun b o e n hf hc => ?_, fun b o e n hc => ?_, fun b o e hc => ?_, fun b xs e => ?_, fun b o u e => ?_, fun b ps e => ?_⟩
  · by_cases hb : b < sc.heap.objs.size
    · exact J.base.keep b o (h2 b o hb e) (by show Hc b = none; rw [hH b hb]; exact n) hf (noA b)
    · exact (big b o e n hc hb).1
  · have hb := hfr b hf
    exact J.base.slot b o (h2 b o hb e) (by show Hc b = none; rw [hH b hb]; exact n) hf (noA b)
  · by_cases hb : b < sc.heap.objs.size
    · exact J.base.free b o (h2 b o hb e) (by show Hc b = none; rw [hH b hb]; exact n) (noA b)
    · exact (big b o e n hc hb).2
  · by_cases hb : b < sc.heap.objs.size
    · exact J.base.there b o (h2 b o hb e) (noA b)
    · cases q : H b with
      | none => exact ⟨o, (big b o e q hc hb).1⟩
      | some u => exact objOk_get (J.hok b u (hsame b u (Nat.le_of_not_lt hb) q))
  · by_cases hb : b < sc.heap.objs.size
    · exact J.base.tups b xs (by show Hc b = _; rw [hH b hb]; exact e)
    · exact hsame b _ (Nat.le_of_not_lt hb) e
  · by_cases hb : b < sc.heap.objs.size
    · exact J.base.frzs b o u (by show Hc b = _; rw [hH b hb]; exact e)
    · exact hsame b _ (Nat.le_of_not_lt hb) e
  · by_cases hb : b < sc.heap.objs.size
    · exact J.base.tbls b ps (by show Hc b = _; rw [hH b hb]; exact e)
    · exact ⟨#[], by rw [hsame b _ (Nat.le_of_not_lt hb) e]; simp⟩
end
end GF
namespace GF
open PySem PySem.Spec PyProof.Rows L2
section
variable {P : Program} {w : World} {K : PySem.W.Frag} {mg : Str → Option Value} {base : Heap} {N : List Str} {qual : Str} {scope : Scope} {f : Addr} {cdv : Value} {A : Around} {outer : List Env} {s sc s1 s0 : Shared} {H H' Hc : Hp} {σ : L2.St} {fp : List Addr} {pins : List (Addr × Obj)}
  {t : GTxt} {J : It} {ita : Addr} {tn : Nat → Heap → Prop} {i ix : Nat} {Φ : End → Shared → Prop}
/-- a turn of the generator's loop, in its own context -/
theorem gen_turn (Ig : Inv (gX P w K mg base N qual scope f cdv A outer sc Hc) pins σ H s0) (T : Turn P w K t.tgt J fp ita tn) (st : tn i s0.heap) (hf : ∀ b ∈ fp, FpOk (gX P w K mg base N qual scope f cdv A outer sc Hc) pins H b) (nd : N.Nodup) (hN : N[ix]? = some t.xn) (hx : scope.names.lookup t.xn = some .local)
    (hdb : (t.xn == ("__debug__" : Str)) = false) (hcd : (t.xn == ("__classdict__" : Str)) = false)
    (dec : (J.stop i H ∧ ∀ s1, Inv (gX P w K mg base N qual scope f cdv A outer sc Hc) pins σ H s1 → Φ (.ret (.ok (.ret .none))) s1) ∨ (J.go i H ∧ ∀ x u H' s4 g l k c p fs, J.yld i H x H' → RelV x u → Inv (gX P w K mg base N qual scope f cdv A outer sc Hc) (pins ++ pinsAt fp s4.heap) (σ.set ix (some x)) H' s4 → tn (i + 1) s4.heap → (∀ b ∈ fp, H' b = none) →
      End.quiet (.susp u g l k c p fs) = true → Asl (model P w) t (gX P w K mg base N qual scope f cdv A outer sc Hc).env (.ref ita) (End.genState (.susp u g l k c p fs)) → Φ (.susp u g l k c p fs) s4)) :
    wpAny (model P w) (gX P w K mg base N qual scope f cdv A outer sc Hc).A (pyNext (.ref ita)) (TurnTo (model P w) (gX P w K mg base N qual scope f cdv A outer sc Hc).A t (gX P w K mg base N qual scope f cdv A outer sc Hc).env (.ref ita) Φ) (fun _ _ => False) s0 := by
  rcases dec with ⟨stop, k⟩ | ⟨go, k⟩
  · refine thn (T.done _ rfl rfl rfl rfl i pins s0 σ H (fun _ _ => False) Ig hf st stop) fun r s2 ⟨hr, I2⟩ => ?_
    subst hr
    exact k s2 I2
  · refine thn (T.item _ rfl rfl rfl rfl i pins s0 σ H (fun _ _ => False) Ig hf st go) fun r s2 ⟨u, hr, h2⟩ => ?_
    subst hr
    refine thn h2 fun _ s3 ⟨x, H3, I3, r3, y3, st3, fr3⟩ => ?_
    have hf3 : ∀ b ∈ fp, FpOk (gX P w K mg base N qual scope f cdv A outer sc Hc) pins H3 b := fun b hb => ⟨fr3 b hb, (hf b hb).2⟩
    have I3' := I3.pinned hf3 (T.obj _ _ st3)
    refine thn ((pg_name (X := gX P w K mg base N qual scope f cdv A outer sc Hc) (pos := t.px) (i := ix) nd hN (.inl hx) (.inr hx)).run _ s3 σ H3 x u (fun σ' H' => σ' = σ.set ix (some x) ∧ H' = H3) I3' r3 ⟨rfl, rfl⟩) fun _ s4 ⟨σ4, H4, I4, e4, e5⟩ => ?_
    subst e4 e5
    have hlt : ix < σ.length := by
      rw [I3.len]
      exact (List.getElem?_eq_some_iff.mp hN).1
    refine thn ((pe_var (X := gX P w K mg base N qual scope f cdv A outer sc Hc) (pos := t.py) (i := ix) hN (.inl hx) hdb hcd).run _ s4 (σ.set ix (some x)) H4 (fun v H' => v = x ∧ H' = H4) I4 ⟨x, by rw [List.getElem?_set_self hlt], rfl, rfl⟩) fun u5 s5 ⟨v5, H5, I5, r5, e6, e7⟩ => ?_
    subst e6 e7
    intro g l kk c p fs q1 q2
    have keep5 : ∀ b ∈ fp, ∀ o, s3.heap.get? b = some o → s5.heap.get? b = some o := fun b hb o e => (I5.pin (b, o) (List.mem_append_right _ (List.mem_append_right _ (mem_pinsAt hb e)))).1
    have st5 : tn (i + 1) s5.heap := T.keep _ _ _ st3 keep5
    refine k v5 u5 H5 s5 g l kk c p fs y3 r5 (I5.pins_of fun q hq => ?_) st5 fr3 q1 q2
    rcases List.mem_append.mp hq with z | z
    · exact I5.pin q (List.mem_append_right _ (List.mem_append_left _ z))
    · obtain ⟨hb, e⟩ := of_pinsAt z
      obtain ⟨o3, e3, d3⟩ := T.obj _ _ st3 q.1 hb
      have e' := keep5 q.1 hb o3 e3
      rw [e] at e'
      have eo : q.2 = o3 := Option.some.inj e'
      have z3 := I5.pin (q.1, o3) (List.mem_append_right _ (List.mem_append_right _ (mem_pinsAt hb e3)))
      rw [eo]
      exact z3
end
end GF
namespace GF
open PySem PySem.Spec PyProof.Rows L2
theorem un_grow {fs ex : List Addr} {H H' : Hp} {h h1 h' : Heap} (u : Un fs ex H H' h h1) (k : ∀ b o, h1.get? b = some o → h'.get? b = some o) : Un fs ex H H' h h' :=
  ⟨fun b o e n a c => k b o (u.keep b o e n a c), fun b o e n a c => let ⟨sl, q⟩ := u.slot b o e n a c; ⟨sl, k _ _ q⟩, u.free, fun b o e c => let ⟨o', q⟩ := u.there b o e c; ⟨o', k _ _ q⟩, u.tups, u.frzs, u.tbls⟩
theorem cell_not {o : Obj} (h : ∀ v, o.data ≠ .cell v) : isCell o = false := by
  cases q : isCell o with
  | false => rfl
  | true =>
    unfold isCell at q
    split at q
    · rename_i v hv
      exact absurd hv (h v)
    · cases q
/-- the consumer stands below L -/
structure GUse (X : Cx) (L : Addr) : Prop where
  base : X.base.objs.size ≤ L
  old : L ∈ X.ex ∨ X.s_0.heap.objs.size ≤ L
  fr : ∀ b ∈ frs X.stack, b < L
  fs : ∀ b ∈ X.fs, b < L
  loc : X.env.locals ≠ L
  cell : ∀ x c, X.env.cells.lookup x = some c → c < L
structure Slp (X : Cx) (t : GTxt) (N : List Str) (qual : Str) (scope : Scope) (f : Addr) (cdv : Value) (fp : List Addr) (ita : Addr) (tn : Nat → Heap → Prop) (L a : Addr) (g i : Nat) (own : List (Addr × Obj)) (gs : GenState) : Prop where
  asl : Asl (model X.prog X.w) t (envOfC qual scope L f cdv) (.ref ita) gs
  gen : ∃ o, (a, o) ∈ own ∧ ∀ h : Heap, h.get? a = some o → h.IsGen a g
  frm : ∃ (o : Obj) (m : Str → Option Value) (σg : L2.St), (L, o) ∈ own ∧ (∀ h : Heap, h.get? L = some o → h.Ns L m) ∧ σg.length = N.length ∧ ∀ (i : Nat) (x : Str) (v : V), N[i]? = some x → σg[i]? = some (some v) → Vis scope x → ∃ u, RelV v u ∧ (envOfC qual scope L f cdv).kindOf x = some .local ∧ m x = some u
  trn : ∀ h : Heap, (∀ p ∈ own, h.get? p.1 = some p.2) → tn i h
  adr : ∀ p ∈ own, p.1 = a ∨ p.1 = L ∨ p.1 ∈ fp
  mem : ∀ b ∈ fp, ∃ o, (b, o) ∈ own
  lta : L < a
  ltf : ∀ b ∈ fp, L < b
  exf : ∀ b ∈ fp, b ∈ X.ex ∨ X.s_0.heap.objs.size ≤ b
  naf : a ∉ fp
section
variable {X : Cx} {t : GTxt} {N : List Str} {qual : Str} {scope : Scope} {f : Addr} {cdv : Value} {J : It} {fp : List Addr} {ita : Addr} {tn : Nat → Heap → Prop} {L a : Addr} {g i ix k : Nat} {own pins : List (Addr × Obj)} {gs : GenState} {σ : L2.St} {H : Hp} {s : Shared} {Q : Option Value → Shared → Prop} {E : Value → Shared → Prop}
theorem ns_obj {h : Heap} {L : Addr} {m : Str → Option Value} (n : h.Ns L m) : ∃ o, h.get? L = some o ∧ (∀ h' : Heap, h'.get? L = some o → h'.Ns L m) ∧ ∀ v, o.data ≠ .cell v := by
  obtain ⟨o, es, ep, ho, hd, r⟩ := n
  exact ⟨o, ho, fun h' e => ⟨o, es, ep, e, hd, r⟩, fun v q => by rw [hd] at q; cases q⟩
theorem step_wake (hr : Room (k + 1) X.A) (S : GSc N scope) (hi : ∀ L : Addr, interactive (envOfC qual scope L f cdv) = false) (hN : N[ix]? = some t.xn) (hx : scope.names.lookup t.xn = some .local) (hdb : (t.xn == ("__debug__" : Str)) = false) (hcd : (t.xn == ("__classdict__" : Str)) = false)
    (T : Turn X.prog X.w X.K t.tgt J fp ita tn) (hJ : ∀ i H x H', J.yld i H x H' → H' = H) (U : GUse X L) (hpi : ∀ p ∈ X.pn ++ pins, p.1 ≠ L ∧ p.1 ∉ fp ∧ p.1 ≠ a) (I : Inv X (pins ++ own) σ H s) (Sl : Slp X t N qual scope f cdv fp ita tn L a g i own gs) (hgs : s.gens[g]? = some gs) (hmid : ∀ b, L < b → b ∉ X.ex → ¬ X.s_0.heap.objs.size ≤ b → H b ≠ none ∨ ∃ o, (b, o) ∈ pins ++ own)
    (dec : (J.stop i H ∧ ∀ s', Inv X pins σ H s' → Q none s') ∨ (J.go i H ∧ ∀ v x s' own' gs', RelV x v → J.yld i H x H → Inv X (pins ++ own') σ H s' → s'.gens[g]? = some gs' → Slp X t N qual scope f cdv fp ita tn L a g (i + 1) own' gs' → Q (some v) s')) :
    wpAny (model X.prog X.w) X.A (pyNext (.ref a)) Q E s := by
  have hown : ∀ p ∈ own, s.heap.get? p.1 = some p.2 ∧ H p.1 = none ∧ p.1 ≠ X.env.locals ∧ p.1 ∉ X.fs ∧ ∀ v, p.2.data ≠ .cell v := fun p hp => I.pin p (List.mem_append_right _ (List.mem_append_right _ hp))
  have I0 : Inv X pins σ H s := I.pins_of fun p hp => I.pin p (List.mem_append_right _ (List.mem_append_left _ hp))
  obtain ⟨oa, ma, hga⟩ := Sl.gen
  obtain ⟨oL, m, σg, mL, hns, hlen, hlk⟩ := Sl.frm
  have st := Sl.trn s.heap fun p hp => (hown p hp).1
  have gL := hown _ mL
  have ga := hown _ ma
  have lta := Sl.lta
  have ltf := Sl.ltf
  have naf := Sl.naf
  have asl := Sl.asl
  have szL : L ≤ s.heap.objs.size := Nat.le_of_lt (Heap.lt_size gL.1)
  obtain ⟨hc, eL, c1, c2⟩ := cut_ex s.heap L szL
  subst eL
  have cc : ∀ b o, hc.get? b = some o → b < hc.objs.size ∧ s.heap.get? b = some o := fun b o e => by
    have lt : b < hc.objs.size := by
      by_cases h : b < hc.objs.size
      · exact h
      · rw [c2 b (Nat.le_of_not_lt h)] at e; cases e
    exact ⟨lt, by rw [← c1 b lt]; exact e⟩
  have hbare : AllBare (s.setGen g .running).gens := allBare_setGen I.bare rfl
  have e0' := I.env0.in1
  have e0 : Env0 X.prog X.w X.K X.mg X.base X.A.in1 X.stack (s.setGen g .running) H := ⟨e0'.frames, e0'.mod, e0'.bs, e0'.bsz, e0'.funs, e0'.frf, e0'.hok, hbare⟩
  have Ig : Inv (gX X.prog X.w X.K X.mg X.base N qual scope f cdv X.A.in1 X.stack { s with heap := hc } (fun b => if b < hc.objs.size then H b else none)) (pinsFrom s H hc.objs.size fp) σg H (s.setGen g .running) := by
    refine gen_inv S hr.hd e0 rfl cc (fun b o lt e => by show hc.get? b = some o; rw [c1 b lt]; exact e) (fun b lt => if_pos lt) (fun b le => if_neg (Nat.not_lt.mpr le)) U.base U.fr ⟨m, hns _ gL.1, hlk⟩ gL.2.1 (fun p hp => ?_) hlen
    obtain ⟨q1, q2, q3, q4, q5⟩ := of_pins hp
    exact ⟨q3, q4, Nat.ne_of_gt q1, fun z => absurd (U.fr _ z) (Nat.not_lt.mpr (Nat.le_of_lt q1)), notCell q5⟩
  have hf : ∀ b ∈ fp, FpOk (gX X.prog X.w X.K X.mg X.base N qual scope f cdv X.A.in1 X.stack { s with heap := hc } (fun b => if b < hc.objs.size then H b else none)) (pinsFrom s H hc.objs.size fp) H b := fun b hb => by
    have lt := ltf b hb
    obtain ⟨ob, eb, db⟩ := T.obj _ _ st b hb
    refine ⟨?_, Nat.ne_of_gt lt, fun z => absurd (U.fr _ z) (Nat.not_lt.mpr (Nat.le_of_lt lt)), .inr (Nat.le_of_lt lt), fun x c q => ?_, fun p hp z => ?_⟩
    · obtain ⟨o', mo⟩ := Sl.mem b hb
      exact (hown _ mo).2.1
    · have q' : (envOfC qual scope hc.objs.size f cdv).cells.lookup x = some c := q
      rw [show (envOfC qual scope hc.objs.size f cdv).cells = [] from S.nocell _] at q'
      cases q'
    · have hp' : p ∈ pinsFrom s H hc.objs.size fp := hp
      exact (of_pins hp').2.1 (by rw [z]; exact hb)
  have hch : ∀ b ∈ hc.objs.size :: (fp ++ cellsAt s H hc.objs.size), (b ∈ X.ex ∨ X.s_0.heap.objs.size ≤ b) ∧ b ≠ X.env.locals ∧ (∀ x c, X.env.cells.lookup x = some c → c ≠ b) ∧ ∀ p ∈ X.pn ++ pins, p.1 ≠ b := fun b hb => by
    have le : hc.objs.size ≤ b := by
      rcases List.mem_cons.mp hb with rfl | hb
      · exact Nat.le_refl _
      · rcases List.mem_append.mp hb with hb | hb
        · exact Nat.le_of_lt (ltf b hb)
        · exact Nat.le_of_lt (of_cells hb).1
    have noCell : ∀ o, (b, o) ∈ pins ++ own → b ∈ cellsAt s H hc.objs.size → False := fun o ho hcl => by
      obtain ⟨_, _, o', e', q'⟩ := of_cells hcl
      have z := I.pin (b, o) (List.mem_append_right _ ho)
      have z1 : s.heap.get? b = some o := z.1
      rw [z1] at e'
      have := cell_not z.2.2.2.2
      rw [show o = o' from Option.some.inj e', q'] at this
      cases this
    refine ⟨?_, ?_, fun x c q => Nat.ne_of_lt (Nat.lt_of_lt_of_le (U.cell x c q) le), fun p hp z => ?_⟩
    · rcases List.mem_cons.mp hb with rfl | hb
      · exact U.old
      · rcases List.mem_append.mp hb with hb | hb
        · exact Sl.exf b hb
        · by_cases h1 : b ∈ X.ex
          · exact .inl h1
          · by_cases h2 : X.s_0.heap.objs.size ≤ b
            · exact .inr h2
            · obtain ⟨l1, l2, _⟩ := of_cells hb
              rcases hmid b l1 h1 h2 with z | ⟨o, z⟩
              · exact absurd l2 z
              · exact (noCell o z hb).elim
    · rcases List.mem_cons.mp hb with rfl | hb
      · exact U.loc.symm
      · rcases List.mem_append.mp hb with hb | hb
        · obtain ⟨o', mo⟩ := Sl.mem b hb
          exact (hown _ mo).2.2.1
        · intro z
          obtain ⟨_, _, o', e', q'⟩ := of_cells hb
          obtain ⟨m', n', _⟩ := I0.loc
          obtain ⟨o'', e'', _, d''⟩ := ns_obj n'
          rw [← z, e'] at e''
          have := cell_not d''
          rw [← Option.some.inj e'', q'] at this
          cases this
    rcases List.mem_cons.mp hb with e | hb
    · exact (hpi p hp).1 (z.trans e)
    · rcases List.mem_append.mp hb with hb | hb
      · exact (hpi p hp).2.1 (by rw [z]; exact hb)
      · obtain ⟨_, _, o, e, q⟩ := of_cells hb
        have hq := I0.pin p hp
        rw [z] at hq
        rw [hq.1] at e
        have eo := Option.some.inj e
        unfold isCell at q
        split at q
        · rename_i v hv
          exact hq.2.2.2.2 v (by rw [eo]; exact hv)
        · cases q
  have back : ∀ (s1 : Shared) (pp : List (Addr × Obj)) (σ' : L2.St), Inv (gX X.prog X.w X.K X.mg X.base N qual scope f cdv X.A.in1 X.stack { s with heap := hc } (fun b => if b < hc.objs.size then H b else none)) (pinsFrom s H hc.objs.size fp ++ pp) σ' H s1 →
      ∀ (h' : Heap) (G : Array GenState), (∀ b o, s1.heap.get? b = some o → h'.get? b = some o) → AllBare G → Inv X pins σ H { s1 with heap := h', gens := G } := by
    intro s1 pp σ' Jv h' G kk bG
    have u := un_grow (un_piece (s := s) Jv.unpinned (fun b o lt e => by show hc.get? b = some o; rw [c1 b lt]; exact e) (fun b lt => if_pos lt) U.fr (fun b o _ e => e)) kk
    have hok := Jv.hok.kept kk
    obtain ⟨hh, gg, dd, tt, oo⟩ := s1
    have eo : oo = s.os := Jv.os
    subst eo
    exact I0.call u hok bG hch
  have tail : ∀ {Φ : End → Shared → Prop}, Goes1 (model X.prog X.w) X.A.in1 Φ gs (.send .none) (s.setGen g .running) → Goes1 (model X.prog X.w) X.A.in1 (fun e s1 => (s.setGen g .running).gens.size ≤ s1.gens.size ∧ Φ e s1) gs (.send .none) (s.setGen g .running) := fun {Φ} h => by
    cases gs with
    | fresh c => exact ⟨h.1, fun Γ p q1 q2 => let ⟨e, s', hr, he⟩ := h.2 Γ p q1 q2; ⟨e, s', hr, GenW.runs_gsz hr, he⟩⟩
    | suspended k l c p fs cl => exact fun Γ p q1 q2 => let ⟨e, s', hr, he⟩ := h Γ p q1 q2; ⟨e, s', hr, GenW.runs_gsz hr, he⟩
    | running => exact h
    | finished => exact h
  have glt : g < s.gens.size := (Array.getElem?_eq_some_iff.mp hgs).1
  rcases dec with ⟨stop, kq⟩ | ⟨go, kq⟩
  · refine next1 hr.hd I.nolimit hr.depth (hga _ ga.1) hgs (tail (Φ := fun e s1 => match e with
        | .ret r => r = .ok (.ret .none) ∧ Inv (gX X.prog X.w X.K X.mg X.base N qual scope f cdv X.A.in1 X.stack { s with heap := hc } (fun b => if b < hc.objs.size then H b else none)) (pinsFrom s H hc.objs.size fp) σg H s1
        | .susp .. => False) (goes_wake S.co (hi _) asl (gen_turn Ig T st hf S.nd hN hx hdb hcd (.inl ⟨stop, fun s1 I1 => ⟨rfl, I1⟩⟩)))) fun e s1 he => ?_
    cases e with
    | susp v g' l kk c p fs => exact he.2.elim
    | ret r =>
      obtain ⟨_, rfl, J1⟩ := he
      refine ⟨rfl, .inl rfl, fun h' kk => kq _ (back s1 [] σg (by rw [List.append_nil]; exact J1) h' _ kk (allBare_setGen J1.bare rfl))⟩
  · refine next1 hr.hd I.nolimit hr.depth (hga _ ga.1) hgs (tail (Φ := fun e s1 => match e with
        | .ret r => False
        | .susp v g' l kk c p fs => End.quiet (.susp v g' l kk c p fs) = true ∧ Asl (model X.prog X.w) t (envOfC qual scope hc.objs.size f cdv) (.ref ita) (End.genState (.susp v g' l kk c p fs)) ∧ ∃ x H', J.yld i H x H' ∧ RelV x v ∧
          Inv (gX X.prog X.w X.K X.mg X.base N qual scope f cdv X.A.in1 X.stack { s with heap := hc } (fun b => if b < hc.objs.size then H b else none)) (pinsFrom s H hc.objs.size fp ++ pinsAt fp s1.heap) (σg.set ix (some x)) H' s1 ∧ tn (i + 1) s1.heap ∧ ∀ b ∈ fp, H' b = none)
      (goes_wake S.co (hi _) asl (gen_turn Ig T st hf S.nd hN hx hdb hcd (.inr ⟨go, fun x u H' s4 g' l kk c p fs y r I4 t4 f4 q1 q2 => ⟨q1, q2, x, H', y, r, I4, t4, f4⟩⟩)))) fun e s1 he => ?_
    cases e with
    | ret r => exact he.2.elim
    | susp v g' l kk c p fs =>
      obtain ⟨hsz, hq, ha', x, H', y, r, J1, t1, f1⟩ := he
      have eH := hJ _ _ _ _ y
      subst eH
      refine ⟨hq, ?_⟩
      obtain ⟨m1, n1, l1⟩ := id J1.loc
      obtain ⟨oL', gL', nL', dL'⟩ := ns_obj n1
      have a1 : s1.heap.get? a = some oa ∧ H' a = none := by
        have z := J1.pin (a, oa) (List.mem_append_right _ (List.mem_append_left _ (mem_pins lta naf ga.1 ga.2.1 (by
          cases q : isCell oa with
          | false => rfl
          | true =>
            unfold isCell at q
            split at q
            · rename_i v hv
              exact absurd hv (ga.2.2.2.2 v)
            · cases q))))
        exact ⟨z.1, z.2.1⟩
      have I1 := back s1 _ _ J1 s1.heap (s1.gens.setIfInBounds g (End.genState (.susp v g' l kk c p fs))) (fun _ _ e => e) (allBare_setGen J1.bare ha'.2.1)
      refine kq v x _ ((a, oa) :: (hc.objs.size, oL') :: pinsAt fp s1.heap) _ r y (I1.pins_of fun q hq' => ?_) ?_ ⟨ha', ⟨oa, List.mem_cons_self, hga⟩, ⟨oL', m1, _, List.mem_cons_of_mem _ List.mem_cons_self, nL', J1.len, fun i x v q1 q2 q3 => ?_⟩, fun h hp => ?_, fun q hq' => ?_, fun b hb => ?_, lta, ltf, Sl.exf, naf⟩
      · rcases List.mem_append.mp hq' with z | z
        · exact I1.pin q (List.mem_append_right _ z)
        · rcases List.mem_cons.mp z with rfl | z
          · exact ⟨a1.1, a1.2, ga.2.2.1, ga.2.2.2.1, ga.2.2.2.2⟩
          · rcases List.mem_cons.mp z with rfl | z
            · exact ⟨gL', J1.free, gL.2.2.1, gL.2.2.2.1, dL'⟩
            · obtain ⟨hb, e⟩ := of_pinsAt z
              obtain ⟨o1, e1, d1⟩ := T.obj _ _ t1 q.1 hb
              have eo : q.2 = o1 := by
                have e' : s1.heap.get? q.1 = some q.2 := e
                rw [e1] at e'
                exact (Option.some.inj e').symm
              obtain ⟨o', mo⟩ := Sl.mem q.1 hb
              have ho := hown _ mo
              exact ⟨e, f1 q.1 hb, ho.2.2.1, ho.2.2.2.1, by rw [eo]; exact d1⟩
      · show (s1.gens.setIfInBounds g _)[g]? = _
        rw [Array.getElem?_setIfInBounds_self, if_pos]
        have e1 : (s.setGen g .running).gens.size = s.gens.size := GenW.setGen_size s g .running
        omega
      · obtain ⟨u, ru, lk⟩ := l1 i x v q1 q2 q3
        rcases lk with ⟨z1, z2⟩ | ⟨_, c, z3, _⟩
        · exact ⟨u, ru, z1, z2⟩
        · have z3' : (envOfC qual scope hc.objs.size f cdv).cells.lookup x = some c := z3
          rw [show (envOfC qual scope hc.objs.size f cdv).cells = [] from S.nocell _] at z3'
          cases z3'
      · refine T.keep _ _ _ t1 fun b hb o e => ?_
        exact hp (b, o) (List.mem_cons_of_mem _ (List.mem_cons_of_mem _ (mem_pinsAt hb e)))
      · rcases List.mem_cons.mp hq' with rfl | z
        · exact .inl rfl
        · rcases List.mem_cons.mp z with rfl | z
          · exact .inr (.inl rfl)
          · exact .inr (.inr (of_pinsAt z).1)
      · obtain ⟨o1, e1, d1⟩ := T.obj _ _ t1 b hb
        exact ⟨o1, List.mem_cons_of_mem _ (List.mem_cons_of_mem _ (mem_pinsAt hb e1))⟩
end
end GF
namespace GF
open PySem PySem.Spec PyProof.Rows L2
section
variable {X : Cx} {t : GTxt} {N : List Str} {qual : Str} {scope : Scope} {f : Addr} {cdv : Value} {L a : Addr} {g ix k : Nat} {own pins : List (Addr × Obj)} {σ σg : L2.St} {H : Hp} {s : Shared} {Q : Option Value → Shared → Prop} {E : Value → Shared → Prop} {ti : TI} {oa oL : Obj} {m : Str → Option Value}
/-- what the consumer wishes behind the first next -/
def FirstTo (X : Cx) (pins : List (Addr × Obj)) (σ : L2.St) (H0 : Hp) (t : GTxt) (N : List Str) (qual : Str) (scope : Scope) (f : Addr) (cdv : Value) (L a : Addr) (g : Nat) (Q : Option Value → Shared → Prop) (J : It) (H2 : Hp) : Prop :=
  (∀ b o, L ≤ b → H0 b = some o → H2 b = some o) ∧ (∀ i H x H', J.yld i H x H' → H' = H) ∧ ((J.stop 0 H2 ∧ ∀ s', Inv X pins σ H2 s' → Q none s') ∨ (J.go 0 H2 ∧ ∀ fp ita tn v x s' own' gs', Turn X.prog X.w X.K t.tgt J fp ita tn → (∀ p ∈ X.pn ++ pins, p.1 ≠ L ∧ p.1 ∉ fp ∧ p.1 ≠ a) → RelV x v → J.yld 0 H2 x H2 →
    Inv X (pins ++ own') σ H2 s' → s'.gens[g]? = some gs' → Slp X t N qual scope f cdv fp ita tn L a g 1 own' gs' → Q (some v) s'))
theorem step_first (hr : Room (k + 2) X.A) (S : GSc N scope) (hi : ∀ L : Addr, interactive (envOfC qual scope L f cdv) = false) (hN : N[ix]? = some t.xn) (hx : scope.names.lookup t.xn = some .local) (hdb : (t.xn == ("__debug__" : Str)) = false) (hcd : (t.xn == ("__classdict__" : Str)) = false)
    (hs : ∀ (L : Addr) (x : Value), foldedSetIterable t.iter (envOfC qual scope L f cdv) x = pure x)
    (hPI : ∀ (A : Around) (outer : List Env) (sc : Shared) (Hc : Hp), Room k (A.deeper (envOfC qual scope sc.heap.objs.size f cdv)) → PI (gX X.prog X.w X.K X.mg X.base N qual scope f cdv A outer sc Hc) t.tgt t.iter ti)
    (U : GUse X L) (hpi : ∀ p ∈ X.pn ++ pins, p.1 ≠ L ∧ p.1 ≠ a) (I : Inv X (pins ++ [(a, oa), (L, oL)]) σ H s) (hga : ∀ h : Heap, h.get? a = some oa → h.IsGen a g) (hns : ∀ h : Heap, h.get? L = some oL → h.Ns L m) (hlen : σg.length = N.length)
    (hlk : ∀ (i : Nat) (x : Str) (v : V), N[i]? = some x → σg[i]? = some (some v) → Vis scope x → ∃ u, RelV v u ∧ (envOfC qual scope L f cdv).kindOf x = some .local ∧ m x = some u) (lta : L < a) (hmid : ∀ b, L < b → b ∉ X.ex → ¬ X.s_0.heap.objs.size ≤ b → H b ≠ none ∨ ∃ o, (b, o) ∈ pins ++ [(a, oa), (L, oL)])
    (hgs : s.gens[g]? = some (.fresh (.func t.body (envOfC qual scope L f cdv)))) (rd : ti σg H (FirstTo X pins σ H t N qual scope f cdv L a g Q)) :
    wpAny (model X.prog X.w) X.A (pyNext (.ref a)) Q E s := by
  have ga := I.pin (a, oa) (List.mem_append_right _ (List.mem_append_right _ List.mem_cons_self))
  have gL := I.pin (L, oL) (List.mem_append_right _ (List.mem_append_right _ (List.mem_cons_of_mem _ List.mem_cons_self)))
  have I0 : Inv X pins σ H s := I.pins_of fun p hp => I.pin p (List.mem_append_right _ (List.mem_append_left _ hp))
  have szL : L ≤ s.heap.objs.size := Nat.le_of_lt (Heap.lt_size gL.1)
  obtain ⟨hc, eL, c1, c2⟩ := cut_ex s.heap L szL
  subst eL
  have cc : ∀ b o, hc.get? b = some o → b < hc.objs.size ∧ s.heap.get? b = some o := fun b o e => by
    have lt : b < hc.objs.size := by
      by_cases h : b < hc.objs.size
      · exact h
      · rw [c2 b (Nat.le_of_not_lt h)] at e; cases e
    exact ⟨lt, by rw [← c1 b lt]; exact e⟩
  have hbare : AllBare (s.setGen g .running).gens := allBare_setGen I.bare rfl
  have e0' := I.env0.in1
  have e0 : Env0 X.prog X.w X.K X.mg X.base X.A.in1 X.stack (s.setGen g .running) H := ⟨e0'.frames, e0'.mod, e0'.bs, e0'.bsz, e0'.funs, e0'.frf, e0'.hok, hbare⟩
  have Ig : Inv (gX X.prog X.w X.K X.mg X.base N qual scope f cdv X.A.in1 X.stack { s with heap := hc } (fun b => if b < hc.objs.size then H b else none)) (pinsFrom s H hc.objs.size []) σg H (s.setGen g .running) := by
    refine gen_inv S hr.hd e0 rfl cc (fun b o lt e => by show hc.get? b = some o; rw [c1 b lt]; exact e) (fun b lt => if_pos lt) (fun b le => if_neg (Nat.not_lt.mpr le)) U.base U.fr ⟨m, hns _ gL.1, hlk⟩ gL.2.1 (fun p hp => ?_) hlen
    obtain ⟨q1, q2, q3, q4, q5⟩ := of_pins hp
    exact ⟨q3, q4, Nat.ne_of_gt q1, fun z => absurd (U.fr _ z) (Nat.not_lt.mpr (Nat.le_of_lt q1)), notCell q5⟩
  have hch : ∀ b ∈ hc.objs.size :: (([] : List Addr) ++ cellsAt s H hc.objs.size), (b ∈ X.ex ∨ X.s_0.heap.objs.size ≤ b) ∧ b ≠ X.env.locals ∧ (∀ x c, X.env.cells.lookup x = some c → c ≠ b) ∧ ∀ p ∈ X.pn ++ pins, p.1 ≠ b := fun b hb => by
    have le : hc.objs.size ≤ b := by
      rcases List.mem_cons.mp hb with rfl | hb
      · exact Nat.le_refl _
      · exact Nat.le_of_lt (of_cells (by simpa using hb)).1
    refine ⟨?_, ?_, fun x c q => Nat.ne_of_lt (Nat.lt_of_lt_of_le (U.cell x c q) le), fun p hp z => ?_⟩
    · rcases List.mem_cons.mp hb with rfl | hb
      · exact U.old
      · have hb' : b ∈ cellsAt s H hc.objs.size := by simpa using hb
        by_cases h1 : b ∈ X.ex
        · exact .inl h1
        · by_cases h2 : X.s_0.heap.objs.size ≤ b
          · exact .inr h2
          · obtain ⟨l1, l2, o', e', q'⟩ := of_cells hb'
            rcases hmid b l1 h1 h2 with z | ⟨o, z⟩
            · exact absurd l2 z
            · have z2 := I.pin (b, o) (List.mem_append_right _ z)
              have z1 : s.heap.get? b = some o := z2.1
              rw [z1] at e'
              have := cell_not z2.2.2.2.2
              rw [show o = o' from Option.some.inj e', q'] at this
              cases this
    · rcases List.mem_cons.mp hb with rfl | hb
      · exact U.loc.symm
      · intro z
        obtain ⟨_, _, o', e', q'⟩ := of_cells (show b ∈ cellsAt s H hc.objs.size by simpa using hb)
        obtain ⟨m', n', _⟩ := I0.loc
        obtain ⟨o'', e'', _, d''⟩ := ns_obj n'
        rw [← z, e'] at e''
        have := cell_not d''
        rw [← Option.some.inj e'', q'] at this
        cases this
    rcases List.mem_cons.mp hb with e | hb
    · exact (hpi p hp).1 (z.trans e)
    · obtain ⟨_, _, o, e, q⟩ := of_cells (show b ∈ cellsAt s H hc.objs.size by simpa using hb)
      have hq := I0.pin p hp
      rw [z] at hq
      rw [hq.1] at e
      have eo := Option.some.inj e
      have := cell_not hq.2.2.2.2
      rw [eo, q] at this
      cases this
  have back : ∀ (s1 : Shared) (pp : List (Addr × Obj)) (σ' : L2.St) (H2 : Hp), Inv (gX X.prog X.w X.K X.mg X.base N qual scope f cdv X.A.in1 X.stack { s with heap := hc } (fun b => if b < hc.objs.size then H b else none)) (pinsFrom s H hc.objs.size [] ++ pp) σ' H2 s1 → (∀ b o, hc.objs.size ≤ b → H b = some o → H2 b = some o) →
      ∀ (h' : Heap) (G : Array GenState), (∀ b o, s1.heap.get? b = some o → h'.get? b = some o) → AllBare G → Inv X pins σ H2 { s1 with heap := h', gens := G } := by
    intro s1 pp σ' H2 Jv hsm h' G kk bG
    have u := un_grow (un_piece (s := s) Jv.unpinned (fun b o lt e => by show hc.get? b = some o; rw [c1 b lt]; exact e) (fun b lt => if_pos lt) U.fr hsm) kk
    have hok := Jv.hok.kept kk
    obtain ⟨hh, gg, dd, tt, oo⟩ := s1
    have eo : oo = s.os := Jv.os
    subst eo
    exact I0.call u hok bG hch
  have glt : g < s.gens.size := (Array.getElem?_eq_some_iff.mp hgs).1
  have hrg : Room k ((X.A.in1).deeper (envOfC qual scope hc.objs.size f cdv)) := hr.in1.deeper _
  have run := (hPI X.A.in1 X.stack { s with heap := hc } (fun b => if b < hc.objs.size then H b else none) hrg).run _ _ σg H _ Ig rd
  refine next1 (Φ := fun e s1 => (s.setGen g .running).gens.size ≤ s1.gens.size ∧ match e with
      | .ret r => r = .ok (.ret .none) ∧ ∃ H2, Inv (gX X.prog X.w X.K X.mg X.base N qual scope f cdv X.A.in1 X.stack { s with heap := hc } (fun b => if b < hc.objs.size then H b else none)) (pinsFrom s H hc.objs.size []) σg H2 s1 ∧ (∀ b o, hc.objs.size ≤ b → H b = some o → H2 b = some o) ∧ ∀ s', Inv X pins σ H2 s' → Q none s'
      | .susp v g' l kk c p fs => End.quiet (.susp v g' l kk c p fs) = true ∧ ∃ J fp ita tn x H2, Asl (model X.prog X.w) t (envOfC qual scope hc.objs.size f cdv) (.ref ita) (End.genState (.susp v g' l kk c p fs)) ∧ Turn X.prog X.w X.K t.tgt J fp ita tn ∧ J.yld 0 H2 x H2 ∧ RelV x v ∧
          Inv (gX X.prog X.w X.K X.mg X.base N qual scope f cdv X.A.in1 X.stack { s with heap := hc } (fun b => if b < hc.objs.size then H b else none)) (pinsFrom s H hc.objs.size [] ++ pinsAt fp s1.heap) (σg.set ix (some x)) H2 s1 ∧ tn 1 s1.heap ∧ (∀ b ∈ fp, H2 b = none) ∧ (∀ b o, hc.objs.size ≤ b → H b = some o → H2 b = some o) ∧
          (∀ b ∈ fp, hc.objs.size < b ∧ ∀ p ∈ pinsFrom s H hc.objs.size [], p.1 ≠ b) ∧ ∀ fp ita tn v x s' own' gs', Turn X.prog X.w X.K t.tgt J fp ita tn → (∀ p ∈ X.pn ++ pins, p.1 ≠ hc.objs.size ∧ p.1 ∉ fp ∧ p.1 ≠ a) → RelV x v → J.yld 0 H2 x H2 → Inv X (pins ++ own') σ H2 s' → s'.gens[g]? = some gs' → Slp X t N qual scope f cdv fp ita tn hc.objs.size a g 1 own' gs' → Q (some v) s')
    hr.hd I.nolimit hr.depth (hga _ ga.1) hgs ?_ fun e s1 he => ?_
  · have core : Goes1 (model X.prog X.w) X.A.in1 (fun e s1 => match e with
      | .ret r => r = .ok (.ret .none) ∧ ∃ H2, Inv (gX X.prog X.w X.K X.mg X.base N qual scope f cdv X.A.in1 X.stack { s with heap := hc } (fun b => if b < hc.objs.size then H b else none)) (pinsFrom s H hc.objs.size []) σg H2 s1 ∧ (∀ b o, hc.objs.size ≤ b → H b = some o → H2 b = some o) ∧ ∀ s', Inv X pins σ H2 s' → Q none s'
      | .susp v g' l kk c p fs => End.quiet (.susp v g' l kk c p fs) = true ∧ ∃ J fp ita tn x H2, Asl (model X.prog X.w) t (envOfC qual scope hc.objs.size f cdv) (.ref ita) (End.genState (.susp v g' l kk c p fs)) ∧ Turn X.prog X.w X.K t.tgt J fp ita tn ∧ J.yld 0 H2 x H2 ∧ RelV x v ∧
          Inv (gX X.prog X.w X.K X.mg X.base N qual scope f cdv X.A.in1 X.stack { s with heap := hc } (fun b => if b < hc.objs.size then H b else none)) (pinsFrom s H hc.objs.size [] ++ pinsAt fp s1.heap) (σg.set ix (some x)) H2 s1 ∧ tn 1 s1.heap ∧ (∀ b ∈ fp, H2 b = none) ∧ (∀ b o, hc.objs.size ≤ b → H b = some o → H2 b = some o) ∧
          (∀ b ∈ fp, hc.objs.size < b ∧ ∀ p ∈ pinsFrom s H hc.objs.size [], p.1 ≠ b) ∧ ∀ fp ita tn v x s' own' gs', Turn X.prog X.w X.K t.tgt J fp ita tn → (∀ p ∈ X.pn ++ pins, p.1 ≠ hc.objs.size ∧ p.1 ∉ fp ∧ p.1 ≠ a) → RelV x v → J.yld 0 H2 x H2 → Inv X (pins ++ own') σ H2 s' → s'.gens[g]? = some gs' → Slp X t N qual scope f cdv fp ita tn hc.objs.size a g 1 own' gs' → Q (some v) s') (.fresh (.func t.body (envOfC qual scope hc.objs.size f cdv))) (.send .none) (s.setGen g .running) := by
      refine goes_first S.co (hi _) (hs _) (thn run fun v s2 h2 => thn h2 fun itv s3 h3 => ?_)
      obtain ⟨ita, fp, tn, J, H2, e1, I3, T, st3, hf3, hsm, hJ, dec⟩ := h3
      subst e1
      have hfp : ∀ b ∈ fp, hc.objs.size < b ∧ ∀ p ∈ pinsFrom s H hc.objs.size [], p.1 ≠ b := fun b hb => by
        obtain ⟨q1, q2, q3, q4, q5, q6⟩ := hf3 b hb
        have q2' : b ≠ hc.objs.size := q2
        have le : hc.objs.size ≤ b := by
          rcases q4 with q4 | q4
          · exact absurd (show b ∈ ([] : List Addr) from q4) (by simp)
          · exact q4
        exact ⟨Nat.lt_of_le_of_ne le (Ne.symm q2'), fun p hp => q6 p (List.mem_append_right _ hp)⟩
      refine gen_turn I3 T st3 hf3 S.nd hN hx hdb hcd ?_
      rcases dec with ⟨stop, kq⟩ | ⟨go, kq⟩
      · exact .inl ⟨stop, fun s4 I4 => ⟨rfl, H2, I4, hsm, kq⟩⟩
      · refine .inr ⟨go, fun x u H' s4 g' l kk c p fs y r I4 t4 f4 q1 q2 => ?_⟩
        have eH := hJ _ _ _ _ y
        subst eH
        exact ⟨q1, J, fp, ita, tn, x, _, q2, T, y, r, I4, t4, f4, hsm, hfp, kq⟩
    exact ⟨core.1, fun Γ p q1 q2 => let ⟨e, s', hr, he⟩ := core.2 Γ p q1 q2; ⟨e, s', hr, GenW.runs_gsz hr, he⟩⟩
  · cases e with
    | ret r =>
      obtain ⟨_, rfl, H2, J1, hsm, kq⟩ := he
      exact ⟨rfl, .inl rfl, fun h' kk => kq _ (back s1 [] σg H2 (by rw [List.append_nil]; exact J1) hsm h' _ kk (allBare_setGen J1.bare rfl))⟩
    | susp v g' l kk c p fs =>
      obtain ⟨hsz, hq, J, fp, ita, tn, x, H2, ha', T, y, r, J1, t1, f1, hsm, hfp, kq⟩ := he
      refine ⟨hq, ?_⟩
      obtain ⟨m1, n1, l1⟩ := id J1.loc
      obtain ⟨oL', gL', nL', dL'⟩ := ns_obj n1
      have mema : (a, oa) ∈ pinsFrom s H hc.objs.size [] := mem_pins lta (by simp) ga.1 ga.2.1 (cell_not ga.2.2.2.2)
      have a1 : s1.heap.get? a = some oa ∧ H2 a = none := by
        have z := J1.pin (a, oa) (List.mem_append_right _ (List.mem_append_left _ mema))
        exact ⟨z.1, z.2.1⟩
      have hpp : ∀ p ∈ X.pn ++ pins, p.1 ≠ hc.objs.size ∧ p.1 ∉ fp ∧ p.1 ≠ a := fun p hp => by
        refine ⟨(hpi p hp).1, fun hb => ?_, (hpi p hp).2⟩
        obtain ⟨lt, nb⟩ := hfp p.1 hb
        have hq' := I0.pin p hp
        exact nb p (mem_pins lt (by simp) hq'.1 hq'.2.1 (cell_not hq'.2.2.2.2)) rfl
      have I1 := back s1 _ _ H2 J1 hsm s1.heap (s1.gens.setIfInBounds g (End.genState (.susp v g' l kk c p fs))) (fun _ _ e => e) (allBare_setGen J1.bare ha'.2.1)
      refine kq fp ita tn v x _ ((a, oa) :: (hc.objs.size, oL') :: pinsAt fp s1.heap) _ T hpp r y (I1.pins_of fun q hq' => ?_) ?_ ⟨ha', ⟨oa, List.mem_cons_self, hga⟩, ⟨oL', m1, _, List.mem_cons_of_mem _ List.mem_cons_self, nL', J1.len, fun i x v q1 q2 q3 => ?_⟩, fun h hp => ?_, fun q hq' => ?_, fun b hb => ?_, lta, fun b hb => (hfp b hb).1, fun b hb => ?_, fun z => (hfp a z).2 _ mema rfl⟩
      · rcases List.mem_append.mp hq' with z | z
        · exact I1.pin q (List.mem_append_right _ z)
        · rcases List.mem_cons.mp z with rfl | z
          · exact ⟨a1.1, a1.2, ga.2.2.1, ga.2.2.2.1, ga.2.2.2.2⟩
          · rcases List.mem_cons.mp z with rfl | z
            · exact ⟨gL', J1.free, gL.2.2.1, gL.2.2.2.1, dL'⟩
            · obtain ⟨hb, e⟩ := of_pinsAt z
              obtain ⟨o1, e1, d1⟩ := T.obj _ _ t1 q.1 hb
              have eo : q.2 = o1 := by
                have e' : s1.heap.get? q.1 = some q.2 := e
                rw [e1] at e'
                exact (Option.some.inj e').symm
              have lt := (hfp q.1 hb).1
              exact ⟨e, f1 q.1 hb, (fun z => by
                obtain ⟨m', n', _⟩ := I0.loc
                obtain ⟨o'', e'', _, d''⟩ := ns_obj n'
                rw [← z] at e''
                exact (hfp q.1 hb).2 _ (mem_pins lt (by simp) e'' (by rw [z]; exact I0.free) (cell_not d'')) rfl), fun z => absurd (U.fs _ z) (Nat.not_lt.mpr (Nat.le_of_lt lt)), by rw [eo]; exact d1⟩
      · show (s1.gens.setIfInBounds g _)[g]? = _
        rw [Array.getElem?_setIfInBounds_self, if_pos]
        have e1 : (s.setGen g .running).gens.size = s.gens.size := GenW.setGen_size s g .running
        omega
      · obtain ⟨u, ru, lk⟩ := l1 i x v q1 q2 q3
        rcases lk with ⟨z1, z2⟩ | ⟨_, c, z3, _⟩
        · exact ⟨u, ru, z1, z2⟩
        · have z3' : (envOfC qual scope hc.objs.size f cdv).cells.lookup x = some c := z3
          rw [show (envOfC qual scope hc.objs.size f cdv).cells = [] from S.nocell _] at z3'
          cases z3'
      · refine T.keep _ _ _ t1 fun b hb o e => ?_
        exact hp (b, o) (List.mem_cons_of_mem _ (List.mem_cons_of_mem _ (mem_pinsAt hb e)))
      · rcases List.mem_cons.mp hq' with rfl | z
        · exact .inl rfl
        · rcases List.mem_cons.mp z with rfl | z
          · exact .inr (.inl rfl)
          · exact .inr (.inr (of_pinsAt z).1)
      · obtain ⟨o1, e1, d1⟩ := T.obj _ _ t1 b hb
        exact ⟨o1, List.mem_cons_of_mem _ (List.mem_cons_of_mem _ (mem_pinsAt hb e1))⟩
      · by_cases h1 : b ∈ X.ex
        · exact .inl h1
        · by_cases h2 : X.s_0.heap.objs.size ≤ b
          · exact .inr h2
          · obtain ⟨lt, nb⟩ := hfp b hb
            rcases hmid b lt h1 h2 with z | ⟨o, z⟩
            · cases q : H b with
              | none => exact absurd q z
              | some u =>
                have := hsm b u (Nat.le_of_lt lt) q
                rw [f1 b hb] at this
                cases this
            · have z2 := I.pin (b, o) (List.mem_append_right _ z)
              exact (nb (b, o) (mem_pins lt (by simp) z2.1 z2.2.1 (cell_not z2.2.2.2.2)) rfl).elim
end
end GF
namespace GF
open PySem PySem.Spec PyProof.Rows L2
section
variable {X : Cx} {t : GTxt} {N ps : List Str} {name qual : Str} {scope : Scope} {f : Addr} {cdv : Value} {pins : List (Addr × Obj)} {σ : L2.St} {H : Hp} {s : Shared}
/-- a generator that has not begun, for its consumer -/
def Born (X : Cx) (pins : List (Addr × Obj)) (σ : L2.St) (H : Hp) (t : GTxt) (N : List Str) (qual : Str) (scope : Scope) (f : Addr) (cdv : Value) (vs : List V) (u : Value) (s' : Shared) : Prop :=
  ∃ (L a : Addr) (g : Nat) (oa oL : Obj) (m : Str → Option Value), u = .ref a ∧ GUse X L ∧ (∀ p ∈ X.pn ++ pins, p.1 ≠ L ∧ p.1 ≠ a) ∧ Inv X (pins ++ [(a, oa), (L, oL)]) σ H s' ∧ (∀ h : Heap, h.get? a = some oa → h.IsGen a g) ∧ (∀ h : Heap, h.get? L = some oL → h.Ns L m) ∧ (start N vs).length = N.length ∧
    (∀ (i : Nat) (x : Str) (v : V), N[i]? = some x → (start N vs)[i]? = some (some v) → Vis scope x → ∃ u, RelV v u ∧ (envOfC qual scope L f cdv).kindOf x = some .local ∧ m x = some u) ∧ L < a ∧ (∀ b, L ≤ b → H b = none) ∧ X.s_0.heap.objs.size ≤ L ∧
    s'.gens[g]? = some (.fresh (.func t.body (envOfC qual scope L f cdv))) ∧ (∀ p ∈ X.pn ++ pins, p.1 < L) ∧ X.env.locals < L ∧ s'.heap.objs.size = a + 1
theorem gen_made {params : Arguments} {dV kV doc pm ct oc : Value} {an od : Option Addr} {osl : Array (Option Value)} {us : List Value} {vs : List V} {E : Value → Shared → Prop} {k : Nat} (I : Inv X pins σ H s) (lk : X.K.lookup f = some ⟨oc, od, .func (PySem.W.fnOf name qual params t.body scope dV kV doc pm an cdv ct), osl⟩) (hcd : PySem.W.codeIn X.K cdv qual = true)
    (S : GScope N ps scope) (SG : GSc N scope) (hr : Room k X.A) (hb : Binds X.K (PySem.W.fnOf name qual params t.body scope dV kV doc pm an cdv ct) ps []) (r : Vals vs us) (hl : vs.length = ps.length) :
    wpAny (model X.prog X.w) X.A (call (.ref f) us) (Born X pins σ H t N qual scope f cdv vs) E s := by
  have KX := I.kIn
  have lim := I.nolimit
  have hkind : ∀ y ∈ ps.zip us, scope.names.lookup y.1 = some .local ∨ (scope.names.lookup y.1 = some .cell ∧ ((cellsFrom (s.heap.objs.size + 1) scope.names []).lookup y.1).isSome = true) := fun ⟨n, v⟩ hy => by
    rcases S.par n (List.of_mem_zip hy).1 with q | q
    · exact .inl q
    · exact .inr ⟨q, PySem.W.cellsFrom_some _ _ _ (.inl q)⟩
  have hbt : BindsTo s (PySem.W.fnOf name qual params t.body scope dV kV doc pm an cdv ct) ⟨us, []⟩ (ps.zip us) := by
    have := hb s us KX (by rw [List.append_nil, ← r.length]; exact hl)
    rw [List.append_nil] at this
    exact this
  refine wpAny_call (codeAny_call_generator hr.depth (KX _ _ lk) rfl S.co S.gen rfl (PySem.W.codeRec_of KX hcd) (hbt _ _ _ _ ?_))
  refine wpAny_newFunctionEnv_cells S.kind hkind fun env he s1 x => ?_
  subst he
  have lim1 : s1.heap.NoLimit := lim.keeps x.toInCall.keep
  refine ⟨lim1, ?_⟩
  obtain ⟨h1, tk, es1, hk1⟩ := x.done
  have gen1 : s1.gens = s.gens := by rw [es1]
  have lt1 : s.heap.objs.size < s1.heap.objs.size := x.toInCall.ns.lt
  have kp1 : ∀ b o, s.heap.get? b = some o → s1.heap.get? b = some o := x.toInCall.keep
  have I1 : Inv (gcxOf X.prog X.w X.K X.mg X.base N qual scope f cdv X.A X.stack s H C8.E0 []) [] (start N vs) H s1 := inv_startG S hr.hd I.env0 hl r x
  obtain ⟨m, hn, hlk⟩ := id I1.loc
  obtain ⟨oL, gL, nL, dL⟩ := ns_obj hn
  generalize hgo : ({ cls := .type "generator", data := .fields #[.int s1.gens.size 0, .str name s1.toks, .str qual (s1.toks + 1)] } : Obj) = go
  have hgc : go.cls = .type "generator" := by rw [← hgo]
  have hgd0 : go.data = .fields #[.int s1.gens.size 0, .str name s1.toks, .str qual (s1.toks + 1)] := by rw [← hgo]
  have hgs : go.slots = #[] := by rw [← hgo]
  have hpushed : (s1.heap.push go).get? s1.heap.objs.size = some go := Heap.get?_push_size _ (by rw [← hgo]; rfl)
  have kp : ∀ b o, s.heap.get? b = some o → (s1.heap.push go).get? b = some o := fun b o e => Heap.get?_push_of_some _ (kp1 b o e)
  have Ic : ∀ tk2 : Nat, Inv X pins σ H { s1 with gens := s1.gens.push (.fresh (.func t.body (envOfC qual scope s.heap.objs.size f cdv))), toks := tk2, heap := s1.heap.push go } := fun tk2 => by
    have z := I.call (ch := []) (g' := s1.gens.push (.fresh (.func t.body (envOfC qual scope s.heap.objs.size f cdv)))) (t' := tk2) (d' := s1.drawn) (Un.kept kp) (I.hok.kept kp) (AllBare.push (by rw [gen1]; exact I.bare) rfl) (fun b hb => by simp at hb)
    obtain ⟨hh, gg, dd, tt, oo⟩ := s1
    have eo : oo = s.os := by
      have := congrArg Shared.os es1
      exact this
    subst eo
    exact z
  have old : ∀ b, b < s.heap.objs.size → b ≠ s.heap.objs.size ∧ b ≠ s1.heap.objs.size := fun b h => ⟨Nat.ne_of_lt h, Nat.ne_of_lt (Nat.lt_trans h lt1)⟩
  have hpo : ∀ p ∈ X.pn ++ pins, p.1 < s.heap.objs.size := fun p hp => Heap.lt_size (I.pin p hp).1
  have stk : ∀ b ∈ frs X.stack, b < s.heap.objs.size := fun b hb => by
    obtain ⟨_, o, ho, _⟩ := I.env0.funs.mem hb
    exact Heap.lt_size ho
  have fsl : ∀ b ∈ X.fs, b < s.heap.objs.size := fun b hb => by
    obtain ⟨_, o, ho, _⟩ := I.funs.mem hb
    exact Heap.lt_size ho
  refine ⟨s.heap.objs.size, s1.heap.objs.size, s1.gens.size, go, oL, m, rfl, ⟨Nat.le_trans I.ok.bsz I.sz, .inr I.sz, stk, fsl, Nat.ne_of_lt I.lt, fun y c e => ?_⟩, fun p hp => old _ (hpo p hp), (Ic _).pins_of fun p hp => ?_, fun h e => ⟨go, _, _, e, hgc, hgd0, hgs⟩, nL, I1.len, fun i y v q1 q2 q3 => ?_, lt1, fun b hb => I.hok.fresh hb, I.sz, Array.getElem?_push_size .., hpo, I.lt, Heap.size_push ..⟩
  · obtain ⟨v, q⟩ := I.cell y c e
    exact q.lt
  · rcases List.mem_append.mp hp with z | z
    · exact (Ic 0).pin p (List.mem_append_right _ z)
    · rcases List.mem_cons.mp z with rfl | z
      · exact ⟨hpushed, I.hok.fresh (Nat.le_of_lt lt1), Nat.ne_of_gt (Nat.lt_trans I.lt lt1), fun q => absurd (fsl _ q) (Nat.not_lt.mpr (Nat.le_of_lt lt1)), fun v q => by rw [hgd0] at q; cases q⟩
      · rw [List.mem_singleton.mp z]
        exact ⟨Heap.get?_push_of_some _ gL, I.hok.fresh (Nat.le_refl _), Nat.ne_of_gt I.lt, fun q => absurd (fsl _ q) (Nat.lt_irrefl _), dL⟩
  · obtain ⟨u, ru, lk'⟩ := hlk i y v q1 q2 q3
    rcases lk' with ⟨z1, z2⟩ | ⟨_, c, z3, _⟩
    · exact ⟨u, ru, z1, z2⟩
    · have z3' : (envOfC qual scope s.heap.objs.size f cdv).cells.lookup y = some c := z3
      rw [show (envOfC qual scope s.heap.objs.size f cdv).cells = [] from SG.nocell _] at z3'
      cases z3'
end
end GF
namespace GF
open PySem PySem.Spec PyProof.Rows L2
theorem forLoop_one {prog : Program} {w : World} {A : Around} {s : Shared} {target : Expr} {it : Value} {body : List Stmt} {env : Env} {R : Result → Shared → Prop} (turn : wpAny (model prog w) A (pyNext it) (fun r s₁ => match r with
      | none => R (.ok .next) s₁
      | some v => wpAny (model prog w) A (letOwnedTupleGo target it v) (fun _ s₂ => wpAny (model prog w) A (assign target env v) (fun _ s₃ => wpAny (model prog w) A (execs body env) (fun f s₄ => match f with
        | .next | .cont => codeAny (model prog w) A (.forLoop target it body [] env) R s₄
        | .brk => R (.ok .next) s₄
        | .ret v => R (.ok (.ret v)) s₄) (fun _ _ => False) s₃) (fun _ _ => False) s₂) (fun _ _ => False) s₁) (fun _ _ => False) s) : codeAny (model prog w) A (.forLoop target it body [] env) R s := by
  refine codeAny_of_tree ?_
  show wpAny _ A ((forTurn target it body [] env).onRaise (fun x => do noteFrame x env; theTreesLotGoes x)) _ _ s
  refine wpAny_noted ?_
  simp only [forTurn]
  refine wpAny_bind (wpAny_standAt (wpAny_bind (wpAny_onRaise (wpAny_mono turn (fun r s₁ h₁ => ?_) fun _ _ h' => h'.elim))))
  cases r with
  | none => exact wpAny_pure ⟨rfl, codeAny_block (wpAny_execs_nil h₁)⟩
  | some v =>
    refine wpAny_bind (wpAny_mono h₁ (fun _ s₁' h₁' => ?_) fun _ _ h' => h'.elim)
    refine wpAny_bind (wpAny_mono h₁' (fun _ s₂ h₂ => wpAny_bind (wpAny_mono h₂ (fun f s₃ h₃ => ?_) fun _ _ h' => h'.elim)) fun _ _ h' => h'.elim)
    cases f with
    | next => exact wpAny_pure ⟨rfl, h₃⟩
    | cont => exact wpAny_pure ⟨rfl, h₃⟩
    | brk => exact wpAny_pure h₃
    | ret v => exact wpAny_pure h₃
theorem inv_gens {X : Cx} {pins : List (Addr × Obj)} {σ : L2.St} {H : Hp} {s : Shared} {G : Array GenState} (I : Inv X pins σ H s) (h : AllBare G) : Inv X pins σ H (st s G) := ⟨I.ok, I.os, h, I.base, I.loc, I.cell, I.free, I.freeC, I.pin, I.hok, I.len⟩
/-- an expression that makes a generator; tv: the def's arguments -/
def PBorn (X : Cx) (e : Expr) (t : GTxt) (N : List Str) (qual : Str) (scope : Scope) (f : Addr) (cdv : Value) (tv : TA) : Prop := ∀ (pins : List (Addr × Obj)) (s : Shared) (σ : L2.St) (H : Hp) (Qv : List V → Hp → Prop), Inv X pins σ H s → tv σ H Qv →
  wpAny (model X.prog X.w) X.A (eval e X.env) (fun u s' => ∃ vs H1, Born X pins σ H1 t N qual scope f cdv vs u s' ∧ Qv vs H1) X.xe s
/-- a generator def of this form: what its loops want -/
structure GUsable (X : Cx) (t : GTxt) (N : List Str) (qual : Str) (scope : Scope) (f : Addr) (cdv : Value) (ix k : Nat) (ti : TI) : Prop where
  S : GSc N scope
  hi : ∀ L : Addr, interactive (envOfC qual scope L f cdv) = false
  hN : N[ix]? = some t.xn
  hx : scope.names.lookup t.xn = some .local
  hdb : (t.xn == ("__debug__" : Str)) = false
  hcd : (t.xn == ("__classdict__" : Str)) = false
  hs : ∀ (L : Addr) (x : Value), foldedSetIterable t.iter (envOfC qual scope L f cdv) x = pure x
  hPI : ∀ (A : Around) (outer : List Env) (sc : Shared) (Hc : Hp), Room k (A.deeper (envOfC qual scope sc.heap.objs.size f cdv)) → PI (gX X.prog X.w X.K X.mg X.base N qual scope f cdv A outer sc Hc) t.tgt t.iter ti
def upI (w : TI) : TI := fun σ H R => ∃ R0 : It → Hp → Prop, (∀ J H', R0 J H' → R J H') ∧ w σ H R0
/-- for x in g(..): body -/
def tForG (tv : TA) (N : List Str) (ti : TI) (g : TG) (tb : TS) : TS := fun D σ H => tv σ H fun vs H1 => ti (start N vs) H1 fun J H2 => (∀ i H x H', J.yld i H x H' → H' = H) ∧ ∃ W : Nat → Nat → L2.St → Hp → Prop, (∃ m, W 0 m σ H2) ∧ ∀ i m σ H, W i m σ H →
  (J.stop i H ∧ D.nx σ H) ∨ (J.go i H ∧ ∃ Nx : L2.St → Hp → Prop, (∀ σ' H', Nx σ' H' → ∃ m', m' < m ∧ W (i + 1) m' σ' H') ∧ ∀ x, J.yld i H x H → g x σ H fun σ2 H2 => tb { D with nx := Nx, ct := Nx, bk := D.nx } σ2 H2)
section
variable {X : Cx} {e tg : Expr} {body : List Stmt} {t : GTxt} {N : List Str} {qual : Str} {scope : Scope} {f : Addr} {cdv : Value} {ix k : Nat} {ti : TI} {tv : TA} {g : TG} {tb : TS} {pos : Pos}
theorem ps_forG (hxe : ∀ e s, ¬ X.xe e s) (hr : Room (k + 2) X.A) (G : GUsable X t N qual scope f cdv ix k ti) (B : PBorn X e t N qual scope f cdv tv) (hg : PG X tg g) (hb : PSs X body tb) (tmono : ∀ σ H R R', (∀ J H', R J H' → R' J H') → ti σ H R → ti σ H R')
    (hs : ∀ x, foldedSetIterable e X.env x = pure x := by intro _; rfl) : PS X (.For tg e body [] pos) (tForG tv N ti g tb) := by
  refine ⟨fun pins s σ H D I h => ?_⟩
  refine wpAny_For (thn (B pins s σ H _ I h) fun u s1 ⟨vs, H1, born, rd⟩ => ?_) hs
  obtain ⟨L, a, gn, oa, oL, m, rfl, U, hpi, I1, hga, hns, hlen, hlk, lta, hbig, hsz, hgs, hpl, hlcl, hsize⟩ := born
  have hmid : ∀ (H9 : Hp) (ow : List (Addr × Obj)) b, L < b → b ∉ X.ex → ¬ X.s_0.heap.objs.size ≤ b → H9 b ≠ none ∨ ∃ o, (b, o) ∈ pins ++ ow := fun H9 ow b l _ h => absurd (Nat.le_trans hsz (Nat.le_of_lt l)) h
  have ga := I1.pin (a, oa) (List.mem_append_right _ (List.mem_append_right _ List.mem_cons_self))
  refine wpAny_pyIter_gen (hga _ ga.1) ?_
  have noF : ∀ {α : Type} {tt : Sem α} {Q : α → Shared → Prop} {s : Shared}, wpAny (model X.prog X.w) X.A tt Q X.xe s → wpAny (model X.prog X.w) X.A tt Q (fun _ _ => False) s := fun h => wpAny_mono h (fun _ _ z => z) fun e s z => hxe e s z
  -- a turn's body, beside the sleeper
  have turnBody : ∀ {i mm : Nat} {own : List (Addr × Obj)} {gs : GenState} {σ2 : L2.St} {H2 : Hp} {s2 : Shared} {x : V} {v : Value} {Nx : L2.St → Hp → Prop} {fp : List Addr} {ita : Addr} {tn : Nat → Heap → Prop}
      (cont : ∀ σ7 H7 s7, Nx σ7 H7 → Inv X (pins ++ own) σ7 H7 s7 → s7.gens[gn]? = some gs → codeAny (model X.prog X.w) X.A (.forLoop tg (.ref a) body [] X.env) (fun r s' => match r with | .ok f => SP X pins D f s' | .error e => cameBackBy (model X.prog X.w) X.A X.env X.xe e s') s7),
      Inv X (pins ++ own) σ2 H2 s2 → s2.gens[gn]? = some gs → Slp X t N qual scope f cdv fp ita tn L a gn i own gs → RelV x v → (g x σ2 H2 fun σ3 H3 => tb { D with nx := Nx, ct := Nx, bk := D.nx } σ3 H3) →
      wpAny (model X.prog X.w) X.A (letOwnedTupleGo tg (.ref a) v) (fun _ s₂ => wpAny (model X.prog X.w) X.A (assign tg X.env v) (fun _ s₃ => wpAny (model X.prog X.w) X.A (execs body X.env) (fun f s₄ => match f with
        | .next | .cont => codeAny (model X.prog X.w) X.A (.forLoop tg (.ref a) body [] X.env) (fun r s' => match r with | .ok f => SP X pins D f s' | .error e => cameBackBy (model X.prog X.w) X.A X.env X.xe e s') s₄
        | .brk => SP X pins D .next s₄
        | .ret v => SP X pins D (.ret v) s₄) (fun _ _ => False) s₃) (fun _ _ => False) s₂) (fun _ _ => False) s2 := by
    intro i mm own gs σ2 H2 s2 x v Nx fp ita tn cont I2 hg2 Sl rv rdb
    obtain ⟨oa2, ma2, hga2⟩ := Sl.gen
    have ga2 := I2.pin (a, oa2) (List.mem_append_right _ (List.mem_append_right _ ma2))
    obtain ⟨o', nm, qn, ho', hc', hd', hs'⟩ := hga2 _ ga2.1
    refine go_of ho' hc' hd' (by decide) ?_
    have hsus : susp gs = true := Sl.asl.1
    have Iy : Inv X (pins ++ own) σ2 H2 (st s2 (asleep s2.gens)) := inv_gens I2 (bare_asleep I2.bare)
    have f1 := wpAny_frame (s := st s2 (asleep s2.gens)) (G := s2.gens) (noF (hg.run _ _ σ2 H2 x v _ Iy rv rdb)) (ok_asleep s2.gens) (rel_asleep s2.gens)
    refine wpAny_mono f1 (fun _ s3 h3 => ?_) fun e s3 ⟨_, _, _, z, _⟩ => z
    obtain ⟨y3, G3, rfl, ⟨σ3, H3, I3, q3⟩, r3, k3⟩ := h3
    have f2 := wpAny_frame (G := G3) (noF (hb.run _ y3 σ3 H3 _ I3 q3)) k3 r3
    refine wpAny_mono f2 (fun fl s4 h4 => ?_) fun e s4 ⟨_, _, _, z, _⟩ => z
    obtain ⟨y4, G4, rfl, q4, r4, k4⟩ := h4
    have bare4 : ∀ {σ' H' pp}, Inv X pp σ' H' y4 → AllBare G4 := fun J => r4.bare I2.bare J.bare
    have at4 : (st y4 G4).gens[gn]? = some gs := r4.at hg2 hsus
    have drop : ∀ {σ' : L2.St} {H' : Hp} {s' : Shared}, Inv X (pins ++ own) σ' H' s' → Inv X pins σ' H' s' := fun J => J.unpinned
    cases fl with
    | next =>
      obtain ⟨σ7, H7, I7, n7⟩ := q4
      exact cont σ7 H7 _ n7 (inv_gens I7 (bare4 I7)) at4
    | cont =>
      obtain ⟨σ7, H7, I7, n7⟩ := q4
      exact cont σ7 H7 _ n7 (inv_gens I7 (bare4 I7)) at4
    | brk =>
      obtain ⟨σ7, H7, I7, n7⟩ := q4
      exact ⟨σ7, H7, drop (inv_gens I7 (bare4 I7)), n7⟩
    | ret v =>
      obtain ⟨x7, σ7, H7, I7, r7, n7⟩ := q4
      exact ⟨x7, σ7, H7, drop (inv_gens I7 (bare4 I7)), r7, n7⟩
  refine forLoop_one (step_first hr G.S G.hi G.hN G.hx G.hdb G.hcd G.hs G.hPI U hpi I1 hga hns hlen hlk lta (hmid _ _) hgs (tmono _ _ _ _ (fun J H2 hJ => ?_) rd))
  obtain ⟨hy, W, ⟨m0, w0⟩, turn⟩ := hJ
  have loop : ∀ (mm i : Nat) (σ2 : L2.St) (H2 : Hp) (s2 : Shared) (own : List (Addr × Obj)) (gs : GenState) (fp : List Addr) (ita : Addr) (tn : Nat → Heap → Prop), W i mm σ2 H2 → Turn X.prog X.w X.K t.tgt J fp ita tn → (∀ p ∈ X.pn ++ pins, p.1 ≠ L ∧ p.1 ∉ fp ∧ p.1 ≠ a) → Inv X (pins ++ own) σ2 H2 s2 → s2.gens[gn]? = some gs → Slp X t N qual scope f cdv fp ita tn L a gn i own gs →
      codeAny (model X.prog X.w) X.A (.forLoop tg (.ref a) body [] X.env) (fun r s' => match r with | .ok f => SP X pins D f s' | .error e => cameBackBy (model X.prog X.w) X.A X.env X.xe e s') s2 := by
    intro mm
    induction mm using Nat.strongRecOn with
    | ind mm ih =>
      intro i σ2 H2 s2 own gs fp ita tn w2 T hpp I2 hg2 Sl
      refine forLoop_one (step_wake hr G.S G.hi G.hN G.hx G.hdb G.hcd T hy U hpp I2 Sl hg2 (hmid _ _) ?_)
      rcases turn i mm σ2 H2 w2 with ⟨stop, qn⟩ | ⟨go, Nx, hNx, step⟩
      · exact .inl ⟨stop, fun s' J' => ⟨σ2, H2, J', qn⟩⟩
      · refine .inr ⟨go, fun v x s' own' gs' rv y I' hg' Sl' => ?_⟩
        refine turnBody (i := i + 1) (mm := mm) (fun σ7 H7 s7 n7 I7 hg7 => ?_) I' hg' Sl' rv (step x y)
        obtain ⟨m', hm, w7⟩ := hNx σ7 H7 n7
        exact ih m' hm (i + 1) σ7 H7 s7 own' gs' fp ita tn w7 T hpp I7 hg7 Sl'
  refine ⟨(fun b o hb e => by rw [hbig b hb] at e; cases e), hy, ?_⟩
  rcases turn 0 m0 σ H2 w0 with ⟨stop, qn⟩ | ⟨go, Nx, hNx, step⟩
  · exact .inl ⟨stop, fun s' J' => ⟨σ, H2, J', qn⟩⟩
  · refine .inr ⟨go, fun fp ita tn v x s' own' gs' T hpp rv y I' hg' Sl' => ?_⟩
    refine turnBody (i := 1) (mm := m0) (fun σ7 H7 s7 n7 I7 hg7 => ?_) I' hg' Sl' rv (step x y)
    obtain ⟨m', hm, w7⟩ := hNx σ7 H7 n7
    exact loop m' 1 σ7 H7 s7 own' gs' fp ita tn w7 T hpp I7 hg7 Sl'
end
end GF
namespace GF
open PySem PySem.Spec PyProof.Rows L2 Z
/-- o.m(), m a generator def of o's class: its arguments -/
def zBorn0 (C : Addr) (m : Str) (ta : TE) : TA := fun σ H Qv => ta σ H fun x H1 => insAt H1 x fun a C' dx fs => (C' = C ∧ fs.lookup m = none) ∧ Qv [.ref a] H1
section
variable {X : Cx} {t : GTxt} {N ps : List Str} {name qual : Str} {scope : Scope} {f C : Addr} {cdv : Value} {o : Expr} {ta : TE} {m : Str} {apos pos : Pos} {k j : Nat}
theorem pborn_meth0 {params : Arguments} {dV kV doc pm ct oc : Value} {an od : Option Addr} {osl : Array (Option Value)} {pl : Sem Bool} (he : PE X o ta) (c : Cls X.K C) (hm : Meth X.K C m f) (lk : X.K.lookup f = some ⟨oc, od, .func (PySem.W.fnOf name qual params t.body scope dV kV doc pm an cdv ct), osl⟩) (hcd : PySem.W.codeIn X.K cdv qual = true)
    (S : GScope N ["self"] scope) (SG : GSc N scope) (hr : Room k X.A) (hb : L2.Binds X.K (PySem.W.fnOf name qual params t.body scope dV kV doc pm an cdv ct) ["self"] [])
    (ht : eval (.Call (.Attribute o m apos) [] [] pos) X.env = (do
      let ov ← eval o X.env
      standAt apos.atName
      let (f, first) ← holding [ov] (getMethod ov m pl)
      callWith pos f first (backTo pos (starEach [] X.env)) (backToKw pos (keywordEach [] X.env))) := by rfl) : PBorn X (.Call (.Attribute o m apos) [] [] pos) t N qual scope f cdv (zBorn0 C m ta) := by
  intro pins s σ H Qv I h
  refine PySem.W.methodCall_KW (pl := pl) (thn ((pe_up he).run pins s σ H (fun x H1 => ∃ a dx fs, x = .ref a ∧ H1 a = some (.ins C dx fs) ∧ fs.lookup m = none ∧ Qv [.ref a] H1) I ⟨_, fun x H1 q => by
    obtain ⟨a, C', dx, fs, ex, ha, ⟨ec, q2⟩, q3⟩ := insAt_ok q
    subst ec
    exact ⟨a, dx, fs, ex, ha, q2, q3⟩, h⟩) fun u s1 hh => ?_) ht
  obtain ⟨x, H1, I1, rx, a, dx, fs, ex, ea, l, q⟩ := hh
  subst ex
  obtain rfl : u = Value.ref a := rx
  refine getmeth_ok I1 ea c hm l ?_
  refine PySem.W.callWith_K0 (first := [.ref a]) I1.kIn hm.kp ?_
  refine wpAny_mono (gen_made (us := [.ref a]) (vs := [.ref a]) I1 lk hcd S SG hr hb (.cons rfl .nil) rfl (E := X.xe)) (fun u2 s2 hB => ⟨_, H1, hB, q⟩) fun _ _ z => z
end
end GF
namespace GF
open PySem PySem.Spec PyProof.Rows L2 Z
theorem compLoop_one {prog : Program} {w : World} {A : Around} {R : Result → Shared → Prop} {s : Shared} {elt target iter : Expr} {ifs : List Expr} {scope : Scope} {pos : Pos} {it acc : Value} {env : Env}
    (turn : wpAny (model prog w) A (pyNext it) (fun r s₁ => match r with
      | none => R (.ok .next) s₁
      | some v => wpAny (model prog w) A (letOwnedTupleGo target it v) (fun _ s₁' => wpAny (model prog w) A (assign target env v) (fun _ s₂ =>
          wpAny (model prog w) A (forIn ifs true fun c r => if r = true then do let ok ← isTrue c env (eval c env); pure (ForInStep.yield ok) else pure (ForInStep.yield r)) (fun ok s₃ =>
            if ok = true then wpAny (model prog w) A (eval elt env) (fun x s₄ =>
              wpAny (model prog w) A (call (.builtin "list.append") [acc, x]) (fun _ s₅ => codeAny (model prog w) A (.compLoop (.ListComp elt [⟨target, iter, ifs, 0⟩] scope pos) 0 it acc env) R s₅) (fun _ _ => False) s₄) (fun _ _ => False) s₃
            else codeAny (model prog w) A (.compLoop (.ListComp elt [⟨target, iter, ifs, 0⟩] scope pos) 0 it acc env) R s₃) (fun _ _ => False) s₂) (fun _ _ => False) s₁') (fun _ _ => False) s₁) (fun _ _ => False) s) :
    codeAny (model prog w) A (.compLoop (.ListComp elt [⟨target, iter, ifs, 0⟩] scope pos) 0 it acc env) R s := by
  refine codeAny_of_tree ?_
  show wpAny _ A ((compTurn (.ListComp elt [⟨target, iter, ifs, 0⟩] scope pos) 0 it acc env).onRaise (fun x => do noteFrame x env; theTreesLotGoes x)) _ _ s
  refine wpAny_noted ?_
  rw [compTurn_list]
  refine wpAny_bind (wpAny_standAt (wpAny_bind (wpAny_mono turn (fun r s₁ h₁ => ?_) fun _ _ h' => h'.elim)))
  cases r with
  | none => exact wpAny_pure h₁
  | some v =>
    refine wpAny_bind (wpAny_mono h₁ (fun _ s₁' h₁' => ?_) fun _ _ h' => h'.elim)
    refine wpAny_bind (wpAny_mono h₁' (fun _ s₂ h₂ => wpAny_bind (wpAny_mono h₂ (fun ok s₃ h₃ => ?_) fun _ _ h' => h'.elim)) fun _ _ h' => h'.elim)
    cases ok with
    | false => exact wpAny_pure ⟨rfl, h₃⟩
    | true =>
      exact wpAny_bind (wpAny_bind (wpAny_mono h₃ (fun x s₄ h₄ => wpAny_bind (wpAny_mono h₄ (fun _ s₅ h₅ => wpAny_pure (wpAny_pure ⟨rfl, h₅⟩)) fun _ _ h' => h'.elim)) fun _ _ h' => h'.elim))
/-- [e for x in g(..) if ..] -/
def tLcG (tv : TA) (N : List Str) (ti : TI) (g : TG) (tt : TT) (te : TE) (vs : List Nat) : TE := fun σ H Q => tv σ H fun ws H1 => ∀ D, H1 D = none → ti (start N ws) (upd H1 D (.lst [])) fun J H2 => H2 D = some (.lst []) ∧ (∀ i H x H', J.yld i H x H' → H' = H) ∧
  ∃ W : Nat → Nat → Hp → Prop, (∃ m, W 0 m H2) ∧ ∀ i m H, W i m H → H D ≠ none ∧ ((J.stop i H ∧ Q (.ref D) H) ∨ (J.go i H ∧ ∃ Nx : Hp → Prop, (∀ H', Nx H' → ∃ m', m' < m ∧ W (i + 1) m' H') ∧ ∀ x, J.yld i H x H → g x (wipe σ vs) H fun σ2 H2 => wipe σ2 vs = wipe σ vs ∧ tt σ2 H2 fun b H3 =>
    if b = true then te σ2 H3 fun y H4 => ∃ acc, H4 D = some (.lst acc) ∧ acc.length < sizeLine ∧ Nx (upd H4 D (.lst (acc ++ [y]))) else Nx H3))
section
variable {X : Cx} {t : GTxt} {N : List Str} {qual : Str} {scope : Scope} {f : Addr} {cdv : Value} {ix k : Nat} {ti : TI} {tv : TA} {g : TG} {tt : TT} {te : TE}
theorem lcG_core {pins : List (Addr × Obj)} {s : Shared} {σ : L2.St} {H : Hp} {Q : VK} {elt tg iter : Expr} {ifs : List Expr} {bs : Scope} {own : List (Str × Nat)} {pos pos' : Pos} {use : Option (Value → Sem Unit)} {Qf : Value → Shared → Prop}
    (hr : Room (k + 2) X.A) (G : GUsable X t N qual scope f cdv ix k ti) (B : PBorn X iter t N qual scope f cdv tv) (tmono : ∀ σ H R R', (∀ J H', R J H' → R' J H') → ti σ H R → ti σ H R') (hN : X.N.Nodup) (I : Inv X pins σ H s) (ok : BlkOk X.N X.env.scope bs own) (hnc : ∀ y ∈ bs.names, y.2 ≠ .cell)
    (hg : ∀ (s : Shared) (H : Hp) (C : Addr) (cl : List (Str × Addr)) (fp : List Addr), PG (X.blk s H bs (compEnvC bs cl C X.env) fp) tg g) (ht : ∀ (s : Shared) (H : Hp) (C : Addr) (cl : List (Str × Addr)) (fp : List Addr), PTs (X.blk s H bs (compEnvC bs cl C X.env) fp) ifs tt)
    (he : ∀ (s : Shared) (H : Hp) (C : Addr) (cl : List (Str × Addr)) (fp : List Addr), PE (X.blk s H bs (compEnvC bs cl C X.env) fp) elt te) (hs : ∀ x, foldedSetIterable iter X.env x = pure x)
    (h : tLcG tv N ti g tt te (own.map (·.2)) σ H Q)
    (hRR : ∀ D C s' m H', Inv X pins σ H' s' → Q (.ref D) H' → s'.heap.Ns C m → FpOk X pins H' C → compPost (model X.prog X.w) X.A X.xe use Qf (.ref D) C (.ok .next) s') :
    wpAny (model X.prog X.w) X.A (comprehension (.ListComp elt [⟨tg, iter, ifs, 0⟩] bs pos) bs X.env pos' (newList []) false (eval iter X.env) use) Qf X.xe s := by
  have hfree : ∀ y ∈ bs.names, y.2 = .free → ∃ c, X.env.cells.lookup y.1 = some c := fun y hy e => by
    rcases ok.free y hy e with k | k
    · exact I.ok.has _ (.inl k)
    · exact I.ok.has _ (.inr k)
  refine wpAny_comprehension_free (use := use) rfl hs (closure_ok hfree) ok.kind (fun y hy e => by rw [ok.uniq y hy, e])
    (thn (B pins s σ H _ I h) fun u s1 ⟨ws, H1, born, rd⟩ => ?_)
  obtain ⟨L, a, gn, oa, oL, m, rfl, U, hpi, I1, hga, hns, hlen, hlk, lta, hbig, hsz, hgs, hpl, hlcl, hsize⟩ := born
  have ga := I1.pin (a, oa) (List.mem_append_right _ (List.mem_append_right _ List.mem_cons_self))
  have gL := I1.pin (L, oL) (List.mem_append_right _ (List.mem_append_right _ (List.mem_cons_of_mem _ List.mem_cons_self)))
  refine wpAny_pyIter_gen (hga _ ga.1) ?_
  refine wpAny_newObj_type (newEnv_comp ?_) (by show 0 ≤ sizeLine; decide)
  generalize hD : s1.heap.objs.size = D
  have eD : D = a + 1 := by rw [← hD]; exact hsize
  have hDn : H1 D = none := hbig D (by (unfold Addr at *; omega))
  have rd := rd D hDn
  generalize hs3 : ({ s1 with heap := s1.heap.push { cls := .type "list", data := .seq ([] : List Value).toArray } } : Shared) = s3
  have I3p : Inv X (pins ++ [(a, oa), (L, oL)]) σ (upd H1 D (.lst [])) s3 := by
    rw [← hs3]
    refine I1.laid (t' := s1.toks) (fun b o e => Heap.get?_push_of_some _ e) (Nat.le_of_eq hD) ⟨Nat.zero_le _, [], 0, .nil, ?_⟩
    rw [← hD]
    exact Heap.get?_push_size _ rfl
  have I3 : Inv X pins σ (upd H1 D (.lst [])) s3 := I3p.unpinned
  have h3 : s3.heap = s1.heap.push { cls := .type "list", data := .seq ([] : List Value).toArray } := by rw [← hs3]
  have g3 : s3.gens = s1.gens := by rw [← hs3]
  have z3 : s3.heap.objs.size = a + 2 := by rw [h3, Heap.size_push, hsize]
  have hex : ∀ b, b ∈ (List.range (a - L)).map (L + ·) ↔ L ≤ b ∧ b < a := fun b => by
    rw [List.mem_map]
    constructor
    · rintro ⟨n, hn, rfl⟩
      have := List.mem_range.mp hn
      exact ⟨Nat.le_add_right _ _, by (unfold Addr at *; omega)⟩
    · rintro ⟨h1, h2⟩
      exact ⟨b - L, List.mem_range.mpr (by (unfold Addr at *; omega)), by (unfold Addr at *; omega)⟩
  generalize (List.range (a - L)).map (L + ·) = ex at hex
  have f3 : ∀ b ∈ ex, FpOk X pins (upd H1 D (.lst [])) b ∧ b < s3.heap.objs.size := fun b hb => by
    obtain ⟨q1, q2⟩ := (hex b).mp hb
    refine ⟨⟨?_, Nat.ne_of_gt (Nat.lt_of_lt_of_le hlcl q1), fun z => absurd (U.fs b z) (Nat.not_lt.mpr q1), .inr (Nat.le_trans hsz q1), fun x c e z => ?_, fun p hp z => ?_⟩, by (unfold Addr at *; omega)⟩
    · rw [upd_ne (by (unfold Addr at *; omega))]
      exact hbig b q1
    · have := U.cell x c e
      unfold Addr at *; omega
    · have := hpl p hp
      unfold Addr at *; omega
  have I4 := block_start I3 ok hN f3
  have pg := hg s3 (upd H1 D (.lst [])) s3.heap.objs.size (cellsFrom (s3.heap.objs.size + 1) bs.names (cloFrom X.env.cells bs.names [])) ex
  have pt := ht s3 (upd H1 D (.lst [])) s3.heap.objs.size (cellsFrom (s3.heap.objs.size + 1) bs.names (cloFrom X.env.cells bs.names [])) ex
  have pe := he s3 (upd H1 D (.lst [])) s3.heap.objs.size (cellsFrom (s3.heap.objs.size + 1) bs.names (cloFrom X.env.cells bs.names [])) ex
  show codeAny _ _ (.compStart (.ListComp elt [⟨tg, iter, ifs, 0⟩] bs pos) 0 (.ref a) (.ref D) (compEnvC bs (cellsFrom (s3.heap.objs.size + 1) bs.names (cloFrom X.env.cells bs.names [])) s3.heap.objs.size X.env)) (compPost (model X.prog X.w) X.A X.xe use Qf (.ref D) s3.heap.objs.size) { s3 with heap := pushCells (s3.heap.push { cls := .type "dict", data := .dict #[] }) bs.names }
  generalize hce : compEnvC bs (cellsFrom (s3.heap.objs.size + 1) bs.names (cloFrom X.env.cells bs.names [])) s3.heap.objs.size X.env = ce at I4 pg pt pe ⊢
  have cL : ce.locals = s3.heap.objs.size := by subst hce; rfl
  have cC : ∀ x c, ce.cells.lookup x = some c → c < L := fun x c e => by
    have e' : (cellsFrom (s3.heap.objs.size + 1) bs.names (cloFrom X.env.cells bs.names [])).lookup x = some c := by rw [← hce] at e; exact e
    rw [← Heap.size_push s3.heap { cls := .type "dict", data := .dict #[] }] at e'
    rcases cells_mem (PySem.mem_of_lookup e') with q | ⟨q, _⟩
    · rcases cloFrom_mem q with q | ⟨q1, q2⟩
      · cases q
      · obtain ⟨c', hc'⟩ := hfree _ q1 rfl
        have hc'' : X.env.cells.lookup x = some c' := hc'
        rw [hc''] at q2
        have : c = c' := q2
        rw [this]
        exact U.cell x c' hc''
    · exact absurd rfl (hnc _ q)
  generalize hH3 : upd H1 D (.lst []) = H3 at I3 I3p I4 pg pt pe f3 rd
  have H3D : H3 D ≠ none := by rw [← hH3, upd_same]; intro z; cases z
  generalize hs4 : ({ s3 with heap := pushCells (s3.heap.push { cls := .type "dict", data := .dict #[] }) bs.names } : Shared) = s4 at I4 ⊢
  have k4 : ∀ b o, s3.heap.get? b = some o → s4.heap.get? b = some o := fun b o e => by rw [← hs4]; exact pushCells_keeps _ _ _ _ (Heap.get?_push_of_some _ e)
  have ga3 := I3p.pin (a, oa) (List.mem_append_right _ (List.mem_append_right _ List.mem_cons_self))
  have gL3 := I3p.pin (L, oL) (List.mem_append_right _ (List.mem_append_right _ (List.mem_cons_of_mem _ List.mem_cons_self)))
  generalize hX : X.blk s3 H3 bs ce ex = X' at I4 pg pt pe
  have eA : X'.A = X.A := by rw [← hX]
  have eP : X'.prog = X.prog := by rw [← hX]
  have eW : X'.w = X.w := by rw [← hX]
  have ePn : X'.pn = [] := by rw [← hX]
  have eXe : X'.xe = fun _ _ => False := by rw [← hX]
  have eEnv : X'.env = ce := by rw [← hX]
  have eFs : X'.fs = frs X.stack := by rw [← hX]
  have eSt : X'.stack = X.stack := by rw [← hX]
  have eEx : X'.ex = ex := by rw [← hX]
  have eS0 : X'.s_0 = s3 := by rw [← hX]
  have I4p : Inv X' ([] ++ [(a, oa), (L, oL)]) (wipe σ (own.map (·.2))) H3 s4 := I4.pins_of fun p hp => by
    rcases List.mem_cons.mp (show p ∈ [(a, oa), (L, oL)] from hp) with rfl | hp
    · exact ⟨k4 _ _ ga3.1, ga3.2.1, by rw [eEnv, cL, z3]; show a ≠ a + 2; (try unfold Addr at *); omega, by rw [eFs]; exact fun z => absurd (U.fr _ z) (by show ¬ a < L; (try unfold Addr at *); omega), ga3.2.2.2.2⟩
    · rw [List.mem_singleton.mp hp]
      exact ⟨k4 _ _ gL3.1, gL3.2.1, by rw [eEnv, cL, z3]; show L ≠ a + 2; (try unfold Addr at *); omega, by rw [eFs]; exact fun z => absurd (U.fr _ z) (Nat.lt_irrefl _), gL3.2.2.2.2⟩
  have U' : GUse X' L := ⟨by rw [← hX]; exact U.base, .inl (by rw [eEx]; exact (hex L).mpr ⟨Nat.le_refl _, lta⟩), by rw [eSt]; exact U.fr, by rw [eFs]; exact U.fr, by rw [eEnv, cL, z3]; (try unfold Addr at *); omega, by rw [eEnv]; exact cC⟩
  have G' : GUsable X' t N qual scope f cdv ix k ti := by rw [← hX]; exact ⟨G.S, G.hi, G.hN, G.hx, G.hdb, G.hcd, G.hs, G.hPI⟩
  have hr' : Room (k + 2) X'.A := by rw [eA]; exact hr
  have hmid : ∀ (H9 : Hp) (ow : List (Addr × Obj)), H9 D ≠ none → (∃ o, (a, o) ∈ ow) → ∀ b, L < b → b ∉ X'.ex → ¬ X'.s_0.heap.objs.size ≤ b → H9 b ≠ none ∨ ∃ o, (b, o) ∈ [] ++ ow := fun H9 ow hd ⟨o, ho⟩ b l1 l2 l3 => by
    rw [eEx, hex] at l2
    rw [eS0, z3] at l3
    by_cases q : b = a
    · rw [q]; exact .inr ⟨o, ho⟩
    · have : b = D := by (unfold Addr at *; omega)
      rw [this]; exact .inl hd
  have noP : ∀ (fp : List Addr), ∀ p ∈ X'.pn ++ [], p.1 ≠ L ∧ p.1 ∉ fp ∧ p.1 ≠ a := fun fp p hp => by rw [ePn] at hp; simp at hp
  have hgs4 : s4.gens[gn]? = some (.fresh (.func t.body (envOfC qual scope L f cdv))) := by rw [← hs4]; show s3.gens[gn]? = _; rw [g3]; exact hgs
  have RR : ∀ (H' : Hp) (s' : Shared), Inv X' [] (wipe σ (own.map (·.2))) H' s' → Q (.ref D) H' → compPost (model X.prog X.w) X.A X.xe use Qf (.ref D) s3.heap.objs.size (.ok .next) s' := fun H' s' I6 qq => by
    have hb : Un (frs X.stack) ex H3 H' s3.heap s'.heap := by
      have z := I6.base
      rw [← hX] at z
      exact z
    have ho : s'.os = s3.os := by
      have z := I6.os
      rw [eS0] at z
      exact z
    have hk : HOk X.prog X.w H' s'.heap := by
      have z := I6.hok
      rw [eP, eW] at z
      exact z
    have I7 : Inv X pins σ H' s' := I3.call' (ch := ex) ho hb hk I6.bare fun b hb => ⟨(f3 b hb).1.2.2.2.1, (f3 b hb).1.2.1, (f3 b hb).1.2.2.2.2.1, (f3 b hb).1.2.2.2.2.2⟩
    have nC : H' s3.heap.objs.size = none := by
      have z := I6.free
      rw [eEnv, cL] at z
      exact z
    obtain ⟨m, hn, _⟩ := I6.loc
    rw [eEnv, cL] at hn
    exact hRR D s3.heap.objs.size s' m H' I7 qq hn (I3.fpOk (Nat.le_refl _) nC)
  generalize hR : compPost (model X.prog X.w) X.A X.xe use Qf (.ref D) s3.heap.objs.size = R at RR ⊢
  generalize hsg : wipe σ (own.map (·.2)) = σ0 at I4 I4p RR rd
  -- a turn's body, beside the sleeper
  have turnBody : ∀ {i : Nat} {ow : List (Addr × Obj)} {gs : GenState} {H2 : Hp} {s2 : Shared} {x : V} {v : Value} {Nx : Hp → Prop} {fp : List Addr} {ita : Addr} {tn : Nat → Heap → Prop}
      (cont : ∀ H7 s7, Nx H7 → Inv X' ([] ++ ow) σ0 H7 s7 → s7.gens[gn]? = some gs → codeAny (model X.prog X.w) X.A (.compLoop (.ListComp elt [⟨tg, iter, ifs, 0⟩] bs pos) 0 (.ref a) (.ref D) ce) R s7),
      Inv X' ([] ++ ow) σ0 H2 s2 → s2.gens[gn]? = some gs → Slp X' t N qual scope f cdv fp ita tn L a gn i ow gs → RelV x v →
      (g x σ0 H2 fun σ2 H2 => wipe σ2 (own.map (·.2)) = σ0 ∧ tt σ2 H2 fun b H3 => if b = true then te σ2 H3 fun y H4 => ∃ acc, H4 D = some (.lst acc) ∧ acc.length < sizeLine ∧ Nx (upd H4 D (.lst (acc ++ [y]))) else Nx H3) →
      wpAny (model X.prog X.w) X.A (letOwnedTupleGo tg (.ref a) v) (fun _ s₁' => wpAny (model X.prog X.w) X.A (assign tg ce v) (fun _ s₂ =>
          wpAny (model X.prog X.w) X.A (forIn ifs true fun c r => if r = true then do let ok ← isTrue c ce (eval c ce); pure (ForInStep.yield ok) else pure (ForInStep.yield r)) (fun ok s₃ =>
            if ok = true then wpAny (model X.prog X.w) X.A (eval elt ce) (fun x s₄ =>
              wpAny (model X.prog X.w) X.A (call (.builtin "list.append") [.ref D, x]) (fun _ s₅ => codeAny (model X.prog X.w) X.A (.compLoop (.ListComp elt [⟨tg, iter, ifs, 0⟩] bs pos) 0 (.ref a) (.ref D) ce) R s₅) (fun _ _ => False) s₄) (fun _ _ => False) s₃
            else codeAny (model X.prog X.w) X.A (.compLoop (.ListComp elt [⟨tg, iter, ifs, 0⟩] bs pos) 0 (.ref a) (.ref D) ce) R s₃) (fun _ _ => False) s₂) (fun _ _ => False) s₁') (fun _ _ => False) s2 := by
    intro i ow gs H2 s2 x v Nx fp ita tn cont I2 hg2 Sl rv rdb
    obtain ⟨oa2, ma2, hga2⟩ := Sl.gen
    have ga2 := I2.pin (a, oa2) (List.mem_append_right _ (List.mem_append_right _ ma2))
    obtain ⟨o', nm, qn, ho', hc', hd', hs'⟩ := hga2 _ ga2.1
    refine go_of ho' hc' hd' (by decide) ?_
    have hsus : susp gs = true := Sl.asl.1
    have Iy : Inv X' ([] ++ ow) σ0 H2 (st s2 (asleep s2.gens)) := inv_gens I2 (bare_asleep I2.bare)
    have r1 := pg.run _ _ σ0 H2 x v _ Iy rv rdb
    rw [eP, eW, eA, eEnv, eXe] at r1
    have f1 := wpAny_frame (s := st s2 (asleep s2.gens)) (G := s2.gens) r1 (ok_asleep s2.gens) (rel_asleep s2.gens)
    refine wpAny_mono f1 (fun _ s5 h5 => ?_) fun e s5 ⟨_, _, _, z, _⟩ => z
    obtain ⟨y5, G5, rfl, ⟨σ5, H5, I5, hw, q5⟩, rg5, kg5⟩ := h5
    have r2 := pt.run _ y5 σ5 H5 _ I5 q5
    rw [eP, eW, eA, eEnv, eXe] at r2
    have f2 := wpAny_frame (G := G5) r2 kg5 rg5
    refine wpAny_mono f2 (fun bb s6 h6 => ?_) fun e s6 ⟨_, _, _, z, _⟩ => z
    obtain ⟨y6, G6, rfl, ⟨H6, I6, q6⟩, rg6, kg6⟩ := h6
    have fin : ∀ {y : Shared} {H' : Hp} {GG : Array GenState}, Inv X' ([] ++ ow) σ5 H' y → RelG (orig s2.gens) y.gens GG → Nx H' → codeAny (model X.prog X.w) X.A (.compLoop (.ListComp elt [⟨tg, iter, ifs, 0⟩] bs pos) 0 (.ref a) (.ref D) ce) R (st y GG) := fun {y H' GG} I' rg nx => by
      refine cont H' (st y GG) nx ((inv_gens I' (rg.bare I2.bare I'.bare)).weak (by rw [← hw, wipe_length]) fun j v e => ?_) (rg.at hg2 hsus)
      rw [← hw] at e
      exact (wipe_some e).1
    cases bb with
    | false =>
      simp only [Bool.false_eq_true, if_false] at q6 ⊢
      exact fin I6 rg6 q6
    | true =>
      simp only [if_true] at q6 ⊢
      have r3 := pe.run _ y6 σ5 H6 _ I6 q6
      rw [eP, eW, eA, eEnv, eXe] at r3
      have f3 := wpAny_frame (G := G6) r3 kg6 rg6
      refine wpAny_mono f3 (fun z s7 h7 => ?_) fun e s7 ⟨_, _, _, z, _⟩ => z
      obtain ⟨y7, G7, rfl, ⟨yv, H7, I7, r7, acc, hD7, hz7, nx⟩, rg7, kg7⟩ := h7
      have r4 := app_ok (X := X') (E := fun _ _ => False) (Q := fun _ s' => Inv X' ([] ++ ow) σ5 (upd H7 D (.lst (acc ++ [yv]))) s') I7 hD7 hz7 r7 fun s8 I8 => I8
      rw [eP, eW, eA] at r4
      have f4 := wpAny_frame (G := G7) r4 kg7 rg7
      refine wpAny_mono f4 (fun _ s8 h8 => ?_) fun e s8 ⟨_, _, _, z, _⟩ => z
      obtain ⟨y8, G8, rfl, I8, rg8, kg8⟩ := h8
      exact fin I8 rg8 nx
  have loop0 : codeAny (model X.prog X.w) X.A (.compLoop (.ListComp elt [⟨tg, iter, ifs, 0⟩] bs pos) 0 (.ref a) (.ref D) ce) R s4 := by
    refine compLoop_one ?_
    have first := step_first (X := X') (pins := []) (σ := σ0) (H := H3) (s := s4) (E := fun _ _ => False) (Q := fun r s₁ => match r with
      | none => R (.ok .next) s₁
      | some v => wpAny (model X.prog X.w) X.A (letOwnedTupleGo tg (.ref a) v) (fun _ s₁' => wpAny (model X.prog X.w) X.A (assign tg ce v) (fun _ s₂ =>
          wpAny (model X.prog X.w) X.A (forIn ifs true fun c r => if r = true then do let ok ← isTrue c ce (eval c ce); pure (ForInStep.yield ok) else pure (ForInStep.yield r)) (fun ok s₃ =>
            if ok = true then wpAny (model X.prog X.w) X.A (eval elt ce) (fun x s₄ =>
              wpAny (model X.prog X.w) X.A (call (.builtin "list.append") [.ref D, x]) (fun _ s₅ => codeAny (model X.prog X.w) X.A (.compLoop (.ListComp elt [⟨tg, iter, ifs, 0⟩] bs pos) 0 (.ref a) (.ref D) ce) R s₅) (fun _ _ => False) s₄) (fun _ _ => False) s₃
            else codeAny (model X.prog X.w) X.A (.compLoop (.ListComp elt [⟨tg, iter, ifs, 0⟩] bs pos) 0 (.ref a) (.ref D) ce) R s₃) (fun _ _ => False) s₂) (fun _ _ => False) s₁') (fun _ _ => False) s₁)
      hr' G'.S G'.hi G'.hN G'.hx G'.hdb G'.hcd G'.hs G'.hPI U' (fun p hp => ⟨(noP [] p hp).1, (noP [] p hp).2.2⟩) I4p hga hns hlen hlk lta (hmid _ _ H3D ⟨oa, List.mem_cons_self⟩) hgs4 (tmono _ _ _ _ (fun J H2 hJ => ?_) rd)
    · rw [eP, eW, eA] at first
      exact first
    obtain ⟨hD2, hy, W, ⟨m0, w0⟩, turn⟩ := hJ
    have loop : ∀ (mm i : Nat) (H2 : Hp) (s2 : Shared) (ow : List (Addr × Obj)) (gs : GenState) (fp : List Addr) (ita : Addr) (tn : Nat → Heap → Prop), W i mm H2 → Turn X'.prog X'.w X'.K t.tgt J fp ita tn → Inv X' ([] ++ ow) σ0 H2 s2 → s2.gens[gn]? = some gs → Slp X' t N qual scope f cdv fp ita tn L a gn i ow gs →
        codeAny (model X.prog X.w) X.A (.compLoop (.ListComp elt [⟨tg, iter, ifs, 0⟩] bs pos) 0 (.ref a) (.ref D) ce) R s2 := by
      intro mm
      induction mm using Nat.strongRecOn with
      | ind mm ih =>
        intro i H2 s2 ow gs fp ita tn w2 T I2 hg2 Sl
        obtain ⟨hdn, tu⟩ := turn i mm H2 w2
        refine compLoop_one ?_
        have wk := step_wake (X := X') (pins := []) (E := fun _ _ => False) (Q := fun r s₁ => match r with
          | none => R (.ok .next) s₁
          | some v => wpAny (model X.prog X.w) X.A (letOwnedTupleGo tg (.ref a) v) (fun _ s₁' => wpAny (model X.prog X.w) X.A (assign tg ce v) (fun _ s₂ =>
              wpAny (model X.prog X.w) X.A (forIn ifs true fun c r => if r = true then do let ok ← isTrue c ce (eval c ce); pure (ForInStep.yield ok) else pure (ForInStep.yield r)) (fun ok s₃ =>
                if ok = true then wpAny (model X.prog X.w) X.A (eval elt ce) (fun x s₄ =>
                  wpAny (model X.prog X.w) X.A (call (.builtin "list.append") [.ref D, x]) (fun _ s₅ => codeAny (model X.prog X.w) X.A (.compLoop (.ListComp elt [⟨tg, iter, ifs, 0⟩] bs pos) 0 (.ref a) (.ref D) ce) R s₅) (fun _ _ => False) s₄) (fun _ _ => False) s₃
                else codeAny (model X.prog X.w) X.A (.compLoop (.ListComp elt [⟨tg, iter, ifs, 0⟩] bs pos) 0 (.ref a) (.ref D) ce) R s₃) (fun _ _ => False) s₂) (fun _ _ => False) s₁') (fun _ _ => False) s₁)
          (show Room ((k + 1) + 1) X'.A from hr') G'.S G'.hi G'.hN G'.hx G'.hdb G'.hcd T hy U' (noP fp) I2 Sl hg2 (hmid _ _ hdn (by obtain ⟨o, ho, _⟩ := Sl.gen; exact ⟨o, ho⟩)) ?_
        · rw [eP, eW, eA] at wk
          exact wk
        rcases tu with ⟨stop, qn⟩ | ⟨go, Nx, hNx, step⟩
        · exact .inl ⟨stop, fun s' J' => RR H2 s' J' qn⟩
        · refine .inr ⟨go, fun v x s' ow' gs' rv y I' hg' Sl' => ?_⟩
          refine turnBody (i := i + 1) (fun H7 s7 n7 I7 hg7 => ?_) I' hg' Sl' rv (step x y)
          obtain ⟨m', hm, w7⟩ := hNx H7 n7
          exact ih m' hm (i + 1) H7 s7 ow' gs' fp ita tn w7 T I7 hg7 Sl'
    obtain ⟨hdn, tu⟩ := turn 0 m0 H2 w0
    refine ⟨fun b o hb e => ?_, hy, ?_⟩
    · by_cases q : b = D
      · rw [q] at e ⊢
        rw [← hH3, upd_same] at e
        rw [← e]; exact hD2
      · rw [← hH3, upd_ne q, hbig b hb] at e
        cases e
    rcases tu with ⟨stop, qn⟩ | ⟨go, Nx, hNx, step⟩
    · exact .inl ⟨stop, fun s' J' => RR H2 s' J' qn⟩
    · refine .inr ⟨go, fun fp ita tn v x s' ow' gs' T hpp rv y I' hg' Sl' => ?_⟩
      refine turnBody (i := 1) (fun H7 s7 n7 I7 hg7 => ?_) I' hg' Sl' rv (step x y)
      obtain ⟨m', hm, w7⟩ := hNx H7 n7
      exact loop m' 1 H7 s7 ow' gs' fp ita tn w7 T I7 hg7 Sl'
  exact codeAny_compStart_list loop0 (wpAny_pyIter_gen (hga _ (k4 _ _ ga3.1)) loop0)
end
end GF
namespace GF
open PySem PySem.Spec PyProof.Rows L2 Z
section
variable {X : Cx} {t : GTxt} {N : List Str} {qual : Str} {scope : Scope} {f : Addr} {cdv : Value} {ix k : Nat} {ti : TI} {tv : TA} {g : TG} {tt : TT} {te : TE}
/-- as a value -/
theorem pe_lcG {elt tg iter : Expr} {ifs : List Expr} {bs : Scope} {own : List (Str × Nat)} {pos : Pos} (hr : Room (k + 2) X.A) (G : GUsable X t N qual scope f cdv ix k ti) (B : PBorn X iter t N qual scope f cdv tv) (tmono : ∀ σ H R R', (∀ J H', R J H' → R' J H') → ti σ H R → ti σ H R') (hN : X.N.Nodup) (ok : BlkOk X.N X.env.scope bs own) (hnc : ∀ y ∈ bs.names, y.2 ≠ .cell)
    (hg : ∀ (s : Shared) (H : Hp) (C : Addr) (cl : List (Str × Addr)) (fp : List Addr), PG (X.blk s H bs (compEnvC bs cl C X.env) fp) tg g) (ht : ∀ (s : Shared) (H : Hp) (C : Addr) (cl : List (Str × Addr)) (fp : List Addr), PTs (X.blk s H bs (compEnvC bs cl C X.env) fp) ifs tt)
    (he : ∀ (s : Shared) (H : Hp) (C : Addr) (cl : List (Str × Addr)) (fp : List Addr), PE (X.blk s H bs (compEnvC bs cl C X.env) fp) elt te) (hs : ∀ x, foldedSetIterable iter X.env x = pure x := by intro _; rfl) :
    PE X (.ListComp elt [⟨tg, iter, ifs, 0⟩] bs pos) (tLcG tv N ti g tt te (own.map (·.2))) := by
  refine ⟨fun pins s σ H Q I h => ?_⟩
  rw [eval_ListComp]
  refine lcG_core hr G B tmono hN I ok hnc hg ht he hs h fun D C s' m H' I' q hn f => ⟨m, hn, fun h'' sb => ?_⟩
  obtain ⟨f0, f1, f2, f3, f4, f5⟩ := f
  exact ⟨.ref D, H', I'.turned (t' := s'.toks) (fun b o hb e => (sb.2 b hb).trans e) f0 f1 f3 f4 f5, rfl, q⟩
/-- name = [..] on one line, the name a local -/
theorem ps_setLcG {i : Nat} {y : Str} {py : Pos} {elt tg iter : Expr} {ifs : List Expr} {bs : Scope} {own : List (Str × Nat)} {pos spos : Pos} (hr : Room (k + 2) X.A) (G : GUsable X t N qual scope f cdv ix k ti) (B : PBorn X iter t N qual scope f cdv tv) (tmono : ∀ σ H R R', (∀ J H', R J H' → R' J H') → ti σ H R → ti σ H R') (hN : X.N.Nodup) (hy : X.N[i]? = some y) (hyl : X.env.scope.names.lookup y = some .local)
    (hsw : swapsWith (.ListComp elt [⟨tg, iter, ifs, 0⟩] bs pos) (some (.Name y py)) spos.line X.env = pure true) (ok : BlkOk X.N X.env.scope bs own) (hnc : ∀ y ∈ bs.names, y.2 ≠ .cell)
    (hg : ∀ (s : Shared) (H : Hp) (C : Addr) (cl : List (Str × Addr)) (fp : List Addr), PG (X.blk s H bs (compEnvC bs cl C X.env) fp) tg g) (ht : ∀ (s : Shared) (H : Hp) (C : Addr) (cl : List (Str × Addr)) (fp : List Addr), PTs (X.blk s H bs (compEnvC bs cl C X.env) fp) ifs tt)
    (he : ∀ (s : Shared) (H : Hp) (C : Addr) (cl : List (Str × Addr)) (fp : List Addr), PE (X.blk s H bs (compEnvC bs cl C X.env) fp) elt te) (hs : ∀ x, foldedSetIterable iter X.env x = pure x := by intro _; rfl) :
    PS X (.Assign [.Name y py] (.ListComp elt [⟨tg, iter, ifs, 0⟩] bs pos) spos) (tAsg (tLcG tv N ti g tt te (own.map (·.2))) (gName i)) := by
  refine ⟨fun pins s σ H D I h => ?_⟩
  rw [exec_Assign_Name_used _ _ _ _ hsw]
  refine wpAny_bind (wpAny_standAt (wpAny_bind ?_))
  show wpAny _ X.A (do let _ ← comprehension (.ListComp elt [⟨tg, iter, ifs, 0⟩] bs pos) bs X.env (firstIterPos [⟨tg, iter, ifs, 0⟩] pos) (newList []) false (eval iter X.env) (some (assign (.Name y py) X.env))) _ _ s
  have h : tLcG tv N ti g tt te (own.map (·.2)) σ H (fun x H1 => gName i x σ H1 D.nx) := h
  refine wpAny_bind (thn (lcG_core (Qf := fun _ s' => SP X pins D .next s') hr G B tmono hN I ok hnc hg ht he hs h fun L C s' m H' I' q hn f => ?_) fun _ s' hq => wpAny_pure (wpAny_pure hq))
  show wpAny _ _ (assign (.Name y py) X.env (.ref L)) _ _ _
  refine wpAny_assign_Name (store_ok2 (v := V.ref L) I' hN hy (.inl hyl) rfl (fun s2 I2 ⟨a, sb, ha⟩ => ?_) (.inr hyl))
  obtain ⟨f0, f1, f2, f3, f4, f5⟩ := f
  have haC : C ≠ a := by
    rcases ha with z | z
    · rw [z]; exact f1
    · exact fun e => f4 y a z e.symm
  refine ⟨m, hn.sameBut sb haC, fun h3 sb3 => ?_⟩
  exact ⟨_, H', I2.turned (t' := s2.toks) (fun b o hb e => (sb3.2 b hb).trans e) f0 f1 f3 f4 f5, q⟩
/-- list(g(..)) -/
def tListOf (tv : TA) (N : List Str) (ti : TI) : TE := fun σ H Q => tv σ H fun ws H1 => ∀ D, H1 D = none → ti (start N ws) (upd H1 D (.lst [])) fun J H2 => H2 D = some (.lst []) ∧ (∀ i H x H', J.yld i H x H' → H' = H) ∧
  ∃ W : Nat → Nat → Hp → Prop, (∃ m, W 0 m H2) ∧ ∀ i m H, W i m H → ((J.stop i H ∧ Q (.ref D) H) ∨ (J.go i H ∧ ∃ Nx : Hp → Prop, (∀ H', Nx H' → ∃ m', m' < m ∧ W (i + 1) m' H') ∧ ∀ x, J.yld i H x H → ∃ acc, H D = some (.lst acc) ∧ acc.length < sizeLine ∧ Nx (upd H D (.lst (acc ++ [x])))))
abbrev X2 (X : Cx) : Cx := { X with A := X.A.in1.in1 }
theorem inv_in {pins : List (Addr × Obj)} {σ : L2.St} {H : Hp} {s : Shared} (I : Inv X pins σ H s) : Inv (X2 X) pins σ H s := by
  obtain ⟨ok, os, bare, base, loc, cell, free, freeC, pin, hok, len⟩ := I
  exact ⟨⟨ok.mod, ok.kind, ok.glob, ok.blt, ok.above, ok.inj, ok.has, ok.cab, fun h => ok.hd h, ok.frames, ok.stk, ok.exf, ok.bs, ok.bsz, ok.noex, ok.exfs, ok.funs, ok.frf⟩, os, bare, base, loc, cell, free, freeC, pin, hok, len⟩
theorem inv_out {pins : List (Addr × Obj)} {σ : L2.St} {H : Hp} {s : Shared} (J : Inv X [] σ H s) : X.Ok := J.ok
theorem pe_listOf {e : Expr} {nm : Str} {p pos : Pos} (hr : Room (k + 4) X.A) (G : GUsable X t N qual scope f cdv ix k ti) (B : PBorn X e t N qual scope f cdv tv) (tmono : ∀ σ H R R', (∀ J H', R J H' → R' J H') → ti σ H R → ti σ H R')
    (hg : Gl X nm) (hmg : X.mg nm = none) (hv : bootBuiltins nm = some (.type "list")) (hnm : nm ≠ "__name__" := by decide) (hdb : (nm == ("__debug__" : Str)) = false := by decide)
    (he : starEach [e] X.env = (false, eval e X.env) :: starEach [] X.env := by rfl) : PE X (.Call (.Name nm p) [e] [] pos) (tListOf tv N ti) := by
  refine ⟨fun pins s0 σ H Q I0 hq => ?_⟩
  refine wpAny_Call_Name_kw (ld_blt I0 hg hmg hv ?_ hnm hdb)
  refine PyProof.Rows.callWith_type1 ?_ he rfl
  rw [he]
  show wpAny _ _ (spliced ((false, eval e X.env) :: backTo pos (starEach [] X.env))) _ _ s0
  refine Calls.spliced_cons (thn (B pins s0 σ H _ I0 hq) fun u s ⟨ws, H1, born, rd⟩ => ?_)
  refine Calls.spliced_nil ?_
  obtain ⟨L, a, gn, oa, oL, m, rfl, U, hpi, I1, hga, hns, hlen, hlk, lta, hbig, hsz, hgs, hpl, hlcl, hsize⟩ := born
  have ok0 := I0.ok
  have ga := I1.pin (a, oa) (List.mem_append_right _ (List.mem_append_right _ List.mem_cons_self))
  have hg0 := hga _ ga.1
  have ha2 : a < s.heap.objs.size := Heap.lt_size ga.1
  have hSa : s.heap.objs.size ≠ a := Nat.ne_of_gt ha2
  refine callType_codes (Q₁ := fun obj s₁ => obj = .ref s.heap.objs.size ∧ s₁ = { s with heap := s.heap.push { cls := .type "list", data := .seq #[] } }) F.called_list (F.typeCall_list_1 _) F.entry_list_init
    (code_list_new _ ⟨rfl, rfl⟩) fun obj s₁ h₁ => ?_
  obtain ⟨rfl, rfl⟩ := h₁
  have hS : (s.heap.push { cls := .type "list", data := .seq #[] }).get? s.heap.objs.size = some { cls := .type "list", data := .seq #[] } := Heap.get?_push_size _ rfl
  refine ⟨⟨_, hS, rfl⟩, F.args_list_init_2 _ _, ?_⟩
  show wpAny _ X.A.in1.in1 (do let old ← Builtin.List.listItems (.ref s.heap.objs.size); Builtin.List.listUpdate (.ref s.heap.objs.size) (fun _ => #[]); letGo old.toList.reverse; Builtin.List.listExtendWith (.ref s.heap.objs.size) (.ref a) .none) _ _ _
  refine wpAny_bind ?_
  unfold Builtin.List.listItems
  refine wpAny_bind (wpAny_seqItems hS rfl (wpAny_pure ?_))
  show wpAny _ X.A.in1.in1 (updateSeq s.heap.objs.size (fun _ => #[]) >>= fun _ => letGo (#[] : Array Value).toList.reverse >>= fun _ => Builtin.List.listExtendWith (.ref s.heap.objs.size) (.ref a) .none) _ _ _
  refine wpAny_bind (wpAny_updateSeq hS rfl ?_)
  have hS2 := Heap.get?_update_self (Obj.mapSeq (fun _ => (#[] : Array Value))) hS rfl
  refine wpAny_bind (wpAny_letGo ?_)
  unfold Builtin.List.listExtendWith
  have up : ∀ (h : Heap) (f : Obj → Obj), (∀ b o, s.heap.get? b = some o → h.get? b = some o) → ∀ b o, s.heap.get? b = some o → (h.update s.heap.objs.size f).get? b = some o := fun h f q b o e =>
    (Heap.get?_update_other _ _ (Ne.symm (Nat.ne_of_lt (Heap.lt_size e)))).trans (q b o e)
  have k1 : ∀ b o, s.heap.get? b = some o → (s.heap.push { cls := .type "list", data := .seq #[] }).get? b = some o := fun b o e => Heap.get?_push_of_some _ e
  have k2 := up _ (Obj.mapSeq (fun _ => (#[] : Array Value))) k1
  have gty : ∀ {h : Heap}, (∀ b o, s.heap.get? b = some o → h.get? b = some o) → h.IsGen a gn := fun {h} q => hg0.keeps q
  refine wpAny_bind (wpAny_typeOf (Heap.IsGen.typeIs (s := { s with heap := _ }) (gty k2)) ?_)
  have h1 : Builtin.List.listSameRef (.ref s.heap.objs.size) (.ref a) = false := by simp [Builtin.List.listSameRef, hSa]
  have h2 : (Value.type "generator" == Value.type "list") = false := by decide
  have h3 : (Value.type "generator" == Value.type "tuple") = false := by decide
  simp only [h1, h2, h3, Bool.or_false, Bool.false_eq_true, if_false]
  refine wpAny_bind (wpAny_pyIter_gen (s := { s with heap := _ }) (gty k2) ?_)
  refine wpAny_bind (wpAny_holding ?_)
  unfold Builtin.List.listLengthHint
  refine wpAny_bind (wpAny_specialOf (Heap.IsGen.typeIs (s := { s with heap := _ }) (gty k2)) F.gen_no_len ?_)
  show wpAny _ X.A.in1.in1 (specialOf (Value.ref a) (Str.ofString "__length_hint__") >>= _) _ _ _
  refine wpAny_bind (wpAny_specialOf (Heap.IsGen.typeIs (s := { s with heap := _ }) (gty k2)) F.gen_no_hint ?_)
  refine wpAny_pure ?_
  show wpAny _ X.A.in1.in1 (rule "list.extend.makes-room" >>= fun _ => Builtin.List.listTouch (.ref s.heap.objs.size) >>= fun _ =>
    again (.builtin "list.extend.loop" ⟨[.ref s.heap.objs.size, .ref a, .none], []⟩)) _ _ _
  refine wpAny_bind (wpAny_rule ?_)
  refine wpAny_bind ?_
  show wpAny _ X.A.in1.in1 (updateSeq s.heap.objs.size (·.push .none) >>= fun _ => updateSeq s.heap.objs.size (·.pop)) _ _ _
  refine wpAny_bind (wpAny_updateSeq hS2 rfl ?_)
  have hS3 := Heap.get?_update_self (Obj.mapSeq (·.push Value.none)) hS2 rfl
  refine wpAny_updateSeq (hz := by seq_fits) hS3 rfl ?_
  have hS4 := Heap.get?_update_self (Obj.mapSeq (·.pop)) hS3 rfl
  have k4 := up _ (Obj.mapSeq (·.pop)) (up _ (Obj.mapSeq (·.push Value.none)) k2)
  refine wpAny_pure ⟨plainId_quiet F.plain_extend_loop _, ?_⟩
  generalize hS0 : s.heap.objs.size = S at *
  have eS : S = a + 1 := by rw [← hS0] at hsize; rw [← hS0]; exact hsize
  have hSn : H1 S = none := hbig S (by (unfold Addr at *; omega))
  have rd := rd S hSn
  have I4 : Inv X (pins ++ [(a, oa), (L, oL)]) σ (upd H1 S (.lst [])) { s with heap := _ } := I1.laid (t' := s.toks) k4 (by rw [hS0]; exact Nat.le_refl _) ⟨Nat.zero_le _, [], _, .nil, hS4⟩
  suffices main : ∀ R : Result → Shared → Prop, (∀ s', EP X pins σ Q (.ref S) s' → R (.ok (.ret .none)) s') → ∀ s9, Inv X (pins ++ [(a, oa), (L, oL)]) σ (upd H1 S (.lst [])) s9 → s9.gens[gn]? = some (.fresh (.func t.body (envOfC qual scope L f cdv))) →
      codeAny (model X.prog X.w) X.A.in1 (.builtin "list.extend.loop" ⟨[.ref S, .ref a, .none], []⟩) R s9 from main _ (fun s' h => ⟨rfl, h⟩) _ I4 hgs
  intro R hR s9 I9 hg9
  have hr' : Room (k + 2) (X2 X).A := hr.in1.in1
  have U' : GUse (X2 X) L := ⟨U.base, U.old, U.fr, U.fs, U.loc, U.cell⟩
  have G' : GUsable (X2 X) t N qual scope f cdv ix k ti := ⟨G.S, G.hi, G.hN, G.hx, G.hdb, G.hcd, G.hs, G.hPI⟩
  have hmid : ∀ (H9 : Hp) (ow : List (Addr × Obj)) b, L < b → b ∉ (X2 X).ex → ¬ (X2 X).s_0.heap.objs.size ≤ b → H9 b ≠ none ∨ ∃ o, (b, o) ∈ pins ++ ow := fun H9 ow b l _ h => absurd (Nat.le_trans hsz (Nat.le_of_lt l)) h
  have back : ∀ {pp : List (Addr × Obj)} {H' : Hp} {s' : Shared}, Inv (X2 X) pp σ H' s' → Inv X pp σ H' s' := fun {pp H' s'} J => by
    obtain ⟨ok, os, bare, base, loc, cell, free, freeC, pin, hok, len⟩ := J
    exact ⟨ok0, os, bare, base, loc, cell, free, freeC, pin, hok, len⟩
  -- an item pushed
  have push : ∀ {pp : List (Addr × Obj)} {H' : Hp} {s' : Shared} {x : V} {v : Value} {acc : List V} {Q' : PySem.Fin → Shared → Prop} {E' : Value → Shared → Prop} {kk : Unit → Sem PySem.Fin}, Inv (X2 X) pp σ H' s' → RelV x v → H' S = some (.lst acc) → acc.length < sizeLine →
      (∀ s2, Inv (X2 X) pp σ (upd H' S (.lst (acc ++ [x]))) s2 → s2.gens = s'.gens → wpAny (model X.prog X.w) X.A.in1.in1 (kk ()) Q' E' s2) → wpAny (model X.prog X.w) X.A.in1.in1 (updateSeq S (·.push v) >>= kk) Q' E' s' := by
    intro pp H' s' x v acc Q' E' kk J rv hS' hz K
    obtain ⟨hz', its, n, ri, e⟩ := J.hok S _ hS'
    have hl := ri.length
    refine wpAny_bind (wpAny_updateSeq e rfl ?_ (by rw [List.size_toArray]; omega) (by rw [Array.size_push, List.size_toArray]; omega))
    have e2 := Heap.get?_update_self (Obj.mapSeq (·.push v)) e rfl
    refine K _ (J.write (t' := s'.toks) (by rw [hS']; trivial) (.inl rfl) (fun b u hb q => (Heap.get?_update_other _ _ (Ne.symm hb)).trans q) ⟨_, e2⟩ ⟨by rw [List.length_append]; exact hz, its ++ [v], n + 1, ri.append (.cons rv .nil), ?_⟩) rfl
    rw [e2]
    simp [Obj.mapSeq, lstObj]
  have one : ∀ {s' : Shared}, wpAny (model X.prog X.w) X.A.in1.in1 (pyNext (.ref a)) (fun r s₁ => match r with
      | none => R (.ok (.ret .none)) s₁
      | some v => wpAny (model X.prog X.w) X.A.in1.in1 (updateSeq S (·.push v) >>= fun _ => again (.builtin "list.extend.loop" ⟨[.ref S, .ref a, .none], []⟩)) (fun fin s' => match fin with
        | .done f => R (.ok f) s'
        | .again c' => c'.quiet = true ∧ codeAny (model X.prog X.w) X.A.in1 c' R s') (fun e s' => R (.error e) s') s₁) (fun e s' => R (.error e) s') s' → codeAny (model X.prog X.w) X.A.in1 (.builtin "list.extend.loop" ⟨[.ref S, .ref a, .none], []⟩) R s' := fun {s'} h => by
    refine codeAny_builtin F.entry_extend_loop ?_
    rw [Around.under_plainId F.plain_extend_loop _]
    show wpAny _ X.A.in1.in1 (pyNext (.ref a) >>= _) _ _ s'
    refine wpAny_bind (wpAny_mono h (fun r s₁ h₁ => ?_) fun _ _ z => z)
    cases r with
    | none => exact wpAny_pure h₁
    | some v => exact h₁
  refine one (step_first (X := X2 X) (pins := pins) (σ := σ) hr' G'.S G'.hi G'.hN G'.hx G'.hdb G'.hcd G'.hs G'.hPI U' hpi (inv_in I9) hga hns hlen hlk lta (hmid _ _) hg9 (tmono _ _ _ _ (fun J H2 hJ => ?_) rd))
  obtain ⟨hD2, hy, W, ⟨m0, w0⟩, turn⟩ := hJ
  have loop : ∀ (mm i : Nat) (H2 : Hp) (s2 : Shared) (ow : List (Addr × Obj)) (gs : GenState) (fp : List Addr) (ita : Addr) (tn : Nat → Heap → Prop), W i mm H2 → Turn X.prog X.w X.K t.tgt J fp ita tn → (∀ p ∈ X.pn ++ pins, p.1 ≠ L ∧ p.1 ∉ fp ∧ p.1 ≠ a) → Inv (X2 X) (pins ++ ow) σ H2 s2 → s2.gens[gn]? = some gs → Slp (X2 X) t N qual scope f cdv fp ita tn L a gn i ow gs →
      codeAny (model X.prog X.w) X.A.in1 (.builtin "list.extend.loop" ⟨[.ref S, .ref a, .none], []⟩) R s2 := by
    intro mm
    induction mm using Nat.strongRecOn with
    | ind mm ih =>
      intro i H2 s2 ow gs fp ita tn w2 T hpp I2 hg2 Sl
      refine one (step_wake (X := X2 X) (pins := pins) (show Room ((k + 1) + 1) (X2 X).A from hr') G'.S G'.hi G'.hN G'.hx G'.hdb G'.hcd T hy U' hpp I2 Sl hg2 (hmid _ _) ?_)
      rcases turn i mm H2 w2 with ⟨stop, qn⟩ | ⟨go, Nx, hNx, step⟩
      · exact .inl ⟨stop, fun s' J' => hR s' ⟨.ref S, H2, back J', rfl, qn⟩⟩
      · refine .inr ⟨go, fun v x s' ow' gs' rv y I' hg' Sl' => ?_⟩
        obtain ⟨acc, hS', hz, nx⟩ := step x y
        refine push I' rv hS' hz fun s3 I3 g3 => wpAny_pure ⟨plainId_quiet F.plain_extend_loop _, ?_⟩
        obtain ⟨m', hm, w7⟩ := hNx _ nx
        exact ih m' hm (i + 1) _ s3 ow' gs' fp ita tn w7 T hpp I3 (by rw [g3]; exact hg') Sl'
  refine ⟨fun b o hb e => ?_, hy, ?_⟩
  · by_cases q : b = S
    · rw [q] at e ⊢
      rw [upd_same] at e
      rw [← e]; exact hD2
    · rw [upd_ne q, hbig b hb] at e
      cases e
  rcases turn 0 m0 H2 w0 with ⟨stop, qn⟩ | ⟨go, Nx, hNx, step⟩
  · exact .inl ⟨stop, fun s' J' => hR s' ⟨.ref S, H2, back J', rfl, qn⟩⟩
  · refine .inr ⟨go, fun fp ita tn v x s' ow' gs' T hpp rv y I' hg' Sl' => ?_⟩
    obtain ⟨acc, hS', hz, nx⟩ := step x y
    refine push I' rv hS' hz fun s3 I3 g3 => wpAny_pure ⟨plainId_quiet F.plain_extend_loop _, ?_⟩
    obtain ⟨m', hm, w7⟩ := hNx _ nx
    exact loop m' 1 _ s3 ow' gs' fp ita tn w7 T hpp I3 (by rw [g3]; exact hg') Sl'
end
end GF
namespace GF
open PySem PySem.Spec PyProof.Rows L2 Z
/-- the text of a generator def `for x in ITER: yield x` -/
def gtxt (st : Stmt) : GTxt := match defBody st with
  | [.For (.Name x px) it [.Expr (.Yield (some (.Name _ py)) yp) ep] [] fp] => ⟨x, it, px, py, yp, ep, fp⟩
  | _ => ⟨"", .Name "" ⟨0, 0, 0, 0⟩, ⟨0, 0, 0, 0⟩, ⟨0, 0, 0, 0⟩, ⟨0, 0, 0, 0⟩, ⟨0, 0, 0, 0⟩, ⟨0, 0, 0, 0⟩⟩
/-- a generator method of a class -/
structure GenM (P : Program) (w : World) (K : PySem.W.Frag) (mg : Str → Option Value) (base : Heap) (C : Addr) (m : Str) (N : List Str) (k : Nat) (ti : TI) : Prop where
  cls : Cls K C
  ex : ∃ (t : GTxt) (name qual : Str) (scope : Scope) (f : Addr) (cdv : Value) (ix : Nat) (params : Arguments) (dV kV doc pm ct oc : Value) (an od : Option Addr) (osl : Array (Option Value)),
    Meth K C m f ∧ K.lookup f = some ⟨oc, od, .func (PySem.W.fnOf name qual params t.body scope dV kV doc pm an cdv ct), osl⟩ ∧ PySem.W.codeIn K cdv qual = true ∧ GScope N ["self"] scope ∧ GSc N scope ∧ L2.Binds K (PySem.W.fnOf name qual params t.body scope dV kV doc pm an cdv ct) ["self"] [] ∧
    (∀ L : Addr, interactive (envOfC qual scope L f cdv) = false) ∧ N[ix]? = some t.xn ∧ scope.names.lookup t.xn = some .local ∧ (t.xn == ("__debug__" : Str)) = false ∧ (t.xn == ("__classdict__" : Str)) = false ∧ (∀ (L : Addr) (x : Value), foldedSetIterable t.iter (envOfC qual scope L f cdv) x = pure x) ∧
    ∀ (A : Around) (outer : List Env) (sc : Shared) (Hc : Hp), Room k (A.deeper (envOfC qual scope sc.heap.objs.size f cdv)) → PI (gX P w K mg base N qual scope f cdv A outer sc Hc) t.tgt t.iter ti
theorem gen_ok {P : Program} {w : World} {K : PySem.W.Frag} {mg : Str → Option Value} {base : Heap} {x qual m : Str} {st : Stmt} {f C : Addr} {fd : FuncData} {N : List Str} {k ix : Nat} {ti : TI} (F : FunD K x qual (defArgs st) (defBody st) (defScope st) [] [] f fd) (ht : (gtxt st).body = defBody st) (cls : Cls K C) (me : Meth K C m f)
    (S : GScope N ["self"] (defScope st)) (SG : GSc N (defScope st)) (hb : L2.Binds K fd ["self"] []) (hi : ∀ (L : Addr) (cdv : Value), interactive (envOfC qual (defScope st) L f cdv) = false) (hN : N[ix]? = some (gtxt st).xn) (hx : (defScope st).names.lookup (gtxt st).xn = some .local) (hdb : ((gtxt st).xn == ("__debug__" : Str)) = false) (hcd : ((gtxt st).xn == ("__classdict__" : Str)) = false)
    (hs : ∀ (L : Addr) (cdv x : Value), foldedSetIterable (gtxt st).iter (envOfC qual (defScope st) L f cdv) x = pure x)
    (hPI : ∀ (cdv : Value) (A : Around) (outer : List Env) (sc : Shared) (Hc : Hp), Room k (A.deeper (envOfC qual (defScope st) sc.heap.objs.size f cdv)) → PI (gX P w K mg base N qual (defScope st) f cdv A outer sc Hc) (gtxt st).tgt (gtxt st).iter ti) : GenM P w K mg base C m N k ti := by
  obtain ⟨oc, od, dV, kV, doc, pm, an, cdv, ct, osl, rfl, lk, hcdv, _, _⟩ := F.ex
  rw [← ht] at lk hb
  exact ⟨cls, gtxt st, x, qual, defScope st, f, cdv, ix, defArgs st, dV, kV, doc, pm, ct, oc, an, od, osl, me, lk, hcdv, S, SG, hb, fun L => hi L cdv, hN, hx, hdb, hcd, fun L x => hs L cdv x, fun A outer sc Hc hr => hPI cdv A outer sc Hc hr⟩
theorem pi_up {X : Cx} {tg it : Expr} {w : TI} (h : PI X tg it w) : PI X tg it (upI w) := ⟨fun pins s σ H R I ⟨R0, k, q⟩ => wpAny_mono (h.run pins s σ H R0 I q) (fun v s1 h1 => wpAny_mono h1 (fun itv s2 ⟨it, fp, tn, J, H', a, b, c, d, e, f⟩ => ⟨it, fp, tn, J, H', a, b, c, d, e, k J H' f⟩) fun _ _ z => z) fun _ _ z => z⟩
theorem upI_mono {w : TI} : ∀ σ H R R', (∀ J H', R J H' → R' J H') → upI w σ H R → upI w σ H R' := fun _ _ _ _ k ⟨R0, k0, q⟩ => ⟨R0, fun J H' z => k J H' (k0 J H' z), q⟩
section
variable {X : Cx} {C : Addr} {m : Str} {N : List Str} {k j : Nat} {ti : TI} {o : Expr} {ta : TE} {apos pos : Pos}
theorem GenM.use {pl : Sem Bool} (M : GenM X.prog X.w X.K X.mg X.base C m N k ti) (hr : Room j X.A) (he : PE X o ta) (ht : eval (.Call (.Attribute o m apos) [] [] pos) X.env = (do
      let ov ← eval o X.env
      standAt apos.atName
      let (f, first) ← holding [ov] (getMethod ov m pl)
      callWith pos f first (backTo pos (starEach [] X.env)) (backToKw pos (keywordEach [] X.env))) := by rfl) :
    ∃ t qual scope f cdv ix, GUsable X t N qual scope f cdv ix k (upI ti) ∧ PBorn X (.Call (.Attribute o m apos) [] [] pos) t N qual scope f cdv (upA (zBorn0 C m ta)) := by
  obtain ⟨t, name, qual, scope, f, cdv, ix, params, dV, kV, doc, pm, ct, oc, an, od, osl, me, lk, hcd, S, SG, hb, hi, hN, hx, hdb, hcd', hs, hPI⟩ := M.ex
  refine ⟨t, qual, scope, f, cdv, ix, ⟨SG, hi, hN, hx, hdb, hcd', hs, fun A outer sc Hc r => pi_up (hPI A outer sc Hc r)⟩, ?_⟩
  intro pins s σ H Qv I ⟨Q0, kq, q⟩
  exact wpAny_mono (pborn_meth0 (pl := pl) he M.cls me lk hcd S SG hr hb ht pins s σ H Q0 I q) (fun u s' ⟨vs, H1, b, q1⟩ => ⟨vs, H1, b, kq vs H1 q1⟩) fun _ _ z => z
/-- for x in o.m(): body -/
def loopOnG (J : It) (g : TG) (tb : TS) (D : Ends) (σ : L2.St) (H2 : Hp) : Prop := (∀ i H x H', J.yld i H x H' → H' = H) ∧ ∃ W : Nat → Nat → L2.St → Hp → Prop, (∃ m, W 0 m σ H2) ∧ ∀ i m σ H, W i m σ H →
  (J.stop i H ∧ D.nx σ H) ∨ (J.go i H ∧ ∃ Nx : L2.St → Hp → Prop, (∀ σ' H', Nx σ' H' → ∃ m', m' < m ∧ W (i + 1) m' σ' H') ∧ ∀ x, J.yld i H x H → g x σ H fun σ2 H2 => tb { D with nx := Nx, ct := Nx, bk := D.nx } σ2 H2)
def zForG (C : Addr) (m : Str) (N : List Str) (ta : TE) (ti : TI) (g : TG) (tb : TS) : TS := fun D σ H => ta σ H fun x H1 => insAt H1 x fun a C' dx fs => (C' = C ∧ fs.lookup m = none) ∧ ti (start N [.ref a]) H1 fun J H2 => loopOnG J g tb D σ H2
theorem s_forG {pl : Sem Bool} {tg : Expr} {body : List Stmt} {g : TG} {tb : TS} {pos2 : Pos} (hxe : ∀ e s, ¬ X.xe e s) (M : GenM X.prog X.w X.K X.mg X.base C m N k ti) (hr : Room j X.A) (hk : k + 4 ≤ j) (he : PE X o ta) (hg : PG X tg g) (hb : PSs X body tb)
    (ht : eval (.Call (.Attribute o m apos) [] [] pos) X.env = (do
      let ov ← eval o X.env
      standAt apos.atName
      let (f, first) ← holding [ov] (getMethod ov m pl)
      callWith pos f first (backTo pos (starEach [] X.env)) (backToKw pos (keywordEach [] X.env))) := by rfl)
    (hs : ∀ x, foldedSetIterable (.Call (.Attribute o m apos) [] [] pos) X.env x = pure x := by intro _; rfl) : PS X (.For tg (.Call (.Attribute o m apos) [] [] pos) body [] pos2) (zForG C m N ta ti g tb) := by
  obtain ⟨t, qual, scope, f, cdv, ix, G, B⟩ := M.use hr he ht
  exact ps_imp (ps_forG hxe (hr.mono (by omega)) G B hg hb upI_mono hs) fun D σ H q => ⟨fun vs H1 => ti (start N vs) H1 fun J H2 => loopOnG J g tb D σ H2, fun vs H1 z => ⟨_, fun _ _ z => z, z⟩, q⟩
/-- [e for x in o.m() if ..] -/
def compOnG (D : Addr) (J : It) (g : TG) (tt : TT) (te : TE) (vs : List Nat) (σ : L2.St) (Q : VK) (H2 : Hp) : Prop := H2 D = some (.lst []) ∧ (∀ i H x H', J.yld i H x H' → H' = H) ∧
  ∃ W : Nat → Nat → Hp → Prop, (∃ m, W 0 m H2) ∧ ∀ i m H, W i m H → H D ≠ none ∧ ((J.stop i H ∧ Q (.ref D) H) ∨ (J.go i H ∧ ∃ Nx : Hp → Prop, (∀ H', Nx H' → ∃ m', m' < m ∧ W (i + 1) m' H') ∧ ∀ x, J.yld i H x H → g x (wipe σ vs) H fun σ2 H2 => wipe σ2 vs = wipe σ vs ∧ tt σ2 H2 fun b H3 =>
    if b = true then te σ2 H3 fun y H4 => ∃ acc, H4 D = some (.lst acc) ∧ acc.length < sizeLine ∧ Nx (upd H4 D (.lst (acc ++ [y]))) else Nx H3))
def zLcG (C : Addr) (m : Str) (N : List Str) (ta : TE) (ti : TI) (g : TG) (tt : TT) (te : TE) (vs : List Nat) : TE := fun σ H Q => ta σ H fun x H1 => insAt H1 x fun a C' dx fs => (C' = C ∧ fs.lookup m = none) ∧ ∀ D, H1 D = none → ti (start N [.ref a]) (upd H1 D (.lst [])) (fun J H2 => compOnG D J g tt te vs σ Q H2)
theorem e_lcG {pl : Sem Bool} {elt tg : Expr} {ifs : List Expr} {bs : Scope} {own : List (Str × Nat)} {pos2 : Pos} {g : TG} {tt : TT} {te : TE} (M : GenM X.prog X.w X.K X.mg X.base C m N k ti) (hr : Room j X.A) (hk : k + 4 ≤ j) (he : PE X o ta) (hN : X.N.Nodup) (ok : BlkOk X.N X.env.scope bs own) (hnc : ∀ y ∈ bs.names, y.2 ≠ .cell)
    (hg : ∀ (s : Shared) (H : Hp) (C : Addr) (cl : List (Str × Addr)) (fp : List Addr), PG (X.blk s H bs (compEnvC bs cl C X.env) fp) tg g) (ht' : ∀ (s : Shared) (H : Hp) (C : Addr) (cl : List (Str × Addr)) (fp : List Addr), PTs (X.blk s H bs (compEnvC bs cl C X.env) fp) ifs tt)
    (hel : ∀ (s : Shared) (H : Hp) (C : Addr) (cl : List (Str × Addr)) (fp : List Addr), PE (X.blk s H bs (compEnvC bs cl C X.env) fp) elt te)
    (ht : eval (.Call (.Attribute o m apos) [] [] pos) X.env = (do
      let ov ← eval o X.env
      standAt apos.atName
      let (f, first) ← holding [ov] (getMethod ov m pl)
      callWith pos f first (backTo pos (starEach [] X.env)) (backToKw pos (keywordEach [] X.env))) := by rfl)
    (hs : ∀ x, foldedSetIterable (.Call (.Attribute o m apos) [] [] pos) X.env x = pure x := by intro _; rfl) :
    PE X (.ListComp elt [⟨tg, .Call (.Attribute o m apos) [] [] pos, ifs, 0⟩] bs pos2) (zLcG C m N ta ti g tt te (own.map (·.2))) := by
  obtain ⟨t, qual, scope, f, cdv, ix, G, B⟩ := M.use hr he ht
  exact pe_imp (pe_lcG (hr.mono (by omega)) G B upI_mono hN ok hnc hg ht' hel hs) fun σ H Q q => ⟨fun ws H1 => ∀ D, H1 D = none → ti (start N ws) (upd H1 D (.lst [])) (fun J H2 => compOnG D J g tt te (own.map fun x : Str × Nat => x.2) σ Q H2), fun vs H1 z D hD => ⟨_, fun _ _ z => z, z D hD⟩, q⟩
theorem s_setLcG {pl : Sem Bool} {i : Nat} {y : Str} {py spos : Pos} {elt tg : Expr} {ifs : List Expr} {bs : Scope} {own : List (Str × Nat)} {pos2 : Pos} {g : TG} {tt : TT} {te : TE} (M : GenM X.prog X.w X.K X.mg X.base C m N k ti) (hr : Room j X.A) (hk : k + 4 ≤ j) (he : PE X o ta) (hN : X.N.Nodup) (hy : X.N[i]? = some y) (hyl : X.env.scope.names.lookup y = some .local)
    (hsw : swapsWith (.ListComp elt [⟨tg, .Call (.Attribute o m apos) [] [] pos, ifs, 0⟩] bs pos2) (some (.Name y py)) spos.line X.env = pure true) (ok : BlkOk X.N X.env.scope bs own) (hnc : ∀ y ∈ bs.names, y.2 ≠ .cell)
    (hg : ∀ (s : Shared) (H : Hp) (C : Addr) (cl : List (Str × Addr)) (fp : List Addr), PG (X.blk s H bs (compEnvC bs cl C X.env) fp) tg g) (ht' : ∀ (s : Shared) (H : Hp) (C : Addr) (cl : List (Str × Addr)) (fp : List Addr), PTs (X.blk s H bs (compEnvC bs cl C X.env) fp) ifs tt)
    (hel : ∀ (s : Shared) (H : Hp) (C : Addr) (cl : List (Str × Addr)) (fp : List Addr), PE (X.blk s H bs (compEnvC bs cl C X.env) fp) elt te)
    (ht : eval (.Call (.Attribute o m apos) [] [] pos) X.env = (do
      let ov ← eval o X.env
      standAt apos.atName
      let (f, first) ← holding [ov] (getMethod ov m pl)
      callWith pos f first (backTo pos (starEach [] X.env)) (backToKw pos (keywordEach [] X.env))) := by rfl)
    (hs : ∀ x, foldedSetIterable (.Call (.Attribute o m apos) [] [] pos) X.env x = pure x := by intro _; rfl) :
    PS X (.Assign [.Name y py] (.ListComp elt [⟨tg, .Call (.Attribute o m apos) [] [] pos, ifs, 0⟩] bs pos2) spos) (tAsg (zLcG C m N ta ti g tt te (own.map (·.2))) (gName i)) := by
  obtain ⟨t, qual, scope, f, cdv, ix, G, B⟩ := M.use hr he ht
  exact ps_imp (ps_setLcG (hr.mono (by omega)) G B upI_mono hN hy hyl hsw ok hnc hg ht' hel hs) fun D σ H q => ⟨fun ws H1 => ∀ D', H1 D' = none → ti (start N ws) (upd H1 D' (.lst [])) (fun J H2 => compOnG D' J g tt te (own.map fun x : Str × Nat => x.2) σ (fun x H3 => gName i x σ H3 D.nx) H2), fun vs H1 z D hD => ⟨_, fun _ _ z => z, z D hD⟩, q⟩
/-- list(o.m()) -/
def listOnG (D : Addr) (J : It) (Q : VK) (H2 : Hp) : Prop := H2 D = some (.lst []) ∧ (∀ i H x H', J.yld i H x H' → H' = H) ∧
  ∃ W : Nat → Nat → Hp → Prop, (∃ m, W 0 m H2) ∧ ∀ i m H, W i m H → ((J.stop i H ∧ Q (.ref D) H) ∨ (J.go i H ∧ ∃ Nx : Hp → Prop, (∀ H', Nx H' → ∃ m', m' < m ∧ W (i + 1) m' H') ∧ ∀ x, J.yld i H x H → ∃ acc, H D = some (.lst acc) ∧ acc.length < sizeLine ∧ Nx (upd H D (.lst (acc ++ [x])))))
def zListG (C : Addr) (m : Str) (N : List Str) (ta : TE) (ti : TI) : TE := fun σ H Q => ta σ H fun x H1 => insAt H1 x fun a C' dx fs => (C' = C ∧ fs.lookup m = none) ∧ ∀ D, H1 D = none → ti (start N [.ref a]) (upd H1 D (.lst [])) (fun J H2 => listOnG D J Q H2)
theorem e_listG {pl : Sem Bool} {nm : Str} {p pos2 : Pos} (M : GenM X.prog X.w X.K X.mg X.base C m N k ti) (hr : Room j X.A) (hk : k + 4 ≤ j) (he : PE X o ta)
    (hg : Gl X nm) (hmg : X.mg nm = none) (hv : bootBuiltins nm = some (.type "list")) (hnm : nm ≠ "__name__" := by decide) (hdb : (nm == ("__debug__" : Str)) = false := by decide)
    (hst : starEach [.Call (.Attribute o m apos) [] [] pos] X.env = (false, eval (.Call (.Attribute o m apos) [] [] pos) X.env) :: starEach [] X.env := by rfl)
    (ht : eval (.Call (.Attribute o m apos) [] [] pos) X.env = (do
      let ov ← eval o X.env
      standAt apos.atName
      let (f, first) ← holding [ov] (getMethod ov m pl)
      callWith pos f first (backTo pos (starEach [] X.env)) (backToKw pos (keywordEach [] X.env))) := by rfl) :
    PE X (.Call (.Name nm p) [.Call (.Attribute o m apos) [] [] pos] [] pos2) (zListG C m N ta ti) := by
  obtain ⟨t, qual, scope, f, cdv, ix, G, B⟩ := M.use hr he ht
  exact pe_imp (pe_listOf (hr.mono hk) G B upI_mono hg hmg hv hnm hdb hst) fun σ H Q q => ⟨fun ws H1 => ∀ D, H1 D = none → ti (start N ws) (upd H1 D (.lst [])) (fun J H2 => listOnG D J Q H2), fun vs H1 z D hD => ⟨_, fun _ _ z => z, z D hD⟩, q⟩
end
/-! ### the forms one uses -/
theorem pure_r {lo : Int} {n : Nat} : ∀ i H x H', (Itr lo n).yld i H x H' → H' = H := fun i H x H' y => y.1
theorem pure_l {K : PySem.W.Frag} {a : Addr} : ∀ i H x H', (Itl K a).yld i H x H' → H' = H := fun i H x H' y => y.1
theorem loopG {J : It} {g : TG} {tb : TS} {D : Ends} {σ : L2.St} {H : Hp} (hp : ∀ i H x H', J.yld i H x H' → H' = H) (h : loopOn J g tb D σ H) : loopOnG J g tb D σ H := by
  obtain ⟨W, h0, h1⟩ := h
  refine ⟨hp, W, h0, fun i m σ H w => ?_⟩
  rcases h1 i m σ H w with z | ⟨go, Nx, a, b⟩
  · exact .inl z
  · exact .inr ⟨go, Nx, a, fun x y => b x H y⟩
/-- a comprehension over a generator, n items -/
theorem compG {J : It} {n : Nat} {item : Nat → V} {g : TG} {tt : TT} {te : TE} {vs : List Nat} {σ : L2.St} {H2 : Hp} {Q : VK} {D : Addr} (hD : H2 D = some (.lst [])) (hp : ∀ i H x H', J.yld i H x H' → H' = H) (Pv : Nat → Hp → Prop) (hS : ∀ i H, Pv i H → H D ≠ none ∧ (∀ i, n ≤ i → J.stop i H) ∧ (∀ i, i < n → J.go i H) ∧ ∀ i x, i < n → J.yld i H x H → x = item i)
    (h0 : Pv 0 H2)
    (hs : ∀ i H, i < n → Pv i H → g (item i) (wipe σ vs) H fun σ2 H2 => wipe σ2 vs = wipe σ vs ∧ tt σ2 H2 fun b H3 =>
      if b = true then te σ2 H3 fun y H4 => ∃ acc, H4 D = some (.lst acc) ∧ acc.length < sizeLine ∧ Pv (i + 1) (upd H4 D (.lst (acc ++ [y]))) else Pv (i + 1) H3) (hd : ∀ H, Pv n H → Q (.ref D) H) :
    compOnG D J g tt te vs σ Q H2 := by
  refine ⟨hD, hp, fun i m H => m = n - i ∧ i ≤ n ∧ Pv i H, ⟨n, by simp, Nat.zero_le _, h0⟩, ?_⟩
  rintro i m H ⟨rfl, hi, p⟩
  obtain ⟨z, s1, s2, s3⟩ := hS i H p
  refine ⟨z, ?_⟩
  by_cases hlt : i < n
  · refine .inr ⟨s2 i hlt, Pv (i + 1), fun H' p' => ⟨n - (i + 1), by omega, rfl, hlt, p'⟩, fun x y => ?_⟩
    rw [s3 i x hlt y]
    exact hs i H hlt p
  · have e : i = n := by omega
    subst e
    exact .inl ⟨s1 i (Nat.le_refl _), hd H p⟩
/-- list of a generator, n items -/
theorem listG {J : It} {n : Nat} {item : Nat → V} {H2 : Hp} {Q : VK} {D : Addr} (hn : n < sizeLine) (hD : H2 D = some (.lst [])) (hp : ∀ i H x H', J.yld i H x H' → H' = H)
    (hS : ∀ xs, (∀ i, n ≤ i → J.stop i (upd H2 D (.lst xs))) ∧ (∀ i, i < n → J.go i (upd H2 D (.lst xs))) ∧ ∀ i x, i < n → J.yld i (upd H2 D (.lst xs)) x (upd H2 D (.lst xs)) → x = item i)
    (hd : Q (.ref D) (upd H2 D (.lst ((List.range n).map item)))) : listOnG D J Q H2 := by
  have e0 : upd H2 D (.lst []) = H2 := by
    funext b
    by_cases q : b = D
    · rw [q, upd_same, hD]
    · rw [upd_ne q]
  refine ⟨hD, hp, fun i m H => m = n - i ∧ i ≤ n ∧ H = upd H2 D (.lst ((List.range i).map item)), ⟨n, by simp, Nat.zero_le _, by show H2 = upd H2 D (.lst []); rw [e0]⟩, ?_⟩
  rintro i m H ⟨rfl, hi, rfl⟩
  obtain ⟨s1, s2, s3⟩ := hS ((List.range i).map item)
  by_cases hlt : i < n
  · refine .inr ⟨s2 i hlt, fun H' => H' = upd H2 D (.lst ((List.range (i + 1)).map item)), fun H' p' => ⟨n - (i + 1), by omega, rfl, hlt, p'⟩, fun x y => ?_⟩
    rw [s3 i x hlt y]
    refine ⟨_, upd_same, by rw [List.length_map, List.length_range]; omega, ?_⟩
    rw [upd_upd, List.range_succ, List.map_append]
    rfl
  · have e : i = n := by omega
    subst e
    exact .inl ⟨s1 i (Nat.le_refl _), hd⟩
theorem listGR {lo : Int} {n : Nat} {H2 : Hp} {Q : VK} {D : Addr} (hn : n < sizeLine) (hD : H2 D = some (.lst [])) (hd : Q (.ref D) (upd H2 D (.lst ((List.range n).map fun i : Nat => V.int (lo + (i : Int)))))) : listOnG D (Itr lo n) Q H2 :=
  listG hn hD pure_r (fun xs => ⟨fun _ h => h, fun _ h => h, fun i x _ y => y.2⟩) hd
end GF
namespace Z
open PySem PySem.Spec PyProof.Rows L2
/-! ### own operators: ==, &, in, len, repr -/
def isBl (Q : Bool → Hp → Prop) : VK := fun v H => match v with
  | .bl b => Q b H
  | _ => False
/-- x == y where x is an instance of a class with its own == -/
def yEqO (K : PySem.W.Frag) (C : Addr) (sp : Sp) : R2 := fun x y H Q => match x with
  | .ref a => (match H a with
    | some (.ins C' _ _) => C' = C ∧ tyAt K H y fun t => PySem.W.notFirst K C t = true ∧ sp [.ref a, y] H (isBl fun b H' => Q (.bl b) H') C8.E0
    | _ => yEq K x y H Q)
  | _ => yEq K x y H Q
def yAndO (C : Addr) (sp : Sp) : R2 := fun x y H Q => insAt H x fun a C1 _ _ => insAt H y fun b C2 _ _ => (C1 = C ∧ C2 = C) ∧ sp [x, y] H Q C8.E0
def yInO (K : PySem.W.Frag) (C : Addr) (sp : Sp) (neg : Bool) : R2 := fun x y H Q => match y with
  | .ref a => (match H a with
    | some (.ins C' _ _) => C' = C ∧ sp [.ref a, x] H (isBl fun b H' => Q (.bl (if neg then !b else b)) H') C8.E0
    | _ => yIn K neg x y H Q)
  | _ => yIn K neg x y H Q
def yLenO (K : PySem.W.Frag) (C : Addr) (sp : Sp) : List V → Hp → VK → Prop := fun vs H Q => match vs with
  | [.ref a] => (match H a with
    | some (.ins C' _ _) => C' = C ∧ sp [.ref a] H (fun v H' => Z.intAt v fun n => (0 ≤ n ∧ n < 2 ^ 63) ∧ Q (.int n) H') C8.E0
    | _ => yLen K vs H Q)
  | _ => yLen K vs H Q
def strAt (v : V) (R : Str → Prop) : Prop := match v with
  | .str n => R n
  | _ => False
def yReprO (C : Addr) (sp : Sp) : List V → Hp → VK → Prop := fun vs H Q => match vs with
  | [x] => insAt H x fun a C' _ _ => C' = C ∧ sp [x] H (fun v H' => strAt v fun n => Q (.str n) H') C8.E0
  | _ => False
section
variable {X : Cx} {k j : Nat} {C : Addr} {sp : Sp}
abbrev X1 (X : Cx) : Cx := { X with A := X.A.in1 }
theorem inv_1 {pins : List (Addr × Obj)} {σ : L2.St} {H : Hp} {s : Shared} (I : Inv X pins σ H s) : Inv (X1 X) pins σ H s := by
  obtain ⟨ok, os, bare, base, loc, cell, free, freeC, pin, hok, len⟩ := I
  exact ⟨⟨ok.mod, ok.kind, ok.glob, ok.blt, ok.above, ok.inj, ok.has, ok.cab, fun h => ok.hd h, ok.frames, ok.stk, ok.exf, ok.bs, ok.bsz, ok.noex, ok.exfs, ok.funs, ok.frf⟩, os, bare, base, loc, cell, free, freeC, pin, hok, len⟩
theorem inv_0 (ok0 : X.Ok) {pins : List (Addr × Obj)} {σ : L2.St} {H : Hp} {s : Shared} (I : Inv (X1 X) pins σ H s) : Inv X pins σ H s := by
  obtain ⟨ok, os, bare, base, loc, cell, free, freeC, pin, hok, len⟩ := I
  exact ⟨ok0, os, bare, base, loc, cell, free, freeC, pin, hok, len⟩
theorem inst_at {pins : List (Addr × Obj)} {σ : L2.St} {H : Hp} {s : Shared} {a dx : Addr} {fs : List (Str × V)} (I : Inv X pins σ H s) (e : H a = some (.ins C dx fs)) : ∃ ox od, PySem.W.InstAt s.heap a ox C od := by
  obtain ⟨mA, J, _⟩ := ins_get I.hok e
  obtain ⟨od, J, _⟩ := J.look
  exact ⟨_, _, J⟩
theorem o_eqO (c : C8.Met X.prog X.w X.K X.mg X.base k C "__eq__" sp []) (hr : Room j X.A) (hk : k ≤ j) : OpR X (compareOp .Eq) (yEqO X.K C sp) := by
  intro pins s σ H x y v u Q I rx ry q
  unfold yEqO at q
  split at q
  · rename_i a
    split at q
    · rename_i C' dx fs ha
      obtain ⟨rfl, q⟩ := q
      obtain ⟨t, ty, nf, q⟩ := tyAt_ok q
      obtain ⟨f, fd, ps, ds, cl, me, F, b, hd⟩ := c
      obtain ⟨ox, od, J⟩ := inst_at I ha
      obtain ⟨P, Z, p, _⟩ := kit_of I ry ty
      obtain ⟨m, hF⟩ := I.fr
      cases rx
      show wpAny (model X.prog X.w) X.A (richCompare .Eq (.ref a) u) (EP X pins σ Q) X.xe s
      refine PySem.W.cmp_K (op := .Eq) (tb := t) hr.units0 hF I.ok.mod.kin J (Z.ty _ _ I.kIn p) nf me.at_ me.fn ?_
      refine thn (run_fn (us := [.ref a, u]) (vs := [.ref a, y]) F (hr.mono hk) b hd C8.pass0 I (.cons rfl (.cons ry .nil)) q) fun r s' ⟨z, H', I', rz, qz⟩ => ?_
      unfold isBl at qz
      split at qz
      · cases rz
        exact ⟨.bl _, H', I', rfl, qz⟩
      · exact qz.elim
    · exact o_eq hr.units pins s σ H _ y v u Q I rx ry q
  · exact o_eq hr.units pins s σ H x y v u Q I rx ry q
theorem o_andO (c : C8.Met X.prog X.w X.K X.mg X.base k C "__and__" sp []) (sf : PySem.W.selfFirst X.K C = true) (hr : Room j X.A) (hk : k ≤ j) : OpR X (binaryOp .BitAnd) (yAndO C sp) := by
  intro pins s σ H x y v u Q I rx ry q
  obtain ⟨a, C1, dx, fs, rfl, ha, q1⟩ := insAt_ok q
  obtain ⟨b, C2, dy, gs, rfl, hb, ⟨e1, e2⟩, q2⟩ := insAt_ok q1
  subst e1 e2
  obtain ⟨f, fd, ps, ds, cl, me, F, bb, hd⟩ := c
  obtain ⟨ox, od, J⟩ := inst_at I ha
  obtain ⟨oy, od', J'⟩ := inst_at I hb
  obtain ⟨m, hF⟩ := I.fr
  cases rx
  cases ry
  refine PySem.W.binop_K (op := .BitAnd) hF I.ok.mod.kin J J'.type sf me.at_ me.fn ?_
  refine thn (run_fn (us := [.ref a, .ref b]) (vs := [.ref a, .ref b]) F (hr.mono hk) bb hd C8.pass0 I (.cons rfl (.cons rfl .nil)) q2) fun r s' ⟨z, H', I', rz, qz⟩ => ?_
  cases r <;> first | exact ⟨z, H', I', rz, qz⟩ | (cases z <;> simp [L2.RelV] at rz)
theorem o_inO (c : C8.Met X.prog X.w X.K X.mg X.base k C "__contains__" sp []) (hr : Room j X.A) (hk : k ≤ j) (hu : X.A.units + 1 < cLine) : OpR X (compareOp .In) (yInO X.K C sp false) := by
  intro pins s σ H x y v u Q I rx ry q
  unfold yInO at q
  split at q
  · rename_i a
    split at q
    · rename_i C' dx fs ha
      obtain ⟨rfl, q⟩ := q
      obtain ⟨f, fd, ps, ds, cl, me, F, b, hd⟩ := c
      obtain ⟨ox, od, J⟩ := inst_at I ha
      obtain ⟨m, hF⟩ := I.fr
      cases ry
      refine PySem.W.in_K hF I.ok.mod.kin J me.at_ me.fn ?_
      refine thn (run_fn (us := [.ref a, v]) (vs := [.ref a, x]) F (hr.mono hk) b hd C8.pass0 I (.cons rfl (.cons rx .nil)) q) fun r s' ⟨z, H', I', rz, qz⟩ => ?_
      unfold isBl at qz
      split at qz
      · cases rz
        exact wpAny_truthy_bool ⟨.bl _, H', I', rfl, qz⟩
      · exact qz.elim
    · exact o_in hu pins s σ H _ _ v u Q I rx ry q
  · exact o_in hu pins s σ H x y v u Q I rx ry q
theorem o_notinO (c : C8.Met X.prog X.w X.K X.mg X.base k C "__contains__" sp []) (hr : Room j X.A) (hk : k ≤ j) (hu : X.A.units + 1 < cLine) : OpR X (compareOp .NotIn) (yInO X.K C sp true) := by
  intro pins s σ H x y v u Q I rx ry q
  unfold yInO at q
  split at q
  · rename_i a
    split at q
    · rename_i C' dx fs ha
      obtain ⟨rfl, q⟩ := q
      obtain ⟨f, fd, ps, ds, cl, me, F, b, hd⟩ := c
      obtain ⟨ox, od, J⟩ := inst_at I ha
      obtain ⟨m, hF⟩ := I.fr
      cases ry
      refine PySem.W.notIn_K hF I.ok.mod.kin J me.at_ me.fn ?_
      refine thn (run_fn (us := [.ref a, v]) (vs := [.ref a, x]) F (hr.mono hk) b hd C8.pass0 I (.cons rfl (.cons rx .nil)) q) fun r s' ⟨z, H', I', rz, qz⟩ => ?_
      unfold isBl at qz
      split at qz
      · cases rz
        exact wpAny_truthy_bool ⟨.bl _, H', I', rfl, qz⟩
      · exact qz.elim
    · exact o_notin hu pins s σ H _ _ v u Q I rx ry q
  · exact o_notin hu pins s σ H x y v u Q I rx ry q
theorem c_lenO (c : C8.Met X.prog X.w X.K X.mg X.base k C "__len__" sp []) (hr : Room j X.A) (hk : k + 1 ≤ j) : CallR X (.builtin "len") (yLenO X.K C sp) := by
  intro pins s σ H xs us Q I r q
  unfold yLenO at q
  split at q
  · rename_i a
    split at q
    · rename_i C' dx fs ha
      obtain ⟨rfl, q⟩ := q
      obtain ⟨f, fd, ps, ds, cl, me, F, b, hd⟩ := c
      obtain ⟨ox, od, J⟩ := inst_at I ha
      obtain ⟨m, hF⟩ := I.fr
      have r' := r
      cases r with
      | cons r1 r2 =>
        cases r2
        cases r1
        refine PySem.W.len_K hF I.ok.mod.kin J me.at_ me.fn ?_
        refine thn (run_fn (X := X1 X) (us := [.ref a]) (vs := [.ref a]) F (show Room k X.A.in1 from (hr.mono hk).in1) b hd C8.pass0 (inv_1 I) r' q) fun z s' ⟨w, H', I', rw', qw⟩ => ?_
        obtain ⟨n, rfl, ⟨h0, h1⟩, qn⟩ := intAt_ok qw
        obtain ⟨t, rfl⟩ := rw'
        exact ⟨⟨h0, h1⟩, .int n, H', (inv_0 I.ok I').tok _, ⟨_, rfl⟩, qn⟩
    · exact c_len pins s σ H _ us Q I r q
  · exact c_len pins s σ H _ us Q I r q
theorem c_reprO (c : C8.Met X.prog X.w X.K X.mg X.base k C "__repr__" sp []) (hr : Room j X.A) (hk : k + 1 ≤ j) : CallR X (.builtin "repr") (yReprO C sp) := by
  intro pins s σ H xs us Q I r q
  unfold yReprO at q
  split at q
  · obtain ⟨a, C', dx, fs, rfl, ha, e1, q1⟩ := insAt_ok q
    subst e1
    obtain ⟨f, fd, ps, ds, cl, me, F, b, hd⟩ := c
    obtain ⟨ox, od, J⟩ := inst_at I ha
    obtain ⟨m, hF⟩ := I.fr
    have r' := r
    cases r with
    | cons r1 r2 =>
      cases r2
      cases r1
      have hr1 : Room k X.A.in1 := (hr.mono hk).in1
      refine PySem.W.repr_K hr1.units0 hF I.ok.mod.kin J me.at_ me.fn ?_
      refine thn (run_fn (X := X1 X) (us := [.ref a]) (vs := [.ref a]) F hr1 b hd C8.pass0 (inv_1 I) r' q1) fun z s' ⟨w, H', I', rw', qw⟩ => ?_
      have qw' : strAt w fun n => Q (.str n) H' := qw
      unfold strAt at qw'
      split at qw'
      · rename_i n
        obtain ⟨t, rfl⟩ := rw'
        exact ⟨.str n, H', inv_0 I.ok I', ⟨_, rfl⟩, qw'⟩
      · exact qw'.elim
  · exact q.elim
end
end Z
namespace Z
open PySem PySem.Spec PyProof.Rows L2
/-! ### == inside lists, by own == -/
abbrev EqRel := V → V → Hp → Bool → Prop
def EqD (X : Cx) (n : Nat) (D : EqRel) : Prop := ∀ (A : Around) (pins : List (Addr × Obj)) (s : Shared) (σ : L2.St) (H : Hp) (x y : V) (u v : Value) (b : Bool), L2.Sub X n A → Inv X pins σ H s → L2.RelV x u → L2.RelV y v → D x y H b →
  wpAny (model X.prog X.w) A (eqBool u v) (fun r s' => r = b ∧ Inv X pins σ H s') X.xe s
/-- x an instance of C with its own == -/
def DOwn (K : PySem.W.Frag) (C : Addr) (sp : Sp) : EqRel := fun x y H b => ∃ a dx fs, x = .ref a ∧ H a = some (.ins C dx fs) ∧ (y = .ref a → b = true) ∧ (y ≠ .ref a → ∃ t, TyX K H y t ∧ PySem.W.notFirst K C t = true ∧ sp [.ref a, y] H (fun v H' => v = .bl b ∧ H' = H) C8.E0)
section
variable {X : Cx} {n k j : Nat} {D : EqRel} {C : Addr} {sp : Sp}
theorem eqBool_ref {A : Around} {a : Addr} {v : Value} {Q : Bool → Shared → Prop} {E : Value → Shared → Prop} {s : Shared} {P : Program} {w : World} (hne : v ≠ .ref a) (h : wpAny (model P w) A (richCompare .Eq (.ref a) v) (fun v s' => ∃ r, v = .bool r ∧ Q r s') E s) : wpAny (model P w) A (eqBool (.ref a) v) Q E s := by
  unfold eqBool
  refine wpAny_holding ?_
  refine wpAny_ite_split (fun hab => absurd (eq_of_beq hab).symm hne) (fun _ => ?_)
  refine wpAny_bind (wpAny_mono h (fun v s' hv => ?_) fun _ _ x => x)
  obtain ⟨r, rfl, q⟩ := hv
  exact wpAny_truthy_bool q
theorem eqD_own (c : C8.Met X.prog X.w X.K X.mg X.base k C "__eq__" sp []) : EqD X k (DOwn X.K C sp) := by
  intro A pins s σ H x y u v b sb I rx ry d
  obtain ⟨a, dx, fs, rfl, ha, d1, d2⟩ := d
  cases rx
  by_cases hy : y = .ref a
  · subst hy
    cases ry
    rw [d1 rfl]
    exact SeqAt.EqAt.same (A := A) (s := s) (.ref a) X.prog X.w X.xe _ ⟨rfl, I⟩
  · have hv : v ≠ .ref a := fun e => hy (by
      subst e
      cases y with
      | ref b => have := (show (Value.ref a) = .ref b from ry); injection this with this; rw [this]
      | non => cases (show (Value.ref a) = .none from ry)
      | bl b => cases (show (Value.ref a) = .bool b from ry)
      | int i => obtain ⟨t, e⟩ := (show ∃ t, (Value.ref a) = .int i t from ry); cases e
      | str i => obtain ⟨t, e⟩ := (show ∃ t, (Value.ref a) = .str i t from ry); cases e
      | byt i => obtain ⟨t, e⟩ := (show ∃ t, (Value.ref a) = .bytes i t from ry); cases e
      | flt i => obtain ⟨t, e⟩ := (show ∃ t, (Value.ref a) = .float i t from ry); cases e
      | ty i => cases (show (Value.ref a) = .type i from ry))
    obtain ⟨t, ty, nf, q⟩ := d2 hy
    obtain ⟨f, fd, ps, ds, cl, me, F, bb, hd⟩ := c
    obtain ⟨ox, od, J⟩ := inst_at I ha
    obtain ⟨P, Z, p, _⟩ := kit_of I ry ty
    obtain ⟨m, hF⟩ := I.fr
    refine eqBool_ref hv ?_
    refine PySem.W.cmp_K (op := .Eq) (tb := t) sb.room.units0 hF I.ok.mod.kin J (Z.ty _ _ I.kIn p) nf me.at_ me.fn ?_
    have IA : Inv { X with A := A } pins σ H s := by
      obtain ⟨ok, os, bare, base, loc, cell, free, freeC, pin, hok, len⟩ := I
      exact ⟨⟨ok.mod, ok.kind, ok.glob, ok.blt, ok.above, ok.inj, ok.has, ok.cab, fun h => sb.room.hd, by rw [sb.fr]; exact ok.frames, ok.stk, ok.exf, ok.bs, ok.bsz, ok.noex, ok.exfs, ok.funs, ok.frf⟩, os, bare, base, loc, cell, free, freeC, pin, hok, len⟩
    refine thn (run_fn (X := { X with A := A }) (us := [.ref a, v]) (vs := [.ref a, y]) F sb.room bb hd C8.pass0 IA (.cons rfl (.cons ry .nil)) q) fun r s' ⟨z, H', I', rz, ez, eH⟩ => ?_
    subst ez eH
    cases rz
    refine ⟨b, rfl, rfl, ?_⟩
    obtain ⟨ok, os, bare, base, loc, cell, free, freeC, pin, hok, len⟩ := I'
    exact ⟨I.ok, os, bare, base, loc, cell, free, freeC, pin, hok, len⟩
theorem eqD_flat : EqD X 0 (fun x y _ b => flatV x = true ∧ flatV y = true ∧ eqV x y = b) := by
  intro A pins s σ H x y u v b sb I rx ry d
  obtain ⟨fx, fy, e⟩ := d
  have q := eqAt_V (A := A) (s := s) rx ry fx fy
  rw [e] at q
  exact q X.prog X.w X.xe _ ⟨rfl, I⟩
theorem EqD.or {D' : EqRel} (h : EqD X n D) (h' : EqD X j D') : EqD X (max n j) (fun x y H b => D x y H b ∨ D' x y H b) := fun A pins s σ H x y u v b sb I rx ry d => d.elim (h A pins s σ H x y u v b (sb.mono (Nat.le_max_left _ _)) I rx ry) (h' A pins s σ H x y u v b (sb.mono (Nat.le_max_right _ _)) I rx ry)
/-- x in a list, by such == -/
def yInL (K : PySem.W.Frag) (D : EqRel) (neg : Bool) : R2 := fun x y H Q => ∃ p xs e, y = .ref p ∧ SqL K H p xs ∧ (∀ z ∈ xs, D z x H (e z)) ∧ Q (.bl (if neg then !(xs.any e) else xs.any e)) H
theorem contains_D {A : Around} {pins : List (Addr × Obj)} {σ : L2.St} {H : Hp} {s : Shared} {p : Addr} {xs : List V} {x : V} {v : Value} {e : V → Bool} {R : Result → Shared → Prop} (h : EqD X n D) (sb : L2.Sub X n A.in1) (rx : L2.RelV x v) (hp : SqL X.K H p xs) (hd : ∀ z ∈ xs, D z x H (e z)) (hE : ∀ y s', X.xe y s' → R (.error y) s')
    (k : Nat) : ∀ i s, xs.length - i = k → Inv X pins σ H s → (∀ s', Inv X pins σ H s' → R (.ok (.ret (.bool ((xs.drop i).any e)))) s') → wpAny (model X.prog X.w) A.in1 (Builtin.«list.__contains__.loop» ⟨[.ref p, v, rawInt i], []⟩) (GQ.FinOf X.prog X.w A R) (fun y s' => R (.error y) s') s := by
  induction k with
  | zero =>
    intro i s hk I q
    obtain ⟨its, r, pl, hz⟩ := I.list hp
    obtain ⟨⟨cls, dd, data, sl⟩, ho, hc, n0, hd0⟩ := id pl.isList
    simp only at hc hd0
    subst hc hd0
    have hi : its.toArray[((i : Nat) : Int).toNat]? = none := by simp; have := r.length; omega
    have q' := q s I
    have hdr : xs.drop i = [] := by simp; omega
    rw [hdr] at q'
    obtain ⟨hp', g, d, tk, os⟩ := s
    wp_walk using AutoSeq1.wpAny_loadPart' ho
    rw [hi]
    wp_walk
    exact q'
  | succ k ih =>
    intro i s hk I q
    obtain ⟨its, r, pl, hz⟩ := I.list hp
    obtain ⟨⟨cls, dd, data, sl⟩, ho, hc, n0, hd0⟩ := id pl.isList
    simp only at hc hd0
    subst hc hd0
    have hl := r.length
    have hlt : i < its.length := by omega
    have hlt' : i < xs.length := by omega
    have hi : its.toArray[((i : Nat) : Int).toNat]? = some its[i] := by simp [hlt]
    obtain ⟨w', ew, rw'⟩ := r.get (List.getElem?_eq_getElem hlt')
    rw [List.getElem?_eq_getElem hlt] at ew
    cases ew
    have hdr : xs.drop i = xs[i] :: xs.drop (i + 1) := List.drop_eq_getElem_cons hlt'
    rw [hdr, List.any_cons] at q
    have he := h A.in1 pins s σ H xs[i] x its[i] v (e xs[i]) sb I rw' rx (hd _ (List.getElem_mem hlt'))
    obtain ⟨hp', g, d, tk, os⟩ := s
    wp_walk using AutoSeq1.wpAny_loadPart' ho
    rw [hi]
    refine wpAny_bind (wpAny_mono he (fun b s2 ⟨eb, I2⟩ => ?_) hE)
    subst eb
    cases hb : e xs[i] with
    | true =>
      rw [hb] at q
      have q' := q s2 I2
      obtain ⟨hp2, g2, d2, tk2, os2⟩ := s2
      wp_walk
      exact q'
    | false =>
      rw [hb] at q
      have hrec := ih (i + 1) s2 (by omega) I2 (by simpa using q)
      have hc : ((i : Int) + 1) = ((i + 1 : Nat) : Int) := by push_cast; rfl
      obtain ⟨hp2, g2, d2, tk2, os2⟩ := s2
      wp_walk
      rw [hc]
      exact ⟨plainId_quiet MeetsSeq.plain_contains_loop _, codeAny_builtin MeetsSeq.entry_contains_loop (by
        rw [Around.under_plainId MeetsSeq.plain_contains_loop _]
        exact hrec)⟩
theorem has_D {A : Around} {pins : List (Addr × Obj)} {σ : L2.St} {H : Hp} {s : Shared} {p : Addr} {xs : List V} {x : V} {v : Value} {e : V → Bool} {Q : Bool → Shared → Prop} (h : EqD X n D) (sb : L2.Sub X n A.in1) (I : Inv X pins σ H s) (rx : L2.RelV x v) (hp : SqL X.K H p xs) (hd : ∀ z ∈ xs, D z x H (e z)) (q : ∀ s', Inv X pins σ H s' → Q (xs.any e) s') :
    wpAny (model X.prog X.w) A (contains (.ref p) v) Q X.xe s := by
  obtain ⟨its, r, pl, hz⟩ := I.list hp
  obtain ⟨⟨cls, dd, data, sl⟩, ho, hc, n0, hd0⟩ := id pl.isList
  simp only at hc hd0
  subst hc hd0
  refine wpAny_contains_slot ⟨_, ho, rfl⟩ F.slot_list_contains (wpAny_mono (GQ.call_here (Q := fun v s' => ∃ b, v = .bool b ∧ Q b s') F.slot_list_contains ⟨_, ho, rfl⟩ F.entry_list_contains (F.args_list_contains_2 _ _) ?_) (fun v s' hv => ?_) fun _ _ e => e)
  · have lp := contains_D (A := A) (s := s) (R := wants (fun v s' => ∃ b, v = .bool b ∧ Q b s') X.xe) h sb rx hp hd (fun y s' z => z) xs.length 0 s (by omega) I (fun s' I' => ⟨_, rfl, by simpa using q s' I'⟩)
    obtain ⟨hp', g, d, tk, os⟩ := s
    wp_walk using AutoSeq1.wpAny_loadPart' ho
    exact ⟨plainId_quiet MeetsSeq.plain_contains_loop _, codeAny_builtin MeetsSeq.entry_contains_loop (by
      rw [Around.under_plainId MeetsSeq.plain_contains_loop _]
      exact lp)⟩
  · obtain ⟨b, rfl, hq⟩ := hv
    exact wpAny_truthy_bool hq
theorem o_inL (h : EqD X n D) (hr : Room (n + 1) X.A) : OpR X (compareOp .In) (yInL X.K D false) := by
  intro pins s σ H x y v u Q I rx ry q
  obtain ⟨p, xs, e, rfl, hp, hd, q⟩ := q
  cases ry
  show wpAny _ X.A (do return Value.bool (← contains (.ref p) v)) _ _ s
  exact wpAny_bind (has_D h ⟨hr.in1, rfl⟩ I rx hp hd fun s' I' => wpAny_pure ⟨.bl _, H, I', rfl, q⟩)
theorem o_notinL (h : EqD X n D) (hr : Room (n + 1) X.A) : OpR X (compareOp .NotIn) (yInL X.K D true) := by
  intro pins s σ H x y v u Q I rx ry q
  obtain ⟨p, xs, e, rfl, hp, hd, q⟩ := q
  cases ry
  show wpAny _ X.A (do return Value.bool (!(← contains (.ref p) v))) _ _ s
  exact wpAny_bind (has_D h ⟨hr.in1, rfl⟩ I rx hp hd fun s' I' => wpAny_pure ⟨.bl _, H, I', rfl, q⟩)
/-- lists, one of which is empty -/
def yEq0 (K : PySem.W.Frag) : R2 := fun x y H Q => match x, y with
  | .ref p, .ref r => (match H p, H r with
    | some (.lst xs), some (.lst ys) => (xs = [] ∨ ys = []) ∧ Q (.bl (decide (xs.length = ys.length))) H
    | _, _ => False)
  | _, _ => False
def yNe0 (K : PySem.W.Frag) : R2 := fun x y H Q => match x, y with
  | .ref p, .ref r => (match H p, H r with
    | some (.lst xs), some (.lst ys) => (xs = [] ∨ ys = []) ∧ Q (.bl (!decide (xs.length = ys.length))) H
    | _, _ => False)
  | _, _ => False
theorem o_eq0 (hu : X.A.units < cLine) : OpR X (compareOp .Eq) (yEq0 X.K) := by
  intro pins s σ H x y v u Q I rx ry q
  unfold yEq0 at q
  split at q
  · rename_i p r
    split at q
    · rename_i xs ys hp hr
      obtain ⟨q1, q⟩ := q
      cases rx
      cases ry
      obtain ⟨its, r1, pl, _⟩ := I.list (SqL.of (K := X.K) hp)
      obtain ⟨its2, r2, pl2, _⟩ := I.list (SqL.of (K := X.K) hr)
      have l1 := r1.length
      have l2 := r2.length
      show wpAny _ X.A (richCompare .Eq (.ref p) (.ref r)) _ _ s
      by_cases hl : xs.length = ys.length
      · have e0 : its.toArray.size = its2.toArray.size := by simp; omega
        have z0 : its.toArray.size = 0 := by
          rcases q1 with q1 | q1
          · rw [List.size_toArray, ← l1, q1]; rfl
          · rw [e0, List.size_toArray, ← l2, q1]; rfl
        rw [decide_eq_true hl] at q
        have z := SeqAt.RcAt.lists (A := X.A) (s := s) (e := fun _ => true) pl.isList pl2.isList e0 hu (fun j h1 _ => absurd h1 (by omega)) X.prog X.w X.xe (EP X pins σ Q)
        have e1 : (List.range its.toArray.size).all (fun _ => true) = true := by rw [z0]; rfl
        rw [e1] at z
        exact z ⟨.bl true, H, I, rfl, q⟩
      · rw [decide_eq_false hl] at q
        exact SeqAt.RcAt.lists_lengths (A := X.A) (s := s) pl.isList pl2.isList (by simp; omega) hu X.prog X.w X.xe _ ⟨.bl false, H, I, rfl, q⟩
    · exact q.elim
  · exact q.elim
theorem o_ne0 (hu : X.A.units < cLine) : OpR X (compareOp .NotEq) (yNe0 X.K) := by
  intro pins s σ H x y v u Q I rx ry q
  unfold yNe0 at q
  split at q
  · rename_i p r
    split at q
    · rename_i xs ys hp hr
      obtain ⟨q1, q⟩ := q
      cases rx
      cases ry
      obtain ⟨its, r1, pl, _⟩ := I.list (SqL.of (K := X.K) hp)
      obtain ⟨its2, r2, pl2, _⟩ := I.list (SqL.of (K := X.K) hr)
      have l1 := r1.length
      have l2 := r2.length
      show wpAny _ X.A (richCompare .NotEq (.ref p) (.ref r)) _ _ s
      by_cases hl : xs.length = ys.length
      · have e0 : its.toArray.size = its2.toArray.size := by simp; omega
        have z0 : its.toArray.size = 0 := by
          rcases q1 with q1 | q1
          · rw [List.size_toArray, ← l1, q1]; rfl
          · rw [e0, List.size_toArray, ← l2, q1]; rfl
        rw [decide_eq_true hl] at q
        have z := SeqAt.RcNeAt.lists (A := X.A) (s := s) (e := fun _ => true) pl.isList pl2.isList e0 hu (fun j h1 _ => absurd h1 (by omega)) X.prog X.w X.xe (EP X pins σ Q)
        have e1 : (!(List.range its.toArray.size).all (fun _ => true)) = false := by rw [z0]; rfl
        rw [e1] at z
        exact z ⟨.bl false, H, I, rfl, q⟩
      · rw [decide_eq_false hl] at q
        exact SeqAt.RcNeAt.lists_lengths (A := X.A) (s := s) pl.isList pl2.isList (by simp; omega) hu X.prog X.w X.xe _ ⟨.bl true, H, I, rfl, q⟩
    · exact q.elim
  · exact q.elim
/-! ### static methods, class methods, cls(..) -/
def SMet (K : PySem.W.Frag) (C : Addr) (m : Str) (g : Addr) : Prop := PySem.W.typeIn K (.ref C) = some (.type "type") ∧ ClX.CRead K C (.type "type") ∧ ∃ p rest, PySem.W.findCls K (.ref C) (.type "type") m = some (.get (.builtin "staticmethod.__get__") (.ref p) .none (.ref C)) ∧ PySem.W.recIn K p "staticmethod" = some (.ref g :: rest) ∧ PySem.W.handedIn (.ref g) = true
variable {x m : Str} {g f : Addr} {fd : FuncData} {ps : List Str} {E : XK} {CX : CXT} {e : Expr} {es : List Expr} {t : TA} {p pos apos : Pos}
theorem e_sm {pl : Sem Bool} (c : SMet X.K C m g) (F : ∃ fd, FnOk X.prog X.w X.K X.mg X.base C8.CX0 k g fd ps sp ∧ PySem.W.keepIn X.K (.ref g) = true ∧ L2.Binds X.K fd ps []) (hr : Room j X.A) (hk : k ≤ j) (hg : Gl X x) (hm : X.mg x = some (.ref C)) (ha : PA X (e :: es) t)
    (he : starEach (e :: es) X.env = (false, eval e X.env) :: starEach es X.env := by rfl) (hpl : (backTo pos (starEach es X.env)).any (·.1) = false := by rfl) (hdb : (x == ("__debug__" : Str)) = false := by decide)
    (ht : eval (.Call (.Attribute (.Name x p) m apos) (e :: es) [] pos) X.env = (do
      let ov ← eval (.Name x p) X.env
      standAt apos.atName
      let (f, first) ← holding [ov] (getMethod ov m pl)
      callWith pos f first (backTo pos (starEach (e :: es) X.env)) (backToKw pos (keywordEach [] X.env))) := by rfl) :
    PE X (.Call (.Attribute (.Name x p) m apos) (e :: es) [] pos) (tCall sp [] C8.E0 t) := by
  refine ⟨fun pins s σ H Q I h => ?_⟩
  obtain ⟨fd, F, kp, b⟩ := F
  obtain ⟨c0, c1, cp, rest, c2, c3, c4⟩ := c
  obtain ⟨mm, hF⟩ := I.fr
  rw [ht]
  refine wpAny_bind (ld_glob I hg hm ?_ hdb)
  refine wpAny_bind (wpAny_standAt (wpAny_bind (wpAny_holding ?_)))
  refine PySem.W.method_cls I.kIn c1.ga (PySem.W.cls_sm (L := X.env.locals) (m := mm) hF I.ok.mod.kin c0 c1.rd c2 c3 c4 ?_)
  have I1 := I.tok (s.toks + 1)
  refine PySem.W.callWith_K (first := []) (h₀ := X.base) I.ok.mod.kin kp (thn (ha.run pos pins _ σ H _ I1 h) fun us s2 ⟨vs, H2, I2, r, q2⟩ => ⟨I2.kIn, ?_⟩) he hpl
  exact run_fn (us := us) F (hr.mono hk) b .nil C8.pass0 I2 r q2
theorem e_cm {mc : Value} {q : Addr} {pl : Sem Bool} (hg : Gl X x) (hm : X.mg x = some (.ref C)) (r : ClX.CRead X.K C mc) (c : ClX.CMet X.K C mc m q g) (F : ∃ fd, FnOk X.prog X.w X.K X.mg X.base C8.CX0 k g fd ps sp ∧ PySem.W.keepIn X.K (.ref g) = true ∧ L2.Binds X.K fd ps []) (hr : Room j X.A) (hk : k ≤ j) (ha : PA X (e :: es) t)
    (he : starEach (e :: es) X.env = (false, eval e X.env) :: starEach es X.env := by rfl) (hpl : (backTo pos (starEach es X.env)).any (·.1) = false := by rfl) (hdb : (x == ("__debug__" : Str)) = false := by decide)
    (ht : eval (.Call (.Attribute (.Name x p) m apos) (e :: es) [] pos) X.env = (do
      let ov ← eval (.Name x p) X.env
      standAt apos.atName
      let (f, first) ← holding [ov] (getMethod ov m pl)
      callWith pos f first (backTo pos (starEach (e :: es) X.env)) (backToKw pos (keywordEach [] X.env))) := by rfl) :
    PE X (.Call (.Attribute (.Name x p) m apos) (e :: es) [] pos) (fun σ H Q => t σ H fun vs H2 => sp (.ref C :: vs) H2 Q C8.E0) := by
  refine ⟨fun pins s σ H Q I h => ?_⟩
  obtain ⟨fd, F, kp, b⟩ := F
  rw [ht]
  refine wpAny_bind (ld_glob I hg hm ?_ hdb)
  refine wpAny_bind (wpAny_standAt (wpAny_bind (wpAny_holding ?_)))
  refine ClX.getmethcm_ok I r c fun s2 I2 => ?_
  have hb : X.base.get? s.heap.objs.size = none := by
    cases z : X.base.get? s.heap.objs.size with
    | none => rfl
    | some o => exact absurd (Heap.lt_size (I.bs _ o z).1) (Nat.lt_irrefl _)
  refine ClX.callwith_cm I2 hb c.fi (thn (ha.run pos _ s2 σ H _ I2 h) fun us s3 ⟨vs, H2, I3, rv, q2⟩ => ⟨⟨ClX.pin_at I3, I3.kIn⟩, ?_⟩) he hpl
  exact ClX.run_cm (us := us) (vs := vs) (fnR_of F b) (hr.mono hk) C8.pass0 I3 rv q2
/-! ### ranges as lists -/
def zListR2 (ta tb : TE) : TE := fun σ H Q => ta σ H fun x H1 => tb σ H1 fun y H2 => Z.intAt x fun i => Z.intAt y fun j => RgOk i j ∧ ∀ q, H2 q = none → Q (.ref q) (upd H2 q (.lst (rgV i j)))
def zListR1 (ta : TE) : TE := fun σ H Q => ta σ H fun x H1 => Z.intAt x fun j => RgOk 0 j ∧ ∀ q, H1 q = none → Q (.ref q) (upd H1 q (.lst (rgV 0 j)))
theorem e_listR2 {a b : Expr} {ta tb : TE} {p2 pos2 : Pos} (hc : X.calm = true) (hl : Gl X "list") (hml : X.mg "list" = none) (hg : Gl X "range") (hm : X.mg "range" = none) (ha : PE X a ta) (hb : PE X b tb) (na : starEach [a, b] X.env = (false, eval a X.env) :: starEach [b] X.env := by rfl)
    (nb : starEach [b] X.env = (false, eval b X.env) :: starEach [] X.env := by rfl) (hp : (backTo pos2 (starEach [b] X.env)).any (·.1) = false := by rfl) (nc : starEach [.Call (.Name "range" p2) [a, b] [] pos2] X.env = (false, eval (.Call (.Name "range" p2) [a, b] [] pos2) X.env) :: starEach [] X.env := by rfl) :
    PE X (.Call (.Name "list" p) [.Call (.Name "range" p2) [a, b] [] pos2] [] pos) (zListR2 ta tb) :=
  pe_imp (pe_listRg hc hl hml (prg_2 hg hm (pe_up ha) (pe_up hb) na nb hp) nc) fun σ H Q q => ⟨_, fun x H1 q => ⟨_, fun y H2 q => by
    obtain ⟨i, ei, q5⟩ := intAt_ok q
    obtain ⟨j, ej, q6⟩ := intAt_ok q5
    subst ei ej
    exact ⟨i, j, rfl, rfl, q6⟩, q⟩, q⟩
theorem e_listR1 {a : Expr} {ta : TE} {p2 pos2 : Pos} (hc : X.calm = true) (hl : Gl X "list") (hml : X.mg "list" = none) (hg : Gl X "range") (hm : X.mg "range" = none) (ha : PE X a ta) (na : starEach [a] X.env = (false, eval a X.env) :: starEach [] X.env := by rfl)
    (nc : starEach [.Call (.Name "range" p2) [a] [] pos2] X.env = (false, eval (.Call (.Name "range" p2) [a] [] pos2) X.env) :: starEach [] X.env := by rfl) :
    PE X (.Call (.Name "list" p) [.Call (.Name "range" p2) [a] [] pos2] [] pos) (zListR1 ta) :=
  pe_imp (pe_listRg hc hl hml (prg_1 hg hm (pe_up ha) na) nc) fun σ H Q q => ⟨_, fun x H1 q => by
    obtain ⟨i, ei, q5⟩ := intAt_ok q
    subst ei
    exact ⟨i, rfl, q5⟩, q⟩
/-- range(a, b, c) walked -/
def iR3 (ta tb tc : TE) : TI := fun σ H R => ta σ H fun x H1 => tb σ H1 fun y H2 => tc σ H2 fun z H3 => Z.intAt x fun i => Z.intAt y fun j => Z.intAt z fun c => ∃ n, RgC i j c n ∧ R (Itc i c n) H3
theorem i_r3 {tg a b c : Expr} {ta tb tc : TE} {p2 pos2 : Pos} (hg : Gl X "range") (hm : X.mg "range" = none) (ha : PE X a ta) (hb : PE X b tb) (hc : PE X c tc) (h1 : starEach [a, b, c] X.env = (false, eval a X.env) :: starEach [b, c] X.env := by rfl) (h2 : starEach [b, c] X.env = (false, eval b X.env) :: starEach [c] X.env := by rfl) (h3 : starEach [c] X.env = (false, eval c X.env) :: starEach [] X.env := by rfl) (h4 : (backTo pos2 (starEach [b, c] X.env)).any (·.1) = false := by rfl) :
    PI X tg (.Call (.Name "range" p2) [a, b, c] [] pos2) (iR3 ta tb tc) :=
  pi_imp (pi_range3 hg hm (pa_cons (pe_up ha) (pa_cons (pe_up hb) (pa_cons (pe_up hc) pa_nil h3) h2) h1) h1 h4) fun σ H R q => ⟨_, fun x H1 q => ⟨_, fun y H2 q => ⟨_, fun z H3 q => by
    obtain ⟨i, ei, q5⟩ := intAt_ok q
    obtain ⟨j, ej, q6⟩ := intAt_ok q5
    obtain ⟨c, ec, n, q7⟩ := intAt_ok q6
    subst ei ej ec
    exact ⟨i, j, c, n, rfl, q7⟩, q⟩, q⟩, q⟩
def zCM (C : Addr) (sp : Sp) (t : TA) : TE := fun σ H Q => t σ H fun vs H2 => sp (.ref C :: vs) H2 Q C8.E0
/-- len(range(e)) -/
def zLenR1 (ta : TE) : TE := fun σ H Q => ta σ H fun x H1 => Z.intAt x fun n => (0 ≤ n ∧ n < 2 ^ 62) ∧ Q (.int n) H1
theorem e_lenR1 {a : Expr} {ta : TE} {p2 pos2 : Pos} (hl : Gl X "len") (hml : X.mg "len" = none) (hv : bootBuiltins "len" = some (.builtin "len")) (hg : Gl X "range") (hm : X.mg "range" = none) (ha : PE X a ta) (na : starEach [a] X.env = (false, eval a X.env) :: starEach [] X.env := by rfl)
    (nc : starEach [.Call (.Name "range" p2) [a] [] pos2] X.env = (false, eval (.Call (.Name "range" p2) [a] [] pos2) X.env) :: starEach [] X.env := by rfl) :
    PE X (.Call (.Name "len" p) [.Call (.Name "range" p2) [a] [] pos2] [] pos) (zLenR1 ta) := by
  refine ⟨fun pins s σ H Q I h => ?_⟩
  refine wpAny_Call_Name_kw (ld_blt I hl hml hv ?_)
  refine PyProof.Rows.callWith_builtin1 (args_cons (thn (prg_1 hg hm (pe_up ha) na pins s σ H (fun i j H1 => i = 0 ∧ (0 ≤ j ∧ j < 2 ^ 62) ∧ Q (.int j) H1) I ⟨_, fun x H1 q => by
    obtain ⟨n, en, q1, q2⟩ := intAt_ok q
    exact ⟨n, en, rfl, q1, q2⟩, h⟩) fun x s1 hx => args_nil ?_) nc) nc
  obtain ⟨r, i, j, t, u, v, H1, ex, hr, I1, e0, ⟨j0, j1⟩, q⟩ := hx
  subst ex e0
  refine call_len_range (n := (j - 0).toNat) hr (rangeSize_nat 0 j) (by omega) ?_
  have e1 : (((j - 0).toNat : Nat) : Int) = j := by omega
  rw [e1]
  exact ⟨.int j, H1, I1.tok _, ⟨_, rfl⟩, q⟩
def yInt1 : List V → Hp → VK → Prop := fun vs H Q => match vs with
  | [.int i] => Q (.int i) H
  | [.bl b] => Q (.int (if b then 1 else 0)) H
  | _ => False
theorem c_int1 : CallR X (.type "int") yInt1 := cr_imp call_int1 fun xs H Q q => by
  unfold yInt1 at q
  split at q
  · exact .inl ⟨_, rfl, q⟩
  · exact .inr ⟨_, rfl, q⟩
  · exact q.elim
/-- cls(..), cls a parameter that is the class -/
theorem e_mkV0 {i : Nat} {f : Addr} (M : Mk X.K C f) (F : ∃ fd, FnOk X.prog X.w X.K X.mg X.base C8.CX0 k f fd ps sp ∧ PySem.W.keepIn X.K (.ref f) = true ∧ L2.Binds X.K fd ps []) (hr : Room j X.A) (hk : k + 1 ≤ j) (hN : X.N[i]? = some x) (hv : Vis X.env.scope x) (ha : PA X (e :: es) t)
    (hd : (x == ("__debug__" : Str)) = false := by decide) (hcd : (x == ("__classdict__" : Str)) = false := by decide)
    (he : starEach (e :: es) X.env = (false, eval e X.env) :: starEach es X.env := by rfl) (hpl : (backTo pos (starEach es X.env)).any (·.1) = false := by rfl) :
    PE X (.Call (.Name x p) (e :: es) [] pos) (zMakeV i C sp C8.E0 t) := by
  obtain ⟨fd, F, kp, b⟩ := F
  exact e_makeV M F (hr.mono hk) b C8.pass0 hN hv ha hd hcd he hpl
end
end Z
namespace Hk
open PySem PySem.Spec PyProof.Rows L2
def smG (C m : Str) (K : PySem.W.Frag) : Addr := He5.wf K (He.ga K C) "staticmethod" m
def smB (C m : Str) : Fact := fun K => (PySem.W.typeIn K (.ref (He.ga K C)) == some (.type "type")) && (PySem.W.readsIn K (He.ga K C) (.type "type") && (He.eqO (PySem.W.specialIn K (.ref (He.ga K C)) "__getattribute__") (some (some (.builtin "type.__getattribute__"))) &&
  (He5.wrapB K (He.ga K C) "staticmethod" "staticmethod.__get__" m)))
theorem smB_ok {K : PySem.W.Frag} {C m : Str} (h : smB C m K = true) : Z.SMet K (He.ga K C) m (smG C m K) := by
  obtain ⟨h0, h⟩ := He.ba h
  obtain ⟨h1, h⟩ := He.ba h
  obtain ⟨h2, h3⟩ := He.ba h
  obtain ⟨q1, rest, q2⟩ := He5.wrapB_ok h3
  exact ⟨beq_iff_eq.mp h0, ⟨h1, He.eqO_ok h2⟩, _, rest, q1, q2, rfl⟩
/-- no built-in type is a subtype of C -/
def nfB (C : Str) (n : String) : Fact := fun K => PySem.W.notFirst K (He.ga K C) (.type n)
def sfB (C : Str) : Fact := fun K => PySem.W.selfFirst K (He.ga K C)
def kitBB (n : String) (C : Str) (b : Bool) : Fact := fun K => decide (PySem.W.kitOne K (.type n) (.ref (He.ga K C)) = some b)
theorem kitBB_ok {K : PySem.W.Frag} {n : String} {C : Str} {b : Bool} (h : kitBB n C b K = true) : PySem.W.kitOne K (.type n) (.ref (He.ga K C)) = some b := of_decide_eq_true h
end Hk
namespace Z
open PySem PySem.Spec PyProof.Rows L2
/-! ### comprehensions whose elements are told by a predicate -/
def Grow (D : Addr) (H H' : Hp) : Prop := ∀ b o, H b = some o → b ≠ D → H' b = some o
theorem Grow.refl {D : Addr} {H : Hp} : Grow D H H := fun _ _ e _ => e
theorem Grow.same {D : Addr} {H H' H'' : Hp} (g : Grow D H H') (s : Same H' H'') : Grow D H H'' := fun b o e n => s b o (g b o e n)
theorem Grow.set {D : Addr} {H H' : Hp} {o : HO} (g : Grow D H H') : Grow D H (upd H' D o) := fun b u e n => by rw [upd_ne n]; exact g b u e n
theorem Grow.trans {D : Addr} {H H' H'' : Hp} (g : Grow D H H') (g' : Grow D H' H'') : Grow D H H'' := fun b o e n => g' b o (g b o e n) n
/-- P stands while the list at D grows -/
def Mon1 (P : Nat → V → Hp → Prop) : Prop := ∀ D xs i v H H', H D = some (.lst xs) → Grow D H H' → P i v H → P i v H'
theorem grow_at {D a : Addr} {H H' : Hp} {xs : List V} {o : HO} (hD : H D = some (.lst xs)) (g : Grow D H H') (ho : ∀ ys, o ≠ .lst ys) (h : H a = some o) : H' a = some o :=
  g a o h (fun e => by rw [e, hD] at h; exact ho xs (Option.some.inj h).symm)
/-- the elements so far -/
def Elts (P : Nat → V → Hp → Prop) (is : List Nat) (ws : List V) (H : Hp) : Prop := ws.length = is.length ∧ ∀ (j i : Nat) v, is[j]? = some i → ws[j]? = some v → P i v H
theorem Elts.mono {P : Nat → V → Hp → Prop} {is : List Nat} {ws xs : List V} {H H' : Hp} {D : Addr} (m : Mon1 P) (hD : H D = some (.lst xs)) (g : Grow D H H') (h : Elts P is ws H) : Elts P is ws H' := ⟨h.1, fun j i v h1 h2 => m D xs i v H H' hD g (h.2 j i v h1 h2)⟩
theorem Elts.snoc {P : Nat → V → Hp → Prop} {is : List Nat} {ws : List V} {H : Hp} {i : Nat} {v : V} (h : Elts P is ws H) (p : P i v H) : Elts P (is ++ [i]) (ws ++ [v]) H := by
  refine ⟨by rw [List.length_append, List.length_append, h.1]; rfl, fun j i' v' h1 h2 => ?_⟩
  by_cases hj : j < is.length
  · rw [List.getElem?_append_left hj] at h1
    rw [List.getElem?_append_left (by rw [h.1]; exact hj)] at h2
    exact h.2 j i' v' h1 h2
  · rw [List.getElem?_append_right (by omega)] at h1
    rw [List.getElem?_append_right (by rw [h.1]; omega)] at h2
    have e := (List.getElem?_eq_some_iff.mp h1).1
    have ej : j - is.length = 0 := by simp at e; omega
    rw [ej] at h1
    rw [h.1, ej] at h2
    simp at h1 h2
    subst h1 h2
    exact p
theorem Elts.nil {P : Nat → V → Hp → Prop} {H : Hp} : Elts P [] [] H := ⟨rfl, fun j i v h => by simp at h⟩
theorem keep_succ (keep : Nat → Bool) (i : Nat) : (List.range (i + 1)).filter keep = (List.range i).filter keep ++ (if keep i = true then [i] else []) := by
  rw [List.range_succ, List.filter_append]
  cases h : keep i <;> simp [h]
theorem keep_len (keep : Nat → Bool) (i : Nat) : ((List.range i).filter keep).length ≤ i := by
  have := List.length_filter_le keep (List.range i)
  rwa [List.length_range] at this
section
variable {J : It} {n j : Nat} {item : Nat → V} {tt : TT} {te : TE} {vs : List Nat} {σ : L2.St} {H1 : Hp} {Q : VK} {P : Nat → V → Hp → Prop} {keep : Nat → Bool}
theorem comp_objs (S : Steady J n item H1) (hn : n < sizeLine) (keep : Nat → Bool) (P : Nat → V → Hp → Prop) (mono : Mon1 P) (hw : ∀ x, wipe ((wipe σ vs).set j (some x)) vs = wipe σ vs)
    (ht : ∀ i H', i < n → Same H1 H' → ∀ Q' : Bool → Hp → Prop, (∀ H'', Same H' H'' → Q' (keep i) H'') → tt ((wipe σ vs).set j (some (item i))) H' Q')
    (he : ∀ i H', i < n → keep i = true → Same H1 H' → ∀ Q' : VK, (∀ v H'', Same H' H'' → P i v H'' → Q' v H'') → te ((wipe σ vs).set j (some (item i))) H' Q')
    (k : ∀ (D : Addr) (H' : Hp) (ws : List V), H1 D = none → Same H1 H' → H' D = some (.lst ws) → Elts P ((List.range n).filter keep) ws H' → Q (.ref D) H') : compOn J (gName j) tt te vs σ H1 Q := by
  refine comp_core S (fun D i H' => Same H1 H' ∧ ∃ ws, H' D = some (.lst ws) ∧ Elts P ((List.range i).filter keep) ws H') (fun D i H _ p => p.1) ?_ ?_ ?_
  · intro D hD
    exact ⟨fun b o e => by rw [upd_ne (ne_of_none e hD)]; exact e, [], upd_same, Elts.nil⟩
  · rintro D i H hD hi ⟨s, ws, hDl, hE⟩
    refine ⟨hw _, ?_⟩
    refine ht i H hi s _ fun H2 s2 => ?_
    have hD2 := s2 _ _ hDl
    have E2 := hE.mono mono hDl (Grow.refl.same s2)
    have sz := hE.1
    have kl := keep_len keep i
    cases hk : keep i with
    | false =>
      rw [if_neg Bool.false_ne_true]
      refine ⟨s.trans s2, ws, hD2, ?_⟩
      rw [keep_succ, hk, if_neg Bool.false_ne_true, List.append_nil]
      exact E2
    | true =>
      rw [if_pos rfl]
      refine he i H2 hi hk (s.trans s2) _ fun y H3 s3 p3 => ?_
      have hD3 := s3 _ _ hD2
      refine ⟨ws, hD3, by omega, fun b o e => ?_, ws ++ [y], upd_same, ?_⟩
      · rw [upd_ne (ne_of_none e hD)]
        exact s3 _ _ (s2 _ _ (s b o e))
      · rw [keep_succ, hk, if_pos rfl]
        have g4 : Grow D H3 (upd H3 D (.lst (ws ++ [y]))) := Grow.refl.set
        exact ((E2.mono mono hD2 (Grow.refl.same s3)).snoc p3).mono mono hD3 g4
  · rintro D H hD ⟨s, ws, hDl, hE⟩
    exact k D H ws hD s hDl hE
/-- all kept -/
theorem range_true (n : Nat) : (List.range n).filter (fun _ => true) = List.range n := List.filter_eq_self.mpr fun _ _ => rfl
theorem comp_all (S : Steady J n item H1) (hn : n < sizeLine) (P : Nat → V → Hp → Prop) (mono : Mon1 P) (hw : ∀ x, wipe ((wipe σ vs).set j (some x)) vs = wipe σ vs)
    (he : ∀ i H', i < n → Same H1 H' → ∀ Q' : VK, (∀ v H'', Same H' H'' → P i v H'' → Q' v H'') → te ((wipe σ vs).set j (some (item i))) H' Q')
    (k : ∀ (D : Addr) (H' : Hp) (ws : List V), H1 D = none → Same H1 H' → H' D = some (.lst ws) → Elts P (List.range n) ws H' → Q (.ref D) H') : compOn J (gName j) tYes te vs σ H1 Q :=
  comp_objs S hn (fun _ => true) P mono hw (fun i H' _ _ Q' q => q H' (fun _ _ e => e)) (fun i H' hi _ s Q' q => he i H' hi s Q' q) fun D H' ws h1 h2 h3 h4 => k D H' ws h1 h2 h3 (by rw [range_true] at h4; exact h4)
end
/-- over a generator that has begun: J is steady while what stood stands -/
def SteadyG (J : It) (n : Nat) (item : Nat → V) (D : Addr) (H2 : Hp) : Prop := (∀ i H x H', J.yld i H x H' → H' = H) ∧ ∀ H', Grow D H2 H' → (∀ i, n ≤ i → J.stop i H') ∧ (∀ i, i < n → J.go i H') ∧ ∀ i x, i < n → J.yld i H' x H' → x = item i
theorem steadyG_r {lo : Int} {n : Nat} {D : Addr} {H : Hp} : SteadyG (Itr lo n) n (fun i => .int (lo + i)) D H := ⟨GF.pure_r, fun H' _ => ⟨fun _ h => h, fun _ h => h, fun i x _ y => y.2⟩⟩
theorem steadyG_l {K : PySem.W.Frag} {a D : Addr} {xs : List V} {H : Hp} (h : H a = some (.lst xs)) (ne : a ≠ D) : SteadyG (Itl K a) xs.length (fun i => xs.getD i .non) D H := ⟨GF.pure_l, fun H' g => by
  have h' : SqL K H' a xs := SqL.of (g a _ h ne)
  refine ⟨fun i hi => ⟨xs, h', hi⟩, fun i hi => ⟨xs, xs[i], h', by simp [hi]⟩, fun i x hi y => ?_⟩
  obtain ⟨_, y⟩ := y
  have e2 := y xs h'
  show x = xs.getD i V.non
  rw [List.getD_eq_getElem?_getD, e2] <;> rfl⟩
section
variable {J : It} {n j : Nat} {item : Nat → V} {tt : TT} {te : TE} {vs : List Nat} {σ : L2.St} {H2 : Hp} {Q : VK} {D : Addr}
theorem compG_objs (S : SteadyG J n item D H2) (hn : n < sizeLine) (hD : H2 D = some (.lst [])) (keep : Nat → Bool) (P : Nat → V → Hp → Prop) (mono : Mon1 P) (hw : ∀ x, wipe ((wipe σ vs).set j (some x)) vs = wipe σ vs)
    (ht : ∀ i H', i < n → Grow D H2 H' → ∀ Q' : Bool → Hp → Prop, (∀ H'', Same H' H'' → Q' (keep i) H'') → tt ((wipe σ vs).set j (some (item i))) H' Q')
    (he : ∀ i H', i < n → keep i = true → Grow D H2 H' → ∀ Q' : VK, (∀ v H'', Same H' H'' → P i v H'' → Q' v H'') → te ((wipe σ vs).set j (some (item i))) H' Q')
    (k : ∀ (H' : Hp) (ws : List V), Grow D H2 H' → H' D = some (.lst ws) → Elts P ((List.range n).filter keep) ws H' → Q (.ref D) H') : GF.compOnG D J (gName j) tt te vs σ Q H2 := by
  refine GF.compG (item := item) (n := n) hD S.1 (fun i H' => Grow D H2 H' ∧ ∃ ws, H' D = some (.lst ws) ∧ Elts P ((List.range i).filter keep) ws H') (fun i H p => ?_) ⟨Grow.refl, [], hD, Elts.nil⟩ ?_ ?_
  · obtain ⟨g, ws, hDl, _⟩ := p
    obtain ⟨s1, s2, s3⟩ := S.2 H g
    exact ⟨(by rw [hDl]; intro z; cases z), s1, s2, s3⟩
  · rintro i H hi ⟨g, ws, hDl, hE⟩
    refine ⟨hw _, ?_⟩
    refine ht i H hi g _ fun H3 s3 => ?_
    have hD3 := s3 _ _ hDl
    have E3 := hE.mono mono hDl (Grow.refl.same s3)
    have sz := hE.1
    have kl := keep_len keep i
    cases hk : keep i with
    | false =>
      rw [if_neg Bool.false_ne_true]
      refine ⟨g.same s3, ws, hD3, ?_⟩
      rw [keep_succ, hk, if_neg Bool.false_ne_true, List.append_nil]
      exact E3
    | true =>
      rw [if_pos rfl]
      refine he i H3 hi hk (g.same s3) _ fun y H4 s4 p4 => ?_
      have hD4 := s4 _ _ hD3
      refine ⟨ws, hD4, by omega, ((g.same s3).same s4).set, ws ++ [y], upd_same, ?_⟩
      rw [keep_succ, hk, if_pos rfl]
      exact ((E3.mono mono hD3 (Grow.refl.same s4)).snoc p4).mono mono hD4 Grow.refl.set
  · rintro H ⟨g, ws, hDl, hE⟩
    exact k H ws g hDl hE
theorem compG_all (S : SteadyG J n item D H2) (hn : n < sizeLine) (hD : H2 D = some (.lst [])) (P : Nat → V → Hp → Prop) (mono : Mon1 P) (hw : ∀ x, wipe ((wipe σ vs).set j (some x)) vs = wipe σ vs)
    (he : ∀ i H', i < n → Grow D H2 H' → ∀ Q' : VK, (∀ v H'', Same H' H'' → P i v H'' → Q' v H'') → te ((wipe σ vs).set j (some (item i))) H' Q')
    (k : ∀ (H' : Hp) (ws : List V), Grow D H2 H' → H' D = some (.lst ws) → Elts P (List.range n) ws H' → Q (.ref D) H') : GF.compOnG D J (gName j) tYes te vs σ Q H2 :=
  compG_objs S hn hD (fun _ => true) P mono hw (fun i H' _ _ Q' q => q H' (fun _ _ e => e)) (fun i H' hi _ s Q' q => he i H' hi s Q' q) fun H' ws h2 h3 h4 => k H' ws h2 h3 (by rw [range_true] at h4; exact h4)
end
/-- values, told by a function -/
theorem elts_vals {f : Nat → V} {is : List Nat} {ws : List V} {H : Hp} (h : Elts (fun i v _ => v = f i) is ws H) : ws = is.map f := by
  refine List.ext_getElem? fun j => ?_
  rw [List.getElem?_map]
  cases e : is[j]? with
  | none =>
    have : is.length ≤ j := List.getElem?_eq_none_iff.mp e
    rw [List.getElem?_eq_none_iff.mpr (by rw [h.1]; exact this)]; rfl
  | some i =>
    have lt := (List.getElem?_eq_some_iff.mp e).1
    have lt' : j < ws.length := by rw [h.1]; exact lt
    rw [List.getElem?_eq_getElem lt']
    rw [h.2 j i ws[j] e (List.getElem?_eq_getElem lt')] <;> rfl
theorem mon_vals {f : Nat → V} : Mon1 (fun i v _ => v = f i) := fun _ _ _ _ _ _ _ _ p => p
/-! ### ranges -/
theorem rg_get {a b : Int} {i : Nat} (h : i < (b - a).toNat) : (rgV a b)[i]? = some (.int (a + i)) := by
  unfold rgV
  rw [List.getElem?_map, List.getElem?_range h] <;> rfl
theorem rg_ints (a b : Int) : rgV a b = ((List.range (b - a).toNat).map fun i : Nat => a + (i : Int)).map V.int := by
  unfold rgV
  rw [List.map_map] <;> rfl
theorem rg_flat (a b : Int) : (rgV a b).all flatV = true := by
  unfold rgV
  rw [List.all_map, List.all_eq_true]
  intro x _
  rfl
theorem rg_in (a b w : Int) : inV (.int w) (rgV a b) = decide (a ≤ w ∧ w < b) := by
  unfold inV rgV
  rw [List.any_map]
  by_cases h : a ≤ w ∧ w < b
  · rw [decide_eq_true h, List.any_eq_true]
    refine ⟨(w - a).toNat, List.mem_range.mpr (by omega), ?_⟩
    simp only [Function.comp, eqV, beq_iff_eq]
    omega
  · rw [decide_eq_false h, List.any_eq_false]
    intro i hi
    have := List.mem_range.mp hi
    simp only [Function.comp, eqV, beq_iff_eq]
    omega
theorem rg_snoc {a b : Int} (h : a ≤ b) : rgV a (b + 1) = rgV a b ++ [.int b] := by
  unfold rgV
  rw [show (b + 1 - a).toNat = (b - a).toNat + 1 by omega, List.range_succ, List.map_append]
  congr 1
  simp only [List.map_cons, List.map_nil]
  congr 2
  omega
theorem rg_nil {a b : Int} (h : b ≤ a) : rgV a b = [] := by
  unfold rgV
  rw [show (b - a).toNat = 0 by omega] <;> rfl
/-! ### data -/
theorem ints_dp' {K : PySem.W.Frag} {H : Hp} {p : Addr} {cs : List Int} (h : H p = some (.lst (cs.map V.int))) : Dp K H (.ref p) (.list (cs.map PyData.int)) := by
  refine Dp.lst (SqL.of h) (dp_all (by rw [List.length_map, List.length_map]) fun i v d h1 h2 => ?_)
  rw [List.getElem?_map] at h1 h2
  cases e : cs[i]? with
  | none => rw [e] at h1; cases h1
  | some y =>
    rw [e] at h1 h2
    obtain rfl := Option.some.inj h1
    obtain rfl := Option.some.inj h2
    exact .int _
theorem ints_shaped' (cs : List Int) : SeqAt.shaped (.list (cs.map PyData.int)) = true := by
  refine shaped_of (n := 1) (lay_list fun x hx => ?_) (depth_list (n := 0) fun x hx => ?_) (by decide)
  · obtain ⟨y, _, rfl⟩ := List.mem_map.mp hx
    simp only [PyData.canLay0]
  · obtain ⟨y, _, rfl⟩ := List.mem_map.mp hx
    simp only [PyData.depth]
    decide
def pairD (p : Int × Int) : PyData := .tuple [.int p.1, .int p.2]
theorem pair_dp {K : PySem.W.Frag} {H : Hp} {p : Addr} {a b : Int} (h : H p = some (.tup [.int a, .int b])) : Dp K H (.ref p) (pairD (a, b)) := Dp.tup (SqT.of h) (.cons (.int _) (.cons (.int _) .nil))
theorem pair_shaped (p : Int × Int) : SeqAt.shaped (pairD p) = true := shaped_of (n := 1) (lay_tuple fun x hx => by
  simp only [List.mem_cons, List.not_mem_nil, or_false] at hx
  rcases hx with rfl | rfl <;> simp only [PyData.canLay0]) (depth_tuple (n := 0) fun x hx => by
  simp only [List.mem_cons, List.not_mem_nil, or_false] at hx
  rcases hx with rfl | rfl <;> simp only [PyData.depth] <;> decide) (by decide)
theorem pairs_dp {K : PySem.W.Frag} {H : Hp} {p : Addr} {ws : List V} {ps : List (Int × Int)} (h : H p = some (.lst ws)) (hl : ws.length = ps.length) (hp : ∀ (i : Nat) v q, ws[i]? = some v → ps[i]? = some q → ∃ t, v = .ref t ∧ H t = some (.tup [.int q.1, .int q.2])) : Dp K H (.ref p) (.list (ps.map pairD)) := by
  refine Dp.lst (SqL.of h) (dp_all (by rw [List.length_map]; exact hl) fun i v d h1 h2 => ?_)
  rw [List.getElem?_map] at h2
  cases e : ps[i]? with
  | none => rw [e] at h2; cases h2
  | some q =>
    rw [e] at h2
    obtain rfl := Option.some.inj h2
    obtain ⟨t, rfl, ht⟩ := hp i v q h1 e
    exact pair_dp ht
theorem pairs_shaped (ps : List (Int × Int)) : SeqAt.shaped (.list (ps.map pairD)) = true := by
  refine shaped_of (n := 2) (lay_list fun x hx => ?_) (depth_list (n := 1) fun x hx => ?_) (by decide)
  · obtain ⟨y, _, rfl⟩ := List.mem_map.mp hx
    exact lay_tuple fun x hx => by
      simp only [List.mem_cons, List.not_mem_nil, or_false] at hx
      rcases hx with rfl | rfl <;> simp only [PyData.canLay0]
  · obtain ⟨y, _, rfl⟩ := List.mem_map.mp hx
    exact depth_tuple (n := 0) fun x hx => by
      simp only [List.mem_cons, List.not_mem_nil, or_false] at hx
      rcases hx with rfl | rfl <;> simp only [PyData.depth] <;> decide
theorem steady_c {lo c : Int} {n : Nat} {H1 : Hp} : Steady (Itc lo c n) n (fun i => .int (lo + (i : Nat) * c)) H1 := fun H' _ => ⟨fun _ hi => hi, fun _ hi => hi, fun _ _ _ _ y => y⟩
theorem rgC4 {i j : Int} {n : Nat} (h1 : 0 ≤ i) (h2 : i < 2 ^ 60) (h3 : 0 ≤ j) (h4 : j < 2 ^ 60) (hn : (if i < j then (j - i - 1) / 4 + 1 else 0) = (n : Int)) : RgC i j 4 n := by
  refine ⟨by decide, by decide, ?_, ?_⟩
  · unfold Builtin.Range.small Builtin.Range.rangeSize
    simp only [Builtin.Range.rangeFitsLong, Bool.and_eq_true, Bool.or_eq_true, decide_eq_true_eq, beq_iff_eq, show (4 : Int) > 0 by decide, if_true]
    split <;> omega
  · unfold Builtin.Range.rangeSize
    rw [if_pos (by decide)]
    exact hn
end Z
namespace Z
open PySem PySem.Spec PyProof.Rows L2
/-! ### texts of ints, f-strings -/
def zFmt (te : TE) : TE := fun σ H Q => te σ H fun x H1 => match x with
  | .str y => y.length ≤ sizeLine ∧ Q (.str y) H1
  | .int i => i.natAbs.log2 < 1920 ∧ Q (.str (toString i)) H1
  | _ => False
def zJs : List TE → Str → L2.St → Hp → (Str → Hp → Prop) → Prop
  | [], acc, _, H, Q => Q acc H
  | t :: ts, acc, σ, H, Q => t σ H fun x H1 => Z.strAt x fun y => (acc ++ y).length ≤ sizeLine ∧ zJs ts (acc ++ y) σ H1 Q
def zJoin (ts : List TE) : TE := fun σ H Q => zJs ts Str.empty σ H fun out H1 => Q (.str out) H1
def yStr1 : List V → Hp → VK → Prop := fun vs H Q => match vs with
  | [.int i] => i.natAbs.log2 < 1920 ∧ Q (.str (toString i)) H
  | _ => False
section
variable {X : Cx}
theorem e_fmt {e : Expr} {te : TE} {pos : Pos} (he : PE X e te) : PE X (.FormattedValue e (-1) none pos) (zFmt te) := pe_imp (pe_fmt (pe_up he)) fun σ H Q q => ⟨_, fun x H1 q => by
  split at q
  · exact .inl ⟨_, rfl, q⟩
  · exact .inr ⟨_, rfl, q⟩
  · exact q.elim, q⟩
theorem zJs_imp : ∀ (ts : List TE) (acc : Str) (σ : L2.St) (H : Hp) (Q : Str → Hp → Prop), zJs ts acc σ H Q → tJs (ts.map up) acc σ H Q
  | [], _, _, _, _, q => q
  | t :: ts, acc, σ, H, Q, q => ⟨_, fun x H1 q => by
    unfold Z.strAt at q
    split at q
    · exact ⟨_, rfl, q.1, zJs_imp ts _ σ H1 Q q.2⟩
    · exact q.elim, q⟩
theorem e_join {v1 v2 : Expr} {rest : List Expr} {ts : List TE} {pos : Pos} (h : PJ X (v1 :: v2 :: rest) (ts.map up)) : PE X (.JoinedStr (v1 :: v2 :: rest) pos) (zJoin ts) := pe_imp (pe_joined h) fun σ H Q q => zJs_imp ts _ σ H _ q
theorem c_str1 : CallR X (.type "str") yStr1 := cr_imp call_str_int fun xs H Q q => by
  unfold yStr1 at q
  split at q
  · exact ⟨_, rfl, q.1, q.2⟩
  · exact q.elim
end
theorem log_ok {i : Int} (h0 : 0 ≤ i) (h1 : i < 2 ^ 60) : i.natAbs.log2 < 1920 := by
  by_cases h : i.natAbs = 0
  · rw [h]; decide
  · rw [Nat.log2_lt h]
    have : i.natAbs < 2 ^ 60 := by omega
    exact Nat.lt_of_lt_of_le this (Nat.pow_le_pow_right (by decide) (by decide))
end Z
/-! Own exceptions with a field, over any base; try; match. -/
namespace ZE
open PySem PySem.W PySem.Calls PyProof.Rows Builtin Builtin.ObjectAttr
section
variable {prog : Program} {w : World} {A : Around} {R : Result → Shared → Prop} {hp : Heap} {gg : Array GenState} {dr : Drawn} {tt : Nat} {oo : OsState}
/-- the first field of an exception is stored -/
theorem firstField {K : Frag} {nam : Str} {tok : Tok} {val : Value} {x C : Addr} {flds : Array Value} {cld : ClassData} (kin : K.In hp) (ex : hp.get? x = some { cls := .ref C, data := .fields flds })
    (ec : clsIn K C = some cld) (full : cld.mro.isEmpty = false) (obj : cld.mro.contains (.type "object") = true) (pass : refuseLoop (.ref x) "__setattr__" cld.mro = pure ()) (hdict : cld.hasDict = true) (free : findIn K (.ref C) nam = some none)
    (fin : ∀ h' tk' dx, (∀ b o, b ≠ x → hp.get? b = some o → h'.get? b = some o) → hp.objs.size ≤ dx → dx ≠ x → h'.get? x = some { cls := .ref C, dict := some dx, data := .fields flds } → h'.Ns1 dx (fun y => if y = nam then some val else none) → R (.ok (.ret .none)) ⟨h', gg, dr, tk', oo⟩) :
    codeAny (model prog w) A (.call (.builtin "object.__setattr__") ⟨[.ref x, .str nam tok, val], []⟩) R ⟨hp, gg, dr, tt, oo⟩ := by
  have inst : InstAt hp x { cls := .ref C, data := .fields flds } C none := ⟨ex, rfl, rfl, trivial⟩
  have ne : x ≠ hp.objs.size := Nat.ne_of_lt (Heap.lt_size ex)
  have isObj : Looks (model prog w) hp (isInstance (.ref x) (.type "object")) true := inst.type.andThen (looks_mroIn kin (by unfold mroIn; rw [ec, Option.bind_some, if_neg (by rw [full]; decide), obj]))
  have mroL : Looks (model prog w) hp (mroOf (.ref C)) cld.mro := (looks_clsIn kin ec).andThen .now
  have noTaker : Looks (model prog w) hp (storeTaker? none) none := .now
  have clsL : Looks (model prog w) hp (classData C) cld := looks_clsIn kin ec
  refine codeAny_call_builtin F.store_object.slot.plain F.store_object.entry (@check_slot (model prog w) _ _ ⟨hp, gg, dr, tt, oo⟩ "object.__setattr__" "object" "__setattr__" (.ref x) [.str nam tok, val] [] _ F.store_object.kind F.store_object.split isObj (F.store_object.args (.ref x) (.str nam tok) val) ?_)
  rw [osa_eq, refuse_eq]
  refine wpAny_bind (wpAny_bind (inst.type.at (wpAny_bind (mroL.at ?_))))
  rw [pass]
  refine wpAny_pure (wpAny_bind (inst.type.at (wpAny_bind ((looks_findIn kin free).at (wpAny_bind (noTaker.at ?_))))))
  show wpAny _ _ (storeInOwnDict (.ref x) (.ref C) (.str nam tok) nam val false) _ _ _
  obtain ⟨c1, c2, c3, c4, c5, c6, c7, c8, c9, c10, c11⟩ := cld
  dsimp only at hdict
  subst hdict
  unfold storeInOwnDict ownDictForStores
  repeat (first | with_reducible refine HandSPX.store_in_new ?_ ?_ | with_reducible refine wpAny_loadPart_at ex ?_ | with_reducible refine clsL.at ?_ | wp_step)
  · exact ⟨_, #[], _, (Heap.get?_update_ne _ _ _ _ ne.symm).trans (Heap.get?_push_at rfl rfl), rfl, fun z hz => absurd hz (by simp), fun _ => rfl⟩
  · intro h' tk' ns sb
    have ex' : (hp.push { cls := .type "dict", data := .dict #[] }).get? x = some { cls := .ref C, data := .fields flds } := Heap.get?_push_of_some _ ex
    exact fin h' tk' hp.objs.size (fun b o hb ho => (sb.2 b (Nat.ne_of_lt (Heap.lt_size ho))).trans ((Heap.get?_update_ne _ _ _ _ hb).trans (Heap.get?_push_of_some _ ho))) (Nat.le_refl _) ne.symm ((sb.2 x ne).trans (Heap.get?_update_self _ ex' rfl)) ns
end
end ZE
namespace Z
open PySem PySem.Spec PyProof.Rows L2
/-- an own exception class directly over a built-in one, with its own __init__ -/
structure OexG (K : PySem.W.Frag) (bmB : List Value) (newId : String) (C : Addr) : Prop where
  ini : PySem.W.excInitIn K C bmB newId = true
  cls : ∃ cd, PySem.W.clsIn K C = some cd ∧ cd.mro = .ref C :: bmB ∧ cd.hasDict = true
  sa : PySem.W.findIn K (.ref C) "__setattr__" = some (some (.builtin "object.__setattr__"))
  exC : PySem.W.subIn K (.ref C) (.type "BaseException") = some true
  tyC : PySem.W.typeIn K (.ref C) = some (.type "type")
  kC : PySem.W.keepIn K (.ref C) = true
section
variable {X : Cx} {pins : List (Addr × Obj)} {σ : L2.St} {H : Hp} {s : Shared} {a C : Addr} {f : Str} {y : V} {u : Value} {E : Value → Shared → Prop} {A : Around} {B newId initId : String} {bmB : List Value}
theorem exo_first (SF : StoreFacts B bmB "object.__setattr__" "object") (T : OexG X.K bmB newId C) (I : Inv X pins σ H s) (e : H a = some (exo a C none)) (hno : PySem.W.findIn X.K (.ref C) f = some none) (ry : L2.RelV y u) {Q : Unit → Shared → Prop}
    (h : ∀ dx s', H dx = none → dx ≠ a → Inv X pins σ (upd (upd H dx (exd dx [(f, y)])) a (exo a C (some dx))) s' → Q () s') : wpAny (model X.prog X.w) A (setAttr (.ref a) f u) Q E s := by
  obtain ⟨cd, hcd, hm, hh⟩ := T.cls
  obtain ⟨t1, ho⟩ := exo_at I.hok e
  obtain ⟨hp, g, d, t, os⟩ := s
  refine PySem.W.set_plain I.kIn (ox := { cls := .ref C, dict := none, data := .fields #[.ref t1, .none, .none, .none, .bool false, .none] }) (od := none) ⟨ho, rfl, rfl, trivial⟩ T.sa ?_
  refine ZE.firstField I.kIn ho hcd (by rw [hm]; rfl) (by rw [hm, List.contains_cons, SF.hasOwner, Bool.or_true]) (by rw [hm, refuseLoop_ref]; exact SF.passes _) hh hno fun h' tk' dx k dn dne hx hn => ?_
  have hnd : H dx = none := I.hok.fresh dn
  have nd : ∀ {b : Addr} {o : Obj}, hp.get? b = some o → b ≠ dx := fun {b o} q => Nat.ne_of_lt (Nat.lt_of_lt_of_le (Heap.lt_size q) dn)
  have na : ∀ {b : Addr}, H b = none → b ≠ a := fun {b} n z => by rw [z, e] at n; cases n
  have other : ∀ {b : Addr} {o : HO}, H b = some o → exo a C none ≠ o → upd (upd H dx (exd dx [(f, y)])) a (exo a C (some dx)) b = some o := fun {b o} hb ne => by
    rw [upd_ne (at_ne e hb ne), upd_ne (ne_of_none hb hnd)]
    exact hb
  refine h dx _ hnd dne (I.un (t' := tk') ⟨fun b o q n _ _ => k b o (na n) q, fun b o q n _ _ => ⟨o.slots, k b o (na n) q⟩, fun b o q n _ => by rw [upd_ne (na n), upd_ne (nd q)]; exact n, fun b o q _ => ?_, fun b xs q => other q exo_tup, fun b o v q => other q exo_frz, fun b ps q => ⟨#[], by rw [other q exo_tbl]; simp⟩⟩ fun b o q => ?_)
  · by_cases hb : b = a
    · exact ⟨_, by rw [hb]; exact hx⟩
    · exact ⟨o, k b o hb q⟩
  · by_cases hb : b = a
    · rw [hb, upd_same] at q
      cases q
      rw [hb]
      exact exo_ok hx
    · rw [upd_ne hb] at q
      by_cases hd : b = dx
      · rw [hd, upd_same] at q
        cases q
        rw [hd]
        exact exd_ok hn (relO_put (fs := []) ry fun g => True.intro)
      · rw [upd_ne hd] at q
        exact (I.hok b o q).stay (fun c v hc z => k c v (hc.elim (fun hc => by rw [hc]; exact hb) fun hc => at_ne e hc exo_own) z) (fun c hc => other hc exo_own) fun c xs hc => other hc exo_tup
theorem base_init (F : ExcBaseFacts B newId initId bmB) (T : OexG X.K bmB newId C) (I : Inv X pins σ H s) (e : H a = some (exo a C none)) {us : List Value} {Q : Value → Shared → Prop} (hl : us.length ≤ sizeLine) (h : ∀ s', Inv X pins σ H s' → Q .none s') :
    wpAny (model X.prog X.w) A (call (.builtin initId) (.ref a :: us)) Q E s := by
  obtain ⟨nm, N, qn, bs, bm, hdct, sn, sub, ab, col, dd, k0, k1, k2, k3, k5, hC, hbm⟩ := PySem.W.excInit_of I.kIn T.ini
  obtain ⟨t1, ho⟩ := exo_at I.hok e
  obtain ⟨hp, g, d, t, os⟩ := s
  refine wpAny_call (PySem.HandSPX.init_base F hbm hC ho hl fun h' t2 k hx => ?_)
  have eu : upd H a (exo a C none) = H := by
    funext b
    by_cases hb : b = a
    · rw [hb, upd_same, e]
    · rw [upd_ne hb]
  have J := I.write (t' := t) (x := a) (e := a) (o := exo a C none) (by rw [e]; exact True.intro) (.inl rfl) k ⟨_, hx⟩ (exo_ok hx)
  exact h _ (eu ▸ J)
end
/-! ### readings and rules -/
/-- B.__init__(self, 'text') -/
def zBInit (K : PySem.W.Frag) (bmB : List Value) (newId : String) (i : Nat) : TE := fun σ H Q => (match σ[i]? with
  | some (some (.ref a)) => ∃ C, OexG K bmB newId C ∧ H a = some (exo a C none)
  | _ => False) ∧ Q .non H
/-- self.f = e, the first field -/
def zOst (K : PySem.W.Frag) (bmB : List Value) (newId : String) (f : Str) (i : Nat) (te : TE) : TS := fun D σ H => te σ H fun y H1 => match σ[i]? with
  | some (some (.ref a)) => ∃ C, (OexG K bmB newId C ∧ PySem.W.findIn K (.ref C) f = some none ∧ H1 a = some (exo a C none)) ∧ ∀ dx, H1 dx = none → dx ≠ a → D.nx σ (upd (upd H1 dx (exd dx [(f, y)])) a (exo a C (some dx)))
  | _ => False
section
variable {X : Cx} {o e : Expr} {es : List Expr} {te : TE} {ta : TA} {f x m : Str} {p p' p1 p2 p3 pos : Pos} {i j : Nat} {B newId initId : String} {bmB : List Value}
theorem e_binit {pl : Sem Bool} {Bs : Str} {z : Str} (F : ExcBaseFacts B newId initId bmB) (hg : Gl X Bs) (hm : X.mg Bs = none) (hbt : bootBuiltins Bs = some (.type B)) (hty : typeOf (.type B) = pure (.type "type"))
    (hvi : PySem.W.findCls X.K (.type B) (.type "type") "__init__" = some (.val (.builtin initId))) (hs : PySem.W.handedIn (.builtin initId) = true) (hN : X.N[i]? = some x) (hv : Vis X.env.scope x) (hd : (x == ("__debug__" : Str)) = false) (hcd : (x == ("__classdict__" : Str)) = false)
    (hn1 : Bs ≠ "__name__" := by decide) (hn2 : (Bs == ("__debug__" : Str)) = false := by decide)
    (hmt : ∀ {prog : Program} {w : World} {A : Around} {E : Value → Shared → Prop} {s : Shared} {Q : Value × List Value → Shared → Prop} {mm : Str → Option Value}, Fr X.base X.env.locals s.heap mm → X.K.In X.base → Q (.builtin initId, []) { s with toks := s.toks + 1 } → wpAny (model prog w) A (getMethod (.type B) "__init__" pl) Q E s)
    (hc : eval (.Call (.Attribute (.Name Bs p1) "__init__" p2) [.Name x p, .Constant (.str z) j p3] [] pos) X.env = (do
      let ov ← eval (.Name Bs p1) X.env
      standAt p2.atName
      let (f, first) ← holding [ov] (getMethod ov "__init__" pl)
      callWith pos f first (backTo pos (starEach [.Name x p, .Constant (.str z) j p3] X.env)) (backToKw pos (keywordEach [] X.env))) := by rfl)
    (he : starEach [.Name x p, .Constant (.str z) j p3] X.env = (false, eval (.Name x p) X.env) :: starEach [.Constant (.str z) j p3] X.env := by rfl) (he2 : starEach [.Constant (.str z) j p3] X.env = (false, eval (.Constant (.str z) j p3) X.env) :: starEach [] X.env := by rfl) (hpl : (backTo pos (starEach [.Constant (.str z) j p3] X.env)).any (·.1) = false := by rfl) :
    PE X (.Call (.Attribute (.Name Bs p1) "__init__" p2) [.Name x p, .Constant (.str z) j p3] [] pos) (zBInit X.K bmB newId i) := by
  refine ⟨fun pins s σ H Q I h => ?_⟩
  obtain ⟨h1, q⟩ := h
  refine PySem.W.methodCall_KW (ld_blt I hg hm hbt ?_ hn1 hn2) hc
  obtain ⟨mm, fr⟩ := I.fr
  refine hmt fr I.ok.mod.kin ?_
  have ha : PA X [.Name x p, .Constant (.str z) j p3] (tCons (zV i) (tCons (tC (.str z)) tNil)) := pa_cons (pz i hN hv hd hcd) (pa_cons pe_str pa_nil he2) he
  split at h1
  · rename_i a e1
    obtain ⟨C, T, ea⟩ := h1
    refine PyProof.Rows.callWith_method1 (thn (ha.run pos pins _ σ H (fun vs H1 => vs = [.ref a, .str z] ∧ H1 = H) (I.tok _) (by unfold tCons zV; simp only [e1]; first | exact ⟨rfl, rfl⟩ | exact ⟨trivial, rfl⟩ | simp [tCons, tC, tNil])) fun us s1 ⟨vs, H1, I1, r1, ev, eH⟩ => ?_) he hpl
    subst ev eH
    cases r1 with
    | @cons _ u0 _ ur ra rw' =>
      obtain rfl : u0 = Value.ref a := ra
      refine base_init F T I1 ea ?_ fun s' J => ⟨.non, _, J, rfl, q⟩
      rw [← Paired.length rw']
      show 1 ≤ sizeLine
      decide
  · exact h1.elim
theorem s_ost (SF : StoreFacts B bmB "object.__setattr__" "object") (hN : X.N[i]? = some x) (hv : Vis X.env.scope x) (he : PE X e te) (hs : swapsWith e (some (.Attribute (.Name x p) f p')) pos.line X.env = pure false := by rfl) (hd : (x == ("__debug__" : Str)) = false := by decide) (hcd : (x == ("__classdict__" : Str)) = false := by decide) :
    PS X (.Assign [.Attribute (.Name x p) f p'] e pos) (zOst X.K bmB newId f i te) := by
  refine ⟨fun pins s σ H D I h => ?_⟩
  refine plainObj_wpAny_Assign_Attribute (thn ((pe_up he).run pins s σ H (fun y H1 => ∃ a C, σ[i]? = some (some (.ref a)) ∧ (OexG X.K bmB newId C ∧ PySem.W.findIn X.K (.ref C) f = some none ∧ H1 a = some (exo a C none)) ∧ ∀ dx, H1 dx = none → dx ≠ a → D.nx σ (upd (upd H1 dx (exd dx [(f, y)])) a (exo a C (some dx)))) I ⟨_, fun y H1 q => by
    split at q
    · rename_i a e1
      obtain ⟨C, q1, q2⟩ := q
      exact ⟨a, C, e1, q1, q2⟩
    · exact q.elim, h⟩) fun v s1 ⟨y, H1, I1, r1, a, C, e1, ⟨T, hno, ea⟩, q⟩ => thn ((pz (pos := p) i hN hv hd hcd).run pins s1 σ H1 (fun x H2 => x = .ref a ∧ H2 = H1) I1 (by unfold zV; simp only [e1]; first | exact ⟨rfl, rfl⟩ | simp)) fun u s2 ⟨x2, H2, I2, r2, ex, eH⟩ => ?_) hs
  subst ex eH
  obtain rfl : u = Value.ref a := r2
  exact exo_first SF T I2 ea hno r1 fun dx s' n ne J => ⟨σ, _, J, q dx n ne⟩
/-- C(e, ..) of such a class -/
theorem pmk_oexG {CX : CXT} {C fI : Addr} {k : Nat} {fd : FuncData} {ps : List Str} {sp : Sp} (FB : ExcBaseFacts B newId initId bmB) (T : OexG X.K bmB newId C) (iC : PySem.W.findIn X.K (.ref C) "__init__" = some (some (.ref fI))) (tI : PySem.W.typeIn X.K (.ref fI) = some (.type "function"))
    (F1 : FnOk X.prog X.w X.K X.mg X.base CX k fI fd ps sp) (hr : Room (k + 1) X.A) (hb : L2.Binds X.K fd ps []) (hx : Passes CX X (fun _ _ _ => False)) (hg : Gl X x) (hm : X.mg x = some (.ref C)) (ha : PA X (e :: es) ta)
    (hdb : (x == ("__debug__" : Str)) = false := by decide) (he : starEach (e :: es) X.env = (false, eval e X.env) :: starEach es X.env := by rfl) (hpl : (backTo pos (starEach es X.env)).any (·.1) = false := by rfl) :
    PMk X (.Call (.Name x p) (e :: es) [] pos) (tMkO C sp [] ta) := by
  intro pins s σ H Q I h
  refine wpAny_Call_Name_kw (ld_glob I hg hm ?_ hdb)
  refine PySem.W.callWith_K (h₀ := X.base) I.ok.mod.kin T.kC (thn (ha.run pos pins s σ H _ I h) fun us s1 ⟨vs, H1, I1, r1, hz, q1⟩ => ⟨I1.kIn, ?_⟩) he hpl
  obtain ⟨nm, N, qn, bs, bm, hdct, sn, sub, ab, col, dd, k0, k1, k2, k3, k5, hC, hbm⟩ := PySem.W.excInit_of I1.kIn T.ini
  show wpAny _ _ (call (.ref C) us) _ _ _
  obtain ⟨hp, g, dr, tk, os⟩ := s1
  have up1 : hp.objs.size ≤ hp.objs.size + 1 := Nat.le_succ _
  have hq := q1 (hp.objs.size + 1) (I1.hok.fresh up1)
  generalize hh2 : (hp.push (PySem.W.kdv_tup us)).push (PySem.HandSPX.excO C hp.objs.size) = h2
  have kk : ∀ b o, hp.get? b = some o → h2.get? b = some o := fun b o z => by rw [← hh2]; exact Heap.get?_push_of_some _ (Heap.get?_push_of_some _ z)
  have hget : h2.get? (hp.objs.size + 1) = some (PySem.HandSPX.excO C hp.objs.size) := by rw [← hh2]; heap_get
  have I2 : Inv X pins σ (upd H1 (hp.objs.size + 1) (exo (hp.objs.size + 1) C none)) ⟨h2, g, dr, tk, os⟩ := I1.laid (t' := tk) kk up1 (exo_ok hget)
  have r2 : Vals (V.ref (hp.objs.size + 1) :: (vs ++ [])) (Value.ref (hp.objs.size + 1) :: us) := .cons rfl (by rw [List.append_nil]; exact r1)
  have hl : (Value.ref (hp.objs.size + 1) :: us).length = ps.length := by rw [← r2.length]; exact F1.len _ _ _ _ hq
  have bnd := hb ⟨h2, g, dr, tk, os⟩ (Value.ref (hp.objs.size + 1) :: us) I2.kIn (by rw [List.append_nil]; exact hl)
  rw [List.append_nil] at bnd
  refine wpAny_call (PySem.HandSPX.call_own FB hbm hC (PySem.W.looks_findIn I1.kIn iC) (fun self => PySem.W.bind_fn I1.kIn self tI) (by rw [← Paired.length r1, sizeLine_eq]; omega) ?_)
  rw [hh2]
  refine codeAny_mono (F1.run _ X.stack _ _ ⟨Value.ref (hp.objs.size + 1) :: us, []⟩ _ _ _ (fun _ _ _ => False) (hr.make C us []) (I2.env0.make C us []) bnd r2 hq) fun r s' hq' => ?_
  cases r with
  | error er => exact hx pins σ _ _ er s' I2 hq'
  | ok fl =>
    cases fl with
    | ret u =>
      obtain ⟨v, H2, os2, bare2, un2, hok2, rv, ev, d, fs, ea, ed, hd1, q2⟩ := hq'
      subst ev
      obtain ⟨h3, g3, d3, t3, os'⟩ := s'
      exact ⟨rv, mk_end (raises_own T.exC T.tyC) I1 up1 kk un2 hok2 os2 bare2 ea ed hd1 q2⟩
    | _ => exact hq'.elim
abbrev oeBase : List Value := [.type "OverflowError", .type "ArithmeticError", .type "Exception", .type "BaseException", .type "object"]
theorem typ_OE : typeOf (.type "OverflowError") = pure (.type "type") := by kernel_rfl
theorem e_oeinit {pl : Sem Bool} {z : Str} (hg : Gl X "OverflowError") (hm : X.mg "OverflowError" = none) (hvi : PySem.W.findCls X.K (.type "OverflowError") (.type "type") "__init__" = some (.val (.builtin "OverflowError.__init__"))) (hN : X.N[i]? = some x) (hv : Vis X.env.scope x) (hd : (x == ("__debug__" : Str)) = false := by decide) (hcd : (x == ("__classdict__" : Str)) = false := by decide)
    (hc : eval (.Call (.Attribute (.Name "OverflowError" p1) "__init__" p2) [.Name x p, .Constant (.str z) j p3] [] pos) X.env = (do
      let ov ← eval (.Name "OverflowError" p1) X.env
      standAt p2.atName
      let (f, first) ← holding [ov] (getMethod ov "__init__" pl)
      callWith pos f first (backTo pos (starEach [.Name x p, .Constant (.str z) j p3] X.env)) (backToKw pos (keywordEach [] X.env))) := by rfl)
    (he : starEach [.Name x p, .Constant (.str z) j p3] X.env = (false, eval (.Name x p) X.env) :: starEach [.Constant (.str z) j p3] X.env := by rfl) (he2 : starEach [.Constant (.str z) j p3] X.env = (false, eval (.Constant (.str z) j p3) X.env) :: starEach [] X.env := by rfl) (hpl : (backTo pos (starEach [.Constant (.str z) j p3] X.env)).any (·.1) = false := by rfl) :
    PE X (.Call (.Attribute (.Name "OverflowError" p1) "__init__" p2) [.Name x p, .Constant (.str z) j p3] [] pos) (zBInit X.K oeBase "OverflowError.__new__" i) :=
  e_binit (pl := pl) F.excBase_OverflowError hg hm PyProof.Rows.Boot.«OverflowError» typ_OE hvi (by decide +kernel) hN hv hd hcd (by decide) (by decide) (fun fr kin q => PySem.W.method_type fr kin typ_OE (by decide +kernel) hvi (by decide +kernel) q) hc he he2 hpl
end
end Z
namespace Z
open PySem PySem.Spec PyProof.Rows L2
/-! ### match of texts -/
def zCase (v : V) (c : Str) (t rest : TS) : TS := fun D σ H => Z.strAt v fun z => if z = c then t D σ H else rest D σ H
structure PMC (X : Cx) (cs : List MatchCase) (t : V → TS) : Prop where
  run : ∀ (pins : List (Addr × Obj)) (s : Shared) (σ : L2.St) (H : Hp) (D : Ends) (v : V) (u : Value) (b : Bool), Inv X pins σ H s → L2.RelV v u → t v D σ H → wpAny (model X.prog X.w) X.A (matchCases cs X.env u b) (SP X pins D) X.xe s
def zMatch (te : TE) (t : V → TS) : TS := fun D σ H => te σ H fun v H1 => t v D σ H1
section
variable {X : Cx}
theorem pmc_any {body : List Stmt} {tb : TS} {p : Pos} (hb : PSs X body tb) : PMC X [⟨.MatchAs none none p, none, body⟩] (fun _ => tb) := ⟨fun pins s σ H D v u b I r h =>
  wpAny_matchCases_cons (wpAny_matchPattern_Capture (wpAny_assignInOrder_none (hb.run pins s σ H D I h)))⟩
theorem pmc_str {body : List Stmt} {rest : List MatchCase} {tb : TS} {tr : V → TS} {c : Str} {j : Nat} {p p' : Pos} (hb : PSs X body tb) (hr : PMC X rest tr) : PMC X (⟨.MatchValue (.Constant (.str c) j p) p', none, body⟩ :: rest) (fun v => zCase v c tb (tr v)) := ⟨fun pins s σ H D v u b I r h => by
  unfold zCase Z.strAt at h
  split at h
  · rename_i z
    refine wpAny_matchCases_cons (wpAny_matchPattern_Value (thn ((pe_str (X := X) (x := c) (j := j) (pos := p)).run pins s σ H (fun w H1 => w = .str c ∧ H1 = H) I ⟨rfl, rfl⟩) fun x s1 ⟨w, H1, I1, r1, e1, e2⟩ => ?_))
    subst e1 e2
    refine thn (op_eq (X := X) pins s1 σ _ (.str z) (.str c) u x (fun w H2 => w = .bl (decide (z = c)) ∧ H2 = H1) I1 r r1 ⟨rfl, by simp [eqV]⟩) fun cv s2 ⟨w2, H2, I2, r2, e3, e4⟩ => ?_
    subst e3 e4
    cases r2
    refine wpAny_truthy_bool ?_
    by_cases hz : z = c
    · rw [if_pos hz] at h
      rw [decide_eq_true hz]
      exact wpAny_assignInOrder_none (hb.run pins s2 σ _ D I2 h)
    · rw [if_neg hz] at h
      rw [decide_eq_false hz]
      exact hr.run pins s2 σ _ D (.str z) u false I2 r h
  · exact h.elim⟩
theorem s_match {e : Expr} {te : TE} {cs : List MatchCase} {t : V → TS} {p : Pos} (he : PE X e te) (hc : PMC X cs t) : PS X (.Match e cs p) (zMatch te t) := ⟨fun pins s σ H D I h =>
  wpAny_Match (thn (he.run pins s σ H _ I h) fun u s1 ⟨v, H1, I1, r, q⟩ => hc.run pins s1 σ H1 D v u true I1 r q)⟩
end
/-! ### methods that may raise -/
structure MetX (P : Program) (w : World) (K : PySem.W.Frag) (mg : Str → Option Value) (base : Heap) (k : Nat) (C : Addr) (m : Str) (sp : Sp) : Prop where
  ex : ∃ f fd ps, Cls K C ∧ Meth K C m f ∧ FnOk P w K mg base (L2.CX P w) k f fd ps sp ∧ L2.Binds K fd ps []
/-- o.m(e, ..) in a try: what is raised is wished for at the slots -/
def zMethS (C : Addr) (m : Str) (sp : Sp) (W : WX) (ta : TE) (t : TA) : TE := fun σ H Q => ta σ H fun x H1 => insAt H1 x fun a C' dx fs => (C' = C ∧ fs.lookup m = none) ∧ t σ H1 fun vs H2 => sp (x :: vs) H2 Q (fun cls d H' => W cls d σ H')
section
variable {X : Cx} {k j : Nat} {C : Addr} {m : Str} {sp : Sp} {W : WX} {o e : Expr} {es : List Expr} {ta : TE} {t : TA} {apos pos : Pos}
theorem e_mtS {pl : Sem Bool} (c : MetX X.prog X.w X.K X.mg X.base k C m sp) (hr : Room j X.A) (hk : k ≤ j) (tk : Takes X W) (he : PE X o ta) (ha : PA X (e :: es) t)
    (hst : starEach (e :: es) X.env = (false, eval e X.env) :: starEach es X.env := by rfl) (hpl : (backTo pos (starEach es X.env)).any (·.1) = false := by rfl)
    (ht : eval (.Call (.Attribute o m apos) (e :: es) [] pos) X.env = (do
      let ov ← eval o X.env
      standAt apos.atName
      let (f, first) ← holding [ov] (getMethod ov m pl)
      callWith pos f first (backTo pos (starEach (e :: es) X.env)) (backToKw pos (keywordEach [] X.env))) := by rfl) :
    PE X (.Call (.Attribute o m apos) (e :: es) [] pos) (zMethS C m sp W ta t) := by
  obtain ⟨f, fd, ps, cl, me, F, b⟩ := c.ex
  refine ⟨fun pins s σ H Q I h => ?_⟩
  refine PySem.W.methodCall_KW (pl := pl) (thn ((pe_up he).run pins s σ H (fun x H1 => ∃ a dx fs, x = .ref a ∧ H1 a = some (.ins C dx fs) ∧ fs.lookup m = none ∧ t σ H1 fun vs H2 => sp (x :: vs) H2 Q (fun cls d H' => W cls d σ H')) I ⟨_, fun x H1 q => by
    obtain ⟨a, C', dx, fs, ex, hx, ⟨ec, q2⟩, q3⟩ := insAt_ok q
    subst ec
    exact ⟨a, dx, fs, ex, hx, q2, q3⟩, h⟩) fun u s1 hh => ?_) ht
  obtain ⟨x, H1, I1, rx, a, dx, fs, ex, ea, l, q⟩ := hh
  subst ex
  obtain rfl : u = Value.ref a := rx
  refine getmeth_ok I1 ea cl me l ?_
  refine PySem.W.callWith_K (first := [.ref a]) (h₀ := X.base) I.ok.mod.kin me.kp (thn (ha.run pos pins s1 σ H1 _ I1 q) fun us s2 ⟨vs, H2, I2, r, q2⟩ => ⟨I2.kIn, ?_⟩) hst hpl
  exact run_fnS (us := .ref a :: us) (vs := .ref a :: vs) (E := WE W) F (hr.mono hk) b (passAt tk σ) I2 (.cons rfl r) q2
end
theorem takesNo {X : Cx} : Takes X (fun _ _ _ _ => False) := fun u s' h => by
  obtain ⟨_, _, _, _, _, _, _, _, _, _, _, _, _, _, _, _, z⟩ := h
  exact z.elim
/-- raise C(e, ..) of an own class with its own __init__ -/
def zRaiseO (E : XK) (C : Addr) (sp : Sp) (ta : TA) : TS := fun _ σ H => tMkO C sp [] ta σ H fun cls d H' => E cls d H'
end Z
namespace Hk
open PySem PySem.Spec PyProof.Rows L2
def oexB (C : Str) : Fact := fun K => PySem.W.excInitIn K (He.ga K C) Z.oeBase "OverflowError.__new__" && (((PySem.W.clsIn K (He.ga K C)).any fun cd => cd.mro == (.ref (He.ga K C) :: Z.oeBase) && cd.hasDict) && (He.eqO (PySem.W.findIn K (.ref (He.ga K C)) "__setattr__") (some (some (.builtin "object.__setattr__"))) &&
  (decide (PySem.W.subIn K (.ref (He.ga K C)) (.type "BaseException") = some true) && ((PySem.W.typeIn K (.ref (He.ga K C)) == some (.type "type")) && PySem.W.keepIn K (.ref (He.ga K C))))))
theorem oexB_ok {K : PySem.W.Frag} {C : Str} (h : oexB C K = true) : Z.OexG K Z.oeBase "OverflowError.__new__" (He.ga K C) := by
  obtain ⟨h1, h⟩ := He.ba h
  obtain ⟨h2, h⟩ := He.ba h
  obtain ⟨h3, h⟩ := He.ba h
  obtain ⟨h4, h⟩ := He.ba h
  obtain ⟨h5, h6⟩ := He.ba h
  refine ⟨h1, ?_, He.eqO_ok h3, of_decide_eq_true h4, beq_iff_eq.mp h5, h6⟩
  cases e : PySem.W.clsIn K (He.ga K C) with
  | none => rw [e] at h2; cases h2
  | some cd =>
    rw [e] at h2
    obtain ⟨q1, q2⟩ := Bool.and_eq_true_iff.mp (show (cd.mro == (.ref (He.ga K C) :: Z.oeBase) && cd.hasDict) = true from h2)
    exact ⟨cd, rfl, beq_iff_eq.mp q1, q2⟩
def oeiB : Fact := fun K => match PySem.W.findCls K (.type "OverflowError") (.type "type") "__init__" with
  | some (.val (.builtin n)) => decide (n = "OverflowError.__init__")
  | _ => false
theorem oeiB_ok {K : PySem.W.Frag} (h : oeiB K = true) : PySem.W.findCls K (.type "OverflowError") (.type "type") "__init__" = some (.val (.builtin "OverflowError.__init__")) := by
  unfold oeiB at h
  split at h
  · rename_i n e
    rw [e, of_decide_eq_true h]
  · cases h
def noattrB (C f : Str) : Fact := fun K => He.eqO (PySem.W.findIn K (.ref (He.ga K C)) f) (some none)
theorem noattrB_ok {K : PySem.W.Frag} {C f : Str} (h : noattrB C f K = true) : PySem.W.findIn K (.ref (He.ga K C)) f = some none := He.eqO_ok h
def xfFB (C : Str) : Fact := fun K => xfB K (He.ga K C)
end Hk
namespace Z
open PySem PySem.Spec PyProof.Rows L2
/-! ### xs.pop(i), xs[a:b] -/
def yPopAt : V → List V → Hp → VK → Prop := fun x vs H Q => match x, vs with
  | .ref l, [.int i] => (match H l with
    | some (.lst xs) => (0 ≤ i ∧ i < xs.length ∧ i < 1000000000) ∧ isNone xs[i.toNat]? fun y => Q y (upd H l (.lst (xs.eraseIdx i.toNat)))
    | _ => False)
  | _, _ => False
def zSl2 (K : PySem.W.Frag) (to tl th : TE) : TE := fun σ H Q => to σ H fun x H1 => tl σ H1 fun l H2 => Z.intAt l fun i => th σ H2 fun u H3 => Z.intAt u fun j => refAt x fun a => (∃ xs, SqL K H3 a xs ∧ ∀ p, H3 p = none → Q (.ref p) (upd H3 p (.lst (cutV xs (some i) (some j)))))
section
variable {X : Cx} {o e e2 : Expr} {to te te2 : TE} {apos cpos p2 pos : Pos}
theorem m_popAt : MtR X "list.pop" yPopAt := mt_imp mt_popAt fun x vs H Q q => by
  unfold yPopAt at q
  split at q
  · rename_i l i
    split at q
    · rename_i xs hl
      obtain ⟨⟨h0, h1, h2⟩, q⟩ := q
      obtain ⟨y, hy, q⟩ := isNone_ok q
      refine ⟨l, xs, i, i.toNat, y, rfl, rfl, hl, by omega, by omega, ?_, hy, q⟩
      unfold seqIndex?
      simp only [show ¬ i < 0 by omega, if_false]
      rw [if_pos (by simp; omega)]
    · exact q.elim
  · exact q.elim
theorem e_popAt (ho : PE X o to) (he : PE X e te)
    (hbase : attributeBase o "pop" X.env (eval o X.env) = eval o X.env := by rfl)
    (hfew : ((backTo cpos (starEach [e] X.env)).all (fun x => !x.1) && (backToKw cpos (keywordEach [] X.env)).all (fun x => x.1.isSome)
      && decide ([e].length + ([] : List Keyword).length + (if ([] : List Keyword).isEmpty then 0 else 1) < 30)) = true := by rfl)
    (hline : (apos.endLine == cpos.line) = true := by rfl) (hs : starEach [e] X.env = (false, eval e X.env) :: starEach [] X.env := by rfl) (hplain : (backTo cpos (starEach [] X.env)).any (·.1) = false := by rfl) :
    PE X (.Call (.Attribute o "pop" apos) [e] [] cpos) (zLM yPopAt to (tCons te tNil)) :=
  pe_imp (pe_bm PySem.F.plainAttrs_list PySem.F.slot_list_pop PySem.F.type_list_pop m_popAt (pe_up ho) (pa_cons he pa_nil hs) hbase hfew hline hs hplain) fun σ H Q q => ⟨_, fun x H1 q => ⟨isLst_ok q.1, q.2⟩, q⟩
theorem e_sl2 (ho : PE X o to) (he : PE X e te) (he2 : PE X e2 te2) : PE X (.Subscript o (.Slice (some e) (some e2) none p2) pos) (zSl2 X.K to te te2) :=
  pe_imp (pe_slice sl_list (pe_up ho) (po_some (pe_up he)) (po_some (pe_up he2))) fun σ H Q q => ⟨_, fun x H1 q => ⟨_, fun l H2 q => by
    obtain ⟨i, ei, q5⟩ := intAt_ok q
    refine ⟨i, ei, _, fun u H3 q6 => ?_, q5⟩
    obtain ⟨j, ej, q7⟩ := intAt_ok q6
    obtain ⟨a, ea, xs, q8⟩ := refAt_ok q7
    exact ⟨j, ej, a, xs, ea, q8⟩, q⟩, q⟩
end
theorem s_raiseO {X : Cx} {x : Str} {C fI : Addr} {k j : Nat} {ps : List Str} {sp : Sp} {E : XK} {B newId initId : String} {bmB : List Value} {e : Expr} {es : List Expr} {ta : TA} {p pos pos2 : Pos} (hc : X.calm = true := by rfl) (tk : Takes X (fun cls d _ H => E cls d H)) (FB : ExcBaseFacts B newId initId bmB) (T : OexG X.K bmB newId C) (me : Meth X.K C "__init__" fI)
    (F : ∃ fd, FnOk X.prog X.w X.K X.mg X.base C8.CX0 k fI fd ps sp ∧ PySem.W.keepIn X.K (.ref fI) = true ∧ L2.Binds X.K fd ps []) (hr : Room j X.A) (hk : k + 1 ≤ j) (hg : Gl X x) (hm : X.mg x = some (.ref C)) (ha : PA X (e :: es) ta)
    (hdb : (x == ("__debug__" : Str)) = false := by decide) (he : starEach (e :: es) X.env = (false, eval e X.env) :: starEach es X.env := by rfl) (hpl : (backTo pos (starEach es X.env)).any (·.1) = false := by rfl) :
    PS X (.Raise (some (.Call (.Name x p) (e :: es) [] pos)) none pos2) (zRaiseO E C sp ta) := by
  obtain ⟨fd, F, kp, b⟩ := F
  exact ps_imp (ps_raise hc tk (pmk_oexG FB T me.at_ (beq_iff_eq.mp me.fn) F (hr.mono hk) b C8.pass0 hg hm ha hdb he hpl)) fun D σ H q => q
/-! ### isinstance with a tuple of built-in types -/
def tysAt : List V → (List Value → Prop) → Prop
  | [], R => R []
  | .ty n :: r, R => tysAt r fun us => R (.type n :: us)
  | _ :: _, _ => False
theorem tysAt_ok : ∀ {cs : List V} {R : List Value → Prop}, tysAt cs R → ∃ us, Paired ClsV cs us ∧ R us
  | [], R, h => ⟨[], .nil, h⟩
  | .ty n :: r, R, h => let ⟨us, p, q⟩ := tysAt_ok (cs := r) h; ⟨_, .cons (.ty n) p, q⟩
  | .non :: _, _, h => h.elim
  | .bl _ :: _, _, h => h.elim
  | .int _ :: _, _, h => h.elim
  | .str _ :: _, _, h => h.elim
  | .byt _ :: _, _, h => h.elim
  | .flt _ :: _, _, h => h.elim
  | .ref _ :: _, _, h => h.elim
def yIsiT (K : PySem.W.Frag) : List V → Hp → VK → Prop := fun vs H Q => match vs with
  | [x, .ref tp] => (match H tp with
    | some (.tup cs) => tysAt cs fun us => tyAt K H x fun t => isNone (PySem.W.kitAny K t us) fun b => Q (.bl b) H
    | _ => False)
  | _ => False
theorem c_isiT {X : Cx} : CallR X (.builtin "isinstance") (yIsiT X.K) := cr_imp call_isiT fun xs H Q q => by
  unfold yIsiT at q
  split at q
  · rename_i x tp
    split at q
    · rename_i cs hT
      obtain ⟨us, p, q⟩ := tysAt_ok q
      obtain ⟨t, ht, q⟩ := tyAt_ok q
      obtain ⟨b, hb, q⟩ := isNone_ok q
      exact ⟨x, tp, cs, t, us, b, rfl, hT, p, ht, hb, q⟩
    · exact q.elim
  · exact q.elim
/-! ### a locked dict read -/
def yIxD : R2 := fun x y H Q => ∃ p v, x = .ref p ∧ DGet H p y (some v) ∧ Q v H
end Z
namespace Hk
open PySem PySem.Spec PyProof.Rows L2
/-- a def with defaults -/
theorem fn_okD {P : Program} {w : World} {K : PySem.W.Frag} {mg : Str → Option Value} {base : Heap} {x qual : Str} {f : Addr} {st : Stmt} {N ps : List Str} {k : Nat} {sp : Sp} {fd : FuncData} {dvs : List V} {kws : List (Str × V)} (F : FunD K x qual (defArgs st) (defBody st) (defScope st) dvs kws f fd) (S : FnScope N ps (defScope st)) (len : ∀ vs H Q E, sp vs H Q E → vs.length = ps.length) {t : TS}
    (hd : ∀ (cdv : Value) (A : Around) (outer : List Env) (s : Shared) (H : Hp) (E : XK), Room k (A.deeper (envOfC qual (defScope st) s.heap.objs.size f cdv)) → PSs (cxOf C8.CX0 P w K mg base N qual (defScope st) f cdv A outer s H E).nox (defBody st) t)
    (hrd : ∀ vs H Q E, sp vs H Q E → t { nx := fun _ H' => Q .non H', rt := Q } (start N vs) H) : FnOk P w K mg base C8.CX0 (k + 1) f fd ps sp :=
  F.ok S len fun cdv A outer s H vs Q E hr h => ⟨t, PSs.nox (hd cdv A outer s H E hr), hrd vs H Q E h⟩
/-- a global tuple of texts -/
def tupB (x : Str) (zs : List Str) : Fact := fun K => match K.lookup (He.ga K x) with
  | some ⟨.type "tuple", _, .seq its _, _⟩ => decide (its.size = zs.length) && (its.toList.zip zs).all fun p => match p.1 with
    | .str y _ => decide (y = p.2)
    | _ => false
  | _ => false
theorem vals_strs : ∀ {its : List Value} {zs : List Str}, its.length = zs.length → ((its.zip zs).all fun p => match p.1 with
    | .str y _ => decide (y = p.2)
    | _ => false) = true → Vals (zs.map V.str) its
  | [], [], _, _ => .nil
  | [], _ :: _, h, _ => by cases h
  | _ :: _, [], h, _ => by cases h
  | i :: its, z :: zs, h, c => by
    rw [List.zip_cons_cons, List.all_cons, Bool.and_eq_true] at c
    refine .cons ?_ (vals_strs (by simpa using h) c.2)
    have c1 := c.1
    simp only at c1
    cases i <;> first | (cases c1; done) | skip
    rename_i y t
    have e : y = z := of_decide_eq_true c1
    rw [e]
    exact ⟨_, rfl⟩
theorem tupB_ok {K : PySem.W.Frag} {x : Str} {zs : List Str} (hz : zs.length ≤ sizeLine) (h : tupB x zs K = true) : ∀ H, SqT K H (He.ga K x) (zs.map V.str) := by
  intro H
  unfold tupB at h
  split at h
  · rename_i dd its n sl e
    obtain ⟨h1, h2⟩ := He.ba h
    have l := of_decide_eq_true h1
    exact .inr ⟨_, its, n, e, rfl, rfl, by rw [l]; exact hz, vals_strs (by rw [Array.length_toList]; exact l) h2⟩
  · cases h
end Hk
namespace Z
open PySem PySem.Spec PyProof.Rows L2
/-! ### C(e, .., k = v): every parameter is written, the last ones by their names -/
def MakN (P : Program) (w : World) (K : PySem.W.Frag) (mg : Str → Option Value) (base : Heap) (k : Nat) (x : Str) (C : Addr) (sp : Sp) (n : Nat) (ks : List Str) : Prop := ∃ f fd ps g, Mk K C f ∧ FnOk P w K mg base C8.CX0 k f fd ps sp ∧ mg x = some (.ref C) ∧ KBn K fd ps (n + 1) ks g (fun vs zs => vs ++ zs)
theorem e_mkN {X : Cx} {k j n : Nat} {x : Str} {C : Addr} {sp : Sp} {ks : List Str} {e : Expr} {es : List Expr} {kws : List Keyword} {t tk : TA} {p pos : Pos} (c : MakN X.prog X.w X.K X.mg X.base k x C sp n ks) (hr : Room j X.A) (hk : k + 1 ≤ j) (hg : Gl X x) (ha : PA X (e :: es) t) (hkw : PK X kws tk)
    (hall : (backToKw pos (keywordEach kws X.env)).all (·.1.isSome) = true := by rfl) (hks : (backToKw pos (keywordEach kws X.env)).filterMap (·.1) = ks := by rfl)
    (hdb : (x == ("__debug__" : Str)) = false := by decide) (he : starEach (e :: es) X.env = (false, eval e X.env) :: starEach es X.env := by rfl)
    (hpl : ((backTo pos (starEach (e :: es) X.env)).any (·.1) || (backToKw pos (keywordEach kws X.env)).any (·.1.isNone)) = false := by rfl) :
    PE X (.Call (.Name x p) (e :: es) kws pos) (tMakeN C n ks.length sp (fun vs zs => vs ++ zs) C8.E0 t tk) := by
  obtain ⟨f, fd, ps, g, M, F, hm, b⟩ := c
  exact pe_makeN M F (hr.mono hk) hg hm b C8.pass0 ha hkw hall hks hdb he hpl
end Z
namespace Z
open PySem PySem.Spec PyProof.Rows L2
/-! ### min(xs, default = d), max(xs, default = d) of a list of ints -/
def yMinDf (K : PySem.W.Frag) : List V → List V → Hp → VK → Prop := fun xs zs H Q => ∃ (a : Addr) (ns : List Int) (d : Int), xs = [.ref a] ∧ zs = [.int d] ∧ SqL K H a (ns.map V.int) ∧ (ns = [] → Q (.int d) H) ∧ ∀ m, m ∈ ns → (∀ y, y ∈ ns → m ≤ y) → Q (.int m) H
def yMaxDf (K : PySem.W.Frag) : List V → List V → Hp → VK → Prop := fun xs zs H Q => ∃ (a : Addr) (ns : List Int) (d : Int), xs = [.ref a] ∧ zs = [.int d] ∧ SqL K H a (ns.map V.int) ∧ (ns = [] → Q (.int d) H) ∧ ∀ m, m ∈ ns → (∀ y, y ∈ ns → y ≤ m) → Q (.int m) H
theorem alike_ints (ns : List Int) : PySem.W.AlikeAll (ns.map PyData.int) := by
  refine ⟨fun x hx y hy => ?_, fun x hx => ?_⟩
  · obtain ⟨a, _, rfl⟩ := List.mem_map.mp hx
    obtain ⟨b, _, rfl⟩ := List.mem_map.mp hy
    rfl
  · obtain ⟨a, _, rfl⟩ := List.mem_map.mp hx
    exact fun e => by cases e
theorem depth_ints : ∀ ns : List Int, PyData.depthAll (ns.map PyData.int) ≤ 1
  | [] => by simp [PyData.depthAll]
  | n :: ns => by
    have := depth_ints ns
    rw [List.map_cons]
    simp only [PyData.depthAll, PyData.depth]
    omega
theorem foldl_min : ∀ (ns : List Int) (n : Int), (ns.foldl min n) ∈ n :: ns ∧ ∀ y ∈ n :: ns, ns.foldl min n ≤ y
  | [], n => ⟨List.mem_cons_self .., fun y hy => by rw [List.mem_singleton.mp hy]; exact Int.le_refl _⟩
  | k :: ns, n => by
    obtain ⟨a, b⟩ := foldl_min ns (min n k)
    show ns.foldl min (min n k) ∈ n :: k :: ns ∧ ∀ y ∈ n :: k :: ns, ns.foldl min (min n k) ≤ y
    have bm := b (min n k) (List.mem_cons_self ..)
    refine ⟨?_, fun y hy => ?_⟩
    · rcases List.mem_cons.mp a with e | e
      · rw [e]
        rcases Int.le_total n k with h | h
        · rw [Int.min_eq_left h]; exact List.mem_cons_self ..
        · rw [Int.min_eq_right h]; exact List.mem_cons_of_mem _ (List.mem_cons_self ..)
      · exact List.mem_cons_of_mem _ (List.mem_cons_of_mem _ e)
    · rcases List.mem_cons.mp hy with rfl | hy
      · omega
      · rcases List.mem_cons.mp hy with rfl | hy
        · omega
        · exact b y (List.mem_cons_of_mem _ hy)
theorem foldl_max : ∀ (ns : List Int) (n : Int), (ns.foldl max n) ∈ n :: ns ∧ ∀ y ∈ n :: ns, y ≤ ns.foldl max n
  | [], n => ⟨List.mem_cons_self .., fun y hy => by rw [List.mem_singleton.mp hy]; exact Int.le_refl _⟩
  | k :: ns, n => by
    obtain ⟨a, b⟩ := foldl_max ns (max n k)
    show ns.foldl max (max n k) ∈ n :: k :: ns ∧ ∀ y ∈ n :: k :: ns, y ≤ ns.foldl max (max n k)
    have bm := b (max n k) (List.mem_cons_self ..)
    refine ⟨?_, fun y hy => ?_⟩
    · rcases List.mem_cons.mp a with e | e
      · rw [e]
        rcases Int.le_total n k with h | h
        · rw [Int.max_eq_right h]; exact List.mem_cons_of_mem _ (List.mem_cons_self ..)
        · rw [Int.max_eq_left h]; exact List.mem_cons_self ..
      · exact List.mem_cons_of_mem _ (List.mem_cons_of_mem _ e)
    · rcases List.mem_cons.mp hy with rfl | hy
      · omega
      · rcases List.mem_cons.mp hy with rfl | hy
        · omega
        · exact b y (List.mem_cons_of_mem _ hy)
theorem dpAll_ints {K : PySem.W.Frag} {H : Hp} : ∀ ns : List Int, DpAll K H (ns.map V.int) (ns.map PyData.int)
  | [] => .nil
  | n :: ns => .cons (.int n) (dpAll_ints ns)
theorem c_minDf {X : Cx} (hc : X.calm = true) (hu : X.A.units + 2 < cLine) : CallRK X (.builtin "min") ["default"] (yMinDf X.K) := by
  intro pins s σ H xs zs us ws Q I r1 r2 h
  obtain ⟨a, ns, d, rfl, rfl, hs, q0, q⟩ := h
  obtain ⟨its, rv, hl, _⟩ := I.list hs
  rw [Vals.ref1 r1]
  obtain ⟨as, hr⟩ := Dp.readsAll I (ns.map PyData.int) _ _ (dpAll_ints ns) rv
  cases r2 with
  | @cons _ u _ _ rd rn =>
    cases rn
    have hu' : X.A.units + 1 + PyData.depthAll (ns.map PyData.int) < cLine := by have := depth_ints ns; omega
    refine PySem.W.min_list_default (vs := its.toArray) (I.ok.hd hc) hl.isList hr (alike_ints ns) hu' (fun e h' tk hk => ?_) (fun y ys i v h' tk bs e hv rd' hk => ?_)
    · exact ⟨.int d, H, I.kept hk, rd, q0 (List.map_eq_nil_iff.mp e)⟩
    · cases ns with
      | nil => cases e
      | cons n ns =>
        obtain ⟨rfl, rfl⟩ := List.cons.inj e
        rw [PySem.W.minD_ints] at rd'
        obtain ⟨f1, f2⟩ := foldl_min ns n
        cases rd' with
        | int t => exact ⟨.int _, H, I.kept hk, ⟨_, rfl⟩, q _ f1 f2⟩
theorem c_maxDf {X : Cx} (hc : X.calm = true) (hu : X.A.units + 2 < cLine) : CallRK X (.builtin "max") ["default"] (yMaxDf X.K) := by
  intro pins s σ H xs zs us ws Q I r1 r2 h
  obtain ⟨a, ns, d, rfl, rfl, hs, q0, q⟩ := h
  obtain ⟨its, rv, hl, _⟩ := I.list hs
  rw [Vals.ref1 r1]
  obtain ⟨as, hr⟩ := Dp.readsAll I (ns.map PyData.int) _ _ (dpAll_ints ns) rv
  cases r2 with
  | @cons _ u _ _ rd rn =>
    cases rn
    have hu' : X.A.units + 1 + PyData.depthAll (ns.map PyData.int) < cLine := by have := depth_ints ns; omega
    refine PySem.W.max_list_default (vs := its.toArray) (I.ok.hd hc) hl.isList hr (alike_ints ns) hu' (fun e h' tk hk => ?_) (fun y ys i v h' tk bs e hv rd' hk => ?_)
    · exact ⟨.int d, H, I.kept hk, rd, q0 (List.map_eq_nil_iff.mp e)⟩
    · cases ns with
      | nil => cases e
      | cons n ns =>
        obtain ⟨rfl, rfl⟩ := List.cons.inj e
        rw [PySem.W.maxD_ints] at rd'
        obtain ⟨f1, f2⟩ := foldl_max ns n
        cases rd' with
        | int t => exact ⟨.int _, H, I.kept hk, ⟨_, rfl⟩, q _ f1 f2⟩
theorem hu2 {k : Nat} {A : Around} (r : Room k A) : A.units + 2 < cLine := by
  have := r.un
  omega
end Z
namespace Z
open PySem PySem.Spec PyProof.Rows L2
/-! ### o[i] += e of a list of ints -/
def yGetL : V → V → Hp → VK → Prop := fun o i H Q => match o, i with
  | .ref p, .int k => (match H p with
    | some (.lst xs) => (0 ≤ k ∧ k < 1000000000) ∧ isNone xs[k.toNat]? fun v => Q v H
    | _ => False)
  | _, _ => False
theorem get_list {X : Cx} : PGet X yGetL := by
  intro pins s σ H o i ov iv Q I ro ri h
  unfold yGetL at h
  split at h
  · rename_i p k
    split at h
    · rename_i xs e
      obtain ⟨⟨k0, k1⟩, h⟩ := h
      obtain ⟨v, ev, q⟩ := isNone_ok h
      cases ro
      obtain ⟨t, rfl⟩ := ri
      obtain ⟨its, r, pl, hz⟩ := I.list (SqL.of e)
      obtain ⟨w, ew, rw'⟩ := r.get ev
      exact wpAny_getItem_list pl.isList k0 (by omega) (by simpa using ew) ⟨v, H, I, rw', q⟩
    · exact h.elim
  · exact h.elim
def yIAdd : V → V → Hp → VK → Prop := fun x y H Q => match x, y with
  | .int i, .int j => Q (.int (i + j)) H
  | _, _ => False
theorem ip_addI {X : Cx} : PIp X .Add yIAdd := by
  intro pins s σ H x y v u Q I r1 r2 h
  refine ip_add pins s σ H x y v u Q I r1 r2 ?_
  unfold yIAdd at h
  split at h
  · exact ⟨_, _, rfl, rfl, h⟩
  · exact h.elim
def zAugS (to ti te : TE) : TS := fun D σ H => to σ H fun o H1 => ti σ H1 fun i H2 => yGetL o i H2 fun x H3 => te σ H3 fun y H4 => yIAdd x y H4 fun z H5 => ySet o i z H5 fun H6 => D.nx σ H6
theorem s_augS {X : Cx} {o i e : Expr} {to ti te : TE} {tpos pos : Pos} (hu : X.A.units + 1 < cLine) (ho : PE X o to) (hi : PE X i ti) (he : PE X e te)
    (ha : ∀ ov iv new, augStore i ov iv new = (do holding [new, ov, iv] (setItem ov iv new); release [new, ov, iv] []; pure .next) := by intros; rfl) : PS X (.AugAssign (.Subscript o i tpos) .Add e pos) (zAugS to ti te) :=
  ps_augS ho hi get_list he ip_addI (set_any hu) ha
/-! ### f(e, .., k = v, ..) of an own def -/
def CalN (P : Program) (w : World) (K : PySem.W.Frag) (mg : Str → Option Value) (base : Heap) (k : Nat) (x : Str) (sp : Sp) (n : Nat) (ks : List Str) (gV : List V → List V → List V) : Prop := ∃ f fd ps g, FnOk P w K mg base C8.CX0 k f fd ps sp ∧ mg x = some (.ref f) ∧ PySem.W.keepIn K (.ref f) = true ∧ KBn K fd ps n ks g gV
theorem e_cN {X : Cx} {k j n : Nat} {x : Str} {sp : Sp} {ks : List Str} {gV : List V → List V → List V} {e : Expr} {es : List Expr} {kws : List Keyword} {t tk : TA} {p pos : Pos} (c : CalN X.prog X.w X.K X.mg X.base k x sp n ks gV) (hr : Room j X.A) (hk : k ≤ j) (hg : Gl X x) (ha : PA X (e :: es) t) (hkw : PK X kws tk)
    (hall : (backToKw pos (keywordEach kws X.env)).all (·.1.isSome) = true := by rfl) (hks : (backToKw pos (keywordEach kws X.env)).filterMap (·.1) = ks := by rfl)
    (hdb : (x == ("__debug__" : Str)) = false := by decide) (he : starEach (e :: es) X.env = (false, eval e X.env) :: starEach es X.env := by rfl)
    (hpl : ((backTo pos (starEach (e :: es) X.env)).any (·.1) || (backToKw pos (keywordEach kws X.env)).any (·.1.isNone)) = false := by rfl) :
    PE X (.Call (.Name x p) (e :: es) kws pos) (tCallN n ks.length sp gV C8.E0 t tk) := by
  obtain ⟨f, fd, ps, g, F, hm, hkp, b⟩ := c
  exact pe_callN F (hr.mono hk) hg hm hkp b C8.pass0 ha hkw hall hks hdb he hpl
end Z
namespace Z
open PySem PySem.Spec PyProof.Rows L2 PySem.SeqAt
open AutoSeq1 (wpAny_loadPart')
open MeetsSeq MeetsSeq2 MeetsSeq3 SeqRoads2
/-! ### two lists of own objects, equal one by one: != -/
section
variable {prog : Program} {w : World} {A : Around} {R : Result → Shared → Prop}
theorem ne_loopG (l b : Addr) (N : Nat) (I : Nat → Shared → Prop) (hl : GQ.ListI prog w A (fun e s' => R (.error e) s') l b N I)
    (fin : ∀ s, I N s → R (.ok (.ret (.bool false))) s) (k : Nat) :
    ∀ i : Nat, N - i = k → i ≤ N → ∀ s, I i s →
      wpAny (model prog w) A.in1 (Builtin.«list.__eq__.loop» ⟨[.ref l, .ref b, rawInt i, rawInt 3], []⟩) (GQ.FinOf prog w A R) (fun e s' => R (.error e) s') s := by
  induction k with
  | zero =>
    intro i hk hi s h
    obtain ⟨items, items2, n, n2, hl1, hb1, hs1, hs2, _⟩ := hl _ _ h
    have hi' : i = N := by omega
    have hR : R (.ok (.ret (.bool false))) s := fin s (hi' ▸ h)
    obtain ⟨hp, g, d, tk, os⟩ := s
    wp_walk using wpAny_loadPart' hl1, wpAny_loadPart' hb1
    have hi1 : items[((i : Nat) : Int).toNat]? = none := by simp; omega
    have hi2 : items2[((i : Nat) : Int).toNat]? = none := by simp; omega
    rw [hi1, hi2]
    wp_walk using wpAny_loadPart' hl1, wpAny_loadPart' hb1
    show R (.ok (.ret (.bool (items.size != items2.size)))) _
    rw [hs1, hs2]
    simpa using hR
  | succ k ih =>
    intro i hk hi s h
    obtain ⟨items, items2, n, n2, hl1, hb1, hs1, hs2, turn⟩ := hl _ _ h
    have hlt : i < items.size := by omega
    have hlt2 : i < items2.size := by omega
    have ht := turn hlt hlt2
    obtain ⟨hp, g, d, tk, os⟩ := s
    wp_walk using wpAny_loadPart' hl1, wpAny_loadPart' hb1
    have hi1 : items[((i : Nat) : Int).toNat]? = some items[i] := by simp [hlt]
    have hi2 : items2[((i : Nat) : Int).toNat]? = some items2[i] := by simp [hlt2]
    have hc : ((i : Int) + 1) = ((i + 1 : Nat) : Int) := by omega
    rw [hi1, hi2]
    refine wpAny_bind (wpAny_mono ht (fun r s2 h2 => ?_) fun _ _ x => x)
    obtain ⟨hr, h2⟩ := h2
    subst hr
    have hrec := ih (i + 1) (by omega) (by omega) s2 h2
    obtain ⟨hp2, g2, d2, tk2, os2⟩ := s2
    wp_walk
    rw [hc]
    exact ⟨plainId_quiet plain_eq_loop _, codeAny_builtin entry_eq_loop (by
      rw [Around.under_plainId plain_eq_loop _]
      exact hrec)⟩
theorem list_neG (l b : Addr) (N : Nat) (I : Nat → Shared → Prop) (hl : GQ.ListI prog w A (fun e s' => R (.error e) s') l b N I)
    (fin : ∀ s, I N s → R (.ok (.ret (.bool false))) s) {s : Shared} (h : I 0 s) :
    wpAny (model prog w) A.in1 (Builtin.«list.__ne__» ⟨[.ref l, .ref b], []⟩) (GQ.FinOf prog w A R) (fun e s' => R (.error e) s') s := by
  obtain ⟨items, items2, n, n2, hl1, hb1, hs1, hs2, _⟩ := hl _ _ h
  have hrec := ne_loopG (A := A) (R := R) l b N I hl fin _ 0 rfl (Nat.zero_le _) s h
  obtain ⟨hp, g, d, tk, os⟩ := s
  have f3 := AutoSeq1.sub_list_list
  have hne : ¬ (items.size != items2.size) = true := by simp [hs1, hs2]
  wp_walk using wpAny_loadPart' hl1, wpAny_loadPart' hb1
  exact ⟨plainId_quiet plain_eq_loop _, codeAny_builtin entry_eq_loop (by
    rw [Around.under_plainId plain_eq_loop _]
    exact hrec)⟩
theorem rc_listNeG {E : Value → Shared → Prop} {s : Shared} {l b : Addr} {N : Nat} {Q : Value → Shared → Prop} (hu : A.units < cLine) (I : Nat → Shared → Prop) (hl : GQ.ListI prog w A E l b N I)
    (fin : ∀ s, I N s → Q (.bool false) s) (h : I 0 s) : wpAny (model prog w) A (richCompare .NotEq (.ref l) (.ref b)) Q E s := by
  obtain ⟨items, items2, n, n2, hl1, hb1, _, _, _⟩ := hl _ _ h
  refine wpAny_richCompare_same_room (op := .NotEq) ⟨_, hl1, rfl⟩ ⟨_, hb1, rfl⟩ F.slot_list_ne (GQ.call_here F.slot_list_ne ⟨_, hl1, rfl⟩ F.entry_list_ne (F.args_list_ne_2 _ _) ?_) hu
  exact list_neG (R := wants (fun v s' => v ≠ .notImplemented ∧ Q v s') E) l b N I hl (fun s' q => ⟨(fun x => nomatch x), fin s' q⟩) h
end
/-- two lists whose things are equal one by one -/
def AllD (D : EqRel) (xs ys : List V) (H : Hp) : Prop := xs.length = ys.length ∧ ∀ (i : Nat) x y, xs[i]? = some x → ys[i]? = some y → D x y H true
def yNeL (D : EqRel) : R2 := fun x y H Q => match x, y with
  | .ref p, .ref r => (match H p, H r with
    | some (.lst xs), some (.lst ys) => AllD D xs ys H ∧ Q (.bl false) H
    | _, _ => False)
  | _, _ => False
section
variable {X : Cx} {n : Nat} {D : EqRel}
theorem o_neL (h : EqD X n D) (hr : Room (n + 1) X.A) : OpR X (compareOp .NotEq) (yNeL D) := by
  intro pins s σ H x y v u Q I rx ry q
  unfold yNeL at q
  split at q
  · rename_i p r
    split at q
    · rename_i xs ys hp hq
      obtain ⟨⟨hl, hd⟩, q⟩ := q
      cases rx
      cases ry
      have sb : L2.Sub X (n + 1) X.A := ⟨hr, rfl⟩
      show wpAny _ X.A (richCompare .NotEq (.ref p) (.ref r)) _ _ s
      refine rc_listNeG hr.units0 (fun _ s' => Inv X pins σ H s') (N := xs.length) (fun i s' I' => ?_) (fun s' I' => ⟨.bl false, H, I', rfl, q⟩) I
      obtain ⟨z, its, n0, r1, e0⟩ := I'.hok p _ hp
      obtain ⟨z2, its2, n2, r2, e02⟩ := I'.hok r _ hq
      have l1 := r1.length
      have l2 := r2.length
      refine ⟨its.toArray, its2.toArray, n0, n2, e0, e02, by simp; omega, by simp; omega, fun h1 h2 => ?_⟩
      have k1 : i < xs.length := by rw [l1]; simpa using h1
      have k2 : i < ys.length := by rw [l2]; simpa using h2
      obtain ⟨w1, e1, rv1⟩ := r1.get (List.getElem?_eq_getElem k1)
      obtain ⟨w2, e2, rv2⟩ := r2.get (List.getElem?_eq_getElem k2)
      have g1 : its.toArray[i] = w1 := by
        have h1' : i < its.length := by simpa using h1
        rw [List.getElem?_eq_getElem h1'] at e1
        simpa using e1
      have g2 : its2.toArray[i] = w2 := by
        have h2' : i < its2.length := by simpa using h2
        rw [List.getElem?_eq_getElem h2'] at e2
        simpa using e2
      rw [g1, g2]
      exact h X.A.in1 pins s' σ H _ _ w1 w2 true sb.in1 I' rv1 rv2 (hd i _ _ (List.getElem?_eq_getElem k1) (List.getElem?_eq_getElem k2))
    · exact q.elim
  · exact q.elim
/-! ### for over a range with a step -/
def zForR3 (ta tb tc : TE) (g : TG) (tS : TS) : TS := fun D σ H => iR3 ta tb tc σ H fun J H1 => loopOn J g tS D σ H1
theorem s_forR3 {tg a b c : Expr} {ta tb tc : TE} {g : TG} {body : List Stmt} {tS : TS} {p2 pos2 pos : Pos} (hp : PassesOwn (model X.prog X.w) X.A X.env X.xe) (hcm : X.calm = true) (hg : Gl X "range") (hm : X.mg "range" = none) (ha : PE X a ta) (hb : PE X b tb) (hc : PE X c tc) (hgt : PG X tg g) (hB : PSs X body tS)
    (h1 : starEach [a, b, c] X.env = (false, eval a X.env) :: starEach [b, c] X.env := by rfl) (h2 : starEach [b, c] X.env = (false, eval b X.env) :: starEach [c] X.env := by rfl) (h3 : starEach [c] X.env = (false, eval c X.env) :: starEach [] X.env := by rfl)
    (h4 : (backTo pos2 (starEach [b, c] X.env)).any (·.1) = false := by rfl) (hs : ∀ x, foldedSetIterable (.Call (.Name "range" p2) [a, b, c] [] pos2) X.env x = pure x := by intro _; rfl) : PS X (.For tg (.Call (.Name "range" p2) [a, b, c] [] pos2) body [] pos) (zForR3 ta tb tc g tS) :=
  ps_for hp hcm (i_r3 hg hm ha hb hc h1 h2 h3 h4) hgt hB hs
end
theorem vals_one {zs : List V} {ws : List Value} (r : Vals zs ws) (k : Nat) : Vals ((zs.drop k).take 1) ((ws.drop k).take 1) := by
  induction r generalizing k with
  | nil => simp; exact .nil
  | cons h r ih =>
    cases k with
    | zero => simp; exact .cons h .nil
    | succ k => simpa using ih k
end Z
namespace Z
open PySem PySem.Spec PyProof.Rows L2
/-! ### a def that knows which lists are being shown around it -/
open Classical in
noncomputable def guOf (g : List Code) (a : Addr) : Bool := decide (∃ v rest kw, Code.builtin "list.__repr__.loop" ⟨v :: rest, kw⟩ ∈ g ∧ Builtin.List.listSameRef v (.ref a) = true)
section
variable {P : Program} {w : World} {K : PySem.W.Frag} {mg : Str → Option Value} {base : Heap} {x qual : Str} {st : Stmt} {f : Addr}
theorem below_some {Γ : PySem.Ctx} {A : Around} (h : Γ.Below A) : Γ.Below { A with guards := some (guardsOf Γ.below) } :=
  ⟨h.1, h.2.1, h.2.2.1, fun g e => by cases e; rfl, h.2.2.2.2⟩
theorem run_at {N ps : List Str} {k : Nat} {sp : Sp} {fd : FuncData} (F : FunD K x qual (defArgs st) (defBody st) (defScope st) [] [] f fd) (S : FnScope N ps (defScope st)) (len : ∀ vs H Q E, sp vs H Q E → vs.length = ps.length) (A : Around)
    (body : ∀ (cdv : Value) (outer : List Env) (s : Shared) (H : Hp) (vs : List V) (Q : VK) (E : XK), Room k (A.deeper (envOfC qual (defScope st) s.heap.objs.size f cdv)) → sp vs H Q E →
      ∃ t, PSs (cxOf C8.CX0 P w K mg base N qual (defScope st) f cdv A outer s H E) (defBody st) t ∧ t { nx := fun _ H' => Q .non H', rt := Q } (start N vs) H)
    (outer : List Env) (s : Shared) (H : Hp) (args : Args) (us : List Value) (vs : List V) (Q : VK) (E : XK) (room : Room (k + 1) A) (env : Env0 P w K mg base A outer s H) (bd : BindsTo s fd args (ps.zip us)) (rel : Vals vs us) (pr : sp vs H Q E) :
    codeAny (model P w) A (.call (.ref f) args) (CR C8.CX0 outer P w H s Q E) s := by
  obtain ⟨oc, od, dV, kV, doc, pm, an, cdv, ct, osl, rfl, look, code, _, _⟩ := F.ex
  have len0 := len _ _ _ _ pr
  have inK : K.In s.heap := env.mod.kin.keeps fun b o e => (env.bs b o e).1
  have nolim : s.heap.NoLimit := env.mod.nolimit.keeps fun b o e => (env.bs b o e).1
  refine codeAny_call_function room.depth (inK _ _ look) rfl S.co S.gen rfl (PySem.W.codeRec_of inK code) (bd _ _ _ _ ?_)
  refine wpAny_newFunctionEnv_cells S.kind (fun y hy => ?_) fun ev hv s2 ic => ?_
  · have hm : y.1 ∈ ps := (List.of_mem_zip (show (y.1, y.2) ∈ ps.zip us from hy)).1
    exact (S.par y.1 hm).elim .inl fun q => .inr ⟨q, PySem.W.cellsFrom_some _ _ _ (.inl q)⟩
  · subst hv
    refine ⟨nolim.keeps ic.toInCall.keep, codeAny_func ?_⟩
    obtain ⟨t, pt, ht⟩ := body cdv outer s H vs Q E (room.deeper _) pr
    have J : Inv (cxOf C8.CX0 P w K mg base N qual (defScope st) f cdv A outer s H E) [] (start N vs) H s2 := inv_start S room.hd env len0 rel ic
    refine wpAny_mono (pt.run [] s2 (start N vs) H _ J ht) (fun fl s' z => ?_) fun e s' z => z
    cases fl with
    | ret u =>
      obtain ⟨v, σ', H', J', rv, q⟩ := z
      exact ⟨v, H', J'.os, J'.bare, J'.base, J'.hok, rv, q⟩
    | next =>
      obtain ⟨σ', H', J', q⟩ := z
      exact ⟨V.non, H', J'.os, J'.bare, J'.base, J'.hok, rfl, q⟩
    | brk => exact z.elim fun _ z => z.elim fun _ z => z.2.elim
    | cont => exact z.elim fun _ z => z.elim fun _ z => z.2.elim
theorem fn_okG {N ps : List Str} {k : Nat} {sp : Sp} {fd : FuncData} (F : FunD K x qual (defArgs st) (defBody st) (defScope st) [] [] f fd) (S : FnScope N ps (defScope st)) (len : ∀ vs H Q E, sp vs H Q E → vs.length = ps.length) {t : (Addr → Bool) → TS}
    (hd : ∀ (cdv : Value) (A : Around) (outer : List Env) (s : Shared) (H : Hp) (E : XK) (g : List Code), A.guards = some g → Room k (A.deeper (envOfC qual (defScope st) s.heap.objs.size f cdv)) → PSs (cxOf C8.CX0 P w K mg base N qual (defScope st) f cdv A outer s H E).nox (defBody st) (t (guOf g)))
    (hrd : ∀ gu vs H Q E, sp vs H Q E → t gu { nx := fun _ H' => Q .non H', rt := Q } (start N vs) H) : FnOk P w K mg base C8.CX0 (k + 1) f fd ps sp := by
  refine ⟨len, fun A outer s H args us vs Q E hr e0 hb r hsp Γ p hc hB => ?_⟩
  refine run_at F S len { A with guards := some (guardsOf Γ.below) } (fun cdv outer s H vs Q E hr' h => ⟨t (guOf (guardsOf Γ.below)), PSs.nox (hd cdv _ outer s H E _ rfl hr'), hrd _ vs H Q E h⟩) outer s H args us vs Q E ⟨hr.hd, hr.dp, hr.un⟩ ⟨e0.frames, e0.mod, e0.bs, e0.bsz, e0.funs, e0.frf, e0.hok, e0.bare⟩ hb r hsp Γ p hc (below_some hB)
end
/-! ### repr of a list of own objects -/
def DRep (C : Addr) (sp : Sp) (x : V) (t : Str) (H : Hp) : Prop := ∃ a dx fs, x = .ref a ∧ H a = some (.ins C dx fs) ∧ sp [x] H (fun v H' => v = .str t ∧ H' = H) C8.E0
def yReprL (gu : Addr → Bool) (C : Addr) (sp : Sp) : List V → Hp → VK → Prop := fun vs H Q => match vs with
  | [.ref a] => (match H a with
    | some (.lst xs) => ∃ ts : List Str, ts.length = xs.length ∧ (listText ts).length ≤ sizeLine ∧ (∀ H', Same H H' → ∀ (i : Nat) x t, xs[i]? = some x → ts[i]? = some t → DRep C sp x t H') ∧ ∀ H', Same H H' → Q (.str (if xs.isEmpty then "[]" else if gu a then "[...]" else listText ts)) H'
    | _ => False)
  | _ => False
theorem same_new {H : Hp} {p : Addr} {o : HO} (h : H p = none) : Same H (upd H p o) := fun c u e => by
  rw [upd_ne (fun z => by rw [z, h] at e; cases e)]; exact e
open Classical in
theorem guOf_yes {g : List Code} {a : Addr} (h : guOf g a = true) : ∃ v rest kw, Code.builtin "list.__repr__.loop" ⟨v :: rest, kw⟩ ∈ g ∧ Builtin.List.listSameRef v (.ref a) = true := by
  unfold guOf at h; exact of_decide_eq_true h
open Classical in
theorem guOf_no {g : List Code} {a : Addr} (h : ¬ guOf g a = true) : ¬ ∃ v rest kw, Code.builtin "list.__repr__.loop" ⟨v :: rest, kw⟩ ∈ g ∧ Builtin.List.listSameRef v (.ref a) = true := fun z => h (by unfold guOf; exact decide_eq_true z)
section
variable {X : Cx} {k j : Nat} {C : Addr} {sp : Sp}
theorem bound_own {K : PySem.W.Frag} {M : Model} {A : Around} {E : Value → Shared → Prop} {s : Shared} {a f : Addr} {ox : Obj} {od : Option Obj} {name : Str} {last : Value → List Value → Sem Value} {Q : Option Value → Shared → Prop} (kin : K.In s.heap) (J : PySem.W.InstAt s.heap a ox C od) (me : PySem.W.findIn K (.ref C) name = some (some (.ref f))) (fn : PySem.W.isFn K (.ref f) = true)
    (h : wpAny M A (last (.ref f) [.ref a]) (fun v => Q (some v)) E s) : wpAny M A (callSpecialIfBoundBy? last (.ref a) name) Q E s := by
  simp only [callSpecialIfBoundBy?, bindSpecialIfBound?]
  refine wpAny_holding (wpAny_bind (wpAny_bind (wpAny_bind (J.type.here ((PySem.W.looks_findIn kin me).here ?_)))))
  have last' : wpAny M A (last (.ref f) [.ref a] >>= fun v => pure (some v)) Q E s := wpAny_bind (wpAny_mono h (fun v s' z => wpAny_pure z) fun _ _ z => z)
  refine wpAny_bind (wpAny_askSetting (wpAny_ite ?_))
  split
  · exact wpAny_bind ((PySem.W.bind_fn kin _ (beq_iff_eq.mp fn)).here (wpAny_pure last'))
  · exact wpAny_tryCatch (wpAny_bind ((PySem.W.bind_fn kin _ (beq_iff_eq.mp fn)).here (wpAny_pure last')))
theorem rep_own (c : C8.Met X.prog X.w X.K X.mg X.base k C "__repr__" sp []) {A : Around} (sb : L2.Sub X k A) {pins : List (Addr × Obj)} {s : Shared} {σ : L2.St} {H : Hp} {x : V} {t : Str} {v : Value} {b : Nat} (I : Inv X pins σ H s) (rx : L2.RelV x v) (d : DRep C sp x t H) (hb : b + t.length ≤ sizeLine) {Q : Str → Shared → Prop} (q : ∀ s', Inv X pins σ H s' → Q t s') :
    wpAny (model X.prog X.w) A (pyReprUnder b v) Q X.xe s := by
  obtain ⟨a, dx, fs, rfl, ha, d⟩ := d
  cases rx
  obtain ⟨f, fd, ps, ds, cl, me, F, bb, hd⟩ := c
  obtain ⟨ox, od, J⟩ := inst_at I ha
  refine wpAny_pyReprUnder_ref (by omega) ?_
  unfold pyReprObjUnder pyReprObjBy
  refine wpAny_bind (wpAny_cRoomFor sb.room.units0 ?_)
  refine wpAny_bind (wpAny_bind (J.type.here ((PySem.W.looks_findIn I.kIn me.at_).here ?_)))
  show wpAny _ _ (if (some (Value.ref f)).isNone = true then _ else _) _ _ _
  rw [if_neg (by simp)]
  refine wpAny_bind (bound_own I.kIn J me.at_ me.fn ?_)
  have IA : Inv { X with A := A } pins σ H s := by
    obtain ⟨ok, os, bare, base, loc, cell, free, freeC, pin, hok, len⟩ := I
    exact ⟨⟨ok.mod, ok.kind, ok.glob, ok.blt, ok.above, ok.inj, ok.has, ok.cab, fun h => sb.room.hd, by rw [sb.fr]; exact ok.frames, ok.stk, ok.exf, ok.bs, ok.bsz, ok.noex, ok.exfs, ok.funs, ok.frf⟩, os, bare, base, loc, cell, free, freeC, pin, hok, len⟩
  show wpAny _ _ (call (.ref f) [.ref a]) _ _ _
  refine thn (run_fn (X := { X with A := A }) (us := [.ref a]) (vs := [.ref a]) F sb.room bb hd C8.pass0 IA (.cons rfl .nil) d) fun r s' ⟨z, H', I', rz, ez, eH⟩ => ?_
  subst ez eH
  obtain ⟨u, rfl⟩ := rz
  have IB : Inv X pins σ H' s' := by
    obtain ⟨ok, os, bare, base, loc, cell, free, freeC, pin, hok, len⟩ := I'
    exact ⟨I.ok, os, bare, base, loc, cell, free, freeC, pin, hok, len⟩
  exact wpAny_bind (wpAny_isInstance (T := "str") (b := true) rfl isSubtype_str_str (wpAny_pure ⟨_, _, rfl, q _ IB⟩))
theorem vals_strs : ∀ {l : List Str} {its : List Value}, Vals (l.map V.str) its → ∃ dn : List (Str × Tok), its = strValues dn ∧ dn.map (·.1) = l
  | [], _, r => by cases r; exact ⟨[], rfl, rfl⟩
  | y :: l, _, r => by
    cases r with
    | cons r1 r2 =>
      obtain ⟨u, rfl⟩ := r1
      obtain ⟨dn, e1, e2⟩ := vals_strs r2
      exact ⟨(y, u) :: dn, by rw [e1]; rfl, by rw [List.map_cons, e2]⟩
open Builtin Builtin.List in
theorem rep_loop (c : C8.Met X.prog X.w X.K X.mg X.base k C "__repr__" sp []) {A : Around} {R : Result → Shared → Prop} (sb : ∀ args, L2.Sub X k (A.under (.builtin "list.__repr__.loop" args))) {pins : List (Addr × Obj)} {σ : L2.St} {a P : Addr} {xs : List V} {ts : List Str} (hne : a ≠ P) (hl : ts.length = xs.length) {H0 : Hp} (ha : H0 a = some (.lst xs)) (hP : H0 P = none)
    (hd : ∀ H', Same H0 H' → ∀ (i : Nat) x t, xs[i]? = some x → ts[i]? = some t → DRep C sp x t H') (hz : (listText ts).length ≤ sizeLine) (hE : ∀ y s', X.xe y s' → R (.error y) s')
    (fin : ∀ s' u, Inv X pins σ (upd H0 P (.lst (ts.map V.str))) s' → R (.ok (.ret (.str (listText ts) u))) s') :
    ∀ (n i : Nat) (s : Shared), xs.length - i = n → i ≤ xs.length → Inv X pins σ (upd H0 P (.lst ((ts.take i).map V.str))) s → codeAny (model X.prog X.w) A (.builtin "list.__repr__.loop" ⟨[.ref a, rawInt i, .ref P, rawInt ((piled (ts.take i) : Nat) : Int)], []⟩) R s := by
  have lp := piled_le_listText ts
  have lt := textFrom_len ts 0 "["
  have lX : (listText ts).length = (textFrom 0 "[" ts).length + 1 := by
    show (textFrom 0 "[" ts ++ "]").length = _
    rw [strLen_append]; rfl
  intro n
  induction n with
  | zero =>
    intro i s hn hi I
    obtain ⟨_, ia, na, va, la, ga⟩ := I.lstM (show (upd H0 P _) a = some (.lst xs) by rw [upd_ne hne]; exact ha)
    obtain ⟨_, ip, np, vp, lpp, gp⟩ := I.lstM upd_same
    refine codeAny_builtin F.entry_list_repr_loop ?_
    show wpAny _ _ («list.__repr__.loop» ⟨[.ref a, .int i 0, .ref P, .int ((piled (ts.take i) : Nat) : Int) 0], []⟩) _ _ s
    rw [repr_loop_tree]
    refine wpAny_bind (wpAny_listItems ga rfl ?_)
    have e0 : ia.toArray[(i : Int).toNat]? = none := by simp; omega
    simp only [e0]
    unfold reprEnd
    refine wpAny_bind (wpAny_listItems gp rfl ?_)
    obtain ⟨dn, e1, e2⟩ := vals_strs vp
    have et : ts.take i = ts := by rw [show i = ts.length by omega, List.take_length]
    rw [et] at e2 I
    show wpAny _ _ (forIn (ip.toArray.toList.zipIdx) _ reprBody >>= _) _ _ _
    rw [show ip.toArray.toList = strValues dn from e1, repr_fold, e2]
    refine wpAny_bind (wpAny_pure (wpAny_bind (wpAny_mkStr (wpAny_pure ?_) hz)))
    exact fin _ _ (I.tok _)
  | succ n ih =>
    intro i s hn hi I
    have hi' : i < xs.length := by omega
    obtain ⟨za, ia, na, va, la, ga⟩ := I.lstM (show (upd H0 P _) a = some (.lst xs) by rw [upd_ne hne]; exact ha)
    have hx : xs[i]? = some xs[i] := List.getElem?_eq_getElem hi'
    have htl : i < ts.length := by omega
    have ht : ts[i]? = some ts[i] := List.getElem?_eq_getElem htl
    obtain ⟨v, hv, rv⟩ := va.get hx
    have p1 := piled_take_succ ht
    have p2 := piled_take_le ts (i + 1)
    refine codeAny_builtin F.entry_list_repr_loop ?_
    show wpAny _ _ («list.__repr__.loop» ⟨[.ref a, .int i 0, .ref P, .int ((piled (ts.take i) : Nat) : Int) 0], []⟩) _ _ s
    rw [repr_loop_tree]
    refine wpAny_bind (wpAny_listItems ga rfl ?_)
    have e0 : ia.toArray[(i : Int).toNat]? = some v := by simpa using hv
    simp only [e0]
    rw [Int.toNat_natCast]
    refine wpAny_bind (wpAny_holding (wpAny_mono (rep_own (Q := fun t s' => t = ts[i] ∧ Inv X pins σ (upd H0 P (.lst ((ts.take i).map V.str))) s') c (sb _) I rv (hd _ (same_new hP) i _ _ hx ht) (by omega) fun s' I' => ⟨rfl, I'⟩) (fun t s' z => ?_) hE))
    obtain ⟨rfl, I'⟩ := z
    refine wpAny_bind (wpAny_mkStr ?_ (by have := lt.2.1 _ (List.mem_of_getElem? ht); omega))
    obtain ⟨zp, ip, np, vp, lpp, gp⟩ := I'.lstM upd_same
    refine wpAny_bind ?_
    show wpAny _ _ (updateSeq P _) _ _ _
    refine wpAny_updateSeq gp rfl (wpAny_pure ⟨F.quiet_list_repr_loop _, ?_⟩) (by simp; omega)
    have c1 : ((i : Int) + 1) = ((i + 1 : Nat) : Int) := by omega
    have c2 : piled (ts.take i) + (ts[i].length + 2) = piled (ts.take (i + 1)) := by omega
    rw [c1, c2]
    refine ih (i + 1) _ (by omega) hi' ?_
    have J := (I'.tok s'.toks).lset (t' := s'.toks + 1) (ys := (ts.take (i + 1)).map V.str) (its' := ip ++ [.str ts[i] s'.toks]) (f := fun z => z.push (.str ts[i] s'.toks)) upd_same gp (by simp) (by
      rw [List.take_add_one, ht, List.map_append]
      exact vp.append (.cons ⟨_, rfl⟩ .nil)) (by rw [List.length_map, List.length_take]; have := lt.1; simp at this; omega)
    rw [upd_upd] at J
    exact J
theorem repr_under_way {M : Model} {A : Around} {E : Value → Shared → Prop} {s : Shared} {Q : Fin → Shared → Prop} {a : Addr} {o : Obj} {y : Value} {l : List Value} {n : Nat} {g : List Code} {cd : Code} (hg : A.guards = some g)
    (yes : ∃ v rest kw, Code.builtin "list.__repr__.loop" ⟨v :: rest, kw⟩ ∈ g ∧ Builtin.List.listSameRef v (.ref a) = true) (ho : s.heap.get? a = some o) (hd : o.data = .seq (y :: l).toArray n)
    (h : ∀ u tk, Q (.done (.ret (.str "[...]" u))) { s with toks := tk }) : wpOwn M A cd (Builtin.listReprAt 0 ⟨[.ref a], []⟩) Q E s := by
  intro Γ p hc hB
  unfold Builtin.listReprAt
  simp [slotArgs, Builtin.List.listItems, seqItems?, Sem.wp_load_of (h := ho), hd, stack]
  show Sem.wp M Γ (if (Γ.below.any _) = true then _ else _) _ _ p s
  rw [if_pos]
  · simp [rule, retStr, ret]
    exact h _ _
  · obtain ⟨v, rest, kw, hm, hs⟩ := yes
    rw [← hB.2.2.2.1 g hg] at hm
    obtain ⟨e, he, ee⟩ := List.mem_map.mp (List.mem_filter.mp hm).1
    rw [List.any_eq_true]
    refine ⟨e, he, ?_⟩
    obtain ⟨c1, p1⟩ := e
    have ec : c1 = Code.builtin "list.__repr__.loop" ⟨v :: rest, kw⟩ := ee
    subst ec
    exact hs
theorem sub_loop {A : Around} {n : Nat} (h : L2.Sub X (n + 1) A) (args : Args) : L2.Sub X n (A.under (.builtin "list.__repr__.loop" args)) := by
  have u := units_under_list_loop A args
  have wt : (Code.builtin "list.__repr__.loop" args).weight ≤ 1 := by
    first | decide | (simp [Code.weight, Code.isCreation, Code.isGuard, Code.isCaller, Code.frames, Code.isFrame, guardIds])
  have dp : (A.under (.builtin "list.__repr__.loop" args)).depth ≤ A.depth + 1 := Nat.add_le_add_left wt _
  refine ⟨⟨h.room.hd, ?_, ?_⟩, ?_⟩
  · have := h.room.dp; omega
  · have := h.room.un; rw [u]; omega
  · rw [← h.fr]
    first | rfl | simp [Around.under, Code.envs, Code.isFrame, pushEnvs]
theorem c_reprL {g : List Code} (hg : X.A.guards = some g) (c : C8.Met X.prog X.w X.K X.mg X.base k C "__repr__" sp []) (hr : Room j X.A) (hk : k + 2 ≤ j) : CallR X (.builtin "repr") (yReprL (guOf g) C sp) := by
  intro pins s σ H xs us Q I r q
  unfold yReprL at q
  split at q
  · rename_i a
    split at q
    · rename_i xs ha
      obtain ⟨ts, hl, hz, hd, q⟩ := q
      have r' := r
      cases r with
      | cons r1 r2 =>
        cases r2
        cases r1
        obtain ⟨zs, ia, na, va, la, ga⟩ := I.lstM ha
        have sb : L2.Sub X (k + 2) X.A := ⟨hr.mono hk, rfl⟩
        have sb1 : L2.Sub X (k + 1) X.A.in1 := sb.in1
        have ty : s.TypeIs (.ref a) "list" := ⟨_, ga, rfl⟩
        have back : ∀ tx u s' H', Inv X pins σ H' s' → Same H H' → tx = (if xs.isEmpty then ("[]" : Str) else if guOf g a then "[...]" else listText ts) → EP X pins σ Q (.str tx u) s' := fun tx u s' H' I' sm e => ⟨.str tx, H', I', ⟨u, rfl⟩, by rw [e]; exact q H' sm⟩
        refine Calls.call_function_entry PySem.F.kind_repr PySem.F.plain_repr PySem.F.entry_repr (PySem.F.args_repr1 _) ?_
        unfold Builtin.«repr»
        refine wpAny_bind (m := oneArg "repr" _) (wpAny_pure ?_)
        refine wpAny_bind (wpAny_cRoomFor sb1.room.units0 ?_)
        refine wpAny_bind (wpAny_specialOf (name := Str.ofString "__repr__") ty F.slot_list_repr.lookup ?_)
        show wpAny _ _ (if (some (Value.builtin _)).isNone = true then _ else _) _ _ _
        rw [if_neg (by simp)]
        have told : wpAny (model X.prog X.w) X.A.in1 (call (.builtin "list.__repr__") [.ref a]) (fun v s' => ∃ tx u, v = .str tx u ∧ EP X pins σ Q (.str tx u) s') X.xe s := by
          cases xs with
          | nil =>
            have e0 : ia = [] := List.length_eq_zero_iff.mp (by simpa using la.symm)
            subst e0
            exact call_list_repr_empty ty ga rfl ⟨_, _, rfl, back _ _ _ H (I.tok _) (fun _ _ e => e) rfl⟩
          | cons x0 xs0 =>
            obtain ⟨y, l, rfl⟩ : ∃ y l, ia = y :: l := by cases ia with
              | nil => simp at la
              | cons y l => exact ⟨y, l, rfl⟩
            refine wpAny_call ?_
            by_cases gd : guOf g a = true
            · refine codeAny_call_builtin_own (plainId_quiet F.slot_list_repr.plain _) F.entry_list_repr (F.slot_list_repr.check _ _ _ _ _ _ _ _ ty (F.args_list_repr_1 _) ?_)
              refine repr_under_way (A := X.A.in1) hg (guOf_yes gd) ga rfl fun u tk => ?_
              exact ⟨_, _, rfl, back _ _ _ H (I.tok _) (fun _ _ e => e) (by rw [gd]; rfl)⟩
            · refine codeAny_call_builtin F.slot_list_repr.plain F.entry_list_repr (F.slot_list_repr.check _ _ _ _ _ _ _ _ ty (F.args_list_repr_1 _) ?_)
              have no : ∀ v rest kw, Code.builtin "list.__repr__.loop" ⟨v :: rest, kw⟩ ∈ g → Builtin.List.listSameRef v (.ref a) = false := fun v rest kw hm => by
                cases z : Builtin.List.listSameRef v (.ref a) with
                | false => rfl
                | true => exact absurd ⟨v, rest, kw, hm, z⟩ (guOf_no gd)
              refine wpAny_list_repr_head (A := X.A.in1.in1) hg no ga rfl ?_
              refine wpAny_bind (m := newList []) (wpAny_newObj_type ?_)
              refine wpAny_pure ⟨F.quiet_list_repr_loop _, ?_⟩
              have hf := I.fresh
              have I1 := I.lnew (ys := []) (its := []) (t' := s.toks) .nil (Nat.zero_le _)
              exact rep_loop c (A := X.A.in1) (fun args => sub_loop sb1 args) (ne_of_none ha hf) hl ha hf hd hz (fun y s' z => z) (fun s' u J => ⟨_, _, rfl, back _ u s' _ J (same_new hf) (by rw [if_neg (by simp), if_neg gd])⟩) _ 0 _ rfl (Nat.zero_le _) I1
        refine wpAny_bind (m := callSpecialIfBound? (.ref a) (Str.ofString "__repr__")) (wpAny_callSpecialIfBound?_slot (name := Str.ofString "__repr__") ty F.slot_list_repr (wpAny_mono told (fun v s' z => ?_) fun _ _ z => z))
        obtain ⟨tx, u, rfl, z⟩ := z
        refine wpAny_bind (wpAny_isInstance (T := "str") (b := true) rfl isSubtype_str_str ?_)
        first
          | exact wpAny_pure ⟨_, rfl, z⟩
          | (rw [if_pos rfl]; exact wpAny_pure ⟨_, rfl, z⟩)
          | (simp only [if_true]; exact wpAny_pure ⟨_, rfl, z⟩)
    · exact q.elim
  · exact q.elim
theorem ki_list_list {K : PySem.W.Frag} : PySem.W.kitOne K (.type "list") (.type "list") = some true := kit_ty (by decide +kernel)
end
end Z
namespace K04
open PySem PySem.Spec PyProof.Rows L2 Z
def top (i : Nat) : Stmt := PySem.Challenge.pw_devicewindows_k04_segments_by_greed.main.body.getD i (.Pass ⟨0, 0, 0, 0⟩)
abbrev st_is_integer : Stmt := top 6
abbrev nm_is_integer : List Str := ["thing"]
theorem sc_is_integer : FnScope nm_is_integer ["thing"] (defScope st_is_integer) := ⟨rfl, rfl, rfl, by decide +kernel, rfl, by decide +kernel, by decide +kernel⟩
theorem start_is_integer (v0 : V) : start nm_is_integer [v0] = [some v0] := rfl
abbrev st_is_from_to : Stmt := top 7
abbrev nm_is_from_to : List Str := ["thing", "least", "most"]
theorem sc_is_from_to : FnScope nm_is_from_to ["thing", "least", "most"] (defScope st_is_from_to) := ⟨rfl, rfl, rfl, by decide +kernel, rfl, by decide +kernel, by decide +kernel⟩
theorem start_is_from_to (v0 v1 v2 : V) : start nm_is_from_to [v0, v1, v2] = [some v0, some v1, some v2] := rfl
abbrev st_Run___init__ : Stmt := inClass (top 8) 2
abbrev nm_Run___init__ : List Str := ["self", "first", "many"]
theorem sc_Run___init__ : FnScope nm_Run___init__ ["self", "first", "many"] (defScope st_Run___init__) := ⟨rfl, rfl, rfl, by decide +kernel, rfl, by decide +kernel, by decide +kernel⟩
theorem start_Run___init__ (v0 v1 v2 : V) : start nm_Run___init__ [v0, v1, v2] = [some v0, some v1, some v2] := rfl
abbrev st_Run_end : Stmt := inClass (top 8) 3
abbrev nm_Run_end : List Str := ["self"]
theorem sc_Run_end : FnScope nm_Run_end ["self"] (defScope st_Run_end) := ⟨rfl, rfl, rfl, by decide +kernel, rfl, by decide +kernel, by decide +kernel⟩
theorem start_Run_end (v0 : V) : start nm_Run_end [v0] = [some v0] := rfl
abbrev st_Run___eq__ : Stmt := inClass (top 8) 4
abbrev nm_Run___eq__ : List Str := ["self", "other"]
theorem sc_Run___eq__ : FnScope nm_Run___eq__ ["self", "other"] (defScope st_Run___eq__) := ⟨rfl, rfl, rfl, by decide +kernel, rfl, by decide +kernel, by decide +kernel⟩
theorem start_Run___eq__ (v0 v1 : V) : start nm_Run___eq__ [v0, v1] = [some v0, some v1] := rfl
abbrev st_Run___repr__ : Stmt := inClass (top 8) 8
abbrev nm_Run___repr__ : List Str := ["self"]
theorem sc_Run___repr__ : FnScope nm_Run___repr__ ["self"] (defScope st_Run___repr__) := ⟨rfl, rfl, rfl, by decide +kernel, rfl, by decide +kernel, by decide +kernel⟩
theorem start_Run___repr__ (v0 : V) : start nm_Run___repr__ [v0] = [some v0] := rfl
abbrev st_Run_words : Stmt := inClass (top 8) 9
abbrev nm_Run_words : List Str := ["self", "word"]
theorem gs_Run_words : GScope nm_Run_words ["self"] (defScope st_Run_words) := ⟨rfl, rfl, rfl, by decide +kernel, rfl, by decide +kernel, by decide +kernel⟩
theorem gc_Run_words : GF.GSc nm_Run_words (defScope st_Run_words) := ⟨rfl, rfl, by decide +kernel, fun n => rfl, by decide +kernel⟩
theorem start_Run_words (v0 : V) : start nm_Run_words [v0] = [some v0, none] := rfl
abbrev st_segments : Stmt := top 9
abbrev nm_segments : List Str := ["runs", "longest", "boundary", "found", "run", "word", "fits", "first", "many"]
theorem sc_segments : FnScope nm_segments ["runs", "longest", "boundary"] (defScope st_segments) := ⟨rfl, rfl, rfl, by decide +kernel, rfl, by decide +kernel, by decide +kernel⟩
theorem start_segments (v0 v1 v2 : V) : start nm_segments [v0, v1, v2] = [some v0, some v1, some v2, none, none, none, none, none, none] := rfl
abbrev st_L_bag : Stmt := top 11
abbrev nm_L_bag : List Str := ["_law_script", "_law_at", "_law_number", "_law_large"]
theorem sc_L_bag : FnScope nm_L_bag ["_law_script", "_law_at"] (defScope st_L_bag) := ⟨rfl, rfl, rfl, by decide +kernel, rfl, by decide +kernel, by decide +kernel⟩
theorem start_L_bag (v0 v1 : V) : start nm_L_bag [v0, v1] = [some v0, some v1, none, none] := rfl
abbrev st_L_take : Stmt := top 12
abbrev nm_L_take : List Str := ["_law_bag_here", "_law_many", "_law_mixed", "_law_digit"]
theorem sc_L_take : FnScope nm_L_take ["_law_bag_here", "_law_many"] (defScope st_L_take) := ⟨rfl, rfl, rfl, by decide +kernel, rfl, by decide +kernel, by decide +kernel⟩
theorem start_L_take (v0 v1 : V) : start nm_L_take [v0, v1] = [some v0, some v1, none, none] := rfl
abbrev st_L_runs : Stmt := top 13
abbrev nm_L_runs : List Str := ["_law_bag_here", "_law_runs_here", "_law_size", "_law_turn", "_law_found", "_law_here", "_law_many"]
theorem sc_L_runs : FnScope nm_L_runs ["_law_bag_here", "_law_runs_here", "_law_size"] (defScope st_L_runs) := ⟨rfl, rfl, rfl, by decide +kernel, rfl, by decide +kernel, by decide +kernel⟩
theorem start_L_runs (v0 v1 v2 : V) : start nm_L_runs [v0, v1, v2] = [some v0, some v1, some v2, none, none, none, none] := rfl
abbrev st_L_words : Stmt := top 14
abbrev nm_L_words : List Str := ["_law_runs_here", "_law_found", "_law_run"]
theorem sc_L_words : FnScope nm_L_words ["_law_runs_here"] (defScope st_L_words) := ⟨rfl, rfl, rfl, by decide +kernel, rfl, by decide +kernel, by decide +kernel⟩
theorem start_L_words (v0 : V) : start nm_L_words [v0] = [some v0, none, none] := rfl
abbrev st_L_cut : Stmt := top 15
abbrev nm_L_cut : List Str := ["_law_words_here", "_law_most", "_law_border", "_law_found", "_law_at", "_law_end"]
theorem sc_L_cut : FnScope nm_L_cut ["_law_words_here", "_law_most", "_law_border"] (defScope st_L_cut) := ⟨rfl, rfl, rfl, by decide +kernel, rfl, by decide +kernel, by decide +kernel⟩
theorem start_L_cut (v0 v1 v2 : V) : start nm_L_cut [v0, v1, v2] = [some v0, some v1, some v2, none, none, none] := rfl
abbrev st_law : Stmt := top 16
abbrev nm_law : List Str := ["_law_script", "_law_k", "_law_bag_here", "_law_turn", "_law_border", "_law_runs_here", "_law_words_here", "_law_told", "_law_some", "_law_most", "_law_text", "_law_due", "_law_first", "_law_many"]
theorem sc_law : FnScope nm_law ["_law_script"] (defScope st_law) := ⟨rfl, rfl, rfl, by decide +kernel, rfl, by decide +kernel, by decide +kernel⟩
theorem start_law (v0 : V) : start nm_law [v0] = [some v0, none, none, none, none, none, none, none, none, none, none, none, none, none] := rfl
def fs_Run (v0 v1 : V) : List (Str × V) := [(("first" : Str), v0), (("many" : Str), v1)]
theorem lk_Run_first (v0 v1 : V) : (fs_Run v0 v1).lookup ("first" : Str) = some v0 := by unfold fs_Run; rw [List.lookup_cons, show (("first" : Str) == ("first" : Str)) = true by decide +kernel]
theorem pf_Run_first (w v0 v1 : V) : putF ("first" : Str) w (fs_Run v0 v1) = fs_Run w v1 := by unfold fs_Run; rw [Hk.putF_eq]
theorem pn_Run_first (v0 v1 : V) : putF ("first" : Str) v0 ([] : List (Str × V)) = [(("first" : Str), v0)] := by rfl
theorem lk_Run_many (v0 v1 : V) : (fs_Run v0 v1).lookup ("many" : Str) = some v1 := by unfold fs_Run; rw [List.lookup_cons, show (("many" : Str) == ("first" : Str)) = false by decide +kernel]; rw [List.lookup_cons, show (("many" : Str) == ("many" : Str)) = true by decide +kernel]
theorem pf_Run_many (w v0 v1 : V) : putF ("many" : Str) w (fs_Run v0 v1) = fs_Run v0 w := by unfold fs_Run; rw [Hk.putF_ne (show ¬ ("first" : Str) = ("many" : Str) by decide +kernel)]; rw [Hk.putF_eq]
theorem pn_Run_many (v0 v1 : V) : putF ("many" : Str) v1 ([(("first" : Str), v0)] : List (Str × V)) = [(("first" : Str), v0), (("many" : Str), v1)] := by rw [Hk.putF_ne (show ¬ ("first" : Str) = ("many" : Str) by decide +kernel)]; rfl
theorem ln_Run (v0 v1 : V) : (fs_Run v0 v1).length < 1000 := by show 2 < 1000; decide
theorem no_Run_end (v0 v1 : V) : (fs_Run v0 v1).lookup ("end" : Str) = none := by unfold fs_Run; rw [List.lookup_cons, show (("end" : Str) == ("first" : Str)) = false by decide +kernel]; rw [List.lookup_cons, show (("end" : Str) == ("many" : Str)) = false by decide +kernel]; rfl
theorem no_Run___eq__ (v0 v1 : V) : (fs_Run v0 v1).lookup ("__eq__" : Str) = none := by unfold fs_Run; rw [List.lookup_cons, show (("__eq__" : Str) == ("first" : Str)) = false by decide +kernel]; rw [List.lookup_cons, show (("__eq__" : Str) == ("many" : Str)) = false by decide +kernel]; rfl
theorem no_Run___repr__ (v0 v1 : V) : (fs_Run v0 v1).lookup ("__repr__" : Str) = none := by unfold fs_Run; rw [List.lookup_cons, show (("__repr__" : Str) == ("first" : Str)) = false by decide +kernel]; rw [List.lookup_cons, show (("__repr__" : Str) == ("many" : Str)) = false by decide +kernel]; rfl
theorem no_Run_words (v0 v1 : V) : (fs_Run v0 v1).lookup ("words" : Str) = none := by unfold fs_Run; rw [List.lookup_cons, show (("words" : Str) == ("first" : Str)) = false by decide +kernel]; rw [List.lookup_cons, show (("words" : Str) == ("many" : Str)) = false by decide +kernel]; rfl
/-! ### the bag -/
def BagO (o : HO) (n : Int) : Prop := ∃ L M c : Int, o = .lst [.int L, .int M, .int c] ∧ 0 ≤ L ∧ 0 ≤ M ∧ M ≤ 6000000000000000000 ∧ 0 ≤ c ∧ c ≤ n
def sp_L_bag (K : PySem.W.Frag) : Sp := fun vs H Q _ => ∃ (a : Addr) (i : Int) (ns : List Int), vs = [.ref a, .int i] ∧ SqL K H a (ns.map V.int) ∧ 0 ≤ i ∧ i ≤ 100 ∧ ∀ b o, H b = none → BagO o 0 → Q (.ref b) (upd H b o)
def sp_L_take (K : PySem.W.Frag) : Sp := fun vs H Q _ => ∃ (b : Addr) (o : HO) (m n : Int), vs = [.ref b, .int m] ∧ H b = some o ∧ BagO o n ∧ 0 < m ∧ m < 1000000000 ∧ n ≤ 1000000 ∧ ∀ d o', 0 ≤ d → d < m → BagO o' (n + 1) → Q (.int d) (upd H b o')
theorem ln_sp_L_bag {K : PySem.W.Frag} (vs : List V) (H : Hp) (Q : VK) (E : XK) (h : sp_L_bag K vs H Q E) : vs.length = 2 := by obtain ⟨a, i, ns, rfl, _⟩ := h; rfl
theorem ln_sp_L_take {K : PySem.W.Frag} (vs : List V) (H : Hp) (Q : VK) (E : XK) (h : sp_L_take K vs H Q E) : vs.length = 2 := by obtain ⟨b, o, m, n, rfl, _⟩ := h; rfl
/-! ### runs -/
def RunOk (f m : Int) : Prop := 0 ≤ f ∧ f ≤ 1000000000000 ∧ 1 ≤ m ∧ m ≤ 1000000000000
def RunAt (K : PySem.W.Frag) (H : Hp) (r : Addr) (f m : Int) : Prop := ∃ dx, H r = some (.ins (He.ga K "Run") dx (fs_Run (.int f) (.int m)))
def Knd (K : PySem.W.Frag) (H : Hp) (x : V) : Prop := (∃ i, x = .int i) ∨ (∃ b, x = .bl b) ∨ x = .non ∨ (∃ z, x = .str z) ∨ ∃ a o, x = .ref a ∧ H a = some o ∧ ((∃ xs, o = .lst xs) ∨ (∃ xs, o = .tup xs) ∨ ∃ dx fs, o = .ins (He.ga K "Run") dx fs)
def isW : V → Bool
  | .int _ => true
  | _ => false
def sp_is_integer (K : PySem.W.Frag) : Sp := fun vs H Q _ => ∃ x, vs = [x] ∧ Knd K H x ∧ Q (.bl (isW x)) H
def sp_is_from_to (K : PySem.W.Frag) : Sp := fun vs H Q _ => ∃ n lo hi : Int, vs = [.int n, .int lo, .int hi] ∧ lo ≤ n ∧ n ≤ hi ∧ Q (.bl true) H
def sp_Run___init__ (K : PySem.W.Frag) : Sp := fun vs H Q _ => ∃ (x dx : Addr) (f m : Int), vs = [.ref x, .int f, .int m] ∧ H x = some (.ins (He.ga K "Run") dx []) ∧ RunOk f m ∧ Q .non (upd H x (.ins (He.ga K "Run") dx (fs_Run (.int f) (.int m))))
def sp_Run_end (K : PySem.W.Frag) : Sp := fun vs H Q _ => ∃ (r : Addr) (f m : Int), vs = [.ref r] ∧ RunAt K H r f m ∧ Q (.int (f + m)) H
/-- what == of a run answers -/
def eqRun (K : PySem.W.Frag) (H : Hp) (f m : Int) : V → Bool
  | .ref b => (match H b with
    | some (.ins C _ fs) => decide (C = He.ga K "Run" ∧ fs = fs_Run (.int f) (.int m))
    | _ => false)
  | _ => false
def RunKnd (K : PySem.W.Frag) (H : Hp) (x : V) : Prop := (∃ i, x = .int i) ∨ (∃ b, x = .bl b) ∨ x = .non ∨ (∃ z, x = .str z) ∨ (∃ a xs, x = .ref a ∧ H a = some (.lst xs)) ∨ (∃ a xs, x = .ref a ∧ H a = some (.tup xs)) ∨ ∃ a f m, x = .ref a ∧ RunAt K H a f m
def sp_Run_words_ : Unit := ()
def sp_Run_touched (K : PySem.W.Frag) : Sp := fun vs H Q _ => ∃ (r : Addr) (f m z : Int), vs = [.ref r, .int z] ∧ RunAt K H r f m ∧ RunOk f m ∧ (z = 2 ∨ z = 4) ∧ ∀ r' H', H r' = none → Same H H' → RunAt K H' r' (f / z) ((f + m - 1) / z - f / z + 1) → Q (.ref r') H'
def sp_Run_touched_lines (K : PySem.W.Frag) : Sp := fun vs H Q _ => ∃ (r : Addr) (f m : Int), vs = [.ref r] ∧ RunAt K H r f m ∧ RunOk f m ∧ ∀ r' H', H r' = none → Same H H' → RunAt K H' r' (f / 2) ((f + m - 1) / 2 - f / 2 + 1) → Q (.ref r') H'
def sp_Run_touched_pages (K : PySem.W.Frag) : Sp := fun vs H Q _ => ∃ (r : Addr) (f m : Int), vs = [.ref r] ∧ RunAt K H r f m ∧ RunOk f m ∧ ∀ r' H', H r' = none → Same H H' → RunAt K H' r' (f / 4) ((f + m - 1) / 4 - f / 4 + 1) → Q (.ref r') H'
def sp_Run_of_page (K : PySem.W.Frag) : Sp := fun vs H Q _ => ∃ p : Int, vs = [.int p] ∧ 0 ≤ p ∧ p ≤ 250000000000 ∧ ∀ r' H', H r' = none → Same H H' → RunAt K H' r' (p * 4) 4 → Q (.ref r') H'
def sp_Run_between (K : PySem.W.Frag) : Sp := fun vs H Q _ => ∃ f e : Int, vs = [.ref (He.ga K "Run"), .int f, .int e] ∧ RunOk f (e - f) ∧ ∀ r' H', H r' = none → Same H H' → RunAt K H' r' f (e - f) → Q (.ref r') H'
def sp_Run___len__ (K : PySem.W.Frag) : Sp := fun vs H Q _ => ∃ (r : Addr) (f m : Int), vs = [.ref r] ∧ RunAt K H r f m ∧ RunOk f m ∧ Q (.int m) H
def sp_Run___eq__ (K : PySem.W.Frag) : Sp := fun vs H Q _ => ∃ (r : Addr) (f m : Int) (y : V), vs = [.ref r, y] ∧ RunAt K H r f m ∧ RunKnd K H y ∧ Q (.bl (eqRun K H f m y)) H
def imax (a b : Int) : Int := if b > a then b else a
def imin (a b : Int) : Int := if b < a then b else a
def sp_Run___and__ (K : PySem.W.Frag) : Sp := fun vs H Q _ => ∃ (r s : Addr) (f m g n : Int), vs = [.ref r, .ref s] ∧ RunAt K H r f m ∧ RunAt K H s g n ∧ RunOk f m ∧ RunOk g n ∧
  (imax f g < imin (f + m) (g + n) → ∀ r' H', H r' = none → Same H H' → RunAt K H' r' (imax f g) (imin (f + m) (g + n) - imax f g) → Q (.ref r') H') ∧ (¬ imax f g < imin (f + m) (g + n) → Q .non H)
theorem ln_sp_is_integer {K : PySem.W.Frag} (vs : List V) (H : Hp) (Q : VK) (E : XK) (h : sp_is_integer K vs H Q E) : vs.length = 1 := by obtain ⟨x, rfl, _⟩ := h; rfl
theorem ln_sp_is_from_to {K : PySem.W.Frag} (vs : List V) (H : Hp) (Q : VK) (E : XK) (h : sp_is_from_to K vs H Q E) : vs.length = 3 := by obtain ⟨n, a, b, rfl, _⟩ := h; rfl
theorem ln_sp_Run___init__ {K : PySem.W.Frag} (vs : List V) (H : Hp) (Q : VK) (E : XK) (h : sp_Run___init__ K vs H Q E) : vs.length = 3 := by obtain ⟨x, dx, f, m, rfl, _⟩ := h; rfl
theorem ln_sp_Run_end {K : PySem.W.Frag} (vs : List V) (H : Hp) (Q : VK) (E : XK) (h : sp_Run_end K vs H Q E) : vs.length = 1 := by obtain ⟨r, f, m, rfl, _⟩ := h; rfl
theorem ln_sp_Run_touched {K : PySem.W.Frag} (vs : List V) (H : Hp) (Q : VK) (E : XK) (h : sp_Run_touched K vs H Q E) : vs.length = 2 := by obtain ⟨r, f, m, z, rfl, _⟩ := h; rfl
theorem ln_sp_Run_touched_lines {K : PySem.W.Frag} (vs : List V) (H : Hp) (Q : VK) (E : XK) (h : sp_Run_touched_lines K vs H Q E) : vs.length = 1 := by obtain ⟨r, f, m, rfl, _⟩ := h; rfl
theorem ln_sp_Run_touched_pages {K : PySem.W.Frag} (vs : List V) (H : Hp) (Q : VK) (E : XK) (h : sp_Run_touched_pages K vs H Q E) : vs.length = 1 := by obtain ⟨r, f, m, rfl, _⟩ := h; rfl
theorem ln_sp_Run_of_page {K : PySem.W.Frag} (vs : List V) (H : Hp) (Q : VK) (E : XK) (h : sp_Run_of_page K vs H Q E) : vs.length = 1 := by obtain ⟨p, rfl, _⟩ := h; rfl
theorem ln_sp_Run_between {K : PySem.W.Frag} (vs : List V) (H : Hp) (Q : VK) (E : XK) (h : sp_Run_between K vs H Q E) : vs.length = 3 := by obtain ⟨f, e, rfl, _⟩ := h; rfl
theorem ln_sp_Run___len__ {K : PySem.W.Frag} (vs : List V) (H : Hp) (Q : VK) (E : XK) (h : sp_Run___len__ K vs H Q E) : vs.length = 1 := by obtain ⟨r, f, m, rfl, _⟩ := h; rfl
theorem ln_sp_Run___eq__ {K : PySem.W.Frag} (vs : List V) (H : Hp) (Q : VK) (E : XK) (h : sp_Run___eq__ K vs H Q E) : vs.length = 2 := by obtain ⟨r, f, m, y, rfl, _⟩ := h; rfl
theorem ln_sp_Run___and__ {K : PySem.W.Frag} (vs : List V) (H : Hp) (Q : VK) (E : XK) (h : sp_Run___and__ K vs H Q E) : vs.length = 2 := by obtain ⟨r, s, f, m, g, n, rfl, _⟩ := h; rfl
/-! ### segments, plainly -/
def okB (bd : Option Int) (f w : Int) : Bool := match bd with
  | none => true
  | some b => decide (f / b = w / b)
def stepS (most : Int) (bd : Option Int) (F : List (Int × Int)) (w : Int) : List (Int × Int) := match F.getLast? with
  | none => [(w, 1)]
  | some p => if (p.1 + p.2 = w ∧ p.2 < most) ∧ okB bd p.1 w = true then F.dropLast ++ [(p.1, p.2 + 1)] else F ++ [(w, 1)]
def segs (most : Int) (bd : Option Int) (ws : List Int) : List (Int × Int) := ws.foldl (stepS most bd) []
def rgI (f : Int) (n : Nat) : List Int := (List.range n).map fun i : Nat => f + (i : Int)
def wordsOf (R : List (Int × Int)) : List Int := R.flatMap fun p => rgI p.1 p.2.toNat
def BdOk (bd : Option Int) : Prop := ∀ b, bd = some b → 0 < b ∧ b < 1073741824
/-- whether a row of words is allowed -/
def alB (most : Int) (bd : Option Int) (ws : List Int) : Bool := decide ((ws.length : Int) ≤ most) && (decide (ws = rgI (ws.headD 0) ws.length) && okB bd (ws.headD 0) (ws.getLastD 0))

def bdV : Option Int → V
  | none => .non
  | some b => .int b
def RunsAt (K : PySem.W.Frag) (H : Hp) (l : Addr) (hs : List (Int × Int)) : Prop := ∃ G : List (Addr × Int × Int), H l = some (.lst (G.map fun e => V.ref e.1)) ∧ (∀ e ∈ G, RunAt K H e.1 e.2.1 e.2.2) ∧ G.map (·.2) = hs
def ROk (R : List (Int × Int)) : Prop := ∀ p ∈ R, 0 ≤ p.1 ∧ 1 ≤ p.2 ∧ p.1 + p.2 ≤ 1000000
/-- a list of pairs -/
def TsAt (H : Hp) (l : Addr) (ss : List (Int × Int)) : Prop := ∃ ts : List (Addr × Int × Int), H l = some (.lst (ts.map fun e => V.ref e.1)) ∧ (∀ e ∈ ts, H e.1 = some (.tup [.int e.2.1, .int e.2.2])) ∧ ts.map (·.2) = ss
def sp_segments (K : PySem.W.Frag) : Sp := fun vs H Q _ => ∃ (a : Addr) (R : List (Int × Int)) (most : Int) (bd : Option Int), vs = [.ref a, .int most, bdV bd] ∧ RunsAt K H a R ∧ ROk R ∧ (wordsOf R).length ≤ 100000 ∧ 1 ≤ most ∧ BdOk bd ∧
  ∀ l H', H l = none → Same H H' → RunsAt K H' l (segs most bd (wordsOf R)) → Q (.ref l) H'
theorem ln_sp_segments {K : PySem.W.Frag} (vs : List V) (H : Hp) (Q : VK) (E : XK) (h : sp_segments K vs H Q E) : vs.length = 3 := by obtain ⟨a, R, m, bd, rfl, _⟩ := h; rfl
def sp_L_words (K : PySem.W.Frag) : Sp := fun vs H Q _ => ∃ (a : Addr) (R : List (Int × Int)), vs = [.ref a] ∧ RunsAt K H a R ∧ ROk R ∧ (wordsOf R).length ≤ 100000 ∧ ∀ l H', H l = none → Same H H' → H' l = some (.lst ((wordsOf R).map V.int)) → Q (.ref l) H'
theorem ln_sp_L_words {K : PySem.W.Frag} (vs : List V) (H : Hp) (Q : VK) (E : XK) (h : sp_L_words K vs H Q E) : vs.length = 1 := by obtain ⟨a, R, rfl, _⟩ := h; rfl
def runText (f m : Int) : Str := ((((Str.empty ++ "Run(") ++ toString f) ++ ", ") ++ toString m) ++ ")"
def sp_Run___repr__ (K : PySem.W.Frag) : Sp := fun vs H Q _ => ∃ (r : Addr) (f m : Int), vs = [.ref r] ∧ RunAt K H r f m ∧ RunOk f m ∧ Q (.str (runText f m)) H
theorem ln_sp_Run___repr__ {K : PySem.W.Frag} (vs : List V) (H : Hp) (Q : VK) (E : XK) (h : sp_Run___repr__ K vs H Q E) : vs.length = 1 := by obtain ⟨r, f, m, rfl, _⟩ := h; rfl
def sp_L_runs (K : PySem.W.Frag) : Sp := fun vs H Q _ => ∃ (b : Addr) (o : HO) (n r z : Int), vs = [.ref b, .int r, .int z] ∧ H b = some o ∧ BagO o n ∧ n ≤ 500000 ∧ 1 ≤ r ∧ r ≤ 40 ∧ 1 ≤ z ∧ z ≤ 60 ∧ ∀ l H' o' R, H l = none → Grow b H H' → H' b = some o' → BagO o' (n + 200) → TsAt H' l R → R.length ≤ 40 → (∀ p ∈ R, 0 ≤ p.1 ∧ p.1 ≤ 5000 ∧ 1 ≤ p.2 ∧ p.2 ≤ 60) → Q (.ref l) H'
theorem ln_sp_L_runs {K : PySem.W.Frag} (vs : List V) (H : Hp) (Q : VK) (E : XK) (h : sp_L_runs K vs H Q E) : vs.length = 3 := by obtain ⟨b, o, n, r, z, rfl, _⟩ := h; rfl
def sp_L_cut (K : PySem.W.Frag) : Sp := fun vs H Q _ => ∃ (l : Addr) (ws : List Int) (most : Int) (bd : Option Int), vs = [.ref l, .int most, bdV bd] ∧ H l = some (.lst (ws.map V.int)) ∧ ws.length ≤ 100000 ∧ (∀ w ∈ ws, 0 ≤ w ∧ w ≤ 1000000) ∧ 1 ≤ most ∧ most ≤ 1000000 ∧ BdOk bd ∧ ∀ p H', H p = none → Same H H' → TsAt H' p (segs most bd ws) → Q (.ref p) H'
theorem ln_sp_L_cut {K : PySem.W.Frag} (vs : List V) (H : Hp) (Q : VK) (E : XK) (h : sp_L_cut K vs H Q E) : vs.length = 3 := by obtain ⟨l, ws, m, bd, rfl, _⟩ := h; rfl
def sp_law (K : PySem.W.Frag) : Sp := fun vs H Q _ => ∃ (a : Addr) (ns : List Int), vs = [.ref a] ∧ SqL K H a (ns.map V.int) ∧ ns.length ≤ 63 ∧ Only H ∧ ∀ H', Q (.bl true) H'
theorem ln_sp_law {K : PySem.W.Frag} (vs : List V) (H : Hp) (Q : VK) (E : XK) (h : sp_law K vs H Q E) : vs.length = 1 := by obtain ⟨a, ns, rfl, _⟩ := h; rfl

def t_is_integer_1 (K : PySem.W.Frag) : TS := (tRet (zAnd (tCB (yIsi K) (tCons (zV 0) (tCons (tC (.ty "int")) tNil))) (zNot (tCB (yIsi K) (tCons (zV 0) (tCons (tC (.ty "bool")) tNil))))))
def t_is_integer (K : PySem.W.Frag) : TS := (t_is_integer_1 K)
def t_is_from_to_1 (K : PySem.W.Frag) : TS := (tRet (zAnd (tCall (sp_is_integer K) [] C8.E0 (tCons (zV 0) tNil)) (zChain yLe yLe (zV 1) (zV 0) (zV 2))))
def t_is_from_to (K : PySem.W.Frag) : TS := (t_is_from_to_1 K)
def t_Run___init___1t_1 (K : PySem.W.Frag) : TS := zNever
def t_Run___init___1 (K : PySem.W.Frag) : TS := (tIfS (tOr (tNot (zB (tCall (sp_is_from_to K) [] C8.E0 (tCons (zV 1) (tCons (tC (.int 0)) (tCons (tC (.int 1000000000000)) tNil)))))) (tNot (zB (tCall (sp_is_from_to K) [] C8.E0 (tCons (zV 2) (tCons (tC (.int 1)) (tCons (tC (.int 1000000000000)) tNil))))))) (t_Run___init___1t_1 K) tNext)
def t_Run___init___2 (K : PySem.W.Frag) : TS := (zSetF K (zV 0) (zV 1) "first")
def t_Run___init___3 (K : PySem.W.Frag) : TS := (zSetF K (zV 0) (zV 2) "many")
def t_Run___init__ (K : PySem.W.Frag) : TS := (tSeq (t_Run___init___1 K) (tSeq (t_Run___init___2 K) (t_Run___init___3 K)))
def t_Run_end_1 (K : PySem.W.Frag) : TS := (tRet (tOp yAdd (zFld K (zV 0) "first") (zFld K (zV 0) "many")))
def t_Run_end (K : PySem.W.Frag) : TS := (t_Run_end_1 K)
def t_Run___eq___1 (K : PySem.W.Frag) : TS := (tRet (zAnd (tCB (yIsi K) (tCons (zV 1) (tCons (tC (.ref (He.ga K "Run"))) tNil))) (zAnd (tOp (yEq K) (zFld K (zV 0) "first") (zFld K (zV 1) "first")) (tOp (yEq K) (zFld K (zV 0) "many") (zFld K (zV 1) "many")))))
def t_Run___eq__ (K : PySem.W.Frag) : TS := (t_Run___eq___1 K)
def t_Run___repr___1 (K : PySem.W.Frag) : TS := (tRet (zJoin [(tC (.str "Run(")), (zFmt (zFld K (zV 0) "first")), (tC (.str ", ")), (zFmt (zFld K (zV 0) "many")), (tC (.str ")"))]))
def t_Run___repr__ (K : PySem.W.Frag) : TS := (t_Run___repr___1 K)
def ti_Run_words (K : PySem.W.Frag) : TI := (iR2 (zFld K (zV 0) "first") (zProp (He.ga K "Run") (sp_Run_end K) [] C8.E0 (zV 0)))
def t_segments_1 (K : PySem.W.Frag) : TS := (tAsg (tLst tNil) (gName 3))
def t_segments_2b_1b_1 (K : PySem.W.Frag) : TS := (tAsg (zAnd (tOp (yNe0 K) (zV 3) (tLst tNil)) (zAnd (tOp (yEq K) (tCB (rSum K) (tCons (tOp (yIx K) (zV 3) (tUn yNeg (tC (.int 1)))) tNil)) (zV 5)) (tOp yLt (tOp (yIx K) (tOp (yIx K) (zV 3) (tUn yNeg (tC (.int 1)))) (tC (.int 1))) (zV 1)))) (gName 6))
def t_segments_2b_1b_2t_1 (K : PySem.W.Frag) : TS := (zAugS (tOp (yIx K) (zV 3) (tUn yNeg (tC (.int 1)))) (tC (.int 1)) (tC (.int 1)))
def t_segments_2b_1b_2f_1 (K : PySem.W.Frag) : TS := (tDrop (zLM yApp (zV 3) (tCons (tLst (tCons (zV 5) (tCons (tC (.int 1)) tNil))) tNil)))
def t_segments_2b_1b_2 (K : PySem.W.Frag) : TS := (tIfS (tAnd (zB (zV 6)) (tOr (zB (tOp yIs0 (zV 2) (tC .non))) (zB (tOp (yEq K) (tOp yDiv (tOp (yIx K) (tOp (yIx K) (zV 3) (tUn yNeg (tC (.int 1)))) (tC (.int 0))) (zV 2)) (tOp yDiv (zV 5) (zV 2)))))) (t_segments_2b_1b_2t_1 K) (t_segments_2b_1b_2f_1 K))
def t_segments_2b_1 (K : PySem.W.Frag) : TS := (GF.zForG (He.ga K "Run") "words" nm_Run_words (zV 4) (ti_Run_words K) (gName 5) (tSeq (t_segments_2b_1b_1 K) (t_segments_2b_1b_2 K)))
def t_segments_2 (K : PySem.W.Frag) : TS := (zForL K (zV 0) (gName 4) (t_segments_2b_1 K))
def t_segments_3 (K : PySem.W.Frag) : TS := (tRet (zLc (iL K (zV 3)) (gLst K 2 (gCons (gName 7) (gCons (gName 8) gNil))) tYes (tMake (He.ga K "Run") (sp_Run___init__ K) [] C8.E0 (tCons (zV 7) (tCons (zV 8) tNil))) [7, 8]))
def t_segments (K : PySem.W.Frag) : TS := (tSeq (t_segments_1 K) (tSeq (t_segments_2 K) (t_segments_3 K)))
def t_L_bag_1 (K : PySem.W.Frag) : TS := (tAsg (tIf (zB (tOp yLt (zV 1) (tCB (yLenS K) (tCons (zV 0) tNil)))) (tOp (rIxL K) (zV 0) (zV 1)) (tC (.int 0))) (gName 2))
def t_L_bag_2 (K : PySem.W.Frag) : TS := (tAsg (tIf (zB (tOp yGe (tCB yAbs (tCons (zV 2) tNil)) (tOp yPow (tC (.int 10)) (tC (.int 18))))) (tCB yAbs (tCons (zV 2) tNil)) (tC (.int 0))) (gName 3))
def t_L_bag_3 (K : PySem.W.Frag) : TS := (tRet (tLst (tCons (zV 3) (tCons (tOp yAdd (tOp yAdd (tOp yMul (tOp yMod (zV 2) (tOp yAdd (tOp yPow (tC (.int 10)) (tC (.int 18))) (tC (.int 9)))) (tC (.int 5))) (tOp yMul (tC (.int 7793)) (zV 1))) (tC (.int 613))) (tCons (tC (.int 0)) tNil)))))
def t_L_bag (K : PySem.W.Frag) : TS := (tSeq (t_L_bag_1 K) (tSeq (t_L_bag_2 K) (t_L_bag_3 K)))
def t_L_take_1t_1 (K : PySem.W.Frag) : TS := (tAsg (tOp yMod (tOp (yIx K) (zV 0) (tC (.int 0))) (zV 1)) (gName 3))
def t_L_take_1t_2 (K : PySem.W.Frag) : TS := (tAsg (tOp yDiv (tOp (yIx K) (zV 0) (tC (.int 0))) (zV 1)) (gSub (zV 0) (tC (.int 0)) ySet))
def t_L_take_1t_3 (K : PySem.W.Frag) : TS := (tRet (zV 3))
def t_L_take_1 (K : PySem.W.Frag) : TS := (tIfS (zB (tOp yGt (tOp (yIx K) (zV 0) (tC (.int 0))) (tC (.int 0)))) (tSeq (t_L_take_1t_1 K) (tSeq (t_L_take_1t_2 K) (t_L_take_1t_3 K))) tNext)
def t_L_take_2 (K : PySem.W.Frag) : TS := (tAsg (tOp yAdd (tOp (yIx K) (zV 0) (tC (.int 2))) (tC (.int 1))) (gSub (zV 0) (tC (.int 2)) ySet))
def t_L_take_3 (K : PySem.W.Frag) : TS := (tAsg (tOp yMod (tOp yPow (tOp yAdd (tOp (yIx K) (zV 0) (tC (.int 1))) (tOp yMul (tOp yMul (tC (.int 8081)) (tOp (yIx K) (zV 0) (tC (.int 2)))) (tOp (yIx K) (zV 0) (tC (.int 2))))) (tC (.int 3))) (tC (.int 2147483563))) (gName 2))
def t_L_take_4 (K : PySem.W.Frag) : TS := (tRet (tOp yMod (tOp yDiv (tOp yMod (tOp yMul (zV 2) (tOp yAdd (tOp yDiv (zV 2) (tC (.int 11))) (tOp yMul (tC (.int 3)) (tOp (yIx K) (zV 0) (tC (.int 2)))))) (tC (.int 2147483549))) (tC (.int 64))) (zV 1)))
def t_L_take (K : PySem.W.Frag) : TS := (tSeq (t_L_take_1 K) (tSeq (t_L_take_2 K) (tSeq (t_L_take_3 K) (t_L_take_4 K))))
def t_L_runs_1 (K : PySem.W.Frag) : TS := (tPar 4 5 (tCons (tLst tNil) (tCons (tCall (sp_L_take K) [] C8.E0 (tCons (zV 0) (tCons (tC (.int 20)) tNil))) tNil)))
def t_L_runs_2b_1 (K : PySem.W.Frag) : TS := (tAsg (tOp yAdd (tC (.int 1)) (tCall (sp_L_take K) [] C8.E0 (tCons (zV 0) (tCons (zV 2) tNil)))) (gName 6))
def t_L_runs_2b_2 (K : PySem.W.Frag) : TS := (tDrop (zLM yApp (zV 4) (tCons (tTup (tCons (zV 5) (tCons (zV 6) tNil))) tNil)))
def t_L_runs_2b_3 (K : PySem.W.Frag) : TS := (tAsg (tOp (yIx K) (tLst (tCons (tOp yAdd (zV 5) (zV 6)) (tCons (tOp yAdd (zV 5) (zV 6)) (tCons (tOp yAdd (tOp yAdd (tOp yAdd (zV 5) (zV 6)) (tC (.int 1))) (tCall (sp_L_take K) [] C8.E0 (tCons (zV 0) (tCons (tC (.int 4)) tNil)))) (tCons (tCall (sp_L_take K) [] C8.E0 (tCons (zV 0) (tCons (tC (.int 30)) tNil))) tNil))))) (tCall (sp_L_take K) [] C8.E0 (tCons (zV 0) (tCons (tC (.int 4)) tNil)))) (gName 5))
def t_L_runs_2 (K : PySem.W.Frag) : TS := (zForR1 (tCall (sp_L_take K) [] C8.E0 (tCons (zV 0) (tCons (zV 1) tNil))) (gName 3) (tSeq (t_L_runs_2b_1 K) (tSeq (t_L_runs_2b_2 K) (t_L_runs_2b_3 K))))
def t_L_runs_3 (K : PySem.W.Frag) : TS := (tRet (zV 4))
def t_L_runs (K : PySem.W.Frag) : TS := (tSeq (t_L_runs_1 K) (tSeq (t_L_runs_2 K) (t_L_runs_3 K)))
def t_L_words_1 (K : PySem.W.Frag) : TS := (tAsg (tLst tNil) (gName 1))
def t_L_words_2b_1 (K : PySem.W.Frag) : TS := (tAsg (tOp yAdd (zV 1) (GF.zListG (He.ga K "Run") "words" nm_Run_words (zV 2) (ti_Run_words K))) (gName 1))
def t_L_words_2 (K : PySem.W.Frag) : TS := (zForL K (zV 0) (gName 2) (t_L_words_2b_1 K))
def t_L_words_3 (K : PySem.W.Frag) : TS := (tRet (zV 1))
def t_L_words (K : PySem.W.Frag) : TS := (tSeq (t_L_words_1 K) (tSeq (t_L_words_2 K) (t_L_words_3 K)))
def t_L_cut_1 (K : PySem.W.Frag) : TS := (tPar 3 4 (tCons (tLst tNil) (tCons (tC (.int 0)) tNil)))
def t_L_cut_2b_1 (K : PySem.W.Frag) : TS := (tAsg (tOp yAdd (zV 4) (tC (.int 1))) (gName 5))
def t_L_cut_2b_2b_1t_1 (K : PySem.W.Frag) : TS := (tDrop (zLM yApp (zV 3) (tCons (tTup (tCons (tOp (yIx K) (zV 0) (zV 4)) (tCons (tOp ySub (zV 5) (zV 4)) tNil))) tNil)))
def t_L_cut_2b_2b_1t_2 (K : PySem.W.Frag) : TS := (tAsg (zV 5) (gName 4))
def t_L_cut_2b_2b_1 (K : PySem.W.Frag) : TS := (tIfS (tAnd (zB (tOp yNotIs0 (zV 2) (tC .non))) (zB (tOp (yNe K) (tOp yDiv (tOp (yIx K) (zV 0) (zV 5)) (zV 2)) (tOp yDiv (tOp (yIx K) (zV 0) (zV 4)) (zV 2))))) (tSeq (t_L_cut_2b_2b_1t_1 K) (t_L_cut_2b_2b_1t_2 K)) tNext)
def t_L_cut_2b_2b_2 (K : PySem.W.Frag) : TS := (tAsg (tOp yAdd (zV 5) (tC (.int 1))) (gName 5))
def t_L_cut_2b_2 (K : PySem.W.Frag) : TS := (tWhile (tAnd (zB (tOp yLt (zV 5) (tCB (yLen K) (tCons (zV 0) tNil)))) (tAnd (zB (tOp (yEq K) (tOp (yIx K) (zV 0) (zV 5)) (tOp ySub (tOp yAdd (tOp (yIx K) (zV 0) (zV 4)) (zV 5)) (zV 4)))) (zB (tOp yLt (tOp ySub (zV 5) (zV 4)) (zV 1))))) (tSeq (t_L_cut_2b_2b_1 K) (t_L_cut_2b_2b_2 K)))
def t_L_cut_2b_3 (K : PySem.W.Frag) : TS := (tDrop (zLM yApp (zV 3) (tCons (tTup (tCons (tOp (yIx K) (zV 0) (zV 4)) (tCons (tOp ySub (zV 5) (zV 4)) tNil))) tNil)))
def t_L_cut_2b_4 (K : PySem.W.Frag) : TS := (tAsg (zV 5) (gName 4))
def t_L_cut_2 (K : PySem.W.Frag) : TS := (tWhile (zB (tOp yLt (zV 4) (tCB (yLen K) (tCons (zV 0) tNil)))) (tSeq (t_L_cut_2b_1 K) (tSeq (t_L_cut_2b_2 K) (tSeq (t_L_cut_2b_3 K) (t_L_cut_2b_4 K)))))
def t_L_cut_3 (K : PySem.W.Frag) : TS := (tRet (zV 3))
def t_L_cut (K : PySem.W.Frag) : TS := (tSeq (t_L_cut_1 K) (tSeq (t_L_cut_2 K) (t_L_cut_3 K)))
def t_law_1b_1 (K : PySem.W.Frag) (gu : Addr → Bool) : TS := (tAsg (tCall (sp_L_bag K) [] C8.E0 (tCons (zV 0) (tCons (zV 1) tNil))) (gName 2))
def t_law_1b_2b_1 (K : PySem.W.Frag) (gu : Addr → Bool) : TS := (tPar 8 9 (tCons (tCall (sp_L_runs K) [] C8.E0 (tCons (zV 2) (tCons (tC (.int 10)) (tCons (tC (.int 9)) tNil)))) (tCons (tOp yAdd (tC (.int 1)) (tCall (sp_L_take K) [] C8.E0 (tCons (zV 2) (tCons (tC (.int 12)) tNil)))) tNil)))
def t_law_1b_2b_2 (K : PySem.W.Frag) (gu : Addr → Bool) : TS := (tAsg (tIf (zB (tOp yGt (tCall (sp_L_take K) [] C8.E0 (tCons (zV 2) (tCons (tC (.int 3)) tNil))) (tC (.int 0)))) (tOp yAdd (tC (.int 1)) (tCall (sp_L_take K) [] C8.E0 (tCons (zV 2) (tCons (tC (.int 9)) tNil)))) (tC .non)) (gName 4))
def t_law_1b_2b_3t_1 (K : PySem.W.Frag) (gu : Addr → Bool) : TS := (tPar 8 9 (tCons (tCall (sp_L_runs K) [] C8.E0 (tCons (zV 2) (tCons (tC (.int 34)) (tCons (tC (.int 60)) tNil)))) (tCons (tOp yAdd (tC (.int 1)) (tCall (sp_L_take K) [] C8.E0 (tCons (zV 2) (tCons (tOp (yIx K) (tLst (tCons (tC (.int 40)) (tCons (tC (.int 300)) (tCons (tC (.int 2000)) tNil)))) (tCall (sp_L_take K) [] C8.E0 (tCons (zV 2) (tCons (tC (.int 3)) tNil)))) tNil)))) tNil)))
def t_law_1b_2b_3t_2 (K : PySem.W.Frag) (gu : Addr → Bool) : TS := (tAsg (tOp (yIx K) (tLst (tCons (tOp yAdd (tC (.int 1)) (tCall (sp_L_take K) [] C8.E0 (tCons (zV 2) (tCons (tC (.int 200)) tNil)))) (tCons (tC (.int 64)) (tCons (tOp yPow (tC (.int 10)) (tC (.int 6))) (tCons (tC .non) tNil))))) (tCall (sp_L_take K) [] C8.E0 (tCons (zV 2) (tCons (tC (.int 4)) tNil)))) (gName 4))
def t_law_1b_2b_3 (K : PySem.W.Frag) (gu : Addr → Bool) : TS := (tIfS (zB (tOp (yEq K) (zV 3) (tC (.int 4)))) (tSeq (t_law_1b_2b_3t_1 K gu) (t_law_1b_2b_3t_2 K gu)) tNext)
def t_law_1b_2b_4 (K : PySem.W.Frag) (gu : Addr → Bool) : TS := (tAsg (zLc (iL K (zV 8)) (gTup K 2 (gCons (gName 12) (gCons (gName 13) gNil))) tYes (tMake (He.ga K "Run") (sp_Run___init__ K) [] C8.E0 (tCons (zV 12) (tCons (zV 13) tNil))) [12, 13]) (gName 5))
def t_law_1b_2b_5 (K : PySem.W.Frag) (gu : Addr → Bool) : TS := (tAsg (tCall (sp_L_words K) [] C8.E0 (tCons (zV 5) tNil)) (gName 6))
def t_law_1b_2b_6 (K : PySem.W.Frag) (gu : Addr → Bool) : TS := (tPar 10 11 (tCons (tCB (yReprL gu (He.ga K "Run") (sp_Run___repr__ K)) (tCons (zV 5) tNil)) (tCons (zLc (iL K (tCall (sp_L_cut K) [] C8.E0 (tCons (zV 6) (tCons (zV 9) (tCons (zV 4) tNil))))) (gTup K 2 (gCons (gName 12) (gCons (gName 13) gNil))) tYes (tMake (He.ga K "Run") (sp_Run___init__ K) [] C8.E0 (tCons (zV 12) (tCons (zV 13) tNil))) [12, 13]) tNil)))
def t_law_1b_2b_7 (K : PySem.W.Frag) (gu : Addr → Bool) : TS := (tAsg (tCallN 1 2 (sp_segments K) (fun us ws => us ++ (ws ++ ([] : List V))) C8.E0 (tCons (zV 5) tNil) (tCons (zV 9) (tCons (zV 4) tNil))) (gName 7))
def t_law_1b_2b_8t_1 (K : PySem.W.Frag) (gu : Addr → Bool) : TS := (tRet (tC (.bl false)))
def t_law_1b_2b_8 (K : PySem.W.Frag) (gu : Addr → Bool) : TS := (tIfS (tOr (tNot (zB (tCB (yIsi K) (tCons (zV 7) (tCons (tC (.ty "list")) tNil))))) (tOr (zB (tOp (yNeL (DOwn K (He.ga K "Run") (sp_Run___eq__ K))) (zV 7) (zV 11))) (zB (tOp (yNe K) (tCB (yReprL gu (He.ga K "Run") (sp_Run___repr__ K)) (tCons (zV 5) tNil)) (zV 10))))) (t_law_1b_2b_8t_1 K gu) tNext)
def t_law_1b_2b_9t_1 (K : PySem.W.Frag) (gu : Addr → Bool) : TS := (tRet (tC (.bl false)))
def t_law_1b_2b_9 (K : PySem.W.Frag) (gu : Addr → Bool) : TS := (tIfS (tAnd (zB (tOp yIs0 (zV 4) (tC .non))) (zB (tOp (yNeL (DOwn K (He.ga K "Run") (sp_Run___eq__ K))) (tCallN 1 1 (sp_segments K) (fun us ws => us ++ (ws ++ ([.non] : List V))) C8.E0 (tCons (zV 5) tNil) (tCons (zV 9) tNil)) (zV 11)))) (t_law_1b_2b_9t_1 K gu) tNext)
def t_law_1b_2 (K : PySem.W.Frag) (gu : Addr → Bool) : TS := (zForR1 (tIf (zB (tOp (yEq K) (zV 1) (tC (.int 0)))) (tC (.int 5)) (tC (.int 4))) (gName 3) (tSeq (t_law_1b_2b_1 K gu) (tSeq (t_law_1b_2b_2 K gu) (tSeq (t_law_1b_2b_3 K gu) (tSeq (t_law_1b_2b_4 K gu) (tSeq (t_law_1b_2b_5 K gu) (tSeq (t_law_1b_2b_6 K gu) (tSeq (t_law_1b_2b_7 K gu) (tSeq (t_law_1b_2b_8 K gu) (t_law_1b_2b_9 K gu))))))))))
def t_law_1 (K : PySem.W.Frag) (gu : Addr → Bool) : TS := (zForR1 (tCB yMax2 (tCons (tC (.int 2)) (tCons (tCB yMin2 (tCons (tC (.int 4)) (tCons (tCB (yLenS K) (tCons (zV 0) tNil)) tNil))) tNil))) (gName 1) (tSeq (t_law_1b_1 K gu) (t_law_1b_2 K gu)))
def t_law_2 (K : PySem.W.Frag) (gu : Addr → Bool) : TS := (tRet (tOp (yEq0 K) (tCallN 1 1 (sp_segments K) (fun us ws => us ++ (ws ++ ([.non] : List V))) C8.E0 (tCons (tLst tNil) tNil) (tCons (tC (.int 3)) tNil)) (tLst tNil)))
def t_law (K : PySem.W.Frag) (gu : Addr → Bool) : TS := (tSeq (t_law_1 K gu) (t_law_2 K gu))
structure Top (K : PySem.W.Frag) (mg : Str → Option Value) : Prop where
  g_law : mg "law" = some (.ref (He.ga K "law"))
  g_is_integer : mg "is_integer" = some (.ref (He.ga K "is_integer"))
  g_is_from_to : mg "is_from_to" = some (.ref (He.ga K "is_from_to"))
  g_segments : mg "segments" = some (.ref (He.ga K "segments"))
  g_L_bag : mg "_law_bag" = some (.ref (He.ga K "_law_bag"))
  g_L_take : mg "_law_take" = some (.ref (He.ga K "_law_take"))
  g_L_runs : mg "_law_runs" = some (.ref (He.ga K "_law_runs"))
  g_L_words : mg "_law_words" = some (.ref (He.ga K "_law_words"))
  g_L_cut : mg "_law_cut" = some (.ref (He.ga K "_law_cut"))
  f_len : mg "len" = none
  f_abs : mg "abs" = none
  f_max : mg "max" = none
  f_min : mg "min" = none
  f_range : mg "range" = none
  f_isinstance : mg "isinstance" = none
  f_int : mg "int" = none
  f_bool : mg "bool" = none
  f_list : mg "list" = none
  f_sum : mg "sum" = none
  f_repr : mg "repr" = none
  g_MOST : ∃ u, mg "MOST" = some u ∧ RelV (.int 1000000000000) u
  m_Run : mg "Run" = some (.ref (He.ga K "Run"))
  cl_Run : Cls K (He.ga K "Run")
  na_Run_first : NoAttr K (He.ga K "Run") "first"
  na_Run_many : NoAttr K (He.ga K "Run") "many"
  mk_Run : Mk K (He.ga K "Run") (He.ma K (He.ga K "Run") "__init__")
  pr_Run_end : PropOf K (He.ga K "Run") "end" (He.ma K (He.ga K "Run") "end") (Hk.prG "Run" "end" K)
  me_Run___eq__ : Meth K (He.ga K "Run") "__eq__" (He.ma K (He.ga K "Run") "__eq__")
  me_Run___repr__ : Meth K (He.ga K "Run") "__repr__" (He.ma K (He.ga K "Run") "__repr__")
  me_Run_words : Meth K (He.ga K "Run") "words" (He.ma K (He.ga K "Run") "words")
  i_Run : InsF K (He.ga K "Run")
  sf_Run : PySem.W.selfFirst K (He.ga K "Run") = true
  nf_Run_NoneType : PySem.W.notFirst K (He.ga K "Run") (.type "NoneType") = true
  kb_NoneType_Run : PySem.W.kitOne K (.type "NoneType") (.ref (He.ga K "Run")) = some false
  kb_int_Run : PySem.W.kitOne K (.type "int") (.ref (He.ga K "Run")) = some false
  kb_bool_Run : PySem.W.kitOne K (.type "bool") (.ref (He.ga K "Run")) = some false
  kb_str_Run : PySem.W.kitOne K (.type "str") (.ref (He.ga K "Run")) = some false
  kb_list_Run : PySem.W.kitOne K (.type "list") (.ref (He.ga K "Run")) = some false
  kb_tuple_Run : PySem.W.kitOne K (.type "tuple") (.ref (He.ga K "Run")) = some false
  ki_Run_int : PySem.W.kitOne K (.ref (He.ga K "Run")) (.type "int") = some false
  ki_Run_bool : PySem.W.kitOne K (.ref (He.ga K "Run")) (.type "bool") = some false
  ki_Run_Run : PySem.W.kitOne K (.ref (He.ga K "Run")) (.ref (He.ga K "Run")) = some true
  d_is_integer : Hk.FN K "is_integer" "is_integer" st_is_integer (He.ga K "is_integer")
  d_is_from_to : Hk.FN K "is_from_to" "is_from_to" st_is_from_to (He.ga K "is_from_to")
  d_Run___init__ : Hk.FN K "__init__" "Run.__init__" st_Run___init__ (He.ma K (He.ga K "Run") "__init__")
  d_Run_end : Hk.FN K "end" "Run.end" st_Run_end (Hk.prG "Run" "end" K)
  d_Run___eq__ : Hk.FN K "__eq__" "Run.__eq__" st_Run___eq__ (He.ma K (He.ga K "Run") "__eq__")
  d_Run___repr__ : Hk.FN K "__repr__" "Run.__repr__" st_Run___repr__ (He.ma K (He.ga K "Run") "__repr__")
  d_Run_words : Hk.FN K "words" "Run.words" st_Run_words (He.ma K (He.ga K "Run") "words")
  d_segments : ∃ fd, FunD K "segments" "segments" (defArgs st_segments) (defBody st_segments) (defScope st_segments) [] [(("boundary" : Str), (.non : V))] (He.ga K "segments") fd
  d_L_bag : Hk.FN K "_law_bag" "_law_bag" st_L_bag (He.ga K "_law_bag")
  d_L_take : Hk.FN K "_law_take" "_law_take" st_L_take (He.ga K "_law_take")
  d_L_runs : Hk.FN K "_law_runs" "_law_runs" st_L_runs (He.ga K "_law_runs")
  d_L_words : Hk.FN K "_law_words" "_law_words" st_L_words (He.ga K "_law_words")
  d_L_cut : Hk.FN K "_law_cut" "_law_cut" st_L_cut (He.ga K "_law_cut")
  d_law : Hk.FN K "law" "law" st_law (He.ga K "law")
theorem use_take {K : PySem.W.Frag} {H : Hp} {Q : VK} {E : XK} {b : Addr} {o : HO} {m n : Int} (hb : H b = some o) (ho : BagO o n) (hm : 0 < m) (hm2 : m < 1000000000) (hn : n ≤ 1000000) (k : ∀ d o', 0 ≤ d → d < m → BagO o' (n + 1) → Q (.int d) (upd H b o')) : sp_L_take K [.ref b, .int m] H Q E :=
  ⟨b, o, m, n, rfl, hb, ho, hm, hm2, hn, k⟩
theorem rd_L_take {K : PySem.W.Frag} {mg : Str → Option Value} (T : Top K mg) : ∀ vs H Q E, sp_L_take K vs H Q E → t_L_take K { nx := fun _ H' => Q .non H', rt := Q } (start nm_L_take vs) H := by
  rintro vs H Q E ⟨b, o, m, n, rfl, hb, ⟨L, M, c, rfl, h1, h2, h3, h4, h5⟩, hm, hm2, hn, k⟩
  rw [start_L_take]
  unfold t_L_take t_L_take_1
  simp only [tSeq, tAsg, tIfS, tRet, tRetN, tDrop, tNext, tPar, tPar3, gName, gSub, gTup, gCons, gNil, zV, tC, tOp, tUn, tCons, tNil, tLst, tTup, tIf, tAnd, tOr, tNot, tYes, zB, zAnd, zOr, zNot, zChain, tDNewK, yAdd, ySub, yMul, yDiv, yMod, yPow, yNeg, yLt, yLe, yGt, yGe, yEq, yNe, yIs0, yNotIs0, yIx, ySet, yIn, sqAt, isNone, zFld, zSetF, insAt, zMeth, zProp, tCall, tMake, tCB, yLen, yAbs, yMax2, yMin2, yList, yTuple, yDict0, zLM, yApp, isLst, dkAt, keyOf, zGet1, zGet2, zPop1, zPop2, zForR1, zForR2, zForL, zForT, Z.intAt, refAt, zLc, iR1, iR2, iL, iT, wipe, List.getElem?_cons_zero, List.getElem?_cons_succ, List.set_cons_zero, List.set_cons_succ, List.cons_append, List.nil_append, List.append_nil, upd_same, at0, at1, at2, ix0, ix1, ix2, upd_upd, ite_true, ite_false, if_true, if_false, Bool.false_eq_true, decide_true, decide_false, reduceIte, true_and, and_true, Option.isSome_none, Option.isSome_some, Bool.not_false, Bool.not_true, hb]
  by_cases hL : 0 < L
  · simp only [tSeq, tAsg, tIfS, tRet, tRetN, tDrop, tNext, tPar, tPar3, gName, gSub, gTup, gCons, gNil, zV, tC, tOp, tUn, tCons, tNil, tLst, tTup, tIf, tAnd, tOr, tNot, tYes, zB, zAnd, zOr, zNot, zChain, tDNewK, yAdd, ySub, yMul, yDiv, yMod, yPow, yNeg, yLt, yLe, yGt, yGe, yEq, yNe, yIs0, yNotIs0, yIx, ySet, yIn, sqAt, isNone, zFld, zSetF, insAt, zMeth, zProp, tCall, tMake, tCB, yLen, yAbs, yMax2, yMin2, yList, yTuple, yDict0, zLM, yApp, isLst, dkAt, keyOf, zGet1, zGet2, zPop1, zPop2, zForR1, zForR2, zForL, zForT, Z.intAt, refAt, zLc, iR1, iR2, iL, iT, wipe, List.getElem?_cons_zero, List.getElem?_cons_succ, List.set_cons_zero, List.set_cons_succ, List.cons_append, List.nil_append, List.append_nil, upd_same, at0, at1, at2, ix0, ix1, ix2, upd_upd, ite_true, ite_false, if_true, if_false, Bool.false_eq_true, decide_true, decide_false, reduceIte, true_and, and_true, Option.isSome_none, Option.isSome_some, Bool.not_false, Bool.not_true, hL, t_L_take_1t_1, t_L_take_1t_2, t_L_take_1t_3, hb]
    refine ⟨hm, ⟨hm, by omega⟩, ?_⟩
    exact k _ _ (Int.emod_nonneg _ (by omega)) (Int.emod_lt_of_pos _ hm) ⟨L / m, M, c, rfl, Int.ediv_nonneg h1 (by omega), h2, h3, h4, by omega⟩
  · simp only [tSeq, tAsg, tIfS, tRet, tRetN, tDrop, tNext, tPar, tPar3, gName, gSub, gTup, gCons, gNil, zV, tC, tOp, tUn, tCons, tNil, tLst, tTup, tIf, tAnd, tOr, tNot, tYes, zB, zAnd, zOr, zNot, zChain, tDNewK, yAdd, ySub, yMul, yDiv, yMod, yPow, yNeg, yLt, yLe, yGt, yGe, yEq, yNe, yIs0, yNotIs0, yIx, ySet, yIn, sqAt, isNone, zFld, zSetF, insAt, zMeth, zProp, tCall, tMake, tCB, yLen, yAbs, yMax2, yMin2, yList, yTuple, yDict0, zLM, yApp, isLst, dkAt, keyOf, zGet1, zGet2, zPop1, zPop2, zForR1, zForR2, zForL, zForT, Z.intAt, refAt, zLc, iR1, iR2, iL, iT, wipe, List.getElem?_cons_zero, List.getElem?_cons_succ, List.set_cons_zero, List.set_cons_succ, List.cons_append, List.nil_append, List.append_nil, upd_same, at0, at1, at2, ix0, ix1, ix2, upd_upd, ite_true, ite_false, if_true, if_false, Bool.false_eq_true, decide_true, decide_false, reduceIte, true_and, and_true, Option.isSome_none, Option.isSome_some, Bool.not_false, Bool.not_true, hL, t_L_take_2, t_L_take_3, t_L_take_4, hb]
    have q1 : (c + 1) * (c + 1) ≤ 1000001 * 1000001 := Int.mul_le_mul (by omega) (by omega) (by omega) (by omega)
    have q0 : 0 ≤ (c + 1) * (c + 1) := Int.mul_nonneg (by omega) (by omega)
    have e1 : 8081 * (c + 1) * (c + 1) = 8081 * ((c + 1) * (c + 1)) := Int.mul_assoc _ _ _
    have q2 : (M + 8081 * (c + 1) * (c + 1)).natAbs < 2 ^ 64 := by
      rw [e1]
      generalize (c + 1) * (c + 1) = z at q0 q1
      omega
    generalize M + 8081 * (c + 1) * (c + 1) = y at q2
    generalize hx : y ^ Int.toNat 3 % 2147483563 = x
    have x0 : 0 ≤ x := by rw [← hx]; exact Int.emod_nonneg _ (by decide)
    have x1 : x < 2147483563 := by rw [← hx]; exact Int.emod_lt_of_pos _ (by decide)
    refine ⟨.inl ⟨by decide, by decide⟩, .inr ⟨by omega, by omega⟩, ⟨by decide, by decide, q2⟩, by decide, ⟨by decide, by decide⟩, .inl ⟨by decide, by decide⟩, .inl ⟨by omega, by omega⟩, by decide, ⟨by decide, by decide⟩, hm, ?_⟩
    exact k _ _ (Int.emod_nonneg _ (by omega)) (Int.emod_lt_of_pos _ hm) ⟨L, M, c + 1, rfl, h1, h2, h3, by omega, by omega⟩
theorem rd_L_bag {K : PySem.W.Frag} {mg : Str → Option Value} (T : Top K mg) : ∀ vs H Q E, sp_L_bag K vs H Q E → t_L_bag K { nx := fun _ H' => Q .non H', rt := Q } (start nm_L_bag vs) H := by
  rintro vs H Q E ⟨a, i, ns, rfl, hS, h0, h1, k⟩
  rw [start_L_bag]
  have key : ∀ N : Int, t_L_bag_2 K { nx := t_L_bag_3 K { nx := fun x H' => Q V.non H', rt := Q }, rt := Q } [some (V.ref a), some (V.int i), some (V.int N), none] H := by
    intro N
    have key2 : ∀ L : Int, 0 ≤ L → t_L_bag_3 K { nx := fun x H' => Q V.non H', rt := Q } [some (V.ref a), some (V.int i), some (V.int N), some (V.int L)] H := by
      intro L hL
      unfold t_L_bag_3
      simp only [tSeq, tAsg, tIfS, tRet, tRetN, tDrop, tNext, tPar, tPar3, gName, gSub, gTup, gCons, gNil, zV, tC, tOp, tUn, tCons, tNil, tLst, tTup, tIf, tAnd, tOr, tNot, tYes, zB, zAnd, zOr, zNot, zChain, tDNewK, yAdd, ySub, yMul, yDiv, yMod, yPow, yNeg, yLt, yLe, yGt, yGe, yEq, yNe, yIs0, yNotIs0, yIx, ySet, yIn, sqAt, isNone, zFld, zSetF, insAt, zMeth, zProp, tCall, tMake, tCB, yLen, yAbs, yMax2, yMin2, yList, yTuple, yDict0, zLM, yApp, isLst, dkAt, keyOf, zGet1, zGet2, zPop1, zPop2, zForR1, zForR2, zForL, zForT, Z.intAt, refAt, zLc, iR1, iR2, iL, iT, wipe, List.getElem?_cons_zero, List.getElem?_cons_succ, List.set_cons_zero, List.set_cons_succ, List.cons_append, List.nil_append, List.append_nil, upd_same, at0, at1, at2, ix0, ix1, ix2, upd_upd, ite_true, ite_false, if_true, if_false, Bool.false_eq_true, decide_true, decide_false, reduceIte, true_and, and_true, Option.isSome_none, Option.isSome_some, Bool.not_false, Bool.not_true]
      have e0 : (10 : Int) ^ Int.toNat 18 = 1000000000000000000 := by decide
      rw [e0]
      have m0 : 0 ≤ N % (1000000000000000000 + 9) := Int.emod_nonneg _ (by decide)
      have m1 : N % (1000000000000000000 + 9) < 1000000000000000000 + 9 := Int.emod_lt_of_pos _ (by decide)
      refine ⟨⟨by decide, by decide, by decide⟩, by decide, .inr ⟨by decide, by decide⟩, .inl ⟨by decide, by decide⟩, by show 3 ≤ sizeLine; decide, fun p hp => ?_⟩
      exact k _ _ hp ⟨_, _, _, rfl, hL, by omega, by omega, by omega, by omega⟩
    unfold t_L_bag_2
    simp only [tSeq, tAsg, tIfS, tRet, tRetN, tDrop, tNext, tPar, tPar3, gName, gSub, gTup, gCons, gNil, zV, tC, tOp, tUn, tCons, tNil, tLst, tTup, tIf, tAnd, tOr, tNot, tYes, zB, zAnd, zOr, zNot, zChain, tDNewK, yAdd, ySub, yMul, yDiv, yMod, yPow, yNeg, yLt, yLe, yGt, yGe, yEq, yNe, yIs0, yNotIs0, yIx, ySet, yIn, sqAt, isNone, zFld, zSetF, insAt, zMeth, zProp, tCall, tMake, tCB, yLen, yAbs, yMax2, yMin2, yList, yTuple, yDict0, zLM, yApp, isLst, dkAt, keyOf, zGet1, zGet2, zPop1, zPop2, zForR1, zForR2, zForL, zForT, Z.intAt, refAt, zLc, iR1, iR2, iL, iT, wipe, List.getElem?_cons_zero, List.getElem?_cons_succ, List.set_cons_zero, List.set_cons_succ, List.cons_append, List.nil_append, List.append_nil, upd_same, at0, at1, at2, ix0, ix1, ix2, upd_upd, ite_true, ite_false, if_true, if_false, Bool.false_eq_true, decide_true, decide_false, reduceIte, true_and, and_true, Option.isSome_none, Option.isSome_some, Bool.not_false, Bool.not_true]
    have e0 : (10 : Int) ^ Int.toNat 18 = 1000000000000000000 := by decide
    rw [e0]
    refine ⟨⟨by decide, by decide, by decide⟩, ?_⟩
    have hz : 0 ≤ (if N < 0 then -N else N) := by split <;> omega
    by_cases hN : (1000000000000000000 : Int) ≤ (if N < 0 then -N else N)
    · rw [decide_eq_true hN]
      simp only [tSeq, tAsg, tIfS, tRet, tRetN, tDrop, tNext, tPar, tPar3, gName, gSub, gTup, gCons, gNil, zV, tC, tOp, tUn, tCons, tNil, tLst, tTup, tIf, tAnd, tOr, tNot, tYes, zB, zAnd, zOr, zNot, zChain, tDNewK, yAdd, ySub, yMul, yDiv, yMod, yPow, yNeg, yLt, yLe, yGt, yGe, yEq, yNe, yIs0, yNotIs0, yIx, ySet, yIn, sqAt, isNone, zFld, zSetF, insAt, zMeth, zProp, tCall, tMake, tCB, yLen, yAbs, yMax2, yMin2, yList, yTuple, yDict0, zLM, yApp, isLst, dkAt, keyOf, zGet1, zGet2, zPop1, zPop2, zForR1, zForR2, zForL, zForT, Z.intAt, refAt, zLc, iR1, iR2, iL, iT, wipe, List.getElem?_cons_zero, List.getElem?_cons_succ, List.set_cons_zero, List.set_cons_succ, List.cons_append, List.nil_append, List.append_nil, upd_same, at0, at1, at2, ix0, ix1, ix2, upd_upd, ite_true, ite_false, if_true, if_false, Bool.false_eq_true, decide_true, decide_false, reduceIte, true_and, and_true, Option.isSome_none, Option.isSome_some, Bool.not_false, Bool.not_true]
      exact key2 _ hz
    · rw [decide_eq_false hN]
      simp only [tSeq, tAsg, tIfS, tRet, tRetN, tDrop, tNext, tPar, tPar3, gName, gSub, gTup, gCons, gNil, zV, tC, tOp, tUn, tCons, tNil, tLst, tTup, tIf, tAnd, tOr, tNot, tYes, zB, zAnd, zOr, zNot, zChain, tDNewK, yAdd, ySub, yMul, yDiv, yMod, yPow, yNeg, yLt, yLe, yGt, yGe, yEq, yNe, yIs0, yNotIs0, yIx, ySet, yIn, sqAt, isNone, zFld, zSetF, insAt, zMeth, zProp, tCall, tMake, tCB, yLen, yAbs, yMax2, yMin2, yList, yTuple, yDict0, zLM, yApp, isLst, dkAt, keyOf, zGet1, zGet2, zPop1, zPop2, zForR1, zForR2, zForL, zForT, Z.intAt, refAt, zLc, iR1, iR2, iL, iT, wipe, List.getElem?_cons_zero, List.getElem?_cons_succ, List.set_cons_zero, List.set_cons_succ, List.cons_append, List.nil_append, List.append_nil, upd_same, at0, at1, at2, ix0, ix1, ix2, upd_upd, ite_true, ite_false, if_true, if_false, Bool.false_eq_true, decide_true, decide_false, reduceIte, true_and, and_true, Option.isSome_none, Option.isSome_some, Bool.not_false, Bool.not_true]
      exact key2 _ (by decide)
  unfold t_L_bag t_L_bag_1
  simp only [tSeq, tAsg, tIfS, tRet, tRetN, tDrop, tNext, tPar, tPar3, gName, gSub, gTup, gCons, gNil, zV, tC, tOp, tUn, tCons, tNil, tLst, tTup, tIf, tAnd, tOr, tNot, tYes, zB, zAnd, zOr, zNot, zChain, tDNewK, yAdd, ySub, yMul, yDiv, yMod, yPow, yNeg, yLt, yLe, yGt, yGe, yEq, yNe, yIs0, yNotIs0, yIx, ySet, yIn, sqAt, isNone, zFld, zSetF, insAt, zMeth, zProp, tCall, tMake, tCB, yLen, yAbs, yMax2, yMin2, yList, yTuple, yDict0, zLM, yApp, isLst, dkAt, keyOf, zGet1, zGet2, zPop1, zPop2, zForR1, zForR2, zForL, zForT, Z.intAt, refAt, zLc, iR1, iR2, iL, iT, wipe, List.getElem?_cons_zero, List.getElem?_cons_succ, List.set_cons_zero, List.set_cons_succ, List.cons_append, List.nil_append, List.append_nil, upd_same, at0, at1, at2, ix0, ix1, ix2, upd_upd, ite_true, ite_false, if_true, if_false, Bool.false_eq_true, decide_true, decide_false, reduceIte, true_and, and_true, Option.isSome_none, Option.isSome_some, Bool.not_false, Bool.not_true]
  refine ⟨a, _, rfl, hS, ?_⟩
  simp only [tSeq, tAsg, tIfS, tRet, tRetN, tDrop, tNext, tPar, tPar3, gName, gSub, gTup, gCons, gNil, zV, tC, tOp, tUn, tCons, tNil, tLst, tTup, tIf, tAnd, tOr, tNot, tYes, zB, zAnd, zOr, zNot, zChain, tDNewK, yAdd, ySub, yMul, yDiv, yMod, yPow, yNeg, yLt, yLe, yGt, yGe, yEq, yNe, yIs0, yNotIs0, yIx, ySet, yIn, sqAt, isNone, zFld, zSetF, insAt, zMeth, zProp, tCall, tMake, tCB, yLen, yAbs, yMax2, yMin2, yList, yTuple, yDict0, zLM, yApp, isLst, dkAt, keyOf, zGet1, zGet2, zPop1, zPop2, zForR1, zForR2, zForL, zForT, Z.intAt, refAt, zLc, iR1, iR2, iL, iT, wipe, List.getElem?_cons_zero, List.getElem?_cons_succ, List.set_cons_zero, List.set_cons_succ, List.cons_append, List.nil_append, List.append_nil, upd_same, at0, at1, at2, ix0, ix1, ix2, upd_upd, ite_true, ite_false, if_true, if_false, Bool.false_eq_true, decide_true, decide_false, reduceIte, true_and, and_true, Option.isSome_none, Option.isSome_some, Bool.not_false, Bool.not_true]
  by_cases hi : i < ((ns.map V.int).length : Int)
  · rw [decide_eq_true hi]
    simp only [tSeq, tAsg, tIfS, tRet, tRetN, tDrop, tNext, tPar, tPar3, gName, gSub, gTup, gCons, gNil, zV, tC, tOp, tUn, tCons, tNil, tLst, tTup, tIf, tAnd, tOr, tNot, tYes, zB, zAnd, zOr, zNot, zChain, tDNewK, yAdd, ySub, yMul, yDiv, yMod, yPow, yNeg, yLt, yLe, yGt, yGe, yEq, yNe, yIs0, yNotIs0, yIx, ySet, yIn, sqAt, isNone, zFld, zSetF, insAt, zMeth, zProp, tCall, tMake, tCB, yLen, yAbs, yMax2, yMin2, yList, yTuple, yDict0, zLM, yApp, isLst, dkAt, keyOf, zGet1, zGet2, zPop1, zPop2, zForR1, zForR2, zForL, zForT, Z.intAt, refAt, zLc, iR1, iR2, iL, iT, wipe, List.getElem?_cons_zero, List.getElem?_cons_succ, List.set_cons_zero, List.set_cons_succ, List.cons_append, List.nil_append, List.append_nil, upd_same, at0, at1, at2, ix0, ix1, ix2, upd_upd, ite_true, ite_false, if_true, if_false, Bool.false_eq_true, decide_true, decide_false, reduceIte, true_and, and_true, Option.isSome_none, Option.isSome_some, Bool.not_false, Bool.not_true]
    have hl : i.toNat < ns.length := by rw [List.length_map] at hi; omega
    exact ⟨a, _, i, .int ns[i.toNat], rfl, rfl, hS, at_of (j := i.toNat) (by omega) (by rw [List.getElem?_map, List.getElem?_eq_getElem hl]; rfl), key _⟩
  · rw [decide_eq_false hi]
    simp only [tSeq, tAsg, tIfS, tRet, tRetN, tDrop, tNext, tPar, tPar3, gName, gSub, gTup, gCons, gNil, zV, tC, tOp, tUn, tCons, tNil, tLst, tTup, tIf, tAnd, tOr, tNot, tYes, zB, zAnd, zOr, zNot, zChain, tDNewK, yAdd, ySub, yMul, yDiv, yMod, yPow, yNeg, yLt, yLe, yGt, yGe, yEq, yNe, yIs0, yNotIs0, yIx, ySet, yIn, sqAt, isNone, zFld, zSetF, insAt, zMeth, zProp, tCall, tMake, tCB, yLen, yAbs, yMax2, yMin2, yList, yTuple, yDict0, zLM, yApp, isLst, dkAt, keyOf, zGet1, zGet2, zPop1, zPop2, zForR1, zForR2, zForL, zForT, Z.intAt, refAt, zLc, iR1, iR2, iL, iT, wipe, List.getElem?_cons_zero, List.getElem?_cons_succ, List.set_cons_zero, List.set_cons_succ, List.cons_append, List.nil_append, List.append_nil, upd_same, at0, at1, at2, ix0, ix1, ix2, upd_upd, ite_true, ite_false, if_true, if_false, Bool.false_eq_true, decide_true, decide_false, reduceIte, true_and, and_true, Option.isSome_none, Option.isSome_some, Bool.not_false, Bool.not_true]
    exact key 0

theorem Same.new {H : Hp} {p : Addr} {o : HO} (h : H p = none) : Same H (upd H p o) := fun b u e => by rw [upd_ne (ne_of_none e h)]; exact e
theorem Same.upd {H0 H : Hp} {p : Addr} {o : HO} (s : Same H0 H) (h : H0 p = none) : Same H0 (upd H p o) := fun a u e => by rw [upd_ne (ne_of_none e h)]; exact s a u e
theorem RunAt.same {K : PySem.W.Frag} {H H' : Hp} {r : Addr} {f m : Int} (h : RunAt K H r f m) (s : Same H H') : RunAt K H' r f m := let ⟨dx, e⟩ := h; ⟨dx, s _ _ e⟩
theorem mk_run {K : PySem.W.Frag} {H : Hp} {f m : Int} {Q : Addr → Hp → Prop} {E : XK} (ok : RunOk f m) (k : ∀ r H', H r = none → Same H H' → RunAt K H' r f m → Q r H') : ∀ x dx, H x = none → H dx = none → dx ≠ x →
    sp_Run___init__ K [.ref x, .int f, .int m] (upd (upd H dx (.own x)) x (.ins (He.ga K "Run") dx [])) (fun v H2 => v = .non ∧ Q x H2) E := fun x dx hx hdx ne =>
  ⟨x, dx, f, m, rfl, upd_same, ok, rfl, k x _ hx (by rw [upd_upd]; exact Same.upd (Same.new hdx) hx) ⟨dx, upd_same⟩⟩
theorem rd_is_integer {K : PySem.W.Frag} {mg : Str → Option Value} (T : Top K mg) : ∀ vs H Q E, sp_is_integer K vs H Q E → t_is_integer K { nx := fun _ H' => Q .non H', rt := Q } (start nm_is_integer vs) H := by
  rintro vs H Q E ⟨x, rfl, kn, q⟩
  rw [start_is_integer]
  unfold t_is_integer t_is_integer_1
  rcases kn with ⟨i, rfl⟩ | ⟨b, rfl⟩ | rfl | ⟨z, rfl⟩ | ⟨a, o, rfl, ha, ⟨xs, rfl⟩ | ⟨xs, rfl⟩ | ⟨dx, fs, rfl⟩⟩
  · simp only [tSeq, tAsg, tIfS, tRet, tRetN, tDrop, tNext, tPar, tPar3, gName, gSub, gTup, gCons, gNil, zV, tC, tOp, tUn, tCons, tNil, tLst, tTup, tIf, tAnd, tOr, tNot, tYes, zB, zAnd, zOr, zNot, zChain, tDNewK, yAdd, ySub, yMul, yDiv, yMod, yPow, yNeg, yLt, yLe, yGt, yGe, yEq, yNe, yIs0, yNotIs0, yIx, ySet, yIn, sqAt, isNone, zFld, zSetF, insAt, zMeth, zProp, tCall, tMake, tCB, yLen, yAbs, yMax2, yMin2, yList, yTuple, yDict0, zLM, yApp, isLst, dkAt, keyOf, zGet1, zGet2, zPop1, zPop2, zForR1, zForR2, zForL, zForT, Z.intAt, refAt, zLc, iR1, iR2, iL, iT, wipe, List.getElem?_cons_zero, List.getElem?_cons_succ, List.set_cons_zero, List.set_cons_succ, List.cons_append, List.nil_append, List.append_nil, upd_same, at0, at1, at2, ix0, ix1, ix2, upd_upd, ite_true, ite_false, if_true, if_false, Bool.false_eq_true, decide_true, decide_false, reduceIte, true_and, and_true, Option.isSome_none, Option.isSome_some, Bool.not_false, Bool.not_true, tCallN, zForR3, zMatch, zCase, zMethS, zRaiseO, yPopAt, zSl2, yIsiT, tysAt, zBInit, zOst, tXf, wAs, tMkO, zFmt, zJs, zJoin, yStr1, gLst, zCM, zListR1, zListR2, zLenR1, iR3, yInt1, yEqO, yAndO, yInO, yLenO, yReprO, isBl, Z.strAt, yEq0, yNe0, GF.zForG, GF.zLcG, GF.zListG, yIsi, tyAt, clsAt, ki_int_int, ki_bool_int, ki_none_int, ki_str_int, ki_list_int, ki_tuple_int, ki_int_bool, ki_bool_bool, ki_none_bool, ki_str_bool, ki_list_bool, ki_tuple_bool, zMakeV, tRz, zNever]
    exact q
  · simp only [tSeq, tAsg, tIfS, tRet, tRetN, tDrop, tNext, tPar, tPar3, gName, gSub, gTup, gCons, gNil, zV, tC, tOp, tUn, tCons, tNil, tLst, tTup, tIf, tAnd, tOr, tNot, tYes, zB, zAnd, zOr, zNot, zChain, tDNewK, yAdd, ySub, yMul, yDiv, yMod, yPow, yNeg, yLt, yLe, yGt, yGe, yEq, yNe, yIs0, yNotIs0, yIx, ySet, yIn, sqAt, isNone, zFld, zSetF, insAt, zMeth, zProp, tCall, tMake, tCB, yLen, yAbs, yMax2, yMin2, yList, yTuple, yDict0, zLM, yApp, isLst, dkAt, keyOf, zGet1, zGet2, zPop1, zPop2, zForR1, zForR2, zForL, zForT, Z.intAt, refAt, zLc, iR1, iR2, iL, iT, wipe, List.getElem?_cons_zero, List.getElem?_cons_succ, List.set_cons_zero, List.set_cons_succ, List.cons_append, List.nil_append, List.append_nil, upd_same, at0, at1, at2, ix0, ix1, ix2, upd_upd, ite_true, ite_false, if_true, if_false, Bool.false_eq_true, decide_true, decide_false, reduceIte, true_and, and_true, Option.isSome_none, Option.isSome_some, Bool.not_false, Bool.not_true, tCallN, zForR3, zMatch, zCase, zMethS, zRaiseO, yPopAt, zSl2, yIsiT, tysAt, zBInit, zOst, tXf, wAs, tMkO, zFmt, zJs, zJoin, yStr1, gLst, zCM, zListR1, zListR2, zLenR1, iR3, yInt1, yEqO, yAndO, yInO, yLenO, yReprO, isBl, Z.strAt, yEq0, yNe0, GF.zForG, GF.zLcG, GF.zListG, yIsi, tyAt, clsAt, ki_int_int, ki_bool_int, ki_none_int, ki_str_int, ki_list_int, ki_tuple_int, ki_int_bool, ki_bool_bool, ki_none_bool, ki_str_bool, ki_list_bool, ki_tuple_bool, zMakeV, tRz, zNever]
    exact q
  · simp only [tSeq, tAsg, tIfS, tRet, tRetN, tDrop, tNext, tPar, tPar3, gName, gSub, gTup, gCons, gNil, zV, tC, tOp, tUn, tCons, tNil, tLst, tTup, tIf, tAnd, tOr, tNot, tYes, zB, zAnd, zOr, zNot, zChain, tDNewK, yAdd, ySub, yMul, yDiv, yMod, yPow, yNeg, yLt, yLe, yGt, yGe, yEq, yNe, yIs0, yNotIs0, yIx, ySet, yIn, sqAt, isNone, zFld, zSetF, insAt, zMeth, zProp, tCall, tMake, tCB, yLen, yAbs, yMax2, yMin2, yList, yTuple, yDict0, zLM, yApp, isLst, dkAt, keyOf, zGet1, zGet2, zPop1, zPop2, zForR1, zForR2, zForL, zForT, Z.intAt, refAt, zLc, iR1, iR2, iL, iT, wipe, List.getElem?_cons_zero, List.getElem?_cons_succ, List.set_cons_zero, List.set_cons_succ, List.cons_append, List.nil_append, List.append_nil, upd_same, at0, at1, at2, ix0, ix1, ix2, upd_upd, ite_true, ite_false, if_true, if_false, Bool.false_eq_true, decide_true, decide_false, reduceIte, true_and, and_true, Option.isSome_none, Option.isSome_some, Bool.not_false, Bool.not_true, tCallN, zForR3, zMatch, zCase, zMethS, zRaiseO, yPopAt, zSl2, yIsiT, tysAt, zBInit, zOst, tXf, wAs, tMkO, zFmt, zJs, zJoin, yStr1, gLst, zCM, zListR1, zListR2, zLenR1, iR3, yInt1, yEqO, yAndO, yInO, yLenO, yReprO, isBl, Z.strAt, yEq0, yNe0, GF.zForG, GF.zLcG, GF.zListG, yIsi, tyAt, clsAt, ki_int_int, ki_bool_int, ki_none_int, ki_str_int, ki_list_int, ki_tuple_int, ki_int_bool, ki_bool_bool, ki_none_bool, ki_str_bool, ki_list_bool, ki_tuple_bool, zMakeV, tRz, zNever]
    exact q
  · simp only [tSeq, tAsg, tIfS, tRet, tRetN, tDrop, tNext, tPar, tPar3, gName, gSub, gTup, gCons, gNil, zV, tC, tOp, tUn, tCons, tNil, tLst, tTup, tIf, tAnd, tOr, tNot, tYes, zB, zAnd, zOr, zNot, zChain, tDNewK, yAdd, ySub, yMul, yDiv, yMod, yPow, yNeg, yLt, yLe, yGt, yGe, yEq, yNe, yIs0, yNotIs0, yIx, ySet, yIn, sqAt, isNone, zFld, zSetF, insAt, zMeth, zProp, tCall, tMake, tCB, yLen, yAbs, yMax2, yMin2, yList, yTuple, yDict0, zLM, yApp, isLst, dkAt, keyOf, zGet1, zGet2, zPop1, zPop2, zForR1, zForR2, zForL, zForT, Z.intAt, refAt, zLc, iR1, iR2, iL, iT, wipe, List.getElem?_cons_zero, List.getElem?_cons_succ, List.set_cons_zero, List.set_cons_succ, List.cons_append, List.nil_append, List.append_nil, upd_same, at0, at1, at2, ix0, ix1, ix2, upd_upd, ite_true, ite_false, if_true, if_false, Bool.false_eq_true, decide_true, decide_false, reduceIte, true_and, and_true, Option.isSome_none, Option.isSome_some, Bool.not_false, Bool.not_true, tCallN, zForR3, zMatch, zCase, zMethS, zRaiseO, yPopAt, zSl2, yIsiT, tysAt, zBInit, zOst, tXf, wAs, tMkO, zFmt, zJs, zJoin, yStr1, gLst, zCM, zListR1, zListR2, zLenR1, iR3, yInt1, yEqO, yAndO, yInO, yLenO, yReprO, isBl, Z.strAt, yEq0, yNe0, GF.zForG, GF.zLcG, GF.zListG, yIsi, tyAt, clsAt, ki_int_int, ki_bool_int, ki_none_int, ki_str_int, ki_list_int, ki_tuple_int, ki_int_bool, ki_bool_bool, ki_none_bool, ki_str_bool, ki_list_bool, ki_tuple_bool, zMakeV, tRz, zNever]
    exact q
  · simp only [tSeq, tAsg, tIfS, tRet, tRetN, tDrop, tNext, tPar, tPar3, gName, gSub, gTup, gCons, gNil, zV, tC, tOp, tUn, tCons, tNil, tLst, tTup, tIf, tAnd, tOr, tNot, tYes, zB, zAnd, zOr, zNot, zChain, tDNewK, yAdd, ySub, yMul, yDiv, yMod, yPow, yNeg, yLt, yLe, yGt, yGe, yEq, yNe, yIs0, yNotIs0, yIx, ySet, yIn, sqAt, isNone, zFld, zSetF, insAt, zMeth, zProp, tCall, tMake, tCB, yLen, yAbs, yMax2, yMin2, yList, yTuple, yDict0, zLM, yApp, isLst, dkAt, keyOf, zGet1, zGet2, zPop1, zPop2, zForR1, zForR2, zForL, zForT, Z.intAt, refAt, zLc, iR1, iR2, iL, iT, wipe, List.getElem?_cons_zero, List.getElem?_cons_succ, List.set_cons_zero, List.set_cons_succ, List.cons_append, List.nil_append, List.append_nil, upd_same, at0, at1, at2, ix0, ix1, ix2, upd_upd, ite_true, ite_false, if_true, if_false, Bool.false_eq_true, decide_true, decide_false, reduceIte, true_and, and_true, Option.isSome_none, Option.isSome_some, Bool.not_false, Bool.not_true, tCallN, zForR3, zMatch, zCase, zMethS, zRaiseO, yPopAt, zSl2, yIsiT, tysAt, zBInit, zOst, tXf, wAs, tMkO, zFmt, zJs, zJoin, yStr1, gLst, zCM, zListR1, zListR2, zLenR1, iR3, yInt1, yEqO, yAndO, yInO, yLenO, yReprO, isBl, Z.strAt, yEq0, yNe0, GF.zForG, GF.zLcG, GF.zListG, yIsi, tyAt, clsAt, ki_int_int, ki_bool_int, ki_none_int, ki_str_int, ki_list_int, ki_tuple_int, ki_int_bool, ki_bool_bool, ki_none_bool, ki_str_bool, ki_list_bool, ki_tuple_bool, zMakeV, tRz, zNever, ha]
    exact q
  · simp only [tSeq, tAsg, tIfS, tRet, tRetN, tDrop, tNext, tPar, tPar3, gName, gSub, gTup, gCons, gNil, zV, tC, tOp, tUn, tCons, tNil, tLst, tTup, tIf, tAnd, tOr, tNot, tYes, zB, zAnd, zOr, zNot, zChain, tDNewK, yAdd, ySub, yMul, yDiv, yMod, yPow, yNeg, yLt, yLe, yGt, yGe, yEq, yNe, yIs0, yNotIs0, yIx, ySet, yIn, sqAt, isNone, zFld, zSetF, insAt, zMeth, zProp, tCall, tMake, tCB, yLen, yAbs, yMax2, yMin2, yList, yTuple, yDict0, zLM, yApp, isLst, dkAt, keyOf, zGet1, zGet2, zPop1, zPop2, zForR1, zForR2, zForL, zForT, Z.intAt, refAt, zLc, iR1, iR2, iL, iT, wipe, List.getElem?_cons_zero, List.getElem?_cons_succ, List.set_cons_zero, List.set_cons_succ, List.cons_append, List.nil_append, List.append_nil, upd_same, at0, at1, at2, ix0, ix1, ix2, upd_upd, ite_true, ite_false, if_true, if_false, Bool.false_eq_true, decide_true, decide_false, reduceIte, true_and, and_true, Option.isSome_none, Option.isSome_some, Bool.not_false, Bool.not_true, tCallN, zForR3, zMatch, zCase, zMethS, zRaiseO, yPopAt, zSl2, yIsiT, tysAt, zBInit, zOst, tXf, wAs, tMkO, zFmt, zJs, zJoin, yStr1, gLst, zCM, zListR1, zListR2, zLenR1, iR3, yInt1, yEqO, yAndO, yInO, yLenO, yReprO, isBl, Z.strAt, yEq0, yNe0, GF.zForG, GF.zLcG, GF.zListG, yIsi, tyAt, clsAt, ki_int_int, ki_bool_int, ki_none_int, ki_str_int, ki_list_int, ki_tuple_int, ki_int_bool, ki_bool_bool, ki_none_bool, ki_str_bool, ki_list_bool, ki_tuple_bool, zMakeV, tRz, zNever, ha]
    exact q
  · simp only [tSeq, tAsg, tIfS, tRet, tRetN, tDrop, tNext, tPar, tPar3, gName, gSub, gTup, gCons, gNil, zV, tC, tOp, tUn, tCons, tNil, tLst, tTup, tIf, tAnd, tOr, tNot, tYes, zB, zAnd, zOr, zNot, zChain, tDNewK, yAdd, ySub, yMul, yDiv, yMod, yPow, yNeg, yLt, yLe, yGt, yGe, yEq, yNe, yIs0, yNotIs0, yIx, ySet, yIn, sqAt, isNone, zFld, zSetF, insAt, zMeth, zProp, tCall, tMake, tCB, yLen, yAbs, yMax2, yMin2, yList, yTuple, yDict0, zLM, yApp, isLst, dkAt, keyOf, zGet1, zGet2, zPop1, zPop2, zForR1, zForR2, zForL, zForT, Z.intAt, refAt, zLc, iR1, iR2, iL, iT, wipe, List.getElem?_cons_zero, List.getElem?_cons_succ, List.set_cons_zero, List.set_cons_succ, List.cons_append, List.nil_append, List.append_nil, upd_same, at0, at1, at2, ix0, ix1, ix2, upd_upd, ite_true, ite_false, if_true, if_false, Bool.false_eq_true, decide_true, decide_false, reduceIte, true_and, and_true, Option.isSome_none, Option.isSome_some, Bool.not_false, Bool.not_true, tCallN, zForR3, zMatch, zCase, zMethS, zRaiseO, yPopAt, zSl2, yIsiT, tysAt, zBInit, zOst, tXf, wAs, tMkO, zFmt, zJs, zJoin, yStr1, gLst, zCM, zListR1, zListR2, zLenR1, iR3, yInt1, yEqO, yAndO, yInO, yLenO, yReprO, isBl, Z.strAt, yEq0, yNe0, GF.zForG, GF.zLcG, GF.zListG, yIsi, tyAt, clsAt, ki_int_int, ki_bool_int, ki_none_int, ki_str_int, ki_list_int, ki_tuple_int, ki_int_bool, ki_bool_bool, ki_none_bool, ki_str_bool, ki_list_bool, ki_tuple_bool, zMakeV, tRz, zNever, ha, T.ki_Run_int, T.ki_Run_bool]
    exact ⟨T.i_Run, q⟩
theorem rd_is_from_to {K : PySem.W.Frag} {mg : Str → Option Value} (T : Top K mg) : ∀ vs H Q E, sp_is_from_to K vs H Q E → t_is_from_to K { nx := fun _ H' => Q .non H', rt := Q } (start nm_is_from_to vs) H := by
  rintro vs H Q E ⟨n, lo, hi, rfl, h1, h2, q⟩
  rw [start_is_from_to]
  unfold t_is_from_to t_is_from_to_1
  simp only [tSeq, tAsg, tIfS, tRet, tRetN, tDrop, tNext, tPar, tPar3, gName, gSub, gTup, gCons, gNil, zV, tC, tOp, tUn, tCons, tNil, tLst, tTup, tIf, tAnd, tOr, tNot, tYes, zB, zAnd, zOr, zNot, zChain, tDNewK, yAdd, ySub, yMul, yDiv, yMod, yPow, yNeg, yLt, yLe, yGt, yGe, yEq, yNe, yIs0, yNotIs0, yIx, ySet, yIn, sqAt, isNone, zFld, zSetF, insAt, zMeth, zProp, tCall, tMake, tCB, yLen, yAbs, yMax2, yMin2, yList, yTuple, yDict0, zLM, yApp, isLst, dkAt, keyOf, zGet1, zGet2, zPop1, zPop2, zForR1, zForR2, zForL, zForT, Z.intAt, refAt, zLc, iR1, iR2, iL, iT, wipe, List.getElem?_cons_zero, List.getElem?_cons_succ, List.set_cons_zero, List.set_cons_succ, List.cons_append, List.nil_append, List.append_nil, upd_same, at0, at1, at2, ix0, ix1, ix2, upd_upd, ite_true, ite_false, if_true, if_false, Bool.false_eq_true, decide_true, decide_false, reduceIte, true_and, and_true, Option.isSome_none, Option.isSome_some, Bool.not_false, Bool.not_true, tCallN, zForR3, zMatch, zCase, zMethS, zRaiseO, yPopAt, zSl2, yIsiT, tysAt, zBInit, zOst, tXf, wAs, tMkO, zFmt, zJs, zJoin, yStr1, gLst, zCM, zListR1, zListR2, zLenR1, iR3, yInt1, yEqO, yAndO, yInO, yLenO, yReprO, isBl, Z.strAt, yEq0, yNe0, GF.zForG, GF.zLcG, GF.zListG, yIsi, tyAt, clsAt, ki_int_int, ki_bool_int, ki_none_int, ki_str_int, ki_list_int, ki_tuple_int, ki_int_bool, ki_bool_bool, ki_none_bool, ki_str_bool, ki_list_bool, ki_tuple_bool, zMakeV, tRz, zNever]
  refine ⟨.int n, rfl, .inl ⟨n, rfl⟩, ?_⟩
  simp only [tSeq, tAsg, tIfS, tRet, tRetN, tDrop, tNext, tPar, tPar3, gName, gSub, gTup, gCons, gNil, zV, tC, tOp, tUn, tCons, tNil, tLst, tTup, tIf, tAnd, tOr, tNot, tYes, zB, zAnd, zOr, zNot, zChain, tDNewK, yAdd, ySub, yMul, yDiv, yMod, yPow, yNeg, yLt, yLe, yGt, yGe, yEq, yNe, yIs0, yNotIs0, yIx, ySet, yIn, sqAt, isNone, zFld, zSetF, insAt, zMeth, zProp, tCall, tMake, tCB, yLen, yAbs, yMax2, yMin2, yList, yTuple, yDict0, zLM, yApp, isLst, dkAt, keyOf, zGet1, zGet2, zPop1, zPop2, zForR1, zForR2, zForL, zForT, Z.intAt, refAt, zLc, iR1, iR2, iL, iT, wipe, List.getElem?_cons_zero, List.getElem?_cons_succ, List.set_cons_zero, List.set_cons_succ, List.cons_append, List.nil_append, List.append_nil, upd_same, at0, at1, at2, ix0, ix1, ix2, upd_upd, ite_true, ite_false, if_true, if_false, Bool.false_eq_true, decide_true, decide_false, reduceIte, true_and, and_true, Option.isSome_none, Option.isSome_some, Bool.not_false, Bool.not_true, tCallN, zForR3, zMatch, zCase, zMethS, zRaiseO, yPopAt, zSl2, yIsiT, tysAt, zBInit, zOst, tXf, wAs, tMkO, zFmt, zJs, zJoin, yStr1, gLst, zCM, zListR1, zListR2, zLenR1, iR3, yInt1, yEqO, yAndO, yInO, yLenO, yReprO, isBl, Z.strAt, yEq0, yNe0, GF.zForG, GF.zLcG, GF.zListG, yIsi, tyAt, clsAt, ki_int_int, ki_bool_int, ki_none_int, ki_str_int, ki_list_int, ki_tuple_int, ki_int_bool, ki_bool_bool, ki_none_bool, ki_str_bool, ki_list_bool, ki_tuple_bool, zMakeV, tRz, zNever, isW, decide_eq_true h1, decide_eq_true h2]
  exact q
theorem rd_Run___init__ {K : PySem.W.Frag} {mg : Str → Option Value} (T : Top K mg) : ∀ vs H Q E, sp_Run___init__ K vs H Q E → t_Run___init__ K { nx := fun _ H' => Q .non H', rt := Q } (start nm_Run___init__ vs) H := by
  rintro vs H Q E ⟨x, dx, f, m, rfl, hx, ok, q⟩
  obtain ⟨o1, o2, o3, o4⟩ := ok
  rw [start_Run___init__]
  unfold t_Run___init__ t_Run___init___1
  simp only [tSeq, tAsg, tIfS, tRet, tRetN, tDrop, tNext, tPar, tPar3, gName, gSub, gTup, gCons, gNil, zV, tC, tOp, tUn, tCons, tNil, tLst, tTup, tIf, tAnd, tOr, tNot, tYes, zB, zAnd, zOr, zNot, zChain, tDNewK, yAdd, ySub, yMul, yDiv, yMod, yPow, yNeg, yLt, yLe, yGt, yGe, yEq, yNe, yIs0, yNotIs0, yIx, ySet, yIn, sqAt, isNone, zFld, zSetF, insAt, zMeth, zProp, tCall, tMake, tCB, yLen, yAbs, yMax2, yMin2, yList, yTuple, yDict0, zLM, yApp, isLst, dkAt, keyOf, zGet1, zGet2, zPop1, zPop2, zForR1, zForR2, zForL, zForT, Z.intAt, refAt, zLc, iR1, iR2, iL, iT, wipe, List.getElem?_cons_zero, List.getElem?_cons_succ, List.set_cons_zero, List.set_cons_succ, List.cons_append, List.nil_append, List.append_nil, upd_same, at0, at1, at2, ix0, ix1, ix2, upd_upd, ite_true, ite_false, if_true, if_false, Bool.false_eq_true, decide_true, decide_false, reduceIte, true_and, and_true, Option.isSome_none, Option.isSome_some, Bool.not_false, Bool.not_true, tCallN, zForR3, zMatch, zCase, zMethS, zRaiseO, yPopAt, zSl2, yIsiT, tysAt, zBInit, zOst, tXf, wAs, tMkO, zFmt, zJs, zJoin, yStr1, gLst, zCM, zListR1, zListR2, zLenR1, iR3, yInt1, yEqO, yAndO, yInO, yLenO, yReprO, isBl, Z.strAt, yEq0, yNe0, GF.zForG, GF.zLcG, GF.zListG, yIsi, tyAt, clsAt, ki_int_int, ki_bool_int, ki_none_int, ki_str_int, ki_list_int, ki_tuple_int, ki_int_bool, ki_bool_bool, ki_none_bool, ki_str_bool, ki_list_bool, ki_tuple_bool, zMakeV, tRz, zNever]
  refine ⟨f, 0, 1000000000000, rfl, o1, o2, ?_⟩
  simp only [tSeq, tAsg, tIfS, tRet, tRetN, tDrop, tNext, tPar, tPar3, gName, gSub, gTup, gCons, gNil, zV, tC, tOp, tUn, tCons, tNil, tLst, tTup, tIf, tAnd, tOr, tNot, tYes, zB, zAnd, zOr, zNot, zChain, tDNewK, yAdd, ySub, yMul, yDiv, yMod, yPow, yNeg, yLt, yLe, yGt, yGe, yEq, yNe, yIs0, yNotIs0, yIx, ySet, yIn, sqAt, isNone, zFld, zSetF, insAt, zMeth, zProp, tCall, tMake, tCB, yLen, yAbs, yMax2, yMin2, yList, yTuple, yDict0, zLM, yApp, isLst, dkAt, keyOf, zGet1, zGet2, zPop1, zPop2, zForR1, zForR2, zForL, zForT, Z.intAt, refAt, zLc, iR1, iR2, iL, iT, wipe, List.getElem?_cons_zero, List.getElem?_cons_succ, List.set_cons_zero, List.set_cons_succ, List.cons_append, List.nil_append, List.append_nil, upd_same, at0, at1, at2, ix0, ix1, ix2, upd_upd, ite_true, ite_false, if_true, if_false, Bool.false_eq_true, decide_true, decide_false, reduceIte, true_and, and_true, Option.isSome_none, Option.isSome_some, Bool.not_false, Bool.not_true, tCallN, zForR3, zMatch, zCase, zMethS, zRaiseO, yPopAt, zSl2, yIsiT, tysAt, zBInit, zOst, tXf, wAs, tMkO, zFmt, zJs, zJoin, yStr1, gLst, zCM, zListR1, zListR2, zLenR1, iR3, yInt1, yEqO, yAndO, yInO, yLenO, yReprO, isBl, Z.strAt, yEq0, yNe0, GF.zForG, GF.zLcG, GF.zListG, yIsi, tyAt, clsAt, ki_int_int, ki_bool_int, ki_none_int, ki_str_int, ki_list_int, ki_tuple_int, ki_int_bool, ki_bool_bool, ki_none_bool, ki_str_bool, ki_list_bool, ki_tuple_bool, zMakeV, tRz, zNever]
  refine ⟨m, 1, 1000000000000, rfl, o3, o4, ?_⟩
  simp only [tSeq, tAsg, tIfS, tRet, tRetN, tDrop, tNext, tPar, tPar3, gName, gSub, gTup, gCons, gNil, zV, tC, tOp, tUn, tCons, tNil, tLst, tTup, tIf, tAnd, tOr, tNot, tYes, zB, zAnd, zOr, zNot, zChain, tDNewK, yAdd, ySub, yMul, yDiv, yMod, yPow, yNeg, yLt, yLe, yGt, yGe, yEq, yNe, yIs0, yNotIs0, yIx, ySet, yIn, sqAt, isNone, zFld, zSetF, insAt, zMeth, zProp, tCall, tMake, tCB, yLen, yAbs, yMax2, yMin2, yList, yTuple, yDict0, zLM, yApp, isLst, dkAt, keyOf, zGet1, zGet2, zPop1, zPop2, zForR1, zForR2, zForL, zForT, Z.intAt, refAt, zLc, iR1, iR2, iL, iT, wipe, List.getElem?_cons_zero, List.getElem?_cons_succ, List.set_cons_zero, List.set_cons_succ, List.cons_append, List.nil_append, List.append_nil, upd_same, at0, at1, at2, ix0, ix1, ix2, upd_upd, ite_true, ite_false, if_true, if_false, Bool.false_eq_true, decide_true, decide_false, reduceIte, true_and, and_true, Option.isSome_none, Option.isSome_some, Bool.not_false, Bool.not_true, tCallN, zForR3, zMatch, zCase, zMethS, zRaiseO, yPopAt, zSl2, yIsiT, tysAt, zBInit, zOst, tXf, wAs, tMkO, zFmt, zJs, zJoin, yStr1, gLst, zCM, zListR1, zListR2, zLenR1, iR3, yInt1, yEqO, yAndO, yInO, yLenO, yReprO, isBl, Z.strAt, yEq0, yNe0, GF.zForG, GF.zLcG, GF.zListG, yIsi, tyAt, clsAt, ki_int_int, ki_bool_int, ki_none_int, ki_str_int, ki_list_int, ki_tuple_int, ki_int_bool, ki_bool_bool, ki_none_bool, ki_str_bool, ki_list_bool, ki_tuple_bool, zMakeV, tRz, zNever, t_Run___init___2, t_Run___init___3, hx]
  refine ⟨⟨T.cl_Run, T.na_Run_first, by decide⟩, ⟨T.cl_Run, T.na_Run_many, by rw [pn_Run_first (.int f) .non]; exact (by decide : (1 : Nat) < 1000)⟩, ?_⟩
  rw [pn_Run_first (.int f) .non, pn_Run_many]
  exact q
theorem rd_Run_end {K : PySem.W.Frag} {mg : Str → Option Value} (T : Top K mg) : ∀ vs H Q E, sp_Run_end K vs H Q E → t_Run_end K { nx := fun _ H' => Q .non H', rt := Q } (start nm_Run_end vs) H := by
  rintro vs H Q E ⟨r, f, m, rfl, ⟨dx, hr⟩, q⟩
  rw [start_Run_end]
  unfold t_Run_end t_Run_end_1
  simp only [tSeq, tAsg, tIfS, tRet, tRetN, tDrop, tNext, tPar, tPar3, gName, gSub, gTup, gCons, gNil, zV, tC, tOp, tUn, tCons, tNil, tLst, tTup, tIf, tAnd, tOr, tNot, tYes, zB, zAnd, zOr, zNot, zChain, tDNewK, yAdd, ySub, yMul, yDiv, yMod, yPow, yNeg, yLt, yLe, yGt, yGe, yEq, yNe, yIs0, yNotIs0, yIx, ySet, yIn, sqAt, isNone, zFld, zSetF, insAt, zMeth, zProp, tCall, tMake, tCB, yLen, yAbs, yMax2, yMin2, yList, yTuple, yDict0, zLM, yApp, isLst, dkAt, keyOf, zGet1, zGet2, zPop1, zPop2, zForR1, zForR2, zForL, zForT, Z.intAt, refAt, zLc, iR1, iR2, iL, iT, wipe, List.getElem?_cons_zero, List.getElem?_cons_succ, List.set_cons_zero, List.set_cons_succ, List.cons_append, List.nil_append, List.append_nil, upd_same, at0, at1, at2, ix0, ix1, ix2, upd_upd, ite_true, ite_false, if_true, if_false, Bool.false_eq_true, decide_true, decide_false, reduceIte, true_and, and_true, Option.isSome_none, Option.isSome_some, Bool.not_false, Bool.not_true, tCallN, zForR3, zMatch, zCase, zMethS, zRaiseO, yPopAt, zSl2, yIsiT, tysAt, zBInit, zOst, tXf, wAs, tMkO, zFmt, zJs, zJoin, yStr1, gLst, zCM, zListR1, zListR2, zLenR1, iR3, yInt1, yEqO, yAndO, yInO, yLenO, yReprO, isBl, Z.strAt, yEq0, yNe0, GF.zForG, GF.zLcG, GF.zListG, yIsi, tyAt, clsAt, ki_int_int, ki_bool_int, ki_none_int, ki_str_int, ki_list_int, ki_tuple_int, ki_int_bool, ki_bool_bool, ki_none_bool, ki_str_bool, ki_list_bool, ki_tuple_bool, zMakeV, tRz, zNever, hr, lk_Run_first, lk_Run_many]
  exact ⟨⟨T.cl_Run, T.na_Run_first⟩, ⟨T.cl_Run, T.na_Run_many⟩, q⟩

theorem fs_run_inj {f m g n : Int} : fs_Run (.int f) (.int m) = fs_Run (.int g) (.int n) ↔ f = g ∧ m = n := by
  constructor
  · intro h
    have h1 := lk_Run_first (.int f) (.int m)
    have h2 := lk_Run_many (.int f) (.int m)
    rw [h, lk_Run_first] at h1
    rw [h, lk_Run_many] at h2
    have e1 := Option.some.inj h1
    have e2 := Option.some.inj h2
    injection e1 with e1
    injection e2 with e2
    exact ⟨e1.symm, e2.symm⟩
  · rintro ⟨rfl, rfl⟩
    rfl
theorem eqRun_run {K : PySem.W.Frag} {H : Hp} {f m g n : Int} {b : Addr} (h : RunAt K H b g n) : eqRun K H f m (.ref b) = decide (f = g ∧ m = n) := by
  obtain ⟨dx, h⟩ := h
  unfold eqRun
  simp only [h, true_and]
  by_cases e : f = g ∧ m = n
  · rw [decide_eq_true e, decide_eq_true (by rw [fs_run_inj]; exact ⟨e.1.symm, e.2.symm⟩)]
  · rw [decide_eq_false e, decide_eq_false (by rw [fs_run_inj]; exact fun z => e ⟨z.1.symm, z.2.symm⟩)]
theorem rd_Run___eq__ {K : PySem.W.Frag} {mg : Str → Option Value} (T : Top K mg) : ∀ vs H Q E, sp_Run___eq__ K vs H Q E → t_Run___eq__ K { nx := fun _ H' => Q .non H', rt := Q } (start nm_Run___eq__ vs) H := by
  rintro vs H Q E ⟨r, f, m, y, rfl, ⟨dx, hr⟩, kn, q⟩
  rw [start_Run___eq__]
  unfold t_Run___eq__ t_Run___eq___1
  rcases kn with ⟨i, rfl⟩ | ⟨b, rfl⟩ | rfl | ⟨z, rfl⟩ | ⟨a, xs, rfl, ha⟩ | ⟨a, xs, rfl, ha⟩ | ⟨a, g, n, rfl, hR⟩
  · simp only [tSeq, tAsg, tIfS, tRet, tRetN, tDrop, tNext, tPar, tPar3, gName, gSub, gTup, gCons, gNil, zV, tC, tOp, tUn, tCons, tNil, tLst, tTup, tIf, tAnd, tOr, tNot, tYes, zB, zAnd, zOr, zNot, zChain, tDNewK, yAdd, ySub, yMul, yDiv, yMod, yPow, yNeg, yLt, yLe, yGt, yGe, yEq, yNe, yIs0, yNotIs0, yIx, ySet, yIn, sqAt, isNone, zFld, zSetF, insAt, zMeth, zProp, tCall, tMake, tCB, yLen, yAbs, yMax2, yMin2, yList, yTuple, yDict0, zLM, yApp, isLst, dkAt, keyOf, zGet1, zGet2, zPop1, zPop2, zForR1, zForR2, zForL, zForT, Z.intAt, refAt, zLc, iR1, iR2, iL, iT, wipe, List.getElem?_cons_zero, List.getElem?_cons_succ, List.set_cons_zero, List.set_cons_succ, List.cons_append, List.nil_append, List.append_nil, upd_same, at0, at1, at2, ix0, ix1, ix2, upd_upd, ite_true, ite_false, if_true, if_false, Bool.false_eq_true, decide_true, decide_false, reduceIte, true_and, and_true, Option.isSome_none, Option.isSome_some, Bool.not_false, Bool.not_true, tCallN, zForR3, zMatch, zCase, zMethS, zRaiseO, yPopAt, zSl2, yIsiT, tysAt, zBInit, zOst, tXf, wAs, tMkO, zFmt, zJs, zJoin, yStr1, gLst, zCM, zListR1, zListR2, zLenR1, iR3, yInt1, yEqO, yAndO, yInO, yLenO, yReprO, isBl, Z.strAt, yEq0, yNe0, GF.zForG, GF.zLcG, GF.zListG, yIsi, tyAt, clsAt, ki_int_int, ki_bool_int, ki_none_int, ki_str_int, ki_list_int, ki_tuple_int, ki_int_bool, ki_bool_bool, ki_none_bool, ki_str_bool, ki_list_bool, ki_tuple_bool, zMakeV, tRz, zNever, T.kb_int_Run]
    exact q
  · simp only [tSeq, tAsg, tIfS, tRet, tRetN, tDrop, tNext, tPar, tPar3, gName, gSub, gTup, gCons, gNil, zV, tC, tOp, tUn, tCons, tNil, tLst, tTup, tIf, tAnd, tOr, tNot, tYes, zB, zAnd, zOr, zNot, zChain, tDNewK, yAdd, ySub, yMul, yDiv, yMod, yPow, yNeg, yLt, yLe, yGt, yGe, yEq, yNe, yIs0, yNotIs0, yIx, ySet, yIn, sqAt, isNone, zFld, zSetF, insAt, zMeth, zProp, tCall, tMake, tCB, yLen, yAbs, yMax2, yMin2, yList, yTuple, yDict0, zLM, yApp, isLst, dkAt, keyOf, zGet1, zGet2, zPop1, zPop2, zForR1, zForR2, zForL, zForT, Z.intAt, refAt, zLc, iR1, iR2, iL, iT, wipe, List.getElem?_cons_zero, List.getElem?_cons_succ, List.set_cons_zero, List.set_cons_succ, List.cons_append, List.nil_append, List.append_nil, upd_same, at0, at1, at2, ix0, ix1, ix2, upd_upd, ite_true, ite_false, if_true, if_false, Bool.false_eq_true, decide_true, decide_false, reduceIte, true_and, and_true, Option.isSome_none, Option.isSome_some, Bool.not_false, Bool.not_true, tCallN, zForR3, zMatch, zCase, zMethS, zRaiseO, yPopAt, zSl2, yIsiT, tysAt, zBInit, zOst, tXf, wAs, tMkO, zFmt, zJs, zJoin, yStr1, gLst, zCM, zListR1, zListR2, zLenR1, iR3, yInt1, yEqO, yAndO, yInO, yLenO, yReprO, isBl, Z.strAt, yEq0, yNe0, GF.zForG, GF.zLcG, GF.zListG, yIsi, tyAt, clsAt, ki_int_int, ki_bool_int, ki_none_int, ki_str_int, ki_list_int, ki_tuple_int, ki_int_bool, ki_bool_bool, ki_none_bool, ki_str_bool, ki_list_bool, ki_tuple_bool, zMakeV, tRz, zNever, T.kb_bool_Run]
    exact q
  · simp only [tSeq, tAsg, tIfS, tRet, tRetN, tDrop, tNext, tPar, tPar3, gName, gSub, gTup, gCons, gNil, zV, tC, tOp, tUn, tCons, tNil, tLst, tTup, tIf, tAnd, tOr, tNot, tYes, zB, zAnd, zOr, zNot, zChain, tDNewK, yAdd, ySub, yMul, yDiv, yMod, yPow, yNeg, yLt, yLe, yGt, yGe, yEq, yNe, yIs0, yNotIs0, yIx, ySet, yIn, sqAt, isNone, zFld, zSetF, insAt, zMeth, zProp, tCall, tMake, tCB, yLen, yAbs, yMax2, yMin2, yList, yTuple, yDict0, zLM, yApp, isLst, dkAt, keyOf, zGet1, zGet2, zPop1, zPop2, zForR1, zForR2, zForL, zForT, Z.intAt, refAt, zLc, iR1, iR2, iL, iT, wipe, List.getElem?_cons_zero, List.getElem?_cons_succ, List.set_cons_zero, List.set_cons_succ, List.cons_append, List.nil_append, List.append_nil, upd_same, at0, at1, at2, ix0, ix1, ix2, upd_upd, ite_true, ite_false, if_true, if_false, Bool.false_eq_true, decide_true, decide_false, reduceIte, true_and, and_true, Option.isSome_none, Option.isSome_some, Bool.not_false, Bool.not_true, tCallN, zForR3, zMatch, zCase, zMethS, zRaiseO, yPopAt, zSl2, yIsiT, tysAt, zBInit, zOst, tXf, wAs, tMkO, zFmt, zJs, zJoin, yStr1, gLst, zCM, zListR1, zListR2, zLenR1, iR3, yInt1, yEqO, yAndO, yInO, yLenO, yReprO, isBl, Z.strAt, yEq0, yNe0, GF.zForG, GF.zLcG, GF.zListG, yIsi, tyAt, clsAt, ki_int_int, ki_bool_int, ki_none_int, ki_str_int, ki_list_int, ki_tuple_int, ki_int_bool, ki_bool_bool, ki_none_bool, ki_str_bool, ki_list_bool, ki_tuple_bool, zMakeV, tRz, zNever, T.kb_NoneType_Run]
    exact q
  · simp only [tSeq, tAsg, tIfS, tRet, tRetN, tDrop, tNext, tPar, tPar3, gName, gSub, gTup, gCons, gNil, zV, tC, tOp, tUn, tCons, tNil, tLst, tTup, tIf, tAnd, tOr, tNot, tYes, zB, zAnd, zOr, zNot, zChain, tDNewK, yAdd, ySub, yMul, yDiv, yMod, yPow, yNeg, yLt, yLe, yGt, yGe, yEq, yNe, yIs0, yNotIs0, yIx, ySet, yIn, sqAt, isNone, zFld, zSetF, insAt, zMeth, zProp, tCall, tMake, tCB, yLen, yAbs, yMax2, yMin2, yList, yTuple, yDict0, zLM, yApp, isLst, dkAt, keyOf, zGet1, zGet2, zPop1, zPop2, zForR1, zForR2, zForL, zForT, Z.intAt, refAt, zLc, iR1, iR2, iL, iT, wipe, List.getElem?_cons_zero, List.getElem?_cons_succ, List.set_cons_zero, List.set_cons_succ, List.cons_append, List.nil_append, List.append_nil, upd_same, at0, at1, at2, ix0, ix1, ix2, upd_upd, ite_true, ite_false, if_true, if_false, Bool.false_eq_true, decide_true, decide_false, reduceIte, true_and, and_true, Option.isSome_none, Option.isSome_some, Bool.not_false, Bool.not_true, tCallN, zForR3, zMatch, zCase, zMethS, zRaiseO, yPopAt, zSl2, yIsiT, tysAt, zBInit, zOst, tXf, wAs, tMkO, zFmt, zJs, zJoin, yStr1, gLst, zCM, zListR1, zListR2, zLenR1, iR3, yInt1, yEqO, yAndO, yInO, yLenO, yReprO, isBl, Z.strAt, yEq0, yNe0, GF.zForG, GF.zLcG, GF.zListG, yIsi, tyAt, clsAt, ki_int_int, ki_bool_int, ki_none_int, ki_str_int, ki_list_int, ki_tuple_int, ki_int_bool, ki_bool_bool, ki_none_bool, ki_str_bool, ki_list_bool, ki_tuple_bool, zMakeV, tRz, zNever, T.kb_str_Run]
    exact q
  · have e : eqRun K H f m (.ref a) = false := by unfold eqRun; simp only [ha]
    rw [e] at q
    simp only [tSeq, tAsg, tIfS, tRet, tRetN, tDrop, tNext, tPar, tPar3, gName, gSub, gTup, gCons, gNil, zV, tC, tOp, tUn, tCons, tNil, tLst, tTup, tIf, tAnd, tOr, tNot, tYes, zB, zAnd, zOr, zNot, zChain, tDNewK, yAdd, ySub, yMul, yDiv, yMod, yPow, yNeg, yLt, yLe, yGt, yGe, yEq, yNe, yIs0, yNotIs0, yIx, ySet, yIn, sqAt, isNone, zFld, zSetF, insAt, zMeth, zProp, tCall, tMake, tCB, yLen, yAbs, yMax2, yMin2, yList, yTuple, yDict0, zLM, yApp, isLst, dkAt, keyOf, zGet1, zGet2, zPop1, zPop2, zForR1, zForR2, zForL, zForT, Z.intAt, refAt, zLc, iR1, iR2, iL, iT, wipe, List.getElem?_cons_zero, List.getElem?_cons_succ, List.set_cons_zero, List.set_cons_succ, List.cons_append, List.nil_append, List.append_nil, upd_same, at0, at1, at2, ix0, ix1, ix2, upd_upd, ite_true, ite_false, if_true, if_false, Bool.false_eq_true, decide_true, decide_false, reduceIte, true_and, and_true, Option.isSome_none, Option.isSome_some, Bool.not_false, Bool.not_true, tCallN, zForR3, zMatch, zCase, zMethS, zRaiseO, yPopAt, zSl2, yIsiT, tysAt, zBInit, zOst, tXf, wAs, tMkO, zFmt, zJs, zJoin, yStr1, gLst, zCM, zListR1, zListR2, zLenR1, iR3, yInt1, yEqO, yAndO, yInO, yLenO, yReprO, isBl, Z.strAt, yEq0, yNe0, GF.zForG, GF.zLcG, GF.zListG, yIsi, tyAt, clsAt, ki_int_int, ki_bool_int, ki_none_int, ki_str_int, ki_list_int, ki_tuple_int, ki_int_bool, ki_bool_bool, ki_none_bool, ki_str_bool, ki_list_bool, ki_tuple_bool, zMakeV, tRz, zNever, ha, T.kb_list_Run]
    exact q
  · have e : eqRun K H f m (.ref a) = false := by unfold eqRun; simp only [ha]
    rw [e] at q
    simp only [tSeq, tAsg, tIfS, tRet, tRetN, tDrop, tNext, tPar, tPar3, gName, gSub, gTup, gCons, gNil, zV, tC, tOp, tUn, tCons, tNil, tLst, tTup, tIf, tAnd, tOr, tNot, tYes, zB, zAnd, zOr, zNot, zChain, tDNewK, yAdd, ySub, yMul, yDiv, yMod, yPow, yNeg, yLt, yLe, yGt, yGe, yEq, yNe, yIs0, yNotIs0, yIx, ySet, yIn, sqAt, isNone, zFld, zSetF, insAt, zMeth, zProp, tCall, tMake, tCB, yLen, yAbs, yMax2, yMin2, yList, yTuple, yDict0, zLM, yApp, isLst, dkAt, keyOf, zGet1, zGet2, zPop1, zPop2, zForR1, zForR2, zForL, zForT, Z.intAt, refAt, zLc, iR1, iR2, iL, iT, wipe, List.getElem?_cons_zero, List.getElem?_cons_succ, List.set_cons_zero, List.set_cons_succ, List.cons_append, List.nil_append, List.append_nil, upd_same, at0, at1, at2, ix0, ix1, ix2, upd_upd, ite_true, ite_false, if_true, if_false, Bool.false_eq_true, decide_true, decide_false, reduceIte, true_and, and_true, Option.isSome_none, Option.isSome_some, Bool.not_false, Bool.not_true, tCallN, zForR3, zMatch, zCase, zMethS, zRaiseO, yPopAt, zSl2, yIsiT, tysAt, zBInit, zOst, tXf, wAs, tMkO, zFmt, zJs, zJoin, yStr1, gLst, zCM, zListR1, zListR2, zLenR1, iR3, yInt1, yEqO, yAndO, yInO, yLenO, yReprO, isBl, Z.strAt, yEq0, yNe0, GF.zForG, GF.zLcG, GF.zListG, yIsi, tyAt, clsAt, ki_int_int, ki_bool_int, ki_none_int, ki_str_int, ki_list_int, ki_tuple_int, ki_int_bool, ki_bool_bool, ki_none_bool, ki_str_bool, ki_list_bool, ki_tuple_bool, zMakeV, tRz, zNever, ha, T.kb_tuple_Run]
    exact q
  · rw [eqRun_run hR] at q
    obtain ⟨dy, ha⟩ := hR
    simp only [tSeq, tAsg, tIfS, tRet, tRetN, tDrop, tNext, tPar, tPar3, gName, gSub, gTup, gCons, gNil, zV, tC, tOp, tUn, tCons, tNil, tLst, tTup, tIf, tAnd, tOr, tNot, tYes, zB, zAnd, zOr, zNot, zChain, tDNewK, yAdd, ySub, yMul, yDiv, yMod, yPow, yNeg, yLt, yLe, yGt, yGe, yEq, yNe, yIs0, yNotIs0, yIx, ySet, yIn, sqAt, isNone, zFld, zSetF, insAt, zMeth, zProp, tCall, tMake, tCB, yLen, yAbs, yMax2, yMin2, yList, yTuple, yDict0, zLM, yApp, isLst, dkAt, keyOf, zGet1, zGet2, zPop1, zPop2, zForR1, zForR2, zForL, zForT, Z.intAt, refAt, zLc, iR1, iR2, iL, iT, wipe, List.getElem?_cons_zero, List.getElem?_cons_succ, List.set_cons_zero, List.set_cons_succ, List.cons_append, List.nil_append, List.append_nil, upd_same, at0, at1, at2, ix0, ix1, ix2, upd_upd, ite_true, ite_false, if_true, if_false, Bool.false_eq_true, decide_true, decide_false, reduceIte, true_and, and_true, Option.isSome_none, Option.isSome_some, Bool.not_false, Bool.not_true, tCallN, zForR3, zMatch, zCase, zMethS, zRaiseO, yPopAt, zSl2, yIsiT, tysAt, zBInit, zOst, tXf, wAs, tMkO, zFmt, zJs, zJoin, yStr1, gLst, zCM, zListR1, zListR2, zLenR1, iR3, yInt1, yEqO, yAndO, yInO, yLenO, yReprO, isBl, Z.strAt, yEq0, yNe0, GF.zForG, GF.zLcG, GF.zListG, yIsi, tyAt, clsAt, ki_int_int, ki_bool_int, ki_none_int, ki_str_int, ki_list_int, ki_tuple_int, ki_int_bool, ki_bool_bool, ki_none_bool, ki_str_bool, ki_list_bool, ki_tuple_bool, zMakeV, tRz, zNever, ha, T.ki_Run_Run, hr, lk_Run_first, lk_Run_many]
    refine ⟨T.i_Run, ⟨T.cl_Run, T.na_Run_first⟩, ⟨T.cl_Run, T.na_Run_first⟩, ?_⟩
    by_cases h1 : f = g
    · rw [decide_eq_true h1]
      simp only [tSeq, tAsg, tIfS, tRet, tRetN, tDrop, tNext, tPar, tPar3, gName, gSub, gTup, gCons, gNil, zV, tC, tOp, tUn, tCons, tNil, tLst, tTup, tIf, tAnd, tOr, tNot, tYes, zB, zAnd, zOr, zNot, zChain, tDNewK, yAdd, ySub, yMul, yDiv, yMod, yPow, yNeg, yLt, yLe, yGt, yGe, yEq, yNe, yIs0, yNotIs0, yIx, ySet, yIn, sqAt, isNone, zFld, zSetF, insAt, zMeth, zProp, tCall, tMake, tCB, yLen, yAbs, yMax2, yMin2, yList, yTuple, yDict0, zLM, yApp, isLst, dkAt, keyOf, zGet1, zGet2, zPop1, zPop2, zForR1, zForR2, zForL, zForT, Z.intAt, refAt, zLc, iR1, iR2, iL, iT, wipe, List.getElem?_cons_zero, List.getElem?_cons_succ, List.set_cons_zero, List.set_cons_succ, List.cons_append, List.nil_append, List.append_nil, upd_same, at0, at1, at2, ix0, ix1, ix2, upd_upd, ite_true, ite_false, if_true, if_false, Bool.false_eq_true, decide_true, decide_false, reduceIte, true_and, and_true, Option.isSome_none, Option.isSome_some, Bool.not_false, Bool.not_true, tCallN, zForR3, zMatch, zCase, zMethS, zRaiseO, yPopAt, zSl2, yIsiT, tysAt, zBInit, zOst, tXf, wAs, tMkO, zFmt, zJs, zJoin, yStr1, gLst, zCM, zListR1, zListR2, zLenR1, iR3, yInt1, yEqO, yAndO, yInO, yLenO, yReprO, isBl, Z.strAt, yEq0, yNe0, GF.zForG, GF.zLcG, GF.zListG, yIsi, tyAt, clsAt, ki_int_int, ki_bool_int, ki_none_int, ki_str_int, ki_list_int, ki_tuple_int, ki_int_bool, ki_bool_bool, ki_none_bool, ki_str_bool, ki_list_bool, ki_tuple_bool, zMakeV, tRz, zNever]
      refine ⟨⟨T.cl_Run, T.na_Run_many⟩, ⟨T.cl_Run, T.na_Run_many⟩, ?_⟩
      simpa [h1] using q
    · rw [decide_eq_false h1]
      simp only [tSeq, tAsg, tIfS, tRet, tRetN, tDrop, tNext, tPar, tPar3, gName, gSub, gTup, gCons, gNil, zV, tC, tOp, tUn, tCons, tNil, tLst, tTup, tIf, tAnd, tOr, tNot, tYes, zB, zAnd, zOr, zNot, zChain, tDNewK, yAdd, ySub, yMul, yDiv, yMod, yPow, yNeg, yLt, yLe, yGt, yGe, yEq, yNe, yIs0, yNotIs0, yIx, ySet, yIn, sqAt, isNone, zFld, zSetF, insAt, zMeth, zProp, tCall, tMake, tCB, yLen, yAbs, yMax2, yMin2, yList, yTuple, yDict0, zLM, yApp, isLst, dkAt, keyOf, zGet1, zGet2, zPop1, zPop2, zForR1, zForR2, zForL, zForT, Z.intAt, refAt, zLc, iR1, iR2, iL, iT, wipe, List.getElem?_cons_zero, List.getElem?_cons_succ, List.set_cons_zero, List.set_cons_succ, List.cons_append, List.nil_append, List.append_nil, upd_same, at0, at1, at2, ix0, ix1, ix2, upd_upd, ite_true, ite_false, if_true, if_false, Bool.false_eq_true, decide_true, decide_false, reduceIte, true_and, and_true, Option.isSome_none, Option.isSome_some, Bool.not_false, Bool.not_true, tCallN, zForR3, zMatch, zCase, zMethS, zRaiseO, yPopAt, zSl2, yIsiT, tysAt, zBInit, zOst, tXf, wAs, tMkO, zFmt, zJs, zJoin, yStr1, gLst, zCM, zListR1, zListR2, zLenR1, iR3, yInt1, yEqO, yAndO, yInO, yLenO, yReprO, isBl, Z.strAt, yEq0, yNe0, GF.zForG, GF.zLcG, GF.zListG, yIsi, tyAt, clsAt, ki_int_int, ki_bool_int, ki_none_int, ki_str_int, ki_list_int, ki_tuple_int, ki_int_bool, ki_bool_bool, ki_none_bool, ki_str_bool, ki_list_bool, ki_tuple_bool, zMakeV, tRz, zNever]
      simpa [h1] using q

theorem bag_lst {o : HO} {n : Int} (h : BagO o n) : ∃ xs, o = .lst xs := by
  obtain ⟨L, M, z, rfl, _⟩ := h
  exact ⟨_, rfl⟩
theorem BagO.mono {o : HO} {n n' : Int} (h : BagO o n) (l : n ≤ n') : BagO o n' := by
  obtain ⟨L, M, z, rfl, q1, q2, q3, q4, q5⟩ := h
  exact ⟨L, M, z, rfl, q1, q2, q3, q4, by omega⟩
theorem at_of4 {a b c e d : Int} (h0 : 0 ≤ d) (h1 : d < 4) : ∃ u, atI [V.int a, V.int b, V.int c, V.int e] d = some (.int u) ∧ (u = a ∨ u = b ∨ u = c ∨ u = e) := by
  have : d = 0 ∨ d = 1 ∨ d = 2 ∨ d = 3 := by omega
  rcases this with rfl | rfl | rfl | rfl
  · exact ⟨a, rfl, .inl rfl⟩
  · exact ⟨b, rfl, .inr (.inl rfl)⟩
  · exact ⟨c, rfl, .inr (.inr (.inl rfl))⟩
  · exact ⟨e, rfl, .inr (.inr (.inr rfl))⟩
theorem at_of3 {a b c d : Int} (h0 : 0 ≤ d) (h1 : d < 3) : ∃ u, atI [V.int a, V.int b, V.int c] d = some (.int u) ∧ (u = a ∨ u = b ∨ u = c) := by
  have : d = 0 ∨ d = 1 ∨ d = 2 := by omega
  rcases this with rfl | rfl | rfl
  · exact ⟨a, rfl, .inl rfl⟩
  · exact ⟨b, rfl, .inr (.inl rfl)⟩
  · exact ⟨c, rfl, .inr (.inr rfl)⟩
/-- the words walked -/
theorem words_ti {K : PySem.W.Frag} {H : Hp} {r : Addr} {f m : Int} {R : It → Hp → Prop} {mg : Str → Option Value} (T : Top K mg) (h : RunAt K H r f m) (ok : RunOk f m) (q : R (Itr f m.toNat) H) : ti_Run_words K (start nm_Run_words [.ref r]) H R := by
  obtain ⟨o1, o2, o3, o4⟩ := ok
  rw [start_Run_words]
  unfold ti_Run_words
  obtain ⟨dx, hr⟩ := id h
  simp only [tSeq, tAsg, tIfS, tRet, tRetN, tDrop, tNext, tPar, tPar3, gName, gSub, gTup, gCons, gNil, zV, tC, tOp, tUn, tCons, tNil, tLst, tTup, tIf, tAnd, tOr, tNot, tYes, zB, zAnd, zOr, zNot, zChain, tDNewK, yAdd, ySub, yMul, yDiv, yMod, yPow, yNeg, yLt, yLe, yGt, yGe, yEq, yNe, yIs0, yNotIs0, yIx, ySet, yIn, sqAt, isNone, zFld, zSetF, insAt, zMeth, zProp, tCall, tMake, tCB, yLen, yAbs, yMax2, yMin2, yList, yTuple, yDict0, zLM, yApp, isLst, dkAt, keyOf, zGet1, zGet2, zPop1, zPop2, zForR1, zForR2, zForL, zForT, Z.intAt, refAt, zLc, iR1, iR2, iL, iT, wipe, List.getElem?_cons_zero, List.getElem?_cons_succ, List.set_cons_zero, List.set_cons_succ, List.cons_append, List.nil_append, List.append_nil, upd_same, at0, at1, at2, ix0, ix1, ix2, upd_upd, ite_true, ite_false, if_true, if_false, Bool.false_eq_true, decide_true, decide_false, reduceIte, true_and, and_true, Option.isSome_none, Option.isSome_some, Bool.not_false, Bool.not_true, tCallN, zForR3, zMatch, zCase, zMethS, zRaiseO, yPopAt, zSl2, yIsiT, tysAt, zBInit, zOst, tXf, wAs, tMkO, zFmt, zJs, zJoin, yStr1, gLst, zCM, zListR1, zListR2, zLenR1, iR3, yInt1, yEqO, yAndO, yInO, yLenO, yReprO, isBl, Z.strAt, yEq0, yNe0, GF.zForG, GF.zLcG, GF.zListG, yIsi, tyAt, clsAt, ki_int_int, ki_bool_int, ki_none_int, ki_str_int, ki_list_int, ki_tuple_int, ki_int_bool, ki_bool_bool, ki_none_bool, ki_str_bool, ki_list_bool, ki_tuple_bool, zMakeV, tRz, zNever, hr, lk_Run_first]
  refine ⟨⟨T.cl_Run, T.na_Run_first⟩, r, f, m, rfl, h, ?_⟩
  simp only [tSeq, tAsg, tIfS, tRet, tRetN, tDrop, tNext, tPar, tPar3, gName, gSub, gTup, gCons, gNil, zV, tC, tOp, tUn, tCons, tNil, tLst, tTup, tIf, tAnd, tOr, tNot, tYes, zB, zAnd, zOr, zNot, zChain, tDNewK, yAdd, ySub, yMul, yDiv, yMod, yPow, yNeg, yLt, yLe, yGt, yGe, yEq, yNe, yIs0, yNotIs0, yIx, ySet, yIn, sqAt, isNone, zFld, zSetF, insAt, zMeth, zProp, tCall, tMake, tCB, yLen, yAbs, yMax2, yMin2, yList, yTuple, yDict0, zLM, yApp, isLst, dkAt, keyOf, zGet1, zGet2, zPop1, zPop2, zForR1, zForR2, zForL, zForT, Z.intAt, refAt, zLc, iR1, iR2, iL, iT, wipe, List.getElem?_cons_zero, List.getElem?_cons_succ, List.set_cons_zero, List.set_cons_succ, List.cons_append, List.nil_append, List.append_nil, upd_same, at0, at1, at2, ix0, ix1, ix2, upd_upd, ite_true, ite_false, if_true, if_false, Bool.false_eq_true, decide_true, decide_false, reduceIte, true_and, and_true, Option.isSome_none, Option.isSome_some, Bool.not_false, Bool.not_true, tCallN, zForR3, zMatch, zCase, zMethS, zRaiseO, yPopAt, zSl2, yIsiT, tysAt, zBInit, zOst, tXf, wAs, tMkO, zFmt, zJs, zJoin, yStr1, gLst, zCM, zListR1, zListR2, zLenR1, iR3, yInt1, yEqO, yAndO, yInO, yLenO, yReprO, isBl, Z.strAt, yEq0, yNe0, GF.zForG, GF.zLcG, GF.zListG, yIsi, tyAt, clsAt, ki_int_int, ki_bool_int, ki_none_int, ki_str_int, ki_list_int, ki_tuple_int, ki_int_bool, ki_bool_bool, ki_none_bool, ki_str_bool, ki_list_bool, ki_tuple_bool, zMakeV, tRz, zNever]
  refine ⟨⟨by omega, by omega, by omega, by omega⟩, ?_⟩
  rw [show f + m - f = m by omega]
  exact q

/-! ### the plain law of segments -/
theorem okB_mono {bd : Option Int} (hb : BdOk bd) {f v w : Int} (h1 : f ≤ v) (h2 : v ≤ w) (h : okB bd f w = true) : okB bd f v = true := by
  cases bd with
  | none => rfl
  | some b =>
    have b0 := (hb b rfl).1
    have e : f / b = w / b := by simpa [okB] using h
    have l1 : f / b ≤ v / b := Int.ediv_le_ediv b0 h1
    have l2 : v / b ≤ w / b := Int.ediv_le_ediv b0 h2
    exact decide_eq_true (by omega)
theorem rgI_succ (f : Int) (n : Nat) : rgI f (n + 1) = rgI f n ++ [f + (n : Int)] := by unfold rgI; rw [List.range_succ, List.map_append] <;> rfl
theorem rgI_cons (f : Int) (n : Nat) : rgI f (n + 1) = f :: rgI (f + 1) n := by
  unfold rgI
  rw [List.range_succ_eq_map, List.map_cons, List.map_map]
  congr 1
  · omega
  · apply List.map_congr_left
    intro i _
    simp only [Function.comp]
    push_cast
    omega
theorem rgI_len (f : Int) (n : Nat) : (rgI f n).length = n := by unfold rgI; rw [List.length_map, List.length_range]
theorem wordsOf_append (A B : List (Int × Int)) : wordsOf (A ++ B) = wordsOf A ++ wordsOf B := List.flatMap_append
theorem wordsOf_one (p : Int × Int) : wordsOf [p] = rgI p.1 p.2.toNat := by unfold wordsOf; simp
section
variable {most : Int} {bd : Option Int}
theorem step_nil {w : Int} : stepS most bd [] w = [(w, 1)] := rfl
theorem step_snoc {A : List (Int × Int)} {p : Int × Int} {w : Int} : stepS most bd (A ++ [p]) w = if (p.1 + p.2 = w ∧ p.2 < most) ∧ okB bd p.1 w = true then A ++ [(p.1, p.2 + 1)] else (A ++ [p]) ++ [(w, 1)] := by
  unfold stepS
  rw [List.getLast?_concat, List.dropLast_concat]
theorem last_of {F : List (Int × Int)} (h : F ≠ []) : ∃ A p, F = A ++ [p] := ⟨F.dropLast, F.getLast h, (List.dropLast_concat_getLast h).symm⟩
theorem segs_snoc {ws : List Int} {w : Int} : segs most bd (ws ++ [w]) = stepS most bd (segs most bd ws) w := by unfold segs; rw [List.foldl_append]; rfl
theorem step_ne {F : List (Int × Int)} {w : Int} : stepS most bd F w ≠ [] := by
  unfold stepS
  split
  · simp
  · split <;> simp
/-- what each segment keeps -/
def SegOk (most : Int) (bd : Option Int) (p : Int × Int) : Prop := 1 ≤ p.2 ∧ p.2 ≤ most ∧ okB bd p.1 (p.1 + p.2 - 1) = true
theorem okB_self {f : Int} : okB bd f f = true := by cases bd <;> simp [okB]
theorem segs_ok (hm : 1 ≤ most) (ws : List Int) : (∀ p ∈ segs most bd ws, SegOk most bd p) ∧ wordsOf (segs most bd ws) = ws := by
  have key : ∀ n (ws : List Int), ws.length = n → (∀ p ∈ segs most bd ws, SegOk most bd p) ∧ wordsOf (segs most bd ws) = ws := by
    intro n
    induction n with
    | zero =>
      intro ws h
      have e : ws = [] := List.length_eq_zero_iff.mp h
      subst e
      exact ⟨fun p hp => absurd hp (by simp [segs]), rfl⟩
    | succ n ih =>
      intro ws h
      have hne : ws ≠ [] := by intro e; rw [e] at h; cases h
      obtain ⟨A, w, rfl⟩ : ∃ A w, ws = A ++ [w] := ⟨ws.dropLast, ws.getLast hne, (List.dropLast_concat_getLast hne).symm⟩
      have hA : A.length = n := by simpa using h
      obtain ⟨h1, h2⟩ := ih A hA
      rw [segs_snoc]
      by_cases hF : segs most bd A = []
      · rw [hF] at h2 ⊢
        rw [step_nil]
        refine ⟨fun p hp => ?_, ?_⟩
        · rw [List.mem_singleton.mp hp]
          refine ⟨by simp, hm, ?_⟩
          show okB bd w (w + 1 - 1) = true
          rw [show w + 1 - 1 = w by omega]
          exact okB_self
        · rw [← h2, wordsOf_one]
          simp [wordsOf, rgI]
      · obtain ⟨B, p, e⟩ := last_of hF
        rw [e] at h1 h2 ⊢
        rw [step_snoc]
        have hp := h1 p (by simp)
        split
        · rename_i c
          obtain ⟨⟨c1, c2⟩, c3⟩ := c
          refine ⟨fun q hq => ?_, ?_⟩
          · rcases List.mem_append.mp hq with hq | hq
            · exact h1 q (List.mem_append_left _ hq)
            · rw [List.mem_singleton.mp hq]
              refine ⟨by have := hp.1; simp only; omega, by simp only; omega, ?_⟩
              show okB bd p.1 (p.1 + (p.2 + 1) - 1) = true
              rw [show p.1 + (p.2 + 1) - 1 = w by omega]
              exact c3
          · rw [← h2, wordsOf_append, wordsOf_append, wordsOf_one, wordsOf_one, List.append_assoc]
            congr 1
            have := hp.1
            show rgI p.1 (p.2 + 1).toNat = _
            rw [show (p.2 + 1).toNat = p.2.toNat + 1 by omega, rgI_succ, show p.1 + (p.2.toNat : Int) = w by omega]
        · refine ⟨fun q hq => ?_, ?_⟩
          · rcases List.mem_append.mp hq with hq | hq
            · exact h1 q hq
            · rw [List.mem_singleton.mp hq]
              refine ⟨by simp, hm, ?_⟩
              show okB bd w (w + 1 - 1) = true
              rw [show w + 1 - 1 = w by omega]
              exact okB_self
          · rw [wordsOf_append, h2, wordsOf_one]
            simp [rgI]
  exact key _ ws rfl
/-- how many more words join -/
def joins (most : Int) (bd : Option Int) (f : Int) : Int → List Int → Nat
  | _, [] => 0
  | m, w :: ws => if (f + m = w ∧ m < most) ∧ okB bd f w = true then joins most bd f (m + 1) ws + 1 else 0
theorem joins_le {f : Int} : ∀ {m : Int} {ws : List Int}, joins most bd f m ws ≤ ws.length
  | _, [] => Nat.le_refl _
  | m, w :: ws => by
    unfold joins
    split
    · exact Nat.succ_le_succ joins_le
    · exact Nat.zero_le _
theorem fold_pre (A : List (Int × Int)) : ∀ (ws : List Int) (F : List (Int × Int)), F ≠ [] → ws.foldl (stepS most bd) (A ++ F) = A ++ ws.foldl (stepS most bd) F
  | [], _, _ => rfl
  | w :: ws, F, hF => by
    obtain ⟨B, p, rfl⟩ := last_of hF
    have e : stepS most bd (A ++ (B ++ [p])) w = A ++ stepS most bd (B ++ [p]) w := by
      rw [← List.append_assoc, step_snoc, step_snoc]
      split <;> simp
    rw [List.foldl_cons, List.foldl_cons, e]
    exact fold_pre A ws _ step_ne
theorem fold_one (f : Int) : ∀ (ws : List Int) (m : Int), ws.foldl (stepS most bd) [(f, m)] = (f, m + ((joins most bd f m ws : Nat) : Int)) :: segs most bd (ws.drop (joins most bd f m ws))
  | [], m => by simp [joins, segs]
  | w :: ws, m => by
    rw [List.foldl_cons]
    have e := step_snoc (most := most) (bd := bd) (A := []) (p := (f, m)) (w := w)
    rw [List.nil_append] at e
    rw [e]
    unfold joins
    split
    · rw [List.nil_append, fold_one f ws (m + 1), List.drop_succ_cons]
      congr 2
      push_cast
      omega
    · rw [fold_pre _ _ _ (by simp)]
      simp [segs, step_nil]
theorem segs_cons (w : Int) (ws : List Int) : segs most bd (w :: ws) = (w, 1 + ((joins most bd w 1 ws : Nat) : Int)) :: segs most bd (ws.drop (joins most bd w 1 ws)) := fold_one w ws 1
/-- the number of segments -/
def cnt (most : Int) (bd : Option Int) (ws : List Int) : Nat := (segs most bd ws).length
theorem cnt_nil : cnt most bd [] = 0 := rfl
theorem cnt_cons (w : Int) (ws : List Int) : cnt most bd (w :: ws) = cnt most bd (ws.drop (joins most bd w 1 ws)) + 1 := by unfold cnt; rw [segs_cons, List.length_cons]
/-- the words that join are consecutive -/
theorem joins_get {f : Int} : ∀ {m : Int} {ws : List Int} {i : Nat}, i < joins most bd f m ws → ws[i]? = some (f + m + i) ∧ m + i < most ∧ okB bd f (f + m + i) = true
  | m, [], i, h => by simp [joins] at h
  | m, w :: ws, i, h => by
    unfold joins at h
    split at h
    · rename_i c
      obtain ⟨⟨c1, c2⟩, c3⟩ := c
      cases i with
      | zero => exact ⟨by simp [c1], by simpa using c2, by simpa [c1] using c3⟩
      | succ i =>
        have r := joins_get (f := f) (m := m + 1) (ws := ws) (i := i) (by omega)
        refine ⟨?_, ?_, ?_⟩
        · rw [List.getElem?_cons_succ, r.1]
          congr 1
          push_cast
          omega
        · have := r.2.1
          push_cast
          omega
        · have := r.2.2
          rw [show f + m + ((i + 1 : Nat) : Int) = f + (m + 1) + (i : Int) by push_cast; omega]
          exact this
    · omega
/-- and every fitting row of consecutive words joins -/
theorem joins_ge {f : Int} : ∀ {m : Int} {ws : List Int} {k : Nat}, (∀ i, i < k → ws[i]? = some (f + m + i) ∧ m + i < most ∧ okB bd f (f + m + i) = true) → k ≤ joins most bd f m ws
  | _, _, 0, _ => Nat.zero_le _
  | m, [], k + 1, h => by have := (h 0 (by omega)).1; simp at this
  | m, w :: ws, k + 1, h => by
    obtain ⟨a, b, c⟩ := h 0 (by omega)
    have e : w = f + m := by simpa using a
    unfold joins
    rw [if_pos ⟨⟨e.symm, by simpa using b⟩, by rw [e]; simpa using c⟩]
    refine Nat.succ_le_succ (joins_ge fun i hi => ?_)
    obtain ⟨a, b, c⟩ := h (i + 1) (by omega)
    rw [List.getElem?_cons_succ] at a
    refine ⟨?_, by push_cast at b; omega, ?_⟩
    · rw [a]
      congr 1
      push_cast
      omega
    · rw [show f + (m + 1) + (i : Int) = f + m + ((i + 1 : Nat) : Int) by push_cast; omega]
      exact c
end
theorem okB_from {bd : Option Int} (hb : BdOk bd) {f g w : Int} (h1 : f ≤ g) (h2 : g ≤ w) (h : okB bd f w = true) : okB bd g w = true := by
  have := okB_mono hb h1 h2 h
  cases bd with
  | none => rfl
  | some b =>
    simp only [okB, decide_eq_true_eq] at h this ⊢
    omega
/-- fewer words take no more segments -/
theorem cnt_drop {most : Int} {bd : Option Int} (hm : 1 ≤ most) (hb : BdOk bd) : ∀ (n : Nat) (ws : List Int), ws.length ≤ n → ∀ j, cnt most bd (ws.drop j) ≤ cnt most bd ws := by
  intro n
  induction n with
  | zero =>
    intro ws h j
    have e : ws = [] := List.length_eq_zero_iff.mp (by omega)
    rw [e, List.drop_nil]
    exact Nat.le_refl _
  | succ n ih =>
    have one : ∀ (w : Int) (ws : List Int), ws.length ≤ n → cnt most bd ws ≤ cnt most bd (w :: ws) := by
      intro w ws hl
      rw [cnt_cons]
      cases hj : joins most bd w 1 ws with
      | zero => rw [List.drop_zero]; omega
      | succ r =>
        cases ws with
        | nil => rw [cnt_nil]; omega
        | cons v ws =>
          have g0 := joins_get (most := most) (bd := bd) (f := w) (m := 1) (ws := v :: ws) (i := 0) (by omega)
          have ev : v = w + 1 := by simpa using g0.1
          rw [cnt_cons, List.drop_succ_cons]
          have ge : r ≤ joins most bd v 1 ws := by
            refine joins_ge fun i hi => ?_
            obtain ⟨a, b, c⟩ := joins_get (most := most) (bd := bd) (f := w) (m := 1) (ws := v :: ws) (i := i + 1) (by omega)
            rw [List.getElem?_cons_succ] at a
            refine ⟨?_, by push_cast at b; omega, ?_⟩
            · rw [a, ev]
              congr 1
              push_cast
              omega
            · rw [show v + 1 + (i : Int) = w + 1 + ((i + 1 : Nat) : Int) by push_cast; omega]
              exact okB_from hb (by omega) (by push_cast; omega) c
          have e : ws.drop (joins most bd v 1 ws) = (ws.drop r).drop (joins most bd v 1 ws - r) := by rw [List.drop_drop]; congr 1; omega
          rw [e]
          have := ih (ws.drop r) (by rw [List.length_drop]; simp only [List.length_cons] at hl; omega) (joins most bd v 1 ws - r)
          omega
    intro ws h j
    cases ws with
    | nil => rw [List.drop_nil]; exact Nat.le_refl _
    | cons w ws =>
      cases j with
      | zero => exact Nat.le_refl _
      | succ j =>
        rw [List.drop_succ_cons]
        have hl : ws.length ≤ n := by simpa using h
        exact Nat.le_trans (ih ws hl j) (one w ws hl)
/-- weaker bounds take no more segments -/
theorem cnt_weak {most most' : Int} {bd bd' : Option Int} (hm : 1 ≤ most) (hm' : most ≤ most') (hb' : BdOk bd') (hw : ∀ f w, f ≤ w → okB bd f w = true → okB bd' f w = true) : ∀ (n : Nat) (ws : List Int), ws.length ≤ n → cnt most' bd' ws ≤ cnt most bd ws := by
  intro n
  induction n with
  | zero =>
    intro ws h
    have e : ws = [] := List.length_eq_zero_iff.mp (by omega)
    rw [e]
    exact Nat.le_refl _
  | succ n ih =>
    intro ws h
    cases ws with
    | nil => exact Nat.le_refl _
    | cons w ws =>
      rw [cnt_cons, cnt_cons]
      have ge : joins most bd w 1 ws ≤ joins most' bd' w 1 ws := joins_ge fun i hi => by
        obtain ⟨a, b, c⟩ := joins_get hi
        exact ⟨a, by omega, hw _ _ (by omega) c⟩
      have e : ws.drop (joins most' bd' w 1 ws) = (ws.drop (joins most bd w 1 ws)).drop (joins most' bd' w 1 ws - joins most bd w 1 ws) := by rw [List.drop_drop]; congr 1; omega
      have h1 := ih (ws.drop (joins most bd w 1 ws)) (by rw [List.length_drop]; simp only [List.length_cons] at h; omega)
      have h2 := cnt_drop (most := most') (bd := bd') (by omega) hb' _ (ws.drop (joins most bd w 1 ws)) (Nat.le_refl _) (joins most' bd' w 1 ws - joins most bd w 1 ws)
      rw [← e] at h2
      omega

theorem rgI_get (f : Int) {n i : Nat} (h : i < n) : (rgI f n)[i]? = some (f + (i : Int)) := by
  unfold rgI
  rw [List.getElem?_map, List.getElem?_range h]
  rfl
theorem rgI_last (f : Int) (n : Nat) : (rgI f (n + 1)).getLastD 0 = f + (n : Int) := by
  rw [rgI_succ]
  simp
theorem rgI_head (f : Int) (n : Nat) : (rgI f (n + 1)).headD 0 = f := by
  rw [rgI_cons]
  rfl
theorem al_rg {most : Int} {bd : Option Int} {f : Int} {n : Nat} : alB most bd (rgI f (n + 1)) = (decide (((n + 1 : Nat) : Int) ≤ most) && okB bd f (f + (n : Int))) := by
  unfold alB
  rw [rgI_len, rgI_head, rgI_last, decide_eq_true (rfl : rgI f (n + 1) = rgI f (n + 1)), Bool.true_and]
theorem al_take {most : Int} {bd : Option Int} (hm : 1 ≤ most) (hb : BdOk bd) {w : Int} {ws : List Int} {k : Nat} (hk : k + 1 ≤ (w :: ws).length) : alB most bd ((w :: ws).take (k + 1)) = true ↔ k ≤ joins most bd w 1 ws := by
  have hl : ((w :: ws).take (k + 1)).length = k + 1 := by rw [List.length_take]; omega
  have hd : ((w :: ws).take (k + 1)).headD 0 = w := rfl
  constructor
  · intro h
    unfold alB at h
    rw [hl, hd] at h
    simp only [Bool.and_eq_true, decide_eq_true_eq] at h
    obtain ⟨h1, h2, h3⟩ := h
    rw [h2, rgI_last] at h3
    refine joins_ge fun i hi => ?_
    have g : ((w :: ws).take (k + 1))[i + 1]? = some (w + ((i + 1 : Nat) : Int)) := by rw [h2]; exact rgI_get w (by omega)
    rw [List.getElem?_take_of_lt (by omega), List.getElem?_cons_succ] at g
    refine ⟨by rw [g]; congr 1; push_cast; omega, by push_cast at h1; omega, ?_⟩
    exact okB_mono hb (by omega) (by omega) h3
  · intro h
    have e : (w :: ws).take (k + 1) = rgI w (k + 1) := by
      apply List.ext_getElem?
      intro i
      by_cases hi : i < k + 1
      · rw [List.getElem?_take_of_lt hi, rgI_get w hi]
        cases i with
        | zero => simp
        | succ i =>
          rw [List.getElem?_cons_succ, (joins_get (most := most) (bd := bd) (f := w) (m := 1) (i := i) (by omega)).1]
          congr 1
          push_cast
          omega
      · rw [List.getElem?_eq_none (by omega), List.getElem?_eq_none (by rw [rgI_len]; omega)]
    rw [e, al_rg]
    simp only [Bool.and_eq_true, decide_eq_true_eq]
    cases k with
    | zero => exact ⟨by simpa using hm, by simpa using okB_self⟩
    | succ k =>
      obtain ⟨_, b, c⟩ := joins_get (most := most) (bd := bd) (f := w) (m := 1) (ws := ws) (i := k) (by omega)
      refine ⟨by push_cast; omega, ?_⟩
      rw [show w + ((k + 1 : Nat) : Int) = w + 1 + (k : Int) by push_cast; omega]
      exact c
/-- the least number over all allowed first rows -/
theorem least_one {most : Int} {bd : Option Int} (hm : 1 ≤ most) (hb : BdOk bd) {L : List Int} (hL : L ≠ []) {P : Nat → Prop} (hP : ∀ k, P k ↔ (1 ≤ k ∧ k ≤ L.length ∧ (k : Int) ≤ most ∧ alB most bd (L.take k) = true)) :
    (∃ k, P k ∧ cnt most bd L = cnt most bd (L.drop k) + 1) ∧ ∀ k, P k → cnt most bd L ≤ cnt most bd (L.drop k) + 1 := by
  cases L with
  | nil => exact absurd rfl hL
  | cons w ws =>
    have jl := joins_le (most := most) (bd := bd) (f := w) (m := 1) (ws := ws)
    refine ⟨⟨joins most bd w 1 ws + 1, ?_, ?_⟩, ?_⟩
    · rw [hP]
      refine ⟨by omega, by rw [List.length_cons]; omega, ?_, (al_take hm hb (by rw [List.length_cons]; omega)).mpr (Nat.le_refl _)⟩
      cases hj : joins most bd w 1 ws with
      | zero => simpa using hm
      | succ j =>
        have := (joins_get (most := most) (bd := bd) (f := w) (m := 1) (ws := ws) (i := j) (by omega)).2.1
        push_cast
        omega
    · rw [cnt_cons, List.drop_succ_cons]
    · intro k hk
      obtain ⟨k1, k2, k3, k4⟩ := (hP k).mp hk
      cases k with
      | zero => omega
      | succ k =>
        have le := (al_take hm hb (by omega)).mp k4
        rw [cnt_cons, List.drop_succ_cons]
        have e : ws.drop (joins most bd w 1 ws) = (ws.drop k).drop (joins most bd w 1 ws - k) := by rw [List.drop_drop]; congr 1; omega
        have := cnt_drop hm hb _ (ws.drop k) (Nat.le_refl _) (joins most bd w 1 ws - k)
        rw [← e] at this
        omega

/-! ### the readings of segments -/
theorem RunsAt.same {K : PySem.W.Frag} {H H' : Hp} {a : Addr} {R : List (Int × Int)} (h : RunsAt K H a R) (s : Same H H') : RunsAt K H' a R := by
  obtain ⟨G, h1, h2, h3⟩ := h
  exact ⟨G, s _ _ h1, fun e he => (h2 e he).same s, h3⟩
def Fd (H0 H : Hp) (p : Addr) (F : List (Int × Int)) : Prop := Same H0 H ∧ H0 p = none ∧ ∃ ls : List (Addr × Int × Int), H p = some (.lst (ls.map fun e => V.ref e.1)) ∧ (∀ e ∈ ls, H e.1 = some (.lst [.int e.2.1, .int e.2.2]) ∧ H0 e.1 = none ∧ e.1 ≠ p) ∧ (ls.map (·.1)).Nodup ∧ ls.map (·.2) = F
theorem atI_last {α : Type} {A : List α} {x : α} : atI (A ++ [x]) (-1) = some x := by
  unfold atI ixN
  rw [if_neg (by decide), if_pos (by rw [List.length_append]; simp only [List.length_singleton]; omega)]
  rw [show (-1 + (((A ++ [x]).length : Nat) : Int)).toNat = A.length by rw [List.length_append]; simp only [List.length_singleton]; omega]
  simp
theorem seg_step {K : PySem.W.Frag} {mg : Str → Option Value} (T : Top K mg) {H0 H : Hp} {p : Addr} {F : List (Int × Int)} {most w : Int} {bd : Option Int} {v0 v4 v6 : Option V} {D : Ends} (h : Fd H0 H p F) (hl : F.length ≤ 100000) (hb : BdOk bd)
    (k : ∀ H' v, Fd H0 H' p (stepS most bd F w) → D.nx [v0, some (.int most), some (bdV bd), some (.ref p), v4, some (.int w), some v, none, none] H') :
    tSeq (t_segments_2b_1b_1 K) (t_segments_2b_1b_2 K) D [v0, some (.int most), some (bdV bd), some (.ref p), v4, some (.int w), v6, none, none] H := by
  obtain ⟨s, p0, ls, hp, hls, nd, eF⟩ := h
  have sz := sizeLine_eq
  unfold t_segments_2b_1b_1 t_segments_2b_1b_2
  simp only [tSeq, tAsg, tIfS, tRet, tRetN, tDrop, tNext, tPar, tPar3, gName, gSub, gTup, gCons, gNil, zV, tC, tOp, tUn, tCons, tNil, tLst, tTup, tIf, tAnd, tOr, tNot, tYes, zB, zAnd, zOr, zNot, zChain, tDNewK, yAdd, ySub, yMul, yDiv, yMod, yPow, yNeg, yLt, yLe, yGt, yGe, yEq, yNe, yIs0, yNotIs0, yIx, ySet, yIn, sqAt, isNone, zFld, zSetF, insAt, zMeth, zProp, tCall, tMake, tCB, yLen, yAbs, yMax2, yMin2, yList, yTuple, yDict0, zLM, yApp, isLst, dkAt, keyOf, zGet1, zGet2, zPop1, zPop2, zForR1, zForR2, zForL, zForT, Z.intAt, refAt, zLc, iR1, iR2, iL, iT, wipe, List.getElem?_cons_zero, List.getElem?_cons_succ, List.set_cons_zero, List.set_cons_succ, List.cons_append, List.nil_append, List.append_nil, upd_same, at0, at1, at2, ix0, ix1, ix2, upd_upd, ite_true, ite_false, if_true, if_false, Bool.false_eq_true, decide_true, decide_false, reduceIte, true_and, and_true, Option.isSome_none, Option.isSome_some, Bool.not_false, Bool.not_true, tCallN, zForR3, zMatch, zCase, zMethS, zRaiseO, yPopAt, zSl2, yIsiT, tysAt, zBInit, zOst, tXf, wAs, tMkO, zFmt, zJs, zJoin, yStr1, gLst, zCM, zListR1, zListR2, zLenR1, iR3, yInt1, yEqO, yAndO, yInO, yLenO, yReprO, isBl, Z.strAt, yEq0, yNe0, GF.zForG, GF.zLcG, GF.zListG, yIsi, tyAt, clsAt, ki_int_int, ki_bool_int, ki_none_int, ki_str_int, ki_list_int, ki_tuple_int, ki_int_bool, ki_bool_bool, ki_none_bool, ki_str_bool, ki_list_bool, ki_tuple_bool, zMakeV, tRz, zNever, hp]
  refine ⟨Nat.zero_le _, fun q hq => ?_⟩
  have npq : p ≠ q := ne_of_none hp hq
  have hp1 : (upd H q (.lst [])) p = some (.lst (ls.map fun e => V.ref e.1)) := by rw [upd_ne npq]; exact hp
  have s1 : Same H0 (upd H q (.lst [])) := s.trans (Same.new hq)
  have hls1 : ∀ e ∈ ls, (upd H q (.lst [])) e.1 = some (.lst [.int e.2.1, .int e.2.2]) ∧ H0 e.1 = none ∧ e.1 ≠ p := fun e he => ⟨(Same.new hq) _ _ (hls e he).1, (hls e he).2⟩
  simp only [tSeq, tAsg, tIfS, tRet, tRetN, tDrop, tNext, tPar, tPar3, gName, gSub, gTup, gCons, gNil, zV, tC, tOp, tUn, tCons, tNil, tLst, tTup, tIf, tAnd, tOr, tNot, tYes, zB, zAnd, zOr, zNot, zChain, tDNewK, yAdd, ySub, yMul, yDiv, yMod, yPow, yNeg, yLt, yLe, yGt, yGe, yEq, yNe, yIs0, yNotIs0, yIx, ySet, yIn, sqAt, isNone, zFld, zSetF, insAt, zMeth, zProp, tCall, tMake, tCB, yLen, yAbs, yMax2, yMin2, yList, yTuple, yDict0, zLM, yApp, isLst, dkAt, keyOf, zGet1, zGet2, zPop1, zPop2, zForR1, zForR2, zForL, zForT, Z.intAt, refAt, zLc, iR1, iR2, iL, iT, wipe, List.getElem?_cons_zero, List.getElem?_cons_succ, List.set_cons_zero, List.set_cons_succ, List.cons_append, List.nil_append, List.append_nil, upd_same, at0, at1, at2, ix0, ix1, ix2, upd_upd, ite_true, ite_false, if_true, if_false, Bool.false_eq_true, decide_true, decide_false, reduceIte, true_and, and_true, Option.isSome_none, Option.isSome_some, Bool.not_false, Bool.not_true, tCallN, zForR3, zMatch, zCase, zMethS, zRaiseO, yPopAt, zSl2, yIsiT, tysAt, zBInit, zOst, tXf, wAs, tMkO, zFmt, zJs, zJoin, yStr1, gLst, zCM, zListR1, zListR2, zLenR1, iR3, yInt1, yEqO, yAndO, yInO, yLenO, yReprO, isBl, Z.strAt, yEq0, yNe0, GF.zForG, GF.zLcG, GF.zListG, yIsi, tyAt, clsAt, ki_int_int, ki_bool_int, ki_none_int, ki_str_int, ki_list_int, ki_tuple_int, ki_int_bool, ki_bool_bool, ki_none_bool, ki_str_bool, ki_list_bool, ki_tuple_bool, zMakeV, tRz, zNever, hp1]
  refine ⟨.inr trivial, ?_⟩
  -- a new segment
  have fresh : ∀ (v : V) H1, Same H0 H1 → H1 p = some (.lst (ls.map fun e => V.ref e.1)) → (∀ e ∈ ls, H1 e.1 = some (.lst [.int e.2.1, .int e.2.2]) ∧ H0 e.1 = none ∧ e.1 ≠ p) → stepS most bd F w = F ++ [(w, 1)] → t_segments_2b_1b_2f_1 K D [v0, some (.int most), some (bdV bd), some (.ref p), v4, some (.int w), some v, none, none] H1 := by
    intro v H1 s1 hp1 hls1 e
    unfold t_segments_2b_1b_2f_1
    simp only [tSeq, tAsg, tIfS, tRet, tRetN, tDrop, tNext, tPar, tPar3, gName, gSub, gTup, gCons, gNil, zV, tC, tOp, tUn, tCons, tNil, tLst, tTup, tIf, tAnd, tOr, tNot, tYes, zB, zAnd, zOr, zNot, zChain, tDNewK, yAdd, ySub, yMul, yDiv, yMod, yPow, yNeg, yLt, yLe, yGt, yGe, yEq, yNe, yIs0, yNotIs0, yIx, ySet, yIn, sqAt, isNone, zFld, zSetF, insAt, zMeth, zProp, tCall, tMake, tCB, yLen, yAbs, yMax2, yMin2, yList, yTuple, yDict0, zLM, yApp, isLst, dkAt, keyOf, zGet1, zGet2, zPop1, zPop2, zForR1, zForR2, zForL, zForT, Z.intAt, refAt, zLc, iR1, iR2, iL, iT, wipe, List.getElem?_cons_zero, List.getElem?_cons_succ, List.set_cons_zero, List.set_cons_succ, List.cons_append, List.nil_append, List.append_nil, upd_same, at0, at1, at2, ix0, ix1, ix2, upd_upd, ite_true, ite_false, if_true, if_false, Bool.false_eq_true, decide_true, decide_false, reduceIte, true_and, and_true, Option.isSome_none, Option.isSome_some, Bool.not_false, Bool.not_true, tCallN, zForR3, zMatch, zCase, zMethS, zRaiseO, yPopAt, zSl2, yIsiT, tysAt, zBInit, zOst, tXf, wAs, tMkO, zFmt, zJs, zJoin, yStr1, gLst, zCM, zListR1, zListR2, zLenR1, iR3, yInt1, yEqO, yAndO, yInO, yLenO, yReprO, isBl, Z.strAt, yEq0, yNe0, GF.zForG, GF.zLcG, GF.zListG, yIsi, tyAt, clsAt, ki_int_int, ki_bool_int, ki_none_int, ki_str_int, ki_list_int, ki_tuple_int, ki_int_bool, ki_bool_bool, ki_none_bool, ki_str_bool, ki_list_bool, ki_tuple_bool, zMakeV, tRz, zNever, hp1]
    refine ⟨by show 2 ≤ sizeLine; decide, fun l hl1 => ?_⟩
    have npl : p ≠ l := ne_of_none hp1 hl1
    simp only [tSeq, tAsg, tIfS, tRet, tRetN, tDrop, tNext, tPar, tPar3, gName, gSub, gTup, gCons, gNil, zV, tC, tOp, tUn, tCons, tNil, tLst, tTup, tIf, tAnd, tOr, tNot, tYes, zB, zAnd, zOr, zNot, zChain, tDNewK, yAdd, ySub, yMul, yDiv, yMod, yPow, yNeg, yLt, yLe, yGt, yGe, yEq, yNe, yIs0, yNotIs0, yIx, ySet, yIn, sqAt, isNone, zFld, zSetF, insAt, zMeth, zProp, tCall, tMake, tCB, yLen, yAbs, yMax2, yMin2, yList, yTuple, yDict0, zLM, yApp, isLst, dkAt, keyOf, zGet1, zGet2, zPop1, zPop2, zForR1, zForR2, zForL, zForT, Z.intAt, refAt, zLc, iR1, iR2, iL, iT, wipe, List.getElem?_cons_zero, List.getElem?_cons_succ, List.set_cons_zero, List.set_cons_succ, List.cons_append, List.nil_append, List.append_nil, upd_same, at0, at1, at2, ix0, ix1, ix2, upd_upd, ite_true, ite_false, if_true, if_false, Bool.false_eq_true, decide_true, decide_false, reduceIte, true_and, and_true, Option.isSome_none, Option.isSome_some, Bool.not_false, Bool.not_true, tCallN, zForR3, zMatch, zCase, zMethS, zRaiseO, yPopAt, zSl2, yIsiT, tysAt, zBInit, zOst, tXf, wAs, tMkO, zFmt, zJs, zJoin, yStr1, gLst, zCM, zListR1, zListR2, zLenR1, iR3, yInt1, yEqO, yAndO, yInO, yLenO, yReprO, isBl, Z.strAt, yEq0, yNe0, GF.zForG, GF.zLcG, GF.zListG, yIsi, tyAt, clsAt, ki_int_int, ki_bool_int, ki_none_int, ki_str_int, ki_list_int, ki_tuple_int, ki_int_bool, ki_bool_bool, ki_none_bool, ki_str_bool, ki_list_bool, ki_tuple_bool, zMakeV, tRz, zNever, upd_ne npl, hp1]
    refine ⟨by rw [List.length_map]; have : ls.length = F.length := by rw [← eF, List.length_map]
               omega, k _ _ ?_⟩
    have l0 : H0 l = none := by
      cases hz : H0 l with
      | none => rfl
      | some o => rw [s1 _ _ hz] at hl1; cases hl1
    refine ⟨?_, p0, ls ++ [(l, w, 1)], ?_, fun e he => ?_, ?_, ?_⟩
    · exact Same.upd (s1.trans (Same.new hl1)) p0
    · rw [upd_same, List.map_append]; rfl
    · rcases List.mem_append.mp he with he | he
      · have z := hls1 e he
        refine ⟨?_, z.2⟩
        rw [upd_ne z.2.2, upd_ne (ne_of_none z.1 hl1)]
        exact z.1
      · rw [List.mem_singleton.mp he]
        refine ⟨?_, l0, npl.symm⟩
        rw [upd_ne npl.symm, upd_same]
    · rw [List.map_append, List.nodup_append]
      refine ⟨nd, by simp, fun a ha b hb => ?_⟩
      obtain ⟨e, he, rfl⟩ := List.mem_map.mp ha
      have eb : b = l := by simpa using hb
      rw [eb]
      exact ne_of_none (hls1 e he).1 hl1
    · rw [List.map_append, eF, e]; rfl
  by_cases hF : ls = []
  · have eF0 : F = [] := by rw [← eF, hF]; rfl
    rw [if_neg (by rw [hF]; simp)]
    refine fresh _ _ s1 hp1 hls1 (by rw [eF0]; rfl)
  · obtain ⟨A, z, eA⟩ : ∃ A z, ls = A ++ [z] := ⟨ls.dropLast, ls.getLast hF, (List.dropLast_concat_getLast hF).symm⟩
    have hz := hls1 z (by rw [eA]; simp)
    have eFz : F = A.map (·.2) ++ [z.2] := by rw [← eF, eA, List.map_append]; rfl
    rw [if_pos (by rw [eA]; simp)]
    have em : (ls.map fun e => V.ref e.1) = (A.map fun e => V.ref e.1) ++ [V.ref z.1] := by rw [eA, List.map_append]; rfl
    have st := step_snoc (most := most) (bd := bd) (A := A.map (·.2)) (p := z.2) (w := w)
    rw [← eFz] at st
    have atL : atI (ls.map fun e => V.ref e.1) (-1) = some (.ref z.1) := by rw [em]; exact atI_last
    simp only [tSeq, tAsg, tIfS, tRet, tRetN, tDrop, tNext, tPar, tPar3, gName, gSub, gTup, gCons, gNil, zV, tC, tOp, tUn, tCons, tNil, tLst, tTup, tIf, tAnd, tOr, tNot, tYes, zB, zAnd, zOr, zNot, zChain, tDNewK, yAdd, ySub, yMul, yDiv, yMod, yPow, yNeg, yLt, yLe, yGt, yGe, yEq, yNe, yIs0, yNotIs0, yIx, ySet, yIn, sqAt, isNone, zFld, zSetF, insAt, zMeth, zProp, tCall, tMake, tCB, yLen, yAbs, yMax2, yMin2, yList, yTuple, yDict0, zLM, yApp, isLst, dkAt, keyOf, zGet1, zGet2, zPop1, zPop2, zForR1, zForR2, zForL, zForT, Z.intAt, refAt, zLc, iR1, iR2, iL, iT, wipe, List.getElem?_cons_zero, List.getElem?_cons_succ, List.set_cons_zero, List.set_cons_succ, List.cons_append, List.nil_append, List.append_nil, upd_same, at0, at1, at2, ix0, ix1, ix2, upd_upd, ite_true, ite_false, if_true, if_false, Bool.false_eq_true, decide_true, decide_false, reduceIte, true_and, and_true, Option.isSome_none, Option.isSome_some, Bool.not_false, Bool.not_true, tCallN, zForR3, zMatch, zCase, zMethS, zRaiseO, yPopAt, zSl2, yIsiT, tysAt, zBInit, zOst, tXf, wAs, tMkO, zFmt, zJs, zJoin, yStr1, gLst, zCM, zListR1, zListR2, zLenR1, iR3, yInt1, yEqO, yAndO, yInO, yLenO, yReprO, isBl, Z.strAt, yEq0, yNe0, GF.zForG, GF.zLcG, GF.zListG, yIsi, tyAt, clsAt, ki_int_int, ki_bool_int, ki_none_int, ki_str_int, ki_list_int, ki_tuple_int, ki_int_bool, ki_bool_bool, ki_none_bool, ki_str_bool, ki_list_bool, ki_tuple_bool, zMakeV, tRz, zNever, atL]
    refine ⟨z.1, [z.2.1, z.2.2], rfl, SqL.of hz.1, ?_⟩
    have sm : ([z.2.1, z.2.2] : List Int).sum = z.2.1 + z.2.2 := by simp
    rw [sm]
    simp only [tSeq, tAsg, tIfS, tRet, tRetN, tDrop, tNext, tPar, tPar3, gName, gSub, gTup, gCons, gNil, zV, tC, tOp, tUn, tCons, tNil, tLst, tTup, tIf, tAnd, tOr, tNot, tYes, zB, zAnd, zOr, zNot, zChain, tDNewK, yAdd, ySub, yMul, yDiv, yMod, yPow, yNeg, yLt, yLe, yGt, yGe, yEq, yNe, yIs0, yNotIs0, yIx, ySet, yIn, sqAt, isNone, zFld, zSetF, insAt, zMeth, zProp, tCall, tMake, tCB, yLen, yAbs, yMax2, yMin2, yList, yTuple, yDict0, zLM, yApp, isLst, dkAt, keyOf, zGet1, zGet2, zPop1, zPop2, zForR1, zForR2, zForL, zForT, Z.intAt, refAt, zLc, iR1, iR2, iL, iT, wipe, List.getElem?_cons_zero, List.getElem?_cons_succ, List.set_cons_zero, List.set_cons_succ, List.cons_append, List.nil_append, List.append_nil, upd_same, at0, at1, at2, ix0, ix1, ix2, upd_upd, ite_true, ite_false, if_true, if_false, Bool.false_eq_true, decide_true, decide_false, reduceIte, true_and, and_true, Option.isSome_none, Option.isSome_some, Bool.not_false, Bool.not_true, tCallN, zForR3, zMatch, zCase, zMethS, zRaiseO, yPopAt, zSl2, yIsiT, tysAt, zBInit, zOst, tXf, wAs, tMkO, zFmt, zJs, zJoin, yStr1, gLst, zCM, zListR1, zListR2, zLenR1, iR3, yInt1, yEqO, yAndO, yInO, yLenO, yReprO, isBl, Z.strAt, yEq0, yNe0, GF.zForG, GF.zLcG, GF.zListG, yIsi, tyAt, clsAt, ki_int_int, ki_bool_int, ki_none_int, ki_str_int, ki_list_int, ki_tuple_int, ki_int_bool, ki_bool_bool, ki_none_bool, ki_str_bool, ki_list_bool, ki_tuple_bool, zMakeV, tRz, zNever, hz.1, hp1, atL]
    have hp1' := hp1
    -- the last one grows
    have grow : ∀ (v : V), stepS most bd F w = A.map (·.2) ++ [(z.2.1, z.2.2 + 1)] → t_segments_2b_1b_2t_1 K D [v0, some (.int most), some (bdV bd), some (.ref p), v4, some (.int w), some v, none, none] (upd H q (.lst [])) := by
      intro v e
      unfold t_segments_2b_1b_2t_1 zAugS yGetL yIAdd
      simp only [tSeq, tAsg, tIfS, tRet, tRetN, tDrop, tNext, tPar, tPar3, gName, gSub, gTup, gCons, gNil, zV, tC, tOp, tUn, tCons, tNil, tLst, tTup, tIf, tAnd, tOr, tNot, tYes, zB, zAnd, zOr, zNot, zChain, tDNewK, yAdd, ySub, yMul, yDiv, yMod, yPow, yNeg, yLt, yLe, yGt, yGe, yEq, yNe, yIs0, yNotIs0, yIx, ySet, yIn, sqAt, isNone, zFld, zSetF, insAt, zMeth, zProp, tCall, tMake, tCB, yLen, yAbs, yMax2, yMin2, yList, yTuple, yDict0, zLM, yApp, isLst, dkAt, keyOf, zGet1, zGet2, zPop1, zPop2, zForR1, zForR2, zForL, zForT, Z.intAt, refAt, zLc, iR1, iR2, iL, iT, wipe, List.getElem?_cons_zero, List.getElem?_cons_succ, List.set_cons_zero, List.set_cons_succ, List.cons_append, List.nil_append, List.append_nil, upd_same, at0, at1, at2, ix0, ix1, ix2, upd_upd, ite_true, ite_false, if_true, if_false, Bool.false_eq_true, decide_true, decide_false, reduceIte, true_and, and_true, Option.isSome_none, Option.isSome_some, Bool.not_false, Bool.not_true, tCallN, zForR3, zMatch, zCase, zMethS, zRaiseO, yPopAt, zSl2, yIsiT, tysAt, zBInit, zOst, tXf, wAs, tMkO, zFmt, zJs, zJoin, yStr1, gLst, zCM, zListR1, zListR2, zLenR1, iR3, yInt1, yEqO, yAndO, yInO, yLenO, yReprO, isBl, Z.strAt, yEq0, yNe0, GF.zForG, GF.zLcG, GF.zListG, yIsi, tyAt, clsAt, ki_int_int, ki_bool_int, ki_none_int, ki_str_int, ki_list_int, ki_tuple_int, ki_int_bool, ki_bool_bool, ki_none_bool, ki_str_bool, ki_list_bool, ki_tuple_bool, zMakeV, tRz, zNever, hp1, atL, hz.1]
      refine ⟨⟨by decide, by decide⟩, k _ _ ?_⟩
      have nd' : (A.map (·.1)).Nodup ∧ ∀ a ∈ A.map (·.1), a ≠ z.1 := by
        rw [eA, List.map_append, List.nodup_append] at nd
        exact ⟨nd.1, fun a ha => nd.2.2 a ha z.1 (by simp)⟩
      refine ⟨Same.upd s1 hz.2.1, p0, A ++ [(z.1, z.2.1, z.2.2 + 1)], ?_, fun e he => ?_, ?_, ?_⟩
      · rw [upd_ne hz.2.2.symm, hp1, em, List.map_append]; rfl
      · rcases List.mem_append.mp he with he | he
        · have y := hls1 e (by rw [eA]; exact List.mem_append_left _ he)
          refine ⟨?_, y.2⟩
          rw [upd_ne (nd'.2 e.1 (List.mem_map.mpr ⟨e, he, rfl⟩))]
          exact y.1
        · rw [List.mem_singleton.mp he]
          exact ⟨upd_same, hz.2⟩
      · rw [List.map_append]
        rw [eA, List.map_append] at nd
        exact nd
      · rw [List.map_append, e]; rfl
    by_cases c1 : z.2.1 + z.2.2 = w
    · rw [decide_eq_true c1, if_pos rfl]
      by_cases c2 : z.2.2 < most
      · rw [decide_eq_true c2, if_pos rfl]
        cases bd with
        | none =>
          simp only [tSeq, tAsg, tIfS, tRet, tRetN, tDrop, tNext, tPar, tPar3, gName, gSub, gTup, gCons, gNil, zV, tC, tOp, tUn, tCons, tNil, tLst, tTup, tIf, tAnd, tOr, tNot, tYes, zB, zAnd, zOr, zNot, zChain, tDNewK, yAdd, ySub, yMul, yDiv, yMod, yPow, yNeg, yLt, yLe, yGt, yGe, yEq, yNe, yIs0, yNotIs0, yIx, ySet, yIn, sqAt, isNone, zFld, zSetF, insAt, zMeth, zProp, tCall, tMake, tCB, yLen, yAbs, yMax2, yMin2, yList, yTuple, yDict0, zLM, yApp, isLst, dkAt, keyOf, zGet1, zGet2, zPop1, zPop2, zForR1, zForR2, zForL, zForT, Z.intAt, refAt, zLc, iR1, iR2, iL, iT, wipe, List.getElem?_cons_zero, List.getElem?_cons_succ, List.set_cons_zero, List.set_cons_succ, List.cons_append, List.nil_append, List.append_nil, upd_same, at0, at1, at2, ix0, ix1, ix2, upd_upd, ite_true, ite_false, if_true, if_false, Bool.false_eq_true, decide_true, decide_false, reduceIte, true_and, and_true, Option.isSome_none, Option.isSome_some, Bool.not_false, Bool.not_true, tCallN, zForR3, zMatch, zCase, zMethS, zRaiseO, yPopAt, zSl2, yIsiT, tysAt, zBInit, zOst, tXf, wAs, tMkO, zFmt, zJs, zJoin, yStr1, gLst, zCM, zListR1, zListR2, zLenR1, iR3, yInt1, yEqO, yAndO, yInO, yLenO, yReprO, isBl, Z.strAt, yEq0, yNe0, GF.zForG, GF.zLcG, GF.zListG, yIsi, tyAt, clsAt, ki_int_int, ki_bool_int, ki_none_int, ki_str_int, ki_list_int, ki_tuple_int, ki_int_bool, ki_bool_bool, ki_none_bool, ki_str_bool, ki_list_bool, ki_tuple_bool, zMakeV, tRz, zNever, bdV]
          exact grow _ (by rw [st, if_pos ⟨⟨c1, c2⟩, rfl⟩])
        | some b =>
          have b0 := hb b rfl
          rw [decide_eq_false (by simp [bdV] : ¬ (bdV (some b) = V.non)), if_neg Bool.false_ne_true]
          simp only [tSeq, tAsg, tIfS, tRet, tRetN, tDrop, tNext, tPar, tPar3, gName, gSub, gTup, gCons, gNil, zV, tC, tOp, tUn, tCons, tNil, tLst, tTup, tIf, tAnd, tOr, tNot, tYes, zB, zAnd, zOr, zNot, zChain, tDNewK, yAdd, ySub, yMul, yDiv, yMod, yPow, yNeg, yLt, yLe, yGt, yGe, yEq, yNe, yIs0, yNotIs0, yIx, ySet, yIn, sqAt, isNone, zFld, zSetF, insAt, zMeth, zProp, tCall, tMake, tCB, yLen, yAbs, yMax2, yMin2, yList, yTuple, yDict0, zLM, yApp, isLst, dkAt, keyOf, zGet1, zGet2, zPop1, zPop2, zForR1, zForR2, zForL, zForT, Z.intAt, refAt, zLc, iR1, iR2, iL, iT, wipe, List.getElem?_cons_zero, List.getElem?_cons_succ, List.set_cons_zero, List.set_cons_succ, List.cons_append, List.nil_append, List.append_nil, upd_same, at0, at1, at2, ix0, ix1, ix2, upd_upd, ite_true, ite_false, if_true, if_false, Bool.false_eq_true, decide_true, decide_false, reduceIte, true_and, and_true, Option.isSome_none, Option.isSome_some, Bool.not_false, Bool.not_true, tCallN, zForR3, zMatch, zCase, zMethS, zRaiseO, yPopAt, zSl2, yIsiT, tysAt, zBInit, zOst, tXf, wAs, tMkO, zFmt, zJs, zJoin, yStr1, gLst, zCM, zListR1, zListR2, zLenR1, iR3, yInt1, yEqO, yAndO, yInO, yLenO, yReprO, isBl, Z.strAt, yEq0, yNe0, GF.zForG, GF.zLcG, GF.zListG, yIsi, tyAt, clsAt, ki_int_int, ki_bool_int, ki_none_int, ki_str_int, ki_list_int, ki_tuple_int, ki_int_bool, ki_bool_bool, ki_none_bool, ki_str_bool, ki_list_bool, ki_tuple_bool, zMakeV, tRz, zNever, bdV, hp1, atL, hz.1]
          refine ⟨b0, b0, ?_⟩
          by_cases c3 : z.2.1 / b = w / b
          · rw [decide_eq_true c3, if_pos rfl]
            exact grow _ (by rw [st, if_pos ⟨⟨c1, c2⟩, decide_eq_true c3⟩])
          · rw [decide_eq_false c3, if_neg Bool.false_ne_true]
            exact fresh _ _ s1 hp1 hls1 (by rw [st, if_neg (fun c => c3 (of_decide_eq_true c.2))])
      · rw [decide_eq_false c2, if_neg Bool.false_ne_true]
        exact fresh _ _ s1 hp1 hls1 (by rw [st, if_neg (fun c => c2 c.1.2)])
    · rw [decide_eq_false c1, if_neg Bool.false_ne_true]
      exact fresh _ _ s1 hp1 hls1 (by rw [st, if_neg (fun c => c1 c.1.1)])

theorem segs_len {most : Int} {bd : Option Int} : ∀ (n : Nat) (ws : List Int), ws.length = n → (segs most bd ws).length ≤ n := by
  intro n
  induction n with
  | zero => intro ws h; rw [List.length_eq_zero_iff.mp h]; exact Nat.le_refl _
  | succ n ih =>
    intro ws h
    have hne : ws ≠ [] := by intro e; rw [e] at h; cases h
    obtain ⟨A, w, rfl⟩ : ∃ A w, ws = A ++ [w] := ⟨ws.dropLast, ws.getLast hne, (List.dropLast_concat_getLast hne).symm⟩
    have := ih A (by simpa using h)
    rw [segs_snoc]
    by_cases hF : segs most bd A = []
    · rw [hF, step_nil]; simp
    · obtain ⟨B, p, e⟩ := last_of hF
      rw [e] at this ⊢
      rw [step_snoc]
      split
      · simp at this ⊢; omega
      · simp at this ⊢; omega
theorem wordsOf_take {R : List (Int × Int)} {i : Nat} {p : Int × Int} (h : R[i]? = some p) : wordsOf (R.take (i + 1)) = wordsOf (R.take i) ++ rgI p.1 p.2.toNat := by
  obtain ⟨hi, e⟩ := List.getElem?_eq_some_iff.mp h
  rw [← List.take_append_getElem hi, e, wordsOf_append, wordsOf_one]
theorem wordsOf_take_le (R : List (Int × Int)) (i : Nat) : (wordsOf (R.take i)).length ≤ (wordsOf R).length := by
  have : wordsOf R = wordsOf (R.take i) ++ wordsOf (R.drop i) := by rw [← wordsOf_append, List.take_append_drop]
  rw [this, List.length_append]
  omega
theorem mem_words {R : List (Int × Int)} (h : ROk R) {w : Int} (hw : w ∈ wordsOf R) : 0 ≤ w ∧ w < 1000000 := by
  obtain ⟨p, hp, hw⟩ := List.mem_flatMap.mp hw
  obtain ⟨i, hi, rfl⟩ := List.mem_map.mp hw
  have := h p hp
  have := List.mem_range.mp hi
  omega
theorem runs_get {K : PySem.W.Frag} {H : Hp} {G : List (Addr × Int × Int)} {i : Nat} {x : V} (hx : (G.map fun e => V.ref e.1)[i]? = some x) (hG : ∀ e ∈ G, RunAt K H e.1 e.2.1 e.2.2) : ∃ e, G[i]? = some e ∧ x = .ref e.1 ∧ RunAt K H e.1 e.2.1 e.2.2 ∧ e ∈ G := by
  rw [List.getElem?_map] at hx
  cases et : G[i]? with
  | none => rw [et] at hx; cases hx
  | some e =>
    rw [et] at hx
    obtain ⟨hi, ee⟩ := List.getElem?_eq_some_iff.mp et
    have he : e ∈ G := ee ▸ List.getElem_mem hi
    exact ⟨e, rfl, (Option.some.inj hx).symm, hG e he, he⟩
theorem rd_segments {K : PySem.W.Frag} {mg : Str → Option Value} (T : Top K mg) : ∀ vs H Q E, sp_segments K vs H Q E → t_segments K { nx := fun _ H' => Q .non H', rt := Q } (start nm_segments vs) H := by
  rintro vs H Q E ⟨a, R, most, bd, rfl, ⟨G, hG, hR, eG⟩, ok, hl, hm, hb, q⟩
  rw [start_segments]
  have sz := sizeLine_eq
  unfold t_segments t_segments_1 t_segments_2
  simp only [tSeq, tAsg, tIfS, tRet, tRetN, tDrop, tNext, tPar, tPar3, gName, gSub, gTup, gCons, gNil, zV, tC, tOp, tUn, tCons, tNil, tLst, tTup, tIf, tAnd, tOr, tNot, tYes, zB, zAnd, zOr, zNot, zChain, tDNewK, yAdd, ySub, yMul, yDiv, yMod, yPow, yNeg, yLt, yLe, yGt, yGe, yEq, yNe, yIs0, yNotIs0, yIx, ySet, yIn, sqAt, isNone, zFld, zSetF, insAt, zMeth, zProp, tCall, tMake, tCB, yLen, yAbs, yMax2, yMin2, yList, yTuple, yDict0, zLM, yApp, isLst, dkAt, keyOf, zGet1, zGet2, zPop1, zPop2, zForR1, zForR2, zForL, zForT, Z.intAt, refAt, zLc, iR1, iR2, iL, iT, wipe, List.getElem?_cons_zero, List.getElem?_cons_succ, List.set_cons_zero, List.set_cons_succ, List.cons_append, List.nil_append, List.append_nil, upd_same, at0, at1, at2, ix0, ix1, ix2, upd_upd, ite_true, ite_false, if_true, if_false, Bool.false_eq_true, decide_true, decide_false, reduceIte, true_and, and_true, Option.isSome_none, Option.isSome_some, Bool.not_false, Bool.not_true, tCallN, zForR3, zMatch, zCase, zMethS, zRaiseO, yPopAt, zSl2, yIsiT, tysAt, zBInit, zOst, tXf, wAs, tMkO, zFmt, zJs, zJoin, yStr1, gLst, zCM, zListR1, zListR2, zLenR1, iR3, yInt1, yEqO, yAndO, yInO, yLenO, yReprO, isBl, Z.strAt, yEq0, yNe0, GF.zForG, GF.zLcG, GF.zListG, yIsi, tyAt, clsAt, ki_int_int, ki_bool_int, ki_none_int, ki_str_int, ki_list_int, ki_tuple_int, ki_int_bool, ki_bool_bool, ki_none_bool, ki_str_bool, ki_list_bool, ki_tuple_bool, zMakeV, tRz, zNever]
  refine ⟨Nat.zero_le _, fun p hp => ?_⟩
  have nap : a ≠ p := ne_of_none hG hp
  have ha1 : (upd H p (.lst [])) a = some (.lst (G.map fun e => V.ref e.1)) := by rw [upd_ne nap]; exact hG
  refine ⟨⟨_, SqL.of ha1⟩, loopL (xs := G.map fun e => V.ref e.1) (fun i σ H' => ∃ v4 v5 v6 : Option V, σ = [some (.ref a), some (.int most), some (bdV bd), some (.ref p), v4, v5, v6, none, none] ∧ Fd H H' p (segs most bd (wordsOf (R.take i))))
    ⟨none, none, none, rfl, Same.new hp, hp, [], upd_same, fun e he => (by cases he), by simp, rfl⟩ (fun i σ H' _ ⟨_, _, _, _, f⟩ => SqL.of (f.1 _ _ hG)) ?_ ?_⟩
  · rintro i x σ H' hx ⟨v4, v5, v6, rfl, fd⟩
    obtain ⟨e, et, rfl, hRe, he⟩ := runs_get hx (fun e he => (hR e he).same fd.1)
    have eR : R[i]? = some e.2 := by rw [← eG, List.getElem?_map, et]; rfl
    have o := ok e.2 (by rw [← eG]; exact List.mem_map.mpr ⟨e, he, rfl⟩)
    obtain ⟨dr, hr⟩ := id hRe
    have w1 := wordsOf_take eR
    have w2 := wordsOf_take_le R (i + 1)
    rw [w1, List.length_append, rgI_len] at w2
    show t_segments_2b_1 K _ [some (.ref a), some (.int most), some (bdV bd), some (.ref p), some (.ref e.1), v5, v6, none, none] H'
    unfold t_segments_2b_1
    simp only [tSeq, tAsg, tIfS, tRet, tRetN, tDrop, tNext, tPar, tPar3, gName, gSub, gTup, gCons, gNil, zV, tC, tOp, tUn, tCons, tNil, tLst, tTup, tIf, tAnd, tOr, tNot, tYes, zB, zAnd, zOr, zNot, zChain, tDNewK, yAdd, ySub, yMul, yDiv, yMod, yPow, yNeg, yLt, yLe, yGt, yGe, yEq, yNe, yIs0, yNotIs0, yIx, ySet, yIn, sqAt, isNone, zFld, zSetF, insAt, zMeth, zProp, tCall, tMake, tCB, yLen, yAbs, yMax2, yMin2, yList, yTuple, yDict0, zLM, yApp, isLst, dkAt, keyOf, zGet1, zGet2, zPop1, zPop2, zForR1, zForR2, zForL, zForT, Z.intAt, refAt, zLc, iR1, iR2, iL, iT, wipe, List.getElem?_cons_zero, List.getElem?_cons_succ, List.set_cons_zero, List.set_cons_succ, List.cons_append, List.nil_append, List.append_nil, upd_same, at0, at1, at2, ix0, ix1, ix2, upd_upd, ite_true, ite_false, if_true, if_false, Bool.false_eq_true, decide_true, decide_false, reduceIte, true_and, and_true, Option.isSome_none, Option.isSome_some, Bool.not_false, Bool.not_true, tCallN, zForR3, zMatch, zCase, zMethS, zRaiseO, yPopAt, zSl2, yIsiT, tysAt, zBInit, zOst, tXf, wAs, tMkO, zFmt, zJs, zJoin, yStr1, gLst, zCM, zListR1, zListR2, zLenR1, iR3, yInt1, yEqO, yAndO, yInO, yLenO, yReprO, isBl, Z.strAt, yEq0, yNe0, GF.zForG, GF.zLcG, GF.zListG, yIsi, tyAt, clsAt, ki_int_int, ki_bool_int, ki_none_int, ki_str_int, ki_list_int, ki_tuple_int, ki_int_bool, ki_bool_bool, ki_none_bool, ki_str_bool, ki_list_bool, ki_tuple_bool, zMakeV, tRz, zNever, hr, no_Run_words]
    refine words_ti T hRe ⟨o.1, by omega, o.2.1, by omega⟩ (GF.loopG GF.pure_r (loopR (fun j σ H' => ∃ v5 v6 : Option V, σ = [some (.ref a), some (.int most), some (bdV bd), some (.ref p), some (.ref e.1), v5, v6, none, none] ∧ Fd H H' p (segs most bd (wordsOf (R.take i) ++ rgI e.2.1 j)))
      ⟨v5, v6, rfl, by simpa [rgI] using fd⟩ ?_ ?_))
    · rintro j σ H2 hj ⟨u5, u6, rfl, fd2⟩
      refine seg_step T fd2 ?_ hb ?_
      · have := segs_len (most := most) (bd := bd) _ (wordsOf (R.take i) ++ rgI e.2.1 j) rfl
        rw [List.length_append, rgI_len] at this
        omega
      · intro H3 v f3
        refine ⟨_, _, rfl, ?_⟩
        rw [rgI_succ, ← List.append_assoc, segs_snoc]
        exact f3
    · rintro σ H2 ⟨u5, u6, rfl, fd2⟩
      refine ⟨_, _, _, rfl, ?_⟩
      rw [w1]
      exact fd2
  · rintro σ H' ⟨v4, v5, v6, rfl, fd⟩
    have el : (G.map fun e => V.ref e.1).length = R.length := by rw [← eG, List.length_map, List.length_map]
    rw [el, List.take_length] at fd
    obtain ⟨s, p0, ls, hps, hls, nd, eF⟩ := fd
    unfold t_segments_3
    simp only [tSeq, tAsg, tIfS, tRet, tRetN, tDrop, tNext, tPar, tPar3, gName, gSub, gTup, gCons, gNil, zV, tC, tOp, tUn, tCons, tNil, tLst, tTup, tIf, tAnd, tOr, tNot, tYes, zB, zAnd, zOr, zNot, zChain, tDNewK, yAdd, ySub, yMul, yDiv, yMod, yPow, yNeg, yLt, yLe, yGt, yGe, yEq, yNe, yIs0, yNotIs0, yIx, ySet, yIn, sqAt, isNone, zFld, zSetF, insAt, zMeth, zProp, tCall, tMake, tCB, yLen, yAbs, yMax2, yMin2, yList, yTuple, yDict0, zLM, yApp, isLst, dkAt, keyOf, zGet1, zGet2, zPop1, zPop2, zForR1, zForR2, zForL, zForT, Z.intAt, refAt, zLc, iR1, iR2, iL, iT, wipe, List.getElem?_cons_zero, List.getElem?_cons_succ, List.set_cons_zero, List.set_cons_succ, List.cons_append, List.nil_append, List.append_nil, upd_same, at0, at1, at2, ix0, ix1, ix2, upd_upd, ite_true, ite_false, if_true, if_false, Bool.false_eq_true, decide_true, decide_false, reduceIte, true_and, and_true, Option.isSome_none, Option.isSome_some, Bool.not_false, Bool.not_true, tCallN, zForR3, zMatch, zCase, zMethS, zRaiseO, yPopAt, zSl2, yIsiT, tysAt, zBInit, zOst, tXf, wAs, tMkO, zFmt, zJs, zJoin, yStr1, gLst, zCM, zListR1, zListR2, zLenR1, iR3, yInt1, yEqO, yAndO, yInO, yLenO, yReprO, isBl, Z.strAt, yEq0, yNe0, GF.zForG, GF.zLcG, GF.zListG, yIsi, tyAt, clsAt, ki_int_int, ki_bool_int, ki_none_int, ki_str_int, ki_list_int, ki_tuple_int, ki_int_bool, ki_bool_bool, ki_none_bool, ki_str_bool, ki_list_bool, ki_tuple_bool, zMakeV, tRz, zNever]
    have hn : ls.length ≤ 100000 := by
      have z := segs_len (most := most) (bd := bd) _ (wordsOf R) rfl
      rw [← eF, List.length_map] at z
      omega
    have okS : ∀ e ∈ ls, RunOk e.2.1 e.2.2 := fun e he => by
      have me : e.2 ∈ segs most bd (wordsOf R) := by rw [← eF]; exact List.mem_map.mpr ⟨e, he, rfl⟩
      have k1 := (segs_ok hm (wordsOf R)).1 e.2 me
      have k2 := (segs_ok (bd := bd) hm (wordsOf R)).2
      have mw : ∀ w ∈ rgI e.2.1 e.2.2.toNat, 0 ≤ w ∧ w < 1000000 := fun w hw => mem_words ok (by rw [← k2]; exact List.mem_flatMap.mpr ⟨e.2, me, hw⟩)
      obtain ⟨n, hn⟩ : ∃ n, e.2.2.toNat = n + 1 := ⟨e.2.2.toNat - 1, by have := k1.1; omega⟩
      rw [hn] at mw
      have m1 := mw e.2.1 (by rw [rgI_cons]; exact List.mem_cons_self ..)
      have m2 := mw (e.2.1 + (n : Int)) (by rw [rgI_succ]; simp)
      have := k1.1
      exact ⟨m1.1, by omega, by omega, by omega⟩
    refine ⟨⟨_, SqL.of hps⟩, comp_core (steady_l (SqL.of hps)) (fun D i H2 => Same H' H2 ∧ ∃ Gn : List (Addr × Int × Int), H2 D = some (.lst (Gn.map fun e => V.ref e.1)) ∧ (∀ e ∈ Gn, RunAt K H2 e.1 e.2.1 e.2.2) ∧ Gn.map (·.2) = (ls.take i).map (·.2)) (fun D i H2 _ z => z.1) ?_ ?_ ?_⟩
    · intro D hD
      exact ⟨Same.new hD, [], by rw [upd_same]; rfl, fun e he => (by cases he), rfl⟩
    · rintro D i H2 hD hi ⟨s2, Gn, hD2, hGn, eGn⟩
      rw [List.length_map] at hi
      have hx : (ls.map fun e => V.ref e.1).getD i .non = .ref ls[i].1 := by
        rw [List.getD_eq_getElem?_getD, List.getElem?_map, List.getElem?_eq_getElem hi]
        rfl
      have z := hls ls[i] (List.getElem_mem hi)
      have hz2 := s2 _ _ z.1
      rw [hx]
      simp only [tSeq, tAsg, tIfS, tRet, tRetN, tDrop, tNext, tPar, tPar3, gName, gSub, gTup, gCons, gNil, zV, tC, tOp, tUn, tCons, tNil, tLst, tTup, tIf, tAnd, tOr, tNot, tYes, zB, zAnd, zOr, zNot, zChain, tDNewK, yAdd, ySub, yMul, yDiv, yMod, yPow, yNeg, yLt, yLe, yGt, yGe, yEq, yNe, yIs0, yNotIs0, yIx, ySet, yIn, sqAt, isNone, zFld, zSetF, insAt, zMeth, zProp, tCall, tMake, tCB, yLen, yAbs, yMax2, yMin2, yList, yTuple, yDict0, zLM, yApp, isLst, dkAt, keyOf, zGet1, zGet2, zPop1, zPop2, zForR1, zForR2, zForL, zForT, Z.intAt, refAt, zLc, iR1, iR2, iL, iT, wipe, List.getElem?_cons_zero, List.getElem?_cons_succ, List.set_cons_zero, List.set_cons_succ, List.cons_append, List.nil_append, List.append_nil, upd_same, at0, at1, at2, ix0, ix1, ix2, upd_upd, ite_true, ite_false, if_true, if_false, Bool.false_eq_true, decide_true, decide_false, reduceIte, true_and, and_true, Option.isSome_none, Option.isSome_some, Bool.not_false, Bool.not_true, tCallN, zForR3, zMatch, zCase, zMethS, zRaiseO, yPopAt, zSl2, yIsiT, tysAt, zBInit, zOst, tXf, wAs, tMkO, zFmt, zJs, zJoin, yStr1, gLst, zCM, zListR1, zListR2, zLenR1, iR3, yInt1, yEqO, yAndO, yInO, yLenO, yReprO, isBl, Z.strAt, yEq0, yNe0, GF.zForG, GF.zLcG, GF.zListG, yIsi, tyAt, clsAt, ki_int_int, ki_bool_int, ki_none_int, ki_str_int, ki_list_int, ki_tuple_int, ki_int_bool, ki_bool_bool, ki_none_bool, ki_str_bool, ki_list_bool, ki_tuple_bool, zMakeV, tRz, zNever, hz2]
      refine ⟨_, _, rfl, SqL.of hz2, rfl, _, _, rfl, _, _, rfl, rfl, ?_⟩
      refine mk_run (okS _ (List.getElem_mem hi)) fun r H3 hr3 s3 hR3 => ?_
      have lG : Gn.length = i := by
        have := congrArg List.length eGn
        rw [List.length_map, List.length_map, List.length_take] at this
        omega
      refine ⟨_, s3 _ _ hD2, by rw [List.length_map]; omega, Same.upd (s2.trans s3) hD, Gn ++ [(r, ls[i].2)], ?_, fun e he => ?_, ?_⟩
      · rw [List.map_append]; rfl
      · have nD : ∀ e f m, RunAt K H3 e f m → RunAt K (upd H3 D (.lst ((Gn.map fun e => V.ref e.1) ++ [V.ref r]))) e f m := fun e f m ⟨dx, h⟩ => by
          refine ⟨dx, ?_⟩
          rw [upd_ne (ne_of h (s3 _ _ hD2) (by intro z; cases z))]
          exact h
        rcases List.mem_append.mp he with he | he
        · exact nD _ _ _ ((hGn e he).same s3)
        · rw [List.mem_singleton.mp he]
          exact nD _ _ _ hR3
      · rw [List.map_append, eGn, ← List.take_append_getElem hi, List.map_append]; rfl
    · rintro D H2 hD ⟨s2, Gn, hD2, hGn, eGn⟩
      have hD0 : H D = none := by
        cases hz : H D with
        | none => rfl
        | some o => rw [s _ _ hz] at hD; cases hD
      refine q D H2 hD0 (s.trans s2) ⟨Gn, hD2, hGn, ?_⟩
      rw [eGn, List.length_map, List.take_length, eF]

theorem rd_L_words {K : PySem.W.Frag} {mg : Str → Option Value} (T : Top K mg) : ∀ vs H Q E, sp_L_words K vs H Q E → t_L_words K { nx := fun _ H' => Q .non H', rt := Q } (start nm_L_words vs) H := by
  rintro vs H Q E ⟨a, R, rfl, ⟨G, hG, hR, eG⟩, ok, hl, q⟩
  rw [start_L_words]
  have sz := sizeLine_eq
  unfold t_L_words t_L_words_1 t_L_words_2
  simp only [tSeq, tAsg, tIfS, tRet, tRetN, tDrop, tNext, tPar, tPar3, gName, gSub, gTup, gCons, gNil, zV, tC, tOp, tUn, tCons, tNil, tLst, tTup, tIf, tAnd, tOr, tNot, tYes, zB, zAnd, zOr, zNot, zChain, tDNewK, yAdd, ySub, yMul, yDiv, yMod, yPow, yNeg, yLt, yLe, yGt, yGe, yEq, yNe, yIs0, yNotIs0, yIx, ySet, yIn, sqAt, isNone, zFld, zSetF, insAt, zMeth, zProp, tCall, tMake, tCB, yLen, yAbs, yMax2, yMin2, yList, yTuple, yDict0, zLM, yApp, isLst, dkAt, keyOf, zGet1, zGet2, zPop1, zPop2, zForR1, zForR2, zForL, zForT, Z.intAt, refAt, zLc, iR1, iR2, iL, iT, wipe, List.getElem?_cons_zero, List.getElem?_cons_succ, List.set_cons_zero, List.set_cons_succ, List.cons_append, List.nil_append, List.append_nil, upd_same, at0, at1, at2, ix0, ix1, ix2, upd_upd, ite_true, ite_false, if_true, if_false, Bool.false_eq_true, decide_true, decide_false, reduceIte, true_and, and_true, Option.isSome_none, Option.isSome_some, Bool.not_false, Bool.not_true, tCallN, zForR3, zMatch, zCase, zMethS, zRaiseO, yPopAt, zSl2, yIsiT, tysAt, zBInit, zOst, tXf, wAs, tMkO, zFmt, zJs, zJoin, yStr1, gLst, zCM, zListR1, zListR2, zLenR1, iR3, yInt1, yEqO, yAndO, yInO, yLenO, yReprO, isBl, Z.strAt, yEq0, yNe0, GF.zForG, GF.zLcG, GF.zListG, yIsi, tyAt, clsAt, ki_int_int, ki_bool_int, ki_none_int, ki_str_int, ki_list_int, ki_tuple_int, ki_int_bool, ki_bool_bool, ki_none_bool, ki_str_bool, ki_list_bool, ki_tuple_bool, zMakeV, tRz, zNever]
  refine ⟨Nat.zero_le _, fun p hp => ?_⟩
  have ha1 : (upd H p (.lst [])) a = some (.lst (G.map fun e => V.ref e.1)) := by rw [upd_ne (ne_of_none hG hp)]; exact hG
  refine ⟨⟨_, SqL.of ha1⟩, loopL (xs := G.map fun e => V.ref e.1) (fun i σ H' => ∃ (d : Addr) (v2 : Option V), σ = [some (.ref a), some (.ref d), v2] ∧ H d = none ∧ Same H H' ∧ H' d = some (.lst ((wordsOf (R.take i)).map V.int)))
    ⟨p, none, rfl, hp, Same.new hp, by rw [upd_same]; rfl⟩ (fun i σ H' _ ⟨_, _, _, _, f, _⟩ => SqL.of (f _ _ hG)) ?_ ?_⟩
  · rintro i x σ H' hx ⟨d, v2, rfl, d0, s, hd⟩
    obtain ⟨e, et, rfl, hRe, he⟩ := runs_get hx (fun e he => (hR e he).same s)
    have eR : R[i]? = some e.2 := by rw [← eG, List.getElem?_map, et]; rfl
    have o := ok e.2 (by rw [← eG]; exact List.mem_map.mpr ⟨e, he, rfl⟩)
    obtain ⟨dr, hr⟩ := id hRe
    have w1 := wordsOf_take eR
    have w2 := wordsOf_take_le R (i + 1)
    rw [w1, List.length_append, rgI_len] at w2
    show t_L_words_2b_1 K _ [some (.ref a), some (.ref d), some (.ref e.1)] H'
    unfold t_L_words_2b_1
    simp only [tSeq, tAsg, tIfS, tRet, tRetN, tDrop, tNext, tPar, tPar3, gName, gSub, gTup, gCons, gNil, zV, tC, tOp, tUn, tCons, tNil, tLst, tTup, tIf, tAnd, tOr, tNot, tYes, zB, zAnd, zOr, zNot, zChain, tDNewK, yAdd, ySub, yMul, yDiv, yMod, yPow, yNeg, yLt, yLe, yGt, yGe, yEq, yNe, yIs0, yNotIs0, yIx, ySet, yIn, sqAt, isNone, zFld, zSetF, insAt, zMeth, zProp, tCall, tMake, tCB, yLen, yAbs, yMax2, yMin2, yList, yTuple, yDict0, zLM, yApp, isLst, dkAt, keyOf, zGet1, zGet2, zPop1, zPop2, zForR1, zForR2, zForL, zForT, Z.intAt, refAt, zLc, iR1, iR2, iL, iT, wipe, List.getElem?_cons_zero, List.getElem?_cons_succ, List.set_cons_zero, List.set_cons_succ, List.cons_append, List.nil_append, List.append_nil, upd_same, at0, at1, at2, ix0, ix1, ix2, upd_upd, ite_true, ite_false, if_true, if_false, Bool.false_eq_true, decide_true, decide_false, reduceIte, true_and, and_true, Option.isSome_none, Option.isSome_some, Bool.not_false, Bool.not_true, tCallN, zForR3, zMatch, zCase, zMethS, zRaiseO, yPopAt, zSl2, yIsiT, tysAt, zBInit, zOst, tXf, wAs, tMkO, zFmt, zJs, zJoin, yStr1, gLst, zCM, zListR1, zListR2, zLenR1, iR3, yInt1, yEqO, yAndO, yInO, yLenO, yReprO, isBl, Z.strAt, yEq0, yNe0, GF.zForG, GF.zLcG, GF.zListG, yIsi, tyAt, clsAt, ki_int_int, ki_bool_int, ki_none_int, ki_str_int, ki_list_int, ki_tuple_int, ki_int_bool, ki_bool_bool, ki_none_bool, ki_str_bool, ki_list_bool, ki_tuple_bool, zMakeV, tRz, zNever, hr, no_Run_words]
    intro D hD
    have nDd : d ≠ D := ne_of_none hd hD
    refine words_ti T (hRe.same (Same.new hD)) ⟨o.1, by omega, o.2.1, by omega⟩ (GF.listGR (by omega) upd_same ?_)
    rw [upd_upd]
    simp only [tSeq, tAsg, tIfS, tRet, tRetN, tDrop, tNext, tPar, tPar3, gName, gSub, gTup, gCons, gNil, zV, tC, tOp, tUn, tCons, tNil, tLst, tTup, tIf, tAnd, tOr, tNot, tYes, zB, zAnd, zOr, zNot, zChain, tDNewK, yAdd, ySub, yMul, yDiv, yMod, yPow, yNeg, yLt, yLe, yGt, yGe, yEq, yNe, yIs0, yNotIs0, yIx, ySet, yIn, sqAt, isNone, zFld, zSetF, insAt, zMeth, zProp, tCall, tMake, tCB, yLen, yAbs, yMax2, yMin2, yList, yTuple, yDict0, zLM, yApp, isLst, dkAt, keyOf, zGet1, zGet2, zPop1, zPop2, zForR1, zForR2, zForL, zForT, Z.intAt, refAt, zLc, iR1, iR2, iL, iT, wipe, List.getElem?_cons_zero, List.getElem?_cons_succ, List.set_cons_zero, List.set_cons_succ, List.cons_append, List.nil_append, List.append_nil, upd_same, at0, at1, at2, ix0, ix1, ix2, upd_upd, ite_true, ite_false, if_true, if_false, Bool.false_eq_true, decide_true, decide_false, reduceIte, true_and, and_true, Option.isSome_none, Option.isSome_some, Bool.not_false, Bool.not_true, tCallN, zForR3, zMatch, zCase, zMethS, zRaiseO, yPopAt, zSl2, yIsiT, tysAt, zBInit, zOst, tXf, wAs, tMkO, zFmt, zJs, zJoin, yStr1, gLst, zCM, zListR1, zListR2, zLenR1, iR3, yInt1, yEqO, yAndO, yInO, yLenO, yReprO, isBl, Z.strAt, yEq0, yNe0, GF.zForG, GF.zLcG, GF.zListG, yIsi, tyAt, clsAt, ki_int_int, ki_bool_int, ki_none_int, ki_str_int, ki_list_int, ki_tuple_int, ki_int_bool, ki_bool_bool, ki_none_bool, ki_str_bool, ki_list_bool, ki_tuple_bool, zMakeV, tRz, zNever, upd_ne nDd, hd]
    have er : ((List.range e.2.2.toNat).map fun i : Nat => V.int (e.2.1 + (i : Int))) = (rgI e.2.1 e.2.2.toNat).map V.int := by unfold rgI; rw [List.map_map]; rfl
    rw [er]
    refine ⟨by rw [List.length_map, List.length_map, rgI_len]; omega, fun l2 hl2 => ⟨l2, _, rfl, ?_, ?_, ?_⟩⟩
    · cases hz : H l2 with
      | none => rfl
      | some o => rw [(s.trans (Same.new hD)) _ _ hz] at hl2; cases hl2
    · exact s.trans ((Same.new hD).trans (Same.new hl2))
    · rw [upd_same, w1, List.map_append]
  · rintro σ H' ⟨d, v2, rfl, d0, s, hd⟩
    unfold t_L_words_3
    simp only [tSeq, tAsg, tIfS, tRet, tRetN, tDrop, tNext, tPar, tPar3, gName, gSub, gTup, gCons, gNil, zV, tC, tOp, tUn, tCons, tNil, tLst, tTup, tIf, tAnd, tOr, tNot, tYes, zB, zAnd, zOr, zNot, zChain, tDNewK, yAdd, ySub, yMul, yDiv, yMod, yPow, yNeg, yLt, yLe, yGt, yGe, yEq, yNe, yIs0, yNotIs0, yIx, ySet, yIn, sqAt, isNone, zFld, zSetF, insAt, zMeth, zProp, tCall, tMake, tCB, yLen, yAbs, yMax2, yMin2, yList, yTuple, yDict0, zLM, yApp, isLst, dkAt, keyOf, zGet1, zGet2, zPop1, zPop2, zForR1, zForR2, zForL, zForT, Z.intAt, refAt, zLc, iR1, iR2, iL, iT, wipe, List.getElem?_cons_zero, List.getElem?_cons_succ, List.set_cons_zero, List.set_cons_succ, List.cons_append, List.nil_append, List.append_nil, upd_same, at0, at1, at2, ix0, ix1, ix2, upd_upd, ite_true, ite_false, if_true, if_false, Bool.false_eq_true, decide_true, decide_false, reduceIte, true_and, and_true, Option.isSome_none, Option.isSome_some, Bool.not_false, Bool.not_true, tCallN, zForR3, zMatch, zCase, zMethS, zRaiseO, yPopAt, zSl2, yIsiT, tysAt, zBInit, zOst, tXf, wAs, tMkO, zFmt, zJs, zJoin, yStr1, gLst, zCM, zListR1, zListR2, zLenR1, iR3, yInt1, yEqO, yAndO, yInO, yLenO, yReprO, isBl, Z.strAt, yEq0, yNe0, GF.zForG, GF.zLcG, GF.zListG, yIsi, tyAt, clsAt, ki_int_int, ki_bool_int, ki_none_int, ki_str_int, ki_list_int, ki_tuple_int, ki_int_bool, ki_bool_bool, ki_none_bool, ki_str_bool, ki_list_bool, ki_tuple_bool, zMakeV, tRz, zNever]
    refine q d _ d0 s ?_
    rw [hd, List.length_map, ← List.length_map (f := (·.2)) (as := G), eG, List.take_length]

/-! ### the helpers of k04 -/
theorem len_ofi {i : Int} (h0 : 0 ≤ i) (h1 : i ≤ 1000000000000) : (Str.ofString (toString i)).length ≤ 13 := toString_length_le h0 (by decide) (by omega)
theorem str_app (a b : Str) : (a ++ b).length = a.length + b.length := by
  show (a.cps ++ b.cps).size = _
  rw [Array.size_append]
  rfl
theorem rd_Run___repr__ {K : PySem.W.Frag} {mg : Str → Option Value} (T : Top K mg) : ∀ vs H Q E, sp_Run___repr__ K vs H Q E → t_Run___repr__ K { nx := fun _ H' => Q .non H', rt := Q } (start nm_Run___repr__ vs) H := by
  rintro vs H Q E ⟨r, f, m, rfl, ⟨dx, hr⟩, ⟨o1, o2, o3, o4⟩, q⟩
  rw [start_Run___repr__]
  unfold t_Run___repr__ t_Run___repr___1
  have l1 := len_ofi o1 o2
  have l2 := len_ofi (show 0 ≤ m by omega) o4
  have sz := sizeLine_eq
  have e1 : (Str.empty ++ Str.ofString "Run(").length = 4 := by decide +kernel
  have e2 : (Str.ofString ", ").length = 2 := by decide +kernel
  have e3 : (Str.ofString ")").length = 1 := by decide +kernel
  simp only [tSeq, tAsg, tIfS, tRet, tRetN, tDrop, tNext, tPar, tPar3, gName, gSub, gTup, gCons, gNil, zV, tC, tOp, tUn, tCons, tNil, tLst, tTup, tIf, tAnd, tOr, tNot, tYes, zB, zAnd, zOr, zNot, zChain, tDNewK, yAdd, ySub, yMul, yDiv, yMod, yPow, yNeg, yLt, yLe, yGt, yGe, yEq, yNe, yIs0, yNotIs0, yIx, ySet, yIn, sqAt, isNone, zFld, zSetF, insAt, zMeth, zProp, tCall, tMake, tCB, yLen, yAbs, yMax2, yMin2, yList, yTuple, yDict0, zLM, yApp, isLst, dkAt, keyOf, zGet1, zGet2, zPop1, zPop2, zForR1, zForR2, zForL, zForT, Z.intAt, refAt, zLc, iR1, iR2, iL, iT, wipe, List.getElem?_cons_zero, List.getElem?_cons_succ, List.set_cons_zero, List.set_cons_succ, List.cons_append, List.nil_append, List.append_nil, upd_same, at0, at1, at2, ix0, ix1, ix2, upd_upd, ite_true, ite_false, if_true, if_false, Bool.false_eq_true, decide_true, decide_false, reduceIte, true_and, and_true, Option.isSome_none, Option.isSome_some, Bool.not_false, Bool.not_true, tCallN, zForR3, zMatch, zCase, zMethS, zRaiseO, yPopAt, zSl2, yIsiT, tysAt, zBInit, zOst, tXf, wAs, tMkO, zFmt, zJs, zJoin, yStr1, gLst, zCM, zListR1, zListR2, zLenR1, iR3, yInt1, yEqO, yAndO, yInO, yLenO, yReprO, isBl, Z.strAt, yEq0, yNe0, GF.zForG, GF.zLcG, GF.zListG, yIsi, tyAt, clsAt, ki_int_int, ki_bool_int, ki_none_int, ki_str_int, ki_list_int, ki_tuple_int, ki_int_bool, ki_bool_bool, ki_none_bool, ki_str_bool, ki_list_bool, ki_tuple_bool, zMakeV, tRz, zNever, hr, lk_Run_first, lk_Run_many]
  refine ⟨by omega, ⟨T.cl_Run, T.na_Run_first⟩, log_ok o1 (by omega), by rw [str_app]; omega, by rw [str_app, str_app]; omega, ⟨T.cl_Run, T.na_Run_many⟩, log_ok (by omega) (by omega), by rw [str_app, str_app, str_app]; omega, by rw [str_app, str_app, str_app, str_app]; omega, q⟩
theorem Grow.new {b p : Addr} {H H' : Hp} {o : HO} (g : Grow b H H') (h : H p = none) : Grow b H (upd H' p o) := fun c u e n => by rw [upd_ne (ne_of_none e h)]; exact g c u e n
theorem rd_L_runs {K : PySem.W.Frag} {mg : Str → Option Value} (T : Top K mg) : ∀ vs H Q E, sp_L_runs K vs H Q E → t_L_runs K { nx := fun _ H' => Q .non H', rt := Q } (start nm_L_runs vs) H := by
  rintro vs H Q E ⟨b, o, n, r, zz, rfl, hb, bag, hn, rr1, rr2, zz1, zz2, q⟩
  rw [start_L_runs]
  have sz := sizeLine_eq
  unfold t_L_runs t_L_runs_1 t_L_runs_2
  simp only [tSeq, tAsg, tIfS, tRet, tRetN, tDrop, tNext, tPar, tPar3, gName, gSub, gTup, gCons, gNil, zV, tC, tOp, tUn, tCons, tNil, tLst, tTup, tIf, tAnd, tOr, tNot, tYes, zB, zAnd, zOr, zNot, zChain, tDNewK, yAdd, ySub, yMul, yDiv, yMod, yPow, yNeg, yLt, yLe, yGt, yGe, yEq, yNe, yIs0, yNotIs0, yIx, ySet, yIn, sqAt, isNone, zFld, zSetF, insAt, zMeth, zProp, tCall, tMake, tCB, yLen, yAbs, yMax2, yMin2, yList, yTuple, yDict0, zLM, yApp, isLst, dkAt, keyOf, zGet1, zGet2, zPop1, zPop2, zForR1, zForR2, zForL, zForT, Z.intAt, refAt, zLc, iR1, iR2, iL, iT, wipe, List.getElem?_cons_zero, List.getElem?_cons_succ, List.set_cons_zero, List.set_cons_succ, List.cons_append, List.nil_append, List.append_nil, upd_same, at0, at1, at2, ix0, ix1, ix2, upd_upd, ite_true, ite_false, if_true, if_false, Bool.false_eq_true, decide_true, decide_false, reduceIte, true_and, and_true, Option.isSome_none, Option.isSome_some, Bool.not_false, Bool.not_true, tCallN, zForR3, zMatch, zCase, zMethS, zRaiseO, yPopAt, zSl2, yIsiT, tysAt, zBInit, zOst, tXf, wAs, tMkO, zFmt, zJs, zJoin, yStr1, gLst, zCM, zListR1, zListR2, zLenR1, iR3, yInt1, yEqO, yAndO, yInO, yLenO, yReprO, isBl, Z.strAt, yEq0, yNe0, GF.zForG, GF.zLcG, GF.zListG, yIsi, tyAt, clsAt, ki_int_int, ki_bool_int, ki_none_int, ki_str_int, ki_list_int, ki_tuple_int, ki_int_bool, ki_bool_bool, ki_none_bool, ki_str_bool, ki_list_bool, ki_tuple_bool, zMakeV, tRz, zNever]
  refine ⟨Nat.zero_le _, fun p hp => ?_⟩
  have nbp : b ≠ p := ne_of_none hb hp
  refine ⟨b, o, 20, n, rfl, by rw [upd_ne nbp]; exact hb, bag, by decide, by decide, by omega, fun d0 o1 d00 d01 bag1 => ?_⟩
  refine ⟨_, _, rfl, ?_⟩
  try simp only [tSeq, tAsg, tIfS, tRet, tRetN, tDrop, tNext, tPar, tPar3, gName, gSub, gTup, gCons, gNil, zV, tC, tOp, tUn, tCons, tNil, tLst, tTup, tIf, tAnd, tOr, tNot, tYes, zB, zAnd, zOr, zNot, zChain, tDNewK, yAdd, ySub, yMul, yDiv, yMod, yPow, yNeg, yLt, yLe, yGt, yGe, yEq, yNe, yIs0, yNotIs0, yIx, ySet, yIn, sqAt, isNone, zFld, zSetF, insAt, zMeth, zProp, tCall, tMake, tCB, yLen, yAbs, yMax2, yMin2, yList, yTuple, yDict0, zLM, yApp, isLst, dkAt, keyOf, zGet1, zGet2, zPop1, zPop2, zForR1, zForR2, zForL, zForT, Z.intAt, refAt, zLc, iR1, iR2, iL, iT, wipe, List.getElem?_cons_zero, List.getElem?_cons_succ, List.set_cons_zero, List.set_cons_succ, List.cons_append, List.nil_append, List.append_nil, upd_same, at0, at1, at2, ix0, ix1, ix2, upd_upd, ite_true, ite_false, if_true, if_false, Bool.false_eq_true, decide_true, decide_false, reduceIte, true_and, and_true, Option.isSome_none, Option.isSome_some, Bool.not_false, Bool.not_true, tCallN, zForR3, zMatch, zCase, zMethS, zRaiseO, yPopAt, zSl2, yIsiT, tysAt, zBInit, zOst, tXf, wAs, tMkO, zFmt, zJs, zJoin, yStr1, gLst, zCM, zListR1, zListR2, zLenR1, iR3, yInt1, yEqO, yAndO, yInO, yLenO, yReprO, isBl, Z.strAt, yEq0, yNe0, GF.zForG, GF.zLcG, GF.zListG, yIsi, tyAt, clsAt, ki_int_int, ki_bool_int, ki_none_int, ki_str_int, ki_list_int, ki_tuple_int, ki_int_bool, ki_bool_bool, ki_none_bool, ki_str_bool, ki_list_bool, ki_tuple_bool, zMakeV, tRz, zNever]
  refine ⟨b, o1, r, n + 1, rfl, upd_same, bag1, by omega, by omega, by omega, fun d1 o2 d10 d11 bag2 => ?_⟩
  simp only [tSeq, tAsg, tIfS, tRet, tRetN, tDrop, tNext, tPar, tPar3, gName, gSub, gTup, gCons, gNil, zV, tC, tOp, tUn, tCons, tNil, tLst, tTup, tIf, tAnd, tOr, tNot, tYes, zB, zAnd, zOr, zNot, zChain, tDNewK, yAdd, ySub, yMul, yDiv, yMod, yPow, yNeg, yLt, yLe, yGt, yGe, yEq, yNe, yIs0, yNotIs0, yIx, ySet, yIn, sqAt, isNone, zFld, zSetF, insAt, zMeth, zProp, tCall, tMake, tCB, yLen, yAbs, yMax2, yMin2, yList, yTuple, yDict0, zLM, yApp, isLst, dkAt, keyOf, zGet1, zGet2, zPop1, zPop2, zForR1, zForR2, zForL, zForT, Z.intAt, refAt, zLc, iR1, iR2, iL, iT, wipe, List.getElem?_cons_zero, List.getElem?_cons_succ, List.set_cons_zero, List.set_cons_succ, List.cons_append, List.nil_append, List.append_nil, upd_same, at0, at1, at2, ix0, ix1, ix2, upd_upd, ite_true, ite_false, if_true, if_false, Bool.false_eq_true, decide_true, decide_false, reduceIte, true_and, and_true, Option.isSome_none, Option.isSome_some, Bool.not_false, Bool.not_true, tCallN, zForR3, zMatch, zCase, zMethS, zRaiseO, yPopAt, zSl2, yIsiT, tysAt, zBInit, zOst, tXf, wAs, tMkO, zFmt, zJs, zJoin, yStr1, gLst, zCM, zListR1, zListR2, zLenR1, iR3, yInt1, yEqO, yAndO, yInO, yLenO, yReprO, isBl, Z.strAt, yEq0, yNe0, GF.zForG, GF.zLcG, GF.zListG, yIsi, tyAt, clsAt, ki_int_int, ki_bool_int, ki_none_int, ki_str_int, ki_list_int, ki_tuple_int, ki_int_bool, ki_bool_bool, ki_none_bool, ki_str_bool, ki_list_bool, ki_tuple_bool, zMakeV, tRz, zNever]
  refine ⟨⟨by omega, by omega⟩, loopR (fun i σ H' => ∃ (v1 v4 : Option V) (here : Int) (o' : HO) (ts : List (Addr × Int × Int)), σ = [some (.ref b), some (.int r), some (.int zz), v1, some (.ref p), some (.int here), v4] ∧ (0 ≤ here ∧ here ≤ 30 + 65 * i) ∧ Grow b H H' ∧ H' b = some o' ∧ BagO o' (n + 2 + 4 * i) ∧
    H' p = some (.lst (ts.map fun e => V.ref e.1)) ∧ (∀ e ∈ ts, H' e.1 = some (.tup [.int e.2.1, .int e.2.2]) ∧ 0 ≤ e.2.1 ∧ e.2.1 ≤ 30 + 65 * (i : Int) ∧ 1 ≤ e.2.2 ∧ e.2.2 ≤ 60) ∧ ts.length = i)
    ⟨none, none, d0, o2, [], rfl, ⟨d00, by omega⟩, ?_, upd_same, bag2.mono (by omega), ?_, fun e he => (by cases he), rfl⟩ ?_ ?_⟩
  · repeat (first | exact Grow.refl | refine Grow.set ?_ | refine Grow.new ?_ (by assumption))
  · simp only [upd_ne nbp.symm, upd_same]; rfl
  · rintro i σ H' hi ⟨v1, v4, here, o', ts, rfl, ⟨h0, h1⟩, g, hb', bag', hp', hts, hl⟩
    show tSeq (t_L_runs_2b_1 K) (tSeq (t_L_runs_2b_2 K) (t_L_runs_2b_3 K)) _ [some (.ref b), some (.int r), some (.int zz), some (.int (0 + i)), some (.ref p), some (.int here), v4] H'
    unfold t_L_runs_2b_1 t_L_runs_2b_2 t_L_runs_2b_3
    simp only [tSeq, tAsg, tIfS, tRet, tRetN, tDrop, tNext, tPar, tPar3, gName, gSub, gTup, gCons, gNil, zV, tC, tOp, tUn, tCons, tNil, tLst, tTup, tIf, tAnd, tOr, tNot, tYes, zB, zAnd, zOr, zNot, zChain, tDNewK, yAdd, ySub, yMul, yDiv, yMod, yPow, yNeg, yLt, yLe, yGt, yGe, yEq, yNe, yIs0, yNotIs0, yIx, ySet, yIn, sqAt, isNone, zFld, zSetF, insAt, zMeth, zProp, tCall, tMake, tCB, yLen, yAbs, yMax2, yMin2, yList, yTuple, yDict0, zLM, yApp, isLst, dkAt, keyOf, zGet1, zGet2, zPop1, zPop2, zForR1, zForR2, zForL, zForT, Z.intAt, refAt, zLc, iR1, iR2, iL, iT, wipe, List.getElem?_cons_zero, List.getElem?_cons_succ, List.set_cons_zero, List.set_cons_succ, List.cons_append, List.nil_append, List.append_nil, upd_same, at0, at1, at2, ix0, ix1, ix2, upd_upd, ite_true, ite_false, if_true, if_false, Bool.false_eq_true, decide_true, decide_false, reduceIte, true_and, and_true, Option.isSome_none, Option.isSome_some, Bool.not_false, Bool.not_true, tCallN, zForR3, zMatch, zCase, zMethS, zRaiseO, yPopAt, zSl2, yIsiT, tysAt, zBInit, zOst, tXf, wAs, tMkO, zFmt, zJs, zJoin, yStr1, gLst, zCM, zListR1, zListR2, zLenR1, iR3, yInt1, yEqO, yAndO, yInO, yLenO, yReprO, isBl, Z.strAt, yEq0, yNe0, GF.zForG, GF.zLcG, GF.zListG, yIsi, tyAt, clsAt, ki_int_int, ki_bool_int, ki_none_int, ki_str_int, ki_list_int, ki_tuple_int, ki_int_bool, ki_bool_bool, ki_none_bool, ki_str_bool, ki_list_bool, ki_tuple_bool, zMakeV, tRz, zNever]
    refine ⟨b, o', zz, n + 2 + 4 * i, rfl, hb', bag', by omega, by omega, by omega, fun e0 o3 e00 e01 bag3 => ?_⟩
    have hp3 : (upd H' b o3) p = some (.lst (ts.map fun e => V.ref e.1)) := by rw [upd_ne nbp.symm]; exact hp'
    simp only [tSeq, tAsg, tIfS, tRet, tRetN, tDrop, tNext, tPar, tPar3, gName, gSub, gTup, gCons, gNil, zV, tC, tOp, tUn, tCons, tNil, tLst, tTup, tIf, tAnd, tOr, tNot, tYes, zB, zAnd, zOr, zNot, zChain, tDNewK, yAdd, ySub, yMul, yDiv, yMod, yPow, yNeg, yLt, yLe, yGt, yGe, yEq, yNe, yIs0, yNotIs0, yIx, ySet, yIn, sqAt, isNone, zFld, zSetF, insAt, zMeth, zProp, tCall, tMake, tCB, yLen, yAbs, yMax2, yMin2, yList, yTuple, yDict0, zLM, yApp, isLst, dkAt, keyOf, zGet1, zGet2, zPop1, zPop2, zForR1, zForR2, zForL, zForT, Z.intAt, refAt, zLc, iR1, iR2, iL, iT, wipe, List.getElem?_cons_zero, List.getElem?_cons_succ, List.set_cons_zero, List.set_cons_succ, List.cons_append, List.nil_append, List.append_nil, upd_same, at0, at1, at2, ix0, ix1, ix2, upd_upd, ite_true, ite_false, if_true, if_false, Bool.false_eq_true, decide_true, decide_false, reduceIte, true_and, and_true, Option.isSome_none, Option.isSome_some, Bool.not_false, Bool.not_true, tCallN, zForR3, zMatch, zCase, zMethS, zRaiseO, yPopAt, zSl2, yIsiT, tysAt, zBInit, zOst, tXf, wAs, tMkO, zFmt, zJs, zJoin, yStr1, gLst, zCM, zListR1, zListR2, zLenR1, iR3, yInt1, yEqO, yAndO, yInO, yLenO, yReprO, isBl, Z.strAt, yEq0, yNe0, GF.zForG, GF.zLcG, GF.zListG, yIsi, tyAt, clsAt, ki_int_int, ki_bool_int, ki_none_int, ki_str_int, ki_list_int, ki_tuple_int, ki_int_bool, ki_bool_bool, ki_none_bool, ki_str_bool, ki_list_bool, ki_tuple_bool, zMakeV, tRz, zNever, hp3]
    refine ⟨by show 2 ≤ sizeLine; decide, fun t ht => ?_⟩
    have nbt : b ≠ t := ne_of_none upd_same ht
    have npt : p ≠ t := ne_of_none hp3 ht
    simp only [tSeq, tAsg, tIfS, tRet, tRetN, tDrop, tNext, tPar, tPar3, gName, gSub, gTup, gCons, gNil, zV, tC, tOp, tUn, tCons, tNil, tLst, tTup, tIf, tAnd, tOr, tNot, tYes, zB, zAnd, zOr, zNot, zChain, tDNewK, yAdd, ySub, yMul, yDiv, yMod, yPow, yNeg, yLt, yLe, yGt, yGe, yEq, yNe, yIs0, yNotIs0, yIx, ySet, yIn, sqAt, isNone, zFld, zSetF, insAt, zMeth, zProp, tCall, tMake, tCB, yLen, yAbs, yMax2, yMin2, yList, yTuple, yDict0, zLM, yApp, isLst, dkAt, keyOf, zGet1, zGet2, zPop1, zPop2, zForR1, zForR2, zForL, zForT, Z.intAt, refAt, zLc, iR1, iR2, iL, iT, wipe, List.getElem?_cons_zero, List.getElem?_cons_succ, List.set_cons_zero, List.set_cons_succ, List.cons_append, List.nil_append, List.append_nil, upd_same, at0, at1, at2, ix0, ix1, ix2, upd_upd, ite_true, ite_false, if_true, if_false, Bool.false_eq_true, decide_true, decide_false, reduceIte, true_and, and_true, Option.isSome_none, Option.isSome_some, Bool.not_false, Bool.not_true, tCallN, zForR3, zMatch, zCase, zMethS, zRaiseO, yPopAt, zSl2, yIsiT, tysAt, zBInit, zOst, tXf, wAs, tMkO, zFmt, zJs, zJoin, yStr1, gLst, zCM, zListR1, zListR2, zLenR1, iR3, yInt1, yEqO, yAndO, yInO, yLenO, yReprO, isBl, Z.strAt, yEq0, yNe0, GF.zForG, GF.zLcG, GF.zListG, yIsi, tyAt, clsAt, ki_int_int, ki_bool_int, ki_none_int, ki_str_int, ki_list_int, ki_tuple_int, ki_int_bool, ki_bool_bool, ki_none_bool, ki_str_bool, ki_list_bool, ki_tuple_bool, zMakeV, tRz, zNever, upd_ne npt, hp3]
    refine ⟨by rw [List.length_map]; omega, ?_⟩
    try simp only [tSeq, tAsg, tIfS, tRet, tRetN, tDrop, tNext, tPar, tPar3, gName, gSub, gTup, gCons, gNil, zV, tC, tOp, tUn, tCons, tNil, tLst, tTup, tIf, tAnd, tOr, tNot, tYes, zB, zAnd, zOr, zNot, zChain, tDNewK, yAdd, ySub, yMul, yDiv, yMod, yPow, yNeg, yLt, yLe, yGt, yGe, yEq, yNe, yIs0, yNotIs0, yIx, ySet, yIn, sqAt, isNone, zFld, zSetF, insAt, zMeth, zProp, tCall, tMake, tCB, yLen, yAbs, yMax2, yMin2, yList, yTuple, yDict0, zLM, yApp, isLst, dkAt, keyOf, zGet1, zGet2, zPop1, zPop2, zForR1, zForR2, zForL, zForT, Z.intAt, refAt, zLc, iR1, iR2, iL, iT, wipe, List.getElem?_cons_zero, List.getElem?_cons_succ, List.set_cons_zero, List.set_cons_succ, List.cons_append, List.nil_append, List.append_nil, upd_same, at0, at1, at2, ix0, ix1, ix2, upd_upd, ite_true, ite_false, if_true, if_false, Bool.false_eq_true, decide_true, decide_false, reduceIte, true_and, and_true, Option.isSome_none, Option.isSome_some, Bool.not_false, Bool.not_true, tCallN, zForR3, zMatch, zCase, zMethS, zRaiseO, yPopAt, zSl2, yIsiT, tysAt, zBInit, zOst, tXf, wAs, tMkO, zFmt, zJs, zJoin, yStr1, gLst, zCM, zListR1, zListR2, zLenR1, iR3, yInt1, yEqO, yAndO, yInO, yLenO, yReprO, isBl, Z.strAt, yEq0, yNe0, GF.zForG, GF.zLcG, GF.zListG, yIsi, tyAt, clsAt, ki_int_int, ki_bool_int, ki_none_int, ki_str_int, ki_list_int, ki_tuple_int, ki_int_bool, ki_bool_bool, ki_none_bool, ki_str_bool, ki_list_bool, ki_tuple_bool, zMakeV, tRz, zNever]
    refine ⟨b, o3, 4, n + 2 + 4 * i + 1, rfl, by simp only [upd_ne nbp, upd_ne nbt, upd_same], bag3, by decide, by decide, by omega, fun e1 o4 e10 e11 bag4 => ?_⟩
    try simp only [tSeq, tAsg, tIfS, tRet, tRetN, tDrop, tNext, tPar, tPar3, gName, gSub, gTup, gCons, gNil, zV, tC, tOp, tUn, tCons, tNil, tLst, tTup, tIf, tAnd, tOr, tNot, tYes, zB, zAnd, zOr, zNot, zChain, tDNewK, yAdd, ySub, yMul, yDiv, yMod, yPow, yNeg, yLt, yLe, yGt, yGe, yEq, yNe, yIs0, yNotIs0, yIx, ySet, yIn, sqAt, isNone, zFld, zSetF, insAt, zMeth, zProp, tCall, tMake, tCB, yLen, yAbs, yMax2, yMin2, yList, yTuple, yDict0, zLM, yApp, isLst, dkAt, keyOf, zGet1, zGet2, zPop1, zPop2, zForR1, zForR2, zForL, zForT, Z.intAt, refAt, zLc, iR1, iR2, iL, iT, wipe, List.getElem?_cons_zero, List.getElem?_cons_succ, List.set_cons_zero, List.set_cons_succ, List.cons_append, List.nil_append, List.append_nil, upd_same, at0, at1, at2, ix0, ix1, ix2, upd_upd, ite_true, ite_false, if_true, if_false, Bool.false_eq_true, decide_true, decide_false, reduceIte, true_and, and_true, Option.isSome_none, Option.isSome_some, Bool.not_false, Bool.not_true, tCallN, zForR3, zMatch, zCase, zMethS, zRaiseO, yPopAt, zSl2, yIsiT, tysAt, zBInit, zOst, tXf, wAs, tMkO, zFmt, zJs, zJoin, yStr1, gLst, zCM, zListR1, zListR2, zLenR1, iR3, yInt1, yEqO, yAndO, yInO, yLenO, yReprO, isBl, Z.strAt, yEq0, yNe0, GF.zForG, GF.zLcG, GF.zListG, yIsi, tyAt, clsAt, ki_int_int, ki_bool_int, ki_none_int, ki_str_int, ki_list_int, ki_tuple_int, ki_int_bool, ki_bool_bool, ki_none_bool, ki_str_bool, ki_list_bool, ki_tuple_bool, zMakeV, tRz, zNever]
    refine ⟨b, o4, 30, n + 2 + 4 * i + 1 + 1, rfl, upd_same, bag4, by decide, by decide, by omega, fun e2 o5 e20 e21 bag5 => ?_⟩
    try simp only [tSeq, tAsg, tIfS, tRet, tRetN, tDrop, tNext, tPar, tPar3, gName, gSub, gTup, gCons, gNil, zV, tC, tOp, tUn, tCons, tNil, tLst, tTup, tIf, tAnd, tOr, tNot, tYes, zB, zAnd, zOr, zNot, zChain, tDNewK, yAdd, ySub, yMul, yDiv, yMod, yPow, yNeg, yLt, yLe, yGt, yGe, yEq, yNe, yIs0, yNotIs0, yIx, ySet, yIn, sqAt, isNone, zFld, zSetF, insAt, zMeth, zProp, tCall, tMake, tCB, yLen, yAbs, yMax2, yMin2, yList, yTuple, yDict0, zLM, yApp, isLst, dkAt, keyOf, zGet1, zGet2, zPop1, zPop2, zForR1, zForR2, zForL, zForT, Z.intAt, refAt, zLc, iR1, iR2, iL, iT, wipe, List.getElem?_cons_zero, List.getElem?_cons_succ, List.set_cons_zero, List.set_cons_succ, List.cons_append, List.nil_append, List.append_nil, upd_same, at0, at1, at2, ix0, ix1, ix2, upd_upd, ite_true, ite_false, if_true, if_false, Bool.false_eq_true, decide_true, decide_false, reduceIte, true_and, and_true, Option.isSome_none, Option.isSome_some, Bool.not_false, Bool.not_true, tCallN, zForR3, zMatch, zCase, zMethS, zRaiseO, yPopAt, zSl2, yIsiT, tysAt, zBInit, zOst, tXf, wAs, tMkO, zFmt, zJs, zJoin, yStr1, gLst, zCM, zListR1, zListR2, zLenR1, iR3, yInt1, yEqO, yAndO, yInO, yLenO, yReprO, isBl, Z.strAt, yEq0, yNe0, GF.zForG, GF.zLcG, GF.zListG, yIsi, tyAt, clsAt, ki_int_int, ki_bool_int, ki_none_int, ki_str_int, ki_list_int, ki_tuple_int, ki_int_bool, ki_bool_bool, ki_none_bool, ki_str_bool, ki_list_bool, ki_tuple_bool, zMakeV, tRz, zNever]
    refine ⟨by show 4 ≤ sizeLine; decide, fun z hz => ?_⟩
    have nbz : b ≠ z := ne_of_none upd_same hz
    refine ⟨b, o5, 4, n + 2 + 4 * i + 1 + 1 + 1, rfl, by simp only [upd_ne nbz, upd_same], bag5, by decide, by decide, by omega, fun e3 o6 e30 e31 bag6 => ?_⟩
    simp only [tSeq, tAsg, tIfS, tRet, tRetN, tDrop, tNext, tPar, tPar3, gName, gSub, gTup, gCons, gNil, zV, tC, tOp, tUn, tCons, tNil, tLst, tTup, tIf, tAnd, tOr, tNot, tYes, zB, zAnd, zOr, zNot, zChain, tDNewK, yAdd, ySub, yMul, yDiv, yMod, yPow, yNeg, yLt, yLe, yGt, yGe, yEq, yNe, yIs0, yNotIs0, yIx, ySet, yIn, sqAt, isNone, zFld, zSetF, insAt, zMeth, zProp, tCall, tMake, tCB, yLen, yAbs, yMax2, yMin2, yList, yTuple, yDict0, zLM, yApp, isLst, dkAt, keyOf, zGet1, zGet2, zPop1, zPop2, zForR1, zForR2, zForL, zForT, Z.intAt, refAt, zLc, iR1, iR2, iL, iT, wipe, List.getElem?_cons_zero, List.getElem?_cons_succ, List.set_cons_zero, List.set_cons_succ, List.cons_append, List.nil_append, List.append_nil, upd_same, at0, at1, at2, ix0, ix1, ix2, upd_upd, ite_true, ite_false, if_true, if_false, Bool.false_eq_true, decide_true, decide_false, reduceIte, true_and, and_true, Option.isSome_none, Option.isSome_some, Bool.not_false, Bool.not_true, tCallN, zForR3, zMatch, zCase, zMethS, zRaiseO, yPopAt, zSl2, yIsiT, tysAt, zBInit, zOst, tXf, wAs, tMkO, zFmt, zJs, zJoin, yStr1, gLst, zCM, zListR1, zListR2, zLenR1, iR3, yInt1, yEqO, yAndO, yInO, yLenO, yReprO, isBl, Z.strAt, yEq0, yNe0, GF.zForG, GF.zLcG, GF.zListG, yIsi, tyAt, clsAt, ki_int_int, ki_bool_int, ki_none_int, ki_str_int, ki_list_int, ki_tuple_int, ki_int_bool, ki_bool_bool, ki_none_bool, ki_str_bool, ki_list_bool, ki_tuple_bool, zMakeV, tRz, zNever, upd_ne nbz.symm]
    obtain ⟨u, eu, hu⟩ := at_of4 (a := here + (1 + e0)) (b := here + (1 + e0)) (c := here + (1 + e0) + 1 + e1) (e := e2) e30 e31
    rw [eu]
    have hb0 : H b = some o := hb
    have t0 : H' t = none := by rw [upd_ne nbt.symm] at ht; exact ht
    have z0 : H' z = none := by
      simp only [upd_ne nbz.symm] at hz
      by_cases e : z = p
      · rw [e, upd_same] at hz; cases hz
      · rw [upd_ne e] at hz
        by_cases e : z = t
        · rw [e, upd_same] at hz; cases hz
        · simp only [upd_ne e, upd_ne nbz.symm] at hz; exact hz
    have ntz : t ≠ z := fun e => by
      rw [← e] at hz
      simp only [upd_ne nbt.symm, upd_ne npt.symm, upd_same] at hz
      cases hz
    have npz : p ≠ z := fun e => by
      rw [← e] at hz
      simp only [upd_ne nbp.symm, upd_same] at hz
      cases hz
    have none_of : ∀ c, H' c = none → c ≠ b → H c = none := fun c hc nc => by
      cases hz : H c with
      | none => rfl
      | some o => rw [g c o hz nc] at hc; cases hc
    refine ⟨_, _, u, o6, ts ++ [(t, here, 1 + e0)], rfl, ⟨by rcases hu with rfl | rfl | rfl | rfl <;> omega, by rcases hu with rfl | rfl | rfl | rfl <;> omega⟩, ?_, rfl, bag6.mono (by push_cast; omega), ?_, fun e he => ?_, by rw [List.length_append, hl]; rfl⟩
    · have t00 := none_of t t0 nbt.symm
      have z00 := none_of z z0 nbz.symm
      repeat (first | exact g | refine Grow.set ?_ | refine Grow.new ?_ (by assumption))
    · simp only [upd_ne nbp.symm, upd_ne npz, upd_same, List.map_append]; rfl
    · rcases List.mem_append.mp he with he | he
      · obtain ⟨k1, k2, k3, k4, k5⟩ := hts e he
        have ne1 : e.1 ≠ b := fun z => by obtain ⟨xs, ex⟩ := bag_lst bag'; rw [z, hb', ex] at k1; cases k1
        have ne2 : e.1 ≠ p := fun z => by rw [z, hp'] at k1; cases k1
        refine ⟨?_, k2, by push_cast; omega, k4, k5⟩
        simp only [upd_ne ne1, upd_ne (ne_of_none k1 z0), upd_ne ne2, upd_ne (ne_of_none k1 t0)]
        exact k1
      · rw [List.mem_singleton.mp he]
        refine ⟨?_, h0, by push_cast; omega, (by show (1 : Int) ≤ 1 + e0; omega), (by show 1 + e0 ≤ (60 : Int); omega)⟩
        show (upd _ b o6) t = _
        simp only [upd_ne nbt.symm, upd_ne ntz, upd_ne npt.symm, upd_same]
  · rintro σ H' ⟨v1, v4, here, o', ts, rfl, _, g, hb', bag', hp', hts, hl⟩
    unfold t_L_runs_3
    simp only [tSeq, tAsg, tIfS, tRet, tRetN, tDrop, tNext, tPar, tPar3, gName, gSub, gTup, gCons, gNil, zV, tC, tOp, tUn, tCons, tNil, tLst, tTup, tIf, tAnd, tOr, tNot, tYes, zB, zAnd, zOr, zNot, zChain, tDNewK, yAdd, ySub, yMul, yDiv, yMod, yPow, yNeg, yLt, yLe, yGt, yGe, yEq, yNe, yIs0, yNotIs0, yIx, ySet, yIn, sqAt, isNone, zFld, zSetF, insAt, zMeth, zProp, tCall, tMake, tCB, yLen, yAbs, yMax2, yMin2, yList, yTuple, yDict0, zLM, yApp, isLst, dkAt, keyOf, zGet1, zGet2, zPop1, zPop2, zForR1, zForR2, zForL, zForT, Z.intAt, refAt, zLc, iR1, iR2, iL, iT, wipe, List.getElem?_cons_zero, List.getElem?_cons_succ, List.set_cons_zero, List.set_cons_succ, List.cons_append, List.nil_append, List.append_nil, upd_same, at0, at1, at2, ix0, ix1, ix2, upd_upd, ite_true, ite_false, if_true, if_false, Bool.false_eq_true, decide_true, decide_false, reduceIte, true_and, and_true, Option.isSome_none, Option.isSome_some, Bool.not_false, Bool.not_true, tCallN, zForR3, zMatch, zCase, zMethS, zRaiseO, yPopAt, zSl2, yIsiT, tysAt, zBInit, zOst, tXf, wAs, tMkO, zFmt, zJs, zJoin, yStr1, gLst, zCM, zListR1, zListR2, zLenR1, iR3, yInt1, yEqO, yAndO, yInO, yLenO, yReprO, isBl, Z.strAt, yEq0, yNe0, GF.zForG, GF.zLcG, GF.zListG, yIsi, tyAt, clsAt, ki_int_int, ki_bool_int, ki_none_int, ki_str_int, ki_list_int, ki_tuple_int, ki_int_bool, ki_bool_bool, ki_none_bool, ki_str_bool, ki_list_bool, ki_tuple_bool, zMakeV, tRz, zNever]
    refine q p H' o' (ts.map (·.2)) hp g hb' (bag'.mono (by omega)) ⟨ts, hp', fun e he => (hts e he).1, rfl⟩ (by rw [List.length_map]; omega) fun r hr => ?_
    obtain ⟨e, he, rfl⟩ := List.mem_map.mp hr
    obtain ⟨k1, k2, k3, k4, k5⟩ := hts e he
    exact ⟨k2, by omega, k4, k5⟩

/-! ### the law's own cut -/
theorem atI_i {ws : List Int} {i : Nat} (h : i < ws.length) : atI (ws.map V.int) (i : Int) = some (.int ws[i]) := by
  unfold atI ixN
  rw [if_pos (by omega)]
  simp [h]
theorem segs_take {most : Int} {bd : Option Int} {ws : List Int} {i : Nat} (h : i < ws.length) : segs most bd (ws.take (i + 1)) = stepS most bd (segs most bd (ws.take i)) ws[i] := by
  rw [← List.take_append_getElem h, segs_snoc]
theorem TsAt.app {H : Hp} {p t : Addr} {ts : List (Addr × Int × Int)} {a b : Int} (hp : H p = some (.lst (ts.map fun e => V.ref e.1))) (hts : ∀ e ∈ ts, H e.1 = some (.tup [.int e.2.1, .int e.2.2])) (ht : H t = none) : TsAt (upd (upd H t (.tup [.int a, .int b])) p (.lst ((ts.map fun e => V.ref e.1) ++ [.ref t]))) p (ts.map (·.2) ++ [(a, b)]) := by
  have npt : p ≠ t := ne_of_none hp ht
  refine ⟨ts ++ [(t, a, b)], by rw [upd_same, List.map_append]; rfl, fun e he => ?_, by rw [List.map_append]; rfl⟩
  rcases List.mem_append.mp he with he | he
  · have h := hts e he
    have n1 : e.1 ≠ p := fun z => by rw [z, hp] at h; cases h
    rw [upd_ne n1, upd_ne (ne_of_none h ht)]
    exact h
  · rw [List.mem_singleton.mp he]
    show (upd _ p _) t = _
    rw [upd_ne npt.symm, upd_same]
section
variable {K : PySem.W.Frag} {H H' : Hp} {p l : Addr} {ws : List Int} {most : Int} {bd : Option Int} {F : List (Int × Int)} {D : Ends}
theorem cut_app {i e : Nat} (hl : H l = some (.lst (ws.map V.int))) (s : Same H H') (p0 : H p = none) (t : TsAt H' p F) (hF : F.length ≤ 100000) (hi : i < ws.length) {v1 v2 : Option V}
    (k : ∀ H'', Same H H'' → TsAt H'' p (F ++ [(ws[i], (e : Int) - i)]) → D.nx [some (.ref l), v1, v2, some (.ref p), some (.int i), some (.int e)] H'') : t_L_cut_2b_3 K D [some (.ref l), v1, v2, some (.ref p), some (.int i), some (.int e)] H' := by
  have sz := sizeLine_eq
  obtain ⟨ts, hp, hts, eF⟩ := t
  have hl' := s _ _ hl
  unfold t_L_cut_2b_3
  simp only [tSeq, tAsg, tIfS, tRet, tRetN, tDrop, tNext, tPar, tPar3, gName, gSub, gTup, gCons, gNil, zV, tC, tOp, tUn, tCons, tNil, tLst, tTup, tIf, tAnd, tOr, tNot, tYes, zB, zAnd, zOr, zNot, zChain, tDNewK, yAdd, ySub, yMul, yDiv, yMod, yPow, yNeg, yLt, yLe, yGt, yGe, yEq, yNe, yIs0, yNotIs0, yIx, ySet, yIn, sqAt, isNone, zFld, zSetF, insAt, zMeth, zProp, tCall, tMake, tCB, yLen, yAbs, yMax2, yMin2, yList, yTuple, yDict0, zLM, yApp, isLst, dkAt, keyOf, zGet1, zGet2, zPop1, zPop2, zForR1, zForR2, zForL, zForT, Z.intAt, refAt, zLc, iR1, iR2, iL, iT, wipe, List.getElem?_cons_zero, List.getElem?_cons_succ, List.set_cons_zero, List.set_cons_succ, List.cons_append, List.nil_append, List.append_nil, upd_same, at0, at1, at2, ix0, ix1, ix2, upd_upd, ite_true, ite_false, if_true, if_false, Bool.false_eq_true, decide_true, decide_false, reduceIte, true_and, and_true, Option.isSome_none, Option.isSome_some, Bool.not_false, Bool.not_true, tCallN, zForR3, zMatch, zCase, zMethS, zRaiseO, yPopAt, zSl2, yIsiT, tysAt, zBInit, zOst, tXf, wAs, tMkO, zFmt, zJs, zJoin, yStr1, gLst, zCM, zListR1, zListR2, zLenR1, iR3, yInt1, yEqO, yAndO, yInO, yLenO, yReprO, isBl, Z.strAt, yEq0, yNe0, GF.zForG, GF.zLcG, GF.zListG, yIsi, tyAt, clsAt, ki_int_int, ki_bool_int, ki_none_int, ki_str_int, ki_list_int, ki_tuple_int, ki_int_bool, ki_bool_bool, ki_none_bool, ki_str_bool, ki_list_bool, ki_tuple_bool, zMakeV, tRz, zNever, hp, hl', atI_i hi]
  refine ⟨by show 2 ≤ sizeLine; decide, fun q hq => ?_⟩
  have npq : p ≠ q := ne_of_none hp hq
  simp only [tSeq, tAsg, tIfS, tRet, tRetN, tDrop, tNext, tPar, tPar3, gName, gSub, gTup, gCons, gNil, zV, tC, tOp, tUn, tCons, tNil, tLst, tTup, tIf, tAnd, tOr, tNot, tYes, zB, zAnd, zOr, zNot, zChain, tDNewK, yAdd, ySub, yMul, yDiv, yMod, yPow, yNeg, yLt, yLe, yGt, yGe, yEq, yNe, yIs0, yNotIs0, yIx, ySet, yIn, sqAt, isNone, zFld, zSetF, insAt, zMeth, zProp, tCall, tMake, tCB, yLen, yAbs, yMax2, yMin2, yList, yTuple, yDict0, zLM, yApp, isLst, dkAt, keyOf, zGet1, zGet2, zPop1, zPop2, zForR1, zForR2, zForL, zForT, Z.intAt, refAt, zLc, iR1, iR2, iL, iT, wipe, List.getElem?_cons_zero, List.getElem?_cons_succ, List.set_cons_zero, List.set_cons_succ, List.cons_append, List.nil_append, List.append_nil, upd_same, at0, at1, at2, ix0, ix1, ix2, upd_upd, ite_true, ite_false, if_true, if_false, Bool.false_eq_true, decide_true, decide_false, reduceIte, true_and, and_true, Option.isSome_none, Option.isSome_some, Bool.not_false, Bool.not_true, tCallN, zForR3, zMatch, zCase, zMethS, zRaiseO, yPopAt, zSl2, yIsiT, tysAt, zBInit, zOst, tXf, wAs, tMkO, zFmt, zJs, zJoin, yStr1, gLst, zCM, zListR1, zListR2, zLenR1, iR3, yInt1, yEqO, yAndO, yInO, yLenO, yReprO, isBl, Z.strAt, yEq0, yNe0, GF.zForG, GF.zLcG, GF.zListG, yIsi, tyAt, clsAt, ki_int_int, ki_bool_int, ki_none_int, ki_str_int, ki_list_int, ki_tuple_int, ki_int_bool, ki_bool_bool, ki_none_bool, ki_str_bool, ki_list_bool, ki_tuple_bool, zMakeV, tRz, zNever, upd_ne npq, hp]
  refine ⟨by rw [List.length_map]; rw [← eF, List.length_map] at hF; omega, ?_⟩
  have z := TsAt.app (a := ws[i]) (b := (e : Int) - i) hp hts hq
  rw [eF] at z
  refine k _ (Same.upd (s.trans (Same.new hq)) p0) z
theorem cut_in (hl : H l = some (.lst (ws.map V.int))) (hw : ws.length ≤ 100000) (p0 : H p = none) (m1 : 1 ≤ most) (hb : BdOk bd) {i0 : Nat} (s : Same H H') (t : TsAt H' p F) (hi : i0 < ws.length) (eF : F ++ [(ws[i0], 1)] = segs most bd (ws.take (i0 + 1)))
    (k : ∀ (i e : Nat) H'' F, ∀ hi : i < ws.length, Same H H'' → TsAt H'' p F → i < e → e ≤ ws.length → F ++ [(ws[i], (e : Int) - i)] = segs most bd (ws.take e) → (∀ he : e < ws.length, ¬ (ws[i] + ((e : Int) - i) = ws[e] ∧ (e : Int) - i < most)) → i0 < e → D.nx [some (.ref l), some (.int most), some (bdV bd), some (.ref p), some (.int i), some (.int e)] H'') :
    t_L_cut_2b_2 K D [some (.ref l), some (.int most), some (bdV bd), some (.ref p), some (.int i0), some (.int ((i0 + 1 : Nat) : Int))] H' := by
  have sz := sizeLine_eq
  unfold t_L_cut_2b_2
  simp only [tSeq, tAsg, tIfS, tRet, tRetN, tDrop, tNext, tPar, tPar3, gName, gSub, gTup, gCons, gNil, zV, tC, tOp, tUn, tCons, tNil, tLst, tTup, tIf, tAnd, tOr, tNot, tYes, zB, zAnd, zOr, zNot, zChain, tDNewK, yAdd, ySub, yMul, yDiv, yMod, yPow, yNeg, yLt, yLe, yGt, yGe, yEq, yNe, yIs0, yNotIs0, yIx, ySet, yIn, sqAt, isNone, zFld, zSetF, insAt, zMeth, zProp, tCall, tMake, tCB, yLen, yAbs, yMax2, yMin2, yList, yTuple, yDict0, zLM, yApp, isLst, dkAt, keyOf, zGet1, zGet2, zPop1, zPop2, zForR1, zForR2, zForL, zForT, Z.intAt, refAt, zLc, iR1, iR2, iL, iT, wipe, List.getElem?_cons_zero, List.getElem?_cons_succ, List.set_cons_zero, List.set_cons_succ, List.cons_append, List.nil_append, List.append_nil, upd_same, at0, at1, at2, ix0, ix1, ix2, upd_upd, ite_true, ite_false, if_true, if_false, Bool.false_eq_true, decide_true, decide_false, reduceIte, true_and, and_true, Option.isSome_none, Option.isSome_some, Bool.not_false, Bool.not_true, tCallN, zForR3, zMatch, zCase, zMethS, zRaiseO, yPopAt, zSl2, yIsiT, tysAt, zBInit, zOst, tXf, wAs, tMkO, zFmt, zJs, zJoin, yStr1, gLst, zCM, zListR1, zListR2, zLenR1, iR3, yInt1, yEqO, yAndO, yInO, yLenO, yReprO, isBl, Z.strAt, yEq0, yNe0, GF.zForG, GF.zLcG, GF.zListG, yIsi, tyAt, clsAt, ki_int_int, ki_bool_int, ki_none_int, ki_str_int, ki_list_int, ki_tuple_int, ki_int_bool, ki_bool_bool, ki_none_bool, ki_str_bool, ki_list_bool, ki_tuple_bool, zMakeV, tRz, zNever, tWhile]
  refine ⟨fun m σ H'' => ∃ (i e : Nat) (F : List (Int × Int)), ∃ hi : i < ws.length, σ = [some (.ref l), some (.int most), some (bdV bd), some (.ref p), some (.int i), some (.int e)] ∧ Same H H'' ∧ TsAt H'' p F ∧ i < e ∧ e ≤ ws.length ∧ F ++ [(ws[i], (e : Int) - i)] = segs most bd (ws.take e) ∧ m = ws.length - e ∧ i0 < e, ⟨_, i0, i0 + 1, F, hi, rfl, s, t, by omega, by omega, by rw [show (((i0 + 1 : Nat) : Int) - i0) = 1 by push_cast; omega]; exact eF, rfl, by omega⟩, ?_⟩
  rintro m σ H'' ⟨i, e, F, hi, rfl, s, t, ie, ew, eF, rfl, i0e⟩
  have hl' := s _ _ hl
  have hFl : F.length ≤ 100000 := by
    have := congrArg List.length eF
    have q := segs_len (most := most) (bd := bd) _ (ws.take e) rfl
    rw [List.length_append, List.length_singleton] at this
    rw [List.length_take] at q
    omega
  simp only [tSeq, tAsg, tIfS, tRet, tRetN, tDrop, tNext, tPar, tPar3, gName, gSub, gTup, gCons, gNil, zV, tC, tOp, tUn, tCons, tNil, tLst, tTup, tIf, tAnd, tOr, tNot, tYes, zB, zAnd, zOr, zNot, zChain, tDNewK, yAdd, ySub, yMul, yDiv, yMod, yPow, yNeg, yLt, yLe, yGt, yGe, yEq, yNe, yIs0, yNotIs0, yIx, ySet, yIn, sqAt, isNone, zFld, zSetF, insAt, zMeth, zProp, tCall, tMake, tCB, yLen, yAbs, yMax2, yMin2, yList, yTuple, yDict0, zLM, yApp, isLst, dkAt, keyOf, zGet1, zGet2, zPop1, zPop2, zForR1, zForR2, zForL, zForT, Z.intAt, refAt, zLc, iR1, iR2, iL, iT, wipe, List.getElem?_cons_zero, List.getElem?_cons_succ, List.set_cons_zero, List.set_cons_succ, List.cons_append, List.nil_append, List.append_nil, upd_same, at0, at1, at2, ix0, ix1, ix2, upd_upd, ite_true, ite_false, if_true, if_false, Bool.false_eq_true, decide_true, decide_false, reduceIte, true_and, and_true, Option.isSome_none, Option.isSome_some, Bool.not_false, Bool.not_true, tCallN, zForR3, zMatch, zCase, zMethS, zRaiseO, yPopAt, zSl2, yIsiT, tysAt, zBInit, zOst, tXf, wAs, tMkO, zFmt, zJs, zJoin, yStr1, gLst, zCM, zListR1, zListR2, zLenR1, iR3, yInt1, yEqO, yAndO, yInO, yLenO, yReprO, isBl, Z.strAt, yEq0, yNe0, GF.zForG, GF.zLcG, GF.zListG, yIsi, tyAt, clsAt, ki_int_int, ki_bool_int, ki_none_int, ki_str_int, ki_list_int, ki_tuple_int, ki_int_bool, ki_bool_bool, ki_none_bool, ki_str_bool, ki_list_bool, ki_tuple_bool, zMakeV, tRz, zNever, hl', List.length_map]
  by_cases c1 : e < ws.length
  · rw [decide_eq_true (by omega : (e : Int) < (ws.length : Int))]
    simp only [tSeq, tAsg, tIfS, tRet, tRetN, tDrop, tNext, tPar, tPar3, gName, gSub, gTup, gCons, gNil, zV, tC, tOp, tUn, tCons, tNil, tLst, tTup, tIf, tAnd, tOr, tNot, tYes, zB, zAnd, zOr, zNot, zChain, tDNewK, yAdd, ySub, yMul, yDiv, yMod, yPow, yNeg, yLt, yLe, yGt, yGe, yEq, yNe, yIs0, yNotIs0, yIx, ySet, yIn, sqAt, isNone, zFld, zSetF, insAt, zMeth, zProp, tCall, tMake, tCB, yLen, yAbs, yMax2, yMin2, yList, yTuple, yDict0, zLM, yApp, isLst, dkAt, keyOf, zGet1, zGet2, zPop1, zPop2, zForR1, zForR2, zForL, zForT, Z.intAt, refAt, zLc, iR1, iR2, iL, iT, wipe, List.getElem?_cons_zero, List.getElem?_cons_succ, List.set_cons_zero, List.set_cons_succ, List.cons_append, List.nil_append, List.append_nil, upd_same, at0, at1, at2, ix0, ix1, ix2, upd_upd, ite_true, ite_false, if_true, if_false, Bool.false_eq_true, decide_true, decide_false, reduceIte, true_and, and_true, Option.isSome_none, Option.isSome_some, Bool.not_false, Bool.not_true, tCallN, zForR3, zMatch, zCase, zMethS, zRaiseO, yPopAt, zSl2, yIsiT, tysAt, zBInit, zOst, tXf, wAs, tMkO, zFmt, zJs, zJoin, yStr1, gLst, zCM, zListR1, zListR2, zLenR1, iR3, yInt1, yEqO, yAndO, yInO, yLenO, yReprO, isBl, Z.strAt, yEq0, yNe0, GF.zForG, GF.zLcG, GF.zListG, yIsi, tyAt, clsAt, ki_int_int, ki_bool_int, ki_none_int, ki_str_int, ki_list_int, ki_tuple_int, ki_int_bool, ki_bool_bool, ki_none_bool, ki_str_bool, ki_list_bool, ki_tuple_bool, zMakeV, tRz, zNever, hl', atI_i hi, atI_i c1]
    have nx : segs most bd (ws.take (e + 1)) = if (ws[i] + ((e : Int) - i) = ws[e] ∧ (e : Int) - i < most) ∧ okB bd ws[i] ws[e] = true then F ++ [(ws[i], (e : Int) - i + 1)] else (F ++ [(ws[i], (e : Int) - i)]) ++ [(ws[e], 1)] := by
      rw [segs_take c1, ← eF]
      exact step_snoc (p := (ws[i], (e : Int) - i))
    by_cases c2 : ws[e] = ws[i] + e - i
    · rw [decide_eq_true c2]
      simp only [tSeq, tAsg, tIfS, tRet, tRetN, tDrop, tNext, tPar, tPar3, gName, gSub, gTup, gCons, gNil, zV, tC, tOp, tUn, tCons, tNil, tLst, tTup, tIf, tAnd, tOr, tNot, tYes, zB, zAnd, zOr, zNot, zChain, tDNewK, yAdd, ySub, yMul, yDiv, yMod, yPow, yNeg, yLt, yLe, yGt, yGe, yEq, yNe, yIs0, yNotIs0, yIx, ySet, yIn, sqAt, isNone, zFld, zSetF, insAt, zMeth, zProp, tCall, tMake, tCB, yLen, yAbs, yMax2, yMin2, yList, yTuple, yDict0, zLM, yApp, isLst, dkAt, keyOf, zGet1, zGet2, zPop1, zPop2, zForR1, zForR2, zForL, zForT, Z.intAt, refAt, zLc, iR1, iR2, iL, iT, wipe, List.getElem?_cons_zero, List.getElem?_cons_succ, List.set_cons_zero, List.set_cons_succ, List.cons_append, List.nil_append, List.append_nil, upd_same, at0, at1, at2, ix0, ix1, ix2, upd_upd, ite_true, ite_false, if_true, if_false, Bool.false_eq_true, decide_true, decide_false, reduceIte, true_and, and_true, Option.isSome_none, Option.isSome_some, Bool.not_false, Bool.not_true, tCallN, zForR3, zMatch, zCase, zMethS, zRaiseO, yPopAt, zSl2, yIsiT, tysAt, zBInit, zOst, tXf, wAs, tMkO, zFmt, zJs, zJoin, yStr1, gLst, zCM, zListR1, zListR2, zLenR1, iR3, yInt1, yEqO, yAndO, yInO, yLenO, yReprO, isBl, Z.strAt, yEq0, yNe0, GF.zForG, GF.zLcG, GF.zListG, yIsi, tyAt, clsAt, ki_int_int, ki_bool_int, ki_none_int, ki_str_int, ki_list_int, ki_tuple_int, ki_int_bool, ki_bool_bool, ki_none_bool, ki_str_bool, ki_list_bool, ki_tuple_bool, zMakeV, tRz, zNever]
      by_cases c3 : (e : Int) - i < most
      · rw [decide_eq_true c3]
        simp only [tSeq, tAsg, tIfS, tRet, tRetN, tDrop, tNext, tPar, tPar3, gName, gSub, gTup, gCons, gNil, zV, tC, tOp, tUn, tCons, tNil, tLst, tTup, tIf, tAnd, tOr, tNot, tYes, zB, zAnd, zOr, zNot, zChain, tDNewK, yAdd, ySub, yMul, yDiv, yMod, yPow, yNeg, yLt, yLe, yGt, yGe, yEq, yNe, yIs0, yNotIs0, yIx, ySet, yIn, sqAt, isNone, zFld, zSetF, insAt, zMeth, zProp, tCall, tMake, tCB, yLen, yAbs, yMax2, yMin2, yList, yTuple, yDict0, zLM, yApp, isLst, dkAt, keyOf, zGet1, zGet2, zPop1, zPop2, zForR1, zForR2, zForL, zForT, Z.intAt, refAt, zLc, iR1, iR2, iL, iT, wipe, List.getElem?_cons_zero, List.getElem?_cons_succ, List.set_cons_zero, List.set_cons_succ, List.cons_append, List.nil_append, List.append_nil, upd_same, at0, at1, at2, ix0, ix1, ix2, upd_upd, ite_true, ite_false, if_true, if_false, Bool.false_eq_true, decide_true, decide_false, reduceIte, true_and, and_true, Option.isSome_none, Option.isSome_some, Bool.not_false, Bool.not_true, tCallN, zForR3, zMatch, zCase, zMethS, zRaiseO, yPopAt, zSl2, yIsiT, tysAt, zBInit, zOst, tXf, wAs, tMkO, zFmt, zJs, zJoin, yStr1, gLst, zCM, zListR1, zListR2, zLenR1, iR3, yInt1, yEqO, yAndO, yInO, yLenO, yReprO, isBl, Z.strAt, yEq0, yNe0, GF.zForG, GF.zLcG, GF.zListG, yIsi, tyAt, clsAt, ki_int_int, ki_bool_int, ki_none_int, ki_str_int, ki_list_int, ki_tuple_int, ki_int_bool, ki_bool_bool, ki_none_bool, ki_str_bool, ki_list_bool, ki_tuple_bool, zMakeV, tRz, zNever]
        refine ⟨fun σ' H3 => ∃ (i e' : Nat) (F : List (Int × Int)), ∃ hi : i < ws.length, σ' = [some (.ref l), some (.int most), some (bdV bd), some (.ref p), some (.int i), some (.int e')] ∧ Same H H3 ∧ TsAt H3 p F ∧ i < e' ∧ e' ≤ ws.length ∧ F ++ [(ws[i], (e' : Int) - i)] = segs most bd (ws.take e') ∧ e' = e + 1 ∧ i0 < e', ?_, ?_⟩
        · rintro σ' H3 ⟨i, e', F, hi, rfl, s, t, ie, ew, eF, rfl, i0e'⟩
          exact ⟨ws.length - (e + 1), by omega, i, e + 1, F, hi, rfl, s, t, ie, ew, eF, rfl, i0e'⟩
        have stay : ∀ H3, Same H H3 → TsAt H3 p F → okB bd ws[i] ws[e] = true → ∃ (i' e' : Nat) (F : List (Int × Int)), ∃ hi' : i' < ws.length, [some (V.ref l), some (.int most), some (bdV bd), some (.ref p), some (.int i), some (.int ((e : Int) + 1))] = [some (.ref l), some (.int most), some (bdV bd), some (.ref p), some (.int i'), some (.int e')] ∧ Same H H3 ∧ TsAt H3 p F ∧ i' < e' ∧ e' ≤ ws.length ∧ F ++ [(ws[i'], (e' : Int) - i')] = segs most bd (ws.take e') ∧ e' = e + 1 ∧ i0 < e' := by
          intro H3 s3 t3 ok
          refine ⟨i, e + 1, F, hi, by push_cast; rfl, s3, t3, by omega, by omega, ?_, rfl, by omega⟩
          rw [nx, if_pos ⟨⟨by omega, c3⟩, ok⟩]
          congr 3
          push_cast
          omega
        unfold t_L_cut_2b_2b_1 t_L_cut_2b_2b_2
        cases bd with
        | none =>
          simp only [tSeq, tAsg, tIfS, tRet, tRetN, tDrop, tNext, tPar, tPar3, gName, gSub, gTup, gCons, gNil, zV, tC, tOp, tUn, tCons, tNil, tLst, tTup, tIf, tAnd, tOr, tNot, tYes, zB, zAnd, zOr, zNot, zChain, tDNewK, yAdd, ySub, yMul, yDiv, yMod, yPow, yNeg, yLt, yLe, yGt, yGe, yEq, yNe, yIs0, yNotIs0, yIx, ySet, yIn, sqAt, isNone, zFld, zSetF, insAt, zMeth, zProp, tCall, tMake, tCB, yLen, yAbs, yMax2, yMin2, yList, yTuple, yDict0, zLM, yApp, isLst, dkAt, keyOf, zGet1, zGet2, zPop1, zPop2, zForR1, zForR2, zForL, zForT, Z.intAt, refAt, zLc, iR1, iR2, iL, iT, wipe, List.getElem?_cons_zero, List.getElem?_cons_succ, List.set_cons_zero, List.set_cons_succ, List.cons_append, List.nil_append, List.append_nil, upd_same, at0, at1, at2, ix0, ix1, ix2, upd_upd, ite_true, ite_false, if_true, if_false, Bool.false_eq_true, decide_true, decide_false, reduceIte, true_and, and_true, Option.isSome_none, Option.isSome_some, Bool.not_false, Bool.not_true, tCallN, zForR3, zMatch, zCase, zMethS, zRaiseO, yPopAt, zSl2, yIsiT, tysAt, zBInit, zOst, tXf, wAs, tMkO, zFmt, zJs, zJoin, yStr1, gLst, zCM, zListR1, zListR2, zLenR1, iR3, yInt1, yEqO, yAndO, yInO, yLenO, yReprO, isBl, Z.strAt, yEq0, yNe0, GF.zForG, GF.zLcG, GF.zListG, yIsi, tyAt, clsAt, ki_int_int, ki_bool_int, ki_none_int, ki_str_int, ki_list_int, ki_tuple_int, ki_int_bool, ki_bool_bool, ki_none_bool, ki_str_bool, ki_list_bool, ki_tuple_bool, zMakeV, tRz, zNever, bdV]
          exact stay _ s t rfl
        | some b =>
          have b0 := hb b rfl
          have nb : decide (bdV (some b) = V.non) = false := decide_eq_false (by simp [bdV])
          simp only [tSeq, tAsg, tIfS, tRet, tRetN, tDrop, tNext, tPar, tPar3, gName, gSub, gTup, gCons, gNil, zV, tC, tOp, tUn, tCons, tNil, tLst, tTup, tIf, tAnd, tOr, tNot, tYes, zB, zAnd, zOr, zNot, zChain, tDNewK, yAdd, ySub, yMul, yDiv, yMod, yPow, yNeg, yLt, yLe, yGt, yGe, yEq, yNe, yIs0, yNotIs0, yIx, ySet, yIn, sqAt, isNone, zFld, zSetF, insAt, zMeth, zProp, tCall, tMake, tCB, yLen, yAbs, yMax2, yMin2, yList, yTuple, yDict0, zLM, yApp, isLst, dkAt, keyOf, zGet1, zGet2, zPop1, zPop2, zForR1, zForR2, zForL, zForT, Z.intAt, refAt, zLc, iR1, iR2, iL, iT, wipe, List.getElem?_cons_zero, List.getElem?_cons_succ, List.set_cons_zero, List.set_cons_succ, List.cons_append, List.nil_append, List.append_nil, upd_same, at0, at1, at2, ix0, ix1, ix2, upd_upd, ite_true, ite_false, if_true, if_false, Bool.false_eq_true, decide_true, decide_false, reduceIte, true_and, and_true, Option.isSome_none, Option.isSome_some, Bool.not_false, Bool.not_true, tCallN, zForR3, zMatch, zCase, zMethS, zRaiseO, yPopAt, zSl2, yIsiT, tysAt, zBInit, zOst, tXf, wAs, tMkO, zFmt, zJs, zJoin, yStr1, gLst, zCM, zListR1, zListR2, zLenR1, iR3, yInt1, yEqO, yAndO, yInO, yLenO, yReprO, isBl, Z.strAt, yEq0, yNe0, GF.zForG, GF.zLcG, GF.zListG, yIsi, tyAt, clsAt, ki_int_int, ki_bool_int, ki_none_int, ki_str_int, ki_list_int, ki_tuple_int, ki_int_bool, ki_bool_bool, ki_none_bool, ki_str_bool, ki_list_bool, ki_tuple_bool, zMakeV, tRz, zNever, nb]
          simp only [tSeq, tAsg, tIfS, tRet, tRetN, tDrop, tNext, tPar, tPar3, gName, gSub, gTup, gCons, gNil, zV, tC, tOp, tUn, tCons, tNil, tLst, tTup, tIf, tAnd, tOr, tNot, tYes, zB, zAnd, zOr, zNot, zChain, tDNewK, yAdd, ySub, yMul, yDiv, yMod, yPow, yNeg, yLt, yLe, yGt, yGe, yEq, yNe, yIs0, yNotIs0, yIx, ySet, yIn, sqAt, isNone, zFld, zSetF, insAt, zMeth, zProp, tCall, tMake, tCB, yLen, yAbs, yMax2, yMin2, yList, yTuple, yDict0, zLM, yApp, isLst, dkAt, keyOf, zGet1, zGet2, zPop1, zPop2, zForR1, zForR2, zForL, zForT, Z.intAt, refAt, zLc, iR1, iR2, iL, iT, wipe, List.getElem?_cons_zero, List.getElem?_cons_succ, List.set_cons_zero, List.set_cons_succ, List.cons_append, List.nil_append, List.append_nil, upd_same, at0, at1, at2, ix0, ix1, ix2, upd_upd, ite_true, ite_false, if_true, if_false, Bool.false_eq_true, decide_true, decide_false, reduceIte, true_and, and_true, Option.isSome_none, Option.isSome_some, Bool.not_false, Bool.not_true, tCallN, zForR3, zMatch, zCase, zMethS, zRaiseO, yPopAt, zSl2, yIsiT, tysAt, zBInit, zOst, tXf, wAs, tMkO, zFmt, zJs, zJoin, yStr1, gLst, zCM, zListR1, zListR2, zLenR1, iR3, yInt1, yEqO, yAndO, yInO, yLenO, yReprO, isBl, Z.strAt, yEq0, yNe0, GF.zForG, GF.zLcG, GF.zListG, yIsi, tyAt, clsAt, ki_int_int, ki_bool_int, ki_none_int, ki_str_int, ki_list_int, ki_tuple_int, ki_int_bool, ki_bool_bool, ki_none_bool, ki_str_bool, ki_list_bool, ki_tuple_bool, zMakeV, tRz, zNever, bdV, hl', atI_i hi, atI_i c1]
          refine ⟨b0, b0, ?_⟩
          by_cases c4 : ws[e] / b = ws[i] / b
          · rw [decide_eq_true c4]
            simp only [tSeq, tAsg, tIfS, tRet, tRetN, tDrop, tNext, tPar, tPar3, gName, gSub, gTup, gCons, gNil, zV, tC, tOp, tUn, tCons, tNil, tLst, tTup, tIf, tAnd, tOr, tNot, tYes, zB, zAnd, zOr, zNot, zChain, tDNewK, yAdd, ySub, yMul, yDiv, yMod, yPow, yNeg, yLt, yLe, yGt, yGe, yEq, yNe, yIs0, yNotIs0, yIx, ySet, yIn, sqAt, isNone, zFld, zSetF, insAt, zMeth, zProp, tCall, tMake, tCB, yLen, yAbs, yMax2, yMin2, yList, yTuple, yDict0, zLM, yApp, isLst, dkAt, keyOf, zGet1, zGet2, zPop1, zPop2, zForR1, zForR2, zForL, zForT, Z.intAt, refAt, zLc, iR1, iR2, iL, iT, wipe, List.getElem?_cons_zero, List.getElem?_cons_succ, List.set_cons_zero, List.set_cons_succ, List.cons_append, List.nil_append, List.append_nil, upd_same, at0, at1, at2, ix0, ix1, ix2, upd_upd, ite_true, ite_false, if_true, if_false, Bool.false_eq_true, decide_true, decide_false, reduceIte, true_and, and_true, Option.isSome_none, Option.isSome_some, Bool.not_false, Bool.not_true, tCallN, zForR3, zMatch, zCase, zMethS, zRaiseO, yPopAt, zSl2, yIsiT, tysAt, zBInit, zOst, tXf, wAs, tMkO, zFmt, zJs, zJoin, yStr1, gLst, zCM, zListR1, zListR2, zLenR1, iR3, yInt1, yEqO, yAndO, yInO, yLenO, yReprO, isBl, Z.strAt, yEq0, yNe0, GF.zForG, GF.zLcG, GF.zListG, yIsi, tyAt, clsAt, ki_int_int, ki_bool_int, ki_none_int, ki_str_int, ki_list_int, ki_tuple_int, ki_int_bool, ki_bool_bool, ki_none_bool, ki_str_bool, ki_list_bool, ki_tuple_bool, zMakeV, tRz, zNever]
            exact stay _ s t (decide_eq_true c4.symm)
          · rw [decide_eq_false c4]
            simp only [tSeq, tAsg, tIfS, tRet, tRetN, tDrop, tNext, tPar, tPar3, gName, gSub, gTup, gCons, gNil, zV, tC, tOp, tUn, tCons, tNil, tLst, tTup, tIf, tAnd, tOr, tNot, tYes, zB, zAnd, zOr, zNot, zChain, tDNewK, yAdd, ySub, yMul, yDiv, yMod, yPow, yNeg, yLt, yLe, yGt, yGe, yEq, yNe, yIs0, yNotIs0, yIx, ySet, yIn, sqAt, isNone, zFld, zSetF, insAt, zMeth, zProp, tCall, tMake, tCB, yLen, yAbs, yMax2, yMin2, yList, yTuple, yDict0, zLM, yApp, isLst, dkAt, keyOf, zGet1, zGet2, zPop1, zPop2, zForR1, zForR2, zForL, zForT, Z.intAt, refAt, zLc, iR1, iR2, iL, iT, wipe, List.getElem?_cons_zero, List.getElem?_cons_succ, List.set_cons_zero, List.set_cons_succ, List.cons_append, List.nil_append, List.append_nil, upd_same, at0, at1, at2, ix0, ix1, ix2, upd_upd, ite_true, ite_false, if_true, if_false, Bool.false_eq_true, decide_true, decide_false, reduceIte, true_and, and_true, Option.isSome_none, Option.isSome_some, Bool.not_false, Bool.not_true, tCallN, zForR3, zMatch, zCase, zMethS, zRaiseO, yPopAt, zSl2, yIsiT, tysAt, zBInit, zOst, tXf, wAs, tMkO, zFmt, zJs, zJoin, yStr1, gLst, zCM, zListR1, zListR2, zLenR1, iR3, yInt1, yEqO, yAndO, yInO, yLenO, yReprO, isBl, Z.strAt, yEq0, yNe0, GF.zForG, GF.zLcG, GF.zListG, yIsi, tyAt, clsAt, ki_int_int, ki_bool_int, ki_none_int, ki_str_int, ki_list_int, ki_tuple_int, ki_int_bool, ki_bool_bool, ki_none_bool, ki_str_bool, ki_list_bool, ki_tuple_bool, zMakeV, tRz, zNever]
            show t_L_cut_2b_3 K _ _ _
            refine cut_app hl s p0 t hFl hi fun H3 s3 t3 => ?_
            unfold t_L_cut_2b_2b_1t_2
            simp only [tSeq, tAsg, tIfS, tRet, tRetN, tDrop, tNext, tPar, tPar3, gName, gSub, gTup, gCons, gNil, zV, tC, tOp, tUn, tCons, tNil, tLst, tTup, tIf, tAnd, tOr, tNot, tYes, zB, zAnd, zOr, zNot, zChain, tDNewK, yAdd, ySub, yMul, yDiv, yMod, yPow, yNeg, yLt, yLe, yGt, yGe, yEq, yNe, yIs0, yNotIs0, yIx, ySet, yIn, sqAt, isNone, zFld, zSetF, insAt, zMeth, zProp, tCall, tMake, tCB, yLen, yAbs, yMax2, yMin2, yList, yTuple, yDict0, zLM, yApp, isLst, dkAt, keyOf, zGet1, zGet2, zPop1, zPop2, zForR1, zForR2, zForL, zForT, Z.intAt, refAt, zLc, iR1, iR2, iL, iT, wipe, List.getElem?_cons_zero, List.getElem?_cons_succ, List.set_cons_zero, List.set_cons_succ, List.cons_append, List.nil_append, List.append_nil, upd_same, at0, at1, at2, ix0, ix1, ix2, upd_upd, ite_true, ite_false, if_true, if_false, Bool.false_eq_true, decide_true, decide_false, reduceIte, true_and, and_true, Option.isSome_none, Option.isSome_some, Bool.not_false, Bool.not_true, tCallN, zForR3, zMatch, zCase, zMethS, zRaiseO, yPopAt, zSl2, yIsiT, tysAt, zBInit, zOst, tXf, wAs, tMkO, zFmt, zJs, zJoin, yStr1, gLst, zCM, zListR1, zListR2, zLenR1, iR3, yInt1, yEqO, yAndO, yInO, yLenO, yReprO, isBl, Z.strAt, yEq0, yNe0, GF.zForG, GF.zLcG, GF.zListG, yIsi, tyAt, clsAt, ki_int_int, ki_bool_int, ki_none_int, ki_str_int, ki_list_int, ki_tuple_int, ki_int_bool, ki_bool_bool, ki_none_bool, ki_str_bool, ki_list_bool, ki_tuple_bool, zMakeV, tRz, zNever]
            refine ⟨e, e + 1, _, c1, by push_cast; rfl, s3, t3, by omega, by omega, ?_, rfl, by omega⟩
            rw [nx, if_neg (fun z => c4 (of_decide_eq_true z.2).symm)]
            congr 3
            push_cast
            omega
      · rw [decide_eq_false c3]
        simp only [tSeq, tAsg, tIfS, tRet, tRetN, tDrop, tNext, tPar, tPar3, gName, gSub, gTup, gCons, gNil, zV, tC, tOp, tUn, tCons, tNil, tLst, tTup, tIf, tAnd, tOr, tNot, tYes, zB, zAnd, zOr, zNot, zChain, tDNewK, yAdd, ySub, yMul, yDiv, yMod, yPow, yNeg, yLt, yLe, yGt, yGe, yEq, yNe, yIs0, yNotIs0, yIx, ySet, yIn, sqAt, isNone, zFld, zSetF, insAt, zMeth, zProp, tCall, tMake, tCB, yLen, yAbs, yMax2, yMin2, yList, yTuple, yDict0, zLM, yApp, isLst, dkAt, keyOf, zGet1, zGet2, zPop1, zPop2, zForR1, zForR2, zForL, zForT, Z.intAt, refAt, zLc, iR1, iR2, iL, iT, wipe, List.getElem?_cons_zero, List.getElem?_cons_succ, List.set_cons_zero, List.set_cons_succ, List.cons_append, List.nil_append, List.append_nil, upd_same, at0, at1, at2, ix0, ix1, ix2, upd_upd, ite_true, ite_false, if_true, if_false, Bool.false_eq_true, decide_true, decide_false, reduceIte, true_and, and_true, Option.isSome_none, Option.isSome_some, Bool.not_false, Bool.not_true, tCallN, zForR3, zMatch, zCase, zMethS, zRaiseO, yPopAt, zSl2, yIsiT, tysAt, zBInit, zOst, tXf, wAs, tMkO, zFmt, zJs, zJoin, yStr1, gLst, zCM, zListR1, zListR2, zLenR1, iR3, yInt1, yEqO, yAndO, yInO, yLenO, yReprO, isBl, Z.strAt, yEq0, yNe0, GF.zForG, GF.zLcG, GF.zListG, yIsi, tyAt, clsAt, ki_int_int, ki_bool_int, ki_none_int, ki_str_int, ki_list_int, ki_tuple_int, ki_int_bool, ki_bool_bool, ki_none_bool, ki_str_bool, ki_list_bool, ki_tuple_bool, zMakeV, tRz, zNever]
        exact k i e H'' F hi s t ie ew eF (fun _ z => c3 z.2) i0e
    · rw [decide_eq_false c2]
      simp only [tSeq, tAsg, tIfS, tRet, tRetN, tDrop, tNext, tPar, tPar3, gName, gSub, gTup, gCons, gNil, zV, tC, tOp, tUn, tCons, tNil, tLst, tTup, tIf, tAnd, tOr, tNot, tYes, zB, zAnd, zOr, zNot, zChain, tDNewK, yAdd, ySub, yMul, yDiv, yMod, yPow, yNeg, yLt, yLe, yGt, yGe, yEq, yNe, yIs0, yNotIs0, yIx, ySet, yIn, sqAt, isNone, zFld, zSetF, insAt, zMeth, zProp, tCall, tMake, tCB, yLen, yAbs, yMax2, yMin2, yList, yTuple, yDict0, zLM, yApp, isLst, dkAt, keyOf, zGet1, zGet2, zPop1, zPop2, zForR1, zForR2, zForL, zForT, Z.intAt, refAt, zLc, iR1, iR2, iL, iT, wipe, List.getElem?_cons_zero, List.getElem?_cons_succ, List.set_cons_zero, List.set_cons_succ, List.cons_append, List.nil_append, List.append_nil, upd_same, at0, at1, at2, ix0, ix1, ix2, upd_upd, ite_true, ite_false, if_true, if_false, Bool.false_eq_true, decide_true, decide_false, reduceIte, true_and, and_true, Option.isSome_none, Option.isSome_some, Bool.not_false, Bool.not_true, tCallN, zForR3, zMatch, zCase, zMethS, zRaiseO, yPopAt, zSl2, yIsiT, tysAt, zBInit, zOst, tXf, wAs, tMkO, zFmt, zJs, zJoin, yStr1, gLst, zCM, zListR1, zListR2, zLenR1, iR3, yInt1, yEqO, yAndO, yInO, yLenO, yReprO, isBl, Z.strAt, yEq0, yNe0, GF.zForG, GF.zLcG, GF.zListG, yIsi, tyAt, clsAt, ki_int_int, ki_bool_int, ki_none_int, ki_str_int, ki_list_int, ki_tuple_int, ki_int_bool, ki_bool_bool, ki_none_bool, ki_str_bool, ki_list_bool, ki_tuple_bool, zMakeV, tRz, zNever]
      exact k i e H'' F hi s t ie ew eF (fun _ z => c2 (by omega)) i0e
  · rw [decide_eq_false (by omega : ¬ (e : Int) < (ws.length : Int))]
    simp only [tSeq, tAsg, tIfS, tRet, tRetN, tDrop, tNext, tPar, tPar3, gName, gSub, gTup, gCons, gNil, zV, tC, tOp, tUn, tCons, tNil, tLst, tTup, tIf, tAnd, tOr, tNot, tYes, zB, zAnd, zOr, zNot, zChain, tDNewK, yAdd, ySub, yMul, yDiv, yMod, yPow, yNeg, yLt, yLe, yGt, yGe, yEq, yNe, yIs0, yNotIs0, yIx, ySet, yIn, sqAt, isNone, zFld, zSetF, insAt, zMeth, zProp, tCall, tMake, tCB, yLen, yAbs, yMax2, yMin2, yList, yTuple, yDict0, zLM, yApp, isLst, dkAt, keyOf, zGet1, zGet2, zPop1, zPop2, zForR1, zForR2, zForL, zForT, Z.intAt, refAt, zLc, iR1, iR2, iL, iT, wipe, List.getElem?_cons_zero, List.getElem?_cons_succ, List.set_cons_zero, List.set_cons_succ, List.cons_append, List.nil_append, List.append_nil, upd_same, at0, at1, at2, ix0, ix1, ix2, upd_upd, ite_true, ite_false, if_true, if_false, Bool.false_eq_true, decide_true, decide_false, reduceIte, true_and, and_true, Option.isSome_none, Option.isSome_some, Bool.not_false, Bool.not_true, tCallN, zForR3, zMatch, zCase, zMethS, zRaiseO, yPopAt, zSl2, yIsiT, tysAt, zBInit, zOst, tXf, wAs, tMkO, zFmt, zJs, zJoin, yStr1, gLst, zCM, zListR1, zListR2, zLenR1, iR3, yInt1, yEqO, yAndO, yInO, yLenO, yReprO, isBl, Z.strAt, yEq0, yNe0, GF.zForG, GF.zLcG, GF.zListG, yIsi, tyAt, clsAt, ki_int_int, ki_bool_int, ki_none_int, ki_str_int, ki_list_int, ki_tuple_int, ki_int_bool, ki_bool_bool, ki_none_bool, ki_str_bool, ki_list_bool, ki_tuple_bool, zMakeV, tRz, zNever]
    exact k i e H'' F hi s t ie ew eF (fun he => absurd he c1) i0e
end
theorem rd_L_cut {K : PySem.W.Frag} {mg : Str → Option Value} (T : Top K mg) : ∀ vs H Q E, sp_L_cut K vs H Q E → t_L_cut K { nx := fun _ H' => Q .non H', rt := Q } (start nm_L_cut vs) H := by
  rintro vs H Q E ⟨l, ws, most, bd, rfl, hl, hw, hwb, m1, m2, hb, q⟩
  rw [start_L_cut]
  have sz := sizeLine_eq
  unfold t_L_cut t_L_cut_1 t_L_cut_2
  simp only [tSeq, tAsg, tIfS, tRet, tRetN, tDrop, tNext, tPar, tPar3, gName, gSub, gTup, gCons, gNil, zV, tC, tOp, tUn, tCons, tNil, tLst, tTup, tIf, tAnd, tOr, tNot, tYes, zB, zAnd, zOr, zNot, zChain, tDNewK, yAdd, ySub, yMul, yDiv, yMod, yPow, yNeg, yLt, yLe, yGt, yGe, yEq, yNe, yIs0, yNotIs0, yIx, ySet, yIn, sqAt, isNone, zFld, zSetF, insAt, zMeth, zProp, tCall, tMake, tCB, yLen, yAbs, yMax2, yMin2, yList, yTuple, yDict0, zLM, yApp, isLst, dkAt, keyOf, zGet1, zGet2, zPop1, zPop2, zForR1, zForR2, zForL, zForT, Z.intAt, refAt, zLc, iR1, iR2, iL, iT, wipe, List.getElem?_cons_zero, List.getElem?_cons_succ, List.set_cons_zero, List.set_cons_succ, List.cons_append, List.nil_append, List.append_nil, upd_same, at0, at1, at2, ix0, ix1, ix2, upd_upd, ite_true, ite_false, if_true, if_false, Bool.false_eq_true, decide_true, decide_false, reduceIte, true_and, and_true, Option.isSome_none, Option.isSome_some, Bool.not_false, Bool.not_true, tCallN, zForR3, zMatch, zCase, zMethS, zRaiseO, yPopAt, zSl2, yIsiT, tysAt, zBInit, zOst, tXf, wAs, tMkO, zFmt, zJs, zJoin, yStr1, gLst, zCM, zListR1, zListR2, zLenR1, iR3, yInt1, yEqO, yAndO, yInO, yLenO, yReprO, isBl, Z.strAt, yEq0, yNe0, GF.zForG, GF.zLcG, GF.zListG, yIsi, tyAt, clsAt, ki_int_int, ki_bool_int, ki_none_int, ki_str_int, ki_list_int, ki_tuple_int, ki_int_bool, ki_bool_bool, ki_none_bool, ki_str_bool, ki_list_bool, ki_tuple_bool, zMakeV, tRz, zNever, tWhile]
  refine ⟨Nat.zero_le _, fun p p0 => ⟨_, _, rfl, ?_⟩⟩
  try simp only [tSeq, tAsg, tIfS, tRet, tRetN, tDrop, tNext, tPar, tPar3, gName, gSub, gTup, gCons, gNil, zV, tC, tOp, tUn, tCons, tNil, tLst, tTup, tIf, tAnd, tOr, tNot, tYes, zB, zAnd, zOr, zNot, zChain, tDNewK, yAdd, ySub, yMul, yDiv, yMod, yPow, yNeg, yLt, yLe, yGt, yGe, yEq, yNe, yIs0, yNotIs0, yIx, ySet, yIn, sqAt, isNone, zFld, zSetF, insAt, zMeth, zProp, tCall, tMake, tCB, yLen, yAbs, yMax2, yMin2, yList, yTuple, yDict0, zLM, yApp, isLst, dkAt, keyOf, zGet1, zGet2, zPop1, zPop2, zForR1, zForR2, zForL, zForT, Z.intAt, refAt, zLc, iR1, iR2, iL, iT, wipe, List.getElem?_cons_zero, List.getElem?_cons_succ, List.set_cons_zero, List.set_cons_succ, List.cons_append, List.nil_append, List.append_nil, upd_same, at0, at1, at2, ix0, ix1, ix2, upd_upd, ite_true, ite_false, if_true, if_false, Bool.false_eq_true, decide_true, decide_false, reduceIte, true_and, and_true, Option.isSome_none, Option.isSome_some, Bool.not_false, Bool.not_true, tCallN, zForR3, zMatch, zCase, zMethS, zRaiseO, yPopAt, zSl2, yIsiT, tysAt, zBInit, zOst, tXf, wAs, tMkO, zFmt, zJs, zJoin, yStr1, gLst, zCM, zListR1, zListR2, zLenR1, iR3, yInt1, yEqO, yAndO, yInO, yLenO, yReprO, isBl, Z.strAt, yEq0, yNe0, GF.zForG, GF.zLcG, GF.zListG, yIsi, tyAt, clsAt, ki_int_int, ki_bool_int, ki_none_int, ki_str_int, ki_list_int, ki_tuple_int, ki_int_bool, ki_bool_bool, ki_none_bool, ki_str_bool, ki_list_bool, ki_tuple_bool, zMakeV, tRz, zNever, tWhile]
  refine ⟨fun m σ H' => ∃ (i : Nat) (v5 : Option V), σ = [some (.ref l), some (.int most), some (bdV bd), some (.ref p), some (.int i), v5] ∧ Same H H' ∧ TsAt H' p (segs most bd (ws.take i)) ∧ i ≤ ws.length ∧ (∀ hi : i < ws.length, stepS most bd (segs most bd (ws.take i)) ws[i] = segs most bd (ws.take i) ++ [(ws[i], 1)]) ∧ m = ws.length - i, ⟨_, 0, none, rfl, Same.new p0, ⟨[], upd_same, fun e he => (by cases he), rfl⟩, Nat.zero_le _, fun hi => rfl, rfl⟩, ?_⟩
  rintro m σ H' ⟨i, v5, rfl, s, t, iw, fr, rfl⟩
  have hl' := s _ _ hl
  simp only [tSeq, tAsg, tIfS, tRet, tRetN, tDrop, tNext, tPar, tPar3, gName, gSub, gTup, gCons, gNil, zV, tC, tOp, tUn, tCons, tNil, tLst, tTup, tIf, tAnd, tOr, tNot, tYes, zB, zAnd, zOr, zNot, zChain, tDNewK, yAdd, ySub, yMul, yDiv, yMod, yPow, yNeg, yLt, yLe, yGt, yGe, yEq, yNe, yIs0, yNotIs0, yIx, ySet, yIn, sqAt, isNone, zFld, zSetF, insAt, zMeth, zProp, tCall, tMake, tCB, yLen, yAbs, yMax2, yMin2, yList, yTuple, yDict0, zLM, yApp, isLst, dkAt, keyOf, zGet1, zGet2, zPop1, zPop2, zForR1, zForR2, zForL, zForT, Z.intAt, refAt, zLc, iR1, iR2, iL, iT, wipe, List.getElem?_cons_zero, List.getElem?_cons_succ, List.set_cons_zero, List.set_cons_succ, List.cons_append, List.nil_append, List.append_nil, upd_same, at0, at1, at2, ix0, ix1, ix2, upd_upd, ite_true, ite_false, if_true, if_false, Bool.false_eq_true, decide_true, decide_false, reduceIte, true_and, and_true, Option.isSome_none, Option.isSome_some, Bool.not_false, Bool.not_true, tCallN, zForR3, zMatch, zCase, zMethS, zRaiseO, yPopAt, zSl2, yIsiT, tysAt, zBInit, zOst, tXf, wAs, tMkO, zFmt, zJs, zJoin, yStr1, gLst, zCM, zListR1, zListR2, zLenR1, iR3, yInt1, yEqO, yAndO, yInO, yLenO, yReprO, isBl, Z.strAt, yEq0, yNe0, GF.zForG, GF.zLcG, GF.zListG, yIsi, tyAt, clsAt, ki_int_int, ki_bool_int, ki_none_int, ki_str_int, ki_list_int, ki_tuple_int, ki_int_bool, ki_bool_bool, ki_none_bool, ki_str_bool, ki_list_bool, ki_tuple_bool, zMakeV, tRz, zNever, hl', List.length_map]
  by_cases c1 : i < ws.length
  · rw [decide_eq_true (by omega : (i : Int) < (ws.length : Int))]
    simp only [tSeq, tAsg, tIfS, tRet, tRetN, tDrop, tNext, tPar, tPar3, gName, gSub, gTup, gCons, gNil, zV, tC, tOp, tUn, tCons, tNil, tLst, tTup, tIf, tAnd, tOr, tNot, tYes, zB, zAnd, zOr, zNot, zChain, tDNewK, yAdd, ySub, yMul, yDiv, yMod, yPow, yNeg, yLt, yLe, yGt, yGe, yEq, yNe, yIs0, yNotIs0, yIx, ySet, yIn, sqAt, isNone, zFld, zSetF, insAt, zMeth, zProp, tCall, tMake, tCB, yLen, yAbs, yMax2, yMin2, yList, yTuple, yDict0, zLM, yApp, isLst, dkAt, keyOf, zGet1, zGet2, zPop1, zPop2, zForR1, zForR2, zForL, zForT, Z.intAt, refAt, zLc, iR1, iR2, iL, iT, wipe, List.getElem?_cons_zero, List.getElem?_cons_succ, List.set_cons_zero, List.set_cons_succ, List.cons_append, List.nil_append, List.append_nil, upd_same, at0, at1, at2, ix0, ix1, ix2, upd_upd, ite_true, ite_false, if_true, if_false, Bool.false_eq_true, decide_true, decide_false, reduceIte, true_and, and_true, Option.isSome_none, Option.isSome_some, Bool.not_false, Bool.not_true, tCallN, zForR3, zMatch, zCase, zMethS, zRaiseO, yPopAt, zSl2, yIsiT, tysAt, zBInit, zOst, tXf, wAs, tMkO, zFmt, zJs, zJoin, yStr1, gLst, zCM, zListR1, zListR2, zLenR1, iR3, yInt1, yEqO, yAndO, yInO, yLenO, yReprO, isBl, Z.strAt, yEq0, yNe0, GF.zForG, GF.zLcG, GF.zListG, yIsi, tyAt, clsAt, ki_int_int, ki_bool_int, ki_none_int, ki_str_int, ki_list_int, ki_tuple_int, ki_int_bool, ki_bool_bool, ki_none_bool, ki_str_bool, ki_list_bool, ki_tuple_bool, zMakeV, tRz, zNever]
    refine ⟨fun σ' H3 => ∃ (i' : Nat) (v5 : Option V), σ' = [some (.ref l), some (.int most), some (bdV bd), some (.ref p), some (.int i'), v5] ∧ Same H H3 ∧ TsAt H3 p (segs most bd (ws.take i')) ∧ i' ≤ ws.length ∧ (∀ hi : i' < ws.length, stepS most bd (segs most bd (ws.take i')) ws[i'] = segs most bd (ws.take i') ++ [(ws[i'], 1)]) ∧ i < i', ?_, ?_⟩
    · rintro σ' H3 ⟨i', v5, rfl, s3, t3, iw3, fr3, ii⟩
      exact ⟨ws.length - i', by omega, i', v5, rfl, s3, t3, iw3, fr3, rfl⟩
    unfold t_L_cut_2b_1
    simp only [tSeq, tAsg, tIfS, tRet, tRetN, tDrop, tNext, tPar, tPar3, gName, gSub, gTup, gCons, gNil, zV, tC, tOp, tUn, tCons, tNil, tLst, tTup, tIf, tAnd, tOr, tNot, tYes, zB, zAnd, zOr, zNot, zChain, tDNewK, yAdd, ySub, yMul, yDiv, yMod, yPow, yNeg, yLt, yLe, yGt, yGe, yEq, yNe, yIs0, yNotIs0, yIx, ySet, yIn, sqAt, isNone, zFld, zSetF, insAt, zMeth, zProp, tCall, tMake, tCB, yLen, yAbs, yMax2, yMin2, yList, yTuple, yDict0, zLM, yApp, isLst, dkAt, keyOf, zGet1, zGet2, zPop1, zPop2, zForR1, zForR2, zForL, zForT, Z.intAt, refAt, zLc, iR1, iR2, iL, iT, wipe, List.getElem?_cons_zero, List.getElem?_cons_succ, List.set_cons_zero, List.set_cons_succ, List.cons_append, List.nil_append, List.append_nil, upd_same, at0, at1, at2, ix0, ix1, ix2, upd_upd, ite_true, ite_false, if_true, if_false, Bool.false_eq_true, decide_true, decide_false, reduceIte, true_and, and_true, Option.isSome_none, Option.isSome_some, Bool.not_false, Bool.not_true, tCallN, zForR3, zMatch, zCase, zMethS, zRaiseO, yPopAt, zSl2, yIsiT, tysAt, zBInit, zOst, tXf, wAs, tMkO, zFmt, zJs, zJoin, yStr1, gLst, zCM, zListR1, zListR2, zLenR1, iR3, yInt1, yEqO, yAndO, yInO, yLenO, yReprO, isBl, Z.strAt, yEq0, yNe0, GF.zForG, GF.zLcG, GF.zListG, yIsi, tyAt, clsAt, ki_int_int, ki_bool_int, ki_none_int, ki_str_int, ki_list_int, ki_tuple_int, ki_int_bool, ki_bool_bool, ki_none_bool, ki_str_bool, ki_list_bool, ki_tuple_bool, zMakeV, tRz, zNever]
    show t_L_cut_2b_2 K _ [some (.ref l), some (.int most), some (bdV bd), some (.ref p), some (.int i), some (.int ((i + 1 : Nat) : Int))] H'
    refine cut_in hl hw p0 m1 hb s t c1 (by rw [segs_take c1, fr c1]) fun j e H4 F hj s4 t4 je ew eF out i0e => ?_
    have hFl : F.length ≤ 100000 := by
      have := congrArg List.length eF
      have q := segs_len (most := most) (bd := bd) _ (ws.take e) rfl
      rw [List.length_append, List.length_singleton] at this
      rw [List.length_take] at q
      omega
    refine cut_app hl s4 p0 t4 hFl hj fun H5 s5 t5 => ?_
    unfold t_L_cut_2b_4
    simp only [tSeq, tAsg, tIfS, tRet, tRetN, tDrop, tNext, tPar, tPar3, gName, gSub, gTup, gCons, gNil, zV, tC, tOp, tUn, tCons, tNil, tLst, tTup, tIf, tAnd, tOr, tNot, tYes, zB, zAnd, zOr, zNot, zChain, tDNewK, yAdd, ySub, yMul, yDiv, yMod, yPow, yNeg, yLt, yLe, yGt, yGe, yEq, yNe, yIs0, yNotIs0, yIx, ySet, yIn, sqAt, isNone, zFld, zSetF, insAt, zMeth, zProp, tCall, tMake, tCB, yLen, yAbs, yMax2, yMin2, yList, yTuple, yDict0, zLM, yApp, isLst, dkAt, keyOf, zGet1, zGet2, zPop1, zPop2, zForR1, zForR2, zForL, zForT, Z.intAt, refAt, zLc, iR1, iR2, iL, iT, wipe, List.getElem?_cons_zero, List.getElem?_cons_succ, List.set_cons_zero, List.set_cons_succ, List.cons_append, List.nil_append, List.append_nil, upd_same, at0, at1, at2, ix0, ix1, ix2, upd_upd, ite_true, ite_false, if_true, if_false, Bool.false_eq_true, decide_true, decide_false, reduceIte, true_and, and_true, Option.isSome_none, Option.isSome_some, Bool.not_false, Bool.not_true, tCallN, zForR3, zMatch, zCase, zMethS, zRaiseO, yPopAt, zSl2, yIsiT, tysAt, zBInit, zOst, tXf, wAs, tMkO, zFmt, zJs, zJoin, yStr1, gLst, zCM, zListR1, zListR2, zLenR1, iR3, yInt1, yEqO, yAndO, yInO, yLenO, yReprO, isBl, Z.strAt, yEq0, yNe0, GF.zForG, GF.zLcG, GF.zListG, yIsi, tyAt, clsAt, ki_int_int, ki_bool_int, ki_none_int, ki_str_int, ki_list_int, ki_tuple_int, ki_int_bool, ki_bool_bool, ki_none_bool, ki_str_bool, ki_list_bool, ki_tuple_bool, zMakeV, tRz, zNever]
    refine ⟨e, _, rfl, s5, by rw [← eF]; exact t5, ew, fun he => ?_, i0e⟩
    rw [← eF]
    exact step_snoc.trans (if_neg fun z => out he z.1)
  · rw [decide_eq_false (by omega : ¬ (i : Int) < (ws.length : Int))]
    simp only [tSeq, tAsg, tIfS, tRet, tRetN, tDrop, tNext, tPar, tPar3, gName, gSub, gTup, gCons, gNil, zV, tC, tOp, tUn, tCons, tNil, tLst, tTup, tIf, tAnd, tOr, tNot, tYes, zB, zAnd, zOr, zNot, zChain, tDNewK, yAdd, ySub, yMul, yDiv, yMod, yPow, yNeg, yLt, yLe, yGt, yGe, yEq, yNe, yIs0, yNotIs0, yIx, ySet, yIn, sqAt, isNone, zFld, zSetF, insAt, zMeth, zProp, tCall, tMake, tCB, yLen, yAbs, yMax2, yMin2, yList, yTuple, yDict0, zLM, yApp, isLst, dkAt, keyOf, zGet1, zGet2, zPop1, zPop2, zForR1, zForR2, zForL, zForT, Z.intAt, refAt, zLc, iR1, iR2, iL, iT, wipe, List.getElem?_cons_zero, List.getElem?_cons_succ, List.set_cons_zero, List.set_cons_succ, List.cons_append, List.nil_append, List.append_nil, upd_same, at0, at1, at2, ix0, ix1, ix2, upd_upd, ite_true, ite_false, if_true, if_false, Bool.false_eq_true, decide_true, decide_false, reduceIte, true_and, and_true, Option.isSome_none, Option.isSome_some, Bool.not_false, Bool.not_true, tCallN, zForR3, zMatch, zCase, zMethS, zRaiseO, yPopAt, zSl2, yIsiT, tysAt, zBInit, zOst, tXf, wAs, tMkO, zFmt, zJs, zJoin, yStr1, gLst, zCM, zListR1, zListR2, zLenR1, iR3, yInt1, yEqO, yAndO, yInO, yLenO, yReprO, isBl, Z.strAt, yEq0, yNe0, GF.zForG, GF.zLcG, GF.zListG, yIsi, tyAt, clsAt, ki_int_int, ki_bool_int, ki_none_int, ki_str_int, ki_list_int, ki_tuple_int, ki_int_bool, ki_bool_bool, ki_none_bool, ki_str_bool, ki_list_bool, ki_tuple_bool, zMakeV, tRz, zNever]
    unfold t_L_cut_3
    simp only [tSeq, tAsg, tIfS, tRet, tRetN, tDrop, tNext, tPar, tPar3, gName, gSub, gTup, gCons, gNil, zV, tC, tOp, tUn, tCons, tNil, tLst, tTup, tIf, tAnd, tOr, tNot, tYes, zB, zAnd, zOr, zNot, zChain, tDNewK, yAdd, ySub, yMul, yDiv, yMod, yPow, yNeg, yLt, yLe, yGt, yGe, yEq, yNe, yIs0, yNotIs0, yIx, ySet, yIn, sqAt, isNone, zFld, zSetF, insAt, zMeth, zProp, tCall, tMake, tCB, yLen, yAbs, yMax2, yMin2, yList, yTuple, yDict0, zLM, yApp, isLst, dkAt, keyOf, zGet1, zGet2, zPop1, zPop2, zForR1, zForR2, zForL, zForT, Z.intAt, refAt, zLc, iR1, iR2, iL, iT, wipe, List.getElem?_cons_zero, List.getElem?_cons_succ, List.set_cons_zero, List.set_cons_succ, List.cons_append, List.nil_append, List.append_nil, upd_same, at0, at1, at2, ix0, ix1, ix2, upd_upd, ite_true, ite_false, if_true, if_false, Bool.false_eq_true, decide_true, decide_false, reduceIte, true_and, and_true, Option.isSome_none, Option.isSome_some, Bool.not_false, Bool.not_true, tCallN, zForR3, zMatch, zCase, zMethS, zRaiseO, yPopAt, zSl2, yIsiT, tysAt, zBInit, zOst, tXf, wAs, tMkO, zFmt, zJs, zJoin, yStr1, gLst, zCM, zListR1, zListR2, zLenR1, iR3, yInt1, yEqO, yAndO, yInO, yLenO, yReprO, isBl, Z.strAt, yEq0, yNe0, GF.zForG, GF.zLcG, GF.zListG, yIsi, tyAt, clsAt, ki_int_int, ki_bool_int, ki_none_int, ki_str_int, ki_list_int, ki_tuple_int, ki_int_bool, ki_bool_bool, ki_none_bool, ki_str_bool, ki_list_bool, ki_tuple_bool, zMakeV, tRz, zNever]
    rw [show ws.take i = ws by rw [show i = ws.length by omega, List.take_length]] at t
    exact q p H' p0 s t

/-! ### a turn of the law -/
theorem RunsAt.grow {K : PySem.W.Frag} {H H' : Hp} {b D : Addr} {R : List (Int × Int)} {xs : List V} (h : RunsAt K H D R) (hb : H b = some (.lst xs)) (n : D ≠ b) (g : Grow b H H') : RunsAt K H' D R := by
  obtain ⟨G, h1, h2, h3⟩ := h
  refine ⟨G, g _ _ h1 n, fun e he => ?_, h3⟩
  obtain ⟨dx, h⟩ := h2 e he
  exact ⟨dx, g _ _ h (ne_of h hb (by intro z; cases z))⟩
theorem runs_len {K : PySem.W.Frag} {H : Hp} {l : Addr} {S : List (Int × Int)} (h : RunsAt K H l S) : ∃ xs, H l = some (.lst xs) ∧ xs.length = S.length := by
  obtain ⟨G, hG, hR, eG⟩ := h
  exact ⟨_, hG, by rw [List.length_map, ← eG, List.length_map]⟩
theorem Same.none {H H' : Hp} {c : Addr} (s : Same H H') (h : H' c = none) : H c = none := by
  cases hz : H c with
  | none => rfl
  | some o => rw [s _ _ hz] at h; cases h
theorem text_of (ts : List Str) : ∀ (k : Nat) (acc : Str), (textFrom k acc ts).length ≤ acc.length + piled ts := by
  induction ts with
  | nil => exact fun k acc => Nat.le_add_right _ _
  | cons t ts ih =>
    intro k acc
    have h := ih (k + 1) (acc ++ (if k > 0 then ", " else "" : String) ++ t)
    have e : (((if k > 0 then ", " else "" : String) : Str)).length ≤ 2 := by split <;> decide +kernel
    rw [strLen_append, strLen_append] at h
    rw [piled_cons]
    show (textFrom (k + 1) (acc ++ (if k > 0 then ", " else "" : String) ++ t) ts).length ≤ _
    omega
theorem listText_le (ts : List Str) : (listText ts).length ≤ piled ts + 2 := by
  have h := text_of ts 0 "["
  show (textFrom 0 "[" ts ++ "]").length ≤ _
  rw [strLen_append]
  have e1 : (("[" : String) : Str).length = 1 := rfl
  have e2 : (("]" : String) : Str).length = 1 := rfl
  omega
theorem runText_len {f m : Int} (ok : RunOk f m) : (runText f m).length ≤ 33 := by
  obtain ⟨o1, o2, o3, o4⟩ := ok
  have l1 := len_ofi o1 o2
  have l2 := len_ofi (show 0 ≤ m by omega) o4
  have e1 : (Str.empty ++ Str.ofString "Run(").length = 4 := by decide +kernel
  have e2 : (Str.ofString ", ").length = 2 := by decide +kernel
  have e3 : (Str.ofString ")").length = 1 := by decide +kernel
  unfold runText
  rw [str_app, str_app, str_app, str_app]
  omega
theorem piled_le {ts : List Str} (h : ∀ t ∈ ts, t.length ≤ 33) : piled ts ≤ 35 * ts.length := by
  induction ts with
  | nil => exact Nat.le_refl _
  | cons t ts ih =>
    have := ih fun u hu => h u (List.mem_cons_of_mem _ hu)
    have := h t (List.mem_cons_self ..)
    rw [piled_cons, List.length_cons]
    omega
section
variable {K : PySem.W.Frag} {H H' : Hp} {l D : Addr} {R S : List (Int × Int)}
/-- repr of a list of runs -/
theorem runs_repr {gu : Addr → Bool} {Q : VK} (r : RunsAt K H D R) (ok : ∀ p ∈ R, RunOk p.1 p.2) (lR : R.length ≤ 1000) (k : ∀ H', Same H H' → Q (.str (if R.isEmpty then "[]" else if gu D then "[...]" else listText (R.map fun p => runText p.1 p.2))) H') : yReprL gu (He.ga K "Run") (sp_Run___repr__ K) [.ref D] H Q := by
  have sz := sizeLine_eq
  obtain ⟨G, hG, hR, rfl⟩ := r
  unfold yReprL
  simp only [hG]
  refine ⟨G.map fun e => runText e.2.1 e.2.2, by rw [List.length_map, List.length_map], ?_, fun H' s i x t hx ht => ?_, fun H' s => ?_⟩
  · have h1 := listText_le (G.map fun e => runText e.2.1 e.2.2)
    have h2 := piled_le (ts := G.map fun e => runText e.2.1 e.2.2) fun t ht => by
      obtain ⟨e, he, rfl⟩ := List.mem_map.mp ht
      exact runText_len (ok e.2 (List.mem_map.mpr ⟨e, he, rfl⟩))
    rw [List.length_map] at h2 lR
    omega
  · rw [List.getElem?_map] at hx ht
    cases hg : G[i]? with
    | none => rw [hg] at hx; cases hx
    | some e =>
      rw [hg] at hx ht
      cases hx
      cases ht
      have he := List.mem_of_getElem? hg
      have hr := (hR e he).same s
      obtain ⟨dx, h⟩ := id hr
      exact ⟨e.1, dx, _, rfl, h, e.1, e.2.1, e.2.2, rfl, hr, ok e.2 (List.mem_map.mpr ⟨e, he, rfl⟩), rfl, rfl⟩
  · have q := k H' s
    rw [List.map_map] at q
    have e : (G.map fun e => V.ref e.1).isEmpty = (G.map (·.2)).isEmpty := by cases G <;> rfl
    rw [e]
    exact q
/-- != of two lists of equal runs -/
theorem runs_ne {mg : Str → Option Value} (T : Top K mg) {l2 : Addr} {Q : VK} (r1 : RunsAt K H l S) (r2 : RunsAt K H l2 S) (k : Q (.bl false) H) : yNeL (DOwn K (He.ga K "Run") (sp_Run___eq__ K)) (.ref l) (.ref l2) H Q := by
  obtain ⟨G, hG, hR, eG⟩ := r1
  obtain ⟨G', hG', hR', eG'⟩ := r2
  simp only [yNeL, hG, hG']
  refine ⟨⟨?_, fun i x y hx hy => ?_⟩, k⟩
  · rw [List.length_map, List.length_map, ← List.length_map (f := (·.2)) (as := G), eG, ← eG', List.length_map]
  · obtain ⟨e, et, rfl, hRe, _⟩ := runs_get hx hR
    obtain ⟨e', et', rfl, hRe', _⟩ := runs_get hy hR'
    have ee : e.2 = e'.2 := by
      have h1 : (G.map (·.2))[i]? = some e.2 := by rw [List.getElem?_map, et]; rfl
      have h2 : (G'.map (·.2))[i]? = some e'.2 := by rw [List.getElem?_map, et']; rfl
      rw [eG, ← eG', h2] at h1
      exact (Option.some.inj h1).symm
    obtain ⟨dx, h⟩ := id hRe
    refine ⟨e.1, dx, _, rfl, h, fun _ => rfl, fun ne => ?_⟩
    obtain ⟨dy, h'⟩ := id hRe'
    refine ⟨.ref (He.ga K "Run"), ?_, ?_, e.1, e.2.1, e.2.2, .ref e'.1, rfl, hRe, .inr (.inr (.inr (.inr (.inr (.inr ⟨e'.1, _, _, rfl, hRe'⟩))))), ?_, rfl⟩
    · exact .base (.ins h' T.i_Run.cl T.i_Run.ha T.i_Run.hn T.i_Run.htk T.i_Run.hm)
    · simp [PySem.W.notFirst]
    · rw [eqRun_run hRe', ee]; simp
/-- [Run(first, many) for first, many in l] -/
theorem runs_of {Q : VK} {v0 v1 v2 v3 v4 v5 v6 v7 v8 v9 v10 v11 : Option V} (t : TsAt H l R) (ok : ∀ p ∈ R, RunOk p.1 p.2) (lR : R.length ≤ 100000) (k : ∀ D H', H D = none → Same H H' → RunsAt K H' D R → Q (.ref D) H') :
    compOn (Itl K l) (gTup K 2 (gCons (gName 12) (gCons (gName 13) gNil))) tYes (tMake (He.ga K "Run") (sp_Run___init__ K) [] C8.E0 (tCons (zV 12) (tCons (zV 13) tNil))) [12, 13] [v0, v1, v2, v3, v4, v5, v6, v7, v8, v9, v10, v11, none, none] H Q := by
  have sz := sizeLine_eq
  obtain ⟨ts, hl2, hts2, ets⟩ := t
  have ltl : ts.length ≤ 100000 := by rw [← ets, List.length_map] at lR; exact lR
  refine comp_core (steady_l (SqL.of hl2)) (fun D i H3 => Same H H3 ∧ ∃ Gn : List (Addr × Int × Int), H3 D = some (.lst (Gn.map fun e => V.ref e.1)) ∧ (∀ e ∈ Gn, RunAt K H3 e.1 e.2.1 e.2.2) ∧ Gn.map (·.2) = (ts.take i).map (·.2)) (fun D i H2 _ z => z.1) ?_ ?_ ?_
  · intro D hD
    exact ⟨Same.new hD, [], by rw [upd_same]; rfl, fun e he => (by cases he), rfl⟩
  · rintro D i H3 hD hi ⟨s3, Gn, hD3, hGn, eGn⟩
    rw [List.length_map] at hi
    have hx : (ts.map fun e => V.ref e.1).getD i .non = .ref ts[i].1 := by
      rw [List.getD_eq_getElem?_getD, List.getElem?_map, List.getElem?_eq_getElem hi]; rfl
    have z := s3 _ _ (hts2 ts[i] (List.getElem_mem hi))
    have o := ok ts[i].2 (by rw [← ets]; exact List.mem_map.mpr ⟨_, List.getElem_mem hi, rfl⟩)
    rw [hx]
    simp only [tSeq, tAsg, tIfS, tRet, tRetN, tDrop, tNext, tPar, tPar3, gName, gSub, gTup, gCons, gNil, zV, tC, tOp, tUn, tCons, tNil, tLst, tTup, tIf, tAnd, tOr, tNot, tYes, zB, zAnd, zOr, zNot, zChain, tDNewK, yAdd, ySub, yMul, yDiv, yMod, yPow, yNeg, yLt, yLe, yGt, yGe, yEq, yNe, yIs0, yNotIs0, yIx, ySet, yIn, sqAt, isNone, zFld, zSetF, insAt, zMeth, zProp, tCall, tMake, tCB, yLen, yAbs, yMax2, yMin2, yList, yTuple, yDict0, zLM, yApp, isLst, dkAt, keyOf, zGet1, zGet2, zPop1, zPop2, zForR1, zForR2, zForL, zForT, Z.intAt, refAt, zLc, iR1, iR2, iL, iT, wipe, List.getElem?_cons_zero, List.getElem?_cons_succ, List.set_cons_zero, List.set_cons_succ, List.cons_append, List.nil_append, List.append_nil, upd_same, at0, at1, at2, ix0, ix1, ix2, upd_upd, ite_true, ite_false, if_true, if_false, Bool.false_eq_true, decide_true, decide_false, reduceIte, true_and, and_true, Option.isSome_none, Option.isSome_some, Bool.not_false, Bool.not_true, tCallN, zForR3, zMatch, zCase, zMethS, zRaiseO, yPopAt, zSl2, yIsiT, tysAt, zBInit, zOst, tXf, wAs, tMkO, zFmt, zJs, zJoin, yStr1, gLst, zCM, zListR1, zListR2, zLenR1, iR3, yInt1, yEqO, yAndO, yInO, yLenO, yReprO, isBl, Z.strAt, yEq0, yNe0, GF.zForG, GF.zLcG, GF.zListG, yIsi, tyAt, clsAt, ki_int_int, ki_bool_int, ki_none_int, ki_str_int, ki_list_int, ki_tuple_int, ki_int_bool, ki_bool_bool, ki_none_bool, ki_str_bool, ki_list_bool, ki_tuple_bool, zMakeV, tRz, zNever, z]
    refine ⟨_, _, rfl, SqT.of z, rfl, _, _, rfl, _, _, rfl, rfl, ?_⟩
    try simp only [tSeq, tAsg, tIfS, tRet, tRetN, tDrop, tNext, tPar, tPar3, gName, gSub, gTup, gCons, gNil, zV, tC, tOp, tUn, tCons, tNil, tLst, tTup, tIf, tAnd, tOr, tNot, tYes, zB, zAnd, zOr, zNot, zChain, tDNewK, yAdd, ySub, yMul, yDiv, yMod, yPow, yNeg, yLt, yLe, yGt, yGe, yEq, yNe, yIs0, yNotIs0, yIx, ySet, yIn, sqAt, isNone, zFld, zSetF, insAt, zMeth, zProp, tCall, tMake, tCB, yLen, yAbs, yMax2, yMin2, yList, yTuple, yDict0, zLM, yApp, isLst, dkAt, keyOf, zGet1, zGet2, zPop1, zPop2, zForR1, zForR2, zForL, zForT, Z.intAt, refAt, zLc, iR1, iR2, iL, iT, wipe, List.getElem?_cons_zero, List.getElem?_cons_succ, List.set_cons_zero, List.set_cons_succ, List.cons_append, List.nil_append, List.append_nil, upd_same, at0, at1, at2, ix0, ix1, ix2, upd_upd, ite_true, ite_false, if_true, if_false, Bool.false_eq_true, decide_true, decide_false, reduceIte, true_and, and_true, Option.isSome_none, Option.isSome_some, Bool.not_false, Bool.not_true, tCallN, zForR3, zMatch, zCase, zMethS, zRaiseO, yPopAt, zSl2, yIsiT, tysAt, zBInit, zOst, tXf, wAs, tMkO, zFmt, zJs, zJoin, yStr1, gLst, zCM, zListR1, zListR2, zLenR1, iR3, yInt1, yEqO, yAndO, yInO, yLenO, yReprO, isBl, Z.strAt, yEq0, yNe0, GF.zForG, GF.zLcG, GF.zListG, yIsi, tyAt, clsAt, ki_int_int, ki_bool_int, ki_none_int, ki_str_int, ki_list_int, ki_tuple_int, ki_int_bool, ki_bool_bool, ki_none_bool, ki_str_bool, ki_list_bool, ki_tuple_bool, zMakeV, tRz, zNever]
    refine mk_run o fun r H4 hr4 s4 hR4 => ?_
    have lG : Gn.length = i := by
      have := congrArg List.length eGn
      rw [List.length_map, List.length_map, List.length_take] at this
      omega
    refine ⟨_, s4 _ _ hD3, by rw [List.length_map]; omega, Same.upd (s3.trans s4) hD, Gn ++ [(r, ts[i].2)], ?_, fun e he => ?_, ?_⟩
    · rw [List.map_append]; rfl
    · have nD : ∀ e f m, RunAt K H4 e f m → RunAt K (upd H4 D (.lst ((Gn.map fun e => V.ref e.1) ++ [V.ref r]))) e f m := fun e f m ⟨dx, h⟩ => by
        refine ⟨dx, ?_⟩
        rw [upd_ne (ne_of h (s4 _ _ hD3) (by intro z; cases z))]
        exact h
      rcases List.mem_append.mp he with he | he
      · exact nD _ _ _ ((hGn e he).same s4)
      · rw [List.mem_singleton.mp he]
        exact nD _ _ _ hR4
    · rw [List.map_append, eGn, ← List.take_append_getElem hi, List.map_append]; rfl
  · rintro D H3 hD ⟨s3, Gn, hD3, hGn, eGn⟩
    rw [List.length_map, List.take_length, ets] at eGn
    exact k D H3 hD s3 ⟨Gn, hD3, hGn, eGn⟩
end

theorem segs_rok {ws : List Int} {m' : Int} {bd' : Option Int} (wb : ∀ w ∈ ws, 0 ≤ w ∧ w ≤ 10000) (hm : 1 ≤ m') : ROk (segs m' bd' ws) := fun e he => by
  have k1 := (segs_ok (bd := bd') hm ws).1 e he
  have k2 := (segs_ok (bd := bd') hm ws).2
  have mw : ∀ w ∈ rgI e.1 e.2.toNat, 0 ≤ w ∧ w ≤ 10000 := fun w hw => wb w (by rw [← k2]; exact List.mem_flatMap.mpr ⟨e, he, hw⟩)
  obtain ⟨n, hn⟩ : ∃ n, e.2.toNat = n + 1 := ⟨e.2.toNat - 1, by have := k1.1; omega⟩
  rw [hn] at mw
  have m1 := mw e.1 (by rw [rgI_cons]; exact List.mem_cons_self ..)
  have m2 := mw (e.1 + (n : Int)) (by rw [rgI_succ]; simp)
  have := k1.1
  exact ⟨m1.1, by omega, by omega⟩
theorem words_bound {R : List (Int × Int)} (h : ∀ p ∈ R, 0 ≤ p.1 ∧ p.1 ≤ 5000 ∧ 1 ≤ p.2 ∧ p.2 ≤ 60) : (wordsOf R).length ≤ 60 * R.length ∧ ∀ w ∈ wordsOf R, 0 ≤ w ∧ w ≤ 10000 := by
  constructor
  · induction R with
    | nil => exact Nat.le_refl _
    | cons p R ih =>
      have := ih fun q hq => h q (List.mem_cons_of_mem _ hq)
      have o := h p (List.mem_cons_self ..)
      have e : wordsOf (p :: R) = rgI p.1 p.2.toNat ++ wordsOf R := rfl
      rw [e, List.length_append, rgI_len, List.length_cons]
      omega
  · intro w hw
    obtain ⟨p, hp, hw⟩ := List.mem_flatMap.mp hw
    obtain ⟨i, hi, rfl⟩ := List.mem_map.mp hw
    have := h p hp
    have := List.mem_range.mp hi
    omega
def TurnK (b : Addr) (H : Hp) (v0 v1 v3 : Option V) (n : Int) (σ : L2.St) (H' : Hp) : Prop := ∃ v4 v5 v6 v7 v8 v9 v10 v11, σ = [v0, v1, some (.ref b), v3, v4, v5, v6, v7, v8, v9, v10, v11, none, none] ∧ Same H H' ∧ ∃ o, H' b = some o ∧ BagO o n
section
variable {K : PySem.W.Frag} {gu : Addr → Bool} {b l : Addr} {H H' : Hp} {R : List (Int × Int)} {most : Int} {bd : Option Int} {n : Int} {Dn : Ends} {v0 v1 v3 v5 v6 v7 v10 v11 : Option V}
theorem rest4 {mg : Str → Option Value} (T : Top K mg) (sm : Same H H') (b0 : H b = none) (bg : ∃ o, H' b = some o ∧ BagO o n) (t : TsAt H' l R) (lR : R.length ≤ 40) (hR : ∀ p ∈ R, 0 ≤ p.1 ∧ p.1 ≤ 5000 ∧ 1 ≤ p.2 ∧ p.2 ≤ 60) (m1 : 1 ≤ most) (m2 : most ≤ 2000) (hbd : BdOk bd)
    (k : ∀ σ H'', TurnK b H v0 v1 v3 n σ H'' → Dn.nx σ H'') :
    tSeq (t_law_1b_2b_4 K gu) (tSeq (t_law_1b_2b_5 K gu) (tSeq (t_law_1b_2b_6 K gu) (tSeq (t_law_1b_2b_7 K gu) (tSeq (t_law_1b_2b_8 K gu) (t_law_1b_2b_9 K gu))))) Dn [v0, v1, some (.ref b), v3, some (bdV bd), v5, v6, v7, some (.ref l), some (.int most), v10, v11, none, none] H' := by
  have sz := sizeLine_eq
  obtain ⟨o, hb, bag⟩ := bg
  obtain ⟨wl1, wb⟩ := words_bound hR
  have okR : ROk R := fun p hp => by have := hR p hp; exact ⟨this.1, this.2.2.1, by omega⟩
  have rk : ∀ {S : List (Int × Int)}, ROk S → ∀ p ∈ S, RunOk p.1 p.2 := fun h p hp => by obtain ⟨a1, a2, a3⟩ := h p hp; exact ⟨a1, by omega, a2, by omega⟩
  unfold t_law_1b_2b_4
  simp only [tSeq, tAsg, tIfS, tRet, tRetN, tDrop, tNext, tPar, tPar3, gName, gSub, gTup, gCons, gNil, zV, tC, tOp, tUn, tCons, tNil, tLst, tTup, tIf, tAnd, tOr, tNot, tYes, zB, zAnd, zOr, zNot, zChain, tDNewK, yAdd, ySub, yMul, yDiv, yMod, yPow, yNeg, yLt, yLe, yGt, yGe, yEq, yNe, yIs0, yNotIs0, yIx, ySet, yIn, sqAt, isNone, zFld, zSetF, insAt, zMeth, zProp, tCall, tMake, tCB, yLen, yAbs, yMax2, yMin2, yList, yTuple, yDict0, zLM, yApp, isLst, dkAt, keyOf, zGet1, zGet2, zPop1, zPop2, zForR1, zForR2, zForL, zForT, Z.intAt, refAt, iR1, iR2, iL, iT, wipe, List.getElem?_cons_zero, List.getElem?_cons_succ, List.set_cons_zero, List.set_cons_succ, List.cons_append, List.nil_append, List.append_nil, upd_same, at0, at1, at2, ix0, ix1, ix2, upd_upd, ite_true, ite_false, if_true, if_false, Bool.false_eq_true, decide_true, decide_false, reduceIte, true_and, and_true, Option.isSome_none, Option.isSome_some, Bool.not_false, Bool.not_true, tCallN, zForR3, zMatch, zCase, zMethS, zRaiseO, yPopAt, zSl2, yIsiT, tysAt, zBInit, zOst, tXf, wAs, tMkO, zFmt, zJs, zJoin, yStr1, gLst, zCM, zListR1, zListR2, zLenR1, iR3, yInt1, yEqO, yAndO, yInO, yLenO, yReprO, isBl, Z.strAt, yEq0, yNe0, GF.zForG, GF.zLcG, GF.zListG, yIsi, tyAt, clsAt, ki_int_int, ki_bool_int, ki_none_int, ki_str_int, ki_list_int, ki_tuple_int, ki_int_bool, ki_bool_bool, ki_none_bool, ki_str_bool, ki_list_bool, ki_tuple_bool, zMakeV, tRz, zNever]
  unfold zLc iL
  obtain ⟨ts, hl, _⟩ := id t
  simp only [zV, refAt, List.getElem?_cons_zero, List.getElem?_cons_succ]
  refine ⟨⟨_, SqL.of hl⟩, runs_of t (rk okR) (by omega) fun D H2 hD s2 r2 => ?_⟩
  unfold t_law_1b_2b_5
  simp only [tSeq, tAsg, tIfS, tRet, tRetN, tDrop, tNext, tPar, tPar3, gName, gSub, gTup, gCons, gNil, zV, tC, tOp, tUn, tCons, tNil, tLst, tTup, tIf, tAnd, tOr, tNot, tYes, zB, zAnd, zOr, zNot, zChain, tDNewK, yAdd, ySub, yMul, yDiv, yMod, yPow, yNeg, yLt, yLe, yGt, yGe, yEq, yNe, yIs0, yNotIs0, yIx, ySet, yIn, sqAt, isNone, zFld, zSetF, insAt, zMeth, zProp, tCall, tMake, tCB, yLen, yAbs, yMax2, yMin2, yList, yTuple, yDict0, zLM, yApp, isLst, dkAt, keyOf, zGet1, zGet2, zPop1, zPop2, zForR1, zForR2, zForL, zForT, Z.intAt, refAt, iR1, iR2, iL, iT, wipe, List.getElem?_cons_zero, List.getElem?_cons_succ, List.set_cons_zero, List.set_cons_succ, List.cons_append, List.nil_append, List.append_nil, upd_same, at0, at1, at2, ix0, ix1, ix2, upd_upd, ite_true, ite_false, if_true, if_false, Bool.false_eq_true, decide_true, decide_false, reduceIte, true_and, and_true, Option.isSome_none, Option.isSome_some, Bool.not_false, Bool.not_true, tCallN, zForR3, zMatch, zCase, zMethS, zRaiseO, yPopAt, zSl2, yIsiT, tysAt, zBInit, zOst, tXf, wAs, tMkO, zFmt, zJs, zJoin, yStr1, gLst, zCM, zListR1, zListR2, zLenR1, iR3, yInt1, yEqO, yAndO, yInO, yLenO, yReprO, isBl, Z.strAt, yEq0, yNe0, GF.zForG, GF.zLcG, GF.zListG, yIsi, tyAt, clsAt, ki_int_int, ki_bool_int, ki_none_int, ki_str_int, ki_list_int, ki_tuple_int, ki_int_bool, ki_bool_bool, ki_none_bool, ki_str_bool, ki_list_bool, ki_tuple_bool, zMakeV, tRz, zNever]
  refine ⟨D, R, rfl, r2, okR, by omega, fun wl H3 hwl s3 h3 => ?_⟩
  have r3 := r2.same s3
  unfold t_law_1b_2b_6
  try simp only [tSeq, tAsg, tIfS, tRet, tRetN, tDrop, tNext, tPar, tPar3, gName, gSub, gTup, gCons, gNil, zV, tC, tOp, tUn, tCons, tNil, tLst, tTup, tIf, tAnd, tOr, tNot, tYes, zB, zAnd, zOr, zNot, zChain, tDNewK, yAdd, ySub, yMul, yDiv, yMod, yPow, yNeg, yLt, yLe, yGt, yGe, yEq, yNe, yIs0, yNotIs0, yIx, ySet, yIn, sqAt, isNone, zFld, zSetF, insAt, zMeth, zProp, tCall, tMake, tCB, yLen, yAbs, yMax2, yMin2, yList, yTuple, yDict0, zLM, yApp, isLst, dkAt, keyOf, zGet1, zGet2, zPop1, zPop2, zForR1, zForR2, zForL, zForT, Z.intAt, refAt, iR1, iR2, iL, iT, wipe, List.getElem?_cons_zero, List.getElem?_cons_succ, List.set_cons_zero, List.set_cons_succ, List.cons_append, List.nil_append, List.append_nil, upd_same, at0, at1, at2, ix0, ix1, ix2, upd_upd, ite_true, ite_false, if_true, if_false, Bool.false_eq_true, decide_true, decide_false, reduceIte, true_and, and_true, Option.isSome_none, Option.isSome_some, Bool.not_false, Bool.not_true, tCallN, zForR3, zMatch, zCase, zMethS, zRaiseO, yPopAt, zSl2, yIsiT, tysAt, zBInit, zOst, tXf, wAs, tMkO, zFmt, zJs, zJoin, yStr1, gLst, zCM, zListR1, zListR2, zLenR1, iR3, yInt1, yEqO, yAndO, yInO, yLenO, yReprO, isBl, Z.strAt, yEq0, yNe0, GF.zForG, GF.zLcG, GF.zListG, yIsi, tyAt, clsAt, ki_int_int, ki_bool_int, ki_none_int, ki_str_int, ki_list_int, ki_tuple_int, ki_int_bool, ki_bool_bool, ki_none_bool, ki_str_bool, ki_list_bool, ki_tuple_bool, zMakeV, tRz, zNever]
  refine runs_repr r3 (rk okR) (by omega) fun H4 s4 => ?_
  have r4 := r3.same s4
  have h4 := s4 _ _ h3
  unfold zLc iL
  try simp only [tSeq, tAsg, tIfS, tRet, tRetN, tDrop, tNext, tPar, tPar3, gName, gSub, gTup, gCons, gNil, zV, tC, tOp, tUn, tCons, tNil, tLst, tTup, tIf, tAnd, tOr, tNot, tYes, zB, zAnd, zOr, zNot, zChain, tDNewK, yAdd, ySub, yMul, yDiv, yMod, yPow, yNeg, yLt, yLe, yGt, yGe, yEq, yNe, yIs0, yNotIs0, yIx, ySet, yIn, sqAt, isNone, zFld, zSetF, insAt, zMeth, zProp, tCall, tMake, tCB, yLen, yAbs, yMax2, yMin2, yList, yTuple, yDict0, zLM, yApp, isLst, dkAt, keyOf, zGet1, zGet2, zPop1, zPop2, zForR1, zForR2, zForL, zForT, Z.intAt, refAt, iR1, iR2, iL, iT, wipe, List.getElem?_cons_zero, List.getElem?_cons_succ, List.set_cons_zero, List.set_cons_succ, List.cons_append, List.nil_append, List.append_nil, upd_same, at0, at1, at2, ix0, ix1, ix2, upd_upd, ite_true, ite_false, if_true, if_false, Bool.false_eq_true, decide_true, decide_false, reduceIte, true_and, and_true, Option.isSome_none, Option.isSome_some, Bool.not_false, Bool.not_true, tCallN, zForR3, zMatch, zCase, zMethS, zRaiseO, yPopAt, zSl2, yIsiT, tysAt, zBInit, zOst, tXf, wAs, tMkO, zFmt, zJs, zJoin, yStr1, gLst, zCM, zListR1, zListR2, zLenR1, iR3, yInt1, yEqO, yAndO, yInO, yLenO, yReprO, isBl, Z.strAt, yEq0, yNe0, GF.zForG, GF.zLcG, GF.zListG, yIsi, tyAt, clsAt, ki_int_int, ki_bool_int, ki_none_int, ki_str_int, ki_list_int, ki_tuple_int, ki_int_bool, ki_bool_bool, ki_none_bool, ki_str_bool, ki_list_bool, ki_tuple_bool, zMakeV, tRz, zNever]
  refine ⟨wl, wordsOf R, most, bd, rfl, h4, by omega, fun w hw => by have := wb w hw; omega, m1, by omega, hbd, fun c H5 hc s5 t5 => ?_⟩
  obtain ⟨us, hc5, _⟩ := id t5
  have lS := segs_len (most := most) (bd := bd) _ (wordsOf R) rfl
  try simp only [tSeq, tAsg, tIfS, tRet, tRetN, tDrop, tNext, tPar, tPar3, gName, gSub, gTup, gCons, gNil, zV, tC, tOp, tUn, tCons, tNil, tLst, tTup, tIf, tAnd, tOr, tNot, tYes, zB, zAnd, zOr, zNot, zChain, tDNewK, yAdd, ySub, yMul, yDiv, yMod, yPow, yNeg, yLt, yLe, yGt, yGe, yEq, yNe, yIs0, yNotIs0, yIx, ySet, yIn, sqAt, isNone, zFld, zSetF, insAt, zMeth, zProp, tCall, tMake, tCB, yLen, yAbs, yMax2, yMin2, yList, yTuple, yDict0, zLM, yApp, isLst, dkAt, keyOf, zGet1, zGet2, zPop1, zPop2, zForR1, zForR2, zForL, zForT, Z.intAt, refAt, iR1, iR2, iL, iT, wipe, List.getElem?_cons_zero, List.getElem?_cons_succ, List.set_cons_zero, List.set_cons_succ, List.cons_append, List.nil_append, List.append_nil, upd_same, at0, at1, at2, ix0, ix1, ix2, upd_upd, ite_true, ite_false, if_true, if_false, Bool.false_eq_true, decide_true, decide_false, reduceIte, true_and, and_true, Option.isSome_none, Option.isSome_some, Bool.not_false, Bool.not_true, tCallN, zForR3, zMatch, zCase, zMethS, zRaiseO, yPopAt, zSl2, yIsiT, tysAt, zBInit, zOst, tXf, wAs, tMkO, zFmt, zJs, zJoin, yStr1, gLst, zCM, zListR1, zListR2, zLenR1, iR3, yInt1, yEqO, yAndO, yInO, yLenO, yReprO, isBl, Z.strAt, yEq0, yNe0, GF.zForG, GF.zLcG, GF.zListG, yIsi, tyAt, clsAt, ki_int_int, ki_bool_int, ki_none_int, ki_str_int, ki_list_int, ki_tuple_int, ki_int_bool, ki_bool_bool, ki_none_bool, ki_str_bool, ki_list_bool, ki_tuple_bool, zMakeV, tRz, zNever]
  refine ⟨⟨_, SqL.of hc5⟩, runs_of t5 (rk (segs_rok wb m1)) (by omega) fun E H6 hE s6 r6 => ?_⟩
  refine ⟨_, _, rfl, ?_⟩
  have r6' := r6
  have rD6 := (r4.same s5).same s6
  unfold t_law_1b_2b_7
  try simp only [tSeq, tAsg, tIfS, tRet, tRetN, tDrop, tNext, tPar, tPar3, gName, gSub, gTup, gCons, gNil, zV, tC, tOp, tUn, tCons, tNil, tLst, tTup, tIf, tAnd, tOr, tNot, tYes, zB, zAnd, zOr, zNot, zChain, tDNewK, yAdd, ySub, yMul, yDiv, yMod, yPow, yNeg, yLt, yLe, yGt, yGe, yEq, yNe, yIs0, yNotIs0, yIx, ySet, yIn, sqAt, isNone, zFld, zSetF, insAt, zMeth, zProp, tCall, tMake, tCB, yLen, yAbs, yMax2, yMin2, yList, yTuple, yDict0, zLM, yApp, isLst, dkAt, keyOf, zGet1, zGet2, zPop1, zPop2, zForR1, zForR2, zForL, zForT, Z.intAt, refAt, iR1, iR2, iL, iT, wipe, List.getElem?_cons_zero, List.getElem?_cons_succ, List.set_cons_zero, List.set_cons_succ, List.cons_append, List.nil_append, List.append_nil, upd_same, at0, at1, at2, ix0, ix1, ix2, upd_upd, ite_true, ite_false, if_true, if_false, Bool.false_eq_true, decide_true, decide_false, reduceIte, true_and, and_true, Option.isSome_none, Option.isSome_some, Bool.not_false, Bool.not_true, tCallN, zForR3, zMatch, zCase, zMethS, zRaiseO, yPopAt, zSl2, yIsiT, tysAt, zBInit, zOst, tXf, wAs, tMkO, zFmt, zJs, zJoin, yStr1, gLst, zCM, zListR1, zListR2, zLenR1, iR3, yInt1, yEqO, yAndO, yInO, yLenO, yReprO, isBl, Z.strAt, yEq0, yNe0, GF.zForG, GF.zLcG, GF.zListG, yIsi, tyAt, clsAt, ki_int_int, ki_bool_int, ki_none_int, ki_str_int, ki_list_int, ki_tuple_int, ki_int_bool, ki_bool_bool, ki_none_bool, ki_str_bool, ki_list_bool, ki_tuple_bool, zMakeV, tRz, zNever]
  refine ⟨rfl, rfl, D, R, most, bd, rfl, rD6, okR, by omega, m1, hbd, fun tl H7 htl s7 r7 => ?_⟩
  have rD7 := rD6.same s7
  have r67 := r6.same s7
  have sm7 : Same H H7 := ((((((sm.trans s2).trans s3).trans s4).trans s5).trans s6).trans s7)
  have hb7 : H7 b = some o := s7 _ _ (s6 _ _ (s5 _ _ (s4 _ _ (s3 _ _ (s2 _ _ hb)))))
  obtain ⟨xs7, hx7, _⟩ := runs_len r7
  unfold t_law_1b_2b_8
  try simp only [tSeq, tAsg, tIfS, tRet, tRetN, tDrop, tNext, tPar, tPar3, gName, gSub, gTup, gCons, gNil, zV, tC, tOp, tUn, tCons, tNil, tLst, tTup, tIf, tAnd, tOr, tNot, tYes, zB, zAnd, zOr, zNot, zChain, tDNewK, yAdd, ySub, yMul, yDiv, yMod, yPow, yNeg, yLt, yLe, yGt, yGe, yEq, yNe, yIs0, yNotIs0, yIx, ySet, yIn, sqAt, isNone, zFld, zSetF, insAt, zMeth, zProp, tCall, tMake, tCB, yLen, yAbs, yMax2, yMin2, yList, yTuple, yDict0, zLM, yApp, isLst, dkAt, keyOf, zGet1, zGet2, zPop1, zPop2, zForR1, zForR2, zForL, zForT, Z.intAt, refAt, iR1, iR2, iL, iT, wipe, List.getElem?_cons_zero, List.getElem?_cons_succ, List.set_cons_zero, List.set_cons_succ, List.cons_append, List.nil_append, List.append_nil, upd_same, at0, at1, at2, ix0, ix1, ix2, upd_upd, ite_true, ite_false, if_true, if_false, Bool.false_eq_true, decide_true, decide_false, reduceIte, true_and, and_true, Option.isSome_none, Option.isSome_some, Bool.not_false, Bool.not_true, tCallN, zForR3, zMatch, zCase, zMethS, zRaiseO, yPopAt, zSl2, yIsiT, tysAt, zBInit, zOst, tXf, wAs, tMkO, zFmt, zJs, zJoin, yStr1, gLst, zCM, zListR1, zListR2, zLenR1, iR3, yInt1, yEqO, yAndO, yInO, yLenO, yReprO, isBl, Z.strAt, yEq0, yNe0, GF.zForG, GF.zLcG, GF.zListG, yIsi, tyAt, clsAt, ki_int_int, ki_bool_int, ki_none_int, ki_str_int, ki_list_int, ki_tuple_int, ki_int_bool, ki_bool_bool, ki_none_bool, ki_str_bool, ki_list_bool, ki_tuple_bool, zMakeV, tRz, zNever, hx7, ki_list_list]
  refine runs_ne T r7 r67 ?_
  try simp only [tSeq, tAsg, tIfS, tRet, tRetN, tDrop, tNext, tPar, tPar3, gName, gSub, gTup, gCons, gNil, zV, tC, tOp, tUn, tCons, tNil, tLst, tTup, tIf, tAnd, tOr, tNot, tYes, zB, zAnd, zOr, zNot, zChain, tDNewK, yAdd, ySub, yMul, yDiv, yMod, yPow, yNeg, yLt, yLe, yGt, yGe, yEq, yNe, yIs0, yNotIs0, yIx, ySet, yIn, sqAt, isNone, zFld, zSetF, insAt, zMeth, zProp, tCall, tMake, tCB, yLen, yAbs, yMax2, yMin2, yList, yTuple, yDict0, zLM, yApp, isLst, dkAt, keyOf, zGet1, zGet2, zPop1, zPop2, zForR1, zForR2, zForL, zForT, Z.intAt, refAt, iR1, iR2, iL, iT, wipe, List.getElem?_cons_zero, List.getElem?_cons_succ, List.set_cons_zero, List.set_cons_succ, List.cons_append, List.nil_append, List.append_nil, upd_same, at0, at1, at2, ix0, ix1, ix2, upd_upd, ite_true, ite_false, if_true, if_false, Bool.false_eq_true, decide_true, decide_false, reduceIte, true_and, and_true, Option.isSome_none, Option.isSome_some, Bool.not_false, Bool.not_true, tCallN, zForR3, zMatch, zCase, zMethS, zRaiseO, yPopAt, zSl2, yIsiT, tysAt, zBInit, zOst, tXf, wAs, tMkO, zFmt, zJs, zJoin, yStr1, gLst, zCM, zListR1, zListR2, zLenR1, iR3, yInt1, yEqO, yAndO, yInO, yLenO, yReprO, isBl, Z.strAt, yEq0, yNe0, GF.zForG, GF.zLcG, GF.zListG, yIsi, tyAt, clsAt, ki_int_int, ki_bool_int, ki_none_int, ki_str_int, ki_list_int, ki_tuple_int, ki_int_bool, ki_bool_bool, ki_none_bool, ki_str_bool, ki_list_bool, ki_tuple_bool, zMakeV, tRz, zNever]
  refine runs_repr rD7 (rk okR) (by omega) fun H8 s8 => ?_
  try simp only [tSeq, tAsg, tIfS, tRet, tRetN, tDrop, tNext, tPar, tPar3, gName, gSub, gTup, gCons, gNil, zV, tC, tOp, tUn, tCons, tNil, tLst, tTup, tIf, tAnd, tOr, tNot, tYes, zB, zAnd, zOr, zNot, zChain, tDNewK, yAdd, ySub, yMul, yDiv, yMod, yPow, yNeg, yLt, yLe, yGt, yGe, yEq, yNe, yIs0, yNotIs0, yIx, ySet, yIn, sqAt, isNone, zFld, zSetF, insAt, zMeth, zProp, tCall, tMake, tCB, yLen, yAbs, yMax2, yMin2, yList, yTuple, yDict0, zLM, yApp, isLst, dkAt, keyOf, zGet1, zGet2, zPop1, zPop2, zForR1, zForR2, zForL, zForT, Z.intAt, refAt, iR1, iR2, iL, iT, wipe, List.getElem?_cons_zero, List.getElem?_cons_succ, List.set_cons_zero, List.set_cons_succ, List.cons_append, List.nil_append, List.append_nil, upd_same, at0, at1, at2, ix0, ix1, ix2, upd_upd, ite_true, ite_false, if_true, if_false, Bool.false_eq_true, decide_true, decide_false, reduceIte, true_and, and_true, Option.isSome_none, Option.isSome_some, Bool.not_false, Bool.not_true, tCallN, zForR3, zMatch, zCase, zMethS, zRaiseO, yPopAt, zSl2, yIsiT, tysAt, zBInit, zOst, tXf, wAs, tMkO, zFmt, zJs, zJoin, yStr1, gLst, zCM, zListR1, zListR2, zLenR1, iR3, yInt1, yEqO, yAndO, yInO, yLenO, yReprO, isBl, Z.strAt, yEq0, yNe0, GF.zForG, GF.zLcG, GF.zListG, yIsi, tyAt, clsAt, ki_int_int, ki_bool_int, ki_none_int, ki_str_int, ki_list_int, ki_tuple_int, ki_int_bool, ki_bool_bool, ki_none_bool, ki_str_bool, ki_list_bool, ki_tuple_bool, zMakeV, tRz, zNever]
  have sm8 := sm7.trans s8
  have hb8 := s8 _ _ hb7
  unfold t_law_1b_2b_9
  cases bd with
  | none =>
    simp only [tSeq, tAsg, tIfS, tRet, tRetN, tDrop, tNext, tPar, tPar3, gName, gSub, gTup, gCons, gNil, zV, tC, tOp, tUn, tCons, tNil, tLst, tTup, tIf, tAnd, tOr, tNot, tYes, zB, zAnd, zOr, zNot, zChain, tDNewK, yAdd, ySub, yMul, yDiv, yMod, yPow, yNeg, yLt, yLe, yGt, yGe, yEq, yNe, yIs0, yNotIs0, yIx, ySet, yIn, sqAt, isNone, zFld, zSetF, insAt, zMeth, zProp, tCall, tMake, tCB, yLen, yAbs, yMax2, yMin2, yList, yTuple, yDict0, zLM, yApp, isLst, dkAt, keyOf, zGet1, zGet2, zPop1, zPop2, zForR1, zForR2, zForL, zForT, Z.intAt, refAt, iR1, iR2, iL, iT, wipe, List.getElem?_cons_zero, List.getElem?_cons_succ, List.set_cons_zero, List.set_cons_succ, List.cons_append, List.nil_append, List.append_nil, upd_same, at0, at1, at2, ix0, ix1, ix2, upd_upd, ite_true, ite_false, if_true, if_false, Bool.false_eq_true, decide_true, decide_false, reduceIte, true_and, and_true, Option.isSome_none, Option.isSome_some, Bool.not_false, Bool.not_true, tCallN, zForR3, zMatch, zCase, zMethS, zRaiseO, yPopAt, zSl2, yIsiT, tysAt, zBInit, zOst, tXf, wAs, tMkO, zFmt, zJs, zJoin, yStr1, gLst, zCM, zListR1, zListR2, zLenR1, iR3, yInt1, yEqO, yAndO, yInO, yLenO, yReprO, isBl, Z.strAt, yEq0, yNe0, GF.zForG, GF.zLcG, GF.zListG, yIsi, tyAt, clsAt, ki_int_int, ki_bool_int, ki_none_int, ki_str_int, ki_list_int, ki_tuple_int, ki_int_bool, ki_bool_bool, ki_none_bool, ki_str_bool, ki_list_bool, ki_tuple_bool, zMakeV, tRz, zNever, bdV]
    refine ⟨rfl, rfl, D, R, most, none, rfl, rD7.same s8, okR, by omega, m1, hbd, fun t2 H9 ht2 s9 r9 => ?_⟩
    try simp only [tSeq, tAsg, tIfS, tRet, tRetN, tDrop, tNext, tPar, tPar3, gName, gSub, gTup, gCons, gNil, zV, tC, tOp, tUn, tCons, tNil, tLst, tTup, tIf, tAnd, tOr, tNot, tYes, zB, zAnd, zOr, zNot, zChain, tDNewK, yAdd, ySub, yMul, yDiv, yMod, yPow, yNeg, yLt, yLe, yGt, yGe, yEq, yNe, yIs0, yNotIs0, yIx, ySet, yIn, sqAt, isNone, zFld, zSetF, insAt, zMeth, zProp, tCall, tMake, tCB, yLen, yAbs, yMax2, yMin2, yList, yTuple, yDict0, zLM, yApp, isLst, dkAt, keyOf, zGet1, zGet2, zPop1, zPop2, zForR1, zForR2, zForL, zForT, Z.intAt, refAt, iR1, iR2, iL, iT, wipe, List.getElem?_cons_zero, List.getElem?_cons_succ, List.set_cons_zero, List.set_cons_succ, List.cons_append, List.nil_append, List.append_nil, upd_same, at0, at1, at2, ix0, ix1, ix2, upd_upd, ite_true, ite_false, if_true, if_false, Bool.false_eq_true, decide_true, decide_false, reduceIte, true_and, and_true, Option.isSome_none, Option.isSome_some, Bool.not_false, Bool.not_true, tCallN, zForR3, zMatch, zCase, zMethS, zRaiseO, yPopAt, zSl2, yIsiT, tysAt, zBInit, zOst, tXf, wAs, tMkO, zFmt, zJs, zJoin, yStr1, gLst, zCM, zListR1, zListR2, zLenR1, iR3, yInt1, yEqO, yAndO, yInO, yLenO, yReprO, isBl, Z.strAt, yEq0, yNe0, GF.zForG, GF.zLcG, GF.zListG, yIsi, tyAt, clsAt, ki_int_int, ki_bool_int, ki_none_int, ki_str_int, ki_list_int, ki_tuple_int, ki_int_bool, ki_bool_bool, ki_none_bool, ki_str_bool, ki_list_bool, ki_tuple_bool, zMakeV, tRz, zNever]
    refine runs_ne T r9 ((r67.same s8).same s9) ?_
    try simp only [tSeq, tAsg, tIfS, tRet, tRetN, tDrop, tNext, tPar, tPar3, gName, gSub, gTup, gCons, gNil, zV, tC, tOp, tUn, tCons, tNil, tLst, tTup, tIf, tAnd, tOr, tNot, tYes, zB, zAnd, zOr, zNot, zChain, tDNewK, yAdd, ySub, yMul, yDiv, yMod, yPow, yNeg, yLt, yLe, yGt, yGe, yEq, yNe, yIs0, yNotIs0, yIx, ySet, yIn, sqAt, isNone, zFld, zSetF, insAt, zMeth, zProp, tCall, tMake, tCB, yLen, yAbs, yMax2, yMin2, yList, yTuple, yDict0, zLM, yApp, isLst, dkAt, keyOf, zGet1, zGet2, zPop1, zPop2, zForR1, zForR2, zForL, zForT, Z.intAt, refAt, iR1, iR2, iL, iT, wipe, List.getElem?_cons_zero, List.getElem?_cons_succ, List.set_cons_zero, List.set_cons_succ, List.cons_append, List.nil_append, List.append_nil, upd_same, at0, at1, at2, ix0, ix1, ix2, upd_upd, ite_true, ite_false, if_true, if_false, Bool.false_eq_true, decide_true, decide_false, reduceIte, true_and, and_true, Option.isSome_none, Option.isSome_some, Bool.not_false, Bool.not_true, tCallN, zForR3, zMatch, zCase, zMethS, zRaiseO, yPopAt, zSl2, yIsiT, tysAt, zBInit, zOst, tXf, wAs, tMkO, zFmt, zJs, zJoin, yStr1, gLst, zCM, zListR1, zListR2, zLenR1, iR3, yInt1, yEqO, yAndO, yInO, yLenO, yReprO, isBl, Z.strAt, yEq0, yNe0, GF.zForG, GF.zLcG, GF.zListG, yIsi, tyAt, clsAt, ki_int_int, ki_bool_int, ki_none_int, ki_str_int, ki_list_int, ki_tuple_int, ki_int_bool, ki_bool_bool, ki_none_bool, ki_str_bool, ki_list_bool, ki_tuple_bool, zMakeV, tRz, zNever]
    exact k _ _ ⟨_, _, _, _, _, _, _, _, rfl, sm8.trans s9, o, s9 _ _ hb8, bag⟩
  | some x =>
    have nb : decide (bdV (some x) = V.non) = false := decide_eq_false (by simp [bdV])
    simp only [tSeq, tAsg, tIfS, tRet, tRetN, tDrop, tNext, tPar, tPar3, gName, gSub, gTup, gCons, gNil, zV, tC, tOp, tUn, tCons, tNil, tLst, tTup, tIf, tAnd, tOr, tNot, tYes, zB, zAnd, zOr, zNot, zChain, tDNewK, yAdd, ySub, yMul, yDiv, yMod, yPow, yNeg, yLt, yLe, yGt, yGe, yEq, yNe, yIs0, yNotIs0, yIx, ySet, yIn, sqAt, isNone, zFld, zSetF, insAt, zMeth, zProp, tCall, tMake, tCB, yLen, yAbs, yMax2, yMin2, yList, yTuple, yDict0, zLM, yApp, isLst, dkAt, keyOf, zGet1, zGet2, zPop1, zPop2, zForR1, zForR2, zForL, zForT, Z.intAt, refAt, iR1, iR2, iL, iT, wipe, List.getElem?_cons_zero, List.getElem?_cons_succ, List.set_cons_zero, List.set_cons_succ, List.cons_append, List.nil_append, List.append_nil, upd_same, at0, at1, at2, ix0, ix1, ix2, upd_upd, ite_true, ite_false, if_true, if_false, Bool.false_eq_true, decide_true, decide_false, reduceIte, true_and, and_true, Option.isSome_none, Option.isSome_some, Bool.not_false, Bool.not_true, tCallN, zForR3, zMatch, zCase, zMethS, zRaiseO, yPopAt, zSl2, yIsiT, tysAt, zBInit, zOst, tXf, wAs, tMkO, zFmt, zJs, zJoin, yStr1, gLst, zCM, zListR1, zListR2, zLenR1, iR3, yInt1, yEqO, yAndO, yInO, yLenO, yReprO, isBl, Z.strAt, yEq0, yNe0, GF.zForG, GF.zLcG, GF.zListG, yIsi, tyAt, clsAt, ki_int_int, ki_bool_int, ki_none_int, ki_str_int, ki_list_int, ki_tuple_int, ki_int_bool, ki_bool_bool, ki_none_bool, ki_str_bool, ki_list_bool, ki_tuple_bool, zMakeV, tRz, zNever, nb]
    exact k _ _ ⟨_, _, _, _, _, _, _, _, rfl, sm8, o, hb8, bag⟩
end

structure TB4 (b : Addr) (H H' : Hp) (l : Addr) (R : List (Int × Int)) (n : Int) : Prop where
  sm : Same H H'
  b0 : H b = none
  bg : ∃ o, H' b = some o ∧ BagO o n
  ts : TsAt H' l R
  nl : l ≠ b
section
variable {b l : Addr} {H H' H'' : Hp} {R : List (Int × Int)} {n n' : Int}
theorem TB4.grow (t : TB4 b H H' l R n) (g : Grow b H' H'') {o : HO} (hb : H'' b = some o) (bag : BagO o n') : TB4 b H H'' l R n' := by
  obtain ⟨o0, hb0, bag0⟩ := t.bg
  obtain ⟨xs, ex⟩ := bag_lst bag0
  rw [ex] at hb0
  obtain ⟨ts, h1, h2, h3⟩ := t.ts
  refine ⟨fun c u e => g c u (t.sm c u e) (ne_of_none e t.b0), t.b0, ⟨o, hb, bag⟩, ⟨ts, g _ _ h1 t.nl, fun e he => g _ _ (h2 e he) (ne_of (h2 e he) hb0 (by intro z; cases z)), h3⟩, t.nl⟩
theorem TB4.take (t : TB4 b H H' l R n) {o : HO} (bag : BagO o n') : TB4 b H (upd H' b o) l R n' := t.grow (Grow.set Grow.refl) upd_same bag
theorem TB4.new (t : TB4 b H H' l R n) {z : Addr} {o : HO} (hz : H' z = none) : TB4 b H (upd H' z o) l R n := by
  obtain ⟨o0, hb0, bag0⟩ := t.bg
  exact t.grow (fun c u e _ => (Same.new hz) c u e) ((Same.new hz) _ _ hb0) bag0
theorem TB4.mono (t : TB4 b H H' l R n) (h : n ≤ n') : TB4 b H H' l R n' := by
  obtain ⟨o0, hb0, bag0⟩ := t.bg
  exact ⟨t.sm, t.b0, ⟨o0, hb0, bag0.mono h⟩, t.ts, t.nl⟩
end
theorem at_3 {d : Int} (h0 : 0 ≤ d) (h1 : d < 3) : ∃ u : Int, atI [V.int 40, V.int 300, V.int 2000] d = some (.int u) ∧ 0 < u ∧ u ≤ 2000 := by
  have : d = 0 ∨ d = 1 ∨ d = 2 := by omega
  rcases this with rfl | rfl | rfl
  · exact ⟨40, rfl, by decide, by decide⟩
  · exact ⟨300, rfl, by decide, by decide⟩
  · exact ⟨2000, rfl, by decide, by decide⟩
theorem at_4 {a d : Int} (a0 : 1 ≤ a) (a1 : a ≤ 200) (h0 : 0 ≤ d) (h1 : d < 4) : ∃ bd : Option Int, atI [V.int a, V.int 64, V.int 1000000, V.non] d = some (bdV bd) ∧ BdOk bd := by
  have : d = 0 ∨ d = 1 ∨ d = 2 ∨ d = 3 := by omega
  rcases this with rfl | rfl | rfl | rfl
  · exact ⟨some a, rfl, fun b hb => by cases hb; omega⟩
  · exact ⟨some 64, rfl, fun b hb => by cases hb; omega⟩
  · exact ⟨some 1000000, rfl, fun b hb => by cases hb; omega⟩
  · exact ⟨none, rfl, fun b hb => by cases hb⟩
section
variable {K : PySem.W.Frag} {gu : Addr → Bool} {b l : Addr} {H H' : Hp} {n : Int} {Dn : Ends} {v0 v1 v4 v5 v6 v7 v8 v9 v10 v11 : Option V}
theorem turn4 {mg : Str → Option Value} (T : Top K mg) (sm : Same H H') (b0 : H b = none) (bg : ∃ o, H' b = some o ∧ BagO o n) (hn : n ≤ 100000) {j : Int}
    (k : ∀ σ H'', TurnK b H v0 v1 (some (.int j)) (n + 2000) σ H'' → Dn.nx σ H'') :
    tSeq (t_law_1b_2b_1 K gu) (tSeq (t_law_1b_2b_2 K gu) (tSeq (t_law_1b_2b_3 K gu) (tSeq (t_law_1b_2b_4 K gu) (tSeq (t_law_1b_2b_5 K gu) (tSeq (t_law_1b_2b_6 K gu) (tSeq (t_law_1b_2b_7 K gu) (tSeq (t_law_1b_2b_8 K gu) (t_law_1b_2b_9 K gu)))))))) Dn [v0, v1, some (.ref b), some (.int j), v4, v5, v6, v7, v8, v9, v10, v11, none, none] H' := by
  have sz := sizeLine_eq
  -- the rest of a turn
  have rest : ∀ (H6 : Hp) (l : Addr) (R : List (Int × Int)) (most : Int) (bd : Option Int), TB4 b H H6 l R (n + 2000) → R.length ≤ 40 → (∀ p ∈ R, 0 ≤ p.1 ∧ p.1 ≤ 5000 ∧ 1 ≤ p.2 ∧ p.2 ≤ 60) → 1 ≤ most → most ≤ 2000 → BdOk bd →
      tSeq (t_law_1b_2b_4 K gu) (tSeq (t_law_1b_2b_5 K gu) (tSeq (t_law_1b_2b_6 K gu) (tSeq (t_law_1b_2b_7 K gu) (tSeq (t_law_1b_2b_8 K gu) (t_law_1b_2b_9 K gu))))) Dn [v0, v1, some (.ref b), some (.int j), some (bdV bd), v5, v6, v7, some (.ref l), some (.int most), v10, v11, none, none] H6 :=
    fun H6 l R most bd t lR hR m1 m2 hbd => rest4 T t.sm t.b0 t.bg t.ts lR hR m1 m2 hbd k
  -- with the border drawn
  have third : ∀ (H6 : Hp) (l : Addr) (R : List (Int × Int)) (most : Int) (bd : Option Int), TB4 b H H6 l R (n + 500) → R.length ≤ 40 → (∀ p ∈ R, 0 ≤ p.1 ∧ p.1 ≤ 5000 ∧ 1 ≤ p.2 ∧ p.2 ≤ 60) → 1 ≤ most → most ≤ 2000 → BdOk bd →
      tSeq (t_law_1b_2b_3 K gu) (tSeq (t_law_1b_2b_4 K gu) (tSeq (t_law_1b_2b_5 K gu) (tSeq (t_law_1b_2b_6 K gu) (tSeq (t_law_1b_2b_7 K gu) (tSeq (t_law_1b_2b_8 K gu) (t_law_1b_2b_9 K gu)))))) Dn [v0, v1, some (.ref b), some (.int j), some (bdV bd), v5, v6, v7, some (.ref l), some (.int most), v10, v11, none, none] H6 := by
    intro H6 l R most bd t lR hR m1 m2 hbd
    unfold t_law_1b_2b_3
    simp only [tSeq, tIfS, zB, tOp, zV, tC, yEq, List.getElem?_cons_zero, List.getElem?_cons_succ]
    by_cases c : j = 4
    · rw [decide_eq_true c]
      simp only [if_true, reduceIte]
      unfold t_law_1b_2b_3t_1 t_law_1b_2b_3t_2
      obtain ⟨o, hb, bag⟩ := t.bg
      simp only [tSeq, tAsg, tIfS, tRet, tRetN, tDrop, tNext, tPar, tPar3, gName, gSub, gTup, gCons, gNil, zV, tC, tOp, tUn, tCons, tNil, tLst, tTup, tIf, tAnd, tOr, tNot, tYes, zB, zAnd, zOr, zNot, zChain, tDNewK, yAdd, ySub, yMul, yDiv, yMod, yPow, yNeg, yLt, yLe, yGt, yGe, yEq, yNe, yIs0, yNotIs0, yIx, ySet, yIn, sqAt, isNone, zFld, zSetF, insAt, zMeth, zProp, tCall, tMake, tCB, yLen, yAbs, yMax2, yMin2, yList, yTuple, yDict0, zLM, yApp, isLst, dkAt, keyOf, zGet1, zGet2, zPop1, zPop2, zForR1, zForR2, zForL, zForT, Z.intAt, refAt, iR1, iR2, iL, iT, wipe, List.getElem?_cons_zero, List.getElem?_cons_succ, List.set_cons_zero, List.set_cons_succ, List.cons_append, List.nil_append, List.append_nil, upd_same, at0, at1, at2, ix0, ix1, ix2, upd_upd, ite_true, ite_false, if_true, if_false, Bool.false_eq_true, decide_true, decide_false, reduceIte, true_and, and_true, Option.isSome_none, Option.isSome_some, Bool.not_false, Bool.not_true, tCallN, zForR3, zMatch, zCase, zMethS, zRaiseO, yPopAt, zSl2, yIsiT, tysAt, zBInit, zOst, tXf, wAs, tMkO, zFmt, zJs, zJoin, yStr1, gLst, zCM, zListR1, zListR2, zLenR1, iR3, yInt1, yEqO, yAndO, yInO, yLenO, yReprO, isBl, Z.strAt, yEq0, yNe0, GF.zForG, GF.zLcG, GF.zListG, yIsi, tyAt, clsAt, ki_int_int, ki_bool_int, ki_none_int, ki_str_int, ki_list_int, ki_tuple_int, ki_int_bool, ki_bool_bool, ki_none_bool, ki_str_bool, ki_list_bool, ki_tuple_bool, zMakeV, tRz, zNever]
      refine ⟨b, o, n + 500, 34, 60, rfl, hb, bag, by omega, by decide, by decide, by decide, by decide, fun l2 H2 o2 R2 hl g2 hb2 bag2 hts lR2 hR2 => ?_⟩
      have s2 : Same H H2 := fun c u e => g2 c u (t.sm c u e) (ne_of_none e b0)
      have t2 : TB4 b H H2 l2 R2 (n + 500 + 200) := ⟨s2, b0, ⟨o2, hb2, bag2⟩, hts, fun e => by rw [e, hb] at hl; cases hl⟩
      try simp only [tSeq, tAsg, tIfS, tRet, tRetN, tDrop, tNext, tPar, tPar3, gName, gSub, gTup, gCons, gNil, zV, tC, tOp, tUn, tCons, tNil, tLst, tTup, tIf, tAnd, tOr, tNot, tYes, zB, zAnd, zOr, zNot, zChain, tDNewK, yAdd, ySub, yMul, yDiv, yMod, yPow, yNeg, yLt, yLe, yGt, yGe, yEq, yNe, yIs0, yNotIs0, yIx, ySet, yIn, sqAt, isNone, zFld, zSetF, insAt, zMeth, zProp, tCall, tMake, tCB, yLen, yAbs, yMax2, yMin2, yList, yTuple, yDict0, zLM, yApp, isLst, dkAt, keyOf, zGet1, zGet2, zPop1, zPop2, zForR1, zForR2, zForL, zForT, Z.intAt, refAt, iR1, iR2, iL, iT, wipe, List.getElem?_cons_zero, List.getElem?_cons_succ, List.set_cons_zero, List.set_cons_succ, List.cons_append, List.nil_append, List.append_nil, upd_same, at0, at1, at2, ix0, ix1, ix2, upd_upd, ite_true, ite_false, if_true, if_false, Bool.false_eq_true, decide_true, decide_false, reduceIte, true_and, and_true, Option.isSome_none, Option.isSome_some, Bool.not_false, Bool.not_true, tCallN, zForR3, zMatch, zCase, zMethS, zRaiseO, yPopAt, zSl2, yIsiT, tysAt, zBInit, zOst, tXf, wAs, tMkO, zFmt, zJs, zJoin, yStr1, gLst, zCM, zListR1, zListR2, zLenR1, iR3, yInt1, yEqO, yAndO, yInO, yLenO, yReprO, isBl, Z.strAt, yEq0, yNe0, GF.zForG, GF.zLcG, GF.zListG, yIsi, tyAt, clsAt, ki_int_int, ki_bool_int, ki_none_int, ki_str_int, ki_list_int, ki_tuple_int, ki_int_bool, ki_bool_bool, ki_none_bool, ki_str_bool, ki_list_bool, ki_tuple_bool, zMakeV, tRz, zNever]
      refine ⟨by show 3 ≤ sizeLine; decide, fun z hz => ?_⟩
      have nbz : b ≠ z := ne_of_none hb2 hz
      have t3 := t2.new (o := .lst [.int 40, .int 300, .int 2000]) hz
      refine ⟨b, o2, 3, n + 500 + 200, rfl, by rw [upd_ne nbz]; exact hb2, bag2, by decide, by decide, by omega, fun d o3 d0 d1 bag3 => ?_⟩
      have t4 := t3.take bag3
      obtain ⟨u, eu, u0, u1⟩ := at_3 d0 d1
      simp only [tSeq, tAsg, tIfS, tRet, tRetN, tDrop, tNext, tPar, tPar3, gName, gSub, gTup, gCons, gNil, zV, tC, tOp, tUn, tCons, tNil, tLst, tTup, tIf, tAnd, tOr, tNot, tYes, zB, zAnd, zOr, zNot, zChain, tDNewK, yAdd, ySub, yMul, yDiv, yMod, yPow, yNeg, yLt, yLe, yGt, yGe, yEq, yNe, yIs0, yNotIs0, yIx, ySet, yIn, sqAt, isNone, zFld, zSetF, insAt, zMeth, zProp, tCall, tMake, tCB, yLen, yAbs, yMax2, yMin2, yList, yTuple, yDict0, zLM, yApp, isLst, dkAt, keyOf, zGet1, zGet2, zPop1, zPop2, zForR1, zForR2, zForL, zForT, Z.intAt, refAt, iR1, iR2, iL, iT, wipe, List.getElem?_cons_zero, List.getElem?_cons_succ, List.set_cons_zero, List.set_cons_succ, List.cons_append, List.nil_append, List.append_nil, upd_same, at0, at1, at2, ix0, ix1, ix2, upd_upd, ite_true, ite_false, if_true, if_false, Bool.false_eq_true, decide_true, decide_false, reduceIte, true_and, and_true, Option.isSome_none, Option.isSome_some, Bool.not_false, Bool.not_true, tCallN, zForR3, zMatch, zCase, zMethS, zRaiseO, yPopAt, zSl2, yIsiT, tysAt, zBInit, zOst, tXf, wAs, tMkO, zFmt, zJs, zJoin, yStr1, gLst, zCM, zListR1, zListR2, zLenR1, iR3, yInt1, yEqO, yAndO, yInO, yLenO, yReprO, isBl, Z.strAt, yEq0, yNe0, GF.zForG, GF.zLcG, GF.zListG, yIsi, tyAt, clsAt, ki_int_int, ki_bool_int, ki_none_int, ki_str_int, ki_list_int, ki_tuple_int, ki_int_bool, ki_bool_bool, ki_none_bool, ki_str_bool, ki_list_bool, ki_tuple_bool, zMakeV, tRz, zNever, upd_ne nbz.symm]
      rw [eu]
      try simp only [tSeq, tAsg, tIfS, tRet, tRetN, tDrop, tNext, tPar, tPar3, gName, gSub, gTup, gCons, gNil, zV, tC, tOp, tUn, tCons, tNil, tLst, tTup, tIf, tAnd, tOr, tNot, tYes, zB, zAnd, zOr, zNot, zChain, tDNewK, yAdd, ySub, yMul, yDiv, yMod, yPow, yNeg, yLt, yLe, yGt, yGe, yEq, yNe, yIs0, yNotIs0, yIx, ySet, yIn, sqAt, isNone, zFld, zSetF, insAt, zMeth, zProp, tCall, tMake, tCB, yLen, yAbs, yMax2, yMin2, yList, yTuple, yDict0, zLM, yApp, isLst, dkAt, keyOf, zGet1, zGet2, zPop1, zPop2, zForR1, zForR2, zForL, zForT, Z.intAt, refAt, iR1, iR2, iL, iT, wipe, List.getElem?_cons_zero, List.getElem?_cons_succ, List.set_cons_zero, List.set_cons_succ, List.cons_append, List.nil_append, List.append_nil, upd_same, at0, at1, at2, ix0, ix1, ix2, upd_upd, ite_true, ite_false, if_true, if_false, Bool.false_eq_true, decide_true, decide_false, reduceIte, true_and, and_true, Option.isSome_none, Option.isSome_some, Bool.not_false, Bool.not_true, tCallN, zForR3, zMatch, zCase, zMethS, zRaiseO, yPopAt, zSl2, yIsiT, tysAt, zBInit, zOst, tXf, wAs, tMkO, zFmt, zJs, zJoin, yStr1, gLst, zCM, zListR1, zListR2, zLenR1, iR3, yInt1, yEqO, yAndO, yInO, yLenO, yReprO, isBl, Z.strAt, yEq0, yNe0, GF.zForG, GF.zLcG, GF.zListG, yIsi, tyAt, clsAt, ki_int_int, ki_bool_int, ki_none_int, ki_str_int, ki_list_int, ki_tuple_int, ki_int_bool, ki_bool_bool, ki_none_bool, ki_str_bool, ki_list_bool, ki_tuple_bool, zMakeV, tRz, zNever]
      refine ⟨b, o3, u, n + 500 + 200 + 1, rfl, upd_same, bag3, u0, by omega, by omega, fun d2 o4 d20 d21 bag4 => ?_⟩
      have t5 := t4.take bag4
      rw [upd_upd] at t5
      refine ⟨_, _, rfl, ?_⟩
      try simp only [tSeq, tAsg, tIfS, tRet, tRetN, tDrop, tNext, tPar, tPar3, gName, gSub, gTup, gCons, gNil, zV, tC, tOp, tUn, tCons, tNil, tLst, tTup, tIf, tAnd, tOr, tNot, tYes, zB, zAnd, zOr, zNot, zChain, tDNewK, yAdd, ySub, yMul, yDiv, yMod, yPow, yNeg, yLt, yLe, yGt, yGe, yEq, yNe, yIs0, yNotIs0, yIx, ySet, yIn, sqAt, isNone, zFld, zSetF, insAt, zMeth, zProp, tCall, tMake, tCB, yLen, yAbs, yMax2, yMin2, yList, yTuple, yDict0, zLM, yApp, isLst, dkAt, keyOf, zGet1, zGet2, zPop1, zPop2, zForR1, zForR2, zForL, zForT, Z.intAt, refAt, iR1, iR2, iL, iT, wipe, List.getElem?_cons_zero, List.getElem?_cons_succ, List.set_cons_zero, List.set_cons_succ, List.cons_append, List.nil_append, List.append_nil, upd_same, at0, at1, at2, ix0, ix1, ix2, upd_upd, ite_true, ite_false, if_true, if_false, Bool.false_eq_true, decide_true, decide_false, reduceIte, true_and, and_true, Option.isSome_none, Option.isSome_some, Bool.not_false, Bool.not_true, tCallN, zForR3, zMatch, zCase, zMethS, zRaiseO, yPopAt, zSl2, yIsiT, tysAt, zBInit, zOst, tXf, wAs, tMkO, zFmt, zJs, zJoin, yStr1, gLst, zCM, zListR1, zListR2, zLenR1, iR3, yInt1, yEqO, yAndO, yInO, yLenO, yReprO, isBl, Z.strAt, yEq0, yNe0, GF.zForG, GF.zLcG, GF.zListG, yIsi, tyAt, clsAt, ki_int_int, ki_bool_int, ki_none_int, ki_str_int, ki_list_int, ki_tuple_int, ki_int_bool, ki_bool_bool, ki_none_bool, ki_str_bool, ki_list_bool, ki_tuple_bool, zMakeV, tRz, zNever]
      refine ⟨b, o4, 200, n + 500 + 200 + 1 + 1, rfl, upd_same, bag4, by decide, by decide, by omega, fun d3 o5 d30 d31 bag5 => ?_⟩
      have t6 := t5.take bag5
      rw [upd_upd] at t6
      try simp only [tSeq, tAsg, tIfS, tRet, tRetN, tDrop, tNext, tPar, tPar3, gName, gSub, gTup, gCons, gNil, zV, tC, tOp, tUn, tCons, tNil, tLst, tTup, tIf, tAnd, tOr, tNot, tYes, zB, zAnd, zOr, zNot, zChain, tDNewK, yAdd, ySub, yMul, yDiv, yMod, yPow, yNeg, yLt, yLe, yGt, yGe, yEq, yNe, yIs0, yNotIs0, yIx, ySet, yIn, sqAt, isNone, zFld, zSetF, insAt, zMeth, zProp, tCall, tMake, tCB, yLen, yAbs, yMax2, yMin2, yList, yTuple, yDict0, zLM, yApp, isLst, dkAt, keyOf, zGet1, zGet2, zPop1, zPop2, zForR1, zForR2, zForL, zForT, Z.intAt, refAt, iR1, iR2, iL, iT, wipe, List.getElem?_cons_zero, List.getElem?_cons_succ, List.set_cons_zero, List.set_cons_succ, List.cons_append, List.nil_append, List.append_nil, upd_same, at0, at1, at2, ix0, ix1, ix2, upd_upd, ite_true, ite_false, if_true, if_false, Bool.false_eq_true, decide_true, decide_false, reduceIte, true_and, and_true, Option.isSome_none, Option.isSome_some, Bool.not_false, Bool.not_true, tCallN, zForR3, zMatch, zCase, zMethS, zRaiseO, yPopAt, zSl2, yIsiT, tysAt, zBInit, zOst, tXf, wAs, tMkO, zFmt, zJs, zJoin, yStr1, gLst, zCM, zListR1, zListR2, zLenR1, iR3, yInt1, yEqO, yAndO, yInO, yLenO, yReprO, isBl, Z.strAt, yEq0, yNe0, GF.zForG, GF.zLcG, GF.zListG, yIsi, tyAt, clsAt, ki_int_int, ki_bool_int, ki_none_int, ki_str_int, ki_list_int, ki_tuple_int, ki_int_bool, ki_bool_bool, ki_none_bool, ki_str_bool, ki_list_bool, ki_tuple_bool, zMakeV, tRz, zNever]
      refine ⟨by constructor <;> decide, by show 4 ≤ sizeLine; decide, fun p hp => ?_⟩
      have nbp : b ≠ p := ne_of_none upd_same hp
      refine ⟨b, o5, 4, n + 500 + 200 + 1 + 1 + 1, rfl, by rw [upd_ne nbp, upd_same], bag5, by decide, by decide, by omega, fun d4 o6 d40 d41 bag6 => ?_⟩
      have t7 := (t6.new (o := .lst [.int (1 + d3), .int 64, .int (10 ^ Int.toNat 6), .non]) hp).take bag6
      obtain ⟨bd2, ebd, hbd2⟩ := at_4 (a := 1 + d3) (by omega) (by omega) d40 d41
      have e6 : ((10 : Int) ^ Int.toNat 6) = 1000000 := rfl
      simp only [tSeq, tAsg, tIfS, tRet, tRetN, tDrop, tNext, tPar, tPar3, gName, gSub, gTup, gCons, gNil, zV, tC, tOp, tUn, tCons, tNil, tLst, tTup, tIf, tAnd, tOr, tNot, tYes, zB, zAnd, zOr, zNot, zChain, tDNewK, yAdd, ySub, yMul, yDiv, yMod, yPow, yNeg, yLt, yLe, yGt, yGe, yEq, yNe, yIs0, yNotIs0, yIx, ySet, yIn, sqAt, isNone, zFld, zSetF, insAt, zMeth, zProp, tCall, tMake, tCB, yLen, yAbs, yMax2, yMin2, yList, yTuple, yDict0, zLM, yApp, isLst, dkAt, keyOf, zGet1, zGet2, zPop1, zPop2, zForR1, zForR2, zForL, zForT, Z.intAt, refAt, iR1, iR2, iL, iT, wipe, List.getElem?_cons_zero, List.getElem?_cons_succ, List.set_cons_zero, List.set_cons_succ, List.cons_append, List.nil_append, List.append_nil, upd_same, at0, at1, at2, ix0, ix1, ix2, upd_upd, ite_true, ite_false, if_true, if_false, Bool.false_eq_true, decide_true, decide_false, reduceIte, true_and, and_true, Option.isSome_none, Option.isSome_some, Bool.not_false, Bool.not_true, tCallN, zForR3, zMatch, zCase, zMethS, zRaiseO, yPopAt, zSl2, yIsiT, tysAt, zBInit, zOst, tXf, wAs, tMkO, zFmt, zJs, zJoin, yStr1, gLst, zCM, zListR1, zListR2, zLenR1, iR3, yInt1, yEqO, yAndO, yInO, yLenO, yReprO, isBl, Z.strAt, yEq0, yNe0, GF.zForG, GF.zLcG, GF.zListG, yIsi, tyAt, clsAt, ki_int_int, ki_bool_int, ki_none_int, ki_str_int, ki_list_int, ki_tuple_int, ki_int_bool, ki_bool_bool, ki_none_bool, ki_str_bool, ki_list_bool, ki_tuple_bool, zMakeV, tRz, zNever, upd_ne nbp.symm]
      rw [e6, ebd]
      rw [e6] at t7
      exact rest _ l2 R2 (1 + d2) bd2 (t7.mono (by omega)) lR2 hR2 (by omega) (by omega) hbd2
    · rw [decide_eq_false c]
      simp only [if_false, reduceIte, Bool.false_eq_true]
      exact rest H6 l R most bd (t.mono (by omega)) lR hR m1 m2 hbd
  obtain ⟨o, hb, bag⟩ := bg
  unfold t_law_1b_2b_1
  simp only [tSeq, tAsg, tIfS, tRet, tRetN, tDrop, tNext, tPar, tPar3, gName, gSub, gTup, gCons, gNil, zV, tC, tOp, tUn, tCons, tNil, tLst, tTup, tIf, tAnd, tOr, tNot, tYes, zB, zAnd, zOr, zNot, zChain, tDNewK, yAdd, ySub, yMul, yDiv, yMod, yPow, yNeg, yLt, yLe, yGt, yGe, yEq, yNe, yIs0, yNotIs0, yIx, ySet, yIn, sqAt, isNone, zFld, zSetF, insAt, zMeth, zProp, tCall, tMake, tCB, yLen, yAbs, yMax2, yMin2, yList, yTuple, yDict0, zLM, yApp, isLst, dkAt, keyOf, zGet1, zGet2, zPop1, zPop2, zForR1, zForR2, zForL, zForT, Z.intAt, refAt, iR1, iR2, iL, iT, wipe, List.getElem?_cons_zero, List.getElem?_cons_succ, List.set_cons_zero, List.set_cons_succ, List.cons_append, List.nil_append, List.append_nil, upd_same, at0, at1, at2, ix0, ix1, ix2, upd_upd, ite_true, ite_false, if_true, if_false, Bool.false_eq_true, decide_true, decide_false, reduceIte, true_and, and_true, Option.isSome_none, Option.isSome_some, Bool.not_false, Bool.not_true, tCallN, zForR3, zMatch, zCase, zMethS, zRaiseO, yPopAt, zSl2, yIsiT, tysAt, zBInit, zOst, tXf, wAs, tMkO, zFmt, zJs, zJoin, yStr1, gLst, zCM, zListR1, zListR2, zLenR1, iR3, yInt1, yEqO, yAndO, yInO, yLenO, yReprO, isBl, Z.strAt, yEq0, yNe0, GF.zForG, GF.zLcG, GF.zListG, yIsi, tyAt, clsAt, ki_int_int, ki_bool_int, ki_none_int, ki_str_int, ki_list_int, ki_tuple_int, ki_int_bool, ki_bool_bool, ki_none_bool, ki_str_bool, ki_list_bool, ki_tuple_bool, zMakeV, tRz, zNever]
  refine ⟨b, o, n, 10, 9, rfl, hb, bag, by omega, by decide, by decide, by decide, by decide, fun l2 H2 o2 R2 hl g2 hb2 bag2 hts lR2 hR2 => ?_⟩
  have s2 : Same H H2 := fun c u e => g2 c u (sm c u e) (ne_of_none e b0)
  have t2 : TB4 b H H2 l2 R2 (n + 200) := ⟨s2, b0, ⟨o2, hb2, bag2⟩, hts, fun e => by rw [e, hb] at hl; cases hl⟩
  try simp only [tSeq, tAsg, tIfS, tRet, tRetN, tDrop, tNext, tPar, tPar3, gName, gSub, gTup, gCons, gNil, zV, tC, tOp, tUn, tCons, tNil, tLst, tTup, tIf, tAnd, tOr, tNot, tYes, zB, zAnd, zOr, zNot, zChain, tDNewK, yAdd, ySub, yMul, yDiv, yMod, yPow, yNeg, yLt, yLe, yGt, yGe, yEq, yNe, yIs0, yNotIs0, yIx, ySet, yIn, sqAt, isNone, zFld, zSetF, insAt, zMeth, zProp, tCall, tMake, tCB, yLen, yAbs, yMax2, yMin2, yList, yTuple, yDict0, zLM, yApp, isLst, dkAt, keyOf, zGet1, zGet2, zPop1, zPop2, zForR1, zForR2, zForL, zForT, Z.intAt, refAt, iR1, iR2, iL, iT, wipe, List.getElem?_cons_zero, List.getElem?_cons_succ, List.set_cons_zero, List.set_cons_succ, List.cons_append, List.nil_append, List.append_nil, upd_same, at0, at1, at2, ix0, ix1, ix2, upd_upd, ite_true, ite_false, if_true, if_false, Bool.false_eq_true, decide_true, decide_false, reduceIte, true_and, and_true, Option.isSome_none, Option.isSome_some, Bool.not_false, Bool.not_true, tCallN, zForR3, zMatch, zCase, zMethS, zRaiseO, yPopAt, zSl2, yIsiT, tysAt, zBInit, zOst, tXf, wAs, tMkO, zFmt, zJs, zJoin, yStr1, gLst, zCM, zListR1, zListR2, zLenR1, iR3, yInt1, yEqO, yAndO, yInO, yLenO, yReprO, isBl, Z.strAt, yEq0, yNe0, GF.zForG, GF.zLcG, GF.zListG, yIsi, tyAt, clsAt, ki_int_int, ki_bool_int, ki_none_int, ki_str_int, ki_list_int, ki_tuple_int, ki_int_bool, ki_bool_bool, ki_none_bool, ki_str_bool, ki_list_bool, ki_tuple_bool, zMakeV, tRz, zNever]
  refine ⟨b, o2, 12, n + 200, rfl, hb2, bag2, by decide, by decide, by omega, fun d o3 d0 d1 bag3 => ?_⟩
  have t3 := t2.take bag3
  refine ⟨_, _, rfl, ?_⟩
  unfold t_law_1b_2b_2
  try simp only [tSeq, tAsg, tIfS, tRet, tRetN, tDrop, tNext, tPar, tPar3, gName, gSub, gTup, gCons, gNil, zV, tC, tOp, tUn, tCons, tNil, tLst, tTup, tIf, tAnd, tOr, tNot, tYes, zB, zAnd, zOr, zNot, zChain, tDNewK, yAdd, ySub, yMul, yDiv, yMod, yPow, yNeg, yLt, yLe, yGt, yGe, yEq, yNe, yIs0, yNotIs0, yIx, ySet, yIn, sqAt, isNone, zFld, zSetF, insAt, zMeth, zProp, tCall, tMake, tCB, yLen, yAbs, yMax2, yMin2, yList, yTuple, yDict0, zLM, yApp, isLst, dkAt, keyOf, zGet1, zGet2, zPop1, zPop2, zForR1, zForR2, zForL, zForT, Z.intAt, refAt, iR1, iR2, iL, iT, wipe, List.getElem?_cons_zero, List.getElem?_cons_succ, List.set_cons_zero, List.set_cons_succ, List.cons_append, List.nil_append, List.append_nil, upd_same, at0, at1, at2, ix0, ix1, ix2, upd_upd, ite_true, ite_false, if_true, if_false, Bool.false_eq_true, decide_true, decide_false, reduceIte, true_and, and_true, Option.isSome_none, Option.isSome_some, Bool.not_false, Bool.not_true, tCallN, zForR3, zMatch, zCase, zMethS, zRaiseO, yPopAt, zSl2, yIsiT, tysAt, zBInit, zOst, tXf, wAs, tMkO, zFmt, zJs, zJoin, yStr1, gLst, zCM, zListR1, zListR2, zLenR1, iR3, yInt1, yEqO, yAndO, yInO, yLenO, yReprO, isBl, Z.strAt, yEq0, yNe0, GF.zForG, GF.zLcG, GF.zListG, yIsi, tyAt, clsAt, ki_int_int, ki_bool_int, ki_none_int, ki_str_int, ki_list_int, ki_tuple_int, ki_int_bool, ki_bool_bool, ki_none_bool, ki_str_bool, ki_list_bool, ki_tuple_bool, zMakeV, tRz, zNever]
  refine ⟨b, o3, 3, n + 200 + 1, rfl, upd_same, bag3, by decide, by decide, by omega, fun e o4 e0 e1 bag4 => ?_⟩
  have t4 := t3.take bag4
  rw [upd_upd] at t4
  try simp only [tSeq, tAsg, tIfS, tRet, tRetN, tDrop, tNext, tPar, tPar3, gName, gSub, gTup, gCons, gNil, zV, tC, tOp, tUn, tCons, tNil, tLst, tTup, tIf, tAnd, tOr, tNot, tYes, zB, zAnd, zOr, zNot, zChain, tDNewK, yAdd, ySub, yMul, yDiv, yMod, yPow, yNeg, yLt, yLe, yGt, yGe, yEq, yNe, yIs0, yNotIs0, yIx, ySet, yIn, sqAt, isNone, zFld, zSetF, insAt, zMeth, zProp, tCall, tMake, tCB, yLen, yAbs, yMax2, yMin2, yList, yTuple, yDict0, zLM, yApp, isLst, dkAt, keyOf, zGet1, zGet2, zPop1, zPop2, zForR1, zForR2, zForL, zForT, Z.intAt, refAt, iR1, iR2, iL, iT, wipe, List.getElem?_cons_zero, List.getElem?_cons_succ, List.set_cons_zero, List.set_cons_succ, List.cons_append, List.nil_append, List.append_nil, upd_same, at0, at1, at2, ix0, ix1, ix2, upd_upd, ite_true, ite_false, if_true, if_false, Bool.false_eq_true, decide_true, decide_false, reduceIte, true_and, and_true, Option.isSome_none, Option.isSome_some, Bool.not_false, Bool.not_true, tCallN, zForR3, zMatch, zCase, zMethS, zRaiseO, yPopAt, zSl2, yIsiT, tysAt, zBInit, zOst, tXf, wAs, tMkO, zFmt, zJs, zJoin, yStr1, gLst, zCM, zListR1, zListR2, zLenR1, iR3, yInt1, yEqO, yAndO, yInO, yLenO, yReprO, isBl, Z.strAt, yEq0, yNe0, GF.zForG, GF.zLcG, GF.zListG, yIsi, tyAt, clsAt, ki_int_int, ki_bool_int, ki_none_int, ki_str_int, ki_list_int, ki_tuple_int, ki_int_bool, ki_bool_bool, ki_none_bool, ki_str_bool, ki_list_bool, ki_tuple_bool, zMakeV, tRz, zNever]
  by_cases c : 0 < e
  · rw [decide_eq_true c, if_pos rfl]
    refine ⟨b, o4, 9, n + 200 + 1 + 1, rfl, upd_same, bag4, by decide, by decide, by omega, fun f o5 f0 f1 bag5 => ?_⟩
    have t5 := t4.take bag5
    rw [upd_upd] at t5
    try simp only [tSeq, tAsg, tIfS, tRet, tRetN, tDrop, tNext, tPar, tPar3, gName, gSub, gTup, gCons, gNil, zV, tC, tOp, tUn, tCons, tNil, tLst, tTup, tIf, tAnd, tOr, tNot, tYes, zB, zAnd, zOr, zNot, zChain, tDNewK, yAdd, ySub, yMul, yDiv, yMod, yPow, yNeg, yLt, yLe, yGt, yGe, yEq, yNe, yIs0, yNotIs0, yIx, ySet, yIn, sqAt, isNone, zFld, zSetF, insAt, zMeth, zProp, tCall, tMake, tCB, yLen, yAbs, yMax2, yMin2, yList, yTuple, yDict0, zLM, yApp, isLst, dkAt, keyOf, zGet1, zGet2, zPop1, zPop2, zForR1, zForR2, zForL, zForT, Z.intAt, refAt, iR1, iR2, iL, iT, wipe, List.getElem?_cons_zero, List.getElem?_cons_succ, List.set_cons_zero, List.set_cons_succ, List.cons_append, List.nil_append, List.append_nil, upd_same, at0, at1, at2, ix0, ix1, ix2, upd_upd, ite_true, ite_false, if_true, if_false, Bool.false_eq_true, decide_true, decide_false, reduceIte, true_and, and_true, Option.isSome_none, Option.isSome_some, Bool.not_false, Bool.not_true, tCallN, zForR3, zMatch, zCase, zMethS, zRaiseO, yPopAt, zSl2, yIsiT, tysAt, zBInit, zOst, tXf, wAs, tMkO, zFmt, zJs, zJoin, yStr1, gLst, zCM, zListR1, zListR2, zLenR1, iR3, yInt1, yEqO, yAndO, yInO, yLenO, yReprO, isBl, Z.strAt, yEq0, yNe0, GF.zForG, GF.zLcG, GF.zListG, yIsi, tyAt, clsAt, ki_int_int, ki_bool_int, ki_none_int, ki_str_int, ki_list_int, ki_tuple_int, ki_int_bool, ki_bool_bool, ki_none_bool, ki_str_bool, ki_list_bool, ki_tuple_bool, zMakeV, tRz, zNever]
    exact third _ l2 R2 (1 + d) (some (1 + f)) (t5.mono (by omega)) lR2 hR2 (by omega) (by omega) (fun x hx => by cases hx; omega)
  · rw [decide_eq_false c, if_neg Bool.false_ne_true]
    exact third _ l2 R2 (1 + d) none (t4.mono (by omega)) lR2 hR2 (by omega) (by omega) (fun x hx => by cases hx)
end
def Out4 (a : Addr) (H : Hp) (_ : Nat) (σ : L2.St) (H' : Hp) : Prop := ∃ v1 v2 v3 v4 v5 v6 v7 v8 v9 v10 v11, σ = [some (.ref a), v1, v2, v3, v4, v5, v6, v7, v8, v9, v10, v11, none, none] ∧ Same H H'
theorem rd_law {K : PySem.W.Frag} {mg : Str → Option Value} (T : Top K mg) : ∀ gu vs H Q E, sp_law K vs H Q E → t_law K gu { nx := fun _ H' => Q .non H', rt := Q } (start nm_law vs) H := by
  rintro gu vs H Q E ⟨a, ns, rfl, hS, hl, ho, k⟩
  rw [start_law]
  unfold t_law t_law_1
  simp only [tSeq, tAsg, tIfS, tRet, tRetN, tDrop, tNext, tPar, tPar3, gName, gSub, gTup, gCons, gNil, zV, tC, tOp, tUn, tCons, tNil, tLst, tTup, tIf, tAnd, tOr, tNot, tYes, zB, zAnd, zOr, zNot, zChain, tDNewK, yAdd, ySub, yMul, yDiv, yMod, yPow, yNeg, yLt, yLe, yGt, yGe, yEq, yNe, yIs0, yNotIs0, yIx, ySet, yIn, sqAt, isNone, zFld, zSetF, insAt, zMeth, zProp, tCall, tMake, tCB, yLen, yAbs, yMax2, yMin2, yList, yTuple, yDict0, zLM, yApp, isLst, dkAt, keyOf, zGet1, zGet2, zPop1, zPop2, zForR1, zForR2, zForL, zForT, Z.intAt, refAt, zLc, iR1, iR2, iL, iT, wipe, List.getElem?_cons_zero, List.getElem?_cons_succ, List.set_cons_zero, List.set_cons_succ, List.cons_append, List.nil_append, List.append_nil, upd_same, at0, at1, at2, ix0, ix1, ix2, upd_upd, ite_true, ite_false, if_true, if_false, Bool.false_eq_true, decide_true, decide_false, reduceIte, true_and, and_true, Option.isSome_none, Option.isSome_some, Bool.not_false, Bool.not_true, tCallN, zForR3, zMatch, zCase, zMethS, zRaiseO, yPopAt, zSl2, yIsiT, tysAt, zBInit, zOst, tXf, wAs, tMkO, zFmt, zJs, zJoin, yStr1, gLst, zCM, zListR1, zListR2, zLenR1, iR3, yInt1, yEqO, yAndO, yInO, yLenO, yReprO, isBl, Z.strAt, yEq0, yNe0, GF.zForG, GF.zLcG, GF.zListG, yIsi, tyAt, clsAt, ki_int_int, ki_bool_int, ki_none_int, ki_str_int, ki_list_int, ki_tuple_int, ki_int_bool, ki_bool_bool, ki_none_bool, ki_str_bool, ki_list_bool, ki_tuple_bool, zMakeV, tRz, zNever]
  refine ⟨a, _, rfl, hS, ?_⟩
  try simp only [tSeq, tAsg, tIfS, tRet, tRetN, tDrop, tNext, tPar, tPar3, gName, gSub, gTup, gCons, gNil, zV, tC, tOp, tUn, tCons, tNil, tLst, tTup, tIf, tAnd, tOr, tNot, tYes, zB, zAnd, zOr, zNot, zChain, tDNewK, yAdd, ySub, yMul, yDiv, yMod, yPow, yNeg, yLt, yLe, yGt, yGe, yEq, yNe, yIs0, yNotIs0, yIx, ySet, yIn, sqAt, isNone, zFld, zSetF, insAt, zMeth, zProp, tCall, tMake, tCB, yLen, yAbs, yMax2, yMin2, yList, yTuple, yDict0, zLM, yApp, isLst, dkAt, keyOf, zGet1, zGet2, zPop1, zPop2, zForR1, zForR2, zForL, zForT, Z.intAt, refAt, zLc, iR1, iR2, iL, iT, wipe, List.getElem?_cons_zero, List.getElem?_cons_succ, List.set_cons_zero, List.set_cons_succ, List.cons_append, List.nil_append, List.append_nil, upd_same, at0, at1, at2, ix0, ix1, ix2, upd_upd, ite_true, ite_false, if_true, if_false, Bool.false_eq_true, decide_true, decide_false, reduceIte, true_and, and_true, Option.isSome_none, Option.isSome_some, Bool.not_false, Bool.not_true, tCallN, zForR3, zMatch, zCase, zMethS, zRaiseO, yPopAt, zSl2, yIsiT, tysAt, zBInit, zOst, tXf, wAs, tMkO, zFmt, zJs, zJoin, yStr1, gLst, zCM, zListR1, zListR2, zLenR1, iR3, yInt1, yEqO, yAndO, yInO, yLenO, yReprO, isBl, Z.strAt, yEq0, yNe0, GF.zForG, GF.zLcG, GF.zListG, yIsi, tyAt, clsAt, ki_int_int, ki_bool_int, ki_none_int, ki_str_int, ki_list_int, ki_tuple_int, ki_int_bool, ki_bool_bool, ki_none_bool, ki_str_bool, ki_list_bool, ki_tuple_bool, zMakeV, tRz, zNever]
  refine ⟨⟨by split <;> split <;> omega, by split <;> split <;> omega⟩, loopR (Out4 a H) ⟨_, _, _, _, _, _, _, _, _, _, _, rfl, fun _ _ e => e⟩ ?_ ?_⟩
  · rintro i σ H1 hi ⟨v1, v2, v3, v4, v5, v6, v7, v8, v9, v10, v11, rfl, s1⟩
    have hi4 : i < 4 := by
      revert hi
      split <;> split <;> omega
    show tSeq (t_law_1b_1 K gu) (t_law_1b_2 K gu) _ [some (.ref a), some (.int (0 + (i : Int))), v2, v3, v4, v5, v6, v7, v8, v9, v10, v11, none, none] H1
    unfold t_law_1b_1 t_law_1b_2
    simp only [tSeq, tAsg, tIfS, tRet, tRetN, tDrop, tNext, tPar, tPar3, gName, gSub, gTup, gCons, gNil, zV, tC, tOp, tUn, tCons, tNil, tLst, tTup, tIf, tAnd, tOr, tNot, tYes, zB, zAnd, zOr, zNot, zChain, tDNewK, yAdd, ySub, yMul, yDiv, yMod, yPow, yNeg, yLt, yLe, yGt, yGe, yEq, yNe, yIs0, yNotIs0, yIx, ySet, yIn, sqAt, isNone, zFld, zSetF, insAt, zMeth, zProp, tCall, tMake, tCB, yLen, yAbs, yMax2, yMin2, yList, yTuple, yDict0, zLM, yApp, isLst, dkAt, keyOf, zGet1, zGet2, zPop1, zPop2, zForR1, zForR2, zForL, zForT, Z.intAt, refAt, zLc, iR1, iR2, iL, iT, wipe, List.getElem?_cons_zero, List.getElem?_cons_succ, List.set_cons_zero, List.set_cons_succ, List.cons_append, List.nil_append, List.append_nil, upd_same, at0, at1, at2, ix0, ix1, ix2, upd_upd, ite_true, ite_false, if_true, if_false, Bool.false_eq_true, decide_true, decide_false, reduceIte, true_and, and_true, Option.isSome_none, Option.isSome_some, Bool.not_false, Bool.not_true, tCallN, zForR3, zMatch, zCase, zMethS, zRaiseO, yPopAt, zSl2, yIsiT, tysAt, zBInit, zOst, tXf, wAs, tMkO, zFmt, zJs, zJoin, yStr1, gLst, zCM, zListR1, zListR2, zLenR1, iR3, yInt1, yEqO, yAndO, yInO, yLenO, yReprO, isBl, Z.strAt, yEq0, yNe0, GF.zForG, GF.zLcG, GF.zListG, yIsi, tyAt, clsAt, ki_int_int, ki_bool_int, ki_none_int, ki_str_int, ki_list_int, ki_tuple_int, ki_int_bool, ki_bool_bool, ki_none_bool, ki_str_bool, ki_list_bool, ki_tuple_bool, zMakeV, tRz, zNever]
    refine ⟨a, 0 + (i : Int), ns, rfl, s1.seq hS, by omega, by omega, fun b o hb bag => ?_⟩
    have b0 : H b = none := Same.none s1 hb
    try simp only [tSeq, tAsg, tIfS, tRet, tRetN, tDrop, tNext, tPar, tPar3, gName, gSub, gTup, gCons, gNil, zV, tC, tOp, tUn, tCons, tNil, tLst, tTup, tIf, tAnd, tOr, tNot, tYes, zB, zAnd, zOr, zNot, zChain, tDNewK, yAdd, ySub, yMul, yDiv, yMod, yPow, yNeg, yLt, yLe, yGt, yGe, yEq, yNe, yIs0, yNotIs0, yIx, ySet, yIn, sqAt, isNone, zFld, zSetF, insAt, zMeth, zProp, tCall, tMake, tCB, yLen, yAbs, yMax2, yMin2, yList, yTuple, yDict0, zLM, yApp, isLst, dkAt, keyOf, zGet1, zGet2, zPop1, zPop2, zForR1, zForR2, zForL, zForT, Z.intAt, refAt, zLc, iR1, iR2, iL, iT, wipe, List.getElem?_cons_zero, List.getElem?_cons_succ, List.set_cons_zero, List.set_cons_succ, List.cons_append, List.nil_append, List.append_nil, upd_same, at0, at1, at2, ix0, ix1, ix2, upd_upd, ite_true, ite_false, if_true, if_false, Bool.false_eq_true, decide_true, decide_false, reduceIte, true_and, and_true, Option.isSome_none, Option.isSome_some, Bool.not_false, Bool.not_true, tCallN, zForR3, zMatch, zCase, zMethS, zRaiseO, yPopAt, zSl2, yIsiT, tysAt, zBInit, zOst, tXf, wAs, tMkO, zFmt, zJs, zJoin, yStr1, gLst, zCM, zListR1, zListR2, zLenR1, iR3, yInt1, yEqO, yAndO, yInO, yLenO, yReprO, isBl, Z.strAt, yEq0, yNe0, GF.zForG, GF.zLcG, GF.zListG, yIsi, tyAt, clsAt, ki_int_int, ki_bool_int, ki_none_int, ki_str_int, ki_list_int, ki_tuple_int, ki_int_bool, ki_bool_bool, ki_none_bool, ki_str_bool, ki_list_bool, ki_tuple_bool, zMakeV, tRz, zNever]
    have body : ∀ (N : Nat) (De : Ends), De.nx = Out4 a H (i + 1) → N ≤ 5 → loopOn (Itr 0 N) (gName 3) (tSeq (t_law_1b_2b_1 K gu) (tSeq (t_law_1b_2b_2 K gu) (tSeq (t_law_1b_2b_3 K gu) (tSeq (t_law_1b_2b_4 K gu) (tSeq (t_law_1b_2b_5 K gu) (tSeq (t_law_1b_2b_6 K gu) (tSeq (t_law_1b_2b_7 K gu) (tSeq (t_law_1b_2b_8 K gu) (t_law_1b_2b_9 K gu))))))))) De
        [some (V.ref a), some (V.int (0 + (i : Int))), some (V.ref b), v3, v4, v5, v6, v7, v8, v9, v10, v11, none, none] (upd H1 b o) := by
      intro N De hD hN
      refine loopR (fun j σ H' => ∃ v3, TurnK b H (some (.ref a)) (some (.int (0 + (i : Int)))) v3 (2000 * (j : Int)) σ H') ⟨v3, _, _, _, _, _, _, _, _, rfl, s1.trans (Same.new hb), o, upd_same, bag.mono (by simp)⟩ ?_ ?_
      · rintro j σ H2 hj ⟨u3, u4, u5, u6, u7, u8, u9, u10, u11, rfl, s2, bg⟩
        show tSeq (t_law_1b_2b_1 K gu) _ _ [some (.ref a), some (.int (0 + (i : Int))), some (.ref b), some (.int (0 + (j : Int))), u4, u5, u6, u7, u8, u9, u10, u11, none, none] H2
        refine turn4 T s2 b0 bg (by omega) fun σ H3 h3 => ⟨some (.int (0 + (j : Int))), ?_⟩
        have e : (2000 : Int) * ((j + 1 : Nat) : Int) = 2000 * (j : Int) + 2000 := by push_cast; omega
        rw [e]
        exact h3
      · rintro σ H2 ⟨u3, u4, u5, u6, u7, u8, u9, u10, u11, rfl, s2, bg⟩
        rw [hD]
        exact ⟨_, _, _, _, _, _, _, _, _, _, _, rfl, s2⟩
    by_cases c : 0 + (i : Int) = 0
    · rw [decide_eq_true c, if_pos rfl]
      exact ⟨⟨by decide, by decide⟩, body _ _ rfl (by decide)⟩
    · rw [decide_eq_false c, if_neg Bool.false_ne_true]
      exact ⟨⟨by decide, by decide⟩, body _ _ rfl (by decide)⟩
  · rintro σ H1 ⟨v1, v2, v3, v4, v5, v6, v7, v8, v9, v10, v11, rfl, s1⟩
    unfold t_law_2
    simp only [tSeq, tAsg, tIfS, tRet, tRetN, tDrop, tNext, tPar, tPar3, gName, gSub, gTup, gCons, gNil, zV, tC, tOp, tUn, tCons, tNil, tLst, tTup, tIf, tAnd, tOr, tNot, tYes, zB, zAnd, zOr, zNot, zChain, tDNewK, yAdd, ySub, yMul, yDiv, yMod, yPow, yNeg, yLt, yLe, yGt, yGe, yEq, yNe, yIs0, yNotIs0, yIx, ySet, yIn, sqAt, isNone, zFld, zSetF, insAt, zMeth, zProp, tCall, tMake, tCB, yLen, yAbs, yMax2, yMin2, yList, yTuple, yDict0, zLM, yApp, isLst, dkAt, keyOf, zGet1, zGet2, zPop1, zPop2, zForR1, zForR2, zForL, zForT, Z.intAt, refAt, zLc, iR1, iR2, iL, iT, wipe, List.getElem?_cons_zero, List.getElem?_cons_succ, List.set_cons_zero, List.set_cons_succ, List.cons_append, List.nil_append, List.append_nil, upd_same, at0, at1, at2, ix0, ix1, ix2, upd_upd, ite_true, ite_false, if_true, if_false, Bool.false_eq_true, decide_true, decide_false, reduceIte, true_and, and_true, Option.isSome_none, Option.isSome_some, Bool.not_false, Bool.not_true, tCallN, zForR3, zMatch, zCase, zMethS, zRaiseO, yPopAt, zSl2, yIsiT, tysAt, zBInit, zOst, tXf, wAs, tMkO, zFmt, zJs, zJoin, yStr1, gLst, zCM, zListR1, zListR2, zLenR1, iR3, yInt1, yEqO, yAndO, yInO, yLenO, yReprO, isBl, Z.strAt, yEq0, yNe0, GF.zForG, GF.zLcG, GF.zListG, yIsi, tyAt, clsAt, ki_int_int, ki_bool_int, ki_none_int, ki_str_int, ki_list_int, ki_tuple_int, ki_int_bool, ki_bool_bool, ki_none_bool, ki_str_bool, ki_list_bool, ki_tuple_bool, zMakeV, tRz, zNever]
    refine ⟨Nat.zero_le _, fun p hp => ?_⟩
    refine ⟨rfl, rfl, p, [], 3, none, rfl, ⟨[], upd_same, fun e he => (by cases he), rfl⟩, fun e he => (by cases he), Nat.zero_le _, by decide, fun x hx => (by cases hx), fun l H2 hl2 s2 r2 => ?_⟩
    obtain ⟨xs, hx, lx⟩ := runs_len r2
    have ex : xs = [] := List.length_eq_zero_iff.mp lx
    subst ex
    try simp only [tSeq, tAsg, tIfS, tRet, tRetN, tDrop, tNext, tPar, tPar3, gName, gSub, gTup, gCons, gNil, zV, tC, tOp, tUn, tCons, tNil, tLst, tTup, tIf, tAnd, tOr, tNot, tYes, zB, zAnd, zOr, zNot, zChain, tDNewK, yAdd, ySub, yMul, yDiv, yMod, yPow, yNeg, yLt, yLe, yGt, yGe, yEq, yNe, yIs0, yNotIs0, yIx, ySet, yIn, sqAt, isNone, zFld, zSetF, insAt, zMeth, zProp, tCall, tMake, tCB, yLen, yAbs, yMax2, yMin2, yList, yTuple, yDict0, zLM, yApp, isLst, dkAt, keyOf, zGet1, zGet2, zPop1, zPop2, zForR1, zForR2, zForL, zForT, Z.intAt, refAt, zLc, iR1, iR2, iL, iT, wipe, List.getElem?_cons_zero, List.getElem?_cons_succ, List.set_cons_zero, List.set_cons_succ, List.cons_append, List.nil_append, List.append_nil, upd_same, at0, at1, at2, ix0, ix1, ix2, upd_upd, ite_true, ite_false, if_true, if_false, Bool.false_eq_true, decide_true, decide_false, reduceIte, true_and, and_true, Option.isSome_none, Option.isSome_some, Bool.not_false, Bool.not_true, tCallN, zForR3, zMatch, zCase, zMethS, zRaiseO, yPopAt, zSl2, yIsiT, tysAt, zBInit, zOst, tXf, wAs, tMkO, zFmt, zJs, zJoin, yStr1, gLst, zCM, zListR1, zListR2, zLenR1, iR3, yInt1, yEqO, yAndO, yInO, yLenO, yReprO, isBl, Z.strAt, yEq0, yNe0, GF.zForG, GF.zLcG, GF.zListG, yIsi, tyAt, clsAt, ki_int_int, ki_bool_int, ki_none_int, ki_str_int, ki_list_int, ki_tuple_int, ki_int_bool, ki_bool_bool, ki_none_bool, ki_str_bool, ki_list_bool, ki_tuple_bool, zMakeV, tRz, zNever]
    refine ⟨Nat.zero_le _, fun q hq => ?_⟩
    simp only [tSeq, tAsg, tIfS, tRet, tRetN, tDrop, tNext, tPar, tPar3, gName, gSub, gTup, gCons, gNil, zV, tC, tOp, tUn, tCons, tNil, tLst, tTup, tIf, tAnd, tOr, tNot, tYes, zB, zAnd, zOr, zNot, zChain, tDNewK, yAdd, ySub, yMul, yDiv, yMod, yPow, yNeg, yLt, yLe, yGt, yGe, yEq, yNe, yIs0, yNotIs0, yIx, ySet, yIn, sqAt, isNone, zFld, zSetF, insAt, zMeth, zProp, tCall, tMake, tCB, yLen, yAbs, yMax2, yMin2, yList, yTuple, yDict0, zLM, yApp, isLst, dkAt, keyOf, zGet1, zGet2, zPop1, zPop2, zForR1, zForR2, zForL, zForT, Z.intAt, refAt, zLc, iR1, iR2, iL, iT, wipe, List.getElem?_cons_zero, List.getElem?_cons_succ, List.set_cons_zero, List.set_cons_succ, List.cons_append, List.nil_append, List.append_nil, upd_same, at0, at1, at2, ix0, ix1, ix2, upd_upd, ite_true, ite_false, if_true, if_false, Bool.false_eq_true, decide_true, decide_false, reduceIte, true_and, and_true, Option.isSome_none, Option.isSome_some, Bool.not_false, Bool.not_true, tCallN, zForR3, zMatch, zCase, zMethS, zRaiseO, yPopAt, zSl2, yIsiT, tysAt, zBInit, zOst, tXf, wAs, tMkO, zFmt, zJs, zJoin, yStr1, gLst, zCM, zListR1, zListR2, zLenR1, iR3, yInt1, yEqO, yAndO, yInO, yLenO, yReprO, isBl, Z.strAt, yEq0, yNe0, GF.zForG, GF.zLcG, GF.zListG, yIsi, tyAt, clsAt, ki_int_int, ki_bool_int, ki_none_int, ki_str_int, ki_list_int, ki_tuple_int, ki_int_bool, ki_bool_bool, ki_none_bool, ki_str_bool, ki_list_bool, ki_tuple_bool, zMakeV, tRz, zNever, upd_ne (ne_of_none hx hq), hx, yEq0]
    exact ⟨.inl trivial, k _⟩

theorem fnF_is_integer {P : Program} {w : World} {K : PySem.W.Frag} {mg : Str → Option Value} {base : Heap} (T : Top K mg) {fd : FuncData} (F : FunD K "is_integer" "is_integer" (defArgs st_is_integer) (defBody st_is_integer) (defScope st_is_integer) [] [] (He.ga K "is_integer") fd) : FnOk P w K mg base C8.CX0 1 (He.ga K "is_integer") fd ["thing"] (sp_is_integer K) := by
  refine Hk.fn_ok (k := 0) F sc_is_integer (ln_sp_is_integer (K := K)) (t := t_is_integer K) (fun cdv A outer s H E hr => ?_) (rd_is_integer T)
  exact (pss_one (ps_ret (e_and (pe_callB c_isi (by rfl) T.f_isinstance (by decide +kernel) (pa_cons (pz 0) (pa_cons (pe_ty (by rfl) T.f_int (by decide +kernel)) pa_nil))) (pe_one (e_not (pe_callB c_isi (by rfl) T.f_isinstance (by decide +kernel) (pa_cons (pz 0) (pa_cons (pe_ty (by rfl) T.f_bool (by decide +kernel)) pa_nil))))))))
theorem fn_is_integer {P : Program} {w : World} {K : PySem.W.Frag} {mg : Str → Option Value} {base : Heap} (T : Top K mg) : ∃ fd, FnOk P w K mg base C8.CX0 1 (He.ga K "is_integer") fd ["thing"] (sp_is_integer K) ∧ PySem.W.keepIn K (.ref (He.ga K "is_integer")) = true ∧ Binds K fd ["thing"] [] := by
  obtain ⟨fd, F⟩ := T.d_is_integer
  exact ⟨fd, fnF_is_integer T F, F.kp, F.bindsN (fun _ _ _ _ _ _ us hl => match us, hl with | [_], _ => rfl)⟩
theorem ok_is_integer {P : Program} {w : World} {K : PySem.W.Frag} {mg : Str → Option Value} {base : Heap} (T : Top K mg) : C8.Cal P w K mg base 1 "is_integer" (sp_is_integer K) [] := by
  obtain ⟨fd, F, kp, b⟩ := fn_is_integer (P := P) (w := w) (base := base) T
  exact ⟨_, fd, _, [], F, T.g_is_integer, kp, b, .nil⟩
theorem fnF_is_from_to {P : Program} {w : World} {K : PySem.W.Frag} {mg : Str → Option Value} {base : Heap} (T : Top K mg) {fd : FuncData} (F : FunD K "is_from_to" "is_from_to" (defArgs st_is_from_to) (defBody st_is_from_to) (defScope st_is_from_to) [] [] (He.ga K "is_from_to") fd) : FnOk P w K mg base C8.CX0 2 (He.ga K "is_from_to") fd ["thing", "least", "most"] (sp_is_from_to K) := by
  refine Hk.fn_ok (k := 1) F sc_is_from_to (ln_sp_is_from_to (K := K)) (t := t_is_from_to K) (fun cdv A outer s H E hr => ?_) (rd_is_from_to T)
  exact (pss_one (ps_ret (e_and (C8.pe_c (ok_is_integer T) hr (by decide) (by rfl) (pa_cons (pz 0) pa_nil)) (pe_one (e_chain o_le o_le (pz 1) (pz 0) (pz 2))))))
theorem fn_is_from_to {P : Program} {w : World} {K : PySem.W.Frag} {mg : Str → Option Value} {base : Heap} (T : Top K mg) : ∃ fd, FnOk P w K mg base C8.CX0 2 (He.ga K "is_from_to") fd ["thing", "least", "most"] (sp_is_from_to K) ∧ PySem.W.keepIn K (.ref (He.ga K "is_from_to")) = true ∧ Binds K fd ["thing", "least", "most"] [] := by
  obtain ⟨fd, F⟩ := T.d_is_from_to
  exact ⟨fd, fnF_is_from_to T F, F.kp, F.bindsN (fun _ _ _ _ _ _ us hl => match us, hl with | [_, _, _], _ => rfl)⟩
theorem ok_is_from_to {P : Program} {w : World} {K : PySem.W.Frag} {mg : Str → Option Value} {base : Heap} (T : Top K mg) : C8.Cal P w K mg base 2 "is_from_to" (sp_is_from_to K) [] := by
  obtain ⟨fd, F, kp, b⟩ := fn_is_from_to (P := P) (w := w) (base := base) T
  exact ⟨_, fd, _, [], F, T.g_is_from_to, kp, b, .nil⟩
theorem fnF_Run___init__ {P : Program} {w : World} {K : PySem.W.Frag} {mg : Str → Option Value} {base : Heap} (T : Top K mg) {fd : FuncData} (F : FunD K "__init__" "Run.__init__" (defArgs st_Run___init__) (defBody st_Run___init__) (defScope st_Run___init__) [] [] (He.ma K (He.ga K "Run") "__init__") fd) : FnOk P w K mg base C8.CX0 3 (He.ma K (He.ga K "Run") "__init__") fd ["self", "first", "many"] (sp_Run___init__ K) := by
  refine Hk.fn_ok (k := 2) F sc_Run___init__ (ln_sp_Run___init__ (K := K)) (t := t_Run___init__ K) (fun cdv A outer s H E hr => ?_) (rd_Run___init__ T)
  exact (pss_cons (ps_if (PW.pt (pw_or (pt_not (t_val (C8.pe_c (ok_is_from_to T) hr (by decide) (by rfl) (pa_cons (pz 1) (pa_cons pe_int (pa_cons (C8.pe_gc (by rfl) T.g_MOST) pa_nil)))))) (pw_or1 (pt_not (t_val (C8.pe_c (ok_is_from_to T) hr (by decide) (by rfl) (pa_cons (pz 2) (pa_cons pe_int (pa_cons (C8.pe_gc (by rfl) T.g_MOST) pa_nil))))))))) (pss_one Z.ps_never) pss_nil) (pss_cons (s_fld (pz 0) (pz 1) rfl) (pss_one (s_fld (pz 0) (pz 2) rfl))))
theorem fn_Run___init__ {P : Program} {w : World} {K : PySem.W.Frag} {mg : Str → Option Value} {base : Heap} (T : Top K mg) : ∃ fd, FnOk P w K mg base C8.CX0 3 (He.ma K (He.ga K "Run") "__init__") fd ["self", "first", "many"] (sp_Run___init__ K) ∧ PySem.W.keepIn K (.ref (He.ma K (He.ga K "Run") "__init__")) = true ∧ Binds K fd ["self", "first", "many"] [] := by
  obtain ⟨fd, F⟩ := T.d_Run___init__
  exact ⟨fd, fnF_Run___init__ T F, F.kp, F.bindsN (fun _ _ _ _ _ _ us hl => match us, hl with | [_, _, _], _ => rfl)⟩
theorem mk_Run {P : Program} {w : World} {K : PySem.W.Frag} {mg : Str → Option Value} {base : Heap} (T : Top K mg) : C8.Mak P w K mg base 3 "Run" (He.ga K "Run") (sp_Run___init__ K) [] := by
  obtain ⟨fd, F, kp, b⟩ := fn_Run___init__ (P := P) (w := w) (base := base) T
  exact ⟨_, fd, _, [], T.mk_Run, F, T.m_Run, b, .nil⟩
theorem fnF_Run_end {P : Program} {w : World} {K : PySem.W.Frag} {mg : Str → Option Value} {base : Heap} (T : Top K mg) {fd : FuncData} (F : FunD K "end" "Run.end" (defArgs st_Run_end) (defBody st_Run_end) (defScope st_Run_end) [] [] (Hk.prG "Run" "end" K) fd) : FnOk P w K mg base C8.CX0 1 (Hk.prG "Run" "end" K) fd ["self"] (sp_Run_end K) := by
  refine Hk.fn_ok (k := 0) F sc_Run_end (ln_sp_Run_end (K := K)) (t := t_Run_end K) (fun cdv A outer s H E hr => ?_) (rd_Run_end T)
  exact (pss_one (ps_ret (pe_op o_add (e_fld (pz 0) rfl) (e_fld (pz 0) rfl))))
theorem fn_Run_end {P : Program} {w : World} {K : PySem.W.Frag} {mg : Str → Option Value} {base : Heap} (T : Top K mg) : ∃ fd, FnOk P w K mg base C8.CX0 1 (Hk.prG "Run" "end" K) fd ["self"] (sp_Run_end K) ∧ PySem.W.keepIn K (.ref (Hk.prG "Run" "end" K)) = true ∧ Binds K fd ["self"] [] := by
  obtain ⟨fd, F⟩ := T.d_Run_end
  exact ⟨fd, fnF_Run_end T F, F.kp, F.bindsN (fun _ _ _ _ _ _ us hl => match us, hl with | [_], _ => rfl)⟩
theorem fnF_Run___eq__ {P : Program} {w : World} {K : PySem.W.Frag} {mg : Str → Option Value} {base : Heap} (T : Top K mg) {fd : FuncData} (F : FunD K "__eq__" "Run.__eq__" (defArgs st_Run___eq__) (defBody st_Run___eq__) (defScope st_Run___eq__) [] [] (He.ma K (He.ga K "Run") "__eq__") fd) : FnOk P w K mg base C8.CX0 1 (He.ma K (He.ga K "Run") "__eq__") fd ["self", "other"] (sp_Run___eq__ K) := by
  refine Hk.fn_ok (k := 0) F sc_Run___eq__ (ln_sp_Run___eq__ (K := K)) (t := t_Run___eq__ K) (fun cdv A outer s H E hr => ?_) (rd_Run___eq__ T)
  exact (pss_one (ps_ret (e_and (pe_callB c_isi (by rfl) T.f_isinstance (by decide +kernel) (pa_cons (pz 1) (pa_cons (C8.pe_gc (by rfl) ⟨_, T.m_Run, rfl⟩) pa_nil))) (e_and (pe_cmpR (o_eq hr.units) (e_fld (pz 0) rfl) (e_fld (pz 1) rfl) (nomark _)) (pe_one (pe_cmpR (o_eq hr.units) (e_fld (pz 0) rfl) (e_fld (pz 1) rfl) (nomark _)))))))
theorem fn_Run___eq__ {P : Program} {w : World} {K : PySem.W.Frag} {mg : Str → Option Value} {base : Heap} (T : Top K mg) : ∃ fd, FnOk P w K mg base C8.CX0 1 (He.ma K (He.ga K "Run") "__eq__") fd ["self", "other"] (sp_Run___eq__ K) ∧ PySem.W.keepIn K (.ref (He.ma K (He.ga K "Run") "__eq__")) = true ∧ Binds K fd ["self", "other"] [] := by
  obtain ⟨fd, F⟩ := T.d_Run___eq__
  exact ⟨fd, fnF_Run___eq__ T F, F.kp, F.bindsN (fun _ _ _ _ _ _ us hl => match us, hl with | [_, _], _ => rfl)⟩
theorem ok_Run___eq__ {P : Program} {w : World} {K : PySem.W.Frag} {mg : Str → Option Value} {base : Heap} (T : Top K mg) : C8.Met P w K mg base 1 (He.ga K "Run") "__eq__" (sp_Run___eq__ K) [] := by
  obtain ⟨fd, F, kp, b⟩ := fn_Run___eq__ (P := P) (w := w) (base := base) T
  exact ⟨_, fd, _, [], T.cl_Run, T.me_Run___eq__, F, b, .nil⟩
theorem fnF_Run___repr__ {P : Program} {w : World} {K : PySem.W.Frag} {mg : Str → Option Value} {base : Heap} (T : Top K mg) {fd : FuncData} (F : FunD K "__repr__" "Run.__repr__" (defArgs st_Run___repr__) (defBody st_Run___repr__) (defScope st_Run___repr__) [] [] (He.ma K (He.ga K "Run") "__repr__") fd) : FnOk P w K mg base C8.CX0 1 (He.ma K (He.ga K "Run") "__repr__") fd ["self"] (sp_Run___repr__ K) := by
  refine Hk.fn_ok (k := 0) F sc_Run___repr__ (ln_sp_Run___repr__ (K := K)) (t := t_Run___repr__ K) (fun cdv A outer s H E hr => ?_) (rd_Run___repr__ T)
  exact (pss_one (ps_ret (e_join (.cons (pe_up pe_str) (.cons (pe_up (e_fmt (e_fld (pz 0) rfl))) (.cons (pe_up pe_str) (.cons (pe_up (e_fmt (e_fld (pz 0) rfl))) (.cons (pe_up pe_str) .nil))))))))
theorem fn_Run___repr__ {P : Program} {w : World} {K : PySem.W.Frag} {mg : Str → Option Value} {base : Heap} (T : Top K mg) : ∃ fd, FnOk P w K mg base C8.CX0 1 (He.ma K (He.ga K "Run") "__repr__") fd ["self"] (sp_Run___repr__ K) ∧ PySem.W.keepIn K (.ref (He.ma K (He.ga K "Run") "__repr__")) = true ∧ Binds K fd ["self"] [] := by
  obtain ⟨fd, F⟩ := T.d_Run___repr__
  exact ⟨fd, fnF_Run___repr__ T F, F.kp, F.bindsN (fun _ _ _ _ _ _ us hl => match us, hl with | [_], _ => rfl)⟩
theorem ok_Run___repr__ {P : Program} {w : World} {K : PySem.W.Frag} {mg : Str → Option Value} {base : Heap} (T : Top K mg) : C8.Met P w K mg base 1 (He.ga K "Run") "__repr__" (sp_Run___repr__ K) [] := by
  obtain ⟨fd, F, kp, b⟩ := fn_Run___repr__ (P := P) (w := w) (base := base) T
  exact ⟨_, fd, _, [], T.cl_Run, T.me_Run___repr__, F, b, .nil⟩
theorem gm_Run_words {P : Program} {w : World} {K : PySem.W.Frag} {mg : Str → Option Value} {base : Heap} (T : Top K mg) : GF.GenM P w K mg base (He.ga K "Run") "words" nm_Run_words 2 (ti_Run_words K) := by
  obtain ⟨fd, F⟩ := T.d_Run_words
  exact GF.gen_ok (ix := 1) F rfl T.cl_Run T.me_Run_words gs_Run_words gc_Run_words (F.bindsN (fun _ _ _ _ _ _ us hl => match us, hl with | [_], _ => rfl)) (fun _ _ => rfl) rfl rfl (by decide +kernel) (by decide +kernel) (fun _ _ _ => rfl) (fun cdv A outer sc Hc hr => (i_r2 (by rfl) T.f_range (e_fld (pz 0) rfl) (e_propC (pz 0) T.cl_Run T.pr_Run_end (fn_Run_end T) hr (by decide))))
theorem fnF_segments {P : Program} {w : World} {K : PySem.W.Frag} {mg : Str → Option Value} {base : Heap} (T : Top K mg) {fd : FuncData} (F : FunD K "segments" "segments" (defArgs st_segments) (defBody st_segments) (defScope st_segments) [] [(("boundary" : Str), (.non : V))] (He.ga K "segments") fd) : FnOk P w K mg base C8.CX0 7 (He.ga K "segments") fd ["runs", "longest", "boundary"] (sp_segments K) := by
  refine Hk.fn_okD (k := 6) F sc_segments (ln_sp_segments (K := K)) (t := t_segments K) (fun cdv A outer s H E hr => ?_) (rd_segments T)
  exact (pss_cons (ps_set (i := 3) sc_segments.nd rfl (Or.inl rfl) (pe_lst pa_nil)) (pss_cons (s_forL PassesOwn.never rfl (pz 0) (pg_name (i := 4) sc_segments.nd rfl (Or.inl rfl)) (pss_one (GF.s_forG (fun _ _ z => z) (gm_Run_words T) hr (by decide) (pz 4) (pg_name (i := 5) sc_segments.nd rfl (Or.inl rfl)) (pss_cons (ps_set (i := 6) sc_segments.nd rfl (Or.inl rfl) (e_and (pe_cmpR (o_ne0 hr.units0) (pz 3) (pe_lst pa_nil) (nomark _)) (e_and (pe_cmpR (o_eq hr.units) (pe_callB (cr_sum rfl) (by rfl) T.f_sum (by decide +kernel) (pa_cons (e_ix (hu_of hr) (pz 3) (pe_un u_neg pe_int) (fun _ _ => rfl)) pa_nil)) (pz 5) (nomark _)) (pe_one (pe_cmpR o_lt (e_ix (hu_of hr) (e_ix (hu_of hr) (pz 3) (pe_un u_neg pe_int) (fun _ _ => rfl)) pe_int (fun _ _ => rfl)) (pz 1) (nomark _)))))) (pss_one (ps_if (PW.pt (pw_and (t_val (pz 6)) (pw_and1 (PW.pt (pw_or (t_cmp o_is0 (pz 2) pe_non (nomark _)) (pw_or1 (t_cmp (o_eq hr.units) (pe_op o_div (e_ix (hu_of hr) (e_ix (hu_of hr) (pz 3) (pe_un u_neg pe_int) (fun _ _ => rfl)) pe_int (fun _ _ => rfl)) (pz 2)) (pe_op o_div (pz 5) (pz 2)) (nomark _)))))))) (pss_one (s_augS (hu_of hr) (e_ix (hu_of hr) (pz 3) (pe_un u_neg pe_int) (fun _ _ => rfl)) pe_int pe_int)) (pss_one (ps_expr (e_app (pz 3) (pe_lst (pa_cons (pz 5) (pa_cons pe_int pa_nil)))))))))))) (pss_one (ps_ret (pe_lc (own := [("first", 7), ("many", 8)]) (by rfl) sc_segments.nd (i_l (pz 3)) (blkOk_by (own := [("first", 7), ("many", 8)]) (N := nm_segments) (sc := defScope st_segments) (by decide +kernel)) (fun _ _ _ _ _ => (pg_lst rfl (pgs_cons (pg_name (i := 7) sc_segments.nd rfl (Or.inl rfl)) (pgs_cons (pg_name (i := 8) sc_segments.nd rfl (Or.inl rfl)) pgs_nil)))) (fun _ _ _ _ _ => pts_nil) (fun _ _ _ _ _ => (C8.pe_mk (mk_Run T) hr (by decide) (by rfl) (pa_cons (pz 7) (pa_cons (pz 8) pa_nil)))))))))
theorem kc_segments_0 {P : Program} {w : World} {K : PySem.W.Frag} {mg : Str → Option Value} {base : Heap} (T : Top K mg) : CalN P w K mg base 7 "segments" (sp_segments K) 1 [("longest" : Str), ("boundary" : Str)] (fun us ws => us ++ (ws ++ ([] : List V))) := by
  obtain ⟨fd, F⟩ := T.d_segments
  obtain ⟨mv, b⟩ := F.kbinds0 (ps := ["runs", "longest", "boundary"]) 1 [("longest" : Str), ("boundary" : Str)] [] (fun us mv ws => us ++ (ws ++ mv)) (by simp) (by simp) (fun r1 r2 r3 => r1.append (r3.append r2)) (fun D doc pm an cdv ct us mv ws h1 h2 h3 => match us, mv, ws, h1, h2, h3 with | [_], [], [_, _], _, _, _ => rfl)
  exact ⟨_, fd, _, _, fnF_segments T F, T.g_segments, F.kp, b⟩
theorem kc_segments_1 {P : Program} {w : World} {K : PySem.W.Frag} {mg : Str → Option Value} {base : Heap} (T : Top K mg) : CalN P w K mg base 7 "segments" (sp_segments K) 1 [("longest" : Str)] (fun us ws => us ++ (ws ++ ([.non] : List V))) := by
  obtain ⟨fd, F⟩ := T.d_segments
  obtain ⟨mv, b⟩ := F.kbinds0 (ps := ["runs", "longest", "boundary"]) 1 [("longest" : Str)] [(("boundary" : Str), (.non : V))] (fun us mv ws => us ++ (ws ++ mv)) (by simp) (by simp) (fun r1 r2 r3 => r1.append (r3.append r2)) (fun D doc pm an cdv ct us mv ws h1 h2 h3 => match us, mv, ws, h1, h2, h3 with | [_], [_], [_], _, _, _ => ⟨_, _, _, _, _, _, rfl, rfl, rfl⟩)
  exact ⟨_, fd, _, _, fnF_segments T F, T.g_segments, F.kp, b⟩
theorem fnF_L_bag {P : Program} {w : World} {K : PySem.W.Frag} {mg : Str → Option Value} {base : Heap} (T : Top K mg) {fd : FuncData} (F : FunD K "_law_bag" "_law_bag" (defArgs st_L_bag) (defBody st_L_bag) (defScope st_L_bag) [] [] (He.ga K "_law_bag") fd) : FnOk P w K mg base C8.CX0 1 (He.ga K "_law_bag") fd ["_law_script", "_law_at"] (sp_L_bag K) := by
  refine Hk.fn_ok (k := 0) F sc_L_bag (ln_sp_L_bag (K := K)) (t := t_L_bag K) (fun cdv A outer s H E hr => ?_) (rd_L_bag T)
  exact (pss_cons (ps_set (i := 2) sc_L_bag.nd rfl (Or.inl rfl) (pe_ifExp (t_cmp o_lt (pz 1) (pe_callB c_lenS (by rfl) T.f_len (by decide +kernel) (pa_cons (pz 0) pa_nil)) (nomark _)) (pe_ix ix_list (pz 0) (pz 1) (fun _ _ => rfl)) pe_int)) (pss_cons (ps_set (i := 3) sc_L_bag.nd rfl (Or.inl rfl) (pe_ifExp (t_cmp o_ge (pe_callB c_abs (by rfl) T.f_abs (by decide +kernel) (pa_cons (pz 2) pa_nil)) (pe_op o_pow pe_int pe_int) (nomark _)) (pe_callB c_abs (by rfl) T.f_abs (by decide +kernel) (pa_cons (pz 2) pa_nil)) pe_int)) (pss_one (ps_ret (pe_lst (pa_cons (pz 3) (pa_cons (pe_op o_add (pe_op o_add (pe_op o_mul (pe_op o_mod (pz 2) (pe_op o_add (pe_op o_pow pe_int pe_int) pe_int)) pe_int) (pe_op o_mul pe_int (pz 1))) pe_int) (pa_cons pe_int pa_nil))))))))
theorem fn_L_bag {P : Program} {w : World} {K : PySem.W.Frag} {mg : Str → Option Value} {base : Heap} (T : Top K mg) : ∃ fd, FnOk P w K mg base C8.CX0 1 (He.ga K "_law_bag") fd ["_law_script", "_law_at"] (sp_L_bag K) ∧ PySem.W.keepIn K (.ref (He.ga K "_law_bag")) = true ∧ Binds K fd ["_law_script", "_law_at"] [] := by
  obtain ⟨fd, F⟩ := T.d_L_bag
  exact ⟨fd, fnF_L_bag T F, F.kp, F.bindsN (fun _ _ _ _ _ _ us hl => match us, hl with | [_, _], _ => rfl)⟩
theorem ok_L_bag {P : Program} {w : World} {K : PySem.W.Frag} {mg : Str → Option Value} {base : Heap} (T : Top K mg) : C8.Cal P w K mg base 1 "_law_bag" (sp_L_bag K) [] := by
  obtain ⟨fd, F, kp, b⟩ := fn_L_bag (P := P) (w := w) (base := base) T
  exact ⟨_, fd, _, [], F, T.g_L_bag, kp, b, .nil⟩
theorem fnF_L_take {P : Program} {w : World} {K : PySem.W.Frag} {mg : Str → Option Value} {base : Heap} (T : Top K mg) {fd : FuncData} (F : FunD K "_law_take" "_law_take" (defArgs st_L_take) (defBody st_L_take) (defScope st_L_take) [] [] (He.ga K "_law_take") fd) : FnOk P w K mg base C8.CX0 1 (He.ga K "_law_take") fd ["_law_bag_here", "_law_many"] (sp_L_take K) := by
  refine Hk.fn_ok (k := 0) F sc_L_take (ln_sp_L_take (K := K)) (t := t_L_take K) (fun cdv A outer s H E hr => ?_) (rd_L_take T)
  exact (pss_cons (ps_if (t_cmp o_gt (e_ix (hu_of hr) (pz 0) pe_int (fun _ _ => rfl)) pe_int (nomark _)) (pss_cons (ps_set (i := 3) sc_L_take.nd rfl (Or.inl rfl) (pe_op o_mod (e_ix (hu_of hr) (pz 0) pe_int (fun _ _ => rfl)) (pz 1))) (pss_cons (ps_asg (pe_op o_div (e_ix (hu_of hr) (pz 0) pe_int (fun _ _ => rfl)) (pz 1)) (pg_sub (pz 0) pe_int (set_any (hu_of hr)))) (pss_one (ps_ret (pz 3))))) pss_nil) (pss_cons (ps_asg (pe_op o_add (e_ix (hu_of hr) (pz 0) pe_int (fun _ _ => rfl)) pe_int) (pg_sub (pz 0) pe_int (set_any (hu_of hr)))) (pss_cons (ps_set (i := 2) sc_L_take.nd rfl (Or.inl rfl) (pe_op o_mod (pe_op o_pow (pe_op o_add (e_ix (hu_of hr) (pz 0) pe_int (fun _ _ => rfl)) (pe_op o_mul (pe_op o_mul pe_int (e_ix (hu_of hr) (pz 0) pe_int (fun _ _ => rfl))) (e_ix (hu_of hr) (pz 0) pe_int (fun _ _ => rfl)))) pe_int) pe_int)) (pss_one (ps_ret (pe_op o_mod (pe_op o_div (pe_op o_mod (pe_op o_mul (pz 2) (pe_op o_add (pe_op o_div (pz 2) pe_int) (pe_op o_mul pe_int (e_ix (hu_of hr) (pz 0) pe_int (fun _ _ => rfl))))) pe_int) pe_int) (pz 1)))))))
theorem fn_L_take {P : Program} {w : World} {K : PySem.W.Frag} {mg : Str → Option Value} {base : Heap} (T : Top K mg) : ∃ fd, FnOk P w K mg base C8.CX0 1 (He.ga K "_law_take") fd ["_law_bag_here", "_law_many"] (sp_L_take K) ∧ PySem.W.keepIn K (.ref (He.ga K "_law_take")) = true ∧ Binds K fd ["_law_bag_here", "_law_many"] [] := by
  obtain ⟨fd, F⟩ := T.d_L_take
  exact ⟨fd, fnF_L_take T F, F.kp, F.bindsN (fun _ _ _ _ _ _ us hl => match us, hl with | [_, _], _ => rfl)⟩
theorem ok_L_take {P : Program} {w : World} {K : PySem.W.Frag} {mg : Str → Option Value} {base : Heap} (T : Top K mg) : C8.Cal P w K mg base 1 "_law_take" (sp_L_take K) [] := by
  obtain ⟨fd, F, kp, b⟩ := fn_L_take (P := P) (w := w) (base := base) T
  exact ⟨_, fd, _, [], F, T.g_L_take, kp, b, .nil⟩
theorem fnF_L_runs {P : Program} {w : World} {K : PySem.W.Frag} {mg : Str → Option Value} {base : Heap} (T : Top K mg) {fd : FuncData} (F : FunD K "_law_runs" "_law_runs" (defArgs st_L_runs) (defBody st_L_runs) (defScope st_L_runs) [] [] (He.ga K "_law_runs") fd) : FnOk P w K mg base C8.CX0 2 (He.ga K "_law_runs") fd ["_law_bag_here", "_law_runs_here", "_law_size"] (sp_L_runs K) := by
  refine Hk.fn_ok (k := 1) F sc_L_runs (ln_sp_L_runs (K := K)) (t := t_L_runs K) (fun cdv A outer s H E hr => ?_) (rd_L_runs T)
  exact (pss_cons (ps_par (i := 4) (j := 5) (by rfl) sc_L_runs.nd rfl rfl (by decide) rfl rfl (pa_cons (pe_lst pa_nil) (pa_cons (C8.pe_c (ok_L_take T) hr (by decide) (by rfl) (pa_cons (pz 0) (pa_cons pe_int pa_nil))) pa_nil)) (by rfl)) (pss_cons (s_forR1 PassesOwn.never rfl (by rfl) T.f_range (C8.pe_c (ok_L_take T) hr (by decide) (by rfl) (pa_cons (pz 0) (pa_cons (pz 1) pa_nil))) (pg_name (i := 3) sc_L_runs.nd rfl (Or.inl rfl)) (pss_cons (ps_set (i := 6) sc_L_runs.nd rfl (Or.inl rfl) (pe_op o_add pe_int (C8.pe_c (ok_L_take T) hr (by decide) (by rfl) (pa_cons (pz 0) (pa_cons (pz 2) pa_nil))))) (pss_cons (ps_expr (e_app (pz 4) (pe_tup (pa_cons (pz 5) (pa_cons (pz 6) pa_nil))))) (pss_one (ps_set (i := 5) sc_L_runs.nd rfl (Or.inl rfl) (e_ix (hu_of hr) (pe_lst (pa_cons (pe_op o_add (pz 5) (pz 6)) (pa_cons (pe_op o_add (pz 5) (pz 6)) (pa_cons (pe_op o_add (pe_op o_add (pe_op o_add (pz 5) (pz 6)) pe_int) (C8.pe_c (ok_L_take T) hr (by decide) (by rfl) (pa_cons (pz 0) (pa_cons pe_int pa_nil)))) (pa_cons (C8.pe_c (ok_L_take T) hr (by decide) (by rfl) (pa_cons (pz 0) (pa_cons pe_int pa_nil))) pa_nil))))) (C8.pe_c (ok_L_take T) hr (by decide) (by rfl) (pa_cons (pz 0) (pa_cons pe_int pa_nil))) (fun _ _ => rfl))))))) (pss_one (ps_ret (pz 4)))))
theorem fn_L_runs {P : Program} {w : World} {K : PySem.W.Frag} {mg : Str → Option Value} {base : Heap} (T : Top K mg) : ∃ fd, FnOk P w K mg base C8.CX0 2 (He.ga K "_law_runs") fd ["_law_bag_here", "_law_runs_here", "_law_size"] (sp_L_runs K) ∧ PySem.W.keepIn K (.ref (He.ga K "_law_runs")) = true ∧ Binds K fd ["_law_bag_here", "_law_runs_here", "_law_size"] [] := by
  obtain ⟨fd, F⟩ := T.d_L_runs
  exact ⟨fd, fnF_L_runs T F, F.kp, F.bindsN (fun _ _ _ _ _ _ us hl => match us, hl with | [_, _, _], _ => rfl)⟩
theorem ok_L_runs {P : Program} {w : World} {K : PySem.W.Frag} {mg : Str → Option Value} {base : Heap} (T : Top K mg) : C8.Cal P w K mg base 2 "_law_runs" (sp_L_runs K) [] := by
  obtain ⟨fd, F, kp, b⟩ := fn_L_runs (P := P) (w := w) (base := base) T
  exact ⟨_, fd, _, [], F, T.g_L_runs, kp, b, .nil⟩
theorem fnF_L_words {P : Program} {w : World} {K : PySem.W.Frag} {mg : Str → Option Value} {base : Heap} (T : Top K mg) {fd : FuncData} (F : FunD K "_law_words" "_law_words" (defArgs st_L_words) (defBody st_L_words) (defScope st_L_words) [] [] (He.ga K "_law_words") fd) : FnOk P w K mg base C8.CX0 7 (He.ga K "_law_words") fd ["_law_runs_here"] (sp_L_words K) := by
  refine Hk.fn_ok (k := 6) F sc_L_words (ln_sp_L_words (K := K)) (t := t_L_words K) (fun cdv A outer s H E hr => ?_) (rd_L_words T)
  exact (pss_cons (ps_set (i := 1) sc_L_words.nd rfl (Or.inl rfl) (pe_lst pa_nil)) (pss_cons (s_forL PassesOwn.never rfl (pz 0) (pg_name (i := 2) sc_L_words.nd rfl (Or.inl rfl)) (pss_one (ps_set (i := 1) sc_L_words.nd rfl (Or.inl rfl) (pe_op o_add (pz 1) (GF.e_listG (gm_Run_words T) hr (by decide) (pz 2) (by rfl) T.f_list (by decide +kernel)))))) (pss_one (ps_ret (pz 1)))))
theorem fn_L_words {P : Program} {w : World} {K : PySem.W.Frag} {mg : Str → Option Value} {base : Heap} (T : Top K mg) : ∃ fd, FnOk P w K mg base C8.CX0 7 (He.ga K "_law_words") fd ["_law_runs_here"] (sp_L_words K) ∧ PySem.W.keepIn K (.ref (He.ga K "_law_words")) = true ∧ Binds K fd ["_law_runs_here"] [] := by
  obtain ⟨fd, F⟩ := T.d_L_words
  exact ⟨fd, fnF_L_words T F, F.kp, F.bindsN (fun _ _ _ _ _ _ us hl => match us, hl with | [_], _ => rfl)⟩
theorem ok_L_words {P : Program} {w : World} {K : PySem.W.Frag} {mg : Str → Option Value} {base : Heap} (T : Top K mg) : C8.Cal P w K mg base 7 "_law_words" (sp_L_words K) [] := by
  obtain ⟨fd, F, kp, b⟩ := fn_L_words (P := P) (w := w) (base := base) T
  exact ⟨_, fd, _, [], F, T.g_L_words, kp, b, .nil⟩
theorem fnF_L_cut {P : Program} {w : World} {K : PySem.W.Frag} {mg : Str → Option Value} {base : Heap} (T : Top K mg) {fd : FuncData} (F : FunD K "_law_cut" "_law_cut" (defArgs st_L_cut) (defBody st_L_cut) (defScope st_L_cut) [] [] (He.ga K "_law_cut") fd) : FnOk P w K mg base C8.CX0 1 (He.ga K "_law_cut") fd ["_law_words_here", "_law_most", "_law_border"] (sp_L_cut K) := by
  refine Hk.fn_ok (k := 0) F sc_L_cut (ln_sp_L_cut (K := K)) (t := t_L_cut K) (fun cdv A outer s H E hr => ?_) (rd_L_cut T)
  exact (pss_cons (ps_par (i := 3) (j := 4) (by rfl) sc_L_cut.nd rfl rfl (by decide) rfl rfl (pa_cons (pe_lst pa_nil) (pa_cons pe_int pa_nil)) (by rfl)) (pss_cons (ps_while PassesOwn.never (t_cmp o_lt (pz 4) (pe_callB c_len (by rfl) T.f_len (by decide +kernel) (pa_cons (pz 0) pa_nil)) (nomark _)) (pss_cons (ps_set (i := 5) sc_L_cut.nd rfl (Or.inl rfl) (pe_op o_add (pz 4) pe_int)) (pss_cons (ps_while PassesOwn.never (PW.pt (pw_and (t_cmp o_lt (pz 5) (pe_callB c_len (by rfl) T.f_len (by decide +kernel) (pa_cons (pz 0) pa_nil)) (nomark _)) (pw_and (t_cmp (o_eq hr.units) (e_ix (hu_of hr) (pz 0) (pz 5) (fun _ _ => rfl)) (pe_op o_sub (pe_op o_add (e_ix (hu_of hr) (pz 0) (pz 4) (fun _ _ => rfl)) (pz 5)) (pz 4)) (nomark _)) (pw_and1 (t_cmp o_lt (pe_op o_sub (pz 5) (pz 4)) (pz 1) (nomark _)))))) (pss_cons (ps_if (PW.pt (pw_and (t_cmp o_isnot0 (pz 2) pe_non (nomark _)) (pw_and1 (t_cmp (o_ne hr.units) (pe_op o_div (e_ix (hu_of hr) (pz 0) (pz 5) (fun _ _ => rfl)) (pz 2)) (pe_op o_div (e_ix (hu_of hr) (pz 0) (pz 4) (fun _ _ => rfl)) (pz 2)) (nomark _))))) (pss_cons (ps_expr (e_app (pz 3) (pe_tup (pa_cons (e_ix (hu_of hr) (pz 0) (pz 4) (fun _ _ => rfl)) (pa_cons (pe_op o_sub (pz 5) (pz 4)) pa_nil))))) (pss_one (ps_set (i := 4) sc_L_cut.nd rfl (Or.inl rfl) (pz 5)))) pss_nil) (pss_one (ps_set (i := 5) sc_L_cut.nd rfl (Or.inl rfl) (pe_op o_add (pz 5) pe_int))))) (pss_cons (ps_expr (e_app (pz 3) (pe_tup (pa_cons (e_ix (hu_of hr) (pz 0) (pz 4) (fun _ _ => rfl)) (pa_cons (pe_op o_sub (pz 5) (pz 4)) pa_nil))))) (pss_one (ps_set (i := 4) sc_L_cut.nd rfl (Or.inl rfl) (pz 5))))))) (pss_one (ps_ret (pz 3)))))
theorem fn_L_cut {P : Program} {w : World} {K : PySem.W.Frag} {mg : Str → Option Value} {base : Heap} (T : Top K mg) : ∃ fd, FnOk P w K mg base C8.CX0 1 (He.ga K "_law_cut") fd ["_law_words_here", "_law_most", "_law_border"] (sp_L_cut K) ∧ PySem.W.keepIn K (.ref (He.ga K "_law_cut")) = true ∧ Binds K fd ["_law_words_here", "_law_most", "_law_border"] [] := by
  obtain ⟨fd, F⟩ := T.d_L_cut
  exact ⟨fd, fnF_L_cut T F, F.kp, F.bindsN (fun _ _ _ _ _ _ us hl => match us, hl with | [_, _, _], _ => rfl)⟩
theorem ok_L_cut {P : Program} {w : World} {K : PySem.W.Frag} {mg : Str → Option Value} {base : Heap} (T : Top K mg) : C8.Cal P w K mg base 1 "_law_cut" (sp_L_cut K) [] := by
  obtain ⟨fd, F, kp, b⟩ := fn_L_cut (P := P) (w := w) (base := base) T
  exact ⟨_, fd, _, [], F, T.g_L_cut, kp, b, .nil⟩
theorem fnF_law {P : Program} {w : World} {K : PySem.W.Frag} {mg : Str → Option Value} {base : Heap} (T : Top K mg) {fd : FuncData} (F : FunD K "law" "law" (defArgs st_law) (defBody st_law) (defScope st_law) [] [] (He.ga K "law") fd) : FnOk P w K mg base C8.CX0 11 (He.ga K "law") fd ["_law_script"] (sp_law K) := by
  refine fn_okG (k := 10) F sc_law (ln_sp_law (K := K)) (t := t_law K) (fun cdv A outer s H E g hg hr => ?_) (rd_law T)
  exact (pss_cons (s_forR1 PassesOwn.never rfl (by rfl) T.f_range (pe_callB (c_max2 rfl) (by rfl) T.f_max (by decide +kernel) (pa_cons pe_int (pa_cons (pe_callB (c_min2 rfl) (by rfl) T.f_min (by decide +kernel) (pa_cons pe_int (pa_cons (pe_callB c_lenS (by rfl) T.f_len (by decide +kernel) (pa_cons (pz 0) pa_nil)) pa_nil))) pa_nil))) (pg_name (i := 1) sc_law.nd rfl (Or.inl rfl)) (pss_cons (ps_set (i := 2) sc_law.nd rfl (Or.inl rfl) (C8.pe_c (ok_L_bag T) hr (by decide) (by rfl) (pa_cons (pz 0) (pa_cons (pz 1) pa_nil)))) (pss_one (s_forR1 PassesOwn.never rfl (by rfl) T.f_range (pe_ifExp (t_cmp (o_eq hr.units) (pz 1) pe_int (nomark _)) pe_int pe_int) (pg_name (i := 3) sc_law.nd rfl (Or.inl rfl)) (pss_cons (ps_par (i := 8) (j := 9) (by rfl) sc_law.nd rfl rfl (by decide) rfl rfl (pa_cons (C8.pe_c (ok_L_runs T) hr (by decide) (by rfl) (pa_cons (pz 2) (pa_cons pe_int (pa_cons pe_int pa_nil)))) (pa_cons (pe_op o_add pe_int (C8.pe_c (ok_L_take T) hr (by decide) (by rfl) (pa_cons (pz 2) (pa_cons pe_int pa_nil)))) pa_nil)) (by rfl)) (pss_cons (ps_set (i := 4) sc_law.nd rfl (Or.inl rfl) (pe_ifExp (t_cmp o_gt (C8.pe_c (ok_L_take T) hr (by decide) (by rfl) (pa_cons (pz 2) (pa_cons pe_int pa_nil))) pe_int (nomark _)) (pe_op o_add pe_int (C8.pe_c (ok_L_take T) hr (by decide) (by rfl) (pa_cons (pz 2) (pa_cons pe_int pa_nil)))) pe_non)) (pss_cons (ps_if (t_cmp (o_eq hr.units) (pz 3) pe_int (nomark _)) (pss_cons (ps_par (i := 8) (j := 9) (by rfl) sc_law.nd rfl rfl (by decide) rfl rfl (pa_cons (C8.pe_c (ok_L_runs T) hr (by decide) (by rfl) (pa_cons (pz 2) (pa_cons pe_int (pa_cons pe_int pa_nil)))) (pa_cons (pe_op o_add pe_int (C8.pe_c (ok_L_take T) hr (by decide) (by rfl) (pa_cons (pz 2) (pa_cons (e_ix (hu_of hr) (pe_lst (pa_cons pe_int (pa_cons pe_int (pa_cons pe_int pa_nil)))) (C8.pe_c (ok_L_take T) hr (by decide) (by rfl) (pa_cons (pz 2) (pa_cons pe_int pa_nil))) (fun _ _ => rfl)) pa_nil)))) pa_nil)) (by rfl)) (pss_one (ps_set (i := 4) sc_law.nd rfl (Or.inl rfl) (e_ix (hu_of hr) (pe_lst (pa_cons (pe_op o_add pe_int (C8.pe_c (ok_L_take T) hr (by decide) (by rfl) (pa_cons (pz 2) (pa_cons pe_int pa_nil)))) (pa_cons pe_int (pa_cons (pe_op o_pow pe_int pe_int) (pa_cons pe_non pa_nil))))) (C8.pe_c (ok_L_take T) hr (by decide) (by rfl) (pa_cons (pz 2) (pa_cons pe_int pa_nil))) (fun _ _ => rfl))))) pss_nil) (pss_cons (ps_setLc (i := 5) (own := [("_law_first", 12), ("_law_many", 13)]) (by rfl) sc_law.nd rfl rfl (sw_true rfl rfl rfl (by decide +kernel)) (i_l (pz 8)) (blkOk_by (own := [("_law_first", 12), ("_law_many", 13)]) (N := nm_law) (sc := defScope st_law) (by decide +kernel)) (fun _ _ _ _ _ => (pg_tup rfl (pgs_cons (pg_name (i := 12) sc_law.nd rfl (Or.inl rfl)) (pgs_cons (pg_name (i := 13) sc_law.nd rfl (Or.inl rfl)) pgs_nil)))) (fun _ _ _ _ _ => pts_nil) (fun _ _ _ _ _ => (C8.pe_mk (mk_Run T) hr (by decide) (by rfl) (pa_cons (pz 12) (pa_cons (pz 13) pa_nil))))) (pss_cons (ps_set (i := 6) sc_law.nd rfl (Or.inl rfl) (C8.pe_c (ok_L_words T) hr (by decide) (by rfl) (pa_cons (pz 5) pa_nil))) (pss_cons (ps_par (i := 10) (j := 11) (by rfl) sc_law.nd rfl rfl (by decide) rfl rfl (pa_cons (pe_callB (c_reprL hg (ok_Run___repr__ T) hr (by decide)) (by rfl) T.f_repr (by decide +kernel) (pa_cons (pz 5) pa_nil)) (pa_cons (pe_lc (own := [("_law_first", 12), ("_law_many", 13)]) (by rfl) sc_law.nd (i_l (C8.pe_c (ok_L_cut T) hr (by decide) (by rfl) (pa_cons (pz 6) (pa_cons (pz 9) (pa_cons (pz 4) pa_nil))))) (blkOk_by (own := [("_law_first", 12), ("_law_many", 13)]) (N := nm_law) (sc := defScope st_law) (by decide +kernel)) (fun _ _ _ _ _ => (pg_tup rfl (pgs_cons (pg_name (i := 12) sc_law.nd rfl (Or.inl rfl)) (pgs_cons (pg_name (i := 13) sc_law.nd rfl (Or.inl rfl)) pgs_nil)))) (fun _ _ _ _ _ => pts_nil) (fun _ _ _ _ _ => (C8.pe_mk (mk_Run T) hr (by decide) (by rfl) (pa_cons (pz 12) (pa_cons (pz 13) pa_nil))))) pa_nil)) (by rfl)) (pss_cons (ps_set (i := 7) sc_law.nd rfl (Or.inl rfl) (e_cN (kc_segments_0 T) hr (by decide) (by rfl) (pa_cons (pz 5) pa_nil) (pk_cons (pz 9) (pk_cons (pz 4) pk_nil)))) (pss_cons (ps_if (PW.pt (pw_or (pt_not (t_val (pe_callB c_isi (by rfl) T.f_isinstance (by decide +kernel) (pa_cons (pz 7) (pa_cons (pe_ty (by rfl) T.f_list (by decide +kernel)) pa_nil))))) (pw_or (t_cmp (o_neL (eqD_own (ok_Run___eq__ T)) (hr.mono (by decide))) (pz 7) (pz 11) (nomark _)) (pw_or1 (t_cmp (o_ne hr.units) (pe_callB (c_reprL hg (ok_Run___repr__ T) hr (by decide)) (by rfl) T.f_repr (by decide +kernel) (pa_cons (pz 5) pa_nil)) (pz 10) (nomark _)))))) (pss_one (ps_ret pe_bl)) pss_nil) (pss_one (ps_if (PW.pt (pw_and (t_cmp o_is0 (pz 4) pe_non (nomark _)) (pw_and1 (t_cmp (o_neL (eqD_own (ok_Run___eq__ T)) (hr.mono (by decide))) (e_cN (kc_segments_1 T) hr (by decide) (by rfl) (pa_cons (pz 5) pa_nil) (pk_cons (pz 9) pk_nil)) (pz 11) (nomark _))))) (pss_one (ps_ret pe_bl)) pss_nil)))))))))))))) (pss_one (ps_ret (pe_cmpR (o_eq0 hr.units0) (e_cN (kc_segments_1 T) hr (by decide) (by rfl) (pa_cons (pe_lst pa_nil) pa_nil) (pk_cons pe_int pk_nil)) (pe_lst pa_nil) (nomark _)))))
theorem fn_law {P : Program} {w : World} {K : PySem.W.Frag} {mg : Str → Option Value} {base : Heap} (T : Top K mg) : ∃ fd, FnOk P w K mg base C8.CX0 11 (He.ga K "law") fd ["_law_script"] (sp_law K) ∧ PySem.W.keepIn K (.ref (He.ga K "law")) = true ∧ Binds K fd ["_law_script"] [] := by
  obtain ⟨fd, F⟩ := T.d_law
  exact ⟨fd, fnF_law T F, F.kp, F.bindsN (fun _ _ _ _ _ _ us hl => match us, hl with | [_], _ => rfl)⟩
theorem ok_law {P : Program} {w : World} {K : PySem.W.Frag} {mg : Str → Option Value} {base : Heap} (T : Top K mg) : C8.Cal P w K mg base 11 "law" (sp_law K) [] := by
  obtain ⟨fd, F, kp, b⟩ := fn_law (P := P) (w := w) (base := base) T
  exact ⟨_, fd, _, [], F, T.g_law, kp, b, .nil⟩
set_option maxHeartbeats 0
/-! ### the head: facts by names, the run -/
def fa : List Hk.Fact := [
  .of (.glo "law"),
  .of (.glo "is_integer"),
  .of (.glo "is_from_to"),
  .of (.glo "segments"),
  .of (.glo "_law_bag"),
  .of (.glo "_law_take"),
  .of (.glo "_law_runs"),
  .of (.glo "_law_words"),
  .of (.glo "_law_cut"),
  .of (.free "len"),
  .of (.free "abs"),
  .of (.free "max"),
  .of (.free "min"),
  .of (.free "range"),
  .of (.free "isinstance"),
  .of (.free "int"),
  .of (.free "bool"),
  .of (.free "list"),
  .of (.free "sum"),
  .of (.free "repr"),
  .of (.int "MOST" 1000000000000),
  .of (.glo "Run"),
  .of (.cls "Run"),
  .of (.noat "Run" "first"),
  .of (.noat "Run" "many"),
  .of (.mkr "Run"),
  Hk.propB "Run" "end",
  .of (.meth "Run" "__eq__"),
  .of (.meth "Run" "__repr__"),
  .of (.meth "Run" "words"),
  Hk.insB "Run",
  Hk.sfB "Run",
  Hk.nfB "Run" "NoneType",
  Hk.kitBB "NoneType" "Run" false,
  Hk.kitBB "int" "Run" false,
  Hk.kitBB "bool" "Run" false,
  Hk.kitBB "str" "Run" false,
  Hk.kitBB "list" "Run" false,
  Hk.kitBB "tuple" "Run" false,
  Hk.kitTB "Run" "int" false,
  Hk.kitTB "Run" "bool" false,
  Hk.kitCB "Run" "Run" true]
def fn : List Hk.DP := [
  ⟨fun K => (He.ga K "is_integer"), "is_integer", "is_integer", defArgs st_is_integer, defBody st_is_integer, defScope st_is_integer, [], []⟩,
  ⟨fun K => (He.ga K "is_from_to"), "is_from_to", "is_from_to", defArgs st_is_from_to, defBody st_is_from_to, defScope st_is_from_to, [], []⟩,
  ⟨fun K => (He.ma K (He.ga K "Run") "__init__"), "__init__", "Run.__init__", defArgs st_Run___init__, defBody st_Run___init__, defScope st_Run___init__, [], []⟩,
  ⟨fun K => (Hk.prG "Run" "end" K), "end", "Run.end", defArgs st_Run_end, defBody st_Run_end, defScope st_Run_end, [], []⟩,
  ⟨fun K => (He.ma K (He.ga K "Run") "__eq__"), "__eq__", "Run.__eq__", defArgs st_Run___eq__, defBody st_Run___eq__, defScope st_Run___eq__, [], []⟩,
  ⟨fun K => (He.ma K (He.ga K "Run") "__repr__"), "__repr__", "Run.__repr__", defArgs st_Run___repr__, defBody st_Run___repr__, defScope st_Run___repr__, [], []⟩,
  ⟨fun K => (He.ma K (He.ga K "Run") "words"), "words", "Run.words", defArgs st_Run_words, defBody st_Run_words, defScope st_Run_words, [], []⟩,
  ⟨fun K => (He.ga K "segments"), "segments", "segments", defArgs st_segments, defBody st_segments, defScope st_segments, [], [("boundary", .non)]⟩,
  ⟨fun K => (He.ga K "_law_bag"), "_law_bag", "_law_bag", defArgs st_L_bag, defBody st_L_bag, defScope st_L_bag, [], []⟩,
  ⟨fun K => (He.ga K "_law_take"), "_law_take", "_law_take", defArgs st_L_take, defBody st_L_take, defScope st_L_take, [], []⟩,
  ⟨fun K => (He.ga K "_law_runs"), "_law_runs", "_law_runs", defArgs st_L_runs, defBody st_L_runs, defScope st_L_runs, [], []⟩,
  ⟨fun K => (He.ga K "_law_words"), "_law_words", "_law_words", defArgs st_L_words, defBody st_L_words, defScope st_L_words, [], []⟩,
  ⟨fun K => (He.ga K "_law_cut"), "_law_cut", "_law_cut", defArgs st_L_cut, defBody st_L_cut, defScope st_L_cut, [], []⟩,
  ⟨fun K => (He.ga K "law"), "law", "law", defArgs st_law, defBody st_law, defScope st_law, [], []⟩]
def names : List Str := (["_wall", "WindowError", "BadRun", "MOST", "is_integer", "is_from_to", "Run", "segments", "_law_bag", "_law_take", "_law_runs", "_law_words", "_law_cut"] : List Str)
abbrev R : PySem.W.OpenRow := PySem.W.OpenLaw.row PySem.Challenge.rw_devicewindows_k04_segments_by_greed
abbrev hk : PySem.W.Hook := Hk.hook 7 fa fn
def ob (s : PySem.W.SharedT) : Hk.Al := Hk.obsG 7 fa fn (HandSHeadRun.getT s)
theorem ob_eq (s : PySem.W.SharedT) : ob s = hk.obs s.abs := Hk.obsG_eq (HandSHeadRun.getT_eq s)
theorem run (w : World) : HandSHeadRun.RunEq R (PySem.W.view R.prog [16]) hk ob 6000 names w := by
  intro os
  kernel_rfl
theorem top_of {K : PySem.W.Frag} {h : Heap} {mg : Str → Option Value} (X : K.In h) (G : h.Ns mainGlobals mg) (c : Hk.Says fa fn K) : Top K mg :=
  ⟨He.glo_ok X G (c.fact 0), He.glo_ok X G (c.fact 1), He.glo_ok X G (c.fact 2), He.glo_ok X G (c.fact 3), He.glo_ok X G (c.fact 4), He.glo_ok X G (c.fact 5), He.glo_ok X G (c.fact 6), He.glo_ok X G (c.fact 7), He.glo_ok X G (c.fact 8), He.free_ok X G (c.fact 9), He.free_ok X G (c.fact 10), He.free_ok X G (c.fact 11), He.free_ok X G (c.fact 12), He.free_ok X G (c.fact 13), He.free_ok X G (c.fact 14), He.free_ok X G (c.fact 15), He.free_ok X G (c.fact 16), He.free_ok X G (c.fact 17), He.free_ok X G (c.fact 18), He.free_ok X G (c.fact 19), (by obtain ⟨t, h⟩ := He.int_ok X G (c.fact 20); exact ⟨_, h, t, rfl⟩), He.glo_ok X G (c.fact 21), He.cls_ok (c.fact 22), He.noat_ok (c.fact 23), He.noat_ok (c.fact 24), He.mkr_ok (c.fact 25), Hk.propB_ok (c.fact 26), He.meth_ok (c.fact 27), He.meth_ok (c.fact 28), He.meth_ok (c.fact 29), Hk.insB_ok (c.fact 30), c.fact 31, c.fact 32, Hk.kitBB_ok (c.fact 33), Hk.kitBB_ok (c.fact 34), Hk.kitBB_ok (c.fact 35), Hk.kitBB_ok (c.fact 36), Hk.kitBB_ok (c.fact 37), Hk.kitBB_ok (c.fact 38), Hk.kitTB_ok (c.fact 39), Hk.kitTB_ok (c.fact 40), Hk.kitCB_ok (c.fact 41), c.def_ 0, c.def_ 1, c.def_ 2, c.def_ 3, c.def_ 4, c.def_ 5, c.def_ 6, c.def_ 7, c.def_ 8, c.def_ 9, c.def_ 10, c.def_ 11, c.def_ 12, c.def_ 13⟩

end K04
open PySem PySem.W PySem.Calls PyProof.Rows
set_option maxHeartbeats 0
theorem PySem.Challenge.cw_devicewindows_k04_segments_by_greed_holds : PySem.Challenge.rw_devicewindows_k04_segments_by_greed.Holds := by
  w_on; o_law
  refine HandSHeadRun.head_any (r := OpenLaw.row PySem.Challenge.rw_devicewindows_k04_segments_by_greed) (q := view (OpenLaw.row PySem.Challenge.rw_devicewindows_k04_segments_by_greed).prog [16]) (H := K04.hk) (ob := K04.ob) (M := 6000) (loose := K04.names) (d := HandSHeadRun.topDef (OpenLaw.row PySem.Challenge.rw_devicewindows_k04_segments_by_greed).prog 16) (kwd := []) K04.ob_eq
    (by kernel_rfl) (fun s => by kernel_rfl) K04.run (by kernel_rfl) (by kernel_rfl) (by kernel_rfl) (by rfl) (by first | assumption | decide +kernel) (by decide +kernel) ⟨rfl, rfl, rfl, rfl, rfl, by decide +kernel⟩ ?hw ?hc
  case hw => w_witness2
  case hc =>
    refine L2.walk_ofE (l := PySem.Challenge.rw_devicewindows_k04_segments_by_greed) (n := 63) (k := 11) (x := "_law_script") (CX := C8.CX0) rfl (by decide) (by kernel_rfl) ⟨rfl, by decide, by decide⟩ ?F (fun _ _ _ _ z => z)
    intro w mg fa h Y G hmg0
    obtain ⟨K, KX, c⟩ := Y
    have hmg : mg ("law" : PySem.Str) = some (.ref fa) := by
      have e : (HandSHeadRun.topDef (OpenLaw.row PySem.Challenge.rw_devicewindows_k04_segments_by_greed).prog 16).name = ("law" : PySem.Str) := by kernel_rfl
      rw [← e]
      exact hmg0
    have T := K04.top_of KX G c
    have ea := hmg.symm.trans T.g_law
    cases ea
    obtain ⟨fd, FD⟩ := T.d_law
    have b := L2.FunD.bindsA (ps := ["_law_script"]) FD fun _ _ _ _ _ _ us hl => match us, hl with | [_], _ => rfl
    refine ⟨K, fd, K04.sp_law K, KX, fun s v => b s [v] rfl, fun H a ns hl ho hS => ⟨a, ns, rfl, hS, hl, ho, fun _ => rfl⟩, fun base _ _ => ?_⟩
    exact K04.fnF_law (P := (PySem.Challenge.rw_devicewindows_k04_segments_by_greed).prog) (w := w) (base := base) T FD
