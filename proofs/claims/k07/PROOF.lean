import PyProof.Rows.All
import Wide.All
import OpenK.AllK
import Wide.FinOn
import HandS.Base
import HandS.Call
import HandS.List
import HandS.Comp
import HandS.Ends
import HandS.Dict
import HandS.Iter
import HandS.Text
import HandS.Words
import HandS.WordsList
import HandS.More
import HandS.Codes
import HandS.Defaults
import HandS.Property
import HandS.WordsDict
import HandS.ClsMeth
import HandS.Style
import HandS.HeadHook1
import HandS.HeadHook2
import HandS.HeadEnd
import HandS.Head2
import KE.KStateDown
import PySem.Challenge.RW_devicewindows_k07_lines_cleaned_and_drop
set_option Elab.async false
set_option linter.all false
set_option maxRecDepth 100000
set_option maxHeartbeats 4000000
namespace Z
open PySem PySem.Spec PyProof.Rows L2

/-! ### weaker readings -/
section
variable {X : Cx} {e : Expr}
theorem pe_imp {t t' : TE} (h : PE X e t) (k : ∀ σ H Q, t' σ H Q → t σ H Q) : PE X e t' := ⟨fun pins s σ H Q I q => h.run pins s σ H Q I (k σ H Q q)⟩
theorem pt_imp {t t' : TT} (h : PT X e t) (k : ∀ σ H Q, t' σ H Q → t σ H Q) : PT X e t' := ⟨fun pins s σ H Q I q => h.run pins s σ H Q I (k σ H Q q)⟩
theorem ps_imp {st : Stmt} {t t' : TS} (h : PS X st t) (k : ∀ D σ H, t' D σ H → t D σ H) : PS X st t' := ⟨fun pins s σ H D I q => h.run pins s σ H D I (k D σ H q)⟩
theorem or_imp {f : Value → Value → Sem Value} {r r' : R2} (h : OpR X f r) (k : ∀ x y H Q, r' x y H Q → r x y H Q) : OpR X f r' := fun pins s σ H x y v u Q I rx ry q => h pins s σ H x y v u Q I rx ry (k x y H Q q)
theorem or_or {f : Value → Value → Sem Value} {r r' : R2} (h : OpR X f r) (h' : OpR X f r') : OpR X f (fun x y H Q => r x y H Q ∨ r' x y H Q) := fun pins s σ H x y v u Q I rx ry q => q.elim (h pins s σ H x y v u Q I rx ry) (h' pins s σ H x y v u Q I rx ry)
theorem cr_imp {f : Value} {r r' : List V → Hp → VK → Prop} (h : CallR X f r) (k : ∀ xs H Q, r' xs H Q → r xs H Q) : CallR X f r' := fun pins s σ H xs us Q I rv q => h pins s σ H xs us Q I rv (k xs H Q q)
theorem cr_or {f : Value} {r r' : List V → Hp → VK → Prop} (h : CallR X f r) (h' : CallR X f r') : CallR X f (fun xs H Q => r xs H Q ∨ r' xs H Q) := fun pins s σ H xs us Q I rv q => q.elim (h pins s σ H xs us Q I rv) (h' pins s σ H xs us Q I rv)
theorem ix_imp {r r' : R2} (h : IxR X r) (k : ∀ x y H Q, r' x y H Q → r x y H Q) : IxR X r' := fun value slice pins s σ H x y v u Q I rx ry q hs => h value slice pins s σ H x y v u Q I rx ry (k x y H Q q) hs
theorem set_imp {t t' : TSet} (h : PSet X t) (k : ∀ o i v H Q, t' o i v H Q → t o i v H Q) : PSet X t' := fun pins s σ H o i v ov iv u Q I ro ri rv q => h pins s σ H o i v ov iv u Q I ro ri rv (k o i v H Q q)
theorem mt_imp {id : String} {r r' : V → List V → Hp → VK → Prop} (h : MtR X id r) (k : ∀ x xs H Q, r' x xs H Q → r x xs H Q) : MtR X id r' := fun pins s σ H x xs v us Q I rx rs q => h pins s σ H x xs v us Q I rx rs (k x xs H Q q)
end

/-! ### names -/
def zV (i : Nat) : TE := fun σ H Q => match σ[i]? with
  | some (some v) => Q v H
  | _ => False
theorem pz {X : Cx} (i : Nat) {x : Str} {pos : Pos} (hN : X.N[i]? = some x := by rfl) (hv : Vis X.env.scope x := by first | exact Or.inl rfl | exact Or.inr (Or.inl rfl) | exact Or.inr (Or.inr rfl)) (hd : (x == ("__debug__" : Str)) = false := by decide)
    (hcd : (x == ("__classdict__" : Str)) = false := by decide) : PE X (.Name x pos) (zV i) := pe_imp (pe_var hN hv hd hcd) fun σ H Q q => by
  unfold zV at q
  split at q
  · exact ⟨_, by assumption, q⟩
  · exact q.elim

/-! ### operators on values -/
def yAdd : R2 := fun x y H Q => match x, y with
  | .int i, .int j => Q (.int (i + j)) H
  | .str a, .str b => a.length + b.length ≤ sizeLine ∧ Q (.str (a ++ b)) H
  | .ref p, .ref q => (match H p, H q with
    | some (.lst xs), some (.lst ys) => xs.length + ys.length ≤ sizeLine ∧ ∀ l, H l = none → Q (.ref l) (upd H l (.lst (xs ++ ys)))
    | _, _ => False)
  | _, _ => False
def ySub : R2 := fun x y H Q => match x, y with
  | .int i, .int j => Q (.int (i - j)) H
  | _, _ => False
def yMul : R2 := fun x y H Q => match x, y with
  | .int i, .int j => CMul i j ∧ Q (.int (i * j)) H
  | .ref p, .int k => (match H p with
    | some (.lst xs) => (-(2 ^ 63) ≤ k ∧ k < 2 ^ 63 ∧ xs.length * k.toNat ≤ sizeLine) ∧ ∀ l, H l = none → Q (.ref l) (upd H l (.lst ((List.replicate k.toNat xs).flatten)))
    | _ => False)
  | _, _ => False
def yDiv : R2 := fun x y H Q => match x, y with
  | .int i, .int j => (0 < j ∧ j < 1073741824) ∧ Q (.int (i / j)) H
  | _, _ => False
def yMod : R2 := fun x y H Q => match x, y with
  | .int i, .int j => 0 < j ∧ Q (.int (i % j)) H
  | _, _ => False
def yPow : R2 := fun x y H Q => match x, y with
  | .int i, .int j => CPow i j ∧ Q (.int (i ^ j.toNat)) H
  | _, _ => False
def yNeg : V → Hp → VK → Prop := fun x H Q => match x with
  | .int i => Q (.int (-i)) H
  | _ => False
def yLt : R2 := fun x y H Q => match x, y with
  | .int i, .int j => Q (.bl (decide (i < j))) H
  | _, _ => False
def yLe : R2 := fun x y H Q => match x, y with
  | .int i, .int j => Q (.bl (decide (i ≤ j))) H
  | _, _ => False
def yGt : R2 := fun x y H Q => match x, y with
  | .int i, .int j => Q (.bl (decide (j < i))) H
  | _, _ => False
def yGe : R2 := fun x y H Q => match x, y with
  | .int i, .int j => Q (.bl (decide (j ≤ i))) H
  | _, _ => False
/-- == of scalars; of data at addresses -/
def yEq (K : PySem.W.Frag) : R2 := fun x y H Q => match x, y with
  | .int i, .int j => Q (.bl (decide (i = j))) H
  | .bl i, .bl j => Q (.bl (decide (i = j))) H
  | .str i, .str j => Q (.bl (decide (i = j))) H
  | .non, .non => Q (.bl true) H
  | .non, .int _ => Q (.bl false) H
  | .int _, .non => Q (.bl false) H
  | .non, .str _ => Q (.bl false) H
  | .str _, .non => Q (.bl false) H
  | .int _, .str _ => Q (.bl false) H
  | .str _, .int _ => Q (.bl false) H
  | _, _ => rEqD K x y H Q
def yNe (K : PySem.W.Frag) : R2 := fun x y H Q => match x, y with
  | .int i, .int j => Q (.bl (!decide (i = j))) H
  | .bl i, .bl j => Q (.bl (!decide (i = j))) H
  | .str i, .str j => Q (.bl (!decide (i = j))) H
  | .non, .non => Q (.bl false) H
  | .non, .int _ => Q (.bl true) H
  | .int _, .non => Q (.bl true) H
  | .non, .str _ => Q (.bl true) H
  | .str _, .non => Q (.bl true) H
  | .int _, .str _ => Q (.bl true) H
  | .str _, .int _ => Q (.bl true) H
  | _, _ => rNeD K x y H Q
def yIs0 : R2 := fun x y H Q => y = .non ∧ Q (.bl (decide (x = .non))) H
def yNotIs0 : R2 := fun x y H Q => y = .non ∧ Q (.bl (!decide (x = .non))) H

section
variable {X : Cx}
theorem o_add : OpR X (binaryOp .Add) yAdd := or_imp (or_or op_add (or_or op_add_str op_cat)) fun x y H Q q => by
  unfold yAdd at q
  split at q
  · exact .inl ⟨_, _, rfl, rfl, q⟩
  · exact .inr (.inl ⟨_, _, rfl, rfl, q.1, q.2⟩)
  · rename_i p r
    cases h1 : H p with
    | none => rw [h1] at q; exact q.elim
    | some o1 =>
      cases h2 : H r with
      | none => rw [h1, h2] at q; cases o1 <;> exact q.elim
      | some o2 =>
        rw [h1, h2] at q
        cases o1 <;> cases o2 <;> first | exact q.elim | exact .inr (.inr ⟨_, _, _, _, rfl, rfl, h1, h2, q.1, q.2⟩)
  · exact q.elim
theorem o_sub : OpR X (binaryOp .Sub) ySub := or_imp op_sub fun x y H Q q => by
  unfold ySub at q; split at q
  · exact ⟨_, _, rfl, rfl, q⟩
  · exact q.elim
theorem o_mul : OpR X (binaryOp .Mult) yMul := or_imp (or_or op_mul op_rep) fun x y H Q q => by
  unfold yMul at q; split at q
  · exact .inl ⟨_, _, rfl, rfl, q.1, q.2⟩
  · rename_i p k
    cases h1 : H p with
    | none => rw [h1] at q; exact q.elim
    | some o1 =>
      rw [h1] at q
      cases o1 with
      | lst xs => exact .inr ⟨_, _, _, rfl, rfl, h1, q.1.1, q.1.2.1, q.1.2.2, q.2⟩
      | _ => exact q.elim
  · exact q.elim
theorem o_div : OpR X (binaryOp .FloorDiv) yDiv := or_imp op_fdiv fun x y H Q q => by
  unfold yDiv at q; split at q
  · exact ⟨_, _, rfl, rfl, q.1, q.2⟩
  · exact q.elim
theorem o_mod : OpR X (binaryOp .Mod) yMod := or_imp op_mod fun x y H Q q => by
  unfold yMod at q; split at q
  · exact ⟨_, _, rfl, rfl, q.1, q.2⟩
  · exact q.elim
theorem o_pow : OpR X (binaryOp .Pow) yPow := or_imp op_pow fun x y H Q q => by
  unfold yPow at q; split at q
  · exact ⟨_, _, rfl, rfl, q.1, q.2⟩
  · exact q.elim
theorem u_neg : UnR X (unaryOp .USub) yNeg := fun pins s σ H x v Q I rx q => un_neg pins s σ H x v Q I rx (by
  unfold yNeg at q; split at q
  · exact ⟨_, rfl, q⟩
  · exact q.elim)
theorem o_lt : OpR X (compareOp .Lt) yLt := or_imp op_lt fun x y H Q q => by
  unfold yLt at q; split at q
  · exact ⟨_, _, rfl, rfl, q⟩
  · exact q.elim
theorem o_le : OpR X (compareOp .LtE) yLe := or_imp op_le fun x y H Q q => by
  unfold yLe at q; split at q
  · exact ⟨_, _, rfl, rfl, q⟩
  · exact q.elim
theorem o_gt : OpR X (compareOp .Gt) yGt := or_imp op_gt fun x y H Q q => by
  unfold yGt at q; split at q
  · exact ⟨_, _, rfl, rfl, q⟩
  · exact q.elim
theorem o_ge : OpR X (compareOp .GtE) yGe := or_imp op_ge fun x y H Q q => by
  unfold yGe at q; split at q
  · exact ⟨_, _, rfl, rfl, q⟩
  · exact q.elim
theorem o_eq (hu : X.A.units + 64 < cLine) : OpR X (compareOp .Eq) (yEq X.K) := or_imp (or_or op_eq (op_eqD hu)) fun x y H Q q => by
  unfold yEq at q
  split at q <;> first | exact .inr q | exact .inl ⟨rfl, by simpa using q⟩
theorem o_ne (hu : X.A.units + 64 < cLine) : OpR X (compareOp .NotEq) (yNe X.K) := or_imp (or_or op_ne (op_neD hu)) fun x y H Q q => by
  unfold yNe at q
  split at q <;> first | exact .inr q | exact .inl ⟨rfl, by simpa using q⟩
theorem o_is0 : OpR X (compareOp .Is) yIs0 := op_isN
theorem o_isnot0 : OpR X (compareOp .IsNot) yNotIs0 := op_notN
end

/-! ### a reading, closed under what follows -/
def up (t : TE) : TE := fun σ H Q => ∃ Q0 : VK, (∀ v H', Q0 v H' → Q v H') ∧ t σ H Q0
def upT (t : TT) : TT := fun σ H Q => ∃ Q0 : Bool → Hp → Prop, (∀ v H', Q0 v H' → Q v H') ∧ t σ H Q0
def upA (t : TA) : TA := fun σ H Q => ∃ Q0 : List V → Hp → Prop, (∀ v H', Q0 v H' → Q v H') ∧ t σ H Q0
def upR (r : R2) : R2 := fun x y H Q => ∃ Q0 : VK, (∀ v H', Q0 v H' → Q v H') ∧ r x y H Q0
section
variable {X : Cx} {e : Expr}
theorem pe_up {t : TE} (h : PE X e t) : PE X e (up t) := ⟨fun pins s σ H Q I ⟨Q0, k, q⟩ => thn (h.run pins s σ H Q0 I q) fun u s' ⟨v, H', I', r, q'⟩ => ⟨v, H', I', r, k v H' q'⟩⟩
theorem pt_up {t : TT} (h : PT X e t) : PT X e (upT t) := ⟨fun pins s σ H Q I ⟨Q0, k, q⟩ => thn (h.run pins s σ H Q0 I q) fun u s' ⟨H', I', q'⟩ => ⟨H', I', k u H' q'⟩⟩
theorem pa_up {es : List Expr} {t : TA} (h : PA X es t) : PA X es (upA t) := ⟨fun pos pins s σ H Q I ⟨Q0, k, q⟩ => thn (h.run pos pins s σ H Q0 I q) fun u s' ⟨v, H', I', r, q'⟩ => ⟨v, H', I', r, k v H' q'⟩⟩
theorem or_up {f : Value → Value → Sem Value} {r : R2} (h : OpR X f r) : OpR X f (upR r) := fun pins s σ H x y v u Q I rx ry ⟨Q0, k, q⟩ => thn (h pins s σ H x y v u Q0 I rx ry q) fun w s' ⟨z, H', I', rz, q'⟩ => ⟨z, H', I', rz, k z H' q'⟩
end

/-! ### tests -/
def zB (t : TE) : TT := fun σ H Q => t σ H fun x H' => match x with
  | .bl k => Q k H'
  | _ => False
section
variable {X : Cx} {a b c e : Expr} {ta tb tc t : TE} {pos : Pos}
theorem zB_imp {t : TE} {σ : L2.St} {H : Hp} {Q : Bool → Hp → Prop} (q : zB t σ H Q) : L2.tB (up t) σ H Q := ⟨_, fun v H' q => by
  split at q
  · exact ⟨_, rfl, q⟩
  · exact q.elim, q⟩
/-- a comparison as a test -/
theorem t_cmp {op : CmpOp} {r : R2} (ho : OpR X (compareOp op) r) (ha : PE X a ta) (hb : PE X b tb) (hm : behindInMarks op b = false) : PT X (.Compare a [op] [b] pos) (zB (tOp r ta tb)) :=
  pt_imp (pt_cmpR (or_up ho) (pe_up ha) (pe_up hb) hm) fun σ H Q q => ⟨_, fun x H1 q => ⟨_, fun y H2 q => ⟨_, fun z H3 q => by
    split at q
    · exact ⟨_, rfl, q⟩
    · exact q.elim, q⟩, q⟩, q⟩
/-- a value that is a bool, as a test -/
theorem t_val (h : PE X e t) (he : ∀ whole, isTrue e X.env whole = (do let v ← whole; standAt e.pos; holding [v] (truthy v)) := by intro _; rfl) : PT X e (zB t) :=
  pt_imp (pt_val (pe_up h) he) fun _ _ _ q => zB_imp q
/-- a op b op c -/
def zChain (r r' : R2) (ta tb tc : TE) : TE := fun σ H Q => ta σ H fun x H1 => tb σ H1 fun y H2 => r x y H2 fun z H3 => match z with
  | .bl k => (if k = true then tc σ H3 fun w' H4 => r' y w' H4 Q else Q (.bl false) H3)
  | _ => False
theorem zChain_imp {r r' : R2} {σ : L2.St} {H : Hp} {Q : VK} (q : zChain r r' ta tb tc σ H Q) : tChain (upR r) r' (up ta) (up tb) tc σ H Q := ⟨_, fun x H1 q => ⟨_, fun y H2 q => ⟨_, fun z H3 q => by
    split at q
    · exact ⟨_, rfl, q⟩
    · exact q.elim, q⟩, q⟩, q⟩
theorem e_chain {op op' : CmpOp} {r r' : R2} (ho : OpR X (compareOp op) r) (ho' : OpR X (compareOp op') r') (ha : PE X a ta) (hb : PE X b tb) (hc : PE X c tc)
    (hm : lastMarks [op, op'] [b, c] = false := by with_unfolding_all rfl) : PE X (.Compare a [op, op'] [b, c] pos) (zChain r r' ta tb tc) :=
  pe_imp (pe_chain (or_up ho) ho' (pe_up ha) (pe_up hb) hc hm) fun _ _ _ q => zChain_imp q
theorem t_chain {op op' : CmpOp} {r r' : R2} (ho : OpR X (compareOp op) r) (ho' : OpR X (compareOp op') r') (ha : PE X a ta) (hb : PE X b tb) (hc : PE X c tc)
    (hm : lastMarks [op, op'] [b, c] = false := by with_unfolding_all rfl) : PT X (.Compare a [op, op'] [b, c] pos) (zB (zChain r r' ta tb tc)) :=
  pt_imp (pt_chain (or_up ho) (or_up ho') (pe_up ha) (pe_up hb) (pe_up hc) hm) fun σ H Q q => ⟨_, fun x H1 q => ⟨_, fun y H2 q => ⟨_, fun z H3 q => by
    split at q
    · rename_i k
      refine ⟨k, rfl, ?_⟩
      cases k with
      | true =>
        rw [if_pos rfl] at q ⊢
        exact ⟨_, fun w H4 q => ⟨_, fun z2 H5 q => by
          split at q
          · exact ⟨_, rfl, q⟩
          · exact q.elim, q⟩, q⟩
      | false =>
        rw [if_neg Bool.false_ne_true] at q ⊢
        exact ⟨_, rfl, q⟩
    · exact q.elim, q⟩, q⟩, q⟩
def zAnd (ta tb : TE) : TE := fun σ H Q => ta σ H fun x H1 => match x with
  | .bl c => (if c = true then tb σ H1 Q else Q (.bl false) H1)
  | _ => False
def zOr (ta tb : TE) : TE := fun σ H Q => ta σ H fun x H1 => match x with
  | .bl c => (if c = true then Q (.bl true) H1 else tb σ H1 Q)
  | _ => False
def zNot (ta : TE) : TE := fun σ H Q => ta σ H fun x H1 => match x with
  | .bl c => Q (.bl (!c)) H1
  | _ => False
variable {rest : List Expr}
theorem e_and (ha : PE X a ta) (hb : PE X (.BoolOp .And (b :: rest) pos) tb) : PE X (.BoolOp .And (a :: b :: rest) pos) (zAnd ta tb) :=
  pe_imp (pe_and (pe_up ha) hb) fun σ H Q q => ⟨_, fun v H' q => by
    split at q
    · exact ⟨_, rfl, q⟩
    · exact q.elim, q⟩
theorem e_or (ha : PE X a ta) (hb : PE X (.BoolOp .Or (b :: rest) pos) tb) : PE X (.BoolOp .Or (a :: b :: rest) pos) (zOr ta tb) :=
  pe_imp (pe_or (pe_up ha) hb) fun σ H Q q => ⟨_, fun v H' q => by
    split at q
    · exact ⟨_, rfl, q⟩
    · exact q.elim, q⟩
theorem e_not (ha : PE X a ta) : PE X (.UnaryOp .Not a pos) (zNot ta) :=
  pe_imp (pe_not (pe_up ha)) fun σ H Q q => ⟨_, fun v H' q => by
    split at q
    · exact ⟨_, rfl, q⟩
    · exact q.elim, q⟩
end

/-! ### what stands at an address: a list or tuple that is read -/
def sqAt (K : PySem.W.Frag) (H : Hp) (p : Addr) (R : List V → Prop) : Prop := match H p with
  | some (.lst xs) => R xs
  | some (.tup xs) => R xs
  | _ => ∃ xs, (SqL K H p xs ∨ SqT K H p xs) ∧ R xs
theorem sqAt_ok {K : PySem.W.Frag} {H : Hp} {p : Addr} {R : List V → Prop} (h : sqAt K H p R) : ∃ xs, (SqL K H p xs ∨ SqT K H p xs) ∧ R xs := by
  unfold sqAt at h
  split at h
  · exact ⟨_, .inl (SqL.of (by assumption)), h⟩
  · exact ⟨_, .inr (SqT.of (by assumption)), h⟩
  · exact h
theorem sqAt_l {K : PySem.W.Frag} {H : Hp} {p : Addr} {R : List V → Prop} {xs : List V} (h : H p = some (.lst xs)) : sqAt K H p R = R xs := by unfold sqAt; rw [h]
theorem sqAt_t {K : PySem.W.Frag} {H : Hp} {p : Addr} {R : List V → Prop} {xs : List V} (h : H p = some (.tup xs)) : sqAt K H p R = R xs := by unfold sqAt; rw [h]
theorem sqAt_of {K : PySem.W.Frag} {H : Hp} {p : Addr} {R : List V → Prop} {xs : List V} (h : SqL K H p xs) (hn : ∀ ys, H p ≠ some (.lst ys)) (hm : ∀ ys, H p ≠ some (.tup ys)) (r : R xs) : sqAt K H p R := by
  unfold sqAt
  split
  · exact absurd (by assumption) (hn _)
  · exact absurd (by assumption) (hm _)
  · exact ⟨xs, .inl h, r⟩

/-! ### a[b] -/
def isNone {α : Type} (o : Option α) (Q : α → Prop) : Prop := match o with
  | some v => Q v
  | none => False
theorem isNone_some {α : Type} {v : α} {Q : α → Prop} : isNone (some v) Q = Q v := rfl
def yIx (K : PySem.W.Frag) : R2 := fun x y H Q => match x, y with
  | .ref p, .int i => (match H p with
    | some (.dK kvs) => isNone (valV kvs (Sum.inl i)) fun v => Q v H
    | _ => sqAt K H p fun xs => isNone (atI xs i) fun v => Q v H)
  | .ref p, .str k => (match H p with
    | some (.dK kvs) => isNone (valV kvs (Sum.inr k)) fun v => Q v H
    | _ => False)
  | .str z, .int i => z.length ≤ sizeLine ∧ isNone (atI z.cps.toList i) fun c => Q (.str ⟨#[c]⟩) H
  | _, _ => False
theorem isNone_ok {α : Type} {o : Option α} {Q : α → Prop} (h : isNone o Q) : ∃ v, o = some v ∧ Q v := by
  cases o with
  | none => exact h.elim
  | some v => exact ⟨v, rfl, h⟩
section
variable {X : Cx} {a b : Expr} {ta tb : TE} {pos : Pos}
theorem ix_dict (hu : X.A.units + 1 < cLine) : IxR X (fun x y H Q => ∃ p v, x = .ref p ∧ DGet H p y (some v) ∧ Q v H) := by
  intro value slice pins s σ H x y v u Q I rx ry h hs
  obtain ⟨p, w, rfl, g, q⟩ := h
  cases rx
  exact tail_any (dict_typeIs I g) PySem.F.slot_dict_getitem.lookup (d_getItem hu I g ry fun w' s3 I3 rw' => ⟨w, H, I3, rw', q⟩) hs
theorem ix_any (hu : X.A.units + 1 < cLine) : IxR X (yIx X.K) := ix_imp ((ix_list.or ix_tup).or (ix_str.or (ix_dict hu))) fun x y H Q q => by
  unfold yIx at q
  split at q
  · rename_i p i
    split at q
    · rename_i kvs hp
      obtain ⟨v, hv, q⟩ := isNone_ok q
      exact .inr (.inr ⟨p, v, rfl, by rw [← hv]; exact DGet.k (k := Sum.inl i) hp, q⟩)
    · obtain ⟨xs, hx, q⟩ := sqAt_ok q
      obtain ⟨v, hv, q⟩ := isNone_ok q
      rcases hx with hx | hx
      · exact .inl (.inl ⟨p, xs, i, v, rfl, rfl, hx, hv, q⟩)
      · exact .inl (.inr ⟨p, xs, i, v, rfl, rfl, hx, hv, q⟩)
  · rename_i p k
    split at q
    · rename_i kvs hp
      obtain ⟨v, hv, q⟩ := isNone_ok q
      exact .inr (.inr ⟨p, v, rfl, by rw [← hv]; exact DGet.k (k := Sum.inr k) hp, q⟩)
    · exact q.elim
  · rename_i z i
    obtain ⟨v, hv, q2⟩ := isNone_ok q.2
    exact .inr (.inl ⟨z, i, v, rfl, rfl, q.1, hv, q2⟩)
  · exact q.elim
theorem e_ix (hu : X.A.units + 1 < cLine) (ha : PE X a ta) (hb : PE X b tb) (hs : PlainIx b) : PE X (.Subscript a b pos) (tOp (yIx X.K) ta tb) := pe_ix (ix_any hu) ha hb hs
end

/-! ### a[b] = c -/
def ySet : V → V → V → Hp → (Hp → Prop) → Prop := fun o i v H Q => match o, i with
  | .ref p, .int k => (match H p with
    | some (.lst xs) => isNone (ixN xs.length k) fun j => Q (upd H p (.lst (xs.set j v)))
    | some (.dK kvs) => kvs.length < sizeLine ∧ Q (upd H p (.dK (putK kvs (Sum.inl k) v)))
    | _ => False)
  | .ref p, .str k => (match H p with
    | some (.dK kvs) => kvs.length < sizeLine ∧ Q (upd H p (.dK (putK kvs (Sum.inr k) v)))
    | _ => False)
  | _, _ => False
theorem set_any {X : Cx} (hu : X.A.units + 1 < cLine) : PSet X ySet := by
  intro pins s σ H o i v ov iv u Q I ro ri rv q
  unfold ySet at q
  split at q
  · rename_i p k
    split at q
    · rename_i xs hp
      obtain ⟨j, hj, q⟩ := isNone_ok q
      exact set_list pins s σ H _ _ v ov iv u Q I ro ri rv ⟨p, xs, k, j, rfl, rfl, hp, hj, q⟩
    · rename_i kvs hp
      cases ro
      exact d_setItem hu I (DPut.k (k := Sum.inl k) hp q.1) ri rv fun s' I' => ⟨_, I', q.2⟩
    · exact q.elim
  · rename_i p k
    split at q
    · rename_i kvs hp
      cases ro
      exact d_setItem hu I (DPut.k (k := Sum.inr k) hp q.1) ri rv fun s' I' => ⟨_, I', q.2⟩
    · exact q.elim
  · exact q.elim

/-! ### in, not in -/
def yIn (K : PySem.W.Frag) (neg : Bool) : R2 := fun x y H Q => match y with
  | .ref p => (match H p with
    | some (.dK kvs) => (match x with
      | .int i => Q (.bl (if neg then !(valV kvs (Sum.inl i)).isSome else (valV kvs (Sum.inl i)).isSome)) H
      | .str i => Q (.bl (if neg then !(valV kvs (Sum.inr i)).isSome else (valV kvs (Sum.inr i)).isSome)) H
      | _ => False)
    | _ => sqAt K H p fun xs => flatV x = true ∧ xs.all flatV = true ∧ Q (.bl (if neg then !inV x xs else inV x xs)) H)
  | _ => False
section
variable {X : Cx}
theorem o_in (hu : X.A.units + 1 < cLine) : OpR X (compareOp .In) (yIn X.K false) := by
  intro pins s σ H x y v u Q I rx ry q
  unfold yIn at q
  split at q
  · rename_i p
    split at q
    · rename_i kvs hp
      cases ry
      split at q
      · rename_i i
        exact d_in hu I (DGet.k (k := Sum.inl i) hp) rx fun s3 I3 => ⟨.bl _, H, I3, rfl, q⟩
      · rename_i i
        exact d_in hu I (DGet.k (k := Sum.inr i) hp) rx fun s3 I3 => ⟨.bl _, H, I3, rfl, q⟩
      · exact q.elim
    · obtain ⟨xs, hx, q1, q2, q⟩ := sqAt_ok q
      exact op_in_seq pins s σ H x _ v u Q I rx ry ⟨p, xs, rfl, hx, q1, q2, q⟩
  · exact q.elim
theorem o_notin (hu : X.A.units + 1 < cLine) : OpR X (compareOp .NotIn) (yIn X.K true) := by
  intro pins s σ H x y v u Q I rx ry q
  unfold yIn at q
  split at q
  · rename_i p
    split at q
    · rename_i kvs hp
      cases ry
      split at q
      · rename_i i
        exact d_notIn hu I (DGet.k (k := Sum.inl i) hp) rx fun s3 I3 => ⟨.bl _, H, I3, rfl, q⟩
      · rename_i i
        exact d_notIn hu I (DGet.k (k := Sum.inr i) hp) rx fun s3 I3 => ⟨.bl _, H, I3, rfl, q⟩
      · exact q.elim
    · obtain ⟨xs, hx, q1, q2, q⟩ := sqAt_ok q
      exact op_notIn_seq pins s σ H x _ v u Q I rx ry ⟨p, xs, rfl, hx, q1, q2, q⟩
  · exact q.elim
end

/-! ### fields and methods -/
def insAt (H : Hp) (x : V) (R : Addr → Addr → Addr → List (Str × V) → Prop) : Prop := match x with
  | .ref a => (match H a with
    | some (.ins C dx fs) => R a C dx fs
    | _ => False)
  | _ => False
theorem insAt_ok {H : Hp} {x : V} {R : Addr → Addr → Addr → List (Str × V) → Prop} (h : insAt H x R) : ∃ a C dx fs, x = .ref a ∧ H a = some (.ins C dx fs) ∧ R a C dx fs := by
  unfold insAt at h
  split at h
  · split at h
    · exact ⟨_, _, _, _, rfl, by assumption, h⟩
    · exact h.elim
  · exact h.elim
def zFld (K : PySem.W.Frag) (ta : TE) (f : Str) : TE := fun σ H Q => ta σ H fun x H1 => insAt H1 x fun a C dx fs => (Cls K C ∧ NoAttr K C f) ∧ isNone (fs.lookup f) fun v => Q v H1
def zSetF (K : PySem.W.Frag) (ta tv : TE) (f : Str) : TS := fun D σ H => tv σ H fun y H1 => ta σ H1 fun x H2 => insAt H2 x fun a C dx fs => (Cls K C ∧ NoAttr K C f ∧ fs.length < 1000) ∧ D.nx σ (upd H2 a (.ins C dx (putF f y fs)))
def zMeth (C : Addr) (m : Str) (sp : Sp) (dvs : List V) (E : XK) (ta : TE) (t : TA) : TE := fun σ H Q => ta σ H fun x H1 => insAt H1 x fun a C' dx fs => (C' = C ∧ fs.lookup m = none) ∧ t σ H1 fun vs H2 => sp (x :: (vs ++ dvs)) H2 Q E
section
variable {X : Cx} {e o value : Expr} {ta tv : TE} {f : Str} {pos pos' : Pos}
theorem e_fld (he : PE X e ta) (hb : attributeBase e f X.env (eval e X.env) = eval e X.env) : PE X (.Attribute e f pos) (zFld X.K ta f) :=
  pe_imp (pe_fld (pe_up he) hb) fun σ H Q q => ⟨_, fun x H1 q => by
    obtain ⟨a, C, dx, fs, rfl, ha, ⟨q1, q2⟩, q⟩ := insAt_ok q
    obtain ⟨v, hv, q⟩ := isNone_ok q
    exact ⟨a, C, dx, fs, v, rfl, ha, q1, q2, hv, q⟩, q⟩
theorem s_fld (ha : PE X o ta) (hv : PE X value tv) (hs : swapsWith value (some (.Attribute o f pos')) pos.line X.env = pure false) : PS X (.Assign [.Attribute o f pos'] value pos) (zSetF X.K ta tv f) :=
  ps_imp (ps_fld (pe_up ha) (pe_up hv) hs) fun D σ H q => ⟨_, fun y H1 q => ⟨_, fun x H2 q => by
    obtain ⟨a, C, dx, fs, rfl, ha, ⟨q1, q2, q3⟩, q⟩ := insAt_ok q
    exact ⟨a, C, dx, fs, rfl, ha, q1, q2, q3, q⟩, q⟩, q⟩
variable {k j : Nat} {C : Addr} {m : Str} {sp : Sp} {dvs : List V} {apos : Pos} {es : List Expr} {t : TA}
theorem e_mt {pl : Sem Bool} (c : C8.Met X.prog X.w X.K X.mg X.base k C m sp dvs) (hr : Room j X.A) (hk : k ≤ j) (he : PE X o ta) (ha : PA X (e :: es) t)
    (hst : starEach (e :: es) X.env = (false, eval e X.env) :: starEach es X.env := by rfl) (hpl : (backTo pos (starEach es X.env)).any (·.1) = false := by rfl)
    (ht : eval (.Call (.Attribute o m apos) (e :: es) [] pos) X.env = (do
      let ov ← eval o X.env
      standAt apos.atName
      let (f, first) ← holding [ov] (getMethod ov m pl)
      callWith pos f first (backTo pos (starEach (e :: es) X.env)) (backToKw pos (keywordEach [] X.env))) := by rfl) :
    PE X (.Call (.Attribute o m apos) (e :: es) [] pos) (zMeth C m sp dvs C8.E0 ta t) :=
  pe_imp (C8.pe_mt (pl := pl) c hr hk (pe_up he) ha hst hpl ht) fun σ H Q q => ⟨_, fun x H1 q => by
    obtain ⟨a, C', dx, fs, ex, ha, ⟨ec, q2⟩, q3⟩ := insAt_ok q
    subst ec
    exact ⟨a, dx, fs, ex, ha, q2, q3⟩, q⟩
theorem e_mt0 {pl : Sem Bool} (c : C8.Met X.prog X.w X.K X.mg X.base k C m sp dvs) (hr : Room j X.A) (hk : k ≤ j) (he : PE X o ta)
    (ht : eval (.Call (.Attribute o m apos) [] [] pos) X.env = (do
      let ov ← eval o X.env
      standAt apos.atName
      let (f, first) ← holding [ov] (getMethod ov m pl)
      callWith pos f first (backTo pos (starEach [] X.env)) (backToKw pos (keywordEach [] X.env))) := by rfl) :
    PE X (.Call (.Attribute o m apos) [] [] pos) (zMeth C m sp dvs C8.E0 ta tNil) :=
  pe_imp (C8.pe_mt0 (pl := pl) c hr hk (pe_up he) ht) fun σ H Q q => ⟨_, fun x H1 q => by
    obtain ⟨a, C', dx, fs, ex, ha, ⟨ec, q2⟩, q3⟩ := insAt_ok q
    subst ec
    exact ⟨a, dx, fs, ex, ha, q2, q3⟩, q⟩
end

/-! ### built-in functions -/
def yLen (K : PySem.W.Frag) : List V → Hp → VK → Prop := fun vs H Q => match vs with
  | [.ref p] => (match H p with
    | some (.dK kvs) => Q (.int kvs.length) H
    | _ => sqAt K H p fun xs => Q (.int xs.length) H)
  | [.str z] => z.length ≤ sizeLine ∧ Q (.int z.length) H
  | _ => False
/-- len of a list that may be the script -/
def yLenS (K : PySem.W.Frag) : List V → Hp → VK → Prop := fun vs H Q => ∃ p ys, vs = [.ref p] ∧ SqL K H p ys ∧ Q (.int ys.length) H
theorem c_lenS {X : Cx} : CallR X (.builtin "len") (yLenS X.K) := cr_imp call_len_seq fun xs H Q q => by
  obtain ⟨p, ys, rfl, h, q⟩ := q
  exact ⟨p, ys, rfl, .inl h, q⟩
def yAbs : List V → Hp → VK → Prop := fun vs H Q => match vs with
  | [.int i] => Q (.int (if i < 0 then -i else i)) H
  | _ => False
def yMax2 : List V → Hp → VK → Prop := fun vs H Q => match vs with
  | [.int i, .int j] => Q (.int (if j > i then j else i)) H
  | _ => False
def yMin2 : List V → Hp → VK → Prop := fun vs H Q => match vs with
  | [.int i, .int j] => Q (.int (if j < i then j else i)) H
  | _ => False
def yList (K : PySem.W.Frag) : List V → Hp → VK → Prop := fun vs H Q => match vs with
  | [.ref p] => sqAt K H p fun xs => ∀ l, H l = none → Q (.ref l) (upd H l (.lst xs))
  | _ => False
def yTuple (K : PySem.W.Frag) : List V → Hp → VK → Prop := fun vs H Q => match vs with
  | [.ref p] => (match H p with
    | some (.lst xs) => ∀ l, H l = none → Q (.ref l) (upd H l (.tup xs))
    | some (.tup _) => Q (.ref p) H
    | _ => False)
  | _ => False
/-- sorted of the int keys of a dict -/
def ySortedKeys : List V → Hp → VK → Prop := fun vs H Q => match vs with
  | [.ref p] => (match H p with
    | some (.dK kvs) => ∃ ks : List Int, kvs.map (·.1) = ks.map Sum.inl ∧ ks.length < 64 ∧ ∀ (ys : List Int) (l : Addr), ys.Perm ks → ys.Pairwise (· ≤ ·) → H l = none → Q (.ref l) (upd H l (.lst (ys.map V.int)))
    | _ => False)
  | _ => False
def yDict0 : List V → Hp → VK → Prop := fun vs H Q => match vs with
  | [] => ∀ p, H p = none → Q (.ref p) (upd H p (.dK []))
  | _ => False
section
variable {X : Cx}
theorem c_len : CallR X (.builtin "len") (yLen X.K) := cr_imp (cr_or call_len call_lenD) fun xs H Q q => by
  unfold yLen at q
  split at q
  · split at q
    · exact .inr ⟨_, _, rfl, by assumption, q⟩
    · obtain ⟨xs, hx, q⟩ := sqAt_ok q
      exact .inl ⟨_, xs.length, rfl, hx.elim (fun h => .inl ⟨xs, h, rfl⟩) (fun h => .inr ⟨xs, h, rfl⟩), q⟩
  · exact .inl ⟨_, _, rfl, ⟨q.1, rfl⟩, q.2⟩
  · exact q.elim
theorem c_abs : CallR X (.builtin "abs") yAbs := cr_imp call_abs fun xs H Q q => by
  unfold yAbs at q; split at q
  · exact ⟨_, rfl, q⟩
  · exact q.elim
theorem c_max2 (hc : X.calm = true) : CallR X (.builtin "max") yMax2 := cr_imp (call_max2 hc) fun xs H Q q => by
  unfold yMax2 at q; split at q
  · exact ⟨_, _, rfl, q⟩
  · exact q.elim
theorem c_min2 (hc : X.calm = true) : CallR X (.builtin "min") yMin2 := cr_imp (call_min2 hc) fun xs H Q q => by
  unfold yMin2 at q; split at q
  · exact ⟨_, _, rfl, q⟩
  · exact q.elim
theorem c_list : CallR X (.type "list") (yList X.K) := cr_imp call_list_of fun xs H Q q => by
  unfold yList at q; split at q
  · obtain ⟨xs, hx, q⟩ := sqAt_ok q
    exact ⟨_, xs, rfl, hx, q⟩
  · exact q.elim
theorem c_tuple : CallR X (.type "tuple") (yTuple X.K) := cr_imp call_tuple_of fun xs H Q q => by
  unfold yTuple at q; split at q
  · split at q
    · exact ⟨_, _, rfl, .inl ⟨SqL.of (by assumption), q⟩⟩
    · exact ⟨_, _, rfl, .inr ⟨SqT.of (by assumption), q⟩⟩
    · exact q.elim
  · exact q.elim
theorem c_sortedKeys (hc : X.calm = true) : CallR X (.builtin "sorted") ySortedKeys := cr_imp (call_sortedDI hc) fun xs H Q q => by
  unfold ySortedKeys at q; split at q
  · split at q
    · obtain ⟨ks, h1, h2, q⟩ := q
      exact ⟨_, _, ks, rfl, .inl (by assumption), h1, h2, q⟩
    · exact q.elim
  · exact q.elim
theorem c_dict0 : CallR X (.type "dict") yDict0 := by
  intro pins s σ H xs us Q I r q
  unfold yDict0 at q
  split at q
  · obtain rfl := Vals.zero r
    exact L2.FK.call_dict0 ⟨.ref s.heap.objs.size, _, I.laid (a := s.heap.objs.size) (o := .dK []) (t' := s.toks) (fun _ _ q => Heap.get?_push_of_some _ q) (Nat.le_refl _) (dk_empty s.heap I.big), rfl, q _ (I.hok.fresh (Nat.le_refl _))⟩
  · exact q.elim
end

/-! ### list methods -/
def isLst (H : Hp) (x : V) : Prop := match x with
  | .ref p => (match H p with
    | some (.lst _) => True
    | _ => False)
  | _ => False
theorem isLst_ok {K : PySem.W.Frag} {H : Hp} {x : V} (h : isLst H x) : tyV K "list" x H := by
  unfold isLst at h
  split at h
  · split at h
    · exact .inl ⟨rfl, _, SqL.of (by assumption)⟩
    · exact h.elim
  · exact h.elim
def yApp : V → List V → Hp → VK → Prop := fun x vs H Q => match x, vs with
  | .ref l, [y] => (match H l with
    | some (.lst xs) => xs.length < sizeLine ∧ Q .non (upd H l (.lst (xs ++ [y])))
    | _ => False)
  | _, _ => False
def zLM (r : V → List V → Hp → VK → Prop) (to : TE) (t : TA) : TE := fun σ H Q => to σ H fun x H1 => isLst H1 x ∧ t σ H1 fun xs H2 => r x xs H2 Q
section
variable {X : Cx} {o e : Expr} {to te : TE} {apos cpos : Pos}
theorem m_app : MtR X "list.append" yApp := mt_imp mt_append fun x xs H Q q => by
  unfold yApp at q
  split at q
  · split at q
    · exact ⟨_, _, _, rfl, rfl, by assumption, q.1, q.2⟩
    · exact q.elim
  · exact q.elim
theorem e_app (ho : PE X o to) (he : PE X e te)
    (hbase : attributeBase o "append" X.env (eval o X.env) = eval o X.env := by rfl)
    (hfew : ((backTo cpos (starEach [e] X.env)).all (fun x => !x.1) && (backToKw cpos (keywordEach [] X.env)).all (fun x => x.1.isSome)
      && decide ([e].length + ([] : List Keyword).length + (if ([] : List Keyword).isEmpty then 0 else 1) < 30)) = true := by rfl)
    (hline : (apos.endLine == cpos.line) = true := by rfl) (hs : starEach [e] X.env = (false, eval e X.env) :: starEach [] X.env := by rfl) (hplain : (backTo cpos (starEach [] X.env)).any (·.1) = false := by rfl) :
    PE X (.Call (.Attribute o "append" apos) [e] [] cpos) (zLM yApp to (tCons te tNil)) :=
  pe_imp (pe_bm PySem.F.plainAttrs_list PySem.F.slot_list_append PySem.F.type_list_append m_app (pe_up ho) (pa_cons he pa_nil hs) hbase hfew hline hs hplain) fun σ H Q q => ⟨_, fun x H1 q => ⟨isLst_ok q.1, q.2⟩, q⟩
end

/-! ### dict methods -/
def dkAt (H : Hp) (x : V) (R : Addr → List (Key × V) → Prop) : Prop := match x with
  | .ref p => (match H p with
    | some (.dK kvs) => R p kvs
    | _ => False)
  | _ => False
theorem dkAt_ok {H : Hp} {x : V} {R : Addr → List (Key × V) → Prop} (h : dkAt H x R) : ∃ p kvs, x = .ref p ∧ H p = some (.dK kvs) ∧ R p kvs := by
  unfold dkAt at h
  split at h
  · split at h
    · exact ⟨_, _, rfl, by assumption, h⟩
    · exact h.elim
  · exact h.elim
def keyOf (y : V) (R : Key → Prop) : Prop := match y with
  | .int i => R (Sum.inl i)
  | .str i => R (Sum.inr i)
  | _ => False
theorem keyOf_ok {y : V} {R : Key → Prop} (h : keyOf y R) : ∃ k, y = kV k ∧ R k := by
  unfold keyOf at h
  split at h
  · exact ⟨Sum.inl _, rfl, h⟩
  · exact ⟨Sum.inr _, rfl, h⟩
  · exact h.elim
/-- d.get(k), d.get(k, x), d.pop(k), d.pop(k, x) -/
def zGet1 (td ty : TE) : TE := fun σ H Q => td σ H fun x H1 => dkAt H1 x (fun _ _ => True) ∧ ty σ H1 fun y H2 => dkAt H2 x fun p kvs => keyOf y fun k => Q ((valV kvs k).getD .non) H2
def zGet2 (td ty tx : TE) : TE := fun σ H Q => td σ H fun x H1 => dkAt H1 x (fun _ _ => True) ∧ ty σ H1 fun y H2 => tx σ H2 fun z H3 => dkAt H3 x fun p kvs => keyOf y fun k => Q ((valV kvs k).getD z) H3
def zPop1 (td ty : TE) : TE := fun σ H Q => td σ H fun x H1 => dkAt H1 x (fun _ _ => True) ∧ ty σ H1 fun y H2 => dkAt H2 x fun p kvs => keyOf y fun k => isNone (valV kvs k) fun v => Q v (upd H2 p (.dK (dropK kvs k)))
def zPop2 (td ty tx : TE) : TE := fun σ H Q => td σ H fun x H1 => dkAt H1 x (fun _ _ => True) ∧ ty σ H1 fun y H2 => tx σ H2 fun z H3 => dkAt H3 x fun p kvs => keyOf y fun k =>
  (∀ v, valV kvs k = some v → Q v (upd H3 p (.dK (dropK kvs k)))) ∧ (valV kvs k = none → Q z H3)
section
variable {X : Cx} {o e f : Expr} {apos cpos : Pos} {td ty tx : TE}
theorem e_get1 (hu : X.A.units + 1 < cLine) (ho : PE X o td) (he : PE X e ty) (m : M1 X o "get" apos e cpos) : PE X (.Call (.Attribute o "get" apos) [e] [] cpos) (zGet1 td ty) :=
  pe_imp (pe_dget1 hu (pe_up ho) (pe_up he) m) fun σ H Q q => ⟨_, fun x H1 q => by
    obtain ⟨h1, q⟩ := q
    obtain ⟨p, kvs, rfl, hp, _⟩ := dkAt_ok h1
    refine ⟨p, rfl, .inl ⟨kvs, .inl hp⟩, _, fun y H2 q => ?_, q⟩
    obtain ⟨p', kvs', e, hp', q⟩ := dkAt_ok q
    cases e
    obtain ⟨k, ek, q5⟩ := keyOf_ok q
    subst ek
    exact ⟨_, DGet.k hp', q5⟩, q⟩
theorem e_get2 (hu : X.A.units + 1 < cLine) (ho : PE X o td) (he : PE X e ty) (hf : PE X f tx) (m : M2 X o "get" apos e f cpos) : PE X (.Call (.Attribute o "get" apos) [e, f] [] cpos) (zGet2 td ty tx) :=
  pe_imp (pe_dget2 hu (pe_up ho) (pe_up he) (pe_up hf) m) fun σ H Q q => ⟨_, fun x H1 q => by
    obtain ⟨h1, q⟩ := q
    obtain ⟨p, kvs, rfl, hp, _⟩ := dkAt_ok h1
    refine ⟨p, rfl, .inl ⟨kvs, .inl hp⟩, _, fun y H2 q => ⟨_, fun z H3 q => ?_, q⟩, q⟩
    obtain ⟨p', kvs', e, hp', q⟩ := dkAt_ok q
    cases e
    obtain ⟨k, ek, q5⟩ := keyOf_ok q
    subst ek
    exact ⟨_, DGet.k hp', q5⟩, q⟩
theorem e_pop1 (ho : PE X o td) (he : PE X e ty) (m : M1 X o "pop" apos e cpos) : PE X (.Call (.Attribute o "pop" apos) [e] [] cpos) (zPop1 td ty) :=
  pe_imp (pe_dpop1 (pe_up ho) (pe_up he) m) fun σ H Q q => ⟨_, fun x H1 q => by
    obtain ⟨h1, q⟩ := q
    obtain ⟨p, kvs, rfl, hp, _⟩ := dkAt_ok h1
    refine ⟨p, rfl, .inl ⟨kvs, .inl hp⟩, _, fun y H2 q => ?_, q⟩
    obtain ⟨p', kvs', e, hp', q⟩ := dkAt_ok q
    cases e
    obtain ⟨k, ek, q5⟩ := keyOf_ok q
    subst ek
    obtain ⟨v, hv, q6⟩ := isNone_ok q5
    exact ⟨_, _, _, hp', rfl, hv, q6⟩, q⟩
theorem e_pop2 (ho : PE X o td) (he : PE X e ty) (hf : PE X f tx) (m : M2 X o "pop" apos e f cpos) : PE X (.Call (.Attribute o "pop" apos) [e, f] [] cpos) (zPop2 td ty tx) :=
  pe_imp (pe_dpop2 (pe_up ho) (pe_up he) (pe_up hf) m) fun σ H Q q => ⟨_, fun x H1 q => by
    obtain ⟨h1, q⟩ := q
    obtain ⟨p, kvs, rfl, hp, _⟩ := dkAt_ok h1
    refine ⟨p, rfl, .inl ⟨kvs, .inl hp⟩, _, fun y H2 q => ⟨_, fun z H3 q => ?_, q⟩, q⟩
    obtain ⟨p', kvs', e, hp', q⟩ := dkAt_ok q
    cases e
    obtain ⟨k, ek, q5⟩ := keyOf_ok q
    subst ek
    exact ⟨_, _, hp', rfl, q5.1, q5.2⟩, q⟩
end

/-! ### for over a range, a list -/
def loopOn (J : It) (g : TG) (tb : TS) : TS := fun D σ H => ∃ W : Nat → Nat → L2.St → Hp → Prop, (∃ m, W 0 m σ H) ∧ ∀ i m σ H, W i m σ H →
  (J.stop i H ∧ D.nx σ H) ∨ (J.go i H ∧ ∃ N : L2.St → Hp → Prop, (∀ σ' H', N σ' H' → ∃ m', m' < m ∧ W (i + 1) m' σ' H') ∧ ∀ x H', J.yld i H x H' → g x σ H' fun σ2 H2 => tb { D with nx := N, ct := N, bk := D.nx } σ2 H2)
def intAt (v : V) (R : Int → Prop) : Prop := match v with
  | .int n => R n
  | _ => False
def refAt (v : V) (R : Addr → Prop) : Prop := match v with
  | .ref n => R n
  | _ => False
def zForR1 (te : TE) (g : TG) (tb : TS) : TS := fun D σ H => te σ H fun v H1 => intAt v fun n => (-(2 ^ 62) ≤ n ∧ n < 2 ^ 62) ∧ loopOn (Itr 0 n.toNat) g tb D σ H1
def zForR2 (ta te : TE) (g : TG) (tb : TS) : TS := fun D σ H => ta σ H fun u H1 => te σ H1 fun v H2 => intAt u fun m => intAt v fun n => (-(2 ^ 62) ≤ m ∧ m < 2 ^ 62 ∧ -(2 ^ 62) ≤ n ∧ n < 2 ^ 62) ∧ loopOn (Itr m (n - m).toNat) g tb D σ H2
def zForL (K : PySem.W.Frag) (te : TE) (g : TG) (tb : TS) : TS := fun D σ H => te σ H fun v H1 => refAt v fun a => (∃ xs, SqL K H1 a xs) ∧ loopOn (Itl K a) g tb D σ H1
def zForT (K : PySem.W.Frag) (te : TE) (g : TG) (tb : TS) : TS := fun D σ H => te σ H fun v H1 => refAt v fun a => (∃ xs, SqT K H1 a xs) ∧ loopOn (Itt K a) g tb D σ H1
theorem intAt_ok {v : V} {R : Int → Prop} (h : intAt v R) : ∃ n, v = .int n ∧ R n := by
  unfold intAt at h; split at h
  · exact ⟨_, rfl, h⟩
  · exact h.elim
theorem refAt_ok {v : V} {R : Addr → Prop} (h : refAt v R) : ∃ n, v = .ref n ∧ R n := by
  unfold refAt at h; split at h
  · exact ⟨_, rfl, h⟩
  · exact h.elim
section
variable {X : Cx} {tg e e2 : Expr} {body : List Stmt} {te ta : TE} {g : TG} {tb : TS} {pos p pos2 : Pos}
theorem s_forR1 (hp : PassesOwn (model X.prog X.w) X.A X.env X.xe) (hc : X.calm = true) (hg : Gl X "range") (hm : X.mg "range" = none) (he : PE X e te) (hgt : PG X tg g) (hb : PSs X body tb)
    (hst : starEach [e] X.env = [(false, eval e X.env)] := by rfl) (hs : ∀ x, foldedSetIterable (.Call (.Name "range" p) [e] [] pos2) X.env x = pure x := by intro _; rfl) :
    PS X (.For tg (.Call (.Name "range" p) [e] [] pos2) body [] pos) (zForR1 te g tb) :=
  ps_imp (ps_for hp hc (pi_range1 hg hm (pa_cons (pe_up he) pa_nil hst) hst) hgt hb hs) fun D σ H q => ⟨_, fun v H1 q => by
    obtain ⟨n, en, ⟨h1, h2⟩, q6⟩ := intAt_ok q
    subst en
    exact ⟨n, rfl, h1, h2, q6⟩, q⟩
theorem s_forR2 (hp : PassesOwn (model X.prog X.w) X.A X.env X.xe) (hc : X.calm = true) (hg : Gl X "range") (hm : X.mg "range" = none) (ha : PE X e2 ta) (he : PE X e te) (hgt : PG X tg g) (hb : PSs X body tb)
    (hst : starEach [e2, e] X.env = [(false, eval e2 X.env), (false, eval e X.env)] := by rfl) (hst2 : starEach [e] X.env = [(false, eval e X.env)] := by rfl) (hs : ∀ x, foldedSetIterable (.Call (.Name "range" p) [e2, e] [] pos2) X.env x = pure x := by intro _; rfl) :
    PS X (.For tg (.Call (.Name "range" p) [e2, e] [] pos2) body [] pos) (zForR2 ta te g tb) :=
  ps_imp (ps_for hp hc (pi_range2 hg hm (pa_cons (pe_up ha) (pa_cons (pe_up he) pa_nil hst2) (hst.trans (by rw [hst2]))) hst hst2) hgt hb hs) fun D σ H q => ⟨_, fun u H1 q => ⟨_, fun v H2 q => by
    obtain ⟨m, em, q5⟩ := intAt_ok q
    obtain ⟨n, en, ⟨h1, h2⟩, q6⟩ := intAt_ok q5
    subst em en
    exact ⟨m, n, rfl, ⟨h1, h2⟩, q6⟩, q⟩, q⟩
theorem s_forL (hp : PassesOwn (model X.prog X.w) X.A X.env X.xe) (hc : X.calm = true) (he : PE X e te) (hgt : PG X tg g) (hb : PSs X body tb)
    (hs : ∀ x, foldedSetIterable e X.env x = pure x := by intro _; rfl) : PS X (.For tg e body [] pos) (zForL X.K te g tb) :=
  ps_imp (ps_for hp hc (pi_list (pe_up he)) hgt hb hs) fun D σ H q => ⟨_, fun v H1 q => by
    obtain ⟨a, en, h1, q6⟩ := refAt_ok q
    subst en
    exact ⟨a, rfl, h1, q6⟩, q⟩
theorem s_forT (hp : PassesOwn (model X.prog X.w) X.A X.env X.xe) (hc : X.calm = true) (he : PE X e te) (hgt : PG X tg g) (hb : PSs X body tb)
    (hs : ∀ x, foldedSetIterable e X.env x = pure x := by intro _; rfl) : PS X (.For tg e body [] pos) (zForT X.K te g tb) :=
  ps_imp (ps_for hp hc (pi_tup (pe_up he)) hgt hb hs) fun D σ H q => ⟨_, fun v H1 q => by
    obtain ⟨a, en, h1, q6⟩ := refAt_ok q
    subst en
    exact ⟨a, rfl, h1, q6⟩, q⟩
end
theorem loopR {lo : Int} {n : Nat} {g : TG} {tb : TS} {D : Ends} {σ : L2.St} {H : Hp} (Pv : Nat → L2.St → Hp → Prop) (h0 : Pv 0 σ H)
    (hs : ∀ i σ H, i < n → Pv i σ H → g (.int (lo + i)) σ H fun σ2 H2 => tb { D with nx := Pv (i + 1), ct := Pv (i + 1), bk := D.nx } σ2 H2) (hd : ∀ σ H, Pv n σ H → D.nx σ H) : loopOn (Itr lo n) g tb D σ H := for_range Pv h0 hs hd
theorem loopL {K : PySem.W.Frag} {a : Addr} {xs : List V} {g : TG} {tb : TS} {D : Ends} {σ : L2.St} {H : Hp} (Pv : Nat → L2.St → Hp → Prop) (h0 : Pv 0 σ H) (hl : ∀ i σ H, i ≤ xs.length → Pv i σ H → SqL K H a xs)
    (hs : ∀ i x σ H, xs[i]? = some x → Pv i σ H → g x σ H fun σ2 H2 => tb { D with nx := Pv (i + 1), ct := Pv (i + 1), bk := D.nx } σ2 H2) (hd : ∀ σ H, Pv xs.length σ H → D.nx σ H) : loopOn (Itl K a) g tb D σ H := for_list Pv h0 hl hs hd
theorem loopT {K : PySem.W.Frag} {a : Addr} {xs : List V} {g : TG} {tb : TS} {D : Ends} {σ : L2.St} {H : Hp} (Pv : Nat → L2.St → Hp → Prop) (h0 : Pv 0 σ H) (hl : ∀ i σ H, i ≤ xs.length → Pv i σ H → SqT K H a xs)
    (hs : ∀ i x σ H, xs[i]? = some x → Pv i σ H → g x σ H fun σ2 H2 => tb { D with nx := Pv (i + 1), ct := Pv (i + 1), bk := D.nx } σ2 H2) (hd : ∀ σ H, Pv xs.length σ H → D.nx σ H) : loopOn (Itt K a) g tb D σ H := for_tup Pv h0 hl hs hd

/-! ### comprehensions -/
def compOn (J : It) (g : TG) (tt : TT) (te : TE) (vs : List Nat) : TE := fun σ H1 Q => ∀ D, H1 D = none → ∃ W : Nat → Nat → Hp → Prop, (∃ m, W 0 m (upd H1 D (.lst []))) ∧ ∀ i m H, W i m H →
  (J.stop i H ∧ Q (.ref D) H) ∨ (J.go i H ∧ ∃ Nx : Hp → Prop, (∀ H', Nx H' → ∃ m', m' < m ∧ W (i + 1) m' H') ∧ ∀ x H', J.yld i H x H' → g x (wipe σ vs) H' fun σ2 H2 => wipe σ2 vs = wipe σ vs ∧ tt σ2 H2 fun b H3 =>
    if b = true then te σ2 H3 fun y H4 => ∃ acc, H4 D = some (.lst acc) ∧ acc.length < sizeLine ∧ Nx (upd H4 D (.lst (acc ++ [y]))) else Nx H3)
def iR1 (te : TE) : TI := fun σ H R => te σ H fun v H1 => intAt v fun n => (-(2 ^ 62) ≤ n ∧ n < 2 ^ 62) ∧ R (Itr 0 n.toNat) H1
def iR2 (ta te : TE) : TI := fun σ H R => ta σ H fun u H1 => te σ H1 fun v H2 => intAt u fun m => intAt v fun n => (-(2 ^ 62) ≤ m ∧ m < 2 ^ 62 ∧ -(2 ^ 62) ≤ n ∧ n < 2 ^ 62) ∧ R (Itr m (n - m).toNat) H2
def iL (K : PySem.W.Frag) (te : TE) : TI := fun σ H R => te σ H fun v H1 => refAt v fun a => (∃ xs, SqL K H1 a xs) ∧ R (Itl K a) H1
def iT (K : PySem.W.Frag) (te : TE) : TI := fun σ H R => te σ H fun v H1 => refAt v fun a => (∃ xs, SqT K H1 a xs) ∧ R (Itt K a) H1
def zLc (wi : TI) (g : TG) (tt : TT) (te : TE) (vs : List Nat) : TE := fun σ H Q => wi σ H fun J H1 => compOn J g tt te vs σ H1 Q
theorem pi_imp {X : Cx} {tg it : Expr} {w w' : TI} (h : PI X tg it w) (k : ∀ σ H R, w' σ H R → w σ H R) : PI X tg it w' := ⟨fun pins s σ H R I q => h.run pins s σ H R I (k σ H R q)⟩
section
variable {X : Cx} {tg e e2 : Expr} {te ta : TE} {p pos2 : Pos}
theorem i_r1 (hg : Gl X "range") (hm : X.mg "range" = none) (he : PE X e te) (hst : starEach [e] X.env = [(false, eval e X.env)] := by rfl) : PI X tg (.Call (.Name "range" p) [e] [] pos2) (iR1 te) :=
  pi_imp (pi_range1 hg hm (pa_cons (pe_up he) pa_nil hst) hst) fun σ H R q => ⟨_, fun v H1 q => by
    obtain ⟨n, en, ⟨h1, h2⟩, q6⟩ := intAt_ok q
    subst en
    exact ⟨n, rfl, h1, h2, q6⟩, q⟩
theorem i_r2 (hg : Gl X "range") (hm : X.mg "range" = none) (ha : PE X e2 ta) (he : PE X e te) (hst : starEach [e2, e] X.env = [(false, eval e2 X.env), (false, eval e X.env)] := by rfl) (hst2 : starEach [e] X.env = [(false, eval e X.env)] := by rfl) : PI X tg (.Call (.Name "range" p) [e2, e] [] pos2) (iR2 ta te) :=
  pi_imp (pi_range2 hg hm (pa_cons (pe_up ha) (pa_cons (pe_up he) pa_nil hst2) (hst.trans (by rw [hst2]))) hst hst2) fun σ H R q => ⟨_, fun u H1 q => ⟨_, fun v H2 q => by
    obtain ⟨m, em, q5⟩ := intAt_ok q
    obtain ⟨n, en, ⟨h1, h2⟩, q6⟩ := intAt_ok q5
    subst em en
    exact ⟨m, n, rfl, ⟨h1, h2⟩, q6⟩, q⟩, q⟩
theorem i_l (he : PE X e te) : PI X tg e (iL X.K te) := pi_imp (pi_list (pe_up he)) fun σ H R q => ⟨_, fun v H1 q => by
    obtain ⟨a, en, h1, q6⟩ := refAt_ok q
    subst en
    exact ⟨a, rfl, h1, q6⟩, q⟩
theorem i_t (he : PE X e te) : PI X tg e (iT X.K te) := pi_imp (pi_tup (pe_up he)) fun σ H R q => ⟨_, fun v H1 q => by
    obtain ⟨a, en, h1, q6⟩ := refAt_ok q
    subst en
    exact ⟨a, rfl, h1, q6⟩, q⟩
end
theorem compR {lo : Int} {n : Nat} {g : TG} {tt : TT} {te : TE} {vs : List Nat} {σ : L2.St} {H1 : Hp} {Q : VK} (Pv : Addr → Nat → Hp → Prop) (h0 : ∀ D, H1 D = none → Pv D 0 (upd H1 D (.lst [])))
    (hs : ∀ D i H, H1 D = none → i < n → Pv D i H → g (.int (lo + i)) (wipe σ vs) H fun σ2 H2 => wipe σ2 vs = wipe σ vs ∧ tt σ2 H2 fun b H3 =>
      if b = true then te σ2 H3 fun y H4 => ∃ acc, H4 D = some (.lst acc) ∧ acc.length < sizeLine ∧ Pv D (i + 1) (upd H4 D (.lst (acc ++ [y]))) else Pv D (i + 1) H3) (hd : ∀ D H, H1 D = none → Pv D n H → Q (.ref D) H) :
    compOn (Itr lo n) g tt te vs σ H1 Q := fun D hD => lc_range (Pv D) (h0 D hD) (fun i H hi p => hs D i H hD hi p) (fun H p => hd D H hD p)
theorem compL {K : PySem.W.Frag} {a : Addr} {xs : List V} {g : TG} {tt : TT} {te : TE} {vs : List Nat} {σ : L2.St} {H1 : Hp} {Q : VK} (Pv : Addr → Nat → Hp → Prop) (h0 : ∀ D, H1 D = none → Pv D 0 (upd H1 D (.lst []))) (hl : ∀ D i H, H1 D = none → i ≤ xs.length → Pv D i H → SqL K H a xs)
    (hs : ∀ D i x H, H1 D = none → xs[i]? = some x → Pv D i H → g x (wipe σ vs) H fun σ2 H2 => wipe σ2 vs = wipe σ vs ∧ tt σ2 H2 fun b H3 =>
      if b = true then te σ2 H3 fun y H4 => ∃ acc, H4 D = some (.lst acc) ∧ acc.length < sizeLine ∧ Pv D (i + 1) (upd H4 D (.lst (acc ++ [y]))) else Pv D (i + 1) H3) (hd : ∀ D H, H1 D = none → Pv D xs.length H → Q (.ref D) H) :
    compOn (Itl K a) g tt te vs σ H1 Q := fun D hD => lc_list (Pv D) (h0 D hD) (fun i H hi p => hl D i H hD hi p) (fun i x H hx p => hs D i x H hD hx p) (fun H p => hd D H hD p)

/-! ### properties, constants of a class -/
def zProp (C : Addr) (sp : Sp) (dvs : List V) (E : XK) (ta : TE) : TE := fun σ H Q => ta σ H fun x H1 => insAt H1 x fun a C' dx fs => C' = C ∧ sp (.ref a :: dvs) H1 Q E
section
variable {X : Cx} {k j : Nat} {C p g : Addr} {f : Str} {fd : FuncData} {ps : List Str} {sp : Sp} {dvs : List V} {ds : List Value} {E : XK} {e : Expr} {pos : Pos} {ta : TE}
theorem e_prop (he : PE X e ta) (c : Cls X.K C) (hp : PropOf X.K C f p g) (F : FnOk X.prog X.w X.K X.mg X.base C8.CX0 k g fd ps sp) (hr : Room j X.A) (hk : k + 1 ≤ j) (hb : Binds X.K fd ps ds) (hd : Vals dvs ds)
    (hab : attributeBase e f X.env (eval e X.env) = eval e X.env := by rfl) : PE X (.Attribute e f pos) (zProp C sp dvs E ta) :=
  pe_imp (pe_prop (pe_up he) c hp F (hr.mono hk) hb hd (C8.pass0 (X := X.nox) (E := E)) hab) fun σ H Q q => ⟨_, fun x H1 q => by
    obtain ⟨a, C', dx, fs, ex, ha, ec, q3⟩ := insAt_ok q
    rw [ec] at ha
    exact ⟨a, dx, fs, ex, ha, q3⟩, q⟩
theorem e_propC (he : PE X e ta) (c : Cls X.K C) (hp : PropOf X.K C f p g) (F : ∃ fd, FnOk X.prog X.w X.K X.mg X.base C8.CX0 k g fd ps sp ∧ PySem.W.keepIn X.K (.ref g) = true ∧ L2.Binds X.K fd ps []) (hr : Room j X.A) (hk : k + 1 ≤ j)
    (hab : attributeBase e f X.env (eval e X.env) = eval e X.env := by rfl) : PE X (.Attribute e f pos) (zProp C sp [] E ta) := by
  obtain ⟨fd, F, _, b⟩ := F
  exact e_prop he c hp F hr hk b .nil hab
end

/-! ### small facts for readings -/
theorem at0 {α : Type} {a : α} {l : List α} : atI (a :: l) 0 = some a := by
  unfold atI ixN; rw [if_pos (by decide), if_pos (by simp only [List.length_cons]; omega)]; rfl
theorem at1 {α : Type} {a b : α} {l : List α} : atI (a :: b :: l) 1 = some b := by
  unfold atI ixN; rw [if_pos (by decide), if_pos (by simp only [List.length_cons]; omega)]; rfl
theorem at2 {α : Type} {a b c : α} {l : List α} : atI (a :: b :: c :: l) 2 = some c := by
  unfold atI ixN; rw [if_pos (by decide), if_pos (by simp only [List.length_cons]; omega)]; rfl
theorem ix0 {α : Type} {a : α} {l : List α} : ixN (a :: l).length 0 = some 0 := by
  unfold ixN; rw [if_pos (by decide), if_pos (by simp only [List.length_cons]; omega)]; rfl
theorem ix1 {α : Type} {a b : α} {l : List α} : ixN (a :: b :: l).length 1 = some 1 := by
  unfold ixN; rw [if_pos (by decide), if_pos (by simp only [List.length_cons]; omega)]; rfl
theorem ix2 {α : Type} {a b c : α} {l : List α} : ixN (a :: b :: c :: l).length 2 = some 2 := by
  unfold ixN; rw [if_pos (by decide), if_pos (by simp only [List.length_cons]; omega)]; rfl
theorem upd_comm {H : Hp} {a b : Addr} {o u : HO} (h : a ≠ b) : upd (upd H a o) b u = upd (upd H b u) a o := by
  funext c
  unfold upd
  by_cases h1 : c = b
  · by_cases h2 : c = a
    · exact absurd (h2.symm.trans h1) h
    · simp [h1, h2, Ne.symm h]
  · simp [h1]

/-! ### comprehensions that leave what stood -/
/-- J gives item 0 .. item (n - 1), whatever is new -/
def Steady (J : It) (n : Nat) (item : Nat → V) (H1 : Hp) : Prop := ∀ H', Same H1 H' → (∀ i, n ≤ i → J.stop i H') ∧ (∀ i, i < n → J.go i H') ∧ ∀ i x H'', i < n → J.yld i H' x H'' → H'' = H' ∧ x = item i
theorem steady_l {K : PySem.W.Frag} {a : Addr} {xs : List V} {H1 : Hp} (h : SqL K H1 a xs) : Steady (Itl K a) xs.length (fun i => xs.getD i .non) H1 := fun H' s => by
  have h' := s.seq h
  refine ⟨fun i hi => ⟨xs, h', hi⟩, fun i hi => ⟨xs, xs[i], h', by simp [hi]⟩, fun i x H'' hi y => ?_⟩
  obtain ⟨e, y⟩ := y
  have e2 := y xs h'
  refine ⟨e, ?_⟩
  show x = xs.getD i V.non
  rw [List.getD_eq_getElem?_getD, e2] <;> rfl
theorem steady_t {K : PySem.W.Frag} {a : Addr} {xs : List V} {H1 : Hp} (h : H1 a = some (.tup xs)) : Steady (Itt K a) xs.length (fun i => xs.getD i .non) H1 := fun H' s => by
  have h' : SqT K H' a xs := SqT.of (s _ _ h)
  refine ⟨fun i hi => ⟨xs, h', hi⟩, fun i hi => ⟨xs, xs[i], h', by simp [hi]⟩, fun i x H'' hi y => ?_⟩
  obtain ⟨e, y⟩ := y
  have e2 := y xs h'
  refine ⟨e, ?_⟩
  show x = xs.getD i V.non
  rw [List.getD_eq_getElem?_getD, e2] <;> rfl
theorem steady_r {lo : Int} {n : Nat} {H1 : Hp} : Steady (Itr lo n) n (fun i => .int (lo + i)) H1 := fun H' _ => ⟨fun _ hi => hi, fun _ hi => hi, fun _ _ _ _ y => y⟩
theorem comp_core {J : It} {n : Nat} {item : Nat → V} {g : TG} {tt : TT} {te : TE} {vs : List Nat} {σ : L2.St} {H1 : Hp} {Q : VK} (S : Steady J n item H1) (Pv : Addr → Nat → Hp → Prop) (hsame : ∀ D i H, H1 D = none → Pv D i H → Same H1 H)
    (h0 : ∀ D, H1 D = none → Pv D 0 (upd H1 D (.lst [])))
    (hs : ∀ D i H, H1 D = none → i < n → Pv D i H → g (item i) (wipe σ vs) H fun σ2 H2 => wipe σ2 vs = wipe σ vs ∧ tt σ2 H2 fun b H3 =>
      if b = true then te σ2 H3 fun y H4 => ∃ acc, H4 D = some (.lst acc) ∧ acc.length < sizeLine ∧ Pv D (i + 1) (upd H4 D (.lst (acc ++ [y]))) else Pv D (i + 1) H3) (hd : ∀ D H, H1 D = none → Pv D n H → Q (.ref D) H) :
    compOn J g tt te vs σ H1 Q := by
  intro D hD
  refine ⟨fun i m H => m = n - i ∧ i ≤ n ∧ Pv D i H, ⟨n, by simp, Nat.zero_le _, h0 D hD⟩, ?_⟩
  rintro i m H ⟨rfl, hi, p⟩
  obtain ⟨s1, s2, s3⟩ := S H (hsame D i H hD p)
  by_cases hlt : i < n
  · refine .inr ⟨s2 i hlt, Pv D (i + 1), fun H' p' => ⟨n - (i + 1), by omega, rfl, hlt, p'⟩, fun x H' y => ?_⟩
    obtain ⟨e1, e2⟩ := s3 i x H' hlt y
    rw [e1, e2]
    exact hs D i H hD hlt p
  · have e : i = n := by omega
    subst e
    exact .inl ⟨s1 i (Nat.le_refl _), hd D H hD p⟩
/-- elements that are new tuples -/
theorem comp_tups {J : It} {n j : Nat} {item : Nat → V} {te : TE} {vs : List Nat} {σ : L2.St} {H1 : Hp} {Q : VK} (S : Steady J n item H1) (hn : n < sizeLine) (f : Nat → List V) (hw : ∀ x, wipe ((wipe σ vs).set j (some x)) vs = wipe σ vs)
    (he : ∀ i H', i < n → Same H1 H' → ∀ Q' : VK, (∀ t, H' t = none → Q' (.ref t) (upd H' t (.tup (f i)))) → te ((wipe σ vs).set j (some (item i))) H' Q')
    (k : ∀ (D : Addr) (H' : Hp) (ts : List Addr), H1 D = none → Same H1 H' → ts.length = n → H' D = some (.lst (ts.map V.ref)) → (∀ (i : Nat) t, ts[i]? = some t → H' t = some (.tup (f i))) → Q (.ref D) H') : compOn J (gName j) tYes te vs σ H1 Q := by
  refine comp_core S (fun D i H' => Same H1 H' ∧ ∃ ts : List Addr, ts.length = i ∧ H' D = some (.lst (ts.map V.ref)) ∧ ∀ (j : Nat) t, ts[j]? = some t → H' t = some (.tup (f j))) (fun D i H _ p => p.1) ?_ ?_ ?_
  · intro D hD
    refine ⟨fun b o e => by rw [upd_ne (ne_of_none e hD)]; exact e, [], rfl, upd_same, fun j t h => by simp at h⟩
  · rintro D i H hD hi ⟨s, ts, hl, hDl, ht⟩
    refine ⟨hw _, ?_⟩
    show te ((wipe σ vs).set j (some (item i))) H _
    refine he i H hi s _ fun t htn => ?_
    have nDt : D ≠ t := ne_of_none hDl htn
    refine ⟨ts.map V.ref, by rw [upd_ne nDt]; exact hDl, by rw [List.length_map]; omega, fun b o e => ?_, ts ++ [t], by rw [List.length_append, hl] <;> rfl, by rw [upd_same, List.map_append] <;> rfl, fun j' t' h => ?_⟩
    · rw [upd_ne (ne_of_none e hD), upd_ne (ne_of_none (s b o e) htn)]
      exact s b o e
    · by_cases hj : j' < ts.length
      · rw [List.getElem?_append_left hj] at h
        have h' := ht j' t' h
        rw [upd_ne (ne_of h' hDl (by intro z; cases z)), upd_ne (ne_of_none h' htn)]
        exact h'
      · rw [List.getElem?_append_right (by omega)] at h
        have hj2 : j' - ts.length = 0 := by
          have := (List.getElem?_eq_some_iff.mp h).1
          simp at this
          omega
        rw [hj2] at h
        have e1 : t = t' := by simpa using h
        subst e1
        rw [upd_ne nDt.symm, upd_same]
        have : j' = i := by omega
        rw [this]
  · rintro D H hD ⟨s, ts, hl, hDl, ht⟩
    exact k D H ts hD s hl hDl ht
/-- elements that are values -/
theorem comp_vals {J : It} {n j : Nat} {item : Nat → V} {te : TE} {vs : List Nat} {σ : L2.St} {H1 : Hp} {Q : VK} (S : Steady J n item H1) (hn : n < sizeLine) (f : Nat → V) (hw : ∀ x, wipe ((wipe σ vs).set j (some x)) vs = wipe σ vs)
    (he : ∀ i H', i < n → Same H1 H' → ∀ Q' : VK, Q' (f i) H' → te ((wipe σ vs).set j (some (item i))) H' Q')
    (k : ∀ D, H1 D = none → Q (.ref D) (upd H1 D (.lst ((List.range n).map f)))) : compOn J (gName j) tYes te vs σ H1 Q := by
  refine comp_core S (fun D i H' => H' = upd H1 D (.lst ((List.range i).map f))) (fun D i H hD p b o e => ?_) (fun D _ => rfl) ?_ ?_
  · rw [p, upd_ne (ne_of_none e hD)]
    exact e
  · rintro D i H hD hi rfl
    refine ⟨hw _, ?_⟩
    show te ((wipe σ vs).set j (some (item i))) _ _
    refine he i _ hi (fun b o e => by rw [upd_ne (ne_of_none e hD)]; exact e) _ ⟨_, upd_same, by rw [List.length_map, List.length_range]; omega, ?_⟩
    rw [upd_upd, List.range_succ, List.map_append] <;> rfl
  · rintro D H hD rfl
    exact k D hD
/-- a tuple of tuples of flat things, as data -/
theorem dp_all {K : PySem.W.Frag} {H : Hp} : ∀ {vs : List V} {ds : List PyData}, vs.length = ds.length → (∀ (i : Nat) v d, vs[i]? = some v → ds[i]? = some d → Dp K H v d) → DpAll K H vs ds
  | [], [], _, _ => .nil
  | [], _ :: _, h, _ => by cases h
  | _ :: _, [], h, _ => by cases h
  | v :: vs, d :: ds, h, k => .cons (k 0 v d rfl rfl) (dp_all (by simpa using h) fun i v' d' h1 h2 => k (i + 1) v' d' (by simpa using h1) (by simpa using h2))

/-! ### data that == takes -/
theorem shaped_of {d : PyData} {n : Nat} (h1 : d.canLay0 = true) (h2 : d.depth ≤ n) (hn : n ≤ 64) : SeqAt.shaped d = true := by
  unfold SeqAt.shaped
  rw [h1, Bool.true_and]
  exact decide_eq_true (Nat.le_trans h2 hn)
theorem lay_all : ∀ {l : List PyData}, (∀ x ∈ l, x.canLay0 = true) → PyData.canLayAll0 l = true
  | [], _ => by simp only [PyData.canLayAll0]
  | x :: r, h => by
    simp only [PyData.canLayAll0, Bool.and_eq_true]
    exact ⟨h x (List.mem_cons_self ..), lay_all fun y hy => h y (List.mem_cons_of_mem _ hy)⟩
theorem depth_all {n : Nat} : ∀ {l : List PyData}, (∀ x ∈ l, x.depth ≤ n) → PyData.depthAll l ≤ n
  | [], _ => by simp only [PyData.depthAll]; exact Nat.zero_le _
  | x :: r, h => by
    simp only [PyData.depthAll]
    exact Nat.max_le.mpr ⟨h x (List.mem_cons_self ..), depth_all fun y hy => h y (List.mem_cons_of_mem _ hy)⟩
theorem lay_list {l : List PyData} (h : ∀ x ∈ l, x.canLay0 = true) : (PyData.list l).canLay0 = true := by simp only [PyData.canLay0]; exact lay_all h
theorem lay_tuple {l : List PyData} (h : ∀ x ∈ l, x.canLay0 = true) : (PyData.tuple l).canLay0 = true := by simp only [PyData.canLay0]; exact lay_all h
theorem depth_list {n : Nat} {l : List PyData} (h : ∀ x ∈ l, x.depth ≤ n) : (PyData.list l).depth ≤ n + 1 := by simp only [PyData.depth]; exact Nat.succ_le_succ (depth_all h)
theorem depth_tuple {n : Nat} {l : List PyData} (h : ∀ x ∈ l, x.depth ≤ n) : (PyData.tuple l).depth ≤ n + 1 := by simp only [PyData.depth]; exact Nat.succ_le_succ (depth_all h)
/-- two equal data -/
theorem ne_same {K : PySem.W.Frag} {x y : V} {H : Hp} {Q : VK} {d : PyData} (h1 : Dp K H x d) (h2 : Dp K H y d) (hs : SeqAt.shaped d = true) (q : Q (.bl false) H) : rNeD K x y H Q :=
  ⟨d, d, h1, h2, hs, hs, by rw [SeqAt.eqv_refl d (SeqAt.canLay_of_shaped hs)]; exact q⟩
theorem eq_same {K : PySem.W.Frag} {x y : V} {H : Hp} {Q : VK} {d : PyData} (h1 : Dp K H x d) (h2 : Dp K H y d) (hs : SeqAt.shaped d = true) (q : Q (.bl true) H) : rEqD K x y H Q :=
  ⟨d, d, h1, h2, hs, hs, by rw [SeqAt.eqv_refl d (SeqAt.canLay_of_shaped hs)]; exact q⟩

theorem sqT_same {K : PySem.W.Frag} {H H' : Hp} {a : Addr} {xs : List V} (e : Same H H') (h : SqT K H a xs) : SqT K H' a xs := by
  rcases h with (h | ⟨o, h⟩) | h
  · exact .inl (.inl (e _ _ h))
  · exact .inl (.inr ⟨o, e _ _ h⟩)
  · exact .inr h
mutual
theorem dp_same {K : PySem.W.Frag} {H H' : Hp} (s : Same H H') : ∀ (d : PyData) (v : V), Dp K H v d → Dp K H' v d
  | .none, _, h => by cases h; exact .non
  | .bool b, _, h => by cases h; exact .bl b
  | .int i, _, h => by cases h; exact .int i
  | .str x, _, h => by cases h; exact .str x
  | .list ds, _, h => by
    cases h with
    | lst hs ha => exact .lst (s.seq hs) (dpAll_same s ds _ ha)
  | .tuple ds, _, h => by
    cases h with
    | tup hs ha => exact .tup (sqT_same s hs) (dpAll_same s ds _ ha)
  | .dict _, _, h => by cases h
theorem dpAll_same {K : PySem.W.Frag} {H H' : Hp} (s : Same H H') : ∀ (ds : List PyData) (vs : List V), DpAll K H vs ds → DpAll K H' vs ds
  | [], _, h => by cases h; exact .nil
  | d :: ds, _, h => by
    cases h with
    | cons h1 h2 => exact .cons (dp_same s d _ h1) (dpAll_same s ds _ h2)
end
end Z
namespace Hk
open PySem PySem.Spec PyProof.Rows L2
/-! ### a def at a path -/
structure DP where
  at_ : PySem.W.Frag → Addr
  name : Str
  qual : Str
  params : Arguments
  body : List Stmt
  scope : Scope
  dfl : List He.Dv := []
  kwd : List (Str × He.Dv) := []
def fnW (K : PySem.W.Frag) (a : Addr) : He.FnW := match K.lookup a with
  | some ⟨_, _, .func fd, _⟩ => some (fd.name, fd.qualname, fd.params, fd.body, fd.scope, fd.globals, fd.closure, fd.builtins)
  | _ => none
def DP.val (d : DP) : He.FnW := some (d.name, d.qual, d.params, .stmts d.body, d.scope, mainGlobals, [], builtinsNs)
def DP.dvs (K : PySem.W.Frag) (d : DP) : List V := d.dfl.map (He.Dv.v K)
def DP.kws (K : PySem.W.Frag) (d : DP) : List (Str × V) := d.kwd.map fun q => (q.1, q.2.v K)
def DP.ok (K : PySem.W.Frag) (d : DP) : Bool := PySem.W.keepIn K (.ref (d.at_ K)) && (match K.lookup (d.at_ K) with
  | some ⟨_, _, .func fd, _⟩ => PySem.W.codeIn K fd.code d.qual && (He.dflB K fd.defaults (d.dvs K) && He.kwdB K fd.kwdefaults (d.kws K))
  | _ => false)
theorem DP.funD {K : PySem.W.Frag} {d : DP} (e : fnW K (d.at_ K) = d.val) (c : d.ok K = true) : ∃ fd, FunD K d.name d.qual d.params d.body d.scope (d.dvs K) (d.kws K) (d.at_ K) fd := by
  obtain ⟨kp, c2⟩ := He.ba c
  unfold fnW at e
  cases q : K.lookup (d.at_ K) with
  | none =>
    rw [q] at c2
    cases c2
  | some o =>
    obtain ⟨oc, od, dt, osl⟩ := o
    rw [q] at c2 e
    cases dt with
    | func fd =>
      obtain ⟨n1, n2, n3, n4, n5, n6, n7, n8, n9, n10, n11, n12, n13, n14, n15⟩ := fd
      have e2 : (some (n1, n2, n3, n4, n5, n6, n7, n15) : He.FnW) = some (d.name, d.qual, d.params, .stmts d.body, d.scope, mainGlobals, [], builtinsNs) := e
      simp only [Option.some.injEq, Prod.mk.injEq] at e2
      obtain ⟨h1, h2, h3, h4, h5, h6, h7, h8⟩ := e2
      subst h1 h2 h3 h4 h5 h6 h7 h8
      have c3 : (PySem.W.codeIn K n13 d.qual && (He.dflB K n8 (d.dvs K) && He.kwdB K n9 (d.kws K))) = true := c2
      obtain ⟨k1, k2⟩ := He.ba c3
      obtain ⟨k3, k4⟩ := He.ba k2
      exact ⟨_, ⟨oc, od, n8, n9, n10, n11, n12, n13, n14, osl, rfl, q, k1, He.dflB_ok k3, He.kwdB_ok k4⟩, kp⟩
    | _ => cases c2
/-! ### facts -/
abbrev Fact := PySem.W.Frag → Bool
def Fact.of (f : He.Fa) : Fact := fun K => f.ok K
/-- a property's own address, its getter's -/
def prG (C f : Str) (K : PySem.W.Frag) : Addr := match PySem.W.recIn K (He.ma K (He.ga K C) f) "property" with
  | some (.ref g :: _) => g
  | _ => 0
def propB (C f : Str) : Fact := fun K => He.eqO (PySem.W.findIn K (.ref (He.ga K C)) f) (some (some (.ref (He.ma K (He.ga K C) f)))) &&
  (He.eqO (PySem.W.specialIn K (.ref (He.ma K (He.ga K C) f)) "__get__") (some (some (.builtin "property.__get__"))) &&
  (decide (PySem.W.takesIn K (.ref (He.ma K (He.ga K C) f)) = some true) && (match PySem.W.recIn K (He.ma K (He.ga K C) f) "property" with
    | some (.ref _ :: _) => true
    | _ => false)))
theorem propB_ok {K : PySem.W.Frag} {C f : Str} (h : propB C f K = true) : PropOf K (He.ga K C) f (He.ma K (He.ga K C) f) (prG C f K) := by
  obtain ⟨h1, h⟩ := He.ba h
  obtain ⟨h2, h⟩ := He.ba h
  obtain ⟨h3, h4⟩ := He.ba h
  refine ⟨He.eqO_ok h1, He.eqO_ok h2, of_decide_eq_true h3, ?_⟩
  unfold prG
  split at h4
  · rename_i g rest e
    rw [e]
    exact ⟨rest, rfl⟩
  · cases h4
/-- C.f is a constant of the class -/
def CK (K : PySem.W.Frag) (C : Addr) (f : Str) (v : V) : Prop := ∃ mc u, ClX.CRead K C mc ∧ ClX.CVal K C mc f v u
def cvalB (C f : Str) (v : V) : Fact := fun K => PySem.W.readsIn K (He.ga K C) (.type "type") && (He.eqO (PySem.W.specialIn K (.ref (He.ga K C)) "__getattribute__") (some (some (.builtin "type.__getattribute__"))) &&
  (match PySem.W.findCls K (.ref (He.ga K C)) (.type "type") f with
    | some (.val u) => He.relB v u
    | _ => false))
theorem cvalB_ok {K : PySem.W.Frag} {C f : Str} {v : V} (h : cvalB C f v K = true) : CK K (He.ga K C) f v := by
  obtain ⟨h1, h⟩ := He.ba h
  obtain ⟨h2, h3⟩ := He.ba h
  split at h3
  · rename_i u e
    exact ⟨_, u, ⟨h1, He.eqO_ok h2⟩, ⟨e, He.relB_ok h3⟩⟩
  · cases h3
theorem e_cval {X : Cx} {C : Addr} {x f : Str} {v : V} {p pos : Pos} (hg : Gl X x) (hm : X.mg x = some (.ref C)) (k : CK X.K C f v) (hd : (x == ("__debug__" : Str)) = false := by decide) (hb : attributeBase (.Name x p) f X.env (eval (.Name x p) X.env) = eval (.Name x p) X.env := by rfl) :
    PE X (.Attribute (.Name x p) f pos) (tC v) := by
  obtain ⟨mc, u, r, c⟩ := k
  exact Z.pe_imp (ClX.pe_cval (pe_glob (v := .ref C) hg hm rfl hd) hb) fun σ H Q q => ⟨C, mc, v, u, rfl, r, c, q⟩
/-! ### the Hook -/
def frag (n : Nat) (g : Addr → Option Obj) : PySem.W.Frag := He.frG g (He.asD g n ++ [cStatics])
abbrev Al : Type := Bool × List He.FnW
def obsP (fa : List Fact) (fn : List DP) (K : PySem.W.Frag) : Al := ((fa.all fun f => f K) && fn.all fun d => d.ok K, fn.map fun d => fnW K (d.at_ K))
def valP (fn : List DP) : Al := (true, fn.map DP.val)
def Says (fa : List Fact) (fn : List DP) (K : PySem.W.Frag) : Prop := obsP fa fn K = valP fn
def obsG (n : Nat) (fa : List Fact) (fn : List DP) (g : Addr → Option Obj) : Al := obsP fa fn (frag n g)
def hook (n : Nat) (fa : List Fact) (fn : List DP) : PySem.W.Hook where
  α := Al
  obs := fun s => obsG n fa fn s.heap.get?
  val := fun _ => valP fn
  says := fun _ h => ∃ K : PySem.W.Frag, K.In h ∧ Says fa fn K
  of := fun _ _ e => ⟨_, He.frG_in, e⟩
  keeps := fun _ _ _ ⟨K, hK, c⟩ k => ⟨K, PySem.W.Frag.In.keeps hK k, c⟩
theorem obsG_eq {n : Nat} {fa : List Fact} {fn : List DP} {g : Addr → Option Obj} {s : Shared} (h : ∀ a, g a = s.heap.get? a) : obsG n fa fn g = (hook n fa fn).obs s := by
  have e : g = s.heap.get? := funext h
  rw [e] <;> rfl
section
variable {fa : List Fact} {fn : List DP} {K : PySem.W.Frag}
theorem Says.fact (c : Says fa fn K) (i : Nat) {f : Fact} (h : fa[i]? = some f := by rfl) : f K = true := by
  have c1 := (He.ba (show ((fa.all fun f => f K) && fn.all fun d => d.ok K) = true from congrArg (fun z : Al => z.1) c)).1
  exact List.all_eq_true.mp c1 f (List.mem_of_getElem? h)
theorem Says.def_ (c : Says fa fn K) (i : Nat) {d : DP} (h : fn[i]? = some d := by rfl) : ∃ fd, FunD K d.name d.qual d.params d.body d.scope (d.dvs K) (d.kws K) (d.at_ K) fd := by
  have c2 := (He.ba (show ((fa.all fun f => f K) && fn.all fun d => d.ok K) = true from congrArg (fun z : Al => z.1) c)).2
  have e : fn.map (fun d => fnW K (d.at_ K)) = fn.map DP.val := congrArg (fun z : Al => z.2) c
  have e2 : (fn.map fun d => fnW K (d.at_ K))[i]? = (fn.map DP.val)[i]? := by rw [e]
  rw [List.getElem?_map, List.getElem?_map, h] at e2
  exact DP.funD (Option.some.inj e2) (List.all_eq_true.mp c2 d (List.mem_of_getElem? h))
end
theorem putF_ne {f g : Str} {a b : V} {r : List (Str × V)} (h : ¬ g = f) : putF f a ((g, b) :: r) = (g, b) :: putF f a r := by
  show (if g = f then (g, a) :: r else (g, b) :: putF f a r) = _
  rw [if_neg h]
theorem putF_eq {f : Str} {a b : V} {r : List (Str × V)} : putF f a ((f, b) :: r) = (f, a) :: r := by
  show (if f = f then (f, a) :: r else (f, b) :: putF f a r) = _
  rw [if_pos rfl]
/-! ### calls by names, from a def's promise -/
section
variable {P : Program} {w : World} {K : PySem.W.Frag} {mg : Str → Option Value} {base : Heap} {x qual : Str} {f C : Addr} {st : Stmt}
/-- what of the text a def is -/
abbrev FN (K : PySem.W.Frag) (x qual : Str) (st : Stmt) (f : Addr) : Prop := ∃ fd, FunD K x qual (defArgs st) (defBody st) (defScope st) [] [] f fd
theorem fn_ok {N ps : List Str} {k : Nat} {sp : Sp} {fd : FuncData} (F : FunD K x qual (defArgs st) (defBody st) (defScope st) [] [] f fd) (S : FnScope N ps (defScope st)) (len : ∀ vs H Q E, sp vs H Q E → vs.length = ps.length) {t : TS}
    (hd : ∀ (cdv : Value) (A : Around) (outer : List Env) (s : Shared) (H : Hp) (E : XK), Room k (A.deeper (envOfC qual (defScope st) s.heap.objs.size f cdv)) → PSs (cxOf C8.CX0 P w K mg base N qual (defScope st) f cdv A outer s H E).nox (defBody st) t)
    (hrd : ∀ vs H Q E, sp vs H Q E → t { nx := fun _ H' => Q .non H', rt := Q } (start N vs) H) : FnOk P w K mg base C8.CX0 (k + 1) f fd ps sp :=
  F.ok S len fun cdv A outer s H vs Q E hr h => ⟨t, PSs.nox (hd cdv A outer s H E hr), hrd vs H Q E h⟩
end
end Hk
namespace K07
open PySem PySem.Spec PyProof.Rows L2 Z
def top (i : Nat) : Stmt := PySem.Challenge.pw_devicewindows_k07_lines_cleaned_and_drop.main.body.getD i (.Pass ⟨0, 0, 0, 0⟩)
abbrev st_Lines___init__ : Stmt := inClass (top 10) 0
abbrev nm_Lines___init__ : List Str := ["self", "words"]
theorem sc_Lines___init__ : FnScope nm_Lines___init__ ["self", "words"] (defScope st_Lines___init__) := ⟨rfl, rfl, rfl, by decide +kernel, rfl, by decide +kernel, by decide +kernel⟩
theorem start_Lines___init__ (v0 v1 : V) : start nm_Lines___init__ [v0, v1] = [some v0, some v1] := rfl
abbrev st_Lines_load : Stmt := inClass (top 10) 2
abbrev nm_Lines_load : List Str := ["self", "line", "begin"]
theorem sc_Lines_load : FnScope nm_Lines_load ["self", "line"] (defScope st_Lines_load) := ⟨rfl, rfl, rfl, by decide +kernel, rfl, by decide +kernel, by decide +kernel⟩
theorem start_Lines_load (v0 v1 : V) : start nm_Lines_load [v0, v1] = [some v0, some v1, none] := rfl
abbrev st_Lines_read : Stmt := inClass (top 10) 3
abbrev nm_Lines_read : List Str := ["self", "word", "line"]
theorem sc_Lines_read : FnScope nm_Lines_read ["self", "word"] (defScope st_Lines_read) := ⟨rfl, rfl, rfl, by decide +kernel, rfl, by decide +kernel, by decide +kernel⟩
theorem start_Lines_read (v0 v1 : V) : start nm_Lines_read [v0, v1] = [some v0, some v1, none] := rfl
abbrev st_Lines_write : Stmt := inClass (top 10) 4
abbrev nm_Lines_write : List Str := ["self", "word", "value", "line", "row"]
theorem sc_Lines_write : FnScope nm_Lines_write ["self", "word", "value"] (defScope st_Lines_write) := ⟨rfl, rfl, rfl, by decide +kernel, rfl, by decide +kernel, by decide +kernel⟩
theorem start_Lines_write (v0 v1 v2 : V) : start nm_Lines_write [v0, v1, v2] = [some v0, some v1, some v2, none, none] := rfl
abbrev st_Lines_clean : Stmt := inClass (top 10) 5
abbrev nm_Lines_clean : List Str := ["self", "line", "row", "begin"]
theorem sc_Lines_clean : FnScope nm_Lines_clean ["self", "line"] (defScope st_Lines_clean) := ⟨rfl, rfl, rfl, by decide +kernel, rfl, by decide +kernel, by decide +kernel⟩
theorem start_Lines_clean (v0 v1 : V) : start nm_Lines_clean [v0, v1] = [some v0, some v1, none, none] := rfl
abbrev st_Lines_drop : Stmt := inClass (top 10) 6
abbrev nm_Lines_drop : List Str := ["self", "line"]
theorem sc_Lines_drop : FnScope nm_Lines_drop ["self", "line"] (defScope st_Lines_drop) := ⟨rfl, rfl, rfl, by decide +kernel, rfl, by decide +kernel, by decide +kernel⟩
theorem start_Lines_drop (v0 v1 : V) : start nm_Lines_drop [v0, v1] = [some v0, some v1] := rfl
abbrev st_Lines_evict : Stmt := inClass (top 10) 7
abbrev nm_Lines_evict : List Str := ["self", "line"]
theorem sc_Lines_evict : FnScope nm_Lines_evict ["self", "line"] (defScope st_Lines_evict) := ⟨rfl, rfl, rfl, by decide +kernel, rfl, by decide +kernel, by decide +kernel⟩
theorem start_Lines_evict (v0 v1 : V) : start nm_Lines_evict [v0, v1] = [some v0, some v1] := rfl
abbrev st_Lines_held : Stmt := inClass (top 10) 1
abbrev nm_Lines_held : List Str := ["self", "line"]
theorem sc_Lines_held : FnScope nm_Lines_held ["self"] (defScope st_Lines_held) := ⟨rfl, rfl, rfl, by decide +kernel, rfl, by decide +kernel, by decide +kernel⟩
theorem start_Lines_held (v0 : V) : start nm_Lines_held [v0] = [some v0, none] := rfl
abbrev st_L_bag : Stmt := top 12
abbrev nm_L_bag : List Str := ["_law_script", "_law_at", "_law_number", "_law_large"]
theorem sc_L_bag : FnScope nm_L_bag ["_law_script", "_law_at"] (defScope st_L_bag) := ⟨rfl, rfl, rfl, by decide +kernel, rfl, by decide +kernel, by decide +kernel⟩
theorem start_L_bag (v0 v1 : V) : start nm_L_bag [v0, v1] = [some v0, some v1, none, none] := rfl
abbrev st_L_take : Stmt := top 13
abbrev nm_L_take : List Str := ["_law_bag_here", "_law_many", "_law_mixed", "_law_digit"]
theorem sc_L_take : FnScope nm_L_take ["_law_bag_here", "_law_many"] (defScope st_L_take) := ⟨rfl, rfl, rfl, by decide +kernel, rfl, by decide +kernel, by decide +kernel⟩
theorem start_L_take (v0 v1 : V) : start nm_L_take [v0, v1] = [some v0, some v1, none, none] := rfl
abbrev st_L_load : Stmt := top 14
abbrev nm_L_load : List Str := ["_law_kept", "_law_cells", "_law_line"]
theorem sc_L_load : FnScope nm_L_load ["_law_kept", "_law_cells", "_law_line"] (defScope st_L_load) := ⟨rfl, rfl, rfl, by decide +kernel, rfl, by decide +kernel, by decide +kernel⟩
theorem start_L_load (v0 v1 v2 : V) : start nm_L_load [v0, v1, v2] = [some v0, some v1, some v2] := rfl
abbrev st_L_clean : Stmt := top 15
abbrev nm_L_clean : List Str := ["_law_kept", "_law_cells", "_law_line"]
theorem sc_L_clean : FnScope nm_L_clean ["_law_kept", "_law_cells", "_law_line"] (defScope st_L_clean) := ⟨rfl, rfl, rfl, by decide +kernel, rfl, by decide +kernel, by decide +kernel⟩
theorem start_L_clean (v0 v1 v2 : V) : start nm_L_clean [v0, v1, v2] = [some v0, some v1, some v2] := rfl
abbrev st_L_done : Stmt := top 16
abbrev nm_L_done : List Str := ["_law_cache", "_law_kept", "_law_mirror", "_law_way", "_law_line"]
theorem sc_L_done : FnScope nm_L_done ["_law_cache", "_law_kept", "_law_mirror", "_law_way", "_law_line"] (defScope st_L_done) := ⟨rfl, rfl, rfl, by decide +kernel, rfl, by decide +kernel, by decide +kernel⟩
theorem start_L_done (v0 v1 v2 v3 v4 : V) : start nm_L_done [v0, v1, v2, v3, v4] = [some v0, some v1, some v2, some v3, some v4] := rfl
abbrev st_law : Stmt := top 17
abbrev nm_law : List Str := ["_law_script", "_law_k", "_law_bag_here", "_law_size", "_law_turn", "_law_rows", "_law_due", "_law_cells", "_law_kept", "_law_mirror", "_law_cache", "_law_word", "_law_way", "_law_told", "_law_row", "_law_line"]
theorem sc_law : FnScope nm_law ["_law_script"] (defScope st_law) := ⟨rfl, rfl, rfl, by decide +kernel, rfl, by decide +kernel, by decide +kernel⟩
theorem start_law (v0 : V) : start nm_law [v0] = [some v0, none, none, none, none, none, none, none, none, none, none, none, none, none, none, none] := rfl
def fs_Lines (v0 v1 : V) : List (Str × V) := [(("cells" : Str), v0), (("rows" : Str), v1)]
theorem lk_Lines_cells (v0 v1 : V) : (fs_Lines v0 v1).lookup ("cells" : Str) = some v0 := by unfold fs_Lines; rw [List.lookup_cons, show (("cells" : Str) == ("cells" : Str)) = true by decide +kernel]
theorem pf_Lines_cells (w v0 v1 : V) : putF ("cells" : Str) w (fs_Lines v0 v1) = fs_Lines w v1 := by unfold fs_Lines; rw [Hk.putF_eq]
theorem pn_Lines_cells (v0 v1 : V) : putF ("cells" : Str) v0 ([] : List (Str × V)) = [(("cells" : Str), v0)] := by rfl
theorem lk_Lines_rows (v0 v1 : V) : (fs_Lines v0 v1).lookup ("rows" : Str) = some v1 := by unfold fs_Lines; rw [List.lookup_cons, show (("rows" : Str) == ("cells" : Str)) = false by decide +kernel]; rw [List.lookup_cons, show (("rows" : Str) == ("rows" : Str)) = true by decide +kernel]
theorem pf_Lines_rows (w v0 v1 : V) : putF ("rows" : Str) w (fs_Lines v0 v1) = fs_Lines v0 w := by unfold fs_Lines; rw [Hk.putF_ne (show ¬ ("cells" : Str) = ("rows" : Str) by decide +kernel)]; rw [Hk.putF_eq]
theorem pn_Lines_rows (v0 v1 : V) : putF ("rows" : Str) v1 ([(("cells" : Str), v0)] : List (Str × V)) = [(("cells" : Str), v0), (("rows" : Str), v1)] := by rw [Hk.putF_ne (show ¬ ("cells" : Str) = ("rows" : Str) by decide +kernel)]; rfl
theorem ln_Lines (v0 v1 : V) : (fs_Lines v0 v1).length < 1000 := by show 2 < 1000; decide
theorem no_Lines_load (v0 v1 : V) : (fs_Lines v0 v1).lookup ("load" : Str) = none := by unfold fs_Lines; rw [List.lookup_cons, show (("load" : Str) == ("cells" : Str)) = false by decide +kernel]; rw [List.lookup_cons, show (("load" : Str) == ("rows" : Str)) = false by decide +kernel]; rfl
theorem no_Lines_read (v0 v1 : V) : (fs_Lines v0 v1).lookup ("read" : Str) = none := by unfold fs_Lines; rw [List.lookup_cons, show (("read" : Str) == ("cells" : Str)) = false by decide +kernel]; rw [List.lookup_cons, show (("read" : Str) == ("rows" : Str)) = false by decide +kernel]; rfl
theorem no_Lines_write (v0 v1 : V) : (fs_Lines v0 v1).lookup ("write" : Str) = none := by unfold fs_Lines; rw [List.lookup_cons, show (("write" : Str) == ("cells" : Str)) = false by decide +kernel]; rw [List.lookup_cons, show (("write" : Str) == ("rows" : Str)) = false by decide +kernel]; rfl
theorem no_Lines_clean (v0 v1 : V) : (fs_Lines v0 v1).lookup ("clean" : Str) = none := by unfold fs_Lines; rw [List.lookup_cons, show (("clean" : Str) == ("cells" : Str)) = false by decide +kernel]; rw [List.lookup_cons, show (("clean" : Str) == ("rows" : Str)) = false by decide +kernel]; rfl
theorem no_Lines_drop (v0 v1 : V) : (fs_Lines v0 v1).lookup ("drop" : Str) = none := by unfold fs_Lines; rw [List.lookup_cons, show (("drop" : Str) == ("cells" : Str)) = false by decide +kernel]; rw [List.lookup_cons, show (("drop" : Str) == ("rows" : Str)) = false by decide +kernel]; rfl
theorem no_Lines_evict (v0 v1 : V) : (fs_Lines v0 v1).lookup ("evict" : Str) = none := by unfold fs_Lines; rw [List.lookup_cons, show (("evict" : Str) == ("cells" : Str)) = false by decide +kernel]; rw [List.lookup_cons, show (("evict" : Str) == ("rows" : Str)) = false by decide +kernel]; rfl
theorem no_Lines_held (v0 v1 : V) : (fs_Lines v0 v1).lookup ("held" : Str) = none := by unfold fs_Lines; rw [List.lookup_cons, show (("held" : Str) == ("cells" : Str)) = false by decide +kernel]; rw [List.lookup_cons, show (("held" : Str) == ("rows" : Str)) = false by decide +kernel]; rfl
/-! ### the bag -/
def BagO (o : HO) (n : Int) : Prop := ∃ L M c : Int, o = .lst [.int L, .int M, .int c] ∧ 0 ≤ L ∧ 0 ≤ M ∧ M ≤ 6000000000000000000 ∧ 0 ≤ c ∧ c ≤ n
def sp_L_bag (K : PySem.W.Frag) : Sp := fun vs H Q _ => ∃ (a : Addr) (i : Int) (ns : List Int), vs = [.ref a, .int i] ∧ SqL K H a (ns.map V.int) ∧ 0 ≤ i ∧ i ≤ 100 ∧ ∀ b o, H b = none → BagO o 0 → Q (.ref b) (upd H b o)
def sp_L_take (K : PySem.W.Frag) : Sp := fun vs H Q _ => ∃ (b : Addr) (o : HO) (m n : Int), vs = [.ref b, .int m] ∧ H b = some o ∧ BagO o n ∧ 0 < m ∧ m < 1000000000 ∧ n ≤ 1000000 ∧ ∀ d o', 0 ≤ d → d < m → BagO o' (n + 1) → Q (.int d) (upd H b o')
theorem ln_sp_L_bag {K : PySem.W.Frag} (vs : List V) (H : Hp) (Q : VK) (E : XK) (h : sp_L_bag K vs H Q E) : vs.length = 2 := by obtain ⟨a, i, ns, rfl, _⟩ := h; rfl
theorem ln_sp_L_take {K : PySem.W.Frag} (vs : List V) (H : Hp) (Q : VK) (E : XK) (h : sp_L_take K vs H Q E) : vs.length = 2 := by obtain ⟨b, o, m, n, rfl, _⟩ := h; rfl
/-! ### rows -/
structure Ent where
  line : Int
  addr : Addr
  v0 : Int
  v1 : Int
  dirty : Bool
def Ent.row (e : Ent) : HO := .lst [.int e.v0, .int e.v1, .bl e.dirty]
def kvsOf (E : List Ent) : List (Key × V) := E.map fun e => (Sum.inl e.line, V.ref e.addr)
structure RowsAt (H : Hp) (d : Addr) (E : List Ent) : Prop where
  dc : H d = some (.dK (kvsOf E))
  rows : ∀ e ∈ E, H e.addr = some e.row
  nl : (E.map (·.line)).Nodup
  na : (E.map (·.addr)).Nodup
abbrev intsO (cs : List Int) : HO := .lst (cs.map V.int)
/-- the cache at x over the cells at c, its dict at d -/
def LinesAt (K : PySem.W.Frag) (H : Hp) (x c d : Addr) : Prop := ∃ dx, H x = some (.ins (He.ga K "Lines") dx (fs_Lines (.ref c) (.ref d)))
def sp_Lines___init__ (K : PySem.W.Frag) : Sp := fun vs H Q _ => ∃ (x c dx : Addr), vs = [.ref x, .ref c] ∧ H x = some (.ins (He.ga K "Lines") dx []) ∧ ∀ d, H d = none → Q .non (upd (upd H d (.dK [])) x (.ins (He.ga K "Lines") dx (fs_Lines (.ref c) (.ref d))))
theorem ln_sp_Lines___init__ {K : PySem.W.Frag} (vs : List V) (H : Hp) (Q : VK) (E : XK) (h : sp_Lines___init__ K vs H Q E) : vs.length = 2 := by obtain ⟨b, o, n, rfl, _⟩ := h; rfl
/-- load: held already, or a new row -/
def LoadTo (H : Hp) (d : Addr) (E : List Ent) (cs : List Int) (l : Int) (R : List Ent → Hp → Prop) : Prop :=
  ((∃ e ∈ E, e.line = l) → R E H) ∧ ((∀ e ∈ E, e.line ≠ l) → ∀ r v0 v1, H r = none → cs[(2 * l).toNat]? = some v0 → cs[(2 * l + 1).toNat]? = some v1 →
    R (E ++ [⟨l, r, v0, v1, false⟩]) (upd (upd H r (.lst [.int v0, .int v1, .bl false])) d (.dK (kvsOf (E ++ [⟨l, r, v0, v1, false⟩])))))
def sp_Lines_load (K : PySem.W.Frag) : Sp := fun vs H Q _ => ∃ (x c d : Addr) (l : Int) (E : List Ent) (cs : List Int), vs = [.ref x, .int l] ∧ LinesAt K H x c d ∧ RowsAt H d E ∧ H c = some (intsO cs) ∧ 0 ≤ l ∧ 2 * l + 1 < cs.length ∧ cs.length ≤ 100 ∧ E.length ≤ 900 ∧
  LoadTo H d E cs l fun _ H' => Q .non H'
theorem ln_sp_Lines_load {K : PySem.W.Frag} (vs : List V) (H : Hp) (Q : VK) (E : XK) (h : sp_Lines_load K vs H Q E) : vs.length = 2 := by obtain ⟨x, c, d, l, E, cs, rfl, _⟩ := h; rfl
def sp_Lines_read (K : PySem.W.Frag) : Sp := fun vs H Q _ => ∃ (x c d : Addr) (z : Int) (E : List Ent) (cs : List Int), vs = [.ref x, .int z] ∧ LinesAt K H x c d ∧ RowsAt H d E ∧ H c = some (intsO cs) ∧ 0 ≤ z ∧ z < cs.length ∧ cs.length % 2 = 0 ∧ cs.length ≤ 100 ∧ E.length ≤ 900 ∧
  LoadTo H d E cs (z / 2) fun E' H' => ∀ e ∈ E', e.line = z / 2 → Q (.int (if z % 2 = 0 then e.v0 else e.v1)) H'
theorem ln_sp_Lines_read {K : PySem.W.Frag} (vs : List V) (H : Hp) (Q : VK) (E : XK) (h : sp_Lines_read K vs H Q E) : vs.length = 2 := by obtain ⟨x, c, d, l, E, cs, rfl, _⟩ := h; rfl
def sp_Lines_write (K : PySem.W.Frag) : Sp := fun vs H Q _ => ∃ (x c d : Addr) (z y : Int) (E : List Ent) (cs : List Int), vs = [.ref x, .int z, .int y] ∧ LinesAt K H x c d ∧ RowsAt H d E ∧ H c = some (intsO cs) ∧ 0 ≤ z ∧ z < cs.length ∧ cs.length % 2 = 0 ∧ cs.length ≤ 100 ∧ E.length ≤ 900 ∧
  LoadTo H d E cs (z / 2) fun E' H' => ∀ e ∈ E', e.line = z / 2 → Q .non (upd H' e.addr (.lst [.int (if z % 2 = 0 then y else e.v0), .int (if z % 2 = 0 then e.v1 else y), .bl true]))
theorem ln_sp_Lines_write {K : PySem.W.Frag} (vs : List V) (H : Hp) (Q : VK) (E : XK) (h : sp_Lines_write K vs H Q E) : vs.length = 3 := by obtain ⟨x, c, d, l, y, E, cs, rfl, _⟩ := h; rfl
def dirtyOf (E : List Ent) (l : Int) : Bool := ((E.find? fun e => e.line == l).map (·.dirty)).getD false
def heldD (E : List Ent) (ys : List Int) : PyData := .tuple (ys.map fun l => .tuple [.int l, .bool (dirtyOf E l)])
def sp_Lines_held (K : PySem.W.Frag) : Sp := fun vs H Q _ => ∃ (x c d : Addr) (E : List Ent), vs = [.ref x] ∧ LinesAt K H x c d ∧ RowsAt H d E ∧ E.length < 64 ∧ ∀ v H' ys, Same H H' → ys.Perm (E.map (·.line)) → ys.Pairwise (· ≤ ·) → Dp K H' v (heldD E ys) → Q v H'
theorem ln_sp_Lines_held {K : PySem.W.Frag} (vs : List V) (H : Hp) (Q : VK) (E : XK) (h : sp_Lines_held K vs H Q E) : vs.length = 1 := by obtain ⟨x, c, d, E, rfl, _⟩ := h; rfl

def cleanE (E : List Ent) (l : Int) : List Ent := E.map fun e => if e.line = l then { e with dirty := false } else e
def cleanC (E : List Ent) (cs : List Int) (l : Int) : List Int := match E.find? (fun e => e.line == l) with
  | some e => if e.dirty then (cs.set (2 * l).toNat e.v0).set (2 * l + 1).toNat e.v1 else cs
  | none => cs
def dropE (E : List Ent) (l : Int) : List Ent := E.filter fun e => !(e.line == l)
def sp_Lines_clean (K : PySem.W.Frag) : Sp := fun vs H Q _ => ∃ (x c d : Addr) (l : Int) (E : List Ent) (cs : List Int), vs = [.ref x, .int l] ∧ LinesAt K H x c d ∧ RowsAt H d E ∧ H c = some (intsO cs) ∧ (∀ e ∈ E, e.addr ≠ c) ∧ 0 ≤ l ∧ 2 * l + 1 < cs.length ∧ cs.length ≤ 100 ∧
  ∀ H', RowsAt H' d (cleanE E l) → H' c = some (intsO (cleanC E cs l)) → (∀ a o, H a = some o → a ≠ c → (∀ e ∈ E, a ≠ e.addr) → H' a = some o) → Q .non H'
theorem ln_sp_Lines_clean {K : PySem.W.Frag} (vs : List V) (H : Hp) (Q : VK) (E : XK) (h : sp_Lines_clean K vs H Q E) : vs.length = 2 := by obtain ⟨x, c, d, l, E, cs, rfl, _⟩ := h; rfl
def sp_Lines_drop (K : PySem.W.Frag) : Sp := fun vs H Q _ => ∃ (x c d : Addr) (l : Int) (E : List Ent), vs = [.ref x, .int l] ∧ LinesAt K H x c d ∧ RowsAt H d E ∧
  ∀ H', RowsAt H' d (dropE E l) → (∀ a o, H a = some o → a ≠ d → H' a = some o) → Q .non H'
theorem ln_sp_Lines_drop {K : PySem.W.Frag} (vs : List V) (H : Hp) (Q : VK) (E : XK) (h : sp_Lines_drop K vs H Q E) : vs.length = 2 := by obtain ⟨x, c, d, l, E, rfl, _⟩ := h; rfl
def sp_Lines_evict (K : PySem.W.Frag) : Sp := fun vs H Q _ => ∃ (x c d : Addr) (l : Int) (E : List Ent) (cs : List Int), vs = [.ref x, .int l] ∧ LinesAt K H x c d ∧ RowsAt H d E ∧ H c = some (intsO cs) ∧ (∀ e ∈ E, e.addr ≠ c) ∧ 0 ≤ l ∧ 2 * l + 1 < cs.length ∧ cs.length ≤ 100 ∧
  ∀ H', RowsAt H' d (dropE E l) → H' c = some (intsO (cleanC E cs l)) → (∀ a o, H a = some o → a ≠ c → a ≠ d → (∀ e ∈ E, a ≠ e.addr) → H' a = some o) → Q .non H'
theorem ln_sp_Lines_evict {K : PySem.W.Frag} (vs : List V) (H : Hp) (Q : VK) (E : XK) (h : sp_Lines_evict K vs H Q E) : vs.length = 2 := by obtain ⟨x, c, d, l, E, cs, rfl, _⟩ := h; rfl
def sp_law (K : PySem.W.Frag) : Sp := fun vs H Q _ => ∃ (a : Addr) (ns : List Int), vs = [.ref a] ∧ SqL K H a (ns.map V.int) ∧ ns.length ≤ 63 ∧ Only H ∧ ∀ H', Q (.bl true) H'
theorem ln_sp_law {K : PySem.W.Frag} (vs : List V) (H : Hp) (Q : VK) (E : XK) (h : sp_law K vs H Q E) : vs.length = 1 := by obtain ⟨a, ns, rfl, _⟩ := h; rfl
/-! ### the law's objects -/
structure Core (K : PySem.W.Frag) (H0 H : Hp) (b c m x d k : Addr) (o : HO) (n : Int) (cs ms : List Int) (E G : List Ent) : Prop where
  same : Same H0 H
  hb : H b = some o
  ho : BagO o n
  hc : H c = some (intsO cs)
  hm : H m = some (intsO ms)
  L : LinesAt K H x c d
  R : RowsAt H d E
  gr : RowsAt H k G
  nbc : b ≠ c
  nbm : b ≠ m
  ncm : c ≠ m
  ndk : d ≠ k
  eb : ∀ e ∈ E, e.addr ≠ b ∧ e.addr ≠ c ∧ e.addr ≠ m
  gb : ∀ e ∈ G, e.addr ≠ b ∧ e.addr ≠ c ∧ e.addr ≠ m
  eg : ∀ e ∈ E, ∀ g ∈ G, e.addr ≠ g.addr
  z : H0 b = none ∧ H0 c = none ∧ H0 m = none ∧ H0 d = none ∧ H0 k = none
  ze : ∀ e ∈ E, H0 e.addr = none
  zg : ∀ e ∈ G, H0 e.addr = none

def con (e : Ent) : Int × Int × Int × Bool := (e.line, e.v0, e.v1, e.dirty)
def sp_L_load (K : PySem.W.Frag) : Sp := fun vs H Q _ => ∃ (k m : Addr) (l : Int) (E : List Ent) (cs : List Int), vs = [.ref k, .ref m, .int l] ∧ RowsAt H k E ∧ H m = some (intsO cs) ∧ 0 ≤ l ∧ 2 * l + 1 < cs.length ∧ cs.length ≤ 100 ∧ E.length ≤ 900 ∧
  LoadTo H k E cs l fun E' H' => ∀ e ∈ E', e.line = l → Q (.ref e.addr) H'
theorem ln_sp_L_load {K : PySem.W.Frag} (vs : List V) (H : Hp) (Q : VK) (E : XK) (h : sp_L_load K vs H Q E) : vs.length = 3 := by obtain ⟨x, c, d, l, E, rfl, _⟩ := h; rfl
def sp_L_clean (K : PySem.W.Frag) : Sp := fun vs H Q _ => ∃ (k m : Addr) (l : Int) (G : List Ent) (ms : List Int), vs = [.ref k, .ref m, .int l] ∧ RowsAt H k G ∧ H m = some (intsO ms) ∧ (∀ e ∈ G, e.addr ≠ m) ∧ 0 ≤ l ∧ 2 * l + 1 < ms.length ∧ ms.length ≤ 100 ∧ G.length ≤ 900 ∧
  ∀ H' G', RowsAt H' k G' → G'.map con = (cleanE G l).map con → (∀ e ∈ G', (∃ f ∈ G, f.addr = e.addr) ∨ H e.addr = none) → H' m = some (intsO (cleanC G ms l)) → (∀ a o, H a = some o → a ≠ m → a ≠ k → (∀ e ∈ G, a ≠ e.addr) → H' a = some o) → Q .non H'
theorem ln_sp_L_clean {K : PySem.W.Frag} (vs : List V) (H : Hp) (Q : VK) (E : XK) (h : sp_L_clean K vs H Q E) : vs.length = 3 := by obtain ⟨x, c, d, E, cs, rfl, _⟩ := h; rfl
def sp_L_done (K : PySem.W.Frag) : Sp := fun vs H Q _ => ∃ (H0 : Hp) (b c m x d k : Addr) (o : HO) (n way l : Int) (cs : List Int) (E G : List Ent), vs = [.ref x, .ref k, .ref m, .int way, .int l] ∧ Core K H0 H b c m x d k o n cs cs E G ∧ E.map con = G.map con ∧ 0 ≤ l ∧ 2 * l + 1 < cs.length ∧ cs.length ≤ 100 ∧ E.length ≤ 800 ∧
  ∀ H' cs' E' G', Core K H0 H' b c m x d k o n cs' cs' E' G' → E'.map con = G'.map con → cs'.length = cs.length → E'.length ≤ E.length → Q .non H'
theorem ln_sp_L_done {K : PySem.W.Frag} (vs : List V) (H : Hp) (Q : VK) (E : XK) (h : sp_L_done K vs H Q E) : vs.length = 5 := by obtain ⟨H0, b, c, m, x, d, k, o, n, way, l, cs, E, G, rfl, _⟩ := h; rfl

def t_Lines___init___1 (K : PySem.W.Frag) : TS := (zSetF K (zV 0) (zV 1) "cells")
def t_Lines___init___2 (K : PySem.W.Frag) : TS := (zSetF K (zV 0) tDNewK "rows")
def t_Lines___init__ (K : PySem.W.Frag) : TS := (tSeq (t_Lines___init___1 K) (t_Lines___init___2 K))
def t_Lines_load_1t_1 (K : PySem.W.Frag) : TS := (tAsg (tOp yMul (zV 1) (tC (.int 2))) (gName 2))
def t_Lines_load_1t_2 (K : PySem.W.Frag) : TS := (tAsg (tLst (tCons (tOp (yIx K) (zFld K (zV 0) "cells") (zV 2)) (tCons (tOp (yIx K) (zFld K (zV 0) "cells") (tOp yAdd (zV 2) (tC (.int 1)))) (tCons (tC (.bl false)) tNil)))) (gSub (zFld K (zV 0) "rows") (zV 1) ySet))
def t_Lines_load_1 (K : PySem.W.Frag) : TS := (tIfS (zB (tOp (yIn K true) (zV 1) (zFld K (zV 0) "rows"))) (tSeq (t_Lines_load_1t_1 K) (t_Lines_load_1t_2 K)) tNext)
def t_Lines_load (K : PySem.W.Frag) : TS := (t_Lines_load_1 K)
def t_Lines_read_1 (K : PySem.W.Frag) : TS := (tAsg (tOp yDiv (zV 1) (tC (.int 2))) (gName 2))
def t_Lines_read_2 (K : PySem.W.Frag) : TS := (tDrop (zMeth (He.ga K "Lines") "load" (sp_Lines_load K) [] C8.E0 (zV 0) (tCons (zV 2) tNil)))
def t_Lines_read_3 (K : PySem.W.Frag) : TS := (tRet (tOp (yIx K) (tOp (yIx K) (zFld K (zV 0) "rows") (zV 2)) (tOp ySub (zV 1) (tOp yMul (zV 2) (tC (.int 2))))))
def t_Lines_read (K : PySem.W.Frag) : TS := (tSeq (t_Lines_read_1 K) (tSeq (t_Lines_read_2 K) (t_Lines_read_3 K)))
def t_Lines_write_1 (K : PySem.W.Frag) : TS := (tAsg (tOp yDiv (zV 1) (tC (.int 2))) (gName 3))
def t_Lines_write_2 (K : PySem.W.Frag) : TS := (tDrop (zMeth (He.ga K "Lines") "load" (sp_Lines_load K) [] C8.E0 (zV 0) (tCons (zV 3) tNil)))
def t_Lines_write_3 (K : PySem.W.Frag) : TS := (tAsg (tOp (yIx K) (zFld K (zV 0) "rows") (zV 3)) (gName 4))
def t_Lines_write_4 (K : PySem.W.Frag) : TS := (tAsg (zV 2) (gSub (zV 4) (tOp ySub (zV 1) (tOp yMul (zV 3) (tC (.int 2)))) ySet))
def t_Lines_write_5 (K : PySem.W.Frag) : TS := (tAsg (tC (.bl true)) (gSub (zV 4) (tC (.int 2)) ySet))
def t_Lines_write (K : PySem.W.Frag) : TS := (tSeq (t_Lines_write_1 K) (tSeq (t_Lines_write_2 K) (tSeq (t_Lines_write_3 K) (tSeq (t_Lines_write_4 K) (t_Lines_write_5 K)))))
def t_Lines_clean_1t_1 (K : PySem.W.Frag) : TS := (tAsg (tOp (yIx K) (zFld K (zV 0) "rows") (zV 1)) (gName 2))
def t_Lines_clean_1t_2 (K : PySem.W.Frag) : TS := (tAsg (tOp yMul (zV 1) (tC (.int 2))) (gName 3))
def t_Lines_clean_1t_3 (K : PySem.W.Frag) : TS := (tAsg (tOp (yIx K) (zV 2) (tC (.int 0))) (gSub (zFld K (zV 0) "cells") (zV 3) ySet))
def t_Lines_clean_1t_4 (K : PySem.W.Frag) : TS := (tAsg (tOp (yIx K) (zV 2) (tC (.int 1))) (gSub (zFld K (zV 0) "cells") (tOp yAdd (zV 3) (tC (.int 1))) ySet))
def t_Lines_clean_1t_5 (K : PySem.W.Frag) : TS := (tAsg (tC (.bl false)) (gSub (zV 2) (tC (.int 2)) ySet))
def t_Lines_clean_1 (K : PySem.W.Frag) : TS := (tIfS (tAnd (zB (tOp (yIn K false) (zV 1) (zFld K (zV 0) "rows"))) (zB (tOp (yIx K) (tOp (yIx K) (zFld K (zV 0) "rows") (zV 1)) (tC (.int 2))))) (tSeq (t_Lines_clean_1t_1 K) (tSeq (t_Lines_clean_1t_2 K) (tSeq (t_Lines_clean_1t_3 K) (tSeq (t_Lines_clean_1t_4 K) (t_Lines_clean_1t_5 K))))) tNext)
def t_Lines_clean (K : PySem.W.Frag) : TS := (t_Lines_clean_1 K)
def t_Lines_drop_1 (K : PySem.W.Frag) : TS := (tDrop (zPop2 (zFld K (zV 0) "rows") (zV 1) (tC .non)))
def t_Lines_drop (K : PySem.W.Frag) : TS := (t_Lines_drop_1 K)
def t_Lines_evict_1 (K : PySem.W.Frag) : TS := (tDrop (zMeth (He.ga K "Lines") "clean" (sp_Lines_clean K) [] C8.E0 (zV 0) (tCons (zV 1) tNil)))
def t_Lines_evict_2 (K : PySem.W.Frag) : TS := (tDrop (zMeth (He.ga K "Lines") "drop" (sp_Lines_drop K) [] C8.E0 (zV 0) (tCons (zV 1) tNil)))
def t_Lines_evict (K : PySem.W.Frag) : TS := (tSeq (t_Lines_evict_1 K) (t_Lines_evict_2 K))
def t_Lines_held_1 (K : PySem.W.Frag) : TS := (tRet (tCB (yTuple K) (tCons (zLc (iL K (tCB ySortedKeys (tCons (zFld K (zV 0) "rows") tNil))) (gName 1) tYes (tTup (tCons (zV 1) (tCons (tOp (yIx K) (tOp (yIx K) (zFld K (zV 0) "rows") (zV 1)) (tC (.int 2))) tNil))) [1]) tNil)))
def t_Lines_held (K : PySem.W.Frag) : TS := (t_Lines_held_1 K)
def t_L_bag_1 (K : PySem.W.Frag) : TS := (tAsg (tIf (zB (tOp yLt (zV 1) (tCB (yLenS K) (tCons (zV 0) tNil)))) (tOp (rIxL K) (zV 0) (zV 1)) (tC (.int 0))) (gName 2))
def t_L_bag_2 (K : PySem.W.Frag) : TS := (tAsg (tIf (zB (tOp yGe (tCB yAbs (tCons (zV 2) tNil)) (tOp yPow (tC (.int 10)) (tC (.int 18))))) (tCB yAbs (tCons (zV 2) tNil)) (tC (.int 0))) (gName 3))
def t_L_bag_3 (K : PySem.W.Frag) : TS := (tRet (tLst (tCons (zV 3) (tCons (tOp yAdd (tOp yAdd (tOp yMul (tOp yMod (zV 2) (tOp yAdd (tOp yPow (tC (.int 10)) (tC (.int 18))) (tC (.int 9)))) (tC (.int 5))) (tOp yMul (tC (.int 7793)) (zV 1))) (tC (.int 613))) (tCons (tC (.int 0)) tNil)))))
def t_L_bag (K : PySem.W.Frag) : TS := (tSeq (t_L_bag_1 K) (tSeq (t_L_bag_2 K) (t_L_bag_3 K)))
def t_L_take_1t_1 (K : PySem.W.Frag) : TS := (tAsg (tOp yMod (tOp (yIx K) (zV 0) (tC (.int 0))) (zV 1)) (gName 3))
def t_L_take_1t_2 (K : PySem.W.Frag) : TS := (tAsg (tOp yDiv (tOp (yIx K) (zV 0) (tC (.int 0))) (zV 1)) (gSub (zV 0) (tC (.int 0)) ySet))
def t_L_take_1t_3 (K : PySem.W.Frag) : TS := (tRet (zV 3))
def t_L_take_1 (K : PySem.W.Frag) : TS := (tIfS (zB (tOp yGt (tOp (yIx K) (zV 0) (tC (.int 0))) (tC (.int 0)))) (tSeq (t_L_take_1t_1 K) (tSeq (t_L_take_1t_2 K) (t_L_take_1t_3 K))) tNext)
def t_L_take_2 (K : PySem.W.Frag) : TS := (tAsg (tOp yAdd (tOp (yIx K) (zV 0) (tC (.int 2))) (tC (.int 1))) (gSub (zV 0) (tC (.int 2)) ySet))
def t_L_take_3 (K : PySem.W.Frag) : TS := (tAsg (tOp yMod (tOp yPow (tOp yAdd (tOp (yIx K) (zV 0) (tC (.int 1))) (tOp yMul (tOp yMul (tC (.int 8081)) (tOp (yIx K) (zV 0) (tC (.int 2)))) (tOp (yIx K) (zV 0) (tC (.int 2))))) (tC (.int 3))) (tC (.int 2147483563))) (gName 2))
def t_L_take_4 (K : PySem.W.Frag) : TS := (tRet (tOp yMod (tOp yDiv (tOp yMod (tOp yMul (zV 2) (tOp yAdd (tOp yDiv (zV 2) (tC (.int 11))) (tOp yMul (tC (.int 3)) (tOp (yIx K) (zV 0) (tC (.int 2)))))) (tC (.int 2147483549))) (tC (.int 64))) (zV 1)))
def t_L_take (K : PySem.W.Frag) : TS := (tSeq (t_L_take_1 K) (tSeq (t_L_take_2 K) (tSeq (t_L_take_3 K) (t_L_take_4 K))))
def t_L_load_1t_1 (K : PySem.W.Frag) : TS := (tAsg (tLst (tCons (tOp (yIx K) (zV 1) (tOp yMul (tC (.int 2)) (zV 2))) (tCons (tOp (yIx K) (zV 1) (tOp yAdd (tOp yMul (tC (.int 2)) (zV 2)) (tC (.int 1)))) (tCons (tC (.bl false)) tNil)))) (gSub (zV 0) (zV 2) ySet))
def t_L_load_1 (K : PySem.W.Frag) : TS := (tIfS (zB (tOp (yIn K true) (zV 2) (zV 0))) (t_L_load_1t_1 K) tNext)
def t_L_load_2 (K : PySem.W.Frag) : TS := (tRet (tOp (yIx K) (zV 0) (zV 2)))
def t_L_load (K : PySem.W.Frag) : TS := (tSeq (t_L_load_1 K) (t_L_load_2 K))
def t_L_clean_1t_1 (K : PySem.W.Frag) : TS := (tAsg (tOp (yIx K) (tOp (yIx K) (zV 0) (zV 2)) (tC (.int 0))) (gSub (zV 1) (tOp yMul (tC (.int 2)) (zV 2)) ySet))
def t_L_clean_1t_2 (K : PySem.W.Frag) : TS := (tAsg (tOp (yIx K) (tOp (yIx K) (zV 0) (zV 2)) (tC (.int 1))) (gSub (zV 1) (tOp yAdd (tOp yMul (tC (.int 2)) (zV 2)) (tC (.int 1))) ySet))
def t_L_clean_1t_3 (K : PySem.W.Frag) : TS := (tAsg (tLst (tCons (tOp (yIx K) (zV 1) (tOp yMul (tC (.int 2)) (zV 2))) (tCons (tOp (yIx K) (zV 1) (tOp yAdd (tOp yMul (tC (.int 2)) (zV 2)) (tC (.int 1)))) (tCons (tC (.bl false)) tNil)))) (gSub (zV 0) (zV 2) ySet))
def t_L_clean_1 (K : PySem.W.Frag) : TS := (tIfS (tAnd (zB (tOp (yIn K false) (zV 2) (zV 0))) (zB (tOp (yIx K) (tOp (yIx K) (zV 0) (zV 2)) (tC (.int 2))))) (tSeq (t_L_clean_1t_1 K) (tSeq (t_L_clean_1t_2 K) (t_L_clean_1t_3 K))) tNext)
def t_L_clean (K : PySem.W.Frag) : TS := (t_L_clean_1 K)
def t_L_done_1t_1 (K : PySem.W.Frag) : TS := (tDrop (tCall (sp_L_clean K) [] C8.E0 (tCons (zV 1) (tCons (zV 2) (tCons (zV 4) tNil)))))
def t_L_done_1t_2 (K : PySem.W.Frag) : TS := (tRet (zMeth (He.ga K "Lines") "clean" (sp_Lines_clean K) [] C8.E0 (zV 0) (tCons (zV 4) tNil)))
def t_L_done_1 (K : PySem.W.Frag) : TS := (tIfS (zB (tOp (yEq K) (zV 3) (tC (.int 0)))) (tSeq (t_L_done_1t_1 K) (t_L_done_1t_2 K)) tNext)
def t_L_done_2t_1 (K : PySem.W.Frag) : TS := (tDrop (zPop2 (zV 1) (zV 4) (tC .non)))
def t_L_done_2t_2 (K : PySem.W.Frag) : TS := (tRet (zMeth (He.ga K "Lines") "drop" (sp_Lines_drop K) [] C8.E0 (zV 0) (tCons (zV 4) tNil)))
def t_L_done_2 (K : PySem.W.Frag) : TS := (tIfS (zB (tOp (yEq K) (zV 3) (tC (.int 1)))) (tSeq (t_L_done_2t_1 K) (t_L_done_2t_2 K)) tNext)
def t_L_done_3 (K : PySem.W.Frag) : TS := (tDrop (tCall (sp_L_clean K) [] C8.E0 (tCons (zV 1) (tCons (zV 2) (tCons (zV 4) tNil)))))
def t_L_done_4 (K : PySem.W.Frag) : TS := (tDrop (zPop2 (zV 1) (zV 4) (tC .non)))
def t_L_done_5 (K : PySem.W.Frag) : TS := (tRet (zMeth (He.ga K "Lines") "evict" (sp_Lines_evict K) [] C8.E0 (zV 0) (tCons (zV 4) tNil)))
def t_L_done (K : PySem.W.Frag) : TS := (tSeq (t_L_done_1 K) (tSeq (t_L_done_2 K) (tSeq (t_L_done_3 K) (tSeq (t_L_done_4 K) (t_L_done_5 K)))))
def t_law_1b_1 (K : PySem.W.Frag) : TS := (tAsg (tCall (sp_L_bag K) [] C8.E0 (tCons (zV 0) (tCons (zV 1) tNil))) (gName 2))
def t_law_1b_2 (K : PySem.W.Frag) : TS := (tAsg (tOp yMul (tC (.int 2)) (tOp yAdd (tC (.int 1)) (tCall (sp_L_take K) [] C8.E0 (tCons (zV 2) (tCons (tC (.int 5)) tNil))))) (gName 3))
def t_law_1b_3 (K : PySem.W.Frag) : TS := (tAsg (tTup (tCons (zLc (iR1 (zV 3)) (gName 11) tYes (tOp yAdd (tC (.int 100)) (zV 11)) [11]) (tCons (tCB yDict0 tNil) tNil))) (gTup K 2 (gCons (gName 7) (gCons (gName 8) gNil))))
def t_law_1b_4 (K : PySem.W.Frag) : TS := (tAsg (tTup (tCons (tCB (yList K) (tCons (zV 7) tNil)) (tCons (tMake (He.ga K "Lines") (sp_Lines___init__ K) [] C8.E0 (tCons (zV 7) tNil)) tNil))) (gTup K 2 (gCons (gName 9) (gCons (gName 10) gNil))))
def t_law_1b_5b_1 (K : PySem.W.Frag) : TS := (tPar3 11 12 13 (tCons (tCall (sp_L_take K) [] C8.E0 (tCons (zV 2) (tCons (zV 3) tNil))) (tCons (tCall (sp_L_take K) [] C8.E0 (tCons (zV 2) (tCons (tC (.int 8)) tNil))) (tCons (tC .non) tNil))))
def t_law_1b_5b_2t_1 (K : PySem.W.Frag) : TS := (tAsg (tCall (sp_L_done K) [] C8.E0 (tCons (zV 10) (tCons (zV 8) (tCons (zV 9) (tCons (zV 12) (tCons (tOp yDiv (zV 11) (tC (.int 2))) tNil)))))) (gName 13))
def t_law_1b_5b_2f_1t_1 (K : PySem.W.Frag) : TS := (tAsg (tCall (sp_L_load K) [] C8.E0 (tCons (zV 8) (tCons (zV 9) (tCons (tOp yDiv (zV 11) (tC (.int 2))) tNil)))) (gName 14))
def t_law_1b_5b_2f_1t_2 (K : PySem.W.Frag) : TS := (tDrop (zMeth (He.ga K "Lines") "write" (sp_Lines_write K) [] C8.E0 (zV 10) (tCons (zV 11) (tCons (tOp yAdd (tC (.int 1000)) (zV 4)) tNil))))
def t_law_1b_5b_2f_1t_3 (K : PySem.W.Frag) : TS := (tAsg (tOp yAdd (tC (.int 1000)) (zV 4)) (gSub (zV 14) (tOp yMod (zV 11) (tC (.int 2))) ySet))
def t_law_1b_5b_2f_1t_4 (K : PySem.W.Frag) : TS := (tAsg (tC (.bl true)) (gSub (zV 14) (tC (.int 2)) ySet))
def t_law_1b_5b_2f_1f_1t_1 (K : PySem.W.Frag) : TS := (tAsg (tOp yAdd (tC (.int 2000)) (zV 4)) (gSub (zV 7) (zV 11) ySet))
def t_law_1b_5b_2f_1f_1t_2 (K : PySem.W.Frag) : TS := (tAsg (tOp yAdd (tC (.int 2000)) (zV 4)) (gSub (zV 9) (zV 11) ySet))
def t_law_1b_5b_2f_1f_1f_1 (K : PySem.W.Frag) : TS := (tAsg (tCall (sp_L_load K) [] C8.E0 (tCons (zV 8) (tCons (zV 9) (tCons (tOp yDiv (zV 11) (tC (.int 2))) tNil)))) (gName 14))
def t_law_1b_5b_2f_1f_1f_2t_1 (K : PySem.W.Frag) : TS := (tRet (tC (.bl false)))
def t_law_1b_5b_2f_1f_1f_2 (K : PySem.W.Frag) : TS := (tIfS (zB (tOp (yNe K) (zMeth (He.ga K "Lines") "read" (sp_Lines_read K) [] C8.E0 (zV 10) (tCons (zV 11) tNil)) (tOp (yIx K) (zV 14) (tOp yMod (zV 11) (tC (.int 2)))))) (t_law_1b_5b_2f_1f_1f_2t_1 K) tNext)
def t_law_1b_5b_2f_1f_1 (K : PySem.W.Frag) : TS := (tIfS (zB (tOp (yEq K) (zV 12) (tC (.int 5)))) (tSeq (t_law_1b_5b_2f_1f_1t_1 K) (t_law_1b_5b_2f_1f_1t_2 K)) (tSeq (t_law_1b_5b_2f_1f_1f_1 K) (t_law_1b_5b_2f_1f_1f_2 K)))
def t_law_1b_5b_2f_1 (K : PySem.W.Frag) : TS := (tIfS (zB (tOp yLt (zV 12) (tC (.int 5)))) (tSeq (t_law_1b_5b_2f_1t_1 K) (tSeq (t_law_1b_5b_2f_1t_2 K) (tSeq (t_law_1b_5b_2f_1t_3 K) (t_law_1b_5b_2f_1t_4 K)))) (t_law_1b_5b_2f_1f_1 K))
def t_law_1b_5b_2 (K : PySem.W.Frag) : TS := (tIfS (zB (tOp yLt (zV 12) (tC (.int 3)))) (t_law_1b_5b_2t_1 K) (t_law_1b_5b_2f_1 K))
def t_law_1b_5b_3t_1 (K : PySem.W.Frag) : TS := (tRet (tC (.bl false)))
def t_law_1b_5b_3 (K : PySem.W.Frag) : TS := (tIfS (tOr (zB (tOp yNotIs0 (zV 13) (tC .non))) (zB (tOp (yNe K) (zV 7) (zV 9)))) (t_law_1b_5b_3t_1 K) tNext)
def t_law_1b_5b_4t_1 (K : PySem.W.Frag) : TS := (tRet (tC (.bl false)))
def t_law_1b_5b_4 (K : PySem.W.Frag) : TS := (tIfS (zB (tOp (yNe K) (zProp (He.ga K "Lines") (sp_Lines_held K) [] C8.E0 (zV 10)) (tCB (yTuple K) (tCons (zLc (iL K (tCB ySortedKeys (tCons (zV 8) tNil))) (gName 15) tYes (tTup (tCons (zV 15) (tCons (tOp (yIx K) (tOp (yIx K) (zV 8) (zV 15)) (tC (.int 2))) tNil))) [15]) tNil)))) (t_law_1b_5b_4t_1 K) tNext)
def t_law_1b_5 (K : PySem.W.Frag) : TS := (zForR1 (tC (.int 40)) (gName 4) (tSeq (t_law_1b_5b_1 K) (tSeq (t_law_1b_5b_2 K) (tSeq (t_law_1b_5b_3 K) (t_law_1b_5b_4 K)))))
def t_law_1b_6 (K : PySem.W.Frag) : TS := (tAsg (zLc (iR1 (zV 3)) (gName 11) tYes (tCall (sp_L_load K) [] C8.E0 (tCons (zV 8) (tCons (zV 9) (tCons (tOp yDiv (zV 11) (tC (.int 2))) tNil)))) [11]) (gName 5))
def t_law_1b_7 (K : PySem.W.Frag) : TS := (tAsg (zLc (iR1 (zV 3)) (gName 11) tYes (tOp (yIx K) (tOp (yIx K) (zV 5) (zV 11)) (tOp yMod (zV 11) (tC (.int 2)))) [11]) (gName 6))
def t_law_1b_8t_1 (K : PySem.W.Frag) : TS := (tRet (tC (.bl false)))
def t_law_1b_8 (K : PySem.W.Frag) : TS := (tIfS (tOr (zB (tOp (yNe K) (zLc (iR1 (zV 3)) (gName 11) tYes (zMeth (He.ga K "Lines") "read" (sp_Lines_read K) [] C8.E0 (zV 10) (tCons (zV 11) tNil)) [11]) (zV 6))) (zB (tOp (yNe K) (zV 7) (zV 9)))) (t_law_1b_8t_1 K) tNext)
def t_law_1 (K : PySem.W.Frag) : TS := (zForR1 (tCB yMax2 (tCons (tC (.int 2)) (tCons (tCB yMin2 (tCons (tC (.int 6)) (tCons (tCB (yLenS K) (tCons (zV 0) tNil)) tNil))) tNil))) (gName 1) (tSeq (t_law_1b_1 K) (tSeq (t_law_1b_2 K) (tSeq (t_law_1b_3 K) (tSeq (t_law_1b_4 K) (tSeq (t_law_1b_5 K) (tSeq (t_law_1b_6 K) (tSeq (t_law_1b_7 K) (t_law_1b_8 K)))))))))
def t_law_2 (K : PySem.W.Frag) : TS := (tRet (tC (.bl true)))
def t_law (K : PySem.W.Frag) : TS := (tSeq (t_law_1 K) (t_law_2 K))
structure Top (K : PySem.W.Frag) (mg : Str → Option Value) : Prop where
  g_law : mg "law" = some (.ref (He.ga K "law"))
  g_L_bag : mg "_law_bag" = some (.ref (He.ga K "_law_bag"))
  g_L_take : mg "_law_take" = some (.ref (He.ga K "_law_take"))
  g_L_load : mg "_law_load" = some (.ref (He.ga K "_law_load"))
  g_L_clean : mg "_law_clean" = some (.ref (He.ga K "_law_clean"))
  g_L_done : mg "_law_done" = some (.ref (He.ga K "_law_done"))
  f_len : mg "len" = none
  f_abs : mg "abs" = none
  f_max : mg "max" = none
  f_min : mg "min" = none
  f_range : mg "range" = none
  f_list : mg "list" = none
  f_tuple : mg "tuple" = none
  f_dict : mg "dict" = none
  f_sorted : mg "sorted" = none
  m_Run : mg "Run" = some (.ref (He.ga K "Run"))
  m_Lines : mg "Lines" = some (.ref (He.ga K "Lines"))
  cl_Lines : Cls K (He.ga K "Lines")
  na_Lines_cells : NoAttr K (He.ga K "Lines") "cells"
  na_Lines_rows : NoAttr K (He.ga K "Lines") "rows"
  mk_Lines : Mk K (He.ga K "Lines") (He.ma K (He.ga K "Lines") "__init__")
  me_Lines_load : Meth K (He.ga K "Lines") "load" (He.ma K (He.ga K "Lines") "load")
  me_Lines_read : Meth K (He.ga K "Lines") "read" (He.ma K (He.ga K "Lines") "read")
  me_Lines_write : Meth K (He.ga K "Lines") "write" (He.ma K (He.ga K "Lines") "write")
  me_Lines_clean : Meth K (He.ga K "Lines") "clean" (He.ma K (He.ga K "Lines") "clean")
  me_Lines_drop : Meth K (He.ga K "Lines") "drop" (He.ma K (He.ga K "Lines") "drop")
  me_Lines_evict : Meth K (He.ga K "Lines") "evict" (He.ma K (He.ga K "Lines") "evict")
  pr_Lines_held : PropOf K (He.ga K "Lines") "held" (He.ma K (He.ga K "Lines") "held") (Hk.prG "Lines" "held" K)
  k_Run_LINE : Hk.CK K (He.ga K "Run") "LINE" (.int 2)
  d_Lines___init__ : Hk.FN K "__init__" "Lines.__init__" st_Lines___init__ (He.ma K (He.ga K "Lines") "__init__")
  d_Lines_load : Hk.FN K "load" "Lines.load" st_Lines_load (He.ma K (He.ga K "Lines") "load")
  d_Lines_read : Hk.FN K "read" "Lines.read" st_Lines_read (He.ma K (He.ga K "Lines") "read")
  d_Lines_write : Hk.FN K "write" "Lines.write" st_Lines_write (He.ma K (He.ga K "Lines") "write")
  d_Lines_clean : Hk.FN K "clean" "Lines.clean" st_Lines_clean (He.ma K (He.ga K "Lines") "clean")
  d_Lines_drop : Hk.FN K "drop" "Lines.drop" st_Lines_drop (He.ma K (He.ga K "Lines") "drop")
  d_Lines_evict : Hk.FN K "evict" "Lines.evict" st_Lines_evict (He.ma K (He.ga K "Lines") "evict")
  d_Lines_held : Hk.FN K "held" "Lines.held" st_Lines_held (Hk.prG "Lines" "held" K)
  d_L_bag : Hk.FN K "_law_bag" "_law_bag" st_L_bag (He.ga K "_law_bag")
  d_L_take : Hk.FN K "_law_take" "_law_take" st_L_take (He.ga K "_law_take")
  d_L_load : Hk.FN K "_law_load" "_law_load" st_L_load (He.ga K "_law_load")
  d_L_clean : Hk.FN K "_law_clean" "_law_clean" st_L_clean (He.ga K "_law_clean")
  d_L_done : Hk.FN K "_law_done" "_law_done" st_L_done (He.ga K "_law_done")
  d_law : Hk.FN K "law" "law" st_law (He.ga K "law")
theorem use_take {K : PySem.W.Frag} {H : Hp} {Q : VK} {E : XK} {b : Addr} {o : HO} {m n : Int} (hb : H b = some o) (ho : BagO o n) (hm : 0 < m) (hm2 : m < 1000000000) (hn : n ≤ 1000000) (k : ∀ d o', 0 ≤ d → d < m → BagO o' (n + 1) → Q (.int d) (upd H b o')) : sp_L_take K [.ref b, .int m] H Q E :=
  ⟨b, o, m, n, rfl, hb, ho, hm, hm2, hn, k⟩
theorem rd_L_take {K : PySem.W.Frag} {mg : Str → Option Value} (T : Top K mg) : ∀ vs H Q E, sp_L_take K vs H Q E → t_L_take K { nx := fun _ H' => Q .non H', rt := Q } (start nm_L_take vs) H := by
  rintro vs H Q E ⟨b, o, m, n, rfl, hb, ⟨L, M, c, rfl, h1, h2, h3, h4, h5⟩, hm, hm2, hn, k⟩
  rw [start_L_take]
  unfold t_L_take t_L_take_1
  simp only [tSeq, tAsg, tIfS, tRet, tRetN, tDrop, tNext, tPar, tPar3, gName, gSub, gTup, gCons, gNil, zV, tC, tOp, tUn, tCons, tNil, tLst, tTup, tIf, tAnd, tOr, tNot, tYes, zB, zAnd, zOr, zNot, zChain, tDNewK, yAdd, ySub, yMul, yDiv, yMod, yPow, yNeg, yLt, yLe, yGt, yGe, yEq, yNe, yIs0, yNotIs0, yIx, ySet, yIn, sqAt, isNone, zFld, zSetF, insAt, zMeth, zProp, tCall, tMake, tCB, yLen, yAbs, yMax2, yMin2, yList, yTuple, yDict0, zLM, yApp, isLst, dkAt, keyOf, zGet1, zGet2, zPop1, zPop2, zForR1, zForR2, zForL, zForT, Z.intAt, refAt, zLc, iR1, iR2, iL, iT, wipe, List.getElem?_cons_zero, List.getElem?_cons_succ, List.set_cons_zero, List.set_cons_succ, List.cons_append, List.nil_append, List.append_nil, upd_same, at0, at1, at2, ix0, ix1, ix2, upd_upd, ite_true, ite_false, if_true, if_false, Bool.false_eq_true, decide_true, decide_false, reduceIte, true_and, and_true, Option.isSome_none, Option.isSome_some, Bool.not_false, Bool.not_true, hb]
  by_cases hL : 0 < L
  · simp only [tSeq, tAsg, tIfS, tRet, tRetN, tDrop, tNext, tPar, tPar3, gName, gSub, gTup, gCons, gNil, zV, tC, tOp, tUn, tCons, tNil, tLst, tTup, tIf, tAnd, tOr, tNot, tYes, zB, zAnd, zOr, zNot, zChain, tDNewK, yAdd, ySub, yMul, yDiv, yMod, yPow, yNeg, yLt, yLe, yGt, yGe, yEq, yNe, yIs0, yNotIs0, yIx, ySet, yIn, sqAt, isNone, zFld, zSetF, insAt, zMeth, zProp, tCall, tMake, tCB, yLen, yAbs, yMax2, yMin2, yList, yTuple, yDict0, zLM, yApp, isLst, dkAt, keyOf, zGet1, zGet2, zPop1, zPop2, zForR1, zForR2, zForL, zForT, Z.intAt, refAt, zLc, iR1, iR2, iL, iT, wipe, List.getElem?_cons_zero, List.getElem?_cons_succ, List.set_cons_zero, List.set_cons_succ, List.cons_append, List.nil_append, List.append_nil, upd_same, at0, at1, at2, ix0, ix1, ix2, upd_upd, ite_true, ite_false, if_true, if_false, Bool.false_eq_true, decide_true, decide_false, reduceIte, true_and, and_true, Option.isSome_none, Option.isSome_some, Bool.not_false, Bool.not_true, hL, t_L_take_1t_1, t_L_take_1t_2, t_L_take_1t_3, hb]
    refine ⟨hm, ⟨hm, by omega⟩, ?_⟩
    exact k _ _ (Int.emod_nonneg _ (by omega)) (Int.emod_lt_of_pos _ hm) ⟨L / m, M, c, rfl, Int.ediv_nonneg h1 (by omega), h2, h3, h4, by omega⟩
  · simp only [tSeq, tAsg, tIfS, tRet, tRetN, tDrop, tNext, tPar, tPar3, gName, gSub, gTup, gCons, gNil, zV, tC, tOp, tUn, tCons, tNil, tLst, tTup, tIf, tAnd, tOr, tNot, tYes, zB, zAnd, zOr, zNot, zChain, tDNewK, yAdd, ySub, yMul, yDiv, yMod, yPow, yNeg, yLt, yLe, yGt, yGe, yEq, yNe, yIs0, yNotIs0, yIx, ySet, yIn, sqAt, isNone, zFld, zSetF, insAt, zMeth, zProp, tCall, tMake, tCB, yLen, yAbs, yMax2, yMin2, yList, yTuple, yDict0, zLM, yApp, isLst, dkAt, keyOf, zGet1, zGet2, zPop1, zPop2, zForR1, zForR2, zForL, zForT, Z.intAt, refAt, zLc, iR1, iR2, iL, iT, wipe, List.getElem?_cons_zero, List.getElem?_cons_succ, List.set_cons_zero, List.set_cons_succ, List.cons_append, List.nil_append, List.append_nil, upd_same, at0, at1, at2, ix0, ix1, ix2, upd_upd, ite_true, ite_false, if_true, if_false, Bool.false_eq_true, decide_true, decide_false, reduceIte, true_and, and_true, Option.isSome_none, Option.isSome_some, Bool.not_false, Bool.not_true, hL, t_L_take_2, t_L_take_3, t_L_take_4, hb]
    have q1 : (c + 1) * (c + 1) ≤ 1000001 * 1000001 := Int.mul_le_mul (by omega) (by omega) (by omega) (by omega)
    have q0 : 0 ≤ (c + 1) * (c + 1) := Int.mul_nonneg (by omega) (by omega)
    have e1 : 8081 * (c + 1) * (c + 1) = 8081 * ((c + 1) * (c + 1)) := Int.mul_assoc _ _ _
    have q2 : (M + 8081 * (c + 1) * (c + 1)).natAbs < 2 ^ 64 := by
      rw [e1]
      generalize (c + 1) * (c + 1) = z at q0 q1
      omega
    generalize M + 8081 * (c + 1) * (c + 1) = y at q2
    generalize hx : y ^ Int.toNat 3 % 2147483563 = x
    have x0 : 0 ≤ x := by rw [← hx]; exact Int.emod_nonneg _ (by decide)
    have x1 : x < 2147483563 := by rw [← hx]; exact Int.emod_lt_of_pos _ (by decide)
    refine ⟨.inl ⟨by decide, by decide⟩, .inr ⟨by omega, by omega⟩, ⟨by decide, by decide, q2⟩, by decide, ⟨by decide, by decide⟩, .inl ⟨by decide, by decide⟩, .inl ⟨by omega, by omega⟩, by decide, ⟨by decide, by decide⟩, hm, ?_⟩
    exact k _ _ (Int.emod_nonneg _ (by omega)) (Int.emod_lt_of_pos _ hm) ⟨L, M, c + 1, rfl, h1, h2, h3, by omega, by omega⟩
theorem rd_L_bag {K : PySem.W.Frag} {mg : Str → Option Value} (T : Top K mg) : ∀ vs H Q E, sp_L_bag K vs H Q E → t_L_bag K { nx := fun _ H' => Q .non H', rt := Q } (start nm_L_bag vs) H := by
  rintro vs H Q E ⟨a, i, ns, rfl, hS, h0, h1, k⟩
  rw [start_L_bag]
  have key : ∀ N : Int, t_L_bag_2 K { nx := t_L_bag_3 K { nx := fun x H' => Q V.non H', rt := Q }, rt := Q } [some (V.ref a), some (V.int i), some (V.int N), none] H := by
    intro N
    have key2 : ∀ L : Int, 0 ≤ L → t_L_bag_3 K { nx := fun x H' => Q V.non H', rt := Q } [some (V.ref a), some (V.int i), some (V.int N), some (V.int L)] H := by
      intro L hL
      unfold t_L_bag_3
      simp only [tSeq, tAsg, tIfS, tRet, tRetN, tDrop, tNext, tPar, tPar3, gName, gSub, gTup, gCons, gNil, zV, tC, tOp, tUn, tCons, tNil, tLst, tTup, tIf, tAnd, tOr, tNot, tYes, zB, zAnd, zOr, zNot, zChain, tDNewK, yAdd, ySub, yMul, yDiv, yMod, yPow, yNeg, yLt, yLe, yGt, yGe, yEq, yNe, yIs0, yNotIs0, yIx, ySet, yIn, sqAt, isNone, zFld, zSetF, insAt, zMeth, zProp, tCall, tMake, tCB, yLen, yAbs, yMax2, yMin2, yList, yTuple, yDict0, zLM, yApp, isLst, dkAt, keyOf, zGet1, zGet2, zPop1, zPop2, zForR1, zForR2, zForL, zForT, Z.intAt, refAt, zLc, iR1, iR2, iL, iT, wipe, List.getElem?_cons_zero, List.getElem?_cons_succ, List.set_cons_zero, List.set_cons_succ, List.cons_append, List.nil_append, List.append_nil, upd_same, at0, at1, at2, ix0, ix1, ix2, upd_upd, ite_true, ite_false, if_true, if_false, Bool.false_eq_true, decide_true, decide_false, reduceIte, true_and, and_true, Option.isSome_none, Option.isSome_some, Bool.not_false, Bool.not_true]
      have e0 : (10 : Int) ^ Int.toNat 18 = 1000000000000000000 := by decide
      rw [e0]
      have m0 : 0 ≤ N % (1000000000000000000 + 9) := Int.emod_nonneg _ (by decide)
      have m1 : N % (1000000000000000000 + 9) < 1000000000000000000 + 9 := Int.emod_lt_of_pos _ (by decide)
      refine ⟨⟨by decide, by decide, by decide⟩, by decide, .inr ⟨by decide, by decide⟩, .inl ⟨by decide, by decide⟩, by show 3 ≤ sizeLine; decide, fun p hp => ?_⟩
      exact k _ _ hp ⟨_, _, _, rfl, hL, by omega, by omega, by omega, by omega⟩
    unfold t_L_bag_2
    simp only [tSeq, tAsg, tIfS, tRet, tRetN, tDrop, tNext, tPar, tPar3, gName, gSub, gTup, gCons, gNil, zV, tC, tOp, tUn, tCons, tNil, tLst, tTup, tIf, tAnd, tOr, tNot, tYes, zB, zAnd, zOr, zNot, zChain, tDNewK, yAdd, ySub, yMul, yDiv, yMod, yPow, yNeg, yLt, yLe, yGt, yGe, yEq, yNe, yIs0, yNotIs0, yIx, ySet, yIn, sqAt, isNone, zFld, zSetF, insAt, zMeth, zProp, tCall, tMake, tCB, yLen, yAbs, yMax2, yMin2, yList, yTuple, yDict0, zLM, yApp, isLst, dkAt, keyOf, zGet1, zGet2, zPop1, zPop2, zForR1, zForR2, zForL, zForT, Z.intAt, refAt, zLc, iR1, iR2, iL, iT, wipe, List.getElem?_cons_zero, List.getElem?_cons_succ, List.set_cons_zero, List.set_cons_succ, List.cons_append, List.nil_append, List.append_nil, upd_same, at0, at1, at2, ix0, ix1, ix2, upd_upd, ite_true, ite_false, if_true, if_false, Bool.false_eq_true, decide_true, decide_false, reduceIte, true_and, and_true, Option.isSome_none, Option.isSome_some, Bool.not_false, Bool.not_true]
    have e0 : (10 : Int) ^ Int.toNat 18 = 1000000000000000000 := by decide
    rw [e0]
    refine ⟨⟨by decide, by decide, by decide⟩, ?_⟩
    have hz : 0 ≤ (if N < 0 then -N else N) := by split <;> omega
    by_cases hN : (1000000000000000000 : Int) ≤ (if N < 0 then -N else N)
    · rw [decide_eq_true hN]
      simp only [tSeq, tAsg, tIfS, tRet, tRetN, tDrop, tNext, tPar, tPar3, gName, gSub, gTup, gCons, gNil, zV, tC, tOp, tUn, tCons, tNil, tLst, tTup, tIf, tAnd, tOr, tNot, tYes, zB, zAnd, zOr, zNot, zChain, tDNewK, yAdd, ySub, yMul, yDiv, yMod, yPow, yNeg, yLt, yLe, yGt, yGe, yEq, yNe, yIs0, yNotIs0, yIx, ySet, yIn, sqAt, isNone, zFld, zSetF, insAt, zMeth, zProp, tCall, tMake, tCB, yLen, yAbs, yMax2, yMin2, yList, yTuple, yDict0, zLM, yApp, isLst, dkAt, keyOf, zGet1, zGet2, zPop1, zPop2, zForR1, zForR2, zForL, zForT, Z.intAt, refAt, zLc, iR1, iR2, iL, iT, wipe, List.getElem?_cons_zero, List.getElem?_cons_succ, List.set_cons_zero, List.set_cons_succ, List.cons_append, List.nil_append, List.append_nil, upd_same, at0, at1, at2, ix0, ix1, ix2, upd_upd, ite_true, ite_false, if_true, if_false, Bool.false_eq_true, decide_true, decide_false, reduceIte, true_and, and_true, Option.isSome_none, Option.isSome_some, Bool.not_false, Bool.not_true]
      exact key2 _ hz
    · rw [decide_eq_false hN]
      simp only [tSeq, tAsg, tIfS, tRet, tRetN, tDrop, tNext, tPar, tPar3, gName, gSub, gTup, gCons, gNil, zV, tC, tOp, tUn, tCons, tNil, tLst, tTup, tIf, tAnd, tOr, tNot, tYes, zB, zAnd, zOr, zNot, zChain, tDNewK, yAdd, ySub, yMul, yDiv, yMod, yPow, yNeg, yLt, yLe, yGt, yGe, yEq, yNe, yIs0, yNotIs0, yIx, ySet, yIn, sqAt, isNone, zFld, zSetF, insAt, zMeth, zProp, tCall, tMake, tCB, yLen, yAbs, yMax2, yMin2, yList, yTuple, yDict0, zLM, yApp, isLst, dkAt, keyOf, zGet1, zGet2, zPop1, zPop2, zForR1, zForR2, zForL, zForT, Z.intAt, refAt, zLc, iR1, iR2, iL, iT, wipe, List.getElem?_cons_zero, List.getElem?_cons_succ, List.set_cons_zero, List.set_cons_succ, List.cons_append, List.nil_append, List.append_nil, upd_same, at0, at1, at2, ix0, ix1, ix2, upd_upd, ite_true, ite_false, if_true, if_false, Bool.false_eq_true, decide_true, decide_false, reduceIte, true_and, and_true, Option.isSome_none, Option.isSome_some, Bool.not_false, Bool.not_true]
      exact key2 _ (by decide)
  unfold t_L_bag t_L_bag_1
  simp only [tSeq, tAsg, tIfS, tRet, tRetN, tDrop, tNext, tPar, tPar3, gName, gSub, gTup, gCons, gNil, zV, tC, tOp, tUn, tCons, tNil, tLst, tTup, tIf, tAnd, tOr, tNot, tYes, zB, zAnd, zOr, zNot, zChain, tDNewK, yAdd, ySub, yMul, yDiv, yMod, yPow, yNeg, yLt, yLe, yGt, yGe, yEq, yNe, yIs0, yNotIs0, yIx, ySet, yIn, sqAt, isNone, zFld, zSetF, insAt, zMeth, zProp, tCall, tMake, tCB, yLen, yAbs, yMax2, yMin2, yList, yTuple, yDict0, zLM, yApp, isLst, dkAt, keyOf, zGet1, zGet2, zPop1, zPop2, zForR1, zForR2, zForL, zForT, Z.intAt, refAt, zLc, iR1, iR2, iL, iT, wipe, List.getElem?_cons_zero, List.getElem?_cons_succ, List.set_cons_zero, List.set_cons_succ, List.cons_append, List.nil_append, List.append_nil, upd_same, at0, at1, at2, ix0, ix1, ix2, upd_upd, ite_true, ite_false, if_true, if_false, Bool.false_eq_true, decide_true, decide_false, reduceIte, true_and, and_true, Option.isSome_none, Option.isSome_some, Bool.not_false, Bool.not_true]
  refine ⟨a, _, rfl, hS, ?_⟩
  simp only [tSeq, tAsg, tIfS, tRet, tRetN, tDrop, tNext, tPar, tPar3, gName, gSub, gTup, gCons, gNil, zV, tC, tOp, tUn, tCons, tNil, tLst, tTup, tIf, tAnd, tOr, tNot, tYes, zB, zAnd, zOr, zNot, zChain, tDNewK, yAdd, ySub, yMul, yDiv, yMod, yPow, yNeg, yLt, yLe, yGt, yGe, yEq, yNe, yIs0, yNotIs0, yIx, ySet, yIn, sqAt, isNone, zFld, zSetF, insAt, zMeth, zProp, tCall, tMake, tCB, yLen, yAbs, yMax2, yMin2, yList, yTuple, yDict0, zLM, yApp, isLst, dkAt, keyOf, zGet1, zGet2, zPop1, zPop2, zForR1, zForR2, zForL, zForT, Z.intAt, refAt, zLc, iR1, iR2, iL, iT, wipe, List.getElem?_cons_zero, List.getElem?_cons_succ, List.set_cons_zero, List.set_cons_succ, List.cons_append, List.nil_append, List.append_nil, upd_same, at0, at1, at2, ix0, ix1, ix2, upd_upd, ite_true, ite_false, if_true, if_false, Bool.false_eq_true, decide_true, decide_false, reduceIte, true_and, and_true, Option.isSome_none, Option.isSome_some, Bool.not_false, Bool.not_true]
  by_cases hi : i < ((ns.map V.int).length : Int)
  · rw [decide_eq_true hi]
    simp only [tSeq, tAsg, tIfS, tRet, tRetN, tDrop, tNext, tPar, tPar3, gName, gSub, gTup, gCons, gNil, zV, tC, tOp, tUn, tCons, tNil, tLst, tTup, tIf, tAnd, tOr, tNot, tYes, zB, zAnd, zOr, zNot, zChain, tDNewK, yAdd, ySub, yMul, yDiv, yMod, yPow, yNeg, yLt, yLe, yGt, yGe, yEq, yNe, yIs0, yNotIs0, yIx, ySet, yIn, sqAt, isNone, zFld, zSetF, insAt, zMeth, zProp, tCall, tMake, tCB, yLen, yAbs, yMax2, yMin2, yList, yTuple, yDict0, zLM, yApp, isLst, dkAt, keyOf, zGet1, zGet2, zPop1, zPop2, zForR1, zForR2, zForL, zForT, Z.intAt, refAt, zLc, iR1, iR2, iL, iT, wipe, List.getElem?_cons_zero, List.getElem?_cons_succ, List.set_cons_zero, List.set_cons_succ, List.cons_append, List.nil_append, List.append_nil, upd_same, at0, at1, at2, ix0, ix1, ix2, upd_upd, ite_true, ite_false, if_true, if_false, Bool.false_eq_true, decide_true, decide_false, reduceIte, true_and, and_true, Option.isSome_none, Option.isSome_some, Bool.not_false, Bool.not_true]
    have hl : i.toNat < ns.length := by rw [List.length_map] at hi; omega
    exact ⟨a, _, i, .int ns[i.toNat], rfl, rfl, hS, at_of (j := i.toNat) (by omega) (by rw [List.getElem?_map, List.getElem?_eq_getElem hl]; rfl), key _⟩
  · rw [decide_eq_false hi]
    simp only [tSeq, tAsg, tIfS, tRet, tRetN, tDrop, tNext, tPar, tPar3, gName, gSub, gTup, gCons, gNil, zV, tC, tOp, tUn, tCons, tNil, tLst, tTup, tIf, tAnd, tOr, tNot, tYes, zB, zAnd, zOr, zNot, zChain, tDNewK, yAdd, ySub, yMul, yDiv, yMod, yPow, yNeg, yLt, yLe, yGt, yGe, yEq, yNe, yIs0, yNotIs0, yIx, ySet, yIn, sqAt, isNone, zFld, zSetF, insAt, zMeth, zProp, tCall, tMake, tCB, yLen, yAbs, yMax2, yMin2, yList, yTuple, yDict0, zLM, yApp, isLst, dkAt, keyOf, zGet1, zGet2, zPop1, zPop2, zForR1, zForR2, zForL, zForT, Z.intAt, refAt, zLc, iR1, iR2, iL, iT, wipe, List.getElem?_cons_zero, List.getElem?_cons_succ, List.set_cons_zero, List.set_cons_succ, List.cons_append, List.nil_append, List.append_nil, upd_same, at0, at1, at2, ix0, ix1, ix2, upd_upd, ite_true, ite_false, if_true, if_false, Bool.false_eq_true, decide_true, decide_false, reduceIte, true_and, and_true, Option.isSome_none, Option.isSome_some, Bool.not_false, Bool.not_true]
    exact key 0

/-! ### rows: facts -/
theorem kvs_len (E : List Ent) : (kvsOf E).length = E.length := by unfold kvsOf; rw [List.length_map]
theorem kvs_none {E : List Ent} {l : Int} (h : ∀ e ∈ E, e.line ≠ l) : valV (kvsOf E) (Sum.inl l : Key) = none := by
  unfold valV kvsOf
  rw [List.find?_map]
  have e : E.find? ((fun kv : Key × V => decide (kv.1 = Sum.inl l)) ∘ fun e => (Sum.inl e.line, V.ref e.addr)) = none := by
    rw [List.find?_eq_none]
    intro x hx
    have := h x hx
    simp only [Function.comp, decide_eq_true_eq]
    intro q
    exact this (Sum.inl.inj q)
  rw [e] <;> rfl
theorem find_line {E : List Ent} {e : Ent} (hn : (E.map (·.line)).Nodup) (he : e ∈ E) : E.find? (fun x => x.line == e.line) = some e := by
  induction E with
  | nil => cases he
  | cons x r ih =>
    rw [List.map_cons, List.nodup_cons] at hn
    rcases List.mem_cons.mp he with q | q
    · subst q
      rw [List.find?_cons_of_pos (by simp)]
    · have ne : x.line ≠ e.line := fun z => hn.1 (by rw [z]; exact List.mem_map_of_mem q)
      rw [List.find?_cons_of_neg (by simpa using ne)]
      exact ih hn.2 q
theorem kvs_some {E : List Ent} {e : Ent} (hn : (E.map (·.line)).Nodup) (he : e ∈ E) : valV (kvsOf E) (Sum.inl e.line : Key) = some (.ref e.addr) := by
  unfold valV kvsOf
  rw [List.find?_map]
  have q : E.find? ((fun kv : Key × V => decide (kv.1 = Sum.inl e.line)) ∘ fun e => (Sum.inl e.line, V.ref e.addr)) = some e := by
    rw [← find_line hn he]
    congr 1
    funext x
    simp only [Function.comp]
    rw [Bool.eq_iff_iff]
    simp
  rw [q] <;> rfl
theorem kvs_put {E : List Ent} {l : Int} {r : Addr} {v0 v1 : Int} {b : Bool} (h : ∀ e ∈ E, e.line ≠ l) : putK (kvsOf E) (Sum.inl l : Key) (.ref r) = kvsOf (E ++ [⟨l, r, v0, v1, b⟩]) := by
  rw [putK_new _ (kvs_none h)]
  unfold kvsOf
  rw [List.map_append] <;> rfl
theorem line_cases (E : List Ent) (l : Int) : (∃ e ∈ E, e.line = l) ∨ ∀ e ∈ E, e.line ≠ l := by
  by_cases h : ∃ e ∈ E, e.line = l
  · exact .inl h
  · exact .inr fun e he q => h ⟨e, he, q⟩
theorem RowsAt.d_ne {H : Hp} {d : Addr} {E : List Ent} (R : RowsAt H d E) : ∀ e ∈ E, e.addr ≠ d := fun e he q => by
  have h1 := R.rows e he
  rw [q, R.dc] at h1
  cases h1
theorem RowsAt.frame {H : Hp} {d p : Addr} {o : HO} {E : List Ent} (R : RowsAt H d E) (h1 : p ≠ d) (h2 : ∀ e ∈ E, e.addr ≠ p) : RowsAt (upd H p o) d E :=
  ⟨by rw [upd_ne h1.symm]; exact R.dc, fun e he => by rw [upd_ne (h2 e he)]; exact R.rows e he, R.nl, R.na⟩
theorem RowsAt.new {H : Hp} {d p : Addr} {o : HO} {E : List Ent} (R : RowsAt H d E) (h : H p = none) : RowsAt (upd H p o) d E :=
  R.frame (ne_of_none R.dc h).symm fun e he => ne_of_none (R.rows e he) h
theorem RowsAt.same {H H' : Hp} {d : Addr} {E : List Ent} (R : RowsAt H d E) (s : Same H H') : RowsAt H' d E := ⟨s _ _ R.dc, fun e he => s _ _ (R.rows e he), R.nl, R.na⟩
theorem RowsAt.load {H : Hp} {d r : Addr} {E : List Ent} {l v0 v1 : Int} {b : Bool} (R : RowsAt H d E) (ha : ∀ e ∈ E, e.line ≠ l) (hr : H r = none) :
    RowsAt (upd (upd H r (.lst [.int v0, .int v1, .bl b])) d (.dK (kvsOf (E ++ [⟨l, r, v0, v1, b⟩])))) d (E ++ [⟨l, r, v0, v1, b⟩]) := by
  have nrd : r ≠ d := (ne_of_none R.dc hr).symm
  refine ⟨upd_same, fun e he => ?_, ?_, ?_⟩
  · rcases List.mem_append.mp he with q | q
    · rw [upd_ne (R.d_ne e q), upd_ne (ne_of_none (R.rows e q) hr)]
      exact R.rows e q
    · obtain rfl : e = _ := List.mem_singleton.mp q
      show upd _ d _ r = _
      rw [upd_ne nrd, upd_same] <;> rfl
  · rw [List.map_append, List.nodup_append]
    refine ⟨R.nl, by simp, fun a h1 c h2 => ?_⟩
    obtain ⟨e, he, rfl⟩ := List.mem_map.mp h1
    have : c = l := by simpa using h2
    rw [this]
    exact ha e he
  · rw [List.map_append, List.nodup_append]
    refine ⟨R.na, by simp, fun a h1 c h2 => ?_⟩
    obtain ⟨e, he, rfl⟩ := List.mem_map.mp h1
    have : c = r := by simpa using h2
    rw [this]
    exact ne_of_none (R.rows e he) hr
/-- an entry changed at its line -/
def setE (E : List Ent) (l : Int) (f : Ent → Ent) : List Ent := E.map fun e => if e.line = l then f e else e
theorem setE_len (E : List Ent) (l : Int) (f : Ent → Ent) : (setE E l f).length = E.length := by unfold setE; rw [List.length_map]
theorem setE_lines {E : List Ent} {l : Int} {f : Ent → Ent} (hf : ∀ e, (f e).line = e.line) : (setE E l f).map (·.line) = E.map (·.line) := by
  unfold setE
  rw [List.map_map]
  refine List.map_congr_left fun e _ => ?_
  simp only [Function.comp]
  split <;> simp [hf]
theorem setE_addrs {E : List Ent} {l : Int} {f : Ent → Ent} (hf : ∀ e, (f e).addr = e.addr) : (setE E l f).map (·.addr) = E.map (·.addr) := by
  unfold setE
  rw [List.map_map]
  refine List.map_congr_left fun e _ => ?_
  simp only [Function.comp]
  split <;> simp [hf]
theorem setE_kvs {E : List Ent} {l : Int} {f : Ent → Ent} (hf : ∀ e, (f e).line = e.line) (hg : ∀ e, (f e).addr = e.addr) : kvsOf (setE E l f) = kvsOf E := by
  unfold kvsOf setE
  rw [List.map_map]
  refine List.map_congr_left fun e _ => ?_
  simp only [Function.comp]
  split <;> simp [hf, hg]
theorem RowsAt.set {H : Hp} {d : Addr} {E : List Ent} {e : Ent} {f : Ent → Ent} (R : RowsAt H d E) (he : e ∈ E) (hf : ∀ e, (f e).line = e.line) (hg : ∀ e, (f e).addr = e.addr) : RowsAt (upd H e.addr (f e).row) d (setE E e.line f) := by
  refine ⟨?_, fun x hx => ?_, ?_, ?_⟩
  · rw [upd_ne (R.d_ne e he).symm, setE_kvs hf hg]
    exact R.dc
  · unfold setE at hx
    obtain ⟨y, hy, rfl⟩ := List.mem_map.mp hx
    by_cases q : y.line = e.line
    · have ey : y = e := by
        have h1 := find_line R.nl hy
        have h2 := find_line R.nl he
        rw [q, h2] at h1
        exact (Option.some.inj h1).symm
      subst ey
      rw [if_pos rfl, hg, upd_same]
    · rw [if_neg q]
      have na : y.addr ≠ e.addr := fun z => by
        obtain ⟨i, hi, rfl⟩ := List.getElem_of_mem hy
        obtain ⟨j, hj, rfl⟩ := List.getElem_of_mem he
        have : i = j := (List.getElem_inj (xs := E.map (·.addr)) (h₀ := by simpa using hi) (h₁ := by simpa using hj) R.na).mp (by simpa using z)
        subst this
        exact q rfl
      rw [upd_ne na]
      exact R.rows y hy
  · rw [setE_lines hf]; exact R.nl
  · rw [setE_addrs hg]; exact R.na
theorem RowsAt.uniq {H : Hp} {d : Addr} {E : List Ent} {e f : Ent} (R : RowsAt H d E) (he : e ∈ E) (hf : f ∈ E) (h : e.line = f.line) : e = f := by
  have h1 := find_line R.nl he
  have h2 := find_line R.nl hf
  rw [h, h2] at h1
  exact (Option.some.inj h1).symm
theorem at_nat {α : Type} {xs : List α} {i : Int} {v : α} (h0 : 0 ≤ i) (h : xs[i.toNat]? = some v) : atI xs i = some v := by
  have hl := (List.getElem?_eq_some_iff.mp h).1
  unfold atI ixN
  rw [if_pos h0, if_pos (by omega)]
  exact h
theorem ix_nat {n : Nat} {i : Int} (h0 : 0 ≤ i) (h : i < n) : ixN n i = some i.toNat := by
  unfold ixN
  rw [if_pos h0, if_pos h]

theorem LoadTo.imp {H : Hp} {d : Addr} {E : List Ent} {cs : List Int} {l : Int} {R1 R2 : List Ent → Hp → Prop} (R : RowsAt H d E) (h : LoadTo H d E cs l R1)
    (k : ∀ E' H', R1 E' H' → RowsAt H' d E' → (∃ e ∈ E', e.line = l) → (∀ a o, H a = some o → a ≠ d → H' a = some o) → R2 E' H') : LoadTo H d E cs l R2 := by
  refine ⟨fun he => k E H (h.1 he) R he (fun _ _ q _ => q), fun ha r v0 v1 hr e0 e1 => ?_⟩
  refine k _ _ (h.2 ha r v0 v1 hr e0 e1) (R.load ha hr) ⟨_, List.mem_append_right _ (List.mem_singleton.mpr rfl), rfl⟩ fun a o q hd => ?_
  rw [upd_ne hd, upd_ne (ne_of_none q hr)]
  exact q
def Loaded (E : List Ent) (cs : List Int) (l : Int) (H : Hp) (E' : List Ent) : Prop :=
  ((∃ e ∈ E, e.line = l) ∧ E' = E) ∨ ((∀ e ∈ E, e.line ≠ l) ∧ ∃ r v0 v1, H r = none ∧ E' = E ++ [⟨l, r, v0, v1, false⟩] ∧ cs[(2 * l).toNat]? = some v0 ∧ cs[(2 * l + 1).toNat]? = some v1)
theorem LoadTo.loaded {H : Hp} {d : Addr} {E : List Ent} {cs : List Int} {l : Int} : LoadTo H d E cs l fun E' _ => Loaded E cs l H E' :=
  ⟨fun he => .inl ⟨he, rfl⟩, fun ha r v0 v1 hr e0 e1 => .inr ⟨ha, r, v0, v1, hr, rfl, e0, e1⟩⟩
theorem LoadTo.of {H : Hp} {d : Addr} {E : List Ent} {cs : List Int} {l : Int} {R2 : List Ent → Hp → Prop} (R : RowsAt H d E)
    (k : ∀ E' H', Loaded E cs l H E' → RowsAt H' d E' → (∃ e ∈ E', e.line = l) → (∀ a o, H a = some o → a ≠ d → H' a = some o) → R2 E' H') : LoadTo H d E cs l R2 := LoadTo.imp R LoadTo.loaded k
theorem LinesAt.keep {K : PySem.W.Frag} {H H' : Hp} {x c d d' : Addr} {kvs : List (Key × V)} (h : LinesAt K H x c d) (hd : H d' = some (.dK kvs)) (k : ∀ a o, H a = some o → a ≠ d' → H' a = some o) : LinesAt K H' x c d := by
  obtain ⟨dx, hx⟩ := h
  exact ⟨dx, k _ _ hx (ne_of hx hd (by intro z; cases z))⟩
theorem rd_Lines___init__ {K : PySem.W.Frag} {mg : Str → Option Value} (T : Top K mg) : ∀ vs H Q E, sp_Lines___init__ K vs H Q E → t_Lines___init__ K { nx := fun _ H' => Q .non H', rt := Q } (start nm_Lines___init__ vs) H := by
  rintro vs H Q E ⟨x, c, dx, rfl, hx, k⟩
  rw [start_Lines___init__]
  unfold t_Lines___init__ t_Lines___init___1
  simp only [tSeq, tAsg, tIfS, tRet, tRetN, tDrop, tNext, tPar, tPar3, gName, gSub, gTup, gCons, gNil, zV, tC, tOp, tUn, tCons, tNil, tLst, tTup, tIf, tAnd, tOr, tNot, tYes, zB, zAnd, zOr, zNot, zChain, tDNewK, yAdd, ySub, yMul, yDiv, yMod, yPow, yNeg, yLt, yLe, yGt, yGe, yEq, yNe, yIs0, yNotIs0, yIx, ySet, yIn, sqAt, isNone, zFld, zSetF, insAt, zMeth, zProp, tCall, tMake, tCB, yLen, yAbs, yMax2, yMin2, yList, yTuple, yDict0, zLM, yApp, isLst, dkAt, keyOf, zGet1, zGet2, zPop1, zPop2, zForR1, zForR2, zForL, zForT, Z.intAt, refAt, zLc, iR1, iR2, iL, iT, wipe, List.getElem?_cons_zero, List.getElem?_cons_succ, List.set_cons_zero, List.set_cons_succ, List.cons_append, List.nil_append, List.append_nil, upd_same, at0, at1, at2, ix0, ix1, ix2, upd_upd, ite_true, ite_false, if_true, if_false, Bool.false_eq_true, decide_true, decide_false, reduceIte, true_and, and_true, Option.isSome_none, Option.isSome_some, Bool.not_false, Bool.not_true, hx]
  refine ⟨⟨T.cl_Lines, T.na_Lines_cells, by decide⟩, ?_⟩
  unfold t_Lines___init___2
  simp only [tSeq, tAsg, tIfS, tRet, tRetN, tDrop, tNext, tPar, tPar3, gName, gSub, gTup, gCons, gNil, zV, tC, tOp, tUn, tCons, tNil, tLst, tTup, tIf, tAnd, tOr, tNot, tYes, zB, zAnd, zOr, zNot, zChain, tDNewK, yAdd, ySub, yMul, yDiv, yMod, yPow, yNeg, yLt, yLe, yGt, yGe, yEq, yNe, yIs0, yNotIs0, yIx, ySet, yIn, sqAt, isNone, zFld, zSetF, insAt, zMeth, zProp, tCall, tMake, tCB, yLen, yAbs, yMax2, yMin2, yList, yTuple, yDict0, zLM, yApp, isLst, dkAt, keyOf, zGet1, zGet2, zPop1, zPop2, zForR1, zForR2, zForL, zForT, Z.intAt, refAt, zLc, iR1, iR2, iL, iT, wipe, List.getElem?_cons_zero, List.getElem?_cons_succ, List.set_cons_zero, List.set_cons_succ, List.cons_append, List.nil_append, List.append_nil, upd_same, at0, at1, at2, ix0, ix1, ix2, upd_upd, ite_true, ite_false, if_true, if_false, Bool.false_eq_true, decide_true, decide_false, reduceIte, true_and, and_true, Option.isSome_none, Option.isSome_some, Bool.not_false, Bool.not_true]
  intro p hp
  have nxp : x ≠ p := fun e => by rw [← e, upd_same] at hp; cases hp
  rw [upd_ne nxp, upd_same]
  simp only [tSeq, tAsg, tIfS, tRet, tRetN, tDrop, tNext, tPar, tPar3, gName, gSub, gTup, gCons, gNil, zV, tC, tOp, tUn, tCons, tNil, tLst, tTup, tIf, tAnd, tOr, tNot, tYes, zB, zAnd, zOr, zNot, zChain, tDNewK, yAdd, ySub, yMul, yDiv, yMod, yPow, yNeg, yLt, yLe, yGt, yGe, yEq, yNe, yIs0, yNotIs0, yIx, ySet, yIn, sqAt, isNone, zFld, zSetF, insAt, zMeth, zProp, tCall, tMake, tCB, yLen, yAbs, yMax2, yMin2, yList, yTuple, yDict0, zLM, yApp, isLst, dkAt, keyOf, zGet1, zGet2, zPop1, zPop2, zForR1, zForR2, zForL, zForT, Z.intAt, refAt, zLc, iR1, iR2, iL, iT, wipe, List.getElem?_cons_zero, List.getElem?_cons_succ, List.set_cons_zero, List.set_cons_succ, List.cons_append, List.nil_append, List.append_nil, upd_same, at0, at1, at2, ix0, ix1, ix2, upd_upd, ite_true, ite_false, if_true, if_false, Bool.false_eq_true, decide_true, decide_false, reduceIte, true_and, and_true, Option.isSome_none, Option.isSome_some, Bool.not_false, Bool.not_true]
  refine ⟨⟨T.cl_Lines, T.na_Lines_rows, by show 1 < 1000; decide⟩, ?_⟩
  rw [upd_comm nxp, upd_upd]
  have e := pn_Lines_rows (.ref c) (.ref p)
  have e2 := pn_Lines_cells (.ref c) (.ref p)
  rw [e2, e]
  rw [upd_ne nxp.symm] at hp
  exact k p hp
theorem at_cell {cs : List Int} {i : Int} (h0 : 0 ≤ i) (h : i < cs.length) : ∃ v, cs[i.toNat]? = some v ∧ atI (cs.map V.int) i = some (.int v) := by
  have hl : i.toNat < cs.length := by omega
  exact ⟨cs[i.toNat], List.getElem?_eq_getElem hl, at_nat h0 (by rw [List.getElem?_map, List.getElem?_eq_getElem hl]; rfl)⟩
theorem rd_Lines_load {K : PySem.W.Frag} {mg : Str → Option Value} (T : Top K mg) : ∀ vs H Q E, sp_Lines_load K vs H Q E → t_Lines_load K { nx := fun _ H' => Q .non H', rt := Q } (start nm_Lines_load vs) H := by
  rintro vs H Q E ⟨x, c, d, l, E, cs, rfl, ⟨dx, hx⟩, R, hc, h0, h1, h2, h3, k1, k2⟩
  rw [start_Lines_load]
  unfold t_Lines_load t_Lines_load_1
  simp only [tSeq, tAsg, tIfS, tRet, tRetN, tDrop, tNext, tPar, tPar3, gName, gSub, gTup, gCons, gNil, zV, tC, tOp, tUn, tCons, tNil, tLst, tTup, tIf, tAnd, tOr, tNot, tYes, zB, zAnd, zOr, zNot, zChain, tDNewK, yAdd, ySub, yMul, yDiv, yMod, yPow, yNeg, yLt, yLe, yGt, yGe, yEq, yNe, yIs0, yNotIs0, yIx, ySet, yIn, sqAt, isNone, zFld, zSetF, insAt, zMeth, zProp, tCall, tMake, tCB, yLen, yAbs, yMax2, yMin2, yList, yTuple, yDict0, zLM, yApp, isLst, dkAt, keyOf, zGet1, zGet2, zPop1, zPop2, zForR1, zForR2, zForL, zForT, Z.intAt, refAt, zLc, iR1, iR2, iL, iT, wipe, List.getElem?_cons_zero, List.getElem?_cons_succ, List.set_cons_zero, List.set_cons_succ, List.cons_append, List.nil_append, List.append_nil, upd_same, at0, at1, at2, ix0, ix1, ix2, upd_upd, ite_true, ite_false, if_true, if_false, Bool.false_eq_true, decide_true, decide_false, reduceIte, true_and, and_true, Option.isSome_none, Option.isSome_some, Bool.not_false, Bool.not_true, hx, R.dc, lk_Lines_rows]
  refine ⟨⟨T.cl_Lines, T.na_Lines_rows⟩, ?_⟩
  rcases line_cases E l with ⟨e, he, rfl⟩ | ha
  · rw [kvs_some R.nl he]
    exact k1 ⟨e, he, rfl⟩
  · rw [kvs_none ha]
    unfold intsO at hc
    simp only [tSeq, tAsg, tIfS, tRet, tRetN, tDrop, tNext, tPar, tPar3, gName, gSub, gTup, gCons, gNil, zV, tC, tOp, tUn, tCons, tNil, tLst, tTup, tIf, tAnd, tOr, tNot, tYes, zB, zAnd, zOr, zNot, zChain, tDNewK, yAdd, ySub, yMul, yDiv, yMod, yPow, yNeg, yLt, yLe, yGt, yGe, yEq, yNe, yIs0, yNotIs0, yIx, ySet, yIn, sqAt, isNone, zFld, zSetF, insAt, zMeth, zProp, tCall, tMake, tCB, yLen, yAbs, yMax2, yMin2, yList, yTuple, yDict0, zLM, yApp, isLst, dkAt, keyOf, zGet1, zGet2, zPop1, zPop2, zForR1, zForR2, zForL, zForT, Z.intAt, refAt, zLc, iR1, iR2, iL, iT, wipe, List.getElem?_cons_zero, List.getElem?_cons_succ, List.set_cons_zero, List.set_cons_succ, List.cons_append, List.nil_append, List.append_nil, upd_same, at0, at1, at2, ix0, ix1, ix2, upd_upd, ite_true, ite_false, if_true, if_false, Bool.false_eq_true, decide_true, decide_false, reduceIte, true_and, and_true, Option.isSome_none, Option.isSome_some, Bool.not_false, Bool.not_true, t_Lines_load_1t_1, t_Lines_load_1t_2, hx, R.dc, lk_Lines_rows, lk_Lines_cells, hc]
    obtain ⟨v0, c0, a0⟩ := at_cell (cs := cs) (i := 2 * l) (by omega) (by omega)
    obtain ⟨v1, c1, a1⟩ := at_cell (cs := cs) (i := 2 * l + 1) (by omega) (by omega)
    rw [show l * 2 = 2 * l by omega, a0, a1]
    simp only [tSeq, tAsg, tIfS, tRet, tRetN, tDrop, tNext, tPar, tPar3, gName, gSub, gTup, gCons, gNil, zV, tC, tOp, tUn, tCons, tNil, tLst, tTup, tIf, tAnd, tOr, tNot, tYes, zB, zAnd, zOr, zNot, zChain, tDNewK, yAdd, ySub, yMul, yDiv, yMod, yPow, yNeg, yLt, yLe, yGt, yGe, yEq, yNe, yIs0, yNotIs0, yIx, ySet, yIn, sqAt, isNone, zFld, zSetF, insAt, zMeth, zProp, tCall, tMake, tCB, yLen, yAbs, yMax2, yMin2, yList, yTuple, yDict0, zLM, yApp, isLst, dkAt, keyOf, zGet1, zGet2, zPop1, zPop2, zForR1, zForR2, zForL, zForT, Z.intAt, refAt, zLc, iR1, iR2, iL, iT, wipe, List.getElem?_cons_zero, List.getElem?_cons_succ, List.set_cons_zero, List.set_cons_succ, List.cons_append, List.nil_append, List.append_nil, upd_same, at0, at1, at2, ix0, ix1, ix2, upd_upd, ite_true, ite_false, if_true, if_false, Bool.false_eq_true, decide_true, decide_false, reduceIte, true_and, and_true, Option.isSome_none, Option.isSome_some, Bool.not_false, Bool.not_true]
    refine ⟨.inl ⟨by omega, by omega⟩, ⟨T.cl_Lines, T.na_Lines_cells⟩, ⟨T.cl_Lines, T.na_Lines_cells⟩, by show 3 ≤ sizeLine; decide, fun p hp => ?_⟩
    simp only [tSeq, tAsg, tIfS, tRet, tRetN, tDrop, tNext, tPar, tPar3, gName, gSub, gTup, gCons, gNil, zV, tC, tOp, tUn, tCons, tNil, tLst, tTup, tIf, tAnd, tOr, tNot, tYes, zB, zAnd, zOr, zNot, zChain, tDNewK, yAdd, ySub, yMul, yDiv, yMod, yPow, yNeg, yLt, yLe, yGt, yGe, yEq, yNe, yIs0, yNotIs0, yIx, ySet, yIn, sqAt, isNone, zFld, zSetF, insAt, zMeth, zProp, tCall, tMake, tCB, yLen, yAbs, yMax2, yMin2, yList, yTuple, yDict0, zLM, yApp, isLst, dkAt, keyOf, zGet1, zGet2, zPop1, zPop2, zForR1, zForR2, zForL, zForT, Z.intAt, refAt, zLc, iR1, iR2, iL, iT, wipe, List.getElem?_cons_zero, List.getElem?_cons_succ, List.set_cons_zero, List.set_cons_succ, List.cons_append, List.nil_append, List.append_nil, upd_same, at0, at1, at2, ix0, ix1, ix2, upd_upd, ite_true, ite_false, if_true, if_false, Bool.false_eq_true, decide_true, decide_false, reduceIte, true_and, and_true, Option.isSome_none, Option.isSome_some, Bool.not_false, Bool.not_true, upd_ne (ne_of_none hx hp), upd_ne (ne_of_none R.dc hp), hx, R.dc, lk_Lines_rows]
    refine ⟨⟨T.cl_Lines, T.na_Lines_rows⟩, ?_, ?_⟩
    · rw [kvs_len]; exact small1000 (by omega)
    · rw [kvs_put (v0 := v0) (v1 := v1) (b := false) ha]
      exact k2 ha p v0 v1 hp c0 c1
theorem rd_Lines_read {K : PySem.W.Frag} {mg : Str → Option Value} (T : Top K mg) : ∀ vs H Q E, sp_Lines_read K vs H Q E → t_Lines_read K { nx := fun _ H' => Q .non H', rt := Q } (start nm_Lines_read vs) H := by
  rintro vs H Q E ⟨x, c, d, z, E, cs, rfl, L, R, hc, h0, h1, h2, h3, h4, k⟩
  rw [start_Lines_read]
  obtain ⟨dx, hx⟩ := id L
  unfold t_Lines_read t_Lines_read_1 t_Lines_read_2
  simp only [tSeq, tAsg, tIfS, tRet, tRetN, tDrop, tNext, tPar, tPar3, gName, gSub, gTup, gCons, gNil, zV, tC, tOp, tUn, tCons, tNil, tLst, tTup, tIf, tAnd, tOr, tNot, tYes, zB, zAnd, zOr, zNot, zChain, tDNewK, yAdd, ySub, yMul, yDiv, yMod, yPow, yNeg, yLt, yLe, yGt, yGe, yEq, yNe, yIs0, yNotIs0, yIx, ySet, yIn, sqAt, isNone, zFld, zSetF, insAt, zMeth, zProp, tCall, tMake, tCB, yLen, yAbs, yMax2, yMin2, yList, yTuple, yDict0, zLM, yApp, isLst, dkAt, keyOf, zGet1, zGet2, zPop1, zPop2, zForR1, zForR2, zForL, zForT, Z.intAt, refAt, zLc, iR1, iR2, iL, iT, wipe, List.getElem?_cons_zero, List.getElem?_cons_succ, List.set_cons_zero, List.set_cons_succ, List.cons_append, List.nil_append, List.append_nil, upd_same, at0, at1, at2, ix0, ix1, ix2, upd_upd, ite_true, ite_false, if_true, if_false, Bool.false_eq_true, decide_true, decide_false, reduceIte, true_and, and_true, Option.isSome_none, Option.isSome_some, Bool.not_false, Bool.not_true, hx, no_Lines_load]
  refine ⟨⟨by decide, by decide⟩, x, c, d, z / 2, E, cs, rfl, L, R, hc, by omega, by omega, h3, h4, ?_⟩
  refine LoadTo.imp R k fun E' H' k' R' ⟨e, he, el⟩ fr => ?_
  obtain ⟨dx', hx'⟩ := L.keep R.dc fr
  have k2 := k' e he el
  rw [← el]
  unfold t_Lines_read_3
  simp only [tSeq, tAsg, tIfS, tRet, tRetN, tDrop, tNext, tPar, tPar3, gName, gSub, gTup, gCons, gNil, zV, tC, tOp, tUn, tCons, tNil, tLst, tTup, tIf, tAnd, tOr, tNot, tYes, zB, zAnd, zOr, zNot, zChain, tDNewK, yAdd, ySub, yMul, yDiv, yMod, yPow, yNeg, yLt, yLe, yGt, yGe, yEq, yNe, yIs0, yNotIs0, yIx, ySet, yIn, sqAt, isNone, zFld, zSetF, insAt, zMeth, zProp, tCall, tMake, tCB, yLen, yAbs, yMax2, yMin2, yList, yTuple, yDict0, zLM, yApp, isLst, dkAt, keyOf, zGet1, zGet2, zPop1, zPop2, zForR1, zForR2, zForL, zForT, Z.intAt, refAt, zLc, iR1, iR2, iL, iT, wipe, List.getElem?_cons_zero, List.getElem?_cons_succ, List.set_cons_zero, List.set_cons_succ, List.cons_append, List.nil_append, List.append_nil, upd_same, at0, at1, at2, ix0, ix1, ix2, upd_upd, ite_true, ite_false, if_true, if_false, Bool.false_eq_true, decide_true, decide_false, reduceIte, true_and, and_true, Option.isSome_none, Option.isSome_some, Bool.not_false, Bool.not_true, hx', R'.dc, lk_Lines_rows, kvs_some R'.nl he, R'.rows e he]
  unfold Ent.row
  refine ⟨⟨T.cl_Lines, T.na_Lines_rows⟩, .inl ⟨by omega, by omega⟩, ?_⟩
  rcases (by omega : z % 2 = 0 ∨ z % 2 = 1) with hz | hz
  · rw [if_pos hz] at k2
    rw [show z - e.line * 2 = 0 by omega]
    simp only [tSeq, tAsg, tIfS, tRet, tRetN, tDrop, tNext, tPar, tPar3, gName, gSub, gTup, gCons, gNil, zV, tC, tOp, tUn, tCons, tNil, tLst, tTup, tIf, tAnd, tOr, tNot, tYes, zB, zAnd, zOr, zNot, zChain, tDNewK, yAdd, ySub, yMul, yDiv, yMod, yPow, yNeg, yLt, yLe, yGt, yGe, yEq, yNe, yIs0, yNotIs0, yIx, ySet, yIn, sqAt, isNone, zFld, zSetF, insAt, zMeth, zProp, tCall, tMake, tCB, yLen, yAbs, yMax2, yMin2, yList, yTuple, yDict0, zLM, yApp, isLst, dkAt, keyOf, zGet1, zGet2, zPop1, zPop2, zForR1, zForR2, zForL, zForT, Z.intAt, refAt, zLc, iR1, iR2, iL, iT, wipe, List.getElem?_cons_zero, List.getElem?_cons_succ, List.set_cons_zero, List.set_cons_succ, List.cons_append, List.nil_append, List.append_nil, upd_same, at0, at1, at2, ix0, ix1, ix2, upd_upd, ite_true, ite_false, if_true, if_false, Bool.false_eq_true, decide_true, decide_false, reduceIte, true_and, and_true, Option.isSome_none, Option.isSome_some, Bool.not_false, Bool.not_true]
    exact k2
  · rw [if_neg (by omega)] at k2
    rw [show z - e.line * 2 = 1 by omega]
    simp only [tSeq, tAsg, tIfS, tRet, tRetN, tDrop, tNext, tPar, tPar3, gName, gSub, gTup, gCons, gNil, zV, tC, tOp, tUn, tCons, tNil, tLst, tTup, tIf, tAnd, tOr, tNot, tYes, zB, zAnd, zOr, zNot, zChain, tDNewK, yAdd, ySub, yMul, yDiv, yMod, yPow, yNeg, yLt, yLe, yGt, yGe, yEq, yNe, yIs0, yNotIs0, yIx, ySet, yIn, sqAt, isNone, zFld, zSetF, insAt, zMeth, zProp, tCall, tMake, tCB, yLen, yAbs, yMax2, yMin2, yList, yTuple, yDict0, zLM, yApp, isLst, dkAt, keyOf, zGet1, zGet2, zPop1, zPop2, zForR1, zForR2, zForL, zForT, Z.intAt, refAt, zLc, iR1, iR2, iL, iT, wipe, List.getElem?_cons_zero, List.getElem?_cons_succ, List.set_cons_zero, List.set_cons_succ, List.cons_append, List.nil_append, List.append_nil, upd_same, at0, at1, at2, ix0, ix1, ix2, upd_upd, ite_true, ite_false, if_true, if_false, Bool.false_eq_true, decide_true, decide_false, reduceIte, true_and, and_true, Option.isSome_none, Option.isSome_some, Bool.not_false, Bool.not_true]
    exact k2
theorem rd_Lines_write {K : PySem.W.Frag} {mg : Str → Option Value} (T : Top K mg) : ∀ vs H Q E, sp_Lines_write K vs H Q E → t_Lines_write K { nx := fun _ H' => Q .non H', rt := Q } (start nm_Lines_write vs) H := by
  rintro vs H Q E ⟨x, c, d, z, y, E, cs, rfl, L, R, hc, h0, h1, h2, h3, h4, k⟩
  rw [start_Lines_write]
  obtain ⟨dx, hx⟩ := id L
  unfold t_Lines_write t_Lines_write_1 t_Lines_write_2
  simp only [tSeq, tAsg, tIfS, tRet, tRetN, tDrop, tNext, tPar, tPar3, gName, gSub, gTup, gCons, gNil, zV, tC, tOp, tUn, tCons, tNil, tLst, tTup, tIf, tAnd, tOr, tNot, tYes, zB, zAnd, zOr, zNot, zChain, tDNewK, yAdd, ySub, yMul, yDiv, yMod, yPow, yNeg, yLt, yLe, yGt, yGe, yEq, yNe, yIs0, yNotIs0, yIx, ySet, yIn, sqAt, isNone, zFld, zSetF, insAt, zMeth, zProp, tCall, tMake, tCB, yLen, yAbs, yMax2, yMin2, yList, yTuple, yDict0, zLM, yApp, isLst, dkAt, keyOf, zGet1, zGet2, zPop1, zPop2, zForR1, zForR2, zForL, zForT, Z.intAt, refAt, zLc, iR1, iR2, iL, iT, wipe, List.getElem?_cons_zero, List.getElem?_cons_succ, List.set_cons_zero, List.set_cons_succ, List.cons_append, List.nil_append, List.append_nil, upd_same, at0, at1, at2, ix0, ix1, ix2, upd_upd, ite_true, ite_false, if_true, if_false, Bool.false_eq_true, decide_true, decide_false, reduceIte, true_and, and_true, Option.isSome_none, Option.isSome_some, Bool.not_false, Bool.not_true, hx, no_Lines_load]
  refine ⟨⟨by decide, by decide⟩, x, c, d, z / 2, E, cs, rfl, L, R, hc, by omega, by omega, h3, h4, ?_⟩
  refine LoadTo.imp R k fun E' H' k' R' ⟨e, he, el⟩ fr => ?_
  obtain ⟨dx', hx'⟩ := L.keep R.dc fr
  have k2 := k' e he el
  rw [← el]
  have hr := R'.rows e he
  unfold Ent.row at hr
  unfold t_Lines_write_3 t_Lines_write_4
  simp only [tSeq, tAsg, tIfS, tRet, tRetN, tDrop, tNext, tPar, tPar3, gName, gSub, gTup, gCons, gNil, zV, tC, tOp, tUn, tCons, tNil, tLst, tTup, tIf, tAnd, tOr, tNot, tYes, zB, zAnd, zOr, zNot, zChain, tDNewK, yAdd, ySub, yMul, yDiv, yMod, yPow, yNeg, yLt, yLe, yGt, yGe, yEq, yNe, yIs0, yNotIs0, yIx, ySet, yIn, sqAt, isNone, zFld, zSetF, insAt, zMeth, zProp, tCall, tMake, tCB, yLen, yAbs, yMax2, yMin2, yList, yTuple, yDict0, zLM, yApp, isLst, dkAt, keyOf, zGet1, zGet2, zPop1, zPop2, zForR1, zForR2, zForL, zForT, Z.intAt, refAt, zLc, iR1, iR2, iL, iT, wipe, List.getElem?_cons_zero, List.getElem?_cons_succ, List.set_cons_zero, List.set_cons_succ, List.cons_append, List.nil_append, List.append_nil, upd_same, at0, at1, at2, ix0, ix1, ix2, upd_upd, ite_true, ite_false, if_true, if_false, Bool.false_eq_true, decide_true, decide_false, reduceIte, true_and, and_true, Option.isSome_none, Option.isSome_some, Bool.not_false, Bool.not_true, hx', R'.dc, lk_Lines_rows, kvs_some R'.nl he, hr]
  refine ⟨⟨T.cl_Lines, T.na_Lines_rows⟩, .inl ⟨by omega, by omega⟩, ?_⟩
  unfold t_Lines_write_5
  rcases (by omega : z % 2 = 0 ∨ z % 2 = 1) with hz | hz
  · rw [if_pos hz, if_pos hz] at k2
    rw [show z - e.line * 2 = 0 by omega]
    simp only [tSeq, tAsg, tIfS, tRet, tRetN, tDrop, tNext, tPar, tPar3, gName, gSub, gTup, gCons, gNil, zV, tC, tOp, tUn, tCons, tNil, tLst, tTup, tIf, tAnd, tOr, tNot, tYes, zB, zAnd, zOr, zNot, zChain, tDNewK, yAdd, ySub, yMul, yDiv, yMod, yPow, yNeg, yLt, yLe, yGt, yGe, yEq, yNe, yIs0, yNotIs0, yIx, ySet, yIn, sqAt, isNone, zFld, zSetF, insAt, zMeth, zProp, tCall, tMake, tCB, yLen, yAbs, yMax2, yMin2, yList, yTuple, yDict0, zLM, yApp, isLst, dkAt, keyOf, zGet1, zGet2, zPop1, zPop2, zForR1, zForR2, zForL, zForT, Z.intAt, refAt, zLc, iR1, iR2, iL, iT, wipe, List.getElem?_cons_zero, List.getElem?_cons_succ, List.set_cons_zero, List.set_cons_succ, List.cons_append, List.nil_append, List.append_nil, upd_same, at0, at1, at2, ix0, ix1, ix2, upd_upd, ite_true, ite_false, if_true, if_false, Bool.false_eq_true, decide_true, decide_false, reduceIte, true_and, and_true, Option.isSome_none, Option.isSome_some, Bool.not_false, Bool.not_true]
    exact k2
  · rw [if_neg (by omega), if_neg (by omega)] at k2
    rw [show z - e.line * 2 = 1 by omega]
    simp only [tSeq, tAsg, tIfS, tRet, tRetN, tDrop, tNext, tPar, tPar3, gName, gSub, gTup, gCons, gNil, zV, tC, tOp, tUn, tCons, tNil, tLst, tTup, tIf, tAnd, tOr, tNot, tYes, zB, zAnd, zOr, zNot, zChain, tDNewK, yAdd, ySub, yMul, yDiv, yMod, yPow, yNeg, yLt, yLe, yGt, yGe, yEq, yNe, yIs0, yNotIs0, yIx, ySet, yIn, sqAt, isNone, zFld, zSetF, insAt, zMeth, zProp, tCall, tMake, tCB, yLen, yAbs, yMax2, yMin2, yList, yTuple, yDict0, zLM, yApp, isLst, dkAt, keyOf, zGet1, zGet2, zPop1, zPop2, zForR1, zForR2, zForL, zForT, Z.intAt, refAt, zLc, iR1, iR2, iL, iT, wipe, List.getElem?_cons_zero, List.getElem?_cons_succ, List.set_cons_zero, List.set_cons_succ, List.cons_append, List.nil_append, List.append_nil, upd_same, at0, at1, at2, ix0, ix1, ix2, upd_upd, ite_true, ite_false, if_true, if_false, Bool.false_eq_true, decide_true, decide_false, reduceIte, true_and, and_true, Option.isSome_none, Option.isSome_some, Bool.not_false, Bool.not_true]
    exact k2

theorem set_ints {cs : List Int} {k : Nat} {v : Int} : HO.lst ((cs.map V.int).set k (.int v)) = intsO (cs.set k v) := by
  unfold intsO
  rw [List.map_set]
theorem setE_mem0 {E : List Ent} {l : Int} {e : Ent} (he : e ∈ cleanE E l) : ∃ e' ∈ E, e'.addr = e.addr := by
  unfold cleanE at he
  obtain ⟨y, hy, rfl⟩ := List.mem_map.mp he
  refine ⟨y, hy, ?_⟩
  split <;> rfl
theorem cleanE_rows {H : Hp} {d : Addr} {E : List Ent} {e : Ent} (R : RowsAt H d E) (he : e ∈ E) : RowsAt (upd H e.addr (.lst [.int e.v0, .int e.v1, .bl false])) d (cleanE E e.line) :=
  R.set (f := fun e => { e with dirty := false }) he (fun _ => rfl) (fun _ => rfl)
theorem cleanE_same {E : List Ent} {l : Int} (h : ∀ e ∈ E, e.line = l → e.dirty = false) : cleanE E l = E := by
  unfold cleanE
  conv => rhs; rw [← List.map_id E]
  refine List.map_congr_left fun e he => ?_
  split
  · rename_i q
    have := h e he q
    cases e
    simp only at this
    subst this
    rfl
  · rfl
theorem find_none {E : List Ent} {l : Int} (h : ∀ e ∈ E, e.line ≠ l) : E.find? (fun e => e.line == l) = none := by
  rw [List.find?_eq_none]
  intro x hx
  simpa using h x hx
theorem rd_Lines_clean {K : PySem.W.Frag} {mg : Str → Option Value} (T : Top K mg) : ∀ vs H Q E, sp_Lines_clean K vs H Q E → t_Lines_clean K { nx := fun _ H' => Q .non H', rt := Q } (start nm_Lines_clean vs) H := by
  rintro vs H Q E ⟨x, c, d, l, E, cs, rfl, ⟨dx, hx⟩, R, hc, hnc, h0, h1, h2, k⟩
  rw [start_Lines_clean]
  have hcl := And.intro T.cl_Lines T.na_Lines_rows
  have hcc := And.intro T.cl_Lines T.na_Lines_cells
  unfold t_Lines_clean t_Lines_clean_1
  simp only [tSeq, tAsg, tIfS, tRet, tRetN, tDrop, tNext, tPar, tPar3, gName, gSub, gTup, gCons, gNil, zV, tC, tOp, tUn, tCons, tNil, tLst, tTup, tIf, tAnd, tOr, tNot, tYes, zB, zAnd, zOr, zNot, zChain, tDNewK, yAdd, ySub, yMul, yDiv, yMod, yPow, yNeg, yLt, yLe, yGt, yGe, yEq, yNe, yIs0, yNotIs0, yIx, ySet, yIn, sqAt, isNone, zFld, zSetF, insAt, zMeth, zProp, tCall, tMake, tCB, yLen, yAbs, yMax2, yMin2, yList, yTuple, yDict0, zLM, yApp, isLst, dkAt, keyOf, zGet1, zGet2, zPop1, zPop2, zForR1, zForR2, zForL, zForT, Z.intAt, refAt, zLc, iR1, iR2, iL, iT, wipe, List.getElem?_cons_zero, List.getElem?_cons_succ, List.set_cons_zero, List.set_cons_succ, List.cons_append, List.nil_append, List.append_nil, upd_same, at0, at1, at2, ix0, ix1, ix2, upd_upd, ite_true, ite_false, if_true, if_false, Bool.false_eq_true, decide_true, decide_false, reduceIte, true_and, and_true, Option.isSome_none, Option.isSome_some, Bool.not_false, Bool.not_true, hx, R.dc, lk_Lines_rows]
  refine ⟨hcl, ?_⟩
  rcases line_cases E l with ⟨e, he, rfl⟩ | ha
  · rw [kvs_some R.nl he]
    have hr := R.rows e he
    unfold Ent.row at hr
    simp only [tSeq, tAsg, tIfS, tRet, tRetN, tDrop, tNext, tPar, tPar3, gName, gSub, gTup, gCons, gNil, zV, tC, tOp, tUn, tCons, tNil, tLst, tTup, tIf, tAnd, tOr, tNot, tYes, zB, zAnd, zOr, zNot, zChain, tDNewK, yAdd, ySub, yMul, yDiv, yMod, yPow, yNeg, yLt, yLe, yGt, yGe, yEq, yNe, yIs0, yNotIs0, yIx, ySet, yIn, sqAt, isNone, zFld, zSetF, insAt, zMeth, zProp, tCall, tMake, tCB, yLen, yAbs, yMax2, yMin2, yList, yTuple, yDict0, zLM, yApp, isLst, dkAt, keyOf, zGet1, zGet2, zPop1, zPop2, zForR1, zForR2, zForL, zForT, Z.intAt, refAt, zLc, iR1, iR2, iL, iT, wipe, List.getElem?_cons_zero, List.getElem?_cons_succ, List.set_cons_zero, List.set_cons_succ, List.cons_append, List.nil_append, List.append_nil, upd_same, at0, at1, at2, ix0, ix1, ix2, upd_upd, ite_true, ite_false, if_true, if_false, Bool.false_eq_true, decide_true, decide_false, reduceIte, true_and, and_true, Option.isSome_none, Option.isSome_some, Bool.not_false, Bool.not_true, hr]
    refine ⟨hcl, ?_⟩
    cases hdt : e.dirty with
    | false =>
      simp only [tSeq, tAsg, tIfS, tRet, tRetN, tDrop, tNext, tPar, tPar3, gName, gSub, gTup, gCons, gNil, zV, tC, tOp, tUn, tCons, tNil, tLst, tTup, tIf, tAnd, tOr, tNot, tYes, zB, zAnd, zOr, zNot, zChain, tDNewK, yAdd, ySub, yMul, yDiv, yMod, yPow, yNeg, yLt, yLe, yGt, yGe, yEq, yNe, yIs0, yNotIs0, yIx, ySet, yIn, sqAt, isNone, zFld, zSetF, insAt, zMeth, zProp, tCall, tMake, tCB, yLen, yAbs, yMax2, yMin2, yList, yTuple, yDict0, zLM, yApp, isLst, dkAt, keyOf, zGet1, zGet2, zPop1, zPop2, zForR1, zForR2, zForL, zForT, Z.intAt, refAt, zLc, iR1, iR2, iL, iT, wipe, List.getElem?_cons_zero, List.getElem?_cons_succ, List.set_cons_zero, List.set_cons_succ, List.cons_append, List.nil_append, List.append_nil, upd_same, at0, at1, at2, ix0, ix1, ix2, upd_upd, ite_true, ite_false, if_true, if_false, Bool.false_eq_true, decide_true, decide_false, reduceIte, true_and, and_true, Option.isSome_none, Option.isSome_some, Bool.not_false, Bool.not_true]
      refine k H ?_ ?_ fun a o q _ _ => q
      · rw [cleanE_same fun f hf q => by rw [R.uniq hf he q]; exact hdt]
        exact R
      · unfold cleanC
        rw [find_line R.nl he]
        simp only [hdt, Bool.false_eq_true, if_false]
        exact hc
    | true =>
      have hc' := hc
      unfold intsO at hc'
      have nec : e.addr ≠ c := hnc e he
      have nxc : x ≠ c := ne_of hx hc' (by intro z; cases z)
      have ndc : d ≠ c := ne_of R.dc hc' (by intro z; cases z)
      rw [hdt] at hr
      simp only [tSeq, tAsg, tIfS, tRet, tRetN, tDrop, tNext, tPar, tPar3, gName, gSub, gTup, gCons, gNil, zV, tC, tOp, tUn, tCons, tNil, tLst, tTup, tIf, tAnd, tOr, tNot, tYes, zB, zAnd, zOr, zNot, zChain, tDNewK, yAdd, ySub, yMul, yDiv, yMod, yPow, yNeg, yLt, yLe, yGt, yGe, yEq, yNe, yIs0, yNotIs0, yIx, ySet, yIn, sqAt, isNone, zFld, zSetF, insAt, zMeth, zProp, tCall, tMake, tCB, yLen, yAbs, yMax2, yMin2, yList, yTuple, yDict0, zLM, yApp, isLst, dkAt, keyOf, zGet1, zGet2, zPop1, zPop2, zForR1, zForR2, zForL, zForT, Z.intAt, refAt, zLc, iR1, iR2, iL, iT, wipe, List.getElem?_cons_zero, List.getElem?_cons_succ, List.set_cons_zero, List.set_cons_succ, List.cons_append, List.nil_append, List.append_nil, upd_same, at0, at1, at2, ix0, ix1, ix2, upd_upd, ite_true, ite_false, if_true, if_false, Bool.false_eq_true, decide_true, decide_false, reduceIte, true_and, and_true, Option.isSome_none, Option.isSome_some, Bool.not_false, Bool.not_true, t_Lines_clean_1t_1, t_Lines_clean_1t_2, t_Lines_clean_1t_3, hx, R.dc, lk_Lines_rows, lk_Lines_cells, kvs_some R.nl he, hr, hc']
      rw [show e.line * 2 = 2 * e.line by omega]
      simp only [tSeq, tAsg, tIfS, tRet, tRetN, tDrop, tNext, tPar, tPar3, gName, gSub, gTup, gCons, gNil, zV, tC, tOp, tUn, tCons, tNil, tLst, tTup, tIf, tAnd, tOr, tNot, tYes, zB, zAnd, zOr, zNot, zChain, tDNewK, yAdd, ySub, yMul, yDiv, yMod, yPow, yNeg, yLt, yLe, yGt, yGe, yEq, yNe, yIs0, yNotIs0, yIx, ySet, yIn, sqAt, isNone, zFld, zSetF, insAt, zMeth, zProp, tCall, tMake, tCB, yLen, yAbs, yMax2, yMin2, yList, yTuple, yDict0, zLM, yApp, isLst, dkAt, keyOf, zGet1, zGet2, zPop1, zPop2, zForR1, zForR2, zForL, zForT, Z.intAt, refAt, zLc, iR1, iR2, iL, iT, wipe, List.getElem?_cons_zero, List.getElem?_cons_succ, List.set_cons_zero, List.set_cons_succ, List.cons_append, List.nil_append, List.append_nil, upd_same, at0, at1, at2, ix0, ix1, ix2, upd_upd, ite_true, ite_false, if_true, if_false, Bool.false_eq_true, decide_true, decide_false, reduceIte, true_and, and_true, Option.isSome_none, Option.isSome_some, Bool.not_false, Bool.not_true, List.length_map, ix_nat (show 0 ≤ 2 * e.line by omega) (show 2 * e.line < (cs.length : Int) by omega), set_ints]
      refine ⟨hcl, .inl ⟨by omega, by omega⟩, hcc, ?_⟩
      have hcs : (upd H c (intsO (cs.set (2 * e.line).toNat e.v0))) c = some (.lst ((cs.set (2 * e.line).toNat e.v0).map V.int)) := upd_same
      have hx1 : (upd H c (intsO (cs.set (2 * e.line).toNat e.v0))) x = _ := (upd_ne nxc).trans hx
      have hr1 : (upd H c (intsO (cs.set (2 * e.line).toNat e.v0))) e.addr = _ := (upd_ne nec).trans hr
      simp only [tSeq, tAsg, tIfS, tRet, tRetN, tDrop, tNext, tPar, tPar3, gName, gSub, gTup, gCons, gNil, zV, tC, tOp, tUn, tCons, tNil, tLst, tTup, tIf, tAnd, tOr, tNot, tYes, zB, zAnd, zOr, zNot, zChain, tDNewK, yAdd, ySub, yMul, yDiv, yMod, yPow, yNeg, yLt, yLe, yGt, yGe, yEq, yNe, yIs0, yNotIs0, yIx, ySet, yIn, sqAt, isNone, zFld, zSetF, insAt, zMeth, zProp, tCall, tMake, tCB, yLen, yAbs, yMax2, yMin2, yList, yTuple, yDict0, zLM, yApp, isLst, dkAt, keyOf, zGet1, zGet2, zPop1, zPop2, zForR1, zForR2, zForL, zForT, Z.intAt, refAt, zLc, iR1, iR2, iL, iT, wipe, List.getElem?_cons_zero, List.getElem?_cons_succ, List.set_cons_zero, List.set_cons_succ, List.cons_append, List.nil_append, List.append_nil, upd_same, at0, at1, at2, ix0, ix1, ix2, upd_upd, ite_true, ite_false, if_true, if_false, Bool.false_eq_true, decide_true, decide_false, reduceIte, true_and, and_true, Option.isSome_none, Option.isSome_some, Bool.not_false, Bool.not_true, t_Lines_clean_1t_4, hx1, hr1, hcs, lk_Lines_cells, List.length_map, List.length_set, ix_nat (show 0 ≤ 2 * e.line + 1 by omega) (show 2 * e.line + 1 < (cs.length : Int) by omega), set_ints]
      refine ⟨hcc, ?_⟩
      have hr2 : (upd H c (intsO ((cs.set (2 * e.line).toNat e.v0).set (2 * e.line + 1).toNat e.v1))) e.addr = _ := (upd_ne nec).trans hr
      simp only [tSeq, tAsg, tIfS, tRet, tRetN, tDrop, tNext, tPar, tPar3, gName, gSub, gTup, gCons, gNil, zV, tC, tOp, tUn, tCons, tNil, tLst, tTup, tIf, tAnd, tOr, tNot, tYes, zB, zAnd, zOr, zNot, zChain, tDNewK, yAdd, ySub, yMul, yDiv, yMod, yPow, yNeg, yLt, yLe, yGt, yGe, yEq, yNe, yIs0, yNotIs0, yIx, ySet, yIn, sqAt, isNone, zFld, zSetF, insAt, zMeth, zProp, tCall, tMake, tCB, yLen, yAbs, yMax2, yMin2, yList, yTuple, yDict0, zLM, yApp, isLst, dkAt, keyOf, zGet1, zGet2, zPop1, zPop2, zForR1, zForR2, zForL, zForT, Z.intAt, refAt, zLc, iR1, iR2, iL, iT, wipe, List.getElem?_cons_zero, List.getElem?_cons_succ, List.set_cons_zero, List.set_cons_succ, List.cons_append, List.nil_append, List.append_nil, upd_same, at0, at1, at2, ix0, ix1, ix2, upd_upd, ite_true, ite_false, if_true, if_false, Bool.false_eq_true, decide_true, decide_false, reduceIte, true_and, and_true, Option.isSome_none, Option.isSome_some, Bool.not_false, Bool.not_true, t_Lines_clean_1t_5, hr2]
      have R2 : RowsAt (upd H c (intsO ((cs.set (2 * e.line).toNat e.v0).set (2 * e.line + 1).toNat e.v1))) d E := R.frame ndc.symm fun f hf => hnc f hf
      refine k _ (cleanE_rows R2 he) ?_ fun a o q n1 n2 => ?_
      · rw [upd_ne nec.symm]
        unfold cleanC
        rw [find_line R.nl he]
        simp only [hdt, if_true]
        exact upd_same
      · rw [upd_ne (n2 e he), upd_ne n1]
        exact q
  · rw [kvs_none ha]
    simp only [tSeq, tAsg, tIfS, tRet, tRetN, tDrop, tNext, tPar, tPar3, gName, gSub, gTup, gCons, gNil, zV, tC, tOp, tUn, tCons, tNil, tLst, tTup, tIf, tAnd, tOr, tNot, tYes, zB, zAnd, zOr, zNot, zChain, tDNewK, yAdd, ySub, yMul, yDiv, yMod, yPow, yNeg, yLt, yLe, yGt, yGe, yEq, yNe, yIs0, yNotIs0, yIx, ySet, yIn, sqAt, isNone, zFld, zSetF, insAt, zMeth, zProp, tCall, tMake, tCB, yLen, yAbs, yMax2, yMin2, yList, yTuple, yDict0, zLM, yApp, isLst, dkAt, keyOf, zGet1, zGet2, zPop1, zPop2, zForR1, zForR2, zForL, zForT, Z.intAt, refAt, zLc, iR1, iR2, iL, iT, wipe, List.getElem?_cons_zero, List.getElem?_cons_succ, List.set_cons_zero, List.set_cons_succ, List.cons_append, List.nil_append, List.append_nil, upd_same, at0, at1, at2, ix0, ix1, ix2, upd_upd, ite_true, ite_false, if_true, if_false, Bool.false_eq_true, decide_true, decide_false, reduceIte, true_and, and_true, Option.isSome_none, Option.isSome_some, Bool.not_false, Bool.not_true]
    refine k H ?_ ?_ fun a o q _ _ => q
    · rw [cleanE_same fun f hf q => absurd q (ha f hf)]
      exact R
    · unfold cleanC
      rw [find_none ha]
      exact hc
theorem drop_kvs (E : List Ent) (l : Int) : dropK (kvsOf E) (Sum.inl l : Key) = kvsOf (dropE E l) := by
  unfold dropK kvsOf dropE
  rw [List.filter_map]
  congr 1
  refine List.filter_congr fun e _ => ?_
  simp only [Function.comp]
  rw [Bool.eq_iff_iff]
  simp
theorem dropE_same {E : List Ent} {l : Int} (h : ∀ e ∈ E, e.line ≠ l) : dropE E l = E := by
  unfold dropE
  rw [List.filter_eq_self]
  intro e he
  simpa using h e he
theorem dropE_sub {E : List Ent} {l : Int} {e : Ent} (h : e ∈ dropE E l) : e ∈ E ∧ e.line ≠ l := by
  unfold dropE at h
  rw [List.mem_filter] at h
  exact ⟨h.1, by simpa using h.2⟩
theorem RowsAt.drop {H : Hp} {d : Addr} {E : List Ent} {l : Int} (R : RowsAt H d E) : RowsAt (upd H d (.dK (kvsOf (dropE E l)))) d (dropE E l) := by
  refine ⟨upd_same, fun e he => ?_, ?_, ?_⟩
  · have hm := (dropE_sub he).1
    rw [upd_ne (R.d_ne e hm)]
    exact R.rows e hm
  · exact List.Nodup.sublist (List.Sublist.map _ List.filter_sublist) R.nl
  · exact List.Nodup.sublist (List.Sublist.map _ List.filter_sublist) R.na
theorem rd_Lines_drop {K : PySem.W.Frag} {mg : Str → Option Value} (T : Top K mg) : ∀ vs H Q E, sp_Lines_drop K vs H Q E → t_Lines_drop K { nx := fun _ H' => Q .non H', rt := Q } (start nm_Lines_drop vs) H := by
  rintro vs H Q E ⟨x, c, d, l, E, rfl, ⟨dx, hx⟩, R, k⟩
  rw [start_Lines_drop]
  unfold t_Lines_drop t_Lines_drop_1
  simp only [tSeq, tAsg, tIfS, tRet, tRetN, tDrop, tNext, tPar, tPar3, gName, gSub, gTup, gCons, gNil, zV, tC, tOp, tUn, tCons, tNil, tLst, tTup, tIf, tAnd, tOr, tNot, tYes, zB, zAnd, zOr, zNot, zChain, tDNewK, yAdd, ySub, yMul, yDiv, yMod, yPow, yNeg, yLt, yLe, yGt, yGe, yEq, yNe, yIs0, yNotIs0, yIx, ySet, yIn, sqAt, isNone, zFld, zSetF, insAt, zMeth, zProp, tCall, tMake, tCB, yLen, yAbs, yMax2, yMin2, yList, yTuple, yDict0, zLM, yApp, isLst, dkAt, keyOf, zGet1, zGet2, zPop1, zPop2, zForR1, zForR2, zForL, zForT, Z.intAt, refAt, zLc, iR1, iR2, iL, iT, wipe, List.getElem?_cons_zero, List.getElem?_cons_succ, List.set_cons_zero, List.set_cons_succ, List.cons_append, List.nil_append, List.append_nil, upd_same, at0, at1, at2, ix0, ix1, ix2, upd_upd, ite_true, ite_false, if_true, if_false, Bool.false_eq_true, decide_true, decide_false, reduceIte, true_and, and_true, Option.isSome_none, Option.isSome_some, Bool.not_false, Bool.not_true, hx, R.dc, lk_Lines_rows]
  refine ⟨⟨T.cl_Lines, T.na_Lines_rows⟩, fun v hv => ?_, fun hv => ?_⟩
  · rw [drop_kvs]
    exact k _ R.drop fun a o q hd => by rw [upd_ne hd]; exact q
  · have ha : ∀ e ∈ E, e.line ≠ l := fun e he q => by
      rw [← q, kvs_some R.nl he] at hv
      cases hv
    refine k H ?_ fun a o q _ => q
    rw [dropE_same ha]
    exact R
theorem cleanE_lines (E : List Ent) (l : Int) : dropE (cleanE E l) l = dropE E l := by
  unfold dropE cleanE
  induction E with
  | nil => rfl
  | cons e r ih =>
    rw [List.map_cons, List.filter_cons, List.filter_cons]
    by_cases q : e.line = l
    · rw [if_pos q]
      simp only [q, beq_self_eq_true, Bool.not_true, Bool.false_eq_true, if_false]
      exact ih
    · rw [if_neg q]
      have : (!(e.line == l)) = true := by simpa using q
      rw [if_pos this, if_pos this, ih]
theorem cleanE_addr {E : List Ent} {l : Int} {e : Ent} (h : e ∈ cleanE E l) : ∃ f ∈ E, f.addr = e.addr := setE_mem0 h
theorem rd_Lines_evict {K : PySem.W.Frag} {mg : Str → Option Value} (T : Top K mg) : ∀ vs H Q E, sp_Lines_evict K vs H Q E → t_Lines_evict K { nx := fun _ H' => Q .non H', rt := Q } (start nm_Lines_evict vs) H := by
  rintro vs H Q E ⟨x, c, d, l, E, cs, rfl, L, R, hc, hnc, h0, h1, h2, k⟩
  rw [start_Lines_evict]
  obtain ⟨dx, hx⟩ := id L
  unfold t_Lines_evict t_Lines_evict_1
  simp only [tSeq, tAsg, tIfS, tRet, tRetN, tDrop, tNext, tPar, tPar3, gName, gSub, gTup, gCons, gNil, zV, tC, tOp, tUn, tCons, tNil, tLst, tTup, tIf, tAnd, tOr, tNot, tYes, zB, zAnd, zOr, zNot, zChain, tDNewK, yAdd, ySub, yMul, yDiv, yMod, yPow, yNeg, yLt, yLe, yGt, yGe, yEq, yNe, yIs0, yNotIs0, yIx, ySet, yIn, sqAt, isNone, zFld, zSetF, insAt, zMeth, zProp, tCall, tMake, tCB, yLen, yAbs, yMax2, yMin2, yList, yTuple, yDict0, zLM, yApp, isLst, dkAt, keyOf, zGet1, zGet2, zPop1, zPop2, zForR1, zForR2, zForL, zForT, Z.intAt, refAt, zLc, iR1, iR2, iL, iT, wipe, List.getElem?_cons_zero, List.getElem?_cons_succ, List.set_cons_zero, List.set_cons_succ, List.cons_append, List.nil_append, List.append_nil, upd_same, at0, at1, at2, ix0, ix1, ix2, upd_upd, ite_true, ite_false, if_true, if_false, Bool.false_eq_true, decide_true, decide_false, reduceIte, true_and, and_true, Option.isSome_none, Option.isSome_some, Bool.not_false, Bool.not_true, hx, no_Lines_clean]
  refine ⟨x, c, d, l, E, cs, rfl, L, R, hc, hnc, h0, h1, h2, fun H1 R1 hc1 fr1 => ?_⟩
  have hc' := hc
  unfold intsO at hc'
  have hx1 := fr1 _ _ hx (ne_of hx hc' (by intro z; cases z)) fun e he => ne_of hx (R.rows e he) (by unfold Ent.row; intro z; cases z)
  unfold t_Lines_evict_2
  simp only [tSeq, tAsg, tIfS, tRet, tRetN, tDrop, tNext, tPar, tPar3, gName, gSub, gTup, gCons, gNil, zV, tC, tOp, tUn, tCons, tNil, tLst, tTup, tIf, tAnd, tOr, tNot, tYes, zB, zAnd, zOr, zNot, zChain, tDNewK, yAdd, ySub, yMul, yDiv, yMod, yPow, yNeg, yLt, yLe, yGt, yGe, yEq, yNe, yIs0, yNotIs0, yIx, ySet, yIn, sqAt, isNone, zFld, zSetF, insAt, zMeth, zProp, tCall, tMake, tCB, yLen, yAbs, yMax2, yMin2, yList, yTuple, yDict0, zLM, yApp, isLst, dkAt, keyOf, zGet1, zGet2, zPop1, zPop2, zForR1, zForR2, zForL, zForT, Z.intAt, refAt, zLc, iR1, iR2, iL, iT, wipe, List.getElem?_cons_zero, List.getElem?_cons_succ, List.set_cons_zero, List.set_cons_succ, List.cons_append, List.nil_append, List.append_nil, upd_same, at0, at1, at2, ix0, ix1, ix2, upd_upd, ite_true, ite_false, if_true, if_false, Bool.false_eq_true, decide_true, decide_false, reduceIte, true_and, and_true, Option.isSome_none, Option.isSome_some, Bool.not_false, Bool.not_true, hx1, no_Lines_drop]
  refine ⟨x, c, d, l, _, rfl, ⟨dx, hx1⟩, R1, fun H2 R2 fr2 => ?_⟩
  rw [cleanE_lines] at R2
  have ncd : c ≠ d := ne_of hc' R.dc (by intro z; cases z)
  exact k H2 R2 (fr2 _ _ hc1 ncd) fun a o q n1 n2 n3 => fr2 _ _ (fr1 a o q n1 n3) n2

theorem Same.new {H : Hp} {p : Addr} {o : HO} (h : H p = none) : Same H (upd H p o) := fun b u e => by rw [upd_ne (ne_of_none e h)]; exact e
theorem dirty_at {E : List Ent} {e : Ent} (hn : (E.map (·.line)).Nodup) (he : e ∈ E) : dirtyOf E e.line = e.dirty := by
  unfold dirtyOf
  rw [find_line hn he] <;> rfl
section
variable {K : PySem.W.Frag} {H0 H : Hp} {b c m x d k : Addr} {o : HO} {n : Int} {cs ms : List Int} {E G : List Ent}
theorem bag_ne {H : Hp} {b d : Addr} {o : HO} {n : Int} {kvs : List (Key × V)} (hb : H b = some o) (ho : BagO o n) (hd : H d = some (.dK kvs)) : b ≠ d := by
  obtain ⟨L, M, z, rfl, _⟩ := ho
  exact ne_of hb hd (by intro z; cases z)
theorem bag_nx {K : PySem.W.Frag} {H : Hp} {b x c d : Addr} {o : HO} {n : Int} (hb : H b = some o) (ho : BagO o n) (h : LinesAt K H x c d) : x ≠ b := by
  obtain ⟨L, M, z, rfl, _⟩ := ho
  obtain ⟨dx, hx⟩ := h
  exact ne_of hx hb (by intro z; cases z)
theorem LinesAt.upd {K : PySem.W.Frag} {H : Hp} {x c d p : Addr} {o : HO} (h : LinesAt K H x c d) (ne : x ≠ p) : LinesAt K (upd H p o) x c d := by
  obtain ⟨dx, hx⟩ := h
  exact ⟨dx, by rw [upd_ne ne]; exact hx⟩
theorem Same.upd {H0 H : Hp} {p : Addr} {o : HO} (s : Same H0 H) (h : H0 p = none) : Same H0 (upd H p o) := fun a u e => by rw [upd_ne (ne_of_none e h)]; exact s a u e
theorem Core.bag (C : Core K H0 H b c m x d k o n cs ms E G) {o' : HO} {n' : Int} (ho : BagO o' n') : Core K H0 (upd H b o') b c m x d k o' n' cs ms E G :=
  ⟨Same.upd C.same C.z.1, upd_same, ho, by rw [upd_ne C.nbc.symm]; exact C.hc, by rw [upd_ne C.nbm.symm]; exact C.hm, C.L.upd (bag_nx C.hb C.ho C.L), C.R.frame (bag_ne C.hb C.ho C.R.dc) fun e he => (C.eb e he).1, C.gr.frame (bag_ne C.hb C.ho C.gr.dc) fun e he => (C.gb e he).1,
    C.nbc, C.nbm, C.ncm, C.ndk, C.eb, C.gb, C.eg, C.z, C.ze, C.zg⟩
theorem lst_nx {K : PySem.W.Frag} {H : Hp} {p x c d : Addr} {xs : List V} (hp : H p = some (.lst xs)) (h : LinesAt K H x c d) : x ≠ p := by
  obtain ⟨dx, hx⟩ := h
  exact ne_of hx hp (by intro z; cases z)
theorem lst_nd {H : Hp} {p d : Addr} {xs : List V} {kvs : List (Key × V)} (hp : H p = some (.lst xs)) (hd : H d = some (.dK kvs)) : p ≠ d := ne_of hp hd (by intro z; cases z)
theorem Core.cells (C : Core K H0 H b c m x d k o n cs ms E G) (cs' : List Int) : Core K H0 (upd H c (intsO cs')) b c m x d k o n cs' ms E G :=
  ⟨Same.upd C.same C.z.2.1, by rw [upd_ne C.nbc]; exact C.hb, C.ho, upd_same, by rw [upd_ne C.ncm.symm]; exact C.hm, C.L.upd (lst_nx C.hc C.L), C.R.frame (lst_nd C.hc C.R.dc) fun e he => (C.eb e he).2.1, C.gr.frame (lst_nd C.hc C.gr.dc) fun e he => (C.gb e he).2.1,
    C.nbc, C.nbm, C.ncm, C.ndk, C.eb, C.gb, C.eg, C.z, C.ze, C.zg⟩
theorem Core.mirror (C : Core K H0 H b c m x d k o n cs ms E G) (ms' : List Int) : Core K H0 (upd H m (intsO ms')) b c m x d k o n cs ms' E G :=
  ⟨Same.upd C.same C.z.2.2.1, by rw [upd_ne C.nbm]; exact C.hb, C.ho, by rw [upd_ne C.ncm]; exact C.hc, upd_same, C.L.upd (lst_nx C.hm C.L), C.R.frame (lst_nd C.hm C.R.dc) fun e he => (C.eb e he).2.2, C.gr.frame (lst_nd C.hm C.gr.dc) fun e he => (C.gb e he).2.2,
    C.nbc, C.nbm, C.ncm, C.ndk, C.eb, C.gb, C.eg, C.z, C.ze, C.zg⟩
theorem LinesAt.same {K : PySem.W.Frag} {H H' : Hp} {x c d : Addr} (h : LinesAt K H x c d) (s : Same H H') : LinesAt K H' x c d := by
  obtain ⟨dx, hx⟩ := h
  exact ⟨dx, s _ _ hx⟩
theorem Core.more {H' : Hp} (C : Core K H0 H b c m x d k o n cs ms E G) (s : Same H H') : Core K H0 H' b c m x d k o n cs ms E G :=
  ⟨C.same.trans s, s _ _ C.hb, C.ho, s _ _ C.hc, s _ _ C.hm, C.L.same s, C.R.same s, C.gr.same s, C.nbc, C.nbm, C.ncm, C.ndk, C.eb, C.gb, C.eg, C.z, C.ze, C.zg⟩
theorem Core.new {p : Addr} {u : HO} (C : Core K H0 H b c m x d k o n cs ms E G) (h : H p = none) : Core K H0 (upd H p u) b c m x d k o n cs ms E G := C.more (Same.new h)
theorem none0 {p : Addr} (s : Same H0 H) (h : H p = none) : H0 p = none := s.free h
/-- entries grown by a load -/
theorem loaded_mem {E' : List Ent} {l : Int} (h : Loaded E cs l H E') : ∀ e ∈ E', e ∈ E ∨ H e.addr = none := by
  intro e he
  rcases h with ⟨_, rfl⟩ | ⟨_, r, v0, v1, hr, rfl, _, _⟩
  · exact .inl he
  · rcases List.mem_append.mp he with q | q
    · exact .inl q
    · obtain rfl := List.mem_singleton.mp q
      exact .inr hr
theorem Core.loadE {H' : Hp} {E' : List Ent} {l : Int} {zs : List Int} (C : Core K H0 H b c m x d k o n cs ms E G) (hl : Loaded E zs l H E') (R' : RowsAt H' d E') (fr : ∀ a o, H a = some o → a ≠ d → H' a = some o) : Core K H0 H' b c m x d k o n cs ms E' G := by
  have fre : ∀ e ∈ E', ∀ p u, H p = some u → (∀ e ∈ E, e.addr ≠ p) → e.addr ≠ p := fun e he p u hp h1 => (loaded_mem hl e he).elim (h1 e) fun q z => by
    rw [z, hp] at q; cases q
  refine ⟨fun a u q => fr a u (C.same a u q) (ne_of_none q C.z.2.2.2.1), fr _ _ C.hb (bag_ne C.hb C.ho C.R.dc), C.ho, fr _ _ C.hc (lst_nd C.hc C.R.dc), fr _ _ C.hm (lst_nd C.hm C.R.dc), C.L.keep C.R.dc fr, R', ⟨fr _ _ C.gr.dc C.ndk.symm, fun e he => fr _ _ (C.gr.rows e he) ?_, C.gr.nl, C.gr.na⟩,
    C.nbc, C.nbm, C.ncm, C.ndk, fun e he => ⟨fre e he b o C.hb fun e h => (C.eb e h).1, fre e he c _ C.hc fun e h => (C.eb e h).2.1, fre e he m _ C.hm fun e h => (C.eb e h).2.2⟩, C.gb, fun e he g hg => fre e he g.addr _ (C.gr.rows g hg) fun e h => C.eg e h g hg, C.z, fun e he => (loaded_mem hl e he).elim (C.ze e) fun q => none0 C.same q, C.zg⟩
  exact lst_nd (C.gr.rows e he) C.R.dc
theorem Core.loadG {H' : Hp} {G' : List Ent} {l : Int} {zs : List Int} (C : Core K H0 H b c m x d k o n cs ms E G) (hl : Loaded G zs l H G') (R' : RowsAt H' k G') (fr : ∀ a o, H a = some o → a ≠ k → H' a = some o) : Core K H0 H' b c m x d k o n cs ms E G' := by
  have fre : ∀ e ∈ G', ∀ p u, H p = some u → (∀ e ∈ G, e.addr ≠ p) → e.addr ≠ p := fun e he p u hp h1 => (loaded_mem hl e he).elim (h1 e) fun q z => by
    rw [z, hp] at q; cases q
  refine ⟨fun a u q => fr a u (C.same a u q) (ne_of_none q C.z.2.2.2.2), fr _ _ C.hb (bag_ne C.hb C.ho C.gr.dc), C.ho, fr _ _ C.hc (lst_nd C.hc C.gr.dc), fr _ _ C.hm (lst_nd C.hm C.gr.dc), C.L.keep C.gr.dc fr, ⟨fr _ _ C.R.dc C.ndk, fun e he => fr _ _ (C.R.rows e he) ?_, C.R.nl, C.R.na⟩, R',
    C.nbc, C.nbm, C.ncm, C.ndk, C.eb, fun e he => ⟨fre e he b o C.hb fun e h => (C.gb e h).1, fre e he c _ C.hc fun e h => (C.gb e h).2.1, fre e he m _ C.hm fun e h => (C.gb e h).2.2⟩, fun e he g hg => (fre g hg e.addr _ (C.R.rows e he) fun g h => (C.eg e he g h).symm).symm, C.z, C.ze, fun e he => (loaded_mem hl e he).elim (C.zg e) fun q => none0 C.same q⟩
  exact lst_nd (C.R.rows e he) C.gr.dc
theorem setE_mem {l : Int} {f : Ent → Ent} (hg : ∀ e, (f e).addr = e.addr) {e : Ent} (he : e ∈ setE E l f) : ∃ e' ∈ E, e'.addr = e.addr := by
  unfold setE at he
  obtain ⟨y, hy, rfl⟩ := List.mem_map.mp he
  refine ⟨y, hy, ?_⟩
  split
  · exact (hg y).symm
  · rfl
theorem Core.setE {e : Ent} {f : Ent → Ent} (C : Core K H0 H b c m x d k o n cs ms E G) (he : e ∈ E) (hf : ∀ e, (f e).line = e.line) (hg : ∀ e, (f e).addr = e.addr) : Core K H0 (upd H e.addr (f e).row) b c m x d k o n cs ms (setE E e.line f) G := by
  have h1 := C.eb e he
  refine ⟨Same.upd C.same (C.ze e he), by rw [upd_ne h1.1.symm]; exact C.hb, C.ho, by rw [upd_ne h1.2.1.symm]; exact C.hc, by rw [upd_ne h1.2.2.symm]; exact C.hm, C.L.upd (lst_nx (C.R.rows e he) C.L), C.R.set he hf hg, C.gr.frame (lst_nd (C.R.rows e he) C.gr.dc) fun g hg2 => (C.eg e he g hg2).symm,
    C.nbc, C.nbm, C.ncm, C.ndk, fun y hy => ?_, C.gb, fun y hy g hg2 => ?_, C.z, fun y hy => ?_, C.zg⟩
  · obtain ⟨y', hy', e1⟩ := setE_mem hg hy
    rw [← e1]; exact C.eb y' hy'
  · obtain ⟨y', hy', e1⟩ := setE_mem hg hy
    rw [← e1]; exact C.eg y' hy' g hg2
  · obtain ⟨y', hy', e1⟩ := setE_mem hg hy
    rw [← e1]; exact C.ze y' hy'
theorem Core.setG {e : Ent} {f : Ent → Ent} (C : Core K H0 H b c m x d k o n cs ms E G) (he : e ∈ G) (hf : ∀ e, (f e).line = e.line) (hg : ∀ e, (f e).addr = e.addr) : Core K H0 (upd H e.addr (f e).row) b c m x d k o n cs ms E (K07.setE G e.line f) := by
  have h1 := C.gb e he
  refine ⟨Same.upd C.same (C.zg e he), by rw [upd_ne h1.1.symm]; exact C.hb, C.ho, by rw [upd_ne h1.2.1.symm]; exact C.hc, by rw [upd_ne h1.2.2.symm]; exact C.hm, C.L.upd (lst_nx (C.gr.rows e he) C.L), C.R.frame (lst_nd (C.gr.rows e he) C.R.dc) fun g hg2 => C.eg g hg2 e he, C.gr.set he hf hg,
    C.nbc, C.nbm, C.ncm, C.ndk, C.eb, fun y hy => ?_, fun g hg2 y hy => ?_, C.z, C.ze, fun y hy => ?_⟩
  · obtain ⟨y', hy', e1⟩ := setE_mem hg hy
    rw [← e1]; exact C.gb y' hy'
  · obtain ⟨y', hy', e1⟩ := setE_mem hg hy
    rw [← e1]; exact C.eg g hg2 y' hy'
  · obtain ⟨y', hy', e1⟩ := setE_mem hg hy
    rw [← e1]; exact C.zg y' hy'
end
/-! ### what two lists of rows show -/
theorem con_lines {E G : List Ent} (h : E.map con = G.map con) : E.map (·.line) = G.map (·.line) := by
  have e := congrArg (List.map (·.1)) h
  rw [List.map_map, List.map_map] at e
  exact e
theorem con_len {E G : List Ent} (h : E.map con = G.map con) : E.length = G.length := by
  have e := congrArg List.length h
  rw [List.length_map, List.length_map] at e
  exact e
theorem con_mem {E G : List Ent} {e : Ent} (h : E.map con = G.map con) (he : e ∈ E) : ∃ g ∈ G, con g = con e := by
  have : con e ∈ G.map con := by rw [← h]; exact List.mem_map_of_mem he
  obtain ⟨g, hg, q⟩ := List.mem_map.mp this
  exact ⟨g, hg, q⟩
theorem con_loaded {E G E' G' : List Ent} {H1 H2 : Hp} {cs : List Int} {l : Int} (h : E.map con = G.map con) (h1 : Loaded E cs l H1 E') (h2 : Loaded G cs l H2 G') : E'.map con = G'.map con := by
  rcases h1 with ⟨⟨e, he, el⟩, rfl⟩ | ⟨ha, r, v0, v1, _, rfl, c0, c1⟩
  · rcases h2 with ⟨_, rfl⟩ | ⟨ha, _⟩
    · exact h
    · obtain ⟨g, hg, q⟩ := con_mem h he
      have : g.line = e.line := congrArg (·.1) q
      exact absurd (this.trans el) (ha g hg)
  · rcases h2 with ⟨⟨g, hg, gl⟩, rfl⟩ | ⟨ha2, r2, w0, w1, _, rfl, d0, d1⟩
    · obtain ⟨e, he, q⟩ := con_mem h.symm hg
      have : e.line = g.line := congrArg (·.1) q
      exact absurd (this.trans gl) (ha e he)
    · rw [c0] at d0
      rw [c1] at d1
      obtain rfl := Option.some.inj d0
      obtain rfl := Option.some.inj d1
      rw [List.map_append, List.map_append, h] <;> rfl
theorem con_set {E G : List Ent} {l : Int} {f : Ent → Ent} (h : E.map con = G.map con) (hf : ∀ e g, con e = con g → con (f e) = con (f g)) : (setE E l f).map con = (setE G l f).map con := by
  induction E generalizing G with
  | nil => cases G with
    | nil => rfl
    | cons _ _ => cases h
  | cons e r ih =>
    cases G with
    | nil => cases h
    | cons g s =>
      rw [List.map_cons, List.map_cons] at h
      injection h with h1 h2
      show con (if e.line = l then f e else e) :: _ = con (if g.line = l then f g else g) :: _
      have el : e.line = g.line := congrArg (·.1) h1
      rw [el]
      have tl := ih h2
      unfold setE at tl
      rw [tl]
      split
      · rw [hf e g h1]
      · rw [h1]
theorem con_dirty {E G : List Ent} (h : E.map con = G.map con) (l : Int) : dirtyOf E l = dirtyOf G l := by
  unfold dirtyOf
  induction E generalizing G with
  | nil => cases G with
    | nil => rfl
    | cons _ _ => cases h
  | cons e r ih =>
    cases G with
    | nil => cases h
    | cons g s =>
      rw [List.map_cons, List.map_cons] at h
      injection h with h1 h2
      have el : e.line = g.line := congrArg (·.1) h1
      have ed : e.dirty = g.dirty := congrArg (·.2.2.2) h1
      rw [List.find?_cons, List.find?_cons, el]
      split
      · rw [Option.map_some, Option.map_some, ed]
      · exact ih h2
theorem perm_sorted {as bs : List Int} (h : as.Perm bs) (ha : as.Pairwise (· ≤ ·)) (hb : bs.Pairwise (· ≤ ·)) : as = bs :=
  List.Perm.eq_of_pairwise (le := (· ≤ ·)) (fun a b _ _ h1 h2 => Int.le_antisymm h1 h2) ha hb h
theorem held_eq {E G : List Ent} {ys zs : List Int} (h : E.map con = G.map con) (h1 : ys.Perm (E.map (·.line))) (h2 : ys.Pairwise (· ≤ ·)) (h3 : zs.Perm (G.map (·.line))) (h4 : zs.Pairwise (· ≤ ·)) : heldD E ys = heldD G zs := by
  have e : ys = zs := perm_sorted (h1.trans ((con_lines h ▸ h3.symm))) h2 h4
  subst e
  unfold heldD
  congr 1
  refine List.map_congr_left fun l _ => ?_
  rw [con_dirty h]
theorem held_shaped (E : List Ent) (ys : List Int) : SeqAt.shaped (heldD E ys) = true := by
  refine shaped_of (n := 2) (lay_tuple fun x hx => ?_) (depth_tuple fun x hx => ?_) (by decide)
  · obtain ⟨y, _, rfl⟩ := List.mem_map.mp hx
    simp only [PyData.canLay0, PyData.canLayAll0, Bool.and_true]
  · obtain ⟨y, _, rfl⟩ := List.mem_map.mp hx
    simp only [PyData.depth, PyData.depthAll, Nat.max_self]
    decide
theorem ints_dp {K : PySem.W.Frag} {H : Hp} {p : Addr} {cs : List Int} (h : H p = some (intsO cs)) : Dp K H (.ref p) (.list (cs.map PyData.int)) := by
  refine Dp.lst (SqL.of h) (dp_all (by rw [List.length_map, List.length_map]) fun i v d h1 h2 => ?_)
  rw [List.getElem?_map] at h1 h2
  cases e : cs[i]? with
  | none => rw [e] at h1; cases h1
  | some y =>
    rw [e] at h1 h2
    obtain rfl := Option.some.inj h1
    obtain rfl := Option.some.inj h2
    exact .int _
theorem ints_shaped (cs : List Int) : SeqAt.shaped (.list (cs.map PyData.int)) = true := by
  refine shaped_of (n := 1) (lay_list fun x hx => ?_) (depth_list (n := 0) fun x hx => ?_) (by decide)
  · obtain ⟨y, _, rfl⟩ := List.mem_map.mp hx
    simp only [PyData.canLay0]
  · obtain ⟨y, _, rfl⟩ := List.mem_map.mp hx
    simp only [PyData.depth]
    decide

theorem loaded_len {E E' : List Ent} {cs : List Int} {l : Int} {H : Hp} (h : Loaded E cs l H E') : E'.length ≤ E.length + 1 := by
  rcases h with ⟨_, rfl⟩ | ⟨_, r, v0, v1, _, rfl, _, _⟩
  · exact Nat.le_succ _
  · rw [List.length_append] <;> exact Nat.le_refl _
def fW (z y : Int) (e : Ent) : Ent := { e with v0 := if z % 2 = 0 then y else e.v0, v1 := if z % 2 = 0 then e.v1 else y, dirty := true }
theorem con_fW {z y : Int} {e g : Ent} (h : con e = con g) : con (fW z y e) = con (fW z y g) := by
  have h1 : e.line = g.line := congrArg (·.1) h
  have h2 : e.v0 = g.v0 := congrArg (·.2.1) h
  have h3 : e.v1 = g.v1 := congrArg (·.2.2.1) h
  unfold con fW
  rw [h1, h2, h3]
section
variable {K : PySem.W.Frag} {H0 H : Hp} {b c m x d k : Addr} {o : HO} {n : Int} {cs ms : List Int} {E G : List Ent}
theorem bag_lst {o : HO} {n : Int} (h : BagO o n) : ∃ xs, o = .lst xs := by
  obtain ⟨L, M, z, rfl, _⟩ := h
  exact ⟨_, rfl⟩
theorem Core.stepE {H' : Hp} {cs' : List Int} {E' : List Ent} (C : Core K H0 H b c m x d k o n cs ms E G) (R' : RowsAt H' d E') (hc' : H' c = some (intsO cs')) (fr : ∀ a o, H a = some o → a ≠ c → a ≠ d → (∀ e ∈ E, a ≠ e.addr) → H' a = some o)
    (hE : ∀ e ∈ E', (∃ f ∈ E, f.addr = e.addr) ∨ H e.addr = none) : Core K H0 H' b c m x d k o n cs' ms E' G := by
  obtain ⟨xs, rfl⟩ := bag_lst C.ho
  obtain ⟨dx, hx⟩ := id C.L
  have new : ∀ e ∈ E', ∀ p u, H p = some u → (∀ e ∈ E, e.addr ≠ p) → e.addr ≠ p := fun e he p u hp h1 => by
    rcases hE e he with ⟨f, hf, q⟩ | q
    · rw [← q]; exact h1 f hf
    · exact (ne_of_none hp q).symm
  refine ⟨fun a u q => fr a u (C.same a u q) (ne_of_none q C.z.2.1) (ne_of_none q C.z.2.2.2.1) fun e he => ne_of_none q (C.ze e he), fr _ _ C.hb C.nbc (lst_nd C.hb C.R.dc) fun e he => (C.eb e he).1.symm, C.ho, hc', fr _ _ C.hm C.ncm.symm (lst_nd C.hm C.R.dc) fun e he => (C.eb e he).2.2.symm,
    ⟨dx, fr _ _ hx (lst_nx C.hc C.L) (ne_of hx C.R.dc (by intro z; cases z)) fun e he => lst_nx (C.R.rows e he) C.L⟩, R', ⟨fr _ _ C.gr.dc (lst_nd C.hc C.gr.dc).symm C.ndk.symm fun e he => (lst_nd (C.R.rows e he) C.gr.dc).symm, fun g hg => fr _ _ (C.gr.rows g hg) (C.gb g hg).2.1 (lst_nd (C.gr.rows g hg) C.R.dc) fun e he => (C.eg e he g hg).symm, C.gr.nl, C.gr.na⟩,
    C.nbc, C.nbm, C.ncm, C.ndk, fun e he => ⟨new e he b _ C.hb fun e h => (C.eb e h).1, new e he c _ C.hc fun e h => (C.eb e h).2.1, new e he m _ C.hm fun e h => (C.eb e h).2.2⟩, C.gb, fun e he g hg => new e he g.addr _ (C.gr.rows g hg) fun e h => C.eg e h g hg, C.z, fun e he => ?_, C.zg⟩
  rcases hE e he with ⟨f, hf, q⟩ | q
  · rw [← q]; exact C.ze f hf
  · exact C.same.free q
theorem Core.stepG {H' : Hp} {ms' : List Int} {G' : List Ent} (C : Core K H0 H b c m x d k o n cs ms E G) (R' : RowsAt H' k G') (hm' : H' m = some (intsO ms')) (fr : ∀ a o, H a = some o → a ≠ m → a ≠ k → (∀ e ∈ G, a ≠ e.addr) → H' a = some o)
    (hG : ∀ e ∈ G', (∃ f ∈ G, f.addr = e.addr) ∨ H e.addr = none) : Core K H0 H' b c m x d k o n cs ms' E G' := by
  obtain ⟨xs, rfl⟩ := bag_lst C.ho
  obtain ⟨dx, hx⟩ := id C.L
  have new : ∀ e ∈ G', ∀ p u, H p = some u → (∀ e ∈ G, e.addr ≠ p) → e.addr ≠ p := fun e he p u hp h1 => by
    rcases hG e he with ⟨f, hf, q⟩ | q
    · rw [← q]; exact h1 f hf
    · exact (ne_of_none hp q).symm
  refine ⟨fun a u q => fr a u (C.same a u q) (ne_of_none q C.z.2.2.1) (ne_of_none q C.z.2.2.2.2) fun e he => ne_of_none q (C.zg e he), fr _ _ C.hb C.nbm (lst_nd C.hb C.gr.dc) fun e he => (C.gb e he).1.symm, C.ho, fr _ _ C.hc C.ncm (lst_nd C.hc C.gr.dc) fun e he => (C.gb e he).2.1.symm, hm',
    ⟨dx, fr _ _ hx (lst_nx C.hm C.L) (ne_of hx C.gr.dc (by intro z; cases z)) fun e he => lst_nx (C.gr.rows e he) C.L⟩, ⟨fr _ _ C.R.dc (lst_nd C.hm C.R.dc).symm C.ndk fun e he => (lst_nd (C.gr.rows e he) C.R.dc).symm, fun g hg => fr _ _ (C.R.rows g hg) (C.eb g hg).2.2 (lst_nd (C.R.rows g hg) C.gr.dc) fun e he => C.eg g hg e he, C.R.nl, C.R.na⟩, R',
    C.nbc, C.nbm, C.ncm, C.ndk, C.eb, fun e he => ⟨new e he b _ C.hb fun e h => (C.gb e h).1, new e he c _ C.hc fun e h => (C.gb e h).2.1, new e he m _ C.hm fun e h => (C.gb e h).2.2⟩, fun e he g hg => (new g hg e.addr _ (C.R.rows e he) fun g h => (C.eg e he g h).symm).symm, C.z, C.ze, fun e he => ?_⟩
  rcases hG e he with ⟨f, hf, q⟩ | q
  · rw [← q]; exact C.zg f hf
  · exact C.same.free q
end
theorem con_clean {E G : List Ent} {l : Int} (h : E.map con = G.map con) : (cleanE E l).map con = (cleanE G l).map con :=
  con_set (f := fun e => { e with dirty := false }) h fun e g q => by
    have h1 : e.line = g.line := congrArg (·.1) q
    have h2 : e.v0 = g.v0 := congrArg (·.2.1) q
    have h3 : e.v1 = g.v1 := congrArg (·.2.2.1) q
    show (e.line, e.v0, e.v1, false) = (g.line, g.v0, g.v1, false)
    rw [h1, h2, h3]
theorem con_drop {E G : List Ent} {l : Int} (h : E.map con = G.map con) : (dropE E l).map con = (dropE G l).map con := by
  unfold dropE
  induction E generalizing G with
  | nil => cases G with
    | nil => rfl
    | cons _ _ => cases h
  | cons e r ih =>
    cases G with
    | nil => cases h
    | cons g s =>
      rw [List.map_cons, List.map_cons] at h
      injection h with h1 h2
      have el : e.line = g.line := congrArg (·.1) h1
      rw [List.filter_cons, List.filter_cons, el]
      split
      · rw [List.map_cons, List.map_cons, h1, ih h2]
      · exact ih h2
theorem con_find {E G : List Ent} (h : E.map con = G.map con) (l : Int) : (E.find? fun e => e.line == l).map con = (G.find? fun e => e.line == l).map con := by
  induction E generalizing G with
  | nil => cases G with
    | nil => rfl
    | cons _ _ => cases h
  | cons e r ih =>
    cases G with
    | nil => cases h
    | cons g s =>
      rw [List.map_cons, List.map_cons] at h
      injection h with h1 h2
      have el : e.line = g.line := congrArg (·.1) h1
      rw [List.find?_cons, List.find?_cons, el]
      split
      · rw [Option.map_some, Option.map_some, h1]
      · exact ih h2
theorem con_cleanC {E G : List Ent} {cs : List Int} {l : Int} (h : E.map con = G.map con) : cleanC E cs l = cleanC G cs l := by
  have q := con_find h l
  unfold cleanC
  cases h1 : E.find? (fun e => e.line == l) with
  | none =>
    rw [h1] at q
    cases h2 : G.find? (fun e => e.line == l) with
    | none => rfl
    | some g => rw [h2] at q; cases q
  | some e =>
    rw [h1] at q
    cases h2 : G.find? (fun e => e.line == l) with
    | none => rw [h2] at q; cases q
    | some g =>
      rw [h2] at q
      have q1 : con e = con g := Option.some.inj q
      have e0 : e.v0 = g.v0 := congrArg (·.2.1) q1
      have e1 : e.v1 = g.v1 := congrArg (·.2.2.1) q1
      have ed : e.dirty = g.dirty := congrArg (·.2.2.2) q1
      show (if e.dirty = true then _ else _) = (if g.dirty = true then _ else _)
      rw [e0, e1, ed]
theorem cleanC_len (E : List Ent) (cs : List Int) (l : Int) : (cleanC E cs l).length = cs.length := by
  unfold cleanC
  split
  · split
    · rw [List.length_set, List.length_set]
    · rfl
  · rfl
theorem cleanE_len (E : List Ent) (l : Int) : (cleanE E l).length = E.length := by unfold cleanE; rw [List.length_map]
theorem dropE_len (E : List Ent) (l : Int) : (dropE E l).length ≤ E.length := by unfold dropE; exact List.length_filter_le _ _

theorem rd_L_load {K : PySem.W.Frag} {mg : Str → Option Value} (T : Top K mg) : ∀ vs H Q E, sp_L_load K vs H Q E → t_L_load K { nx := fun _ H' => Q .non H', rt := Q } (start nm_L_load vs) H := by
  rintro vs H Q E ⟨d, c, l, E, cs, rfl, R, hc, h0, h1, h2, h3, k⟩
  rw [start_L_load]
  have fin : ∀ E' H', RowsAt H' d E' → (∃ e ∈ E', e.line = l) → (∀ e ∈ E', e.line = l → Q (.ref e.addr) H') → t_L_load_2 K { nx := fun _ H' => Q .non H', rt := Q } [some (.ref d), some (.ref c), some (.int l)] H' := by
    rintro E' H' R' ⟨e, he, rfl⟩ k'
    unfold t_L_load_2
    simp only [tSeq, tAsg, tIfS, tRet, tRetN, tDrop, tNext, tPar, tPar3, gName, gSub, gTup, gCons, gNil, zV, tC, tOp, tUn, tCons, tNil, tLst, tTup, tIf, tAnd, tOr, tNot, tYes, zB, zAnd, zOr, zNot, zChain, tDNewK, yAdd, ySub, yMul, yDiv, yMod, yPow, yNeg, yLt, yLe, yGt, yGe, yEq, yNe, yIs0, yNotIs0, yIx, ySet, yIn, sqAt, isNone, zFld, zSetF, insAt, zMeth, zProp, tCall, tMake, tCB, yLen, yAbs, yMax2, yMin2, yList, yTuple, yDict0, zLM, yApp, isLst, dkAt, keyOf, zGet1, zGet2, zPop1, zPop2, zForR1, zForR2, zForL, zForT, Z.intAt, refAt, zLc, iR1, iR2, iL, iT, wipe, List.getElem?_cons_zero, List.getElem?_cons_succ, List.set_cons_zero, List.set_cons_succ, List.cons_append, List.nil_append, List.append_nil, upd_same, at0, at1, at2, ix0, ix1, ix2, upd_upd, ite_true, ite_false, if_true, if_false, Bool.false_eq_true, decide_true, decide_false, reduceIte, true_and, and_true, Option.isSome_none, Option.isSome_some, Bool.not_false, Bool.not_true, R'.dc, kvs_some R'.nl he]
    exact k' e he rfl
  unfold t_L_load t_L_load_1
  simp only [tSeq, tAsg, tIfS, tRet, tRetN, tDrop, tNext, tPar, tPar3, gName, gSub, gTup, gCons, gNil, zV, tC, tOp, tUn, tCons, tNil, tLst, tTup, tIf, tAnd, tOr, tNot, tYes, zB, zAnd, zOr, zNot, zChain, tDNewK, yAdd, ySub, yMul, yDiv, yMod, yPow, yNeg, yLt, yLe, yGt, yGe, yEq, yNe, yIs0, yNotIs0, yIx, ySet, yIn, sqAt, isNone, zFld, zSetF, insAt, zMeth, zProp, tCall, tMake, tCB, yLen, yAbs, yMax2, yMin2, yList, yTuple, yDict0, zLM, yApp, isLst, dkAt, keyOf, zGet1, zGet2, zPop1, zPop2, zForR1, zForR2, zForL, zForT, Z.intAt, refAt, zLc, iR1, iR2, iL, iT, wipe, List.getElem?_cons_zero, List.getElem?_cons_succ, List.set_cons_zero, List.set_cons_succ, List.cons_append, List.nil_append, List.append_nil, upd_same, at0, at1, at2, ix0, ix1, ix2, upd_upd, ite_true, ite_false, if_true, if_false, Bool.false_eq_true, decide_true, decide_false, reduceIte, true_and, and_true, Option.isSome_none, Option.isSome_some, Bool.not_false, Bool.not_true, R.dc]
  rcases line_cases E l with hin | ha
  · obtain ⟨e, he, rfl⟩ := hin
    rw [kvs_some R.nl he]
    simp only [tSeq, tAsg, tIfS, tRet, tRetN, tDrop, tNext, tPar, tPar3, gName, gSub, gTup, gCons, gNil, zV, tC, tOp, tUn, tCons, tNil, tLst, tTup, tIf, tAnd, tOr, tNot, tYes, zB, zAnd, zOr, zNot, zChain, tDNewK, yAdd, ySub, yMul, yDiv, yMod, yPow, yNeg, yLt, yLe, yGt, yGe, yEq, yNe, yIs0, yNotIs0, yIx, ySet, yIn, sqAt, isNone, zFld, zSetF, insAt, zMeth, zProp, tCall, tMake, tCB, yLen, yAbs, yMax2, yMin2, yList, yTuple, yDict0, zLM, yApp, isLst, dkAt, keyOf, zGet1, zGet2, zPop1, zPop2, zForR1, zForR2, zForL, zForT, Z.intAt, refAt, zLc, iR1, iR2, iL, iT, wipe, List.getElem?_cons_zero, List.getElem?_cons_succ, List.set_cons_zero, List.set_cons_succ, List.cons_append, List.nil_append, List.append_nil, upd_same, at0, at1, at2, ix0, ix1, ix2, upd_upd, ite_true, ite_false, if_true, if_false, Bool.false_eq_true, decide_true, decide_false, reduceIte, true_and, and_true, Option.isSome_none, Option.isSome_some, Bool.not_false, Bool.not_true]
    exact fin E H R ⟨e, he, rfl⟩ (k.1 ⟨e, he, rfl⟩)
  · rw [kvs_none ha]
    unfold intsO at hc
    simp only [tSeq, tAsg, tIfS, tRet, tRetN, tDrop, tNext, tPar, tPar3, gName, gSub, gTup, gCons, gNil, zV, tC, tOp, tUn, tCons, tNil, tLst, tTup, tIf, tAnd, tOr, tNot, tYes, zB, zAnd, zOr, zNot, zChain, tDNewK, yAdd, ySub, yMul, yDiv, yMod, yPow, yNeg, yLt, yLe, yGt, yGe, yEq, yNe, yIs0, yNotIs0, yIx, ySet, yIn, sqAt, isNone, zFld, zSetF, insAt, zMeth, zProp, tCall, tMake, tCB, yLen, yAbs, yMax2, yMin2, yList, yTuple, yDict0, zLM, yApp, isLst, dkAt, keyOf, zGet1, zGet2, zPop1, zPop2, zForR1, zForR2, zForL, zForT, Z.intAt, refAt, zLc, iR1, iR2, iL, iT, wipe, List.getElem?_cons_zero, List.getElem?_cons_succ, List.set_cons_zero, List.set_cons_succ, List.cons_append, List.nil_append, List.append_nil, upd_same, at0, at1, at2, ix0, ix1, ix2, upd_upd, ite_true, ite_false, if_true, if_false, Bool.false_eq_true, decide_true, decide_false, reduceIte, true_and, and_true, Option.isSome_none, Option.isSome_some, Bool.not_false, Bool.not_true, t_L_load_1t_1, hc]
    obtain ⟨v0, c0, a0⟩ := at_cell (cs := cs) (i := 2 * l) (by omega) (by omega)
    obtain ⟨v1, c1, a1⟩ := at_cell (cs := cs) (i := 2 * l + 1) (by omega) (by omega)
    rw [a0, a1]
    simp only [tSeq, tAsg, tIfS, tRet, tRetN, tDrop, tNext, tPar, tPar3, gName, gSub, gTup, gCons, gNil, zV, tC, tOp, tUn, tCons, tNil, tLst, tTup, tIf, tAnd, tOr, tNot, tYes, zB, zAnd, zOr, zNot, zChain, tDNewK, yAdd, ySub, yMul, yDiv, yMod, yPow, yNeg, yLt, yLe, yGt, yGe, yEq, yNe, yIs0, yNotIs0, yIx, ySet, yIn, sqAt, isNone, zFld, zSetF, insAt, zMeth, zProp, tCall, tMake, tCB, yLen, yAbs, yMax2, yMin2, yList, yTuple, yDict0, zLM, yApp, isLst, dkAt, keyOf, zGet1, zGet2, zPop1, zPop2, zForR1, zForR2, zForL, zForT, Z.intAt, refAt, zLc, iR1, iR2, iL, iT, wipe, List.getElem?_cons_zero, List.getElem?_cons_succ, List.set_cons_zero, List.set_cons_succ, List.cons_append, List.nil_append, List.append_nil, upd_same, at0, at1, at2, ix0, ix1, ix2, upd_upd, ite_true, ite_false, if_true, if_false, Bool.false_eq_true, decide_true, decide_false, reduceIte, true_and, and_true, Option.isSome_none, Option.isSome_some, Bool.not_false, Bool.not_true]
    refine ⟨.inl ⟨by decide, by decide⟩, .inl ⟨by decide, by decide⟩, by show 3 ≤ sizeLine; decide, fun p hp => ?_⟩
    simp only [tSeq, tAsg, tIfS, tRet, tRetN, tDrop, tNext, tPar, tPar3, gName, gSub, gTup, gCons, gNil, zV, tC, tOp, tUn, tCons, tNil, tLst, tTup, tIf, tAnd, tOr, tNot, tYes, zB, zAnd, zOr, zNot, zChain, tDNewK, yAdd, ySub, yMul, yDiv, yMod, yPow, yNeg, yLt, yLe, yGt, yGe, yEq, yNe, yIs0, yNotIs0, yIx, ySet, yIn, sqAt, isNone, zFld, zSetF, insAt, zMeth, zProp, tCall, tMake, tCB, yLen, yAbs, yMax2, yMin2, yList, yTuple, yDict0, zLM, yApp, isLst, dkAt, keyOf, zGet1, zGet2, zPop1, zPop2, zForR1, zForR2, zForL, zForT, Z.intAt, refAt, zLc, iR1, iR2, iL, iT, wipe, List.getElem?_cons_zero, List.getElem?_cons_succ, List.set_cons_zero, List.set_cons_succ, List.cons_append, List.nil_append, List.append_nil, upd_same, at0, at1, at2, ix0, ix1, ix2, upd_upd, ite_true, ite_false, if_true, if_false, Bool.false_eq_true, decide_true, decide_false, reduceIte, true_and, and_true, Option.isSome_none, Option.isSome_some, Bool.not_false, Bool.not_true, upd_ne (ne_of_none R.dc hp), R.dc]
    refine ⟨by rw [kvs_len]; exact small1000 (by omega), ?_⟩
    rw [kvs_put (v0 := v0) (v1 := v1) (b := false) ha]
    exact fin _ _ (R.load ha hp) ⟨_, List.mem_append_right _ (List.mem_singleton.mpr rfl), rfl⟩ (k.2 ha p v0 v1 hp c0 c1)
/-- an entry's row replaced by a new one -/
theorem kvs_put_at {G : List Ent} {e : Ent} {f : Ent → Ent} (hn : (G.map (·.line)).Nodup) (he : e ∈ G) (hf : ∀ e, (f e).line = e.line) {r : Addr} (hr : ∀ e, (f e).addr = r) : putK (kvsOf G) (Sum.inl e.line : Key) (.ref r) = kvsOf (setE G e.line f) := by
  have hs : ((kvsOf G).any fun kv => decide (kv.1 = (Sum.inl e.line : Key))) = true := by
    rw [valV_any, kvs_some hn he] <;> rfl
  unfold putK
  rw [if_pos hs]
  unfold kvsOf setE
  rw [List.map_map, List.map_map]
  refine List.map_congr_left fun g _ => ?_
  show (if (Sum.inl g.line : Key) = Sum.inl e.line then _ else _) = _
  by_cases q : g.line = e.line
  · rw [if_pos (by rw [q])]
    simp only [Function.comp]
    rw [if_pos q, hf, hr]
  · rw [if_neg (fun z => q (Sum.inl.inj z))]
    simp only [Function.comp]
    rw [if_neg q]
theorem setE_new_nodup {r : Addr} {l : Int} {f : Ent → Ent} (hf : ∀ e, (f e).addr = r) : ∀ {E : List Ent}, (E.map (·.line)).Nodup → (E.map (·.addr)).Nodup → (∀ e ∈ E, e.addr ≠ r) → ((setE E l f).map (·.addr)).Nodup
  | [], _, _, _ => List.nodup_nil
  | e :: E, h1, h2, h3 => by
    rw [List.map_cons, List.nodup_cons] at h1 h2
    have h3' : ∀ g ∈ E, g.addr ≠ r := fun g hg => h3 g (List.mem_cons_of_mem _ hg)
    have tl := setE_new_nodup (l := l) hf h1.2 h2.2 h3'
    have e1 : setE (e :: E) l f = (if e.line = l then f e else e) :: setE E l f := rfl
    rw [e1, List.map_cons, List.nodup_cons]
    refine ⟨fun hm => ?_, tl⟩
    obtain ⟨g, hg, q⟩ := List.mem_map.mp hm
    unfold setE at hg
    obtain ⟨g', hg', q2⟩ := List.mem_map.mp hg
    by_cases c : e.line = l
    · rw [if_pos c, hf] at q
      by_cases c2 : g'.line = l
      · exact h1.1 (List.mem_map.mpr ⟨g', hg', c2.trans c.symm⟩)
      · rw [if_neg c2] at q2
        rw [← q2] at q
        exact h3' g' hg' q
    · rw [if_neg c] at q
      by_cases c2 : g'.line = l
      · rw [if_pos c2] at q2
        rw [← q2, hf] at q
        exact h3 e (List.mem_cons_self) q.symm
      · rw [if_neg c2] at q2
        rw [← q2] at q
        exact h2.1 (List.mem_map.mpr ⟨g', hg', q⟩)
theorem rd_L_clean {K : PySem.W.Frag} {mg : Str → Option Value} (T : Top K mg) : ∀ vs H Q E, sp_L_clean K vs H Q E → t_L_clean K { nx := fun _ H' => Q .non H', rt := Q } (start nm_L_clean vs) H := by
  rintro vs H Q E ⟨d, c, l, E, cs, rfl, R, hc, hnc, h0, h1, h2, h3, k⟩
  rw [start_L_clean]
  unfold t_L_clean t_L_clean_1
  simp only [tSeq, tAsg, tIfS, tRet, tRetN, tDrop, tNext, tPar, tPar3, gName, gSub, gTup, gCons, gNil, zV, tC, tOp, tUn, tCons, tNil, tLst, tTup, tIf, tAnd, tOr, tNot, tYes, zB, zAnd, zOr, zNot, zChain, tDNewK, yAdd, ySub, yMul, yDiv, yMod, yPow, yNeg, yLt, yLe, yGt, yGe, yEq, yNe, yIs0, yNotIs0, yIx, ySet, yIn, sqAt, isNone, zFld, zSetF, insAt, zMeth, zProp, tCall, tMake, tCB, yLen, yAbs, yMax2, yMin2, yList, yTuple, yDict0, zLM, yApp, isLst, dkAt, keyOf, zGet1, zGet2, zPop1, zPop2, zForR1, zForR2, zForL, zForT, Z.intAt, refAt, zLc, iR1, iR2, iL, iT, wipe, List.getElem?_cons_zero, List.getElem?_cons_succ, List.set_cons_zero, List.set_cons_succ, List.cons_append, List.nil_append, List.append_nil, upd_same, at0, at1, at2, ix0, ix1, ix2, upd_upd, ite_true, ite_false, if_true, if_false, Bool.false_eq_true, decide_true, decide_false, reduceIte, true_and, and_true, Option.isSome_none, Option.isSome_some, Bool.not_false, Bool.not_true, R.dc]
  rcases line_cases E l with ⟨e, he, rfl⟩ | ha
  · rw [kvs_some R.nl he]
    have hr := R.rows e he
    unfold Ent.row at hr
    simp only [tSeq, tAsg, tIfS, tRet, tRetN, tDrop, tNext, tPar, tPar3, gName, gSub, gTup, gCons, gNil, zV, tC, tOp, tUn, tCons, tNil, tLst, tTup, tIf, tAnd, tOr, tNot, tYes, zB, zAnd, zOr, zNot, zChain, tDNewK, yAdd, ySub, yMul, yDiv, yMod, yPow, yNeg, yLt, yLe, yGt, yGe, yEq, yNe, yIs0, yNotIs0, yIx, ySet, yIn, sqAt, isNone, zFld, zSetF, insAt, zMeth, zProp, tCall, tMake, tCB, yLen, yAbs, yMax2, yMin2, yList, yTuple, yDict0, zLM, yApp, isLst, dkAt, keyOf, zGet1, zGet2, zPop1, zPop2, zForR1, zForR2, zForL, zForT, Z.intAt, refAt, zLc, iR1, iR2, iL, iT, wipe, List.getElem?_cons_zero, List.getElem?_cons_succ, List.set_cons_zero, List.set_cons_succ, List.cons_append, List.nil_append, List.append_nil, upd_same, at0, at1, at2, ix0, ix1, ix2, upd_upd, ite_true, ite_false, if_true, if_false, Bool.false_eq_true, decide_true, decide_false, reduceIte, true_and, and_true, Option.isSome_none, Option.isSome_some, Bool.not_false, Bool.not_true, hr]
    cases hdt : e.dirty with
    | false =>
      simp only [tSeq, tAsg, tIfS, tRet, tRetN, tDrop, tNext, tPar, tPar3, gName, gSub, gTup, gCons, gNil, zV, tC, tOp, tUn, tCons, tNil, tLst, tTup, tIf, tAnd, tOr, tNot, tYes, zB, zAnd, zOr, zNot, zChain, tDNewK, yAdd, ySub, yMul, yDiv, yMod, yPow, yNeg, yLt, yLe, yGt, yGe, yEq, yNe, yIs0, yNotIs0, yIx, ySet, yIn, sqAt, isNone, zFld, zSetF, insAt, zMeth, zProp, tCall, tMake, tCB, yLen, yAbs, yMax2, yMin2, yList, yTuple, yDict0, zLM, yApp, isLst, dkAt, keyOf, zGet1, zGet2, zPop1, zPop2, zForR1, zForR2, zForL, zForT, Z.intAt, refAt, zLc, iR1, iR2, iL, iT, wipe, List.getElem?_cons_zero, List.getElem?_cons_succ, List.set_cons_zero, List.set_cons_succ, List.cons_append, List.nil_append, List.append_nil, upd_same, at0, at1, at2, ix0, ix1, ix2, upd_upd, ite_true, ite_false, if_true, if_false, Bool.false_eq_true, decide_true, decide_false, reduceIte, true_and, and_true, Option.isSome_none, Option.isSome_some, Bool.not_false, Bool.not_true]
      refine k H E R ?_ (fun e he => .inl ⟨e, he, rfl⟩) ?_ fun a o q _ _ _ => q
      · rw [cleanE_same fun f hf q => by rw [R.uniq hf he q]; exact hdt]
      · unfold cleanC
        rw [find_line R.nl he]
        simp only [hdt, Bool.false_eq_true, if_false]
        exact hc
    | true =>
      have nec : e.addr ≠ c := hnc e he
      have ndc : d ≠ c := ne_of R.dc hc (by intro z; cases z)
      rw [hdt] at hr
      simp only [tSeq, tAsg, tIfS, tRet, tRetN, tDrop, tNext, tPar, tPar3, gName, gSub, gTup, gCons, gNil, zV, tC, tOp, tUn, tCons, tNil, tLst, tTup, tIf, tAnd, tOr, tNot, tYes, zB, zAnd, zOr, zNot, zChain, tDNewK, yAdd, ySub, yMul, yDiv, yMod, yPow, yNeg, yLt, yLe, yGt, yGe, yEq, yNe, yIs0, yNotIs0, yIx, ySet, yIn, sqAt, isNone, zFld, zSetF, insAt, zMeth, zProp, tCall, tMake, tCB, yLen, yAbs, yMax2, yMin2, yList, yTuple, yDict0, zLM, yApp, isLst, dkAt, keyOf, zGet1, zGet2, zPop1, zPop2, zForR1, zForR2, zForL, zForT, Z.intAt, refAt, zLc, iR1, iR2, iL, iT, wipe, List.getElem?_cons_zero, List.getElem?_cons_succ, List.set_cons_zero, List.set_cons_succ, List.cons_append, List.nil_append, List.append_nil, upd_same, at0, at1, at2, ix0, ix1, ix2, upd_upd, ite_true, ite_false, if_true, if_false, Bool.false_eq_true, decide_true, decide_false, reduceIte, true_and, and_true, Option.isSome_none, Option.isSome_some, Bool.not_false, Bool.not_true, t_L_clean_1t_1, R.dc, kvs_some R.nl he, hr, hc, List.length_map, ix_nat (show 0 ≤ 2 * e.line by omega) (show 2 * e.line < (cs.length : Int) by omega), set_ints]
      refine ⟨.inl ⟨by decide, by decide⟩, ?_⟩
      have hc1 : (upd H c (intsO (cs.set (2 * e.line).toNat e.v0))) c = some (.lst ((cs.set (2 * e.line).toNat e.v0).map V.int)) := upd_same
      have hd1 : (upd H c (intsO (cs.set (2 * e.line).toNat e.v0))) d = _ := (upd_ne ndc).trans R.dc
      have hr1 : (upd H c (intsO (cs.set (2 * e.line).toNat e.v0))) e.addr = _ := (upd_ne nec).trans hr
      simp only [tSeq, tAsg, tIfS, tRet, tRetN, tDrop, tNext, tPar, tPar3, gName, gSub, gTup, gCons, gNil, zV, tC, tOp, tUn, tCons, tNil, tLst, tTup, tIf, tAnd, tOr, tNot, tYes, zB, zAnd, zOr, zNot, zChain, tDNewK, yAdd, ySub, yMul, yDiv, yMod, yPow, yNeg, yLt, yLe, yGt, yGe, yEq, yNe, yIs0, yNotIs0, yIx, ySet, yIn, sqAt, isNone, zFld, zSetF, insAt, zMeth, zProp, tCall, tMake, tCB, yLen, yAbs, yMax2, yMin2, yList, yTuple, yDict0, zLM, yApp, isLst, dkAt, keyOf, zGet1, zGet2, zPop1, zPop2, zForR1, zForR2, zForL, zForT, Z.intAt, refAt, zLc, iR1, iR2, iL, iT, wipe, List.getElem?_cons_zero, List.getElem?_cons_succ, List.set_cons_zero, List.set_cons_succ, List.cons_append, List.nil_append, List.append_nil, upd_same, at0, at1, at2, ix0, ix1, ix2, upd_upd, ite_true, ite_false, if_true, if_false, Bool.false_eq_true, decide_true, decide_false, reduceIte, true_and, and_true, Option.isSome_none, Option.isSome_some, Bool.not_false, Bool.not_true, t_L_clean_1t_2, hd1, hr1, hc1, kvs_some R.nl he, List.length_map, List.length_set, ix_nat (show 0 ≤ 2 * e.line + 1 by omega) (show 2 * e.line + 1 < (cs.length : Int) by omega), set_ints]
      refine ⟨.inl ⟨by decide, by decide⟩, ?_⟩
      generalize hcs2 : (cs.set (2 * e.line).toNat e.v0).set (2 * e.line + 1).toNat e.v1 = cs2
      have hlen : cs2.length = cs.length := by rw [← hcs2, List.length_set, List.length_set]
      have R2 : RowsAt (upd H c (intsO cs2)) d E := R.frame ndc.symm fun f hf => hnc f hf
      have hc2 : (upd H c (intsO cs2)) c = some (.lst (cs2.map V.int)) := upd_same
      have a0 : atI (cs2.map V.int) (2 * e.line) = some (.int e.v0) := at_nat (by omega) (by rw [List.getElem?_map, ← hcs2, List.getElem?_set_ne (by omega), List.getElem?_set_self (by omega)]; rfl)
      have a1 : atI (cs2.map V.int) (2 * e.line + 1) = some (.int e.v1) := at_nat (by omega) (by rw [List.getElem?_map, ← hcs2, List.getElem?_set_self (by rw [List.length_set]; omega)]; rfl)
      have fr2 : ∀ a o, H a = some o → a ≠ c → (upd H c (intsO cs2)) a = some o := fun a o q h => by rw [upd_ne h]; exact q
      have fr3 : ∀ a, (upd H c (intsO cs2)) a = none → H a = none := fun a q => by
        by_cases h : a = c
        · rw [h, upd_same] at q; cases q
        · rw [upd_ne h] at q; exact q
      generalize upd H c (intsO cs2) = H2 at R2 hc2 fr2 fr3
      simp only [tSeq, tAsg, tIfS, tRet, tRetN, tDrop, tNext, tPar, tPar3, gName, gSub, gTup, gCons, gNil, zV, tC, tOp, tUn, tCons, tNil, tLst, tTup, tIf, tAnd, tOr, tNot, tYes, zB, zAnd, zOr, zNot, zChain, tDNewK, yAdd, ySub, yMul, yDiv, yMod, yPow, yNeg, yLt, yLe, yGt, yGe, yEq, yNe, yIs0, yNotIs0, yIx, ySet, yIn, sqAt, isNone, zFld, zSetF, insAt, zMeth, zProp, tCall, tMake, tCB, yLen, yAbs, yMax2, yMin2, yList, yTuple, yDict0, zLM, yApp, isLst, dkAt, keyOf, zGet1, zGet2, zPop1, zPop2, zForR1, zForR2, zForL, zForT, Z.intAt, refAt, zLc, iR1, iR2, iL, iT, wipe, List.getElem?_cons_zero, List.getElem?_cons_succ, List.set_cons_zero, List.set_cons_succ, List.cons_append, List.nil_append, List.append_nil, upd_same, at0, at1, at2, ix0, ix1, ix2, upd_upd, ite_true, ite_false, if_true, if_false, Bool.false_eq_true, decide_true, decide_false, reduceIte, true_and, and_true, Option.isSome_none, Option.isSome_some, Bool.not_false, Bool.not_true, t_L_clean_1t_3, hc2, a0, a1]
      refine ⟨.inl ⟨by decide, by decide⟩, .inl ⟨by decide, by decide⟩, by show 3 ≤ sizeLine; decide, fun r hr3 => ?_⟩
      simp only [tSeq, tAsg, tIfS, tRet, tRetN, tDrop, tNext, tPar, tPar3, gName, gSub, gTup, gCons, gNil, zV, tC, tOp, tUn, tCons, tNil, tLst, tTup, tIf, tAnd, tOr, tNot, tYes, zB, zAnd, zOr, zNot, zChain, tDNewK, yAdd, ySub, yMul, yDiv, yMod, yPow, yNeg, yLt, yLe, yGt, yGe, yEq, yNe, yIs0, yNotIs0, yIx, ySet, yIn, sqAt, isNone, zFld, zSetF, insAt, zMeth, zProp, tCall, tMake, tCB, yLen, yAbs, yMax2, yMin2, yList, yTuple, yDict0, zLM, yApp, isLst, dkAt, keyOf, zGet1, zGet2, zPop1, zPop2, zForR1, zForR2, zForL, zForT, Z.intAt, refAt, zLc, iR1, iR2, iL, iT, wipe, List.getElem?_cons_zero, List.getElem?_cons_succ, List.set_cons_zero, List.set_cons_succ, List.cons_append, List.nil_append, List.append_nil, upd_same, at0, at1, at2, ix0, ix1, ix2, upd_upd, ite_true, ite_false, if_true, if_false, Bool.false_eq_true, decide_true, decide_false, reduceIte, true_and, and_true, Option.isSome_none, Option.isSome_some, Bool.not_false, Bool.not_true, upd_ne (ne_of_none R2.dc hr3), R2.dc]
      refine ⟨by rw [kvs_len]; exact small1000 (by omega), ?_⟩
      rw [kvs_put_at (f := fun e => { e with addr := r, dirty := false }) R2.nl he (fun _ => rfl) (fun _ => rfl)]
      have hG : ∀ f ∈ setE E e.line (fun e => { e with addr := r, dirty := false }), (f = { e with addr := r, dirty := false }) ∨ (f ∈ E ∧ f.line ≠ e.line) := fun f hf => by
        unfold setE at hf
        obtain ⟨g, hg, rfl⟩ := List.mem_map.mp hf
        by_cases q : g.line = e.line
        · rw [if_pos q, R.uniq hg he q]; exact .inl rfl
        · rw [if_neg q]; exact .inr ⟨hg, q⟩
      refine k _ (setE E e.line (fun e => { e with addr := r, dirty := false })) ⟨upd_same, fun f hf => ?_, ?_, ?_⟩ ?_ (fun f hf => ?_) ?_ fun a o q n1 n2 n3 => ?_
      · rcases hG f hf with rfl | ⟨hf2, _⟩
        · show upd _ d _ r = _
          rw [upd_ne (ne_of_none R2.dc hr3).symm, upd_same] <;> rfl
        · rw [upd_ne (R2.d_ne f hf2), upd_ne (ne_of_none (R2.rows f hf2) hr3)]
          exact R2.rows f hf2
      · rw [setE_lines (f := fun e => { e with addr := r, dirty := false }) (fun _ => rfl)]; exact R2.nl
      · exact setE_new_nodup (r := r) (fun _ => rfl) R2.nl R2.na fun f hf z => by rw [← z, R2.rows f hf] at hr3; cases hr3
      · unfold setE cleanE
        rw [List.map_map, List.map_map]
        refine List.map_congr_left fun f _ => ?_
        simp only [Function.comp]
        split <;> rfl
      · rcases hG f hf with rfl | ⟨hf2, _⟩
        · exact .inr (fr3 r hr3)
        · exact .inl ⟨f, hf2, rfl⟩
      · rw [upd_ne ndc.symm, upd_ne (ne_of_none hc2 hr3)]
        unfold cleanC
        rw [find_line R.nl he]
        simp only [hdt, if_true]
        rw [hcs2]
        exact hc2
      · rw [upd_ne n2, upd_ne (ne_of_none (fr2 a o q n1) hr3)]
        exact fr2 a o q n1
  · rw [kvs_none ha]
    simp only [tSeq, tAsg, tIfS, tRet, tRetN, tDrop, tNext, tPar, tPar3, gName, gSub, gTup, gCons, gNil, zV, tC, tOp, tUn, tCons, tNil, tLst, tTup, tIf, tAnd, tOr, tNot, tYes, zB, zAnd, zOr, zNot, zChain, tDNewK, yAdd, ySub, yMul, yDiv, yMod, yPow, yNeg, yLt, yLe, yGt, yGe, yEq, yNe, yIs0, yNotIs0, yIx, ySet, yIn, sqAt, isNone, zFld, zSetF, insAt, zMeth, zProp, tCall, tMake, tCB, yLen, yAbs, yMax2, yMin2, yList, yTuple, yDict0, zLM, yApp, isLst, dkAt, keyOf, zGet1, zGet2, zPop1, zPop2, zForR1, zForR2, zForL, zForT, Z.intAt, refAt, zLc, iR1, iR2, iL, iT, wipe, List.getElem?_cons_zero, List.getElem?_cons_succ, List.set_cons_zero, List.set_cons_succ, List.cons_append, List.nil_append, List.append_nil, upd_same, at0, at1, at2, ix0, ix1, ix2, upd_upd, ite_true, ite_false, if_true, if_false, Bool.false_eq_true, decide_true, decide_false, reduceIte, true_and, and_true, Option.isSome_none, Option.isSome_some, Bool.not_false, Bool.not_true]
    refine k H E R ?_ (fun e he => .inl ⟨e, he, rfl⟩) ?_ fun a o q _ _ _ => q
    · rw [cleanE_same fun f hf q => absurd q (ha f hf)]
    · unfold cleanC
      rw [find_none ha]
      exact hc

theorem drop_none {H : Hp} {d : Addr} {G : List Ent} {l : Int} (R : RowsAt H d G) (h : valV (kvsOf G) (Sum.inl l : Key) = none) : dropE G l = G := by
  rcases line_cases G l with ⟨e, he, rfl⟩ | ha
  · rw [kvs_some R.nl he] at h; cases h
  · exact dropE_same ha
theorem Core.dropG {K : PySem.W.Frag} {H0 H : Hp} {b c m x d k : Addr} {o : HO} {n : Int} {cs ms : List Int} {E G : List Ent} (C : Core K H0 H b c m x d k o n cs ms E G) (l : Int) : Core K H0 (upd H k (.dK (kvsOf (dropE G l)))) b c m x d k o n cs ms E (dropE G l) :=
  C.stepG (C.gr.drop (l := l)) (by rw [upd_ne (lst_nd C.hm C.gr.dc)]; exact C.hm) (fun a u q _ n2 _ => by rw [upd_ne n2]; exact q) fun e he => .inl ⟨e, (dropE_sub he).1, rfl⟩
theorem rd_L_done {K : PySem.W.Frag} {mg : Str → Option Value} (T : Top K mg) : ∀ vs H Q E, sp_L_done K vs H Q E → t_L_done K { nx := fun _ H' => Q .non H', rt := Q } (start nm_L_done vs) H := by
  rintro vs H Q E ⟨H0, b, c, m, x, d, k, o, n, way, l, cs, E, G, rfl, C, heq, h0, h1, h2, h3, kk⟩
  rw [start_L_done]
  have hG3 : G.length ≤ 800 := by rw [← con_len heq]; exact h3
  unfold t_L_done t_L_done_1
  simp only [tSeq, tAsg, tIfS, tRet, tRetN, tDrop, tNext, tPar, tPar3, gName, gSub, gTup, gCons, gNil, zV, tC, tOp, tUn, tCons, tNil, tLst, tTup, tIf, tAnd, tOr, tNot, tYes, zB, zAnd, zOr, zNot, zChain, tDNewK, yAdd, ySub, yMul, yDiv, yMod, yPow, yNeg, yLt, yLe, yGt, yGe, yEq, yNe, yIs0, yNotIs0, yIx, ySet, yIn, sqAt, isNone, zFld, zSetF, insAt, zMeth, zProp, tCall, tMake, tCB, yLen, yAbs, yMax2, yMin2, yList, yTuple, yDict0, zLM, yApp, isLst, dkAt, keyOf, zGet1, zGet2, zPop1, zPop2, zForR1, zForR2, zForL, zForT, Z.intAt, refAt, zLc, iR1, iR2, iL, iT, wipe, List.getElem?_cons_zero, List.getElem?_cons_succ, List.set_cons_zero, List.set_cons_succ, List.cons_append, List.nil_append, List.append_nil, upd_same, at0, at1, at2, ix0, ix1, ix2, upd_upd, ite_true, ite_false, if_true, if_false, Bool.false_eq_true, decide_true, decide_false, reduceIte, true_and, and_true, Option.isSome_none, Option.isSome_some, Bool.not_false, Bool.not_true]
  by_cases hw : way = 0
  · rw [decide_eq_true hw]
    simp only [tSeq, tAsg, tIfS, tRet, tRetN, tDrop, tNext, tPar, tPar3, gName, gSub, gTup, gCons, gNil, zV, tC, tOp, tUn, tCons, tNil, tLst, tTup, tIf, tAnd, tOr, tNot, tYes, zB, zAnd, zOr, zNot, zChain, tDNewK, yAdd, ySub, yMul, yDiv, yMod, yPow, yNeg, yLt, yLe, yGt, yGe, yEq, yNe, yIs0, yNotIs0, yIx, ySet, yIn, sqAt, isNone, zFld, zSetF, insAt, zMeth, zProp, tCall, tMake, tCB, yLen, yAbs, yMax2, yMin2, yList, yTuple, yDict0, zLM, yApp, isLst, dkAt, keyOf, zGet1, zGet2, zPop1, zPop2, zForR1, zForR2, zForL, zForT, Z.intAt, refAt, zLc, iR1, iR2, iL, iT, wipe, List.getElem?_cons_zero, List.getElem?_cons_succ, List.set_cons_zero, List.set_cons_succ, List.cons_append, List.nil_append, List.append_nil, upd_same, at0, at1, at2, ix0, ix1, ix2, upd_upd, ite_true, ite_false, if_true, if_false, Bool.false_eq_true, decide_true, decide_false, reduceIte, true_and, and_true, Option.isSome_none, Option.isSome_some, Bool.not_false, Bool.not_true, t_L_done_1t_1]
    refine ⟨k, m, l, G, cs, rfl, C.gr, C.hm, fun e he => (C.gb e he).2.2, h0, h1, h2, by omega, fun H1 G1 R1 q1 n1 m1 fr1 => ?_⟩
    have C1 := C.stepG R1 m1 fr1 n1
    obtain ⟨dx, hx⟩ := id C1.L
    unfold t_L_done_1t_2
    simp only [tSeq, tAsg, tIfS, tRet, tRetN, tDrop, tNext, tPar, tPar3, gName, gSub, gTup, gCons, gNil, zV, tC, tOp, tUn, tCons, tNil, tLst, tTup, tIf, tAnd, tOr, tNot, tYes, zB, zAnd, zOr, zNot, zChain, tDNewK, yAdd, ySub, yMul, yDiv, yMod, yPow, yNeg, yLt, yLe, yGt, yGe, yEq, yNe, yIs0, yNotIs0, yIx, ySet, yIn, sqAt, isNone, zFld, zSetF, insAt, zMeth, zProp, tCall, tMake, tCB, yLen, yAbs, yMax2, yMin2, yList, yTuple, yDict0, zLM, yApp, isLst, dkAt, keyOf, zGet1, zGet2, zPop1, zPop2, zForR1, zForR2, zForL, zForT, Z.intAt, refAt, zLc, iR1, iR2, iL, iT, wipe, List.getElem?_cons_zero, List.getElem?_cons_succ, List.set_cons_zero, List.set_cons_succ, List.cons_append, List.nil_append, List.append_nil, upd_same, at0, at1, at2, ix0, ix1, ix2, upd_upd, ite_true, ite_false, if_true, if_false, Bool.false_eq_true, decide_true, decide_false, reduceIte, true_and, and_true, Option.isSome_none, Option.isSome_some, Bool.not_false, Bool.not_true, hx, no_Lines_clean]
    refine ⟨x, c, d, l, E, cs, rfl, C1.L, C1.R, C1.hc, fun e he => (C1.eb e he).2.1, h0, h1, h2, fun H2 R2 m2 fr2 => ?_⟩
    have C2 := C1.stepE R2 m2 (fun a u q n1 _ n3 => fr2 a u q n1 n3) fun e he => .inl (cleanE_addr he)
    rw [con_cleanC heq] at C2
    exact kk _ _ _ _ C2 (by rw [q1]; exact con_clean heq) (cleanC_len _ _ _) (by rw [cleanE_len]; exact Nat.le_refl _)
  · rw [decide_eq_false hw]
    simp only [tSeq, tAsg, tIfS, tRet, tRetN, tDrop, tNext, tPar, tPar3, gName, gSub, gTup, gCons, gNil, zV, tC, tOp, tUn, tCons, tNil, tLst, tTup, tIf, tAnd, tOr, tNot, tYes, zB, zAnd, zOr, zNot, zChain, tDNewK, yAdd, ySub, yMul, yDiv, yMod, yPow, yNeg, yLt, yLe, yGt, yGe, yEq, yNe, yIs0, yNotIs0, yIx, ySet, yIn, sqAt, isNone, zFld, zSetF, insAt, zMeth, zProp, tCall, tMake, tCB, yLen, yAbs, yMax2, yMin2, yList, yTuple, yDict0, zLM, yApp, isLst, dkAt, keyOf, zGet1, zGet2, zPop1, zPop2, zForR1, zForR2, zForL, zForT, Z.intAt, refAt, zLc, iR1, iR2, iL, iT, wipe, List.getElem?_cons_zero, List.getElem?_cons_succ, List.set_cons_zero, List.set_cons_succ, List.cons_append, List.nil_append, List.append_nil, upd_same, at0, at1, at2, ix0, ix1, ix2, upd_upd, ite_true, ite_false, if_true, if_false, Bool.false_eq_true, decide_true, decide_false, reduceIte, true_and, and_true, Option.isSome_none, Option.isSome_some, Bool.not_false, Bool.not_true]
    unfold t_L_done_2
    simp only [tSeq, tAsg, tIfS, tRet, tRetN, tDrop, tNext, tPar, tPar3, gName, gSub, gTup, gCons, gNil, zV, tC, tOp, tUn, tCons, tNil, tLst, tTup, tIf, tAnd, tOr, tNot, tYes, zB, zAnd, zOr, zNot, zChain, tDNewK, yAdd, ySub, yMul, yDiv, yMod, yPow, yNeg, yLt, yLe, yGt, yGe, yEq, yNe, yIs0, yNotIs0, yIx, ySet, yIn, sqAt, isNone, zFld, zSetF, insAt, zMeth, zProp, tCall, tMake, tCB, yLen, yAbs, yMax2, yMin2, yList, yTuple, yDict0, zLM, yApp, isLst, dkAt, keyOf, zGet1, zGet2, zPop1, zPop2, zForR1, zForR2, zForL, zForT, Z.intAt, refAt, zLc, iR1, iR2, iL, iT, wipe, List.getElem?_cons_zero, List.getElem?_cons_succ, List.set_cons_zero, List.set_cons_succ, List.cons_append, List.nil_append, List.append_nil, upd_same, at0, at1, at2, ix0, ix1, ix2, upd_upd, ite_true, ite_false, if_true, if_false, Bool.false_eq_true, decide_true, decide_false, reduceIte, true_and, and_true, Option.isSome_none, Option.isSome_some, Bool.not_false, Bool.not_true]
    by_cases hw1 : way = 1
    · rw [decide_eq_true hw1]
      simp only [tSeq, tAsg, tIfS, tRet, tRetN, tDrop, tNext, tPar, tPar3, gName, gSub, gTup, gCons, gNil, zV, tC, tOp, tUn, tCons, tNil, tLst, tTup, tIf, tAnd, tOr, tNot, tYes, zB, zAnd, zOr, zNot, zChain, tDNewK, yAdd, ySub, yMul, yDiv, yMod, yPow, yNeg, yLt, yLe, yGt, yGe, yEq, yNe, yIs0, yNotIs0, yIx, ySet, yIn, sqAt, isNone, zFld, zSetF, insAt, zMeth, zProp, tCall, tMake, tCB, yLen, yAbs, yMax2, yMin2, yList, yTuple, yDict0, zLM, yApp, isLst, dkAt, keyOf, zGet1, zGet2, zPop1, zPop2, zForR1, zForR2, zForL, zForT, Z.intAt, refAt, zLc, iR1, iR2, iL, iT, wipe, List.getElem?_cons_zero, List.getElem?_cons_succ, List.set_cons_zero, List.set_cons_succ, List.cons_append, List.nil_append, List.append_nil, upd_same, at0, at1, at2, ix0, ix1, ix2, upd_upd, ite_true, ite_false, if_true, if_false, Bool.false_eq_true, decide_true, decide_false, reduceIte, true_and, and_true, Option.isSome_none, Option.isSome_some, Bool.not_false, Bool.not_true, t_L_done_2t_1, C.gr.dc]
      rw [drop_kvs]
      have nxt : ∀ H1, Core K H0 H1 b c m x d k o n cs cs E (dropE G l) → sp_Lines_drop K [V.ref x, V.int l] H1 Q C8.E0 := fun H1 C1 => by
        refine ⟨x, c, d, l, E, rfl, C1.L, C1.R, fun H2 R2 fr2 => ?_⟩
        have C2 := C1.stepE R2 (fr2 _ _ C1.hc (lst_nd C1.hc C1.R.dc)) (fun a u q _ n2 _ => fr2 a u q n2) fun e he => .inl ⟨e, (dropE_sub he).1, rfl⟩
        exact kk _ _ _ _ C2 (con_drop heq) rfl (dropE_len _ _)
      have C1 := C.dropG l
      unfold t_L_done_2t_2
      obtain ⟨dx, hx⟩ := id C1.L
      obtain ⟨dx0, hx0⟩ := id C.L
      simp only [tSeq, tAsg, tIfS, tRet, tRetN, tDrop, tNext, tPar, tPar3, gName, gSub, gTup, gCons, gNil, zV, tC, tOp, tUn, tCons, tNil, tLst, tTup, tIf, tAnd, tOr, tNot, tYes, zB, zAnd, zOr, zNot, zChain, tDNewK, yAdd, ySub, yMul, yDiv, yMod, yPow, yNeg, yLt, yLe, yGt, yGe, yEq, yNe, yIs0, yNotIs0, yIx, ySet, yIn, sqAt, isNone, zFld, zSetF, insAt, zMeth, zProp, tCall, tMake, tCB, yLen, yAbs, yMax2, yMin2, yList, yTuple, yDict0, zLM, yApp, isLst, dkAt, keyOf, zGet1, zGet2, zPop1, zPop2, zForR1, zForR2, zForL, zForT, Z.intAt, refAt, zLc, iR1, iR2, iL, iT, wipe, List.getElem?_cons_zero, List.getElem?_cons_succ, List.set_cons_zero, List.set_cons_succ, List.cons_append, List.nil_append, List.append_nil, upd_same, at0, at1, at2, ix0, ix1, ix2, upd_upd, ite_true, ite_false, if_true, if_false, Bool.false_eq_true, decide_true, decide_false, reduceIte, true_and, and_true, Option.isSome_none, Option.isSome_some, Bool.not_false, Bool.not_true, hx, hx0, no_Lines_drop]
      refine ⟨fun _ _ => nxt _ C1, fun z => nxt _ ?_⟩
      rw [drop_none C.gr z]
      exact C
    · rw [decide_eq_false hw1]
      simp only [tSeq, tAsg, tIfS, tRet, tRetN, tDrop, tNext, tPar, tPar3, gName, gSub, gTup, gCons, gNil, zV, tC, tOp, tUn, tCons, tNil, tLst, tTup, tIf, tAnd, tOr, tNot, tYes, zB, zAnd, zOr, zNot, zChain, tDNewK, yAdd, ySub, yMul, yDiv, yMod, yPow, yNeg, yLt, yLe, yGt, yGe, yEq, yNe, yIs0, yNotIs0, yIx, ySet, yIn, sqAt, isNone, zFld, zSetF, insAt, zMeth, zProp, tCall, tMake, tCB, yLen, yAbs, yMax2, yMin2, yList, yTuple, yDict0, zLM, yApp, isLst, dkAt, keyOf, zGet1, zGet2, zPop1, zPop2, zForR1, zForR2, zForL, zForT, Z.intAt, refAt, zLc, iR1, iR2, iL, iT, wipe, List.getElem?_cons_zero, List.getElem?_cons_succ, List.set_cons_zero, List.set_cons_succ, List.cons_append, List.nil_append, List.append_nil, upd_same, at0, at1, at2, ix0, ix1, ix2, upd_upd, ite_true, ite_false, if_true, if_false, Bool.false_eq_true, decide_true, decide_false, reduceIte, true_and, and_true, Option.isSome_none, Option.isSome_some, Bool.not_false, Bool.not_true]
      unfold t_L_done_3
      simp only [tSeq, tAsg, tIfS, tRet, tRetN, tDrop, tNext, tPar, tPar3, gName, gSub, gTup, gCons, gNil, zV, tC, tOp, tUn, tCons, tNil, tLst, tTup, tIf, tAnd, tOr, tNot, tYes, zB, zAnd, zOr, zNot, zChain, tDNewK, yAdd, ySub, yMul, yDiv, yMod, yPow, yNeg, yLt, yLe, yGt, yGe, yEq, yNe, yIs0, yNotIs0, yIx, ySet, yIn, sqAt, isNone, zFld, zSetF, insAt, zMeth, zProp, tCall, tMake, tCB, yLen, yAbs, yMax2, yMin2, yList, yTuple, yDict0, zLM, yApp, isLst, dkAt, keyOf, zGet1, zGet2, zPop1, zPop2, zForR1, zForR2, zForL, zForT, Z.intAt, refAt, zLc, iR1, iR2, iL, iT, wipe, List.getElem?_cons_zero, List.getElem?_cons_succ, List.set_cons_zero, List.set_cons_succ, List.cons_append, List.nil_append, List.append_nil, upd_same, at0, at1, at2, ix0, ix1, ix2, upd_upd, ite_true, ite_false, if_true, if_false, Bool.false_eq_true, decide_true, decide_false, reduceIte, true_and, and_true, Option.isSome_none, Option.isSome_some, Bool.not_false, Bool.not_true]
      refine ⟨k, m, l, G, cs, rfl, C.gr, C.hm, fun e he => (C.gb e he).2.2, h0, h1, h2, by omega, fun H1 G1 R1 q1 n1 m1 fr1 => ?_⟩
      have C1 := C.stepG R1 m1 fr1 n1
      unfold t_L_done_4
      simp only [tSeq, tAsg, tIfS, tRet, tRetN, tDrop, tNext, tPar, tPar3, gName, gSub, gTup, gCons, gNil, zV, tC, tOp, tUn, tCons, tNil, tLst, tTup, tIf, tAnd, tOr, tNot, tYes, zB, zAnd, zOr, zNot, zChain, tDNewK, yAdd, ySub, yMul, yDiv, yMod, yPow, yNeg, yLt, yLe, yGt, yGe, yEq, yNe, yIs0, yNotIs0, yIx, ySet, yIn, sqAt, isNone, zFld, zSetF, insAt, zMeth, zProp, tCall, tMake, tCB, yLen, yAbs, yMax2, yMin2, yList, yTuple, yDict0, zLM, yApp, isLst, dkAt, keyOf, zGet1, zGet2, zPop1, zPop2, zForR1, zForR2, zForL, zForT, Z.intAt, refAt, zLc, iR1, iR2, iL, iT, wipe, List.getElem?_cons_zero, List.getElem?_cons_succ, List.set_cons_zero, List.set_cons_succ, List.cons_append, List.nil_append, List.append_nil, upd_same, at0, at1, at2, ix0, ix1, ix2, upd_upd, ite_true, ite_false, if_true, if_false, Bool.false_eq_true, decide_true, decide_false, reduceIte, true_and, and_true, Option.isSome_none, Option.isSome_some, Bool.not_false, Bool.not_true, C1.gr.dc]
      rw [drop_kvs]
      have nxt : ∀ H1, Core K H0 H1 b c m x d k o n cs (cleanC G cs l) E (dropE G1 l) → sp_Lines_evict K [V.ref x, V.int l] H1 Q C8.E0 := fun H1 C2 => by
        refine ⟨x, c, d, l, E, cs, rfl, C2.L, C2.R, C2.hc, fun e he => (C2.eb e he).2.1, h0, h1, h2, fun H2 R2 m2 fr2 => ?_⟩
        have C3 := C2.stepE R2 m2 fr2 fun e he => .inl ⟨e, (dropE_sub he).1, rfl⟩
        rw [con_cleanC heq] at C3
        exact kk _ _ _ _ C3 (by rw [con_drop q1, cleanE_lines]; exact con_drop heq) (cleanC_len _ _ _) (dropE_len _ _)
      have C2 := C1.dropG l
      obtain ⟨dx, hx⟩ := id C2.L
      obtain ⟨dx0, hx0⟩ := id C1.L
      unfold t_L_done_5
      simp only [tSeq, tAsg, tIfS, tRet, tRetN, tDrop, tNext, tPar, tPar3, gName, gSub, gTup, gCons, gNil, zV, tC, tOp, tUn, tCons, tNil, tLst, tTup, tIf, tAnd, tOr, tNot, tYes, zB, zAnd, zOr, zNot, zChain, tDNewK, yAdd, ySub, yMul, yDiv, yMod, yPow, yNeg, yLt, yLe, yGt, yGe, yEq, yNe, yIs0, yNotIs0, yIx, ySet, yIn, sqAt, isNone, zFld, zSetF, insAt, zMeth, zProp, tCall, tMake, tCB, yLen, yAbs, yMax2, yMin2, yList, yTuple, yDict0, zLM, yApp, isLst, dkAt, keyOf, zGet1, zGet2, zPop1, zPop2, zForR1, zForR2, zForL, zForT, Z.intAt, refAt, zLc, iR1, iR2, iL, iT, wipe, List.getElem?_cons_zero, List.getElem?_cons_succ, List.set_cons_zero, List.set_cons_succ, List.cons_append, List.nil_append, List.append_nil, upd_same, at0, at1, at2, ix0, ix1, ix2, upd_upd, ite_true, ite_false, if_true, if_false, Bool.false_eq_true, decide_true, decide_false, reduceIte, true_and, and_true, Option.isSome_none, Option.isSome_some, Bool.not_false, Bool.not_true, hx, hx0, no_Lines_evict]
      refine ⟨fun _ _ => nxt _ C2, fun z => nxt _ ?_⟩
      rw [drop_none C1.gr z]
      exact C1

/-- tuple([(l, d[l][2]) for l in sorted(d)]): what its list of tuples is, as data -/
theorem held_dp {K : PySem.W.Frag} {H : Hp} {p : Addr} {ts : List Addr} {E : List Ent} {ys : List Int} (hp : H p = some (.tup (ts.map V.ref))) (hl : ts.length = ys.length)
    (ht : ∀ (i : Nat) t, ts[i]? = some t → H t = some (.tup [.int (ys.getD i 0), .bl (dirtyOf E (ys.getD i 0))])) : Dp K H (.ref p) (heldD E ys) := by
  refine Dp.tup (SqT.of hp) (dp_all (by rw [List.length_map, List.length_map, hl]) fun i v d h1 h2 => ?_)
  rw [List.getElem?_map] at h1 h2
  cases e1 : ts[i]? with
  | none => rw [e1] at h1; cases h1
  | some t =>
    rw [e1] at h1
    cases e2 : ys[i]? with
    | none => rw [e2] at h2; cases h2
    | some y =>
      rw [e2] at h2
      have h3 := ht i t e1
      have e3 : ys.getD i 0 = y := by rw [List.getD_eq_getElem?_getD, e2] <;> rfl
      rw [e3] at h3
      obtain rfl : V.ref t = v := Option.some.inj h1
      obtain rfl := Option.some.inj h2
      exact Dp.tup (SqT.of h3) (.cons (.int _) (.cons (.bl _) .nil))
theorem rd_Lines_held {K : PySem.W.Frag} {mg : Str → Option Value} (T : Top K mg) : ∀ vs H Q E, sp_Lines_held K vs H Q E → t_Lines_held K { nx := fun _ H' => Q .non H', rt := Q } (start nm_Lines_held vs) H := by
  rintro vs H Q E ⟨x, c, d, E, rfl, ⟨dx, hx⟩, R, hE, k⟩
  rw [start_Lines_held]
  unfold t_Lines_held t_Lines_held_1
  simp only [tSeq, tAsg, tIfS, tRet, tRetN, tDrop, tNext, tPar, tPar3, gName, gSub, gTup, gCons, gNil, zV, tC, tOp, tUn, tCons, tNil, tLst, tTup, tIf, tAnd, tOr, tNot, tYes, zB, zAnd, zOr, zNot, zChain, tDNewK, yAdd, ySub, yMul, yDiv, yMod, yPow, yNeg, yLt, yLe, yGt, yGe, yEq, yNe, yIs0, yNotIs0, yIx, ySet, yIn, sqAt, isNone, zFld, zSetF, insAt, zMeth, zProp, tCall, tMake, tCB, yLen, yAbs, yMax2, yMin2, yList, yTuple, yDict0, zLM, yApp, isLst, dkAt, keyOf, zGet1, zGet2, zPop1, zPop2, zForR1, zForR2, zForL, zForT, Z.intAt, refAt, zLc, iR1, iR2, iL, iT, wipe, List.getElem?_cons_zero, List.getElem?_cons_succ, List.set_cons_zero, List.set_cons_succ, List.cons_append, List.nil_append, List.append_nil, upd_same, at0, at1, at2, ix0, ix1, ix2, upd_upd, ite_true, ite_false, if_true, if_false, Bool.false_eq_true, decide_true, decide_false, reduceIte, true_and, and_true, Option.isSome_none, Option.isSome_some, Bool.not_false, Bool.not_true, ySortedKeys, hx, R.dc, lk_Lines_rows]
  refine ⟨⟨T.cl_Lines, T.na_Lines_rows⟩, E.map (·.line), by unfold kvsOf; rw [List.map_map, List.map_map]; rfl, by rw [List.length_map]; exact hE, fun ys l hp hs hl => ⟨⟨_, SqL.of upd_same⟩, ?_⟩⟩
  have hyl : ys.length = E.length := by rw [hp.length_eq, List.length_map]
  refine comp_tups (steady_l (SqL.of upd_same)) (by rw [List.length_map]; exact small1000 (by omega)) (fun i => [.int (ys.getD i 0), .bl (dirtyOf E (ys.getD i 0))]) (fun _ => rfl) ?_ ?_
  · intro i H' hi s Q' k'
    have sH : Same H H' := (Same.new hl).trans s
    rw [List.length_map] at hi
    have e1 : (ys.map V.int).getD i V.non = V.int (ys.getD i 0) := by
      rw [List.getD_eq_getElem?_getD, List.getD_eq_getElem?_getD, List.getElem?_map, List.getElem?_eq_getElem hi] <;> rfl
    have hm : ys.getD i 0 ∈ E.map (·.line) := by
      rw [List.getD_eq_getElem?_getD, List.getElem?_eq_getElem hi]
      exact hp.mem_iff.mp (List.getElem_mem hi)
    obtain ⟨e, he, el⟩ := List.mem_map.mp hm
    rw [e1, ← el]
    rw [← el] at k'
    have R' := R.same sH
    have hr := R'.rows e he
    unfold Ent.row at hr
    simp only [tSeq, tAsg, tIfS, tRet, tRetN, tDrop, tNext, tPar, tPar3, gName, gSub, gTup, gCons, gNil, zV, tC, tOp, tUn, tCons, tNil, tLst, tTup, tIf, tAnd, tOr, tNot, tYes, zB, zAnd, zOr, zNot, zChain, tDNewK, yAdd, ySub, yMul, yDiv, yMod, yPow, yNeg, yLt, yLe, yGt, yGe, yEq, yNe, yIs0, yNotIs0, yIx, ySet, yIn, sqAt, isNone, zFld, zSetF, insAt, zMeth, zProp, tCall, tMake, tCB, yLen, yAbs, yMax2, yMin2, yList, yTuple, yDict0, zLM, yApp, isLst, dkAt, keyOf, zGet1, zGet2, zPop1, zPop2, zForR1, zForR2, zForL, zForT, Z.intAt, refAt, zLc, iR1, iR2, iL, iT, wipe, List.getElem?_cons_zero, List.getElem?_cons_succ, List.set_cons_zero, List.set_cons_succ, List.cons_append, List.nil_append, List.append_nil, upd_same, at0, at1, at2, ix0, ix1, ix2, upd_upd, ite_true, ite_false, if_true, if_false, Bool.false_eq_true, decide_true, decide_false, reduceIte, true_and, and_true, Option.isSome_none, Option.isSome_some, Bool.not_false, Bool.not_true, sH _ _ hx, R'.dc, lk_Lines_rows, kvs_some R'.nl he, hr]
    refine ⟨⟨T.cl_Lines, T.na_Lines_rows⟩, by show 2 ≤ sizeLine; decide, fun t ht => ?_⟩
    rw [← dirty_at R.nl he]
    exact k' t ht
  · intro D H' ts hD s hl2 hDl ht
    simp only [tSeq, tAsg, tIfS, tRet, tRetN, tDrop, tNext, tPar, tPar3, gName, gSub, gTup, gCons, gNil, zV, tC, tOp, tUn, tCons, tNil, tLst, tTup, tIf, tAnd, tOr, tNot, tYes, zB, zAnd, zOr, zNot, zChain, tDNewK, yAdd, ySub, yMul, yDiv, yMod, yPow, yNeg, yLt, yLe, yGt, yGe, yEq, yNe, yIs0, yNotIs0, yIx, ySet, yIn, sqAt, isNone, zFld, zSetF, insAt, zMeth, zProp, tCall, tMake, tCB, yLen, yAbs, yMax2, yMin2, yList, yTuple, yDict0, zLM, yApp, isLst, dkAt, keyOf, zGet1, zGet2, zPop1, zPop2, zForR1, zForR2, zForL, zForT, Z.intAt, refAt, zLc, iR1, iR2, iL, iT, wipe, List.getElem?_cons_zero, List.getElem?_cons_succ, List.set_cons_zero, List.set_cons_succ, List.cons_append, List.nil_append, List.append_nil, upd_same, at0, at1, at2, ix0, ix1, ix2, upd_upd, ite_true, ite_false, if_true, if_false, Bool.false_eq_true, decide_true, decide_false, reduceIte, true_and, and_true, Option.isSome_none, Option.isSome_some, Bool.not_false, Bool.not_true, hDl]
    intro p hp2
    rw [List.length_map] at hl2
    refine k _ _ ys ((Same.new hl).trans (s.trans (Same.new hp2))) hp hs (held_dp upd_same hl2 fun i t h => ?_)
    rw [upd_ne (ne_of_none (ht i t h) hp2)]
    exact ht i t h

def sl (a b c kd m x : Addr) (i z : Int) (v4 v5 v6 v11 v12 v13 v14 v15 : Option V) : L2.St := [some (.ref a), some (.int i), some (.ref b), some (.int z), v4, v5, v6, some (.ref c), some (.ref kd), some (.ref m), some (.ref x), v11, v12, v13, v14, v15]
def InInv (K : PySem.W.Frag) (H0 : Hp) (a b c kd m x d : Addr) (i z : Int) (j : Nat) (σ : L2.St) (H' : Hp) : Prop :=
  ∃ o n cs E G v4 v5 v6 v11 v12 v13 v14 v15, σ = sl a b c kd m x i z v4 v5 v6 v11 v12 v13 v14 v15 ∧ Core K H0 H' b c m x d kd o n cs cs E G ∧ E.map con = G.map con ∧ n ≤ 100 + 10 * j ∧ (cs.length : Int) = z ∧ E.length ≤ j
theorem tail7 {K : PySem.W.Frag} {mg : Str → Option Value} (T : Top K mg) {D : Ends} {H0 H : Hp} {a b c kd m x d : Addr} {i z : Int} {v4 v5 v6 v11 v12 v14 v15 : Option V} {o : HO} {n : Int} {cs : List Int} {E G : List Ent}
    (C : Core K H0 H b c m x d kd o n cs cs E G) (heq : E.map con = G.map con) (hE : E.length < 64) (kD : ∀ H', Core K H0 H' b c m x d kd o n cs cs E G → D.nx (sl a b c kd m x i z v4 v5 v6 v11 v12 (some .non) v14 v15) H') :
    tSeq (t_law_1b_5b_3 K) (t_law_1b_5b_4 K) D (sl a b c kd m x i z v4 v5 v6 v11 v12 (some .non) v14 v15) H := by
  unfold t_law_1b_5b_3
  unfold sl
  simp only [tSeq, tAsg, tIfS, tRet, tRetN, tDrop, tNext, tPar, tPar3, gName, gSub, gTup, gCons, gNil, zV, tC, tOp, tUn, tCons, tNil, tLst, tTup, tIf, tAnd, tOr, tNot, tYes, zB, zAnd, zOr, zNot, zChain, tDNewK, yAdd, ySub, yMul, yDiv, yMod, yPow, yNeg, yLt, yLe, yGt, yGe, yEq, yNe, yIs0, yNotIs0, yIx, ySet, yIn, sqAt, isNone, zFld, zSetF, insAt, zMeth, zProp, tCall, tMake, tCB, yLen, yAbs, yMax2, yMin2, yList, yTuple, yDict0, zLM, yApp, isLst, dkAt, keyOf, zGet1, zGet2, zPop1, zPop2, zForR1, zForR2, zForL, zForT, Z.intAt, refAt, zLc, iR1, iR2, iL, iT, wipe, List.getElem?_cons_zero, List.getElem?_cons_succ, List.set_cons_zero, List.set_cons_succ, List.cons_append, List.nil_append, List.append_nil, upd_same, at0, at1, at2, ix0, ix1, ix2, upd_upd, ite_true, ite_false, if_true, if_false, Bool.false_eq_true, decide_true, decide_false, reduceIte, true_and, and_true, Option.isSome_none, Option.isSome_some, Bool.not_false, Bool.not_true]
  refine ne_same (ints_dp C.hc) (ints_dp C.hm) (ints_shaped cs) ?_
  simp only [tSeq, tAsg, tIfS, tRet, tRetN, tDrop, tNext, tPar, tPar3, gName, gSub, gTup, gCons, gNil, zV, tC, tOp, tUn, tCons, tNil, tLst, tTup, tIf, tAnd, tOr, tNot, tYes, zB, zAnd, zOr, zNot, zChain, tDNewK, yAdd, ySub, yMul, yDiv, yMod, yPow, yNeg, yLt, yLe, yGt, yGe, yEq, yNe, yIs0, yNotIs0, yIx, ySet, yIn, sqAt, isNone, zFld, zSetF, insAt, zMeth, zProp, tCall, tMake, tCB, yLen, yAbs, yMax2, yMin2, yList, yTuple, yDict0, zLM, yApp, isLst, dkAt, keyOf, zGet1, zGet2, zPop1, zPop2, zForR1, zForR2, zForL, zForT, Z.intAt, refAt, zLc, iR1, iR2, iL, iT, wipe, List.getElem?_cons_zero, List.getElem?_cons_succ, List.set_cons_zero, List.set_cons_succ, List.cons_append, List.nil_append, List.append_nil, upd_same, at0, at1, at2, ix0, ix1, ix2, upd_upd, ite_true, ite_false, if_true, if_false, Bool.false_eq_true, decide_true, decide_false, reduceIte, true_and, and_true, Option.isSome_none, Option.isSome_some, Bool.not_false, Bool.not_true]
  unfold t_law_1b_5b_4
  obtain ⟨dx, hx⟩ := id C.L
  simp only [tSeq, tAsg, tIfS, tRet, tRetN, tDrop, tNext, tPar, tPar3, gName, gSub, gTup, gCons, gNil, zV, tC, tOp, tUn, tCons, tNil, tLst, tTup, tIf, tAnd, tOr, tNot, tYes, zB, zAnd, zOr, zNot, zChain, tDNewK, yAdd, ySub, yMul, yDiv, yMod, yPow, yNeg, yLt, yLe, yGt, yGe, yEq, yNe, yIs0, yNotIs0, yIx, ySet, yIn, sqAt, isNone, zFld, zSetF, insAt, zMeth, zProp, tCall, tMake, tCB, yLen, yAbs, yMax2, yMin2, yList, yTuple, yDict0, zLM, yApp, isLst, dkAt, keyOf, zGet1, zGet2, zPop1, zPop2, zForR1, zForR2, zForL, zForT, Z.intAt, refAt, zLc, iR1, iR2, iL, iT, wipe, List.getElem?_cons_zero, List.getElem?_cons_succ, List.set_cons_zero, List.set_cons_succ, List.cons_append, List.nil_append, List.append_nil, upd_same, at0, at1, at2, ix0, ix1, ix2, upd_upd, ite_true, ite_false, if_true, if_false, Bool.false_eq_true, decide_true, decide_false, reduceIte, true_and, and_true, Option.isSome_none, Option.isSome_some, Bool.not_false, Bool.not_true, hx]
  refine ⟨x, c, d, E, rfl, C.L, C.R, hE, fun v H' ys s p1 p2 dp => ?_⟩
  have C' := C.more s
  simp only [tSeq, tAsg, tIfS, tRet, tRetN, tDrop, tNext, tPar, tPar3, gName, gSub, gTup, gCons, gNil, zV, tC, tOp, tUn, tCons, tNil, tLst, tTup, tIf, tAnd, tOr, tNot, tYes, zB, zAnd, zOr, zNot, zChain, tDNewK, yAdd, ySub, yMul, yDiv, yMod, yPow, yNeg, yLt, yLe, yGt, yGe, yEq, yNe, yIs0, yNotIs0, yIx, ySet, yIn, sqAt, isNone, zFld, zSetF, insAt, zMeth, zProp, tCall, tMake, tCB, yLen, yAbs, yMax2, yMin2, yList, yTuple, yDict0, zLM, yApp, isLst, dkAt, keyOf, zGet1, zGet2, zPop1, zPop2, zForR1, zForR2, zForL, zForT, Z.intAt, refAt, zLc, iR1, iR2, iL, iT, wipe, List.getElem?_cons_zero, List.getElem?_cons_succ, List.set_cons_zero, List.set_cons_succ, List.cons_append, List.nil_append, List.append_nil, upd_same, at0, at1, at2, ix0, ix1, ix2, upd_upd, ite_true, ite_false, if_true, if_false, Bool.false_eq_true, decide_true, decide_false, reduceIte, true_and, and_true, Option.isSome_none, Option.isSome_some, Bool.not_false, Bool.not_true, ySortedKeys, C'.gr.dc]
  refine ⟨G.map (·.line), by unfold kvsOf; rw [List.map_map, List.map_map]; rfl, by rw [List.length_map, ← con_len heq]; exact hE, fun zs l q1 q2 hl => ⟨⟨_, SqL.of upd_same⟩, ?_⟩⟩
  have hyl : zs.length = G.length := by rw [q1.length_eq, List.length_map]
  have hGl := con_len heq
  refine comp_tups (steady_l (SqL.of upd_same)) (by rw [List.length_map]; exact small1000 (by omega)) (fun i => [.int (zs.getD i 0), .bl (dirtyOf G (zs.getD i 0))]) (fun _ => rfl) ?_ ?_
  · intro i H2 hi s2 Q' k'
    have sH : Same H' H2 := (Same.new hl).trans s2
    rw [List.length_map] at hi
    have e1 : (zs.map V.int).getD i V.non = V.int (zs.getD i 0) := by
      rw [List.getD_eq_getElem?_getD, List.getD_eq_getElem?_getD, List.getElem?_map, List.getElem?_eq_getElem hi] <;> rfl
    have hm : zs.getD i 0 ∈ G.map (·.line) := by
      rw [List.getD_eq_getElem?_getD, List.getElem?_eq_getElem hi]
      exact q1.mem_iff.mp (List.getElem_mem hi)
    obtain ⟨e, he, el⟩ := List.mem_map.mp hm
    rw [e1, ← el]
    rw [← el] at k'
    have R' := C'.gr.same sH
    have hr := R'.rows e he
    unfold Ent.row at hr
    simp only [tSeq, tAsg, tIfS, tRet, tRetN, tDrop, tNext, tPar, tPar3, gName, gSub, gTup, gCons, gNil, zV, tC, tOp, tUn, tCons, tNil, tLst, tTup, tIf, tAnd, tOr, tNot, tYes, zB, zAnd, zOr, zNot, zChain, tDNewK, yAdd, ySub, yMul, yDiv, yMod, yPow, yNeg, yLt, yLe, yGt, yGe, yEq, yNe, yIs0, yNotIs0, yIx, ySet, yIn, sqAt, isNone, zFld, zSetF, insAt, zMeth, zProp, tCall, tMake, tCB, yLen, yAbs, yMax2, yMin2, yList, yTuple, yDict0, zLM, yApp, isLst, dkAt, keyOf, zGet1, zGet2, zPop1, zPop2, zForR1, zForR2, zForL, zForT, Z.intAt, refAt, zLc, iR1, iR2, iL, iT, wipe, List.getElem?_cons_zero, List.getElem?_cons_succ, List.set_cons_zero, List.set_cons_succ, List.cons_append, List.nil_append, List.append_nil, upd_same, at0, at1, at2, ix0, ix1, ix2, upd_upd, ite_true, ite_false, if_true, if_false, Bool.false_eq_true, decide_true, decide_false, reduceIte, true_and, and_true, Option.isSome_none, Option.isSome_some, Bool.not_false, Bool.not_true, R'.dc, kvs_some R'.nl he, hr]
    refine ⟨by show 2 ≤ sizeLine; decide, fun t ht => ?_⟩
    rw [← dirty_at C'.gr.nl he]
    exact k' t ht
  · intro D2 H2 ts hD s2 hl2 hDl ht
    simp only [tSeq, tAsg, tIfS, tRet, tRetN, tDrop, tNext, tPar, tPar3, gName, gSub, gTup, gCons, gNil, zV, tC, tOp, tUn, tCons, tNil, tLst, tTup, tIf, tAnd, tOr, tNot, tYes, zB, zAnd, zOr, zNot, zChain, tDNewK, yAdd, ySub, yMul, yDiv, yMod, yPow, yNeg, yLt, yLe, yGt, yGe, yEq, yNe, yIs0, yNotIs0, yIx, ySet, yIn, sqAt, isNone, zFld, zSetF, insAt, zMeth, zProp, tCall, tMake, tCB, yLen, yAbs, yMax2, yMin2, yList, yTuple, yDict0, zLM, yApp, isLst, dkAt, keyOf, zGet1, zGet2, zPop1, zPop2, zForR1, zForR2, zForL, zForT, Z.intAt, refAt, zLc, iR1, iR2, iL, iT, wipe, List.getElem?_cons_zero, List.getElem?_cons_succ, List.set_cons_zero, List.set_cons_succ, List.cons_append, List.nil_append, List.append_nil, upd_same, at0, at1, at2, ix0, ix1, ix2, upd_upd, ite_true, ite_false, if_true, if_false, Bool.false_eq_true, decide_true, decide_false, reduceIte, true_and, and_true, Option.isSome_none, Option.isSome_some, Bool.not_false, Bool.not_true, hDl]
    intro p hp2
    rw [List.length_map] at hl2
    have sH : Same H' (upd H2 p (HO.tup (List.map V.ref ts))) := (Same.new hl).trans (s2.trans (Same.new hp2))
    have dp2 : Dp K (upd H2 p (HO.tup (List.map V.ref ts))) (.ref p) (heldD G zs) := held_dp upd_same hl2 fun i t h => by
      rw [upd_ne (ne_of_none (ht i t h) hp2)]
      exact ht i t h
    have dp1 := dp_same sH _ _ dp
    rw [← held_eq heq p1 p2 q1 q2] at dp2
    have hv : ∃ q, v = .ref q := by
      unfold heldD at dp
      cases dp with
      | tup h1 h2 => exact ⟨_, rfl⟩
    obtain ⟨q, rfl⟩ := hv
    refine ne_same dp1 dp2 (held_shaped E ys) ?_
    exact kD _ (C'.more sH)
theorem turn7 {K : PySem.W.Frag} {mg : Str → Option Value} (T : Top K mg) {H0 H : Hp} {a b c kd m x d : Addr} {i z t : Int} {j : Nat} {D : Ends} {σ : L2.St} (hz : 2 ≤ z ∧ z ≤ 12 ∧ z % 2 = 0) (hj : j < 40) (ht : 0 ≤ t ∧ t < 40) (I : InInv K H0 a b c kd m x d i z j σ H) (kD : ∀ σ' H', InInv K H0 a b c kd m x d i z (j + 1) σ' H' → D.nx σ' H') :
    tSeq (t_law_1b_5b_1 K) (tSeq (t_law_1b_5b_2 K) (tSeq (t_law_1b_5b_3 K) (t_law_1b_5b_4 K))) D (σ.set 4 (some (.int t))) H := by
  obtain ⟨o, n, cs, E, G, v4, v5, v6, v11, v12, v13, v14, v15, rfl, C, heq, hn, hcs, hE⟩ := I
  unfold t_law_1b_5b_1
  unfold sl
  simp only [tSeq, tAsg, tIfS, tRet, tRetN, tDrop, tNext, tPar, tPar3, gName, gSub, gTup, gCons, gNil, zV, tC, tOp, tUn, tCons, tNil, tLst, tTup, tIf, tAnd, tOr, tNot, tYes, zB, zAnd, zOr, zNot, zChain, tDNewK, yAdd, ySub, yMul, yDiv, yMod, yPow, yNeg, yLt, yLe, yGt, yGe, yEq, yNe, yIs0, yNotIs0, yIx, ySet, yIn, sqAt, isNone, zFld, zSetF, insAt, zMeth, zProp, tCall, tMake, tCB, yLen, yAbs, yMax2, yMin2, yList, yTuple, yDict0, zLM, yApp, isLst, dkAt, keyOf, zGet1, zGet2, zPop1, zPop2, zForR1, zForR2, zForL, zForT, Z.intAt, refAt, zLc, iR1, iR2, iL, iT, wipe, List.getElem?_cons_zero, List.getElem?_cons_succ, List.set_cons_zero, List.set_cons_succ, List.cons_append, List.nil_append, List.append_nil, upd_same, at0, at1, at2, ix0, ix1, ix2, upd_upd, ite_true, ite_false, if_true, if_false, Bool.false_eq_true, decide_true, decide_false, reduceIte, true_and, and_true, Option.isSome_none, Option.isSome_some, Bool.not_false, Bool.not_true]
  refine use_take C.hb C.ho (by omega) (by omega) (by omega) fun wd o1 w0 w1 ho1 => ?_
  refine use_take upd_same ho1 (by decide) (by decide) (by omega) fun wy o2 y0 y1 ho2 => ?_
  simp only [tSeq, tAsg, tIfS, tRet, tRetN, tDrop, tNext, tPar, tPar3, gName, gSub, gTup, gCons, gNil, zV, tC, tOp, tUn, tCons, tNil, tLst, tTup, tIf, tAnd, tOr, tNot, tYes, zB, zAnd, zOr, zNot, zChain, tDNewK, yAdd, ySub, yMul, yDiv, yMod, yPow, yNeg, yLt, yLe, yGt, yGe, yEq, yNe, yIs0, yNotIs0, yIx, ySet, yIn, sqAt, isNone, zFld, zSetF, insAt, zMeth, zProp, tCall, tMake, tCB, yLen, yAbs, yMax2, yMin2, yList, yTuple, yDict0, zLM, yApp, isLst, dkAt, keyOf, zGet1, zGet2, zPop1, zPop2, zForR1, zForR2, zForL, zForT, Z.intAt, refAt, zLc, iR1, iR2, iL, iT, wipe, List.getElem?_cons_zero, List.getElem?_cons_succ, List.set_cons_zero, List.set_cons_succ, List.cons_append, List.nil_append, List.append_nil, upd_same, at0, at1, at2, ix0, ix1, ix2, upd_upd, ite_true, ite_false, if_true, if_false, Bool.false_eq_true, decide_true, decide_false, reduceIte, true_and, and_true, Option.isSome_none, Option.isSome_some, Bool.not_false, Bool.not_true]
  refine ⟨_, _, _, rfl, ?_⟩
  have C1 := C.bag ho2
  rw [show n + 1 + 1 = n + 2 by omega] at C1
  generalize upd H b o2 = H1 at C1
  clear C ho1
  have fin : ∀ H' o' n' cs' E' G' v14', Core K H0 H' b c m x d kd o' n' cs' cs' E' G' → E'.map con = G'.map con → n' ≤ n + 5 → (cs'.length : Int) = z → E'.length ≤ E.length + 1 →
      tSeq (t_law_1b_5b_3 K) (t_law_1b_5b_4 K) D (sl a b c kd m x i z (some (.int t)) v5 v6 (some (.int wd)) (some (.int wy)) (some .non) v14' v15) H' := by
    intro H' o' n' cs' E' G' v14' C' h1 h2 h3 h4
    refine tail7 T C' h1 (by omega) fun H'' C'' => kD _ _ ⟨o', n', cs', E', G', _, _, _, _, _, _, _, _, rfl, C'', h1, by omega, h3, by omega⟩
  unfold t_law_1b_5b_2
  simp only [tSeq, tAsg, tIfS, tRet, tRetN, tDrop, tNext, tPar, tPar3, gName, gSub, gTup, gCons, gNil, zV, tC, tOp, tUn, tCons, tNil, tLst, tTup, tIf, tAnd, tOr, tNot, tYes, zB, zAnd, zOr, zNot, zChain, tDNewK, yAdd, ySub, yMul, yDiv, yMod, yPow, yNeg, yLt, yLe, yGt, yGe, yEq, yNe, yIs0, yNotIs0, yIx, ySet, yIn, sqAt, isNone, zFld, zSetF, insAt, zMeth, zProp, tCall, tMake, tCB, yLen, yAbs, yMax2, yMin2, yList, yTuple, yDict0, zLM, yApp, isLst, dkAt, keyOf, zGet1, zGet2, zPop1, zPop2, zForR1, zForR2, zForL, zForT, Z.intAt, refAt, zLc, iR1, iR2, iL, iT, wipe, List.getElem?_cons_zero, List.getElem?_cons_succ, List.set_cons_zero, List.set_cons_succ, List.cons_append, List.nil_append, List.append_nil, upd_same, at0, at1, at2, ix0, ix1, ix2, upd_upd, ite_true, ite_false, if_true, if_false, Bool.false_eq_true, decide_true, decide_false, reduceIte, true_and, and_true, Option.isSome_none, Option.isSome_some, Bool.not_false, Bool.not_true]
  have hE2 : E.length ≤ 100 := by omega
  have hG2 : G.length ≤ 100 := by rw [← con_len heq]; exact hE2
  have hc2 : cs.length ≤ 100 := by omega
  have hcm : cs.length % 2 = 0 := by omega
  by_cases hy : wy < 3
  · rw [decide_eq_true hy]
    simp only [tSeq, tAsg, tIfS, tRet, tRetN, tDrop, tNext, tPar, tPar3, gName, gSub, gTup, gCons, gNil, zV, tC, tOp, tUn, tCons, tNil, tLst, tTup, tIf, tAnd, tOr, tNot, tYes, zB, zAnd, zOr, zNot, zChain, tDNewK, yAdd, ySub, yMul, yDiv, yMod, yPow, yNeg, yLt, yLe, yGt, yGe, yEq, yNe, yIs0, yNotIs0, yIx, ySet, yIn, sqAt, isNone, zFld, zSetF, insAt, zMeth, zProp, tCall, tMake, tCB, yLen, yAbs, yMax2, yMin2, yList, yTuple, yDict0, zLM, yApp, isLst, dkAt, keyOf, zGet1, zGet2, zPop1, zPop2, zForR1, zForR2, zForL, zForT, Z.intAt, refAt, zLc, iR1, iR2, iL, iT, wipe, List.getElem?_cons_zero, List.getElem?_cons_succ, List.set_cons_zero, List.set_cons_succ, List.cons_append, List.nil_append, List.append_nil, upd_same, at0, at1, at2, ix0, ix1, ix2, upd_upd, ite_true, ite_false, if_true, if_false, Bool.false_eq_true, decide_true, decide_false, reduceIte, true_and, and_true, Option.isSome_none, Option.isSome_some, Bool.not_false, Bool.not_true, t_law_1b_5b_2t_1]
    refine ⟨⟨by decide, by decide⟩, H0, b, c, m, x, d, kd, o2, _, wy, wd / 2, cs, E, G, rfl, C1, heq, by omega, by omega, hc2, by omega, fun H' cs' E' G' C' q1 q2 q3 => ?_⟩
    exact fin _ _ _ _ _ _ _ C' q1 (by omega) (by rw [q2]; exact hcs) (by omega)
  · rw [decide_eq_false hy]
    simp only [tSeq, tAsg, tIfS, tRet, tRetN, tDrop, tNext, tPar, tPar3, gName, gSub, gTup, gCons, gNil, zV, tC, tOp, tUn, tCons, tNil, tLst, tTup, tIf, tAnd, tOr, tNot, tYes, zB, zAnd, zOr, zNot, zChain, tDNewK, yAdd, ySub, yMul, yDiv, yMod, yPow, yNeg, yLt, yLe, yGt, yGe, yEq, yNe, yIs0, yNotIs0, yIx, ySet, yIn, sqAt, isNone, zFld, zSetF, insAt, zMeth, zProp, tCall, tMake, tCB, yLen, yAbs, yMax2, yMin2, yList, yTuple, yDict0, zLM, yApp, isLst, dkAt, keyOf, zGet1, zGet2, zPop1, zPop2, zForR1, zForR2, zForL, zForT, Z.intAt, refAt, zLc, iR1, iR2, iL, iT, wipe, List.getElem?_cons_zero, List.getElem?_cons_succ, List.set_cons_zero, List.set_cons_succ, List.cons_append, List.nil_append, List.append_nil, upd_same, at0, at1, at2, ix0, ix1, ix2, upd_upd, ite_true, ite_false, if_true, if_false, Bool.false_eq_true, decide_true, decide_false, reduceIte, true_and, and_true, Option.isSome_none, Option.isSome_some, Bool.not_false, Bool.not_true, t_law_1b_5b_2f_1]
    by_cases hy4 : wy < 5
    · rw [decide_eq_true hy4]
      simp only [tSeq, tAsg, tIfS, tRet, tRetN, tDrop, tNext, tPar, tPar3, gName, gSub, gTup, gCons, gNil, zV, tC, tOp, tUn, tCons, tNil, tLst, tTup, tIf, tAnd, tOr, tNot, tYes, zB, zAnd, zOr, zNot, zChain, tDNewK, yAdd, ySub, yMul, yDiv, yMod, yPow, yNeg, yLt, yLe, yGt, yGe, yEq, yNe, yIs0, yNotIs0, yIx, ySet, yIn, sqAt, isNone, zFld, zSetF, insAt, zMeth, zProp, tCall, tMake, tCB, yLen, yAbs, yMax2, yMin2, yList, yTuple, yDict0, zLM, yApp, isLst, dkAt, keyOf, zGet1, zGet2, zPop1, zPop2, zForR1, zForR2, zForL, zForT, Z.intAt, refAt, zLc, iR1, iR2, iL, iT, wipe, List.getElem?_cons_zero, List.getElem?_cons_succ, List.set_cons_zero, List.set_cons_succ, List.cons_append, List.nil_append, List.append_nil, upd_same, at0, at1, at2, ix0, ix1, ix2, upd_upd, ite_true, ite_false, if_true, if_false, Bool.false_eq_true, decide_true, decide_false, reduceIte, true_and, and_true, Option.isSome_none, Option.isSome_some, Bool.not_false, Bool.not_true, t_law_1b_5b_2f_1t_1]
      refine ⟨⟨by decide, by decide⟩, kd, m, wd / 2, G, cs, rfl, C1.gr, C1.hm, by omega, by omega, hc2, by omega, LoadTo.of C1.gr fun G1 H5 l2 R2 _ fr2 g hg gl => ?_⟩
      have C2 := C1.loadG l2 R2 fr2
      obtain ⟨dx, hx⟩ := id C2.L
      unfold t_law_1b_5b_2f_1t_2
      simp only [tSeq, tAsg, tIfS, tRet, tRetN, tDrop, tNext, tPar, tPar3, gName, gSub, gTup, gCons, gNil, zV, tC, tOp, tUn, tCons, tNil, tLst, tTup, tIf, tAnd, tOr, tNot, tYes, zB, zAnd, zOr, zNot, zChain, tDNewK, yAdd, ySub, yMul, yDiv, yMod, yPow, yNeg, yLt, yLe, yGt, yGe, yEq, yNe, yIs0, yNotIs0, yIx, ySet, yIn, sqAt, isNone, zFld, zSetF, insAt, zMeth, zProp, tCall, tMake, tCB, yLen, yAbs, yMax2, yMin2, yList, yTuple, yDict0, zLM, yApp, isLst, dkAt, keyOf, zGet1, zGet2, zPop1, zPop2, zForR1, zForR2, zForL, zForT, Z.intAt, refAt, zLc, iR1, iR2, iL, iT, wipe, List.getElem?_cons_zero, List.getElem?_cons_succ, List.set_cons_zero, List.set_cons_succ, List.cons_append, List.nil_append, List.append_nil, upd_same, at0, at1, at2, ix0, ix1, ix2, upd_upd, ite_true, ite_false, if_true, if_false, Bool.false_eq_true, decide_true, decide_false, reduceIte, true_and, and_true, Option.isSome_none, Option.isSome_some, Bool.not_false, Bool.not_true, hx, no_Lines_write]
      refine ⟨x, c, d, wd, 1000 + t, E, cs, rfl, C2.L, C2.R, C2.hc, w0, by omega, hcm, hc2, by omega, LoadTo.of C2.R fun E1 H3 l1 R1 _ fr e he el => ?_⟩
      have C3 := (C2.loadE l1 R1 fr).setE he (f := fW wd (1000 + t)) (fun _ => rfl) (fun _ => rfl)
      have hr := C3.gr.rows g hg
      unfold Ent.row at hr
      unfold fW at hr
      have C6 := C3.setG hg (f := fW wd (1000 + t)) (fun _ => rfl) (fun _ => rfl)
      have hh := fin _ _ _ _ _ _ (some (.ref g.addr)) C6 (by rw [el, gl]; exact con_set (con_loaded heq l1 l2) fun e g h => con_fW h) (by omega) hcs (by rw [setE_len]; exact loaded_len l1)
      unfold fW Ent.row at hh
      simp only [] at hh
      unfold t_law_1b_5b_2f_1t_3 t_law_1b_5b_2f_1t_4
      simp only [tSeq, tAsg, tIfS, tRet, tRetN, tDrop, tNext, tPar, tPar3, gName, gSub, gTup, gCons, gNil, zV, tC, tOp, tUn, tCons, tNil, tLst, tTup, tIf, tAnd, tOr, tNot, tYes, zB, zAnd, zOr, zNot, zChain, tDNewK, yAdd, ySub, yMul, yDiv, yMod, yPow, yNeg, yLt, yLe, yGt, yGe, yEq, yNe, yIs0, yNotIs0, yIx, ySet, yIn, sqAt, isNone, zFld, zSetF, insAt, zMeth, zProp, tCall, tMake, tCB, yLen, yAbs, yMax2, yMin2, yList, yTuple, yDict0, zLM, yApp, isLst, dkAt, keyOf, zGet1, zGet2, zPop1, zPop2, zForR1, zForR2, zForL, zForT, Z.intAt, refAt, zLc, iR1, iR2, iL, iT, wipe, List.getElem?_cons_zero, List.getElem?_cons_succ, List.set_cons_zero, List.set_cons_succ, List.cons_append, List.nil_append, List.append_nil, upd_same, at0, at1, at2, ix0, ix1, ix2, upd_upd, ite_true, ite_false, if_true, if_false, Bool.false_eq_true, decide_true, decide_false, reduceIte, true_and, and_true, Option.isSome_none, Option.isSome_some, Bool.not_false, Bool.not_true, hr]
      refine ⟨by decide, ?_⟩
      rcases (by omega : wd % 2 = 0 ∨ wd % 2 = 1) with hq | hq
      · rw [hq]
        simp only [tSeq, tAsg, tIfS, tRet, tRetN, tDrop, tNext, tPar, tPar3, gName, gSub, gTup, gCons, gNil, zV, tC, tOp, tUn, tCons, tNil, tLst, tTup, tIf, tAnd, tOr, tNot, tYes, zB, zAnd, zOr, zNot, zChain, tDNewK, yAdd, ySub, yMul, yDiv, yMod, yPow, yNeg, yLt, yLe, yGt, yGe, yEq, yNe, yIs0, yNotIs0, yIx, ySet, yIn, sqAt, isNone, zFld, zSetF, insAt, zMeth, zProp, tCall, tMake, tCB, yLen, yAbs, yMax2, yMin2, yList, yTuple, yDict0, zLM, yApp, isLst, dkAt, keyOf, zGet1, zGet2, zPop1, zPop2, zForR1, zForR2, zForL, zForT, Z.intAt, refAt, zLc, iR1, iR2, iL, iT, wipe, List.getElem?_cons_zero, List.getElem?_cons_succ, List.set_cons_zero, List.set_cons_succ, List.cons_append, List.nil_append, List.append_nil, upd_same, at0, at1, at2, ix0, ix1, ix2, upd_upd, ite_true, ite_false, if_true, if_false, Bool.false_eq_true, decide_true, decide_false, reduceIte, true_and, and_true, Option.isSome_none, Option.isSome_some, Bool.not_false, Bool.not_true]
        rw [if_pos hq, if_pos hq, if_pos hq, if_pos hq] at hh
        exact hh
      · rw [hq]
        simp only [tSeq, tAsg, tIfS, tRet, tRetN, tDrop, tNext, tPar, tPar3, gName, gSub, gTup, gCons, gNil, zV, tC, tOp, tUn, tCons, tNil, tLst, tTup, tIf, tAnd, tOr, tNot, tYes, zB, zAnd, zOr, zNot, zChain, tDNewK, yAdd, ySub, yMul, yDiv, yMod, yPow, yNeg, yLt, yLe, yGt, yGe, yEq, yNe, yIs0, yNotIs0, yIx, ySet, yIn, sqAt, isNone, zFld, zSetF, insAt, zMeth, zProp, tCall, tMake, tCB, yLen, yAbs, yMax2, yMin2, yList, yTuple, yDict0, zLM, yApp, isLst, dkAt, keyOf, zGet1, zGet2, zPop1, zPop2, zForR1, zForR2, zForL, zForT, Z.intAt, refAt, zLc, iR1, iR2, iL, iT, wipe, List.getElem?_cons_zero, List.getElem?_cons_succ, List.set_cons_zero, List.set_cons_succ, List.cons_append, List.nil_append, List.append_nil, upd_same, at0, at1, at2, ix0, ix1, ix2, upd_upd, ite_true, ite_false, if_true, if_false, Bool.false_eq_true, decide_true, decide_false, reduceIte, true_and, and_true, Option.isSome_none, Option.isSome_some, Bool.not_false, Bool.not_true]
        rw [if_neg (by omega), if_neg (by omega), if_neg (by omega), if_neg (by omega)] at hh
        exact hh
    · rw [decide_eq_false hy4]
      simp only [tSeq, tAsg, tIfS, tRet, tRetN, tDrop, tNext, tPar, tPar3, gName, gSub, gTup, gCons, gNil, zV, tC, tOp, tUn, tCons, tNil, tLst, tTup, tIf, tAnd, tOr, tNot, tYes, zB, zAnd, zOr, zNot, zChain, tDNewK, yAdd, ySub, yMul, yDiv, yMod, yPow, yNeg, yLt, yLe, yGt, yGe, yEq, yNe, yIs0, yNotIs0, yIx, ySet, yIn, sqAt, isNone, zFld, zSetF, insAt, zMeth, zProp, tCall, tMake, tCB, yLen, yAbs, yMax2, yMin2, yList, yTuple, yDict0, zLM, yApp, isLst, dkAt, keyOf, zGet1, zGet2, zPop1, zPop2, zForR1, zForR2, zForL, zForT, Z.intAt, refAt, zLc, iR1, iR2, iL, iT, wipe, List.getElem?_cons_zero, List.getElem?_cons_succ, List.set_cons_zero, List.set_cons_succ, List.cons_append, List.nil_append, List.append_nil, upd_same, at0, at1, at2, ix0, ix1, ix2, upd_upd, ite_true, ite_false, if_true, if_false, Bool.false_eq_true, decide_true, decide_false, reduceIte, true_and, and_true, Option.isSome_none, Option.isSome_some, Bool.not_false, Bool.not_true, t_law_1b_5b_2f_1f_1]
      by_cases hy5 : wy = 5
      · rw [decide_eq_true hy5]
        have hc3 := C1.hc
        unfold intsO at hc3
        simp only [tSeq, tAsg, tIfS, tRet, tRetN, tDrop, tNext, tPar, tPar3, gName, gSub, gTup, gCons, gNil, zV, tC, tOp, tUn, tCons, tNil, tLst, tTup, tIf, tAnd, tOr, tNot, tYes, zB, zAnd, zOr, zNot, zChain, tDNewK, yAdd, ySub, yMul, yDiv, yMod, yPow, yNeg, yLt, yLe, yGt, yGe, yEq, yNe, yIs0, yNotIs0, yIx, ySet, yIn, sqAt, isNone, zFld, zSetF, insAt, zMeth, zProp, tCall, tMake, tCB, yLen, yAbs, yMax2, yMin2, yList, yTuple, yDict0, zLM, yApp, isLst, dkAt, keyOf, zGet1, zGet2, zPop1, zPop2, zForR1, zForR2, zForL, zForT, Z.intAt, refAt, zLc, iR1, iR2, iL, iT, wipe, List.getElem?_cons_zero, List.getElem?_cons_succ, List.set_cons_zero, List.set_cons_succ, List.cons_append, List.nil_append, List.append_nil, upd_same, at0, at1, at2, ix0, ix1, ix2, upd_upd, ite_true, ite_false, if_true, if_false, Bool.false_eq_true, decide_true, decide_false, reduceIte, true_and, and_true, Option.isSome_none, Option.isSome_some, Bool.not_false, Bool.not_true, t_law_1b_5b_2f_1f_1t_1, hc3, List.length_map, ix_nat w0 (show wd < (cs.length : Int) by omega), set_ints]
        have C3 := C1.cells (cs.set wd.toNat (2000 + t))
        generalize upd H1 c (intsO (cs.set wd.toNat (2000 + t))) = H3 at C3
        have hm4 := C3.hm
        unfold intsO at hm4
        unfold t_law_1b_5b_2f_1f_1t_2
        simp only [tSeq, tAsg, tIfS, tRet, tRetN, tDrop, tNext, tPar, tPar3, gName, gSub, gTup, gCons, gNil, zV, tC, tOp, tUn, tCons, tNil, tLst, tTup, tIf, tAnd, tOr, tNot, tYes, zB, zAnd, zOr, zNot, zChain, tDNewK, yAdd, ySub, yMul, yDiv, yMod, yPow, yNeg, yLt, yLe, yGt, yGe, yEq, yNe, yIs0, yNotIs0, yIx, ySet, yIn, sqAt, isNone, zFld, zSetF, insAt, zMeth, zProp, tCall, tMake, tCB, yLen, yAbs, yMax2, yMin2, yList, yTuple, yDict0, zLM, yApp, isLst, dkAt, keyOf, zGet1, zGet2, zPop1, zPop2, zForR1, zForR2, zForL, zForT, Z.intAt, refAt, zLc, iR1, iR2, iL, iT, wipe, List.getElem?_cons_zero, List.getElem?_cons_succ, List.set_cons_zero, List.set_cons_succ, List.cons_append, List.nil_append, List.append_nil, upd_same, at0, at1, at2, ix0, ix1, ix2, upd_upd, ite_true, ite_false, if_true, if_false, Bool.false_eq_true, decide_true, decide_false, reduceIte, true_and, and_true, Option.isSome_none, Option.isSome_some, Bool.not_false, Bool.not_true, hm4, List.length_map, ix_nat w0 (show wd < (cs.length : Int) by omega), set_ints]
        have C4 := C3.mirror (cs.set wd.toNat (2000 + t))
        exact fin _ _ _ _ _ _ _ C4 heq (by omega) (by rw [List.length_set]; exact hcs) (by omega)
      · rw [decide_eq_false hy5]
        simp only [tSeq, tAsg, tIfS, tRet, tRetN, tDrop, tNext, tPar, tPar3, gName, gSub, gTup, gCons, gNil, zV, tC, tOp, tUn, tCons, tNil, tLst, tTup, tIf, tAnd, tOr, tNot, tYes, zB, zAnd, zOr, zNot, zChain, tDNewK, yAdd, ySub, yMul, yDiv, yMod, yPow, yNeg, yLt, yLe, yGt, yGe, yEq, yNe, yIs0, yNotIs0, yIx, ySet, yIn, sqAt, isNone, zFld, zSetF, insAt, zMeth, zProp, tCall, tMake, tCB, yLen, yAbs, yMax2, yMin2, yList, yTuple, yDict0, zLM, yApp, isLst, dkAt, keyOf, zGet1, zGet2, zPop1, zPop2, zForR1, zForR2, zForL, zForT, Z.intAt, refAt, zLc, iR1, iR2, iL, iT, wipe, List.getElem?_cons_zero, List.getElem?_cons_succ, List.set_cons_zero, List.set_cons_succ, List.cons_append, List.nil_append, List.append_nil, upd_same, at0, at1, at2, ix0, ix1, ix2, upd_upd, ite_true, ite_false, if_true, if_false, Bool.false_eq_true, decide_true, decide_false, reduceIte, true_and, and_true, Option.isSome_none, Option.isSome_some, Bool.not_false, Bool.not_true, t_law_1b_5b_2f_1f_1f_1]
        refine ⟨⟨by decide, by decide⟩, kd, m, wd / 2, G, cs, rfl, C1.gr, C1.hm, by omega, by omega, hc2, by omega, LoadTo.of C1.gr fun G1 H2 l2 R2 _ fr2 g hg gl => ?_⟩
        have C2 := C1.loadG l2 R2 fr2
        obtain ⟨dx, hx⟩ := id C2.L
        unfold t_law_1b_5b_2f_1f_1f_2
        simp only [tSeq, tAsg, tIfS, tRet, tRetN, tDrop, tNext, tPar, tPar3, gName, gSub, gTup, gCons, gNil, zV, tC, tOp, tUn, tCons, tNil, tLst, tTup, tIf, tAnd, tOr, tNot, tYes, zB, zAnd, zOr, zNot, zChain, tDNewK, yAdd, ySub, yMul, yDiv, yMod, yPow, yNeg, yLt, yLe, yGt, yGe, yEq, yNe, yIs0, yNotIs0, yIx, ySet, yIn, sqAt, isNone, zFld, zSetF, insAt, zMeth, zProp, tCall, tMake, tCB, yLen, yAbs, yMax2, yMin2, yList, yTuple, yDict0, zLM, yApp, isLst, dkAt, keyOf, zGet1, zGet2, zPop1, zPop2, zForR1, zForR2, zForL, zForT, Z.intAt, refAt, zLc, iR1, iR2, iL, iT, wipe, List.getElem?_cons_zero, List.getElem?_cons_succ, List.set_cons_zero, List.set_cons_succ, List.cons_append, List.nil_append, List.append_nil, upd_same, at0, at1, at2, ix0, ix1, ix2, upd_upd, ite_true, ite_false, if_true, if_false, Bool.false_eq_true, decide_true, decide_false, reduceIte, true_and, and_true, Option.isSome_none, Option.isSome_some, Bool.not_false, Bool.not_true, hx, no_Lines_read]
        refine ⟨x, c, d, wd, E, cs, rfl, C2.L, C2.R, C2.hc, w0, by omega, hcm, hc2, by omega, LoadTo.of C2.R fun E1 H3 l1 R1 _ fr e he el => ?_⟩
        have C3 := C2.loadE l1 R1 fr
        have hr := C3.gr.rows g hg
        unfold Ent.row at hr
        simp only [tSeq, tAsg, tIfS, tRet, tRetN, tDrop, tNext, tPar, tPar3, gName, gSub, gTup, gCons, gNil, zV, tC, tOp, tUn, tCons, tNil, tLst, tTup, tIf, tAnd, tOr, tNot, tYes, zB, zAnd, zOr, zNot, zChain, tDNewK, yAdd, ySub, yMul, yDiv, yMod, yPow, yNeg, yLt, yLe, yGt, yGe, yEq, yNe, yIs0, yNotIs0, yIx, ySet, yIn, sqAt, isNone, zFld, zSetF, insAt, zMeth, zProp, tCall, tMake, tCB, yLen, yAbs, yMax2, yMin2, yList, yTuple, yDict0, zLM, yApp, isLst, dkAt, keyOf, zGet1, zGet2, zPop1, zPop2, zForR1, zForR2, zForL, zForT, Z.intAt, refAt, zLc, iR1, iR2, iL, iT, wipe, List.getElem?_cons_zero, List.getElem?_cons_succ, List.set_cons_zero, List.set_cons_succ, List.cons_append, List.nil_append, List.append_nil, upd_same, at0, at1, at2, ix0, ix1, ix2, upd_upd, ite_true, ite_false, if_true, if_false, Bool.false_eq_true, decide_true, decide_false, reduceIte, true_and, and_true, Option.isSome_none, Option.isSome_some, Bool.not_false, Bool.not_true, hr]
        refine ⟨by decide, ?_⟩
        have hq : con g = con e := by
          obtain ⟨g', hg', q⟩ := con_mem (con_loaded heq l1 l2) he
          have : g' = g := C3.gr.uniq hg' hg (by rw [gl, ← el]; exact congrArg (·.1) q)
          rw [← this]; exact q
        have hh := fin _ _ _ _ _ _ (some (.ref g.addr)) C3 (con_loaded heq l1 l2) (by omega) hcs (loaded_len l1)
        rcases (by omega : wd % 2 = 0 ∨ wd % 2 = 1) with hq2 | hq2
        · have e0 : g.v0 = e.v0 := congrArg (·.2.1) hq
          rw [hq2]
          simp only [tSeq, tAsg, tIfS, tRet, tRetN, tDrop, tNext, tPar, tPar3, gName, gSub, gTup, gCons, gNil, zV, tC, tOp, tUn, tCons, tNil, tLst, tTup, tIf, tAnd, tOr, tNot, tYes, zB, zAnd, zOr, zNot, zChain, tDNewK, yAdd, ySub, yMul, yDiv, yMod, yPow, yNeg, yLt, yLe, yGt, yGe, yEq, yNe, yIs0, yNotIs0, yIx, ySet, yIn, sqAt, isNone, zFld, zSetF, insAt, zMeth, zProp, tCall, tMake, tCB, yLen, yAbs, yMax2, yMin2, yList, yTuple, yDict0, zLM, yApp, isLst, dkAt, keyOf, zGet1, zGet2, zPop1, zPop2, zForR1, zForR2, zForL, zForT, Z.intAt, refAt, zLc, iR1, iR2, iL, iT, wipe, List.getElem?_cons_zero, List.getElem?_cons_succ, List.set_cons_zero, List.set_cons_succ, List.cons_append, List.nil_append, List.append_nil, upd_same, at0, at1, at2, ix0, ix1, ix2, upd_upd, ite_true, ite_false, if_true, if_false, Bool.false_eq_true, decide_true, decide_false, reduceIte, true_and, and_true, Option.isSome_none, Option.isSome_some, Bool.not_false, Bool.not_true, e0]
          exact hh
        · have e0 : g.v1 = e.v1 := congrArg (·.2.2.1) hq
          rw [hq2]
          rw [if_neg (by decide)]
          simp only [tSeq, tAsg, tIfS, tRet, tRetN, tDrop, tNext, tPar, tPar3, gName, gSub, gTup, gCons, gNil, zV, tC, tOp, tUn, tCons, tNil, tLst, tTup, tIf, tAnd, tOr, tNot, tYes, zB, zAnd, zOr, zNot, zChain, tDNewK, yAdd, ySub, yMul, yDiv, yMod, yPow, yNeg, yLt, yLe, yGt, yGe, yEq, yNe, yIs0, yNotIs0, yIx, ySet, yIn, sqAt, isNone, zFld, zSetF, insAt, zMeth, zProp, tCall, tMake, tCB, yLen, yAbs, yMax2, yMin2, yList, yTuple, yDict0, zLM, yApp, isLst, dkAt, keyOf, zGet1, zGet2, zPop1, zPop2, zForR1, zForR2, zForL, zForT, Z.intAt, refAt, zLc, iR1, iR2, iL, iT, wipe, List.getElem?_cons_zero, List.getElem?_cons_succ, List.set_cons_zero, List.set_cons_succ, List.cons_append, List.nil_append, List.append_nil, upd_same, at0, at1, at2, ix0, ix1, ix2, upd_upd, ite_true, ite_false, if_true, if_false, Bool.false_eq_true, decide_true, decide_false, reduceIte, true_and, and_true, Option.isSome_none, Option.isSome_some, Bool.not_false, Bool.not_true, e0]
          exact hh

def pick (z : Int) (e : Ent) : Int := if z % 2 = 0 then e.v0 else e.v1
def vw (E : List Ent) (cs : List Int) (z : Int) : Int := match E.find? (fun e => e.line == z / 2) with
  | some e => pick z e
  | none => (cs[z.toNat]?).getD 0
theorem vw_at {E : List Ent} {cs : List Int} {z : Int} {e : Ent} (hn : (E.map (·.line)).Nodup) (he : e ∈ E) (hl : e.line = z / 2) : vw E cs z = pick z e := by
  unfold vw
  rw [← hl, find_line hn he]
theorem vw_loaded {E E' : List Ent} {cs : List Int} {l z : Int} {H : Hp} (h : Loaded E cs l H E') (hz : 0 ≤ z) : vw E' cs z = vw E cs z := by
  rcases h with ⟨_, rfl⟩ | ⟨ha, r, v0, v1, _, rfl, c0, c1⟩
  · rfl
  · unfold vw
    rw [List.find?_append]
    cases h1 : E.find? (fun e => e.line == z / 2) with
    | some e => rfl
    | none =>
      rw [Option.none_or, List.find?_cons]
      by_cases q : l = z / 2
      · rw [show ((l == z / 2) = true) by rw [q]; exact beq_self_eq_true _]
        show (if z % 2 = 0 then v0 else v1) = _
        by_cases p : z % 2 = 0
        · rw [if_pos p, show z = 2 * l by omega, c0] <;> rfl
        · rw [if_neg p, show z = 2 * l + 1 by omega, c1] <;> rfl
      · rw [show ((l == z / 2) = false) by exact beq_eq_false_iff_ne.mpr q]
        rfl
theorem vw_con {E G : List Ent} {cs : List Int} {z : Int} (h : E.map con = G.map con) : vw E cs z = vw G cs z := by
  have q := con_find h (z / 2)
  unfold vw
  cases h1 : E.find? (fun e => e.line == z / 2) with
  | none =>
    rw [h1] at q
    cases h2 : G.find? (fun e => e.line == z / 2) with
    | none => rfl
    | some g => rw [h2] at q; cases q
  | some e =>
    rw [h1] at q
    cases h2 : G.find? (fun e => e.line == z / 2) with
    | none => rw [h2] at q; cases q
    | some g =>
      rw [h2] at q
      have q1 : con e = con g := Option.some.inj q
      have e0 : e.v0 = g.v0 := congrArg (·.2.1) q1
      have e1 : e.v1 = g.v1 := congrArg (·.2.2.1) q1
      show pick z e = pick z g
      unfold pick
      rw [e0, e1]
theorem loaded_sub {E E' : List Ent} {cs : List Int} {l : Int} {H : Hp} (h : Loaded E cs l H E') : ∀ e ∈ E, e ∈ E' := fun e he => by
  rcases h with ⟨_, rfl⟩ | ⟨_, r, v0, v1, _, rfl, _, _⟩
  · exact he
  · exact List.mem_append_left _ he
theorem Core.side {K : PySem.W.Frag} {H0 H : Hp} {b c m x d k D : Addr} {o u : HO} {n : Int} {cs ms : List Int} {E G : List Ent} {xs : List V} (C : Core K H0 H b c m x d k o n cs ms E G) (hD : H D = some (.lst xs)) (z : H0 D = none) (nb : b ≠ D) (nc : c ≠ D) (nm : m ≠ D) (nE : ∀ e ∈ E, e.addr ≠ D) (nG : ∀ e ∈ G, e.addr ≠ D) : Core K H0 (upd H D u) b c m x d k o n cs ms E G :=
  ⟨Same.upd C.same z, by rw [upd_ne nb]; exact C.hb, C.ho, by rw [upd_ne nc]; exact C.hc, by rw [upd_ne nm]; exact C.hm, C.L.upd (lst_nx hD C.L), C.R.frame (lst_nd hD C.R.dc) nE, C.gr.frame (lst_nd hD C.gr.dc) nG, C.nbc, C.nbm, C.ncm, C.ndk, C.eb, C.gb, C.eg, C.z, C.ze, C.zg⟩
def Rows6 (K : PySem.W.Frag) (H0 : Hp) (b c m x d kd : Addr) (o : HO) (n : Int) (cs : List Int) (E G : List Ent) (D : Addr) (j : Nat) (H2 : Hp) : Prop :=
  ∃ (G' : List Ent) (rs : List Addr), Core K H0 H2 b c m x d kd o n cs cs E G' ∧ H2 D = some (.lst (rs.map V.ref)) ∧ rs.length = j ∧ (∀ z, 0 ≤ z → vw G' cs z = vw G cs z) ∧ G'.length ≤ G.length + j ∧ (∀ g ∈ G', g.addr ≠ D) ∧
    ∀ (i : Nat) r, rs[i]? = some r → ∃ g ∈ G', g.addr = r ∧ g.line = (i : Int) / 2
def Reads8 (K : PySem.W.Frag) (H0 : Hp) (b c m x d kd : Addr) (o : HO) (n : Int) (cs : List Int) (E G : List Ent) (P : Addr) (us : List Int) (D : Addr) (j : Nat) (H2 : Hp) : Prop :=
  ∃ (E' : List Ent), Core K H0 H2 b c m x d kd o n cs cs E' G ∧ H2 D = some (intsO ((List.range j).map fun (i : Nat) => vw E cs i)) ∧ (∀ z, 0 ≤ z → vw E' cs z = vw E cs z) ∧ E'.length ≤ E.length + j ∧ (∀ g ∈ E', g.addr ≠ D) ∧ H2 P = some (intsO us)
theorem last7 {K : PySem.W.Frag} {mg : Str → Option Value} (T : Top K mg) {D : Ends} {H0 H : Hp} {a b c kd m x d : Addr} {i z : Int} {v4 v5 v6 v11 v12 v13 v14 v15 : Option V} {o : HO} {n : Int} {cs : List Int} {E G : List Ent}
    (C : Core K H0 H b c m x d kd o n cs cs E G) (heq : E.map con = G.map con) (hE : E.length ≤ 100) (hz : 2 ≤ z ∧ z ≤ 12 ∧ z % 2 = 0) (hcs : (cs.length : Int) = z) (kD : ∀ H' v5 v6 v11, Same H0 H' → D.nx (sl a b c kd m x i z v4 v5 v6 v11 v12 v13 v14 v15) H') :
    tSeq (t_law_1b_6 K) (tSeq (t_law_1b_7 K) (t_law_1b_8 K)) D (sl a b c kd m x i z v4 v5 v6 v11 v12 v13 v14 v15) H := by
  have hG : G.length ≤ 100 := by rw [← con_len heq]; exact hE
  have hc2 : cs.length ≤ 100 := by omega
  have hcm : cs.length % 2 = 0 := by omega
  unfold t_law_1b_6
  unfold sl
  simp only [tSeq, tAsg, tIfS, tRet, tRetN, tDrop, tNext, tPar, tPar3, gName, gSub, gTup, gCons, gNil, zV, tC, tOp, tUn, tCons, tNil, tLst, tTup, tIf, tAnd, tOr, tNot, tYes, zB, zAnd, zOr, zNot, zChain, tDNewK, yAdd, ySub, yMul, yDiv, yMod, yPow, yNeg, yLt, yLe, yGt, yGe, yEq, yNe, yIs0, yNotIs0, yIx, ySet, yIn, sqAt, isNone, zFld, zSetF, insAt, zMeth, zProp, tCall, tMake, tCB, yLen, yAbs, yMax2, yMin2, yList, yTuple, yDict0, zLM, yApp, isLst, dkAt, keyOf, zGet1, zGet2, zPop1, zPop2, zForR1, zForR2, zForL, zForT, Z.intAt, refAt, zLc, iR1, iR2, iL, iT, wipe, List.getElem?_cons_zero, List.getElem?_cons_succ, List.set_cons_zero, List.set_cons_succ, List.cons_append, List.nil_append, List.append_nil, upd_same, at0, at1, at2, ix0, ix1, ix2, upd_upd, ite_true, ite_false, if_true, if_false, Bool.false_eq_true, decide_true, decide_false, reduceIte, true_and, and_true, Option.isSome_none, Option.isSome_some, Bool.not_false, Bool.not_true]
  refine ⟨⟨by omega, by omega⟩, compR (Rows6 K H0 b c m x d kd o n cs E G) ?_ ?_ ?_⟩
  · intro D hD
    exact ⟨G, [], C.new hD, upd_same, rfl, fun _ _ => rfl, Nat.le_refl _, (fun g hg q => by have := C.gr.rows g hg; rw [q, hD] at this; cases this), fun i r h => by rw [List.getElem?_nil] at h; cases h⟩
  · rintro D j H2 hD hj ⟨G', rs, C2, hDl, hl, hv, hGl, hGD, hrs⟩
    simp only [tSeq, tAsg, tIfS, tRet, tRetN, tDrop, tNext, tPar, tPar3, gName, gSub, gTup, gCons, gNil, zV, tC, tOp, tUn, tCons, tNil, tLst, tTup, tIf, tAnd, tOr, tNot, tYes, zB, zAnd, zOr, zNot, zChain, tDNewK, yAdd, ySub, yMul, yDiv, yMod, yPow, yNeg, yLt, yLe, yGt, yGe, yEq, yNe, yIs0, yNotIs0, yIx, ySet, yIn, sqAt, isNone, zFld, zSetF, insAt, zMeth, zProp, tCall, tMake, tCB, yLen, yAbs, yMax2, yMin2, yList, yTuple, yDict0, zLM, yApp, isLst, dkAt, keyOf, zGet1, zGet2, zPop1, zPop2, zForR1, zForR2, zForL, zForT, Z.intAt, refAt, zLc, iR1, iR2, iL, iT, wipe, List.getElem?_cons_zero, List.getElem?_cons_succ, List.set_cons_zero, List.set_cons_succ, List.cons_append, List.nil_append, List.append_nil, upd_same, at0, at1, at2, ix0, ix1, ix2, upd_upd, ite_true, ite_false, if_true, if_false, Bool.false_eq_true, decide_true, decide_false, reduceIte, true_and, and_true, Option.isSome_none, Option.isSome_some, Bool.not_false, Bool.not_true]
    refine ⟨⟨by decide, by decide⟩, kd, m, (0 + (j : Int)) / 2, G', cs, rfl, C2.gr, C2.hm, by omega, by omega, hc2, by omega, LoadTo.of C2.gr fun G1 H3 l2 R2 _ fr2 g hg gl => ?_⟩
    have C3 := C2.loadG l2 R2 fr2
    have hD3 := fr2 _ _ hDl (lst_nd hDl C2.gr.dc)
    have hGD3 : ∀ g ∈ G1, g.addr ≠ D := fun g hg => (loaded_mem l2 g hg).elim (hGD g) fun q e => by rw [e, hDl] at q; cases q
    refine ⟨rs.map V.ref, hD3, by rw [List.length_map]; exact small1000 (by omega), G1, rs ++ [g.addr], ?_, by rw [upd_same, List.map_append] <;> rfl, by rw [List.length_append, hl] <;> rfl, fun w hw => (vw_loaded l2 hw).trans (hv w hw), by have := loaded_len l2; omega, hGD3, fun i r h => ?_⟩
    · exact C3.side hD3 (C.same.free hD) (fun e => by have := C.hb; rw [e, hD] at this; cases this) (fun e => by have := C.hc; rw [e, hD] at this; cases this) (fun e => by have := C.hm; rw [e, hD] at this; cases this) (fun f hf e => by have := C.R.rows f hf; rw [e, hD] at this; cases this) hGD3
    · by_cases hi : i < rs.length
      · rw [List.getElem?_append_left hi] at h
        obtain ⟨g', hg', q⟩ := hrs i r h
        exact ⟨g', loaded_sub l2 g' hg', q⟩
      · rw [List.getElem?_append_right (by omega)] at h
        have hi2 : i = j := by
          have := List.getElem?_eq_some_iff.mp h
          obtain ⟨q, _⟩ := this
          rw [List.length_singleton] at q
          omega
        rw [hi2, hl, Nat.sub_self] at h
        have h' : g.addr = r := Option.some.inj h
        exact ⟨g, hg, h', by rw [gl, hi2]; omega⟩
  · rintro P5 H2 hP5 ⟨G', rs, C2, hDl, hl, hv, hGl, hGD, hrs⟩
    unfold t_law_1b_7
    simp only [tSeq, tAsg, tIfS, tRet, tRetN, tDrop, tNext, tPar, tPar3, gName, gSub, gTup, gCons, gNil, zV, tC, tOp, tUn, tCons, tNil, tLst, tTup, tIf, tAnd, tOr, tNot, tYes, zB, zAnd, zOr, zNot, zChain, tDNewK, yAdd, ySub, yMul, yDiv, yMod, yPow, yNeg, yLt, yLe, yGt, yGe, yEq, yNe, yIs0, yNotIs0, yIx, ySet, yIn, sqAt, isNone, zFld, zSetF, insAt, zMeth, zProp, tCall, tMake, tCB, yLen, yAbs, yMax2, yMin2, yList, yTuple, yDict0, zLM, yApp, isLst, dkAt, keyOf, zGet1, zGet2, zPop1, zPop2, zForR1, zForR2, zForL, zForT, Z.intAt, refAt, zLc, iR1, iR2, iL, iT, wipe, List.getElem?_cons_zero, List.getElem?_cons_succ, List.set_cons_zero, List.set_cons_succ, List.cons_append, List.nil_append, List.append_nil, upd_same, at0, at1, at2, ix0, ix1, ix2, upd_upd, ite_true, ite_false, if_true, if_false, Bool.false_eq_true, decide_true, decide_false, reduceIte, true_and, and_true, Option.isSome_none, Option.isSome_some, Bool.not_false, Bool.not_true]
    refine ⟨⟨by omega, by omega⟩, comp_vals steady_r (small1000 (by omega)) (fun (i : Nat) => .int (vw G cs i)) (fun _ => rfl) ?_ ?_⟩
    · intro j H' hj s2 Q' k'
      have hr5 := s2 _ _ hDl
      have R' := C2.gr.same s2
      have hjr : j < rs.length := by omega
      obtain ⟨g, hg, ga, gl⟩ := hrs j rs[j] (List.getElem?_eq_getElem hjr)
      have hr := R'.rows g hg
      unfold Ent.row at hr
      have ea : atI (rs.map V.ref) (0 + (j : Int)) = some (.ref g.addr) := at_nat (by omega) (by rw [List.getElem?_map, show (0 + (j : Int)).toNat = j by omega, List.getElem?_eq_getElem hjr, ga]; rfl)
      simp only [tSeq, tAsg, tIfS, tRet, tRetN, tDrop, tNext, tPar, tPar3, gName, gSub, gTup, gCons, gNil, zV, tC, tOp, tUn, tCons, tNil, tLst, tTup, tIf, tAnd, tOr, tNot, tYes, zB, zAnd, zOr, zNot, zChain, tDNewK, yAdd, ySub, yMul, yDiv, yMod, yPow, yNeg, yLt, yLe, yGt, yGe, yEq, yNe, yIs0, yNotIs0, yIx, ySet, yIn, sqAt, isNone, zFld, zSetF, insAt, zMeth, zProp, tCall, tMake, tCB, yLen, yAbs, yMax2, yMin2, yList, yTuple, yDict0, zLM, yApp, isLst, dkAt, keyOf, zGet1, zGet2, zPop1, zPop2, zForR1, zForR2, zForL, zForT, Z.intAt, refAt, zLc, iR1, iR2, iL, iT, wipe, List.getElem?_cons_zero, List.getElem?_cons_succ, List.set_cons_zero, List.set_cons_succ, List.cons_append, List.nil_append, List.append_nil, upd_same, at0, at1, at2, ix0, ix1, ix2, upd_upd, ite_true, ite_false, if_true, if_false, Bool.false_eq_true, decide_true, decide_false, reduceIte, true_and, and_true, Option.isSome_none, Option.isSome_some, Bool.not_false, Bool.not_true, hr5, ea, hr]
      refine ⟨by decide, ?_⟩
      have hvv : vw G cs j = pick j g := (hv j (by omega)).symm.trans (vw_at C2.gr.nl hg gl)
      rw [hvv] at k'
      unfold pick at k'
      rcases (by omega : (0 + (j : Int)) % 2 = 0 ∨ (0 + (j : Int)) % 2 = 1) with hq2 | hq2
      · rw [if_pos (by omega)] at k'
        rw [hq2]
        simp only [tSeq, tAsg, tIfS, tRet, tRetN, tDrop, tNext, tPar, tPar3, gName, gSub, gTup, gCons, gNil, zV, tC, tOp, tUn, tCons, tNil, tLst, tTup, tIf, tAnd, tOr, tNot, tYes, zB, zAnd, zOr, zNot, zChain, tDNewK, yAdd, ySub, yMul, yDiv, yMod, yPow, yNeg, yLt, yLe, yGt, yGe, yEq, yNe, yIs0, yNotIs0, yIx, ySet, yIn, sqAt, isNone, zFld, zSetF, insAt, zMeth, zProp, tCall, tMake, tCB, yLen, yAbs, yMax2, yMin2, yList, yTuple, yDict0, zLM, yApp, isLst, dkAt, keyOf, zGet1, zGet2, zPop1, zPop2, zForR1, zForR2, zForL, zForT, Z.intAt, refAt, zLc, iR1, iR2, iL, iT, wipe, List.getElem?_cons_zero, List.getElem?_cons_succ, List.set_cons_zero, List.set_cons_succ, List.cons_append, List.nil_append, List.append_nil, upd_same, at0, at1, at2, ix0, ix1, ix2, upd_upd, ite_true, ite_false, if_true, if_false, Bool.false_eq_true, decide_true, decide_false, reduceIte, true_and, and_true, Option.isSome_none, Option.isSome_some, Bool.not_false, Bool.not_true]
        exact k'
      · rw [if_neg (by omega)] at k'
        rw [hq2]
        simp only [tSeq, tAsg, tIfS, tRet, tRetN, tDrop, tNext, tPar, tPar3, gName, gSub, gTup, gCons, gNil, zV, tC, tOp, tUn, tCons, tNil, tLst, tTup, tIf, tAnd, tOr, tNot, tYes, zB, zAnd, zOr, zNot, zChain, tDNewK, yAdd, ySub, yMul, yDiv, yMod, yPow, yNeg, yLt, yLe, yGt, yGe, yEq, yNe, yIs0, yNotIs0, yIx, ySet, yIn, sqAt, isNone, zFld, zSetF, insAt, zMeth, zProp, tCall, tMake, tCB, yLen, yAbs, yMax2, yMin2, yList, yTuple, yDict0, zLM, yApp, isLst, dkAt, keyOf, zGet1, zGet2, zPop1, zPop2, zForR1, zForR2, zForL, zForT, Z.intAt, refAt, zLc, iR1, iR2, iL, iT, wipe, List.getElem?_cons_zero, List.getElem?_cons_succ, List.set_cons_zero, List.set_cons_succ, List.cons_append, List.nil_append, List.append_nil, upd_same, at0, at1, at2, ix0, ix1, ix2, upd_upd, ite_true, ite_false, if_true, if_false, Bool.false_eq_true, decide_true, decide_false, reduceIte, true_and, and_true, Option.isSome_none, Option.isSome_some, Bool.not_false, Bool.not_true]
        exact k'
    · intro P6 hP6
      have C3 := C2.new (p := P6) (u := .lst ((List.range z.toNat).map fun (i : Nat) => V.int (vw G cs i))) hP6
      have h6 : (upd H2 P6 (.lst ((List.range z.toNat).map fun (i : Nat) => V.int (vw G cs i)))) P6 = some (intsO ((List.range z.toNat).map fun (i : Nat) => vw E cs i)) := by
        rw [upd_same]
        unfold intsO
        rw [List.map_map]
        congr 2
        refine List.map_congr_left fun i _ => ?_
        rw [Function.comp, vw_con heq]
      generalize upd H2 P6 (.lst ((List.range z.toNat).map fun (i : Nat) => V.int (vw G cs i))) = H3 at C3 h6
      unfold t_law_1b_8
      simp only [tSeq, tAsg, tIfS, tRet, tRetN, tDrop, tNext, tPar, tPar3, gName, gSub, gTup, gCons, gNil, zV, tC, tOp, tUn, tCons, tNil, tLst, tTup, tIf, tAnd, tOr, tNot, tYes, zB, zAnd, zOr, zNot, zChain, tDNewK, yAdd, ySub, yMul, yDiv, yMod, yPow, yNeg, yLt, yLe, yGt, yGe, yEq, yNe, yIs0, yNotIs0, yIx, ySet, yIn, sqAt, isNone, zFld, zSetF, insAt, zMeth, zProp, tCall, tMake, tCB, yLen, yAbs, yMax2, yMin2, yList, yTuple, yDict0, zLM, yApp, isLst, dkAt, keyOf, zGet1, zGet2, zPop1, zPop2, zForR1, zForR2, zForL, zForT, Z.intAt, refAt, zLc, iR1, iR2, iL, iT, wipe, List.getElem?_cons_zero, List.getElem?_cons_succ, List.set_cons_zero, List.set_cons_succ, List.cons_append, List.nil_append, List.append_nil, upd_same, at0, at1, at2, ix0, ix1, ix2, upd_upd, ite_true, ite_false, if_true, if_false, Bool.false_eq_true, decide_true, decide_false, reduceIte, true_and, and_true, Option.isSome_none, Option.isSome_some, Bool.not_false, Bool.not_true]
      refine ⟨⟨by omega, by omega⟩, compR (Reads8 K H0 b c m x d kd o n cs E G' P6 ((List.range z.toNat).map fun (i : Nat) => vw E cs i)) ?_ ?_ ?_⟩
      · intro D hD
        exact ⟨E, C3.new hD, upd_same, fun _ _ => rfl, Nat.le_refl _, (fun g hg q => by have := C3.R.rows g hg; rw [q, hD] at this; cases this), by rw [upd_ne (ne_of_none h6 hD)]; exact h6⟩
      · rintro D j H4 hD hj ⟨E', C4, hDl4, hv4, hEl4, hED4, h64⟩
        obtain ⟨dx, hx⟩ := id C4.L
        simp only [tSeq, tAsg, tIfS, tRet, tRetN, tDrop, tNext, tPar, tPar3, gName, gSub, gTup, gCons, gNil, zV, tC, tOp, tUn, tCons, tNil, tLst, tTup, tIf, tAnd, tOr, tNot, tYes, zB, zAnd, zOr, zNot, zChain, tDNewK, yAdd, ySub, yMul, yDiv, yMod, yPow, yNeg, yLt, yLe, yGt, yGe, yEq, yNe, yIs0, yNotIs0, yIx, ySet, yIn, sqAt, isNone, zFld, zSetF, insAt, zMeth, zProp, tCall, tMake, tCB, yLen, yAbs, yMax2, yMin2, yList, yTuple, yDict0, zLM, yApp, isLst, dkAt, keyOf, zGet1, zGet2, zPop1, zPop2, zForR1, zForR2, zForL, zForT, Z.intAt, refAt, zLc, iR1, iR2, iL, iT, wipe, List.getElem?_cons_zero, List.getElem?_cons_succ, List.set_cons_zero, List.set_cons_succ, List.cons_append, List.nil_append, List.append_nil, upd_same, at0, at1, at2, ix0, ix1, ix2, upd_upd, ite_true, ite_false, if_true, if_false, Bool.false_eq_true, decide_true, decide_false, reduceIte, true_and, and_true, Option.isSome_none, Option.isSome_some, Bool.not_false, Bool.not_true, hx, no_Lines_read]
        refine ⟨x, c, d, 0 + (j : Int), E', cs, rfl, C4.L, C4.R, C4.hc, by omega, by omega, hcm, hc2, by omega, LoadTo.of C4.R fun E1 H5 l1 R1 _ fr e he el => ?_⟩
        have C5 := C4.loadE l1 R1 fr
        have hD5 := fr _ _ hDl4 (lst_nd hDl4 C4.R.dc)
        have hED5 : ∀ g ∈ E1, g.addr ≠ D := fun g hg => (loaded_mem l1 g hg).elim (hED4 g) fun q e => by rw [e, hDl4] at q; cases q
        have hvv : vw E cs j = pick j e := (hv4 j (by omega)).symm.trans ((vw_loaded l1 (by omega)).symm.trans (vw_at C5.R.nl he (by rw [el]; omega)))
        refine ⟨_, hD5, by rw [List.length_map, List.length_map, List.length_range]; exact small1000 (by omega), E1, ?_, ?_, fun w hw => (vw_loaded l1 hw).trans (hv4 w hw), by have := loaded_len l1; omega, hED5, ?_⟩
        · exact C5.side hD5 (C3.same.free hD) (fun e => by have := C3.hb; rw [e, hD] at this; cases this) (fun e => by have := C3.hc; rw [e, hD] at this; cases this) (fun e => by have := C3.hm; rw [e, hD] at this; cases this) hED5 (fun f hf e => by have := C3.gr.rows f hf; rw [e, hD] at this; cases this)
        · rw [upd_same, List.range_succ, List.map_append]
          unfold intsO
          rw [List.map_append]
          show some (HO.lst (_ ++ [V.int _])) = some (HO.lst (_ ++ [V.int (vw E cs j)]))
          rw [hvv]
          unfold pick
          rw [show (0 + (j : Int)) = j by omega]
        · rw [upd_ne (ne_of_none h6 hD)]
          exact fr _ _ h64 (lst_nd h64 C4.R.dc)
      · rintro P8 H4 hP8 ⟨E', C4, hDl4, hv4, hEl4, hED4, h64⟩
        refine ne_same (ints_dp hDl4) (ints_dp h64) (ints_shaped _) ?_
        simp only [tSeq, tAsg, tIfS, tRet, tRetN, tDrop, tNext, tPar, tPar3, gName, gSub, gTup, gCons, gNil, zV, tC, tOp, tUn, tCons, tNil, tLst, tTup, tIf, tAnd, tOr, tNot, tYes, zB, zAnd, zOr, zNot, zChain, tDNewK, yAdd, ySub, yMul, yDiv, yMod, yPow, yNeg, yLt, yLe, yGt, yGe, yEq, yNe, yIs0, yNotIs0, yIx, ySet, yIn, sqAt, isNone, zFld, zSetF, insAt, zMeth, zProp, tCall, tMake, tCB, yLen, yAbs, yMax2, yMin2, yList, yTuple, yDict0, zLM, yApp, isLst, dkAt, keyOf, zGet1, zGet2, zPop1, zPop2, zForR1, zForR2, zForL, zForT, Z.intAt, refAt, zLc, iR1, iR2, iL, iT, wipe, List.getElem?_cons_zero, List.getElem?_cons_succ, List.set_cons_zero, List.set_cons_succ, List.cons_append, List.nil_append, List.append_nil, upd_same, at0, at1, at2, ix0, ix1, ix2, upd_upd, ite_true, ite_false, if_true, if_false, Bool.false_eq_true, decide_true, decide_false, reduceIte, true_and, and_true, Option.isSome_none, Option.isSome_some, Bool.not_false, Bool.not_true]
        refine ne_same (ints_dp C4.hc) (ints_dp C4.hm) (ints_shaped cs) ?_
        simp only [tSeq, tAsg, tIfS, tRet, tRetN, tDrop, tNext, tPar, tPar3, gName, gSub, gTup, gCons, gNil, zV, tC, tOp, tUn, tCons, tNil, tLst, tTup, tIf, tAnd, tOr, tNot, tYes, zB, zAnd, zOr, zNot, zChain, tDNewK, yAdd, ySub, yMul, yDiv, yMod, yPow, yNeg, yLt, yLe, yGt, yGe, yEq, yNe, yIs0, yNotIs0, yIx, ySet, yIn, sqAt, isNone, zFld, zSetF, insAt, zMeth, zProp, tCall, tMake, tCB, yLen, yAbs, yMax2, yMin2, yList, yTuple, yDict0, zLM, yApp, isLst, dkAt, keyOf, zGet1, zGet2, zPop1, zPop2, zForR1, zForR2, zForL, zForT, Z.intAt, refAt, zLc, iR1, iR2, iL, iT, wipe, List.getElem?_cons_zero, List.getElem?_cons_succ, List.set_cons_zero, List.set_cons_succ, List.cons_append, List.nil_append, List.append_nil, upd_same, at0, at1, at2, ix0, ix1, ix2, upd_upd, ite_true, ite_false, if_true, if_false, Bool.false_eq_true, decide_true, decide_false, reduceIte, true_and, and_true, Option.isSome_none, Option.isSome_some, Bool.not_false, Bool.not_true]
        exact kD _ _ _ _ C4.same

def OutInv (a : Addr) (H0 : Hp) (_ : Nat) (σ : L2.St) (H' : Hp) : Prop := (∃ v1 v2 v3 v4 v5 v6 v7 v8 v9 v10 v11 v12 v13 v14 v15, σ = [some (.ref a), v1, v2, v3, v4, v5, v6, v7, v8, v9, v10, v11, v12, v13, v14, v15]) ∧ Same H0 H'
theorem rd_law {K : PySem.W.Frag} {mg : Str → Option Value} (T : Top K mg) : ∀ vs H Q E, sp_law K vs H Q E → t_law K { nx := fun _ H' => Q .non H', rt := Q } (start nm_law vs) H := by
  rintro vs H Q E ⟨a, ns, rfl, hS, hl, hO, k⟩
  rw [start_law]
  unfold t_law t_law_1
  simp only [tSeq, tAsg, tIfS, tRet, tRetN, tDrop, tNext, tPar, tPar3, gName, gSub, gTup, gCons, gNil, zV, tC, tOp, tUn, tCons, tNil, tLst, tTup, tIf, tAnd, tOr, tNot, tYes, zB, zAnd, zOr, zNot, zChain, tDNewK, yAdd, ySub, yMul, yDiv, yMod, yPow, yNeg, yLt, yLe, yGt, yGe, yEq, yNe, yIs0, yNotIs0, yIx, ySet, yIn, sqAt, isNone, zFld, zSetF, insAt, zMeth, zProp, tCall, tMake, tCB, yLen, yAbs, yMax2, yMin2, yList, yTuple, yDict0, zLM, yApp, isLst, dkAt, keyOf, zGet1, zGet2, zPop1, zPop2, zForR1, zForR2, zForL, zForT, Z.intAt, refAt, zLc, iR1, iR2, iL, iT, wipe, List.getElem?_cons_zero, List.getElem?_cons_succ, List.set_cons_zero, List.set_cons_succ, List.cons_append, List.nil_append, List.append_nil, upd_same, at0, at1, at2, ix0, ix1, ix2, upd_upd, ite_true, ite_false, if_true, if_false, Bool.false_eq_true, decide_true, decide_false, reduceIte, true_and, and_true, Option.isSome_none, Option.isSome_some, Bool.not_false, Bool.not_true]
  refine ⟨a, _, rfl, hS, ?_⟩
  simp only [tSeq, tAsg, tIfS, tRet, tRetN, tDrop, tNext, tPar, tPar3, gName, gSub, gTup, gCons, gNil, zV, tC, tOp, tUn, tCons, tNil, tLst, tTup, tIf, tAnd, tOr, tNot, tYes, zB, zAnd, zOr, zNot, zChain, tDNewK, yAdd, ySub, yMul, yDiv, yMod, yPow, yNeg, yLt, yLe, yGt, yGe, yEq, yNe, yIs0, yNotIs0, yIx, ySet, yIn, sqAt, isNone, zFld, zSetF, insAt, zMeth, zProp, tCall, tMake, tCB, yLen, yAbs, yMax2, yMin2, yList, yTuple, yDict0, zLM, yApp, isLst, dkAt, keyOf, zGet1, zGet2, zPop1, zPop2, zForR1, zForR2, zForL, zForT, Z.intAt, refAt, zLc, iR1, iR2, iL, iT, wipe, List.getElem?_cons_zero, List.getElem?_cons_succ, List.set_cons_zero, List.set_cons_succ, List.cons_append, List.nil_append, List.append_nil, upd_same, at0, at1, at2, ix0, ix1, ix2, upd_upd, ite_true, ite_false, if_true, if_false, Bool.false_eq_true, decide_true, decide_false, reduceIte, true_and, and_true, Option.isSome_none, Option.isSome_some, Bool.not_false, Bool.not_true]
  generalize hN : (if (if (↑(List.map V.int ns).length : Int) < 6 then ↑(List.map V.int ns).length else (6 : Int)) > 2 then if (↑(List.map V.int ns).length : Int) < 6 then ↑(List.map V.int ns).length else (6 : Int) else 2) = N
  have hN2 : 0 ≤ N ∧ N ≤ 6 := by rw [← hN]; split <;> (try split) <;> omega
  refine ⟨⟨by omega, by omega⟩, loopR (OutInv a H) ⟨⟨_, _, _, _, _, _, _, _, _, _, _, _, _, _, _, rfl⟩, Same.refl H⟩ ?_ ?_⟩
  · rintro i σ H1 hi ⟨⟨v1, v2, v3, v4, v5, v6, v7, v8, v9, v10, v11, v12, v13, v14, v15, rfl⟩, s1⟩
    unfold t_law_1b_1
    simp only [tSeq, tAsg, tIfS, tRet, tRetN, tDrop, tNext, tPar, tPar3, gName, gSub, gTup, gCons, gNil, zV, tC, tOp, tUn, tCons, tNil, tLst, tTup, tIf, tAnd, tOr, tNot, tYes, zB, zAnd, zOr, zNot, zChain, tDNewK, yAdd, ySub, yMul, yDiv, yMod, yPow, yNeg, yLt, yLe, yGt, yGe, yEq, yNe, yIs0, yNotIs0, yIx, ySet, yIn, sqAt, isNone, zFld, zSetF, insAt, zMeth, zProp, tCall, tMake, tCB, yLen, yAbs, yMax2, yMin2, yList, yTuple, yDict0, zLM, yApp, isLst, dkAt, keyOf, zGet1, zGet2, zPop1, zPop2, zForR1, zForR2, zForL, zForT, Z.intAt, refAt, zLc, iR1, iR2, iL, iT, wipe, List.getElem?_cons_zero, List.getElem?_cons_succ, List.set_cons_zero, List.set_cons_succ, List.cons_append, List.nil_append, List.append_nil, upd_same, at0, at1, at2, ix0, ix1, ix2, upd_upd, ite_true, ite_false, if_true, if_false, Bool.false_eq_true, decide_true, decide_false, reduceIte, true_and, and_true, Option.isSome_none, Option.isSome_some, Bool.not_false, Bool.not_true]
    refine ⟨a, _, ns, rfl, s1.seq hS, by omega, by omega, fun b o hb ho => ?_⟩
    unfold t_law_1b_2
    simp only [tSeq, tAsg, tIfS, tRet, tRetN, tDrop, tNext, tPar, tPar3, gName, gSub, gTup, gCons, gNil, zV, tC, tOp, tUn, tCons, tNil, tLst, tTup, tIf, tAnd, tOr, tNot, tYes, zB, zAnd, zOr, zNot, zChain, tDNewK, yAdd, ySub, yMul, yDiv, yMod, yPow, yNeg, yLt, yLe, yGt, yGe, yEq, yNe, yIs0, yNotIs0, yIx, ySet, yIn, sqAt, isNone, zFld, zSetF, insAt, zMeth, zProp, tCall, tMake, tCB, yLen, yAbs, yMax2, yMin2, yList, yTuple, yDict0, zLM, yApp, isLst, dkAt, keyOf, zGet1, zGet2, zPop1, zPop2, zForR1, zForR2, zForL, zForT, Z.intAt, refAt, zLc, iR1, iR2, iL, iT, wipe, List.getElem?_cons_zero, List.getElem?_cons_succ, List.set_cons_zero, List.set_cons_succ, List.cons_append, List.nil_append, List.append_nil, upd_same, at0, at1, at2, ix0, ix1, ix2, upd_upd, ite_true, ite_false, if_true, if_false, Bool.false_eq_true, decide_true, decide_false, reduceIte, true_and, and_true, Option.isSome_none, Option.isSome_some, Bool.not_false, Bool.not_true]
    refine use_take (by rw [upd_same]) ho (by decide) (by decide) (by decide) fun d o' d0 d1 ho' => ?_
    simp only [tSeq, tAsg, tIfS, tRet, tRetN, tDrop, tNext, tPar, tPar3, gName, gSub, gTup, gCons, gNil, zV, tC, tOp, tUn, tCons, tNil, tLst, tTup, tIf, tAnd, tOr, tNot, tYes, zB, zAnd, zOr, zNot, zChain, tDNewK, yAdd, ySub, yMul, yDiv, yMod, yPow, yNeg, yLt, yLe, yGt, yGe, yEq, yNe, yIs0, yNotIs0, yIx, ySet, yIn, sqAt, isNone, zFld, zSetF, insAt, zMeth, zProp, tCall, tMake, tCB, yLen, yAbs, yMax2, yMin2, yList, yTuple, yDict0, zLM, yApp, isLst, dkAt, keyOf, zGet1, zGet2, zPop1, zPop2, zForR1, zForR2, zForL, zForT, Z.intAt, refAt, zLc, iR1, iR2, iL, iT, wipe, List.getElem?_cons_zero, List.getElem?_cons_succ, List.set_cons_zero, List.set_cons_succ, List.cons_append, List.nil_append, List.append_nil, upd_same, at0, at1, at2, ix0, ix1, ix2, upd_upd, ite_true, ite_false, if_true, if_false, Bool.false_eq_true, decide_true, decide_false, reduceIte, true_and, and_true, Option.isSome_none, Option.isSome_some, Bool.not_false, Bool.not_true]
    refine ⟨.inl ⟨by decide, by decide⟩, ?_⟩
    generalize hz : 2 * (1 + d) = z
    have b0 : H b = none := s1.free hb
    have s1' : Same H (upd H1 b o') := Same.upd s1 b0
    have hb' : (upd H1 b o') b = some o' := upd_same
    generalize upd H1 b o' = H1' at s1' hb'
    unfold t_law_1b_3
    simp only [tSeq, tAsg, tIfS, tRet, tRetN, tDrop, tNext, tPar, tPar3, gName, gSub, gTup, gCons, gNil, zV, tC, tOp, tUn, tCons, tNil, tLst, tTup, tIf, tAnd, tOr, tNot, tYes, zB, zAnd, zOr, zNot, zChain, tDNewK, yAdd, ySub, yMul, yDiv, yMod, yPow, yNeg, yLt, yLe, yGt, yGe, yEq, yNe, yIs0, yNotIs0, yIx, ySet, yIn, sqAt, isNone, zFld, zSetF, insAt, zMeth, zProp, tCall, tMake, tCB, yLen, yAbs, yMax2, yMin2, yList, yTuple, yDict0, zLM, yApp, isLst, dkAt, keyOf, zGet1, zGet2, zPop1, zPop2, zForR1, zForR2, zForL, zForT, Z.intAt, refAt, zLc, iR1, iR2, iL, iT, wipe, List.getElem?_cons_zero, List.getElem?_cons_succ, List.set_cons_zero, List.set_cons_succ, List.cons_append, List.nil_append, List.append_nil, upd_same, at0, at1, at2, ix0, ix1, ix2, upd_upd, ite_true, ite_false, if_true, if_false, Bool.false_eq_true, decide_true, decide_false, reduceIte, true_and, and_true, Option.isSome_none, Option.isSome_some, Bool.not_false, Bool.not_true]
    refine ⟨⟨by omega, by omega⟩, comp_vals steady_r (small1000 (by omega)) (fun (i : Nat) => .int (100 + (0 + (i : Int)))) (fun _ => rfl) (fun j H' hj s2 Q' k' => ?_) fun c hcn kd hkd => ?_⟩
    · simp only [tSeq, tAsg, tIfS, tRet, tRetN, tDrop, tNext, tPar, tPar3, gName, gSub, gTup, gCons, gNil, zV, tC, tOp, tUn, tCons, tNil, tLst, tTup, tIf, tAnd, tOr, tNot, tYes, zB, zAnd, zOr, zNot, zChain, tDNewK, yAdd, ySub, yMul, yDiv, yMod, yPow, yNeg, yLt, yLe, yGt, yGe, yEq, yNe, yIs0, yNotIs0, yIx, ySet, yIn, sqAt, isNone, zFld, zSetF, insAt, zMeth, zProp, tCall, tMake, tCB, yLen, yAbs, yMax2, yMin2, yList, yTuple, yDict0, zLM, yApp, isLst, dkAt, keyOf, zGet1, zGet2, zPop1, zPop2, zForR1, zForR2, zForL, zForT, Z.intAt, refAt, zLc, iR1, iR2, iL, iT, wipe, List.getElem?_cons_zero, List.getElem?_cons_succ, List.set_cons_zero, List.set_cons_succ, List.cons_append, List.nil_append, List.append_nil, upd_same, at0, at1, at2, ix0, ix1, ix2, upd_upd, ite_true, ite_false, if_true, if_false, Bool.false_eq_true, decide_true, decide_false, reduceIte, true_and, and_true, Option.isSome_none, Option.isSome_some, Bool.not_false, Bool.not_true]
      exact k'
    · have sH2 : Same H1' (upd H1' c (.lst ((List.range z.toNat).map fun (i : Nat) => V.int (100 + (0 + (i : Int)))))) := Same.new hcn
      have hc : (upd H1' c (.lst ((List.range z.toNat).map fun (i : Nat) => V.int (100 + (0 + (i : Int)))))) c = some (intsO ((List.range z.toNat).map fun (i : Nat) => (100 + (0 + (i : Int)) : Int))) := by
        rw [upd_same]
        unfold intsO
        rw [List.map_map]
        rfl
      have hlen : ((List.range z.toNat).map fun (i : Nat) => (100 + (0 + (i : Int)) : Int)).length = z.toNat := by rw [List.length_map, List.length_range]
      generalize ((List.range z.toNat).map fun (i : Nat) => (100 + (0 + (i : Int)) : Int)) = cs at hc hlen
      generalize upd H1' c (.lst ((List.range z.toNat).map fun (i : Nat) => V.int (100 + (0 + (i : Int))))) = H2 at sH2 hc hkd
      have sHH : Same H H2 := s1'.trans sH2
      have hb2 := sH2 _ _ hb'
      have c0 : H c = none := s1'.free hcn
      have nbc : b ≠ c := ne_of_none hb' hcn
      refine ⟨by show 2 ≤ sizeLine; decide, fun tp htp => ⟨_, _, rfl, SqT.of upd_same, rfl, _, _, rfl, _, _, rfl, rfl, ?_⟩⟩
      have kd0 : H kd = none := sHH.free hkd
      have s3 : Same H2 (upd (upd H2 kd (.dK [])) tp (.tup [.ref c, .ref kd])) := (Same.new hkd).trans (Same.new htp)
      have hk3 : (upd (upd H2 kd (.dK [])) tp (.tup [.ref c, .ref kd])) kd = some (.dK []) := by
        rw [upd_ne (ne_of_none (o := .dK []) upd_same htp), upd_same]
      generalize upd (upd H2 kd (.dK [])) tp (.tup [.ref c, .ref kd]) = H3 at s3 hk3
      have hb3 := s3 _ _ hb2
      have hc3 := s3 _ _ hc
      have sH3 := sHH.trans s3
      have hc3' := hc3
      unfold intsO at hc3'
      unfold t_law_1b_4
      simp only [tSeq, tAsg, tIfS, tRet, tRetN, tDrop, tNext, tPar, tPar3, gName, gSub, gTup, gCons, gNil, zV, tC, tOp, tUn, tCons, tNil, tLst, tTup, tIf, tAnd, tOr, tNot, tYes, zB, zAnd, zOr, zNot, zChain, tDNewK, yAdd, ySub, yMul, yDiv, yMod, yPow, yNeg, yLt, yLe, yGt, yGe, yEq, yNe, yIs0, yNotIs0, yIx, ySet, yIn, sqAt, isNone, zFld, zSetF, insAt, zMeth, zProp, tCall, tMake, tCB, yLen, yAbs, yMax2, yMin2, yList, yTuple, yDict0, zLM, yApp, isLst, dkAt, keyOf, zGet1, zGet2, zPop1, zPop2, zForR1, zForR2, zForL, zForT, Z.intAt, refAt, zLc, iR1, iR2, iL, iT, wipe, List.getElem?_cons_zero, List.getElem?_cons_succ, List.set_cons_zero, List.set_cons_succ, List.cons_append, List.nil_append, List.append_nil, upd_same, at0, at1, at2, ix0, ix1, ix2, upd_upd, ite_true, ite_false, if_true, if_false, Bool.false_eq_true, decide_true, decide_false, reduceIte, true_and, and_true, Option.isSome_none, Option.isSome_some, Bool.not_false, Bool.not_true, hc3']
      intro m hm x dx hx hdx nxd
      have m0 : H m = none := sH3.free hm
      have s4 : Same H3 (upd H3 m (intsO cs)) := Same.new hm
      have hm4 : (upd H3 m (intsO cs)) m = some (intsO cs) := upd_same
      have nbm : b ≠ m := ne_of_none hb3 hm
      have ncm : c ≠ m := ne_of_none hc3 hm
      change (upd H3 m (intsO cs)) x = none at hx
      change (upd H3 m (intsO cs)) dx = none at hdx
      show sp_Lines___init__ K [V.ref x, V.ref c] (upd (upd (upd H3 m (intsO cs)) dx (.own x)) x (.ins (He.ga K "Lines") dx [])) _ _
      generalize upd H3 m (intsO cs) = H4 at s4 hm4 hx hdx
      refine ⟨x, c, dx, rfl, upd_same, fun dd hdd => ⟨rfl, ?_⟩⟩
      have ndx : dd ≠ x := fun e => by rw [e, upd_same] at hdd; cases hdd
      have nddx : dd ≠ dx := fun e => by rw [upd_ne ndx, e, upd_same] at hdd; cases hdd
      have hdd4 : H4 dd = none := by rw [upd_ne ndx, upd_ne nddx] at hdd; exact hdd
      have sH4 := sH3.trans s4
      have s5 : Same H4 (upd (upd (upd (upd H4 dx (.own x)) x (.ins (He.ga K "Lines") dx [])) dd (.dK [])) x (.ins (He.ga K "Lines") dx (fs_Lines (.ref c) (.ref dd)))) := Same.upd (Same.upd (Same.upd (Same.upd (Same.refl H4) hdx) hx) hdd4) hx
      have hx5 : LinesAt K (upd (upd (upd (upd H4 dx (.own x)) x (.ins (He.ga K "Lines") dx [])) dd (.dK [])) x (.ins (He.ga K "Lines") dx (fs_Lines (.ref c) (.ref dd)))) x c dd := ⟨dx, upd_same⟩
      have hd5 : (upd (upd (upd (upd H4 dx (.own x)) x (.ins (He.ga K "Lines") dx [])) dd (.dK [])) x (.ins (He.ga K "Lines") dx (fs_Lines (.ref c) (.ref dd)))) dd = some (.dK []) := by rw [upd_ne ndx, upd_same]
      generalize upd (upd (upd (upd H4 dx (.own x)) x (.ins (He.ga K "Lines") dx [])) dd (.dK [])) x (.ins (He.ga K "Lines") dx (fs_Lines (.ref c) (.ref dd))) = H5 at s5 hx5 hd5
      have hk4 := s4 _ _ hk3
      have C : Core K H H5 b c m x dd kd o' 1 cs cs [] [] :=
        ⟨sH4.trans s5, s5 _ _ (s4 _ _ hb3), ho', s5 _ _ (s4 _ _ hc3), s5 _ _ hm4, hx5, ⟨hd5, fun e he => (nomatch he), List.nodup_nil, List.nodup_nil⟩, ⟨s5 _ _ hk4, fun e he => (nomatch he), List.nodup_nil, List.nodup_nil⟩,
          nbc, nbm, ncm, (ne_of_none hk4 hdd4).symm, fun e he => (nomatch he), fun e he => (nomatch he), fun e he => (nomatch he), ⟨b0, c0, m0, sH4.free hdd4, kd0⟩, fun e he => (nomatch he), fun e he => (nomatch he)⟩
      refine ⟨by show 2 ≤ sizeLine; decide, fun tp2 htp2 => ⟨_, _, rfl, SqT.of upd_same, rfl, _, _, rfl, _, _, rfl, rfl, ?_⟩⟩
      have C6 := C.new (u := .tup [.ref m, .ref x]) htp2
      generalize upd H5 tp2 (.tup [.ref m, .ref x]) = H7 at C6
      -- the turns
      unfold t_law_1b_5
      simp only [tSeq, tAsg, tIfS, tRet, tRetN, tDrop, tNext, tPar, tPar3, gName, gSub, gTup, gCons, gNil, zV, tC, tOp, tUn, tCons, tNil, tLst, tTup, tIf, tAnd, tOr, tNot, tYes, zB, zAnd, zOr, zNot, zChain, tDNewK, yAdd, ySub, yMul, yDiv, yMod, yPow, yNeg, yLt, yLe, yGt, yGe, yEq, yNe, yIs0, yNotIs0, yIx, ySet, yIn, sqAt, isNone, zFld, zSetF, insAt, zMeth, zProp, tCall, tMake, tCB, yLen, yAbs, yMax2, yMin2, yList, yTuple, yDict0, zLM, yApp, isLst, dkAt, keyOf, zGet1, zGet2, zPop1, zPop2, zForR1, zForR2, zForL, zForT, Z.intAt, refAt, zLc, iR1, iR2, iL, iT, wipe, List.getElem?_cons_zero, List.getElem?_cons_succ, List.set_cons_zero, List.set_cons_succ, List.cons_append, List.nil_append, List.append_nil, upd_same, at0, at1, at2, ix0, ix1, ix2, upd_upd, ite_true, ite_false, if_true, if_false, Bool.false_eq_true, decide_true, decide_false, reduceIte, true_and, and_true, Option.isSome_none, Option.isSome_some, Bool.not_false, Bool.not_true]
      refine ⟨⟨by decide, by decide⟩, loopR (InInv K H a b c kd m x dd (0 + (i : Int)) z) ⟨o', _, cs, [], [], _, _, _, _, _, _, _, _, rfl, C6, rfl, by omega, by rw [hlen]; omega, Nat.le_refl _⟩ ?_ ?_⟩
      · intro j σ' H8 hj I
        exact turn7 T (by omega) hj (by omega) I (fun σ2 H9 I2 => I2)
      · rintro σ' H8 ⟨o8, n8, cs8, E8, G8, w4, w5, w6, w11, w12, w13, w14, w15, rfl, C8, q8, _, l8, e8⟩
        refine last7 T C8 q8 (Nat.le_trans e8 (by decide)) (by omega) l8 fun H9 y5 y6 y11 s9 => ?_
        exact ⟨⟨_, _, _, _, _, _, _, _, _, _, _, _, _, _, _, rfl⟩, s9⟩
  · rintro σ H1 ⟨⟨v1, v2, v3, v4, v5, v6, v7, v8, v9, v10, v11, v12, v13, v14, v15, rfl⟩, s1⟩
    unfold t_law_2
    simp only [tSeq, tAsg, tIfS, tRet, tRetN, tDrop, tNext, tPar, tPar3, gName, gSub, gTup, gCons, gNil, zV, tC, tOp, tUn, tCons, tNil, tLst, tTup, tIf, tAnd, tOr, tNot, tYes, zB, zAnd, zOr, zNot, zChain, tDNewK, yAdd, ySub, yMul, yDiv, yMod, yPow, yNeg, yLt, yLe, yGt, yGe, yEq, yNe, yIs0, yNotIs0, yIx, ySet, yIn, sqAt, isNone, zFld, zSetF, insAt, zMeth, zProp, tCall, tMake, tCB, yLen, yAbs, yMax2, yMin2, yList, yTuple, yDict0, zLM, yApp, isLst, dkAt, keyOf, zGet1, zGet2, zPop1, zPop2, zForR1, zForR2, zForL, zForT, Z.intAt, refAt, zLc, iR1, iR2, iL, iT, wipe, List.getElem?_cons_zero, List.getElem?_cons_succ, List.set_cons_zero, List.set_cons_succ, List.cons_append, List.nil_append, List.append_nil, upd_same, at0, at1, at2, ix0, ix1, ix2, upd_upd, ite_true, ite_false, if_true, if_false, Bool.false_eq_true, decide_true, decide_false, reduceIte, true_and, and_true, Option.isSome_none, Option.isSome_some, Bool.not_false, Bool.not_true]
    exact k _

theorem fnF_Lines___init__ {P : Program} {w : World} {K : PySem.W.Frag} {mg : Str → Option Value} {base : Heap} (T : Top K mg) {fd : FuncData} (F : FunD K "__init__" "Lines.__init__" (defArgs st_Lines___init__) (defBody st_Lines___init__) (defScope st_Lines___init__) [] [] (He.ma K (He.ga K "Lines") "__init__") fd) : FnOk P w K mg base C8.CX0 1 (He.ma K (He.ga K "Lines") "__init__") fd ["self", "words"] (sp_Lines___init__ K) := by
  refine Hk.fn_ok (k := 0) F sc_Lines___init__ (ln_sp_Lines___init__ (K := K)) (t := t_Lines___init__ K) (fun cdv A outer s H E hr => ?_) (rd_Lines___init__ T)
  exact (pss_cons (s_fld (pz 0) (pz 1) rfl) (pss_one (s_fld (pz 0) pe_dnewK rfl)))
theorem fn_Lines___init__ {P : Program} {w : World} {K : PySem.W.Frag} {mg : Str → Option Value} {base : Heap} (T : Top K mg) : ∃ fd, FnOk P w K mg base C8.CX0 1 (He.ma K (He.ga K "Lines") "__init__") fd ["self", "words"] (sp_Lines___init__ K) ∧ PySem.W.keepIn K (.ref (He.ma K (He.ga K "Lines") "__init__")) = true ∧ Binds K fd ["self", "words"] [] := by
  obtain ⟨fd, F⟩ := T.d_Lines___init__
  exact ⟨fd, fnF_Lines___init__ T F, F.kp, F.bindsN (fun _ _ _ _ _ _ us hl => match us, hl with | [_, _], _ => rfl)⟩
theorem mk_Lines {P : Program} {w : World} {K : PySem.W.Frag} {mg : Str → Option Value} {base : Heap} (T : Top K mg) : C8.Mak P w K mg base 1 "Lines" (He.ga K "Lines") (sp_Lines___init__ K) [] := by
  obtain ⟨fd, F, kp, b⟩ := fn_Lines___init__ (P := P) (w := w) (base := base) T
  exact ⟨_, fd, _, [], T.mk_Lines, F, T.m_Lines, b, .nil⟩
theorem fnF_Lines_load {P : Program} {w : World} {K : PySem.W.Frag} {mg : Str → Option Value} {base : Heap} (T : Top K mg) {fd : FuncData} (F : FunD K "load" "Lines.load" (defArgs st_Lines_load) (defBody st_Lines_load) (defScope st_Lines_load) [] [] (He.ma K (He.ga K "Lines") "load") fd) : FnOk P w K mg base C8.CX0 1 (He.ma K (He.ga K "Lines") "load") fd ["self", "line"] (sp_Lines_load K) := by
  refine Hk.fn_ok (k := 0) F sc_Lines_load (ln_sp_Lines_load (K := K)) (t := t_Lines_load K) (fun cdv A outer s H E hr => ?_) (rd_Lines_load T)
  exact (pss_one (ps_if (t_cmp (o_notin (hu_of hr)) (pz 1) (e_fld (pz 0) rfl) (by rfl)) (pss_cons (ps_set (i := 2) sc_Lines_load.nd rfl (Or.inl rfl) (pe_op o_mul (pz 1) (Hk.e_cval (by rfl) T.m_Run T.k_Run_LINE))) (pss_one (ps_asg (pe_lst (pa_cons (e_ix (hu_of hr) (e_fld (pz 0) rfl) (pz 2) (fun _ _ => rfl)) (pa_cons (e_ix (hu_of hr) (e_fld (pz 0) rfl) (pe_op o_add (pz 2) pe_int) (fun _ _ => rfl)) (pa_cons pe_bl pa_nil)))) (pg_sub (e_fld (pz 0) rfl) (pz 1) (set_any (hu_of hr)))))) pss_nil))
theorem fn_Lines_load {P : Program} {w : World} {K : PySem.W.Frag} {mg : Str → Option Value} {base : Heap} (T : Top K mg) : ∃ fd, FnOk P w K mg base C8.CX0 1 (He.ma K (He.ga K "Lines") "load") fd ["self", "line"] (sp_Lines_load K) ∧ PySem.W.keepIn K (.ref (He.ma K (He.ga K "Lines") "load")) = true ∧ Binds K fd ["self", "line"] [] := by
  obtain ⟨fd, F⟩ := T.d_Lines_load
  exact ⟨fd, fnF_Lines_load T F, F.kp, F.bindsN (fun _ _ _ _ _ _ us hl => match us, hl with | [_, _], _ => rfl)⟩
theorem ok_Lines_load {P : Program} {w : World} {K : PySem.W.Frag} {mg : Str → Option Value} {base : Heap} (T : Top K mg) : C8.Met P w K mg base 1 (He.ga K "Lines") "load" (sp_Lines_load K) [] := by
  obtain ⟨fd, F, kp, b⟩ := fn_Lines_load (P := P) (w := w) (base := base) T
  exact ⟨_, fd, _, [], T.cl_Lines, T.me_Lines_load, F, b, .nil⟩
theorem fnF_Lines_read {P : Program} {w : World} {K : PySem.W.Frag} {mg : Str → Option Value} {base : Heap} (T : Top K mg) {fd : FuncData} (F : FunD K "read" "Lines.read" (defArgs st_Lines_read) (defBody st_Lines_read) (defScope st_Lines_read) [] [] (He.ma K (He.ga K "Lines") "read") fd) : FnOk P w K mg base C8.CX0 2 (He.ma K (He.ga K "Lines") "read") fd ["self", "word"] (sp_Lines_read K) := by
  refine Hk.fn_ok (k := 1) F sc_Lines_read (ln_sp_Lines_read (K := K)) (t := t_Lines_read K) (fun cdv A outer s H E hr => ?_) (rd_Lines_read T)
  exact (pss_cons (ps_set (i := 2) sc_Lines_read.nd rfl (Or.inl rfl) (pe_op o_div (pz 1) (Hk.e_cval (by rfl) T.m_Run T.k_Run_LINE))) (pss_cons (ps_expr (e_mt (ok_Lines_load T) hr (by decide) (pz 0) (pa_cons (pz 2) pa_nil))) (pss_one (ps_ret (e_ix (hu_of hr) (e_ix (hu_of hr) (e_fld (pz 0) rfl) (pz 2) (fun _ _ => rfl)) (pe_op o_sub (pz 1) (pe_op o_mul (pz 2) (Hk.e_cval (by rfl) T.m_Run T.k_Run_LINE))) (fun _ _ => rfl))))))
theorem fn_Lines_read {P : Program} {w : World} {K : PySem.W.Frag} {mg : Str → Option Value} {base : Heap} (T : Top K mg) : ∃ fd, FnOk P w K mg base C8.CX0 2 (He.ma K (He.ga K "Lines") "read") fd ["self", "word"] (sp_Lines_read K) ∧ PySem.W.keepIn K (.ref (He.ma K (He.ga K "Lines") "read")) = true ∧ Binds K fd ["self", "word"] [] := by
  obtain ⟨fd, F⟩ := T.d_Lines_read
  exact ⟨fd, fnF_Lines_read T F, F.kp, F.bindsN (fun _ _ _ _ _ _ us hl => match us, hl with | [_, _], _ => rfl)⟩
theorem ok_Lines_read {P : Program} {w : World} {K : PySem.W.Frag} {mg : Str → Option Value} {base : Heap} (T : Top K mg) : C8.Met P w K mg base 2 (He.ga K "Lines") "read" (sp_Lines_read K) [] := by
  obtain ⟨fd, F, kp, b⟩ := fn_Lines_read (P := P) (w := w) (base := base) T
  exact ⟨_, fd, _, [], T.cl_Lines, T.me_Lines_read, F, b, .nil⟩
theorem fnF_Lines_write {P : Program} {w : World} {K : PySem.W.Frag} {mg : Str → Option Value} {base : Heap} (T : Top K mg) {fd : FuncData} (F : FunD K "write" "Lines.write" (defArgs st_Lines_write) (defBody st_Lines_write) (defScope st_Lines_write) [] [] (He.ma K (He.ga K "Lines") "write") fd) : FnOk P w K mg base C8.CX0 2 (He.ma K (He.ga K "Lines") "write") fd ["self", "word", "value"] (sp_Lines_write K) := by
  refine Hk.fn_ok (k := 1) F sc_Lines_write (ln_sp_Lines_write (K := K)) (t := t_Lines_write K) (fun cdv A outer s H E hr => ?_) (rd_Lines_write T)
  exact (pss_cons (ps_set (i := 3) sc_Lines_write.nd rfl (Or.inl rfl) (pe_op o_div (pz 1) (Hk.e_cval (by rfl) T.m_Run T.k_Run_LINE))) (pss_cons (ps_expr (e_mt (ok_Lines_load T) hr (by decide) (pz 0) (pa_cons (pz 3) pa_nil))) (pss_cons (ps_set (i := 4) sc_Lines_write.nd rfl (Or.inl rfl) (e_ix (hu_of hr) (e_fld (pz 0) rfl) (pz 3) (fun _ _ => rfl))) (pss_cons (ps_asg (pz 2) (pg_sub (pz 4) (pe_op o_sub (pz 1) (pe_op o_mul (pz 3) (Hk.e_cval (by rfl) T.m_Run T.k_Run_LINE))) (set_any (hu_of hr)))) (pss_one (ps_asg pe_bl (pg_sub (pz 4) pe_int (set_any (hu_of hr)))))))))
theorem fn_Lines_write {P : Program} {w : World} {K : PySem.W.Frag} {mg : Str → Option Value} {base : Heap} (T : Top K mg) : ∃ fd, FnOk P w K mg base C8.CX0 2 (He.ma K (He.ga K "Lines") "write") fd ["self", "word", "value"] (sp_Lines_write K) ∧ PySem.W.keepIn K (.ref (He.ma K (He.ga K "Lines") "write")) = true ∧ Binds K fd ["self", "word", "value"] [] := by
  obtain ⟨fd, F⟩ := T.d_Lines_write
  exact ⟨fd, fnF_Lines_write T F, F.kp, F.bindsN (fun _ _ _ _ _ _ us hl => match us, hl with | [_, _, _], _ => rfl)⟩
theorem ok_Lines_write {P : Program} {w : World} {K : PySem.W.Frag} {mg : Str → Option Value} {base : Heap} (T : Top K mg) : C8.Met P w K mg base 2 (He.ga K "Lines") "write" (sp_Lines_write K) [] := by
  obtain ⟨fd, F, kp, b⟩ := fn_Lines_write (P := P) (w := w) (base := base) T
  exact ⟨_, fd, _, [], T.cl_Lines, T.me_Lines_write, F, b, .nil⟩
theorem fnF_Lines_clean {P : Program} {w : World} {K : PySem.W.Frag} {mg : Str → Option Value} {base : Heap} (T : Top K mg) {fd : FuncData} (F : FunD K "clean" "Lines.clean" (defArgs st_Lines_clean) (defBody st_Lines_clean) (defScope st_Lines_clean) [] [] (He.ma K (He.ga K "Lines") "clean") fd) : FnOk P w K mg base C8.CX0 1 (He.ma K (He.ga K "Lines") "clean") fd ["self", "line"] (sp_Lines_clean K) := by
  refine Hk.fn_ok (k := 0) F sc_Lines_clean (ln_sp_Lines_clean (K := K)) (t := t_Lines_clean K) (fun cdv A outer s H E hr => ?_) (rd_Lines_clean T)
  exact (pss_one (ps_if (PW.pt (pw_and (t_cmp (o_in (hu_of hr)) (pz 1) (e_fld (pz 0) rfl) (by rfl)) (pw_and1 (t_val (e_ix (hu_of hr) (e_ix (hu_of hr) (e_fld (pz 0) rfl) (pz 1) (fun _ _ => rfl)) pe_int (fun _ _ => rfl)))))) (pss_cons (ps_set (i := 2) sc_Lines_clean.nd rfl (Or.inl rfl) (e_ix (hu_of hr) (e_fld (pz 0) rfl) (pz 1) (fun _ _ => rfl))) (pss_cons (ps_set (i := 3) sc_Lines_clean.nd rfl (Or.inl rfl) (pe_op o_mul (pz 1) (Hk.e_cval (by rfl) T.m_Run T.k_Run_LINE))) (pss_cons (ps_asg (e_ix (hu_of hr) (pz 2) pe_int (fun _ _ => rfl)) (pg_sub (e_fld (pz 0) rfl) (pz 3) (set_any (hu_of hr)))) (pss_cons (ps_asg (e_ix (hu_of hr) (pz 2) pe_int (fun _ _ => rfl)) (pg_sub (e_fld (pz 0) rfl) (pe_op o_add (pz 3) pe_int) (set_any (hu_of hr)))) (pss_one (ps_asg pe_bl (pg_sub (pz 2) pe_int (set_any (hu_of hr))))))))) pss_nil))
theorem fn_Lines_clean {P : Program} {w : World} {K : PySem.W.Frag} {mg : Str → Option Value} {base : Heap} (T : Top K mg) : ∃ fd, FnOk P w K mg base C8.CX0 1 (He.ma K (He.ga K "Lines") "clean") fd ["self", "line"] (sp_Lines_clean K) ∧ PySem.W.keepIn K (.ref (He.ma K (He.ga K "Lines") "clean")) = true ∧ Binds K fd ["self", "line"] [] := by
  obtain ⟨fd, F⟩ := T.d_Lines_clean
  exact ⟨fd, fnF_Lines_clean T F, F.kp, F.bindsN (fun _ _ _ _ _ _ us hl => match us, hl with | [_, _], _ => rfl)⟩
theorem ok_Lines_clean {P : Program} {w : World} {K : PySem.W.Frag} {mg : Str → Option Value} {base : Heap} (T : Top K mg) : C8.Met P w K mg base 1 (He.ga K "Lines") "clean" (sp_Lines_clean K) [] := by
  obtain ⟨fd, F, kp, b⟩ := fn_Lines_clean (P := P) (w := w) (base := base) T
  exact ⟨_, fd, _, [], T.cl_Lines, T.me_Lines_clean, F, b, .nil⟩
theorem fnF_Lines_drop {P : Program} {w : World} {K : PySem.W.Frag} {mg : Str → Option Value} {base : Heap} (T : Top K mg) {fd : FuncData} (F : FunD K "drop" "Lines.drop" (defArgs st_Lines_drop) (defBody st_Lines_drop) (defScope st_Lines_drop) [] [] (He.ma K (He.ga K "Lines") "drop") fd) : FnOk P w K mg base C8.CX0 1 (He.ma K (He.ga K "Lines") "drop") fd ["self", "line"] (sp_Lines_drop K) := by
  refine Hk.fn_ok (k := 0) F sc_Lines_drop (ln_sp_Lines_drop (K := K)) (t := t_Lines_drop K) (fun cdv A outer s H E hr => ?_) (rd_Lines_drop T)
  exact (pss_one (ps_expr (e_pop2 (e_fld (pz 0) rfl) (pz 1) pe_non ⟨rfl, rfl, rfl, rfl⟩)))
theorem fn_Lines_drop {P : Program} {w : World} {K : PySem.W.Frag} {mg : Str → Option Value} {base : Heap} (T : Top K mg) : ∃ fd, FnOk P w K mg base C8.CX0 1 (He.ma K (He.ga K "Lines") "drop") fd ["self", "line"] (sp_Lines_drop K) ∧ PySem.W.keepIn K (.ref (He.ma K (He.ga K "Lines") "drop")) = true ∧ Binds K fd ["self", "line"] [] := by
  obtain ⟨fd, F⟩ := T.d_Lines_drop
  exact ⟨fd, fnF_Lines_drop T F, F.kp, F.bindsN (fun _ _ _ _ _ _ us hl => match us, hl with | [_, _], _ => rfl)⟩
theorem ok_Lines_drop {P : Program} {w : World} {K : PySem.W.Frag} {mg : Str → Option Value} {base : Heap} (T : Top K mg) : C8.Met P w K mg base 1 (He.ga K "Lines") "drop" (sp_Lines_drop K) [] := by
  obtain ⟨fd, F, kp, b⟩ := fn_Lines_drop (P := P) (w := w) (base := base) T
  exact ⟨_, fd, _, [], T.cl_Lines, T.me_Lines_drop, F, b, .nil⟩
theorem fnF_Lines_evict {P : Program} {w : World} {K : PySem.W.Frag} {mg : Str → Option Value} {base : Heap} (T : Top K mg) {fd : FuncData} (F : FunD K "evict" "Lines.evict" (defArgs st_Lines_evict) (defBody st_Lines_evict) (defScope st_Lines_evict) [] [] (He.ma K (He.ga K "Lines") "evict") fd) : FnOk P w K mg base C8.CX0 2 (He.ma K (He.ga K "Lines") "evict") fd ["self", "line"] (sp_Lines_evict K) := by
  refine Hk.fn_ok (k := 1) F sc_Lines_evict (ln_sp_Lines_evict (K := K)) (t := t_Lines_evict K) (fun cdv A outer s H E hr => ?_) (rd_Lines_evict T)
  exact (pss_cons (ps_expr (e_mt (ok_Lines_clean T) hr (by decide) (pz 0) (pa_cons (pz 1) pa_nil))) (pss_one (ps_expr (e_mt (ok_Lines_drop T) hr (by decide) (pz 0) (pa_cons (pz 1) pa_nil)))))
theorem fn_Lines_evict {P : Program} {w : World} {K : PySem.W.Frag} {mg : Str → Option Value} {base : Heap} (T : Top K mg) : ∃ fd, FnOk P w K mg base C8.CX0 2 (He.ma K (He.ga K "Lines") "evict") fd ["self", "line"] (sp_Lines_evict K) ∧ PySem.W.keepIn K (.ref (He.ma K (He.ga K "Lines") "evict")) = true ∧ Binds K fd ["self", "line"] [] := by
  obtain ⟨fd, F⟩ := T.d_Lines_evict
  exact ⟨fd, fnF_Lines_evict T F, F.kp, F.bindsN (fun _ _ _ _ _ _ us hl => match us, hl with | [_, _], _ => rfl)⟩
theorem ok_Lines_evict {P : Program} {w : World} {K : PySem.W.Frag} {mg : Str → Option Value} {base : Heap} (T : Top K mg) : C8.Met P w K mg base 2 (He.ga K "Lines") "evict" (sp_Lines_evict K) [] := by
  obtain ⟨fd, F, kp, b⟩ := fn_Lines_evict (P := P) (w := w) (base := base) T
  exact ⟨_, fd, _, [], T.cl_Lines, T.me_Lines_evict, F, b, .nil⟩
theorem fnF_Lines_held {P : Program} {w : World} {K : PySem.W.Frag} {mg : Str → Option Value} {base : Heap} (T : Top K mg) {fd : FuncData} (F : FunD K "held" "Lines.held" (defArgs st_Lines_held) (defBody st_Lines_held) (defScope st_Lines_held) [] [] (Hk.prG "Lines" "held" K) fd) : FnOk P w K mg base C8.CX0 1 (Hk.prG "Lines" "held" K) fd ["self"] (sp_Lines_held K) := by
  refine Hk.fn_ok (k := 0) F sc_Lines_held (ln_sp_Lines_held (K := K)) (t := t_Lines_held K) (fun cdv A outer s H E hr => ?_) (rd_Lines_held T)
  exact (pss_one (ps_ret (pe_callTy c_tuple (by rfl) T.f_tuple (by decide +kernel) (pa_cons (pe_lc (own := [("line", 1)]) (by rfl) sc_Lines_held.nd (i_l (pe_callB (c_sortedKeys rfl) (by rfl) T.f_sorted (by decide +kernel) (pa_cons (e_fld (pz 0) rfl) pa_nil))) (blkOk_by (own := [("line", 1)]) (N := nm_Lines_held) (sc := defScope st_Lines_held) (by decide +kernel)) (fun _ _ _ _ _ => (pg_name (i := 1) sc_Lines_held.nd rfl (Or.inl rfl))) (fun _ _ _ _ _ => pts_nil) (fun _ _ _ _ _ => (pe_tup (pa_cons (pz 1) (pa_cons (e_ix (hu_of hr) (e_ix (hu_of hr) (e_fld (pz 0) rfl) (pz 1) (fun _ _ => rfl)) pe_int (fun _ _ => rfl)) pa_nil))))) pa_nil))))
theorem fn_Lines_held {P : Program} {w : World} {K : PySem.W.Frag} {mg : Str → Option Value} {base : Heap} (T : Top K mg) : ∃ fd, FnOk P w K mg base C8.CX0 1 (Hk.prG "Lines" "held" K) fd ["self"] (sp_Lines_held K) ∧ PySem.W.keepIn K (.ref (Hk.prG "Lines" "held" K)) = true ∧ Binds K fd ["self"] [] := by
  obtain ⟨fd, F⟩ := T.d_Lines_held
  exact ⟨fd, fnF_Lines_held T F, F.kp, F.bindsN (fun _ _ _ _ _ _ us hl => match us, hl with | [_], _ => rfl)⟩
theorem fnF_L_bag {P : Program} {w : World} {K : PySem.W.Frag} {mg : Str → Option Value} {base : Heap} (T : Top K mg) {fd : FuncData} (F : FunD K "_law_bag" "_law_bag" (defArgs st_L_bag) (defBody st_L_bag) (defScope st_L_bag) [] [] (He.ga K "_law_bag") fd) : FnOk P w K mg base C8.CX0 1 (He.ga K "_law_bag") fd ["_law_script", "_law_at"] (sp_L_bag K) := by
  refine Hk.fn_ok (k := 0) F sc_L_bag (ln_sp_L_bag (K := K)) (t := t_L_bag K) (fun cdv A outer s H E hr => ?_) (rd_L_bag T)
  exact (pss_cons (ps_set (i := 2) sc_L_bag.nd rfl (Or.inl rfl) (pe_ifExp (t_cmp o_lt (pz 1) (pe_callB c_lenS (by rfl) T.f_len (by decide +kernel) (pa_cons (pz 0) pa_nil)) (nomark _)) (pe_ix ix_list (pz 0) (pz 1) (fun _ _ => rfl)) pe_int)) (pss_cons (ps_set (i := 3) sc_L_bag.nd rfl (Or.inl rfl) (pe_ifExp (t_cmp o_ge (pe_callB c_abs (by rfl) T.f_abs (by decide +kernel) (pa_cons (pz 2) pa_nil)) (pe_op o_pow pe_int pe_int) (nomark _)) (pe_callB c_abs (by rfl) T.f_abs (by decide +kernel) (pa_cons (pz 2) pa_nil)) pe_int)) (pss_one (ps_ret (pe_lst (pa_cons (pz 3) (pa_cons (pe_op o_add (pe_op o_add (pe_op o_mul (pe_op o_mod (pz 2) (pe_op o_add (pe_op o_pow pe_int pe_int) pe_int)) pe_int) (pe_op o_mul pe_int (pz 1))) pe_int) (pa_cons pe_int pa_nil))))))))
theorem fn_L_bag {P : Program} {w : World} {K : PySem.W.Frag} {mg : Str → Option Value} {base : Heap} (T : Top K mg) : ∃ fd, FnOk P w K mg base C8.CX0 1 (He.ga K "_law_bag") fd ["_law_script", "_law_at"] (sp_L_bag K) ∧ PySem.W.keepIn K (.ref (He.ga K "_law_bag")) = true ∧ Binds K fd ["_law_script", "_law_at"] [] := by
  obtain ⟨fd, F⟩ := T.d_L_bag
  exact ⟨fd, fnF_L_bag T F, F.kp, F.bindsN (fun _ _ _ _ _ _ us hl => match us, hl with | [_, _], _ => rfl)⟩
theorem ok_L_bag {P : Program} {w : World} {K : PySem.W.Frag} {mg : Str → Option Value} {base : Heap} (T : Top K mg) : C8.Cal P w K mg base 1 "_law_bag" (sp_L_bag K) [] := by
  obtain ⟨fd, F, kp, b⟩ := fn_L_bag (P := P) (w := w) (base := base) T
  exact ⟨_, fd, _, [], F, T.g_L_bag, kp, b, .nil⟩
theorem fnF_L_take {P : Program} {w : World} {K : PySem.W.Frag} {mg : Str → Option Value} {base : Heap} (T : Top K mg) {fd : FuncData} (F : FunD K "_law_take" "_law_take" (defArgs st_L_take) (defBody st_L_take) (defScope st_L_take) [] [] (He.ga K "_law_take") fd) : FnOk P w K mg base C8.CX0 1 (He.ga K "_law_take") fd ["_law_bag_here", "_law_many"] (sp_L_take K) := by
  refine Hk.fn_ok (k := 0) F sc_L_take (ln_sp_L_take (K := K)) (t := t_L_take K) (fun cdv A outer s H E hr => ?_) (rd_L_take T)
  exact (pss_cons (ps_if (t_cmp o_gt (e_ix (hu_of hr) (pz 0) pe_int (fun _ _ => rfl)) pe_int (nomark _)) (pss_cons (ps_set (i := 3) sc_L_take.nd rfl (Or.inl rfl) (pe_op o_mod (e_ix (hu_of hr) (pz 0) pe_int (fun _ _ => rfl)) (pz 1))) (pss_cons (ps_asg (pe_op o_div (e_ix (hu_of hr) (pz 0) pe_int (fun _ _ => rfl)) (pz 1)) (pg_sub (pz 0) pe_int (set_any (hu_of hr)))) (pss_one (ps_ret (pz 3))))) pss_nil) (pss_cons (ps_asg (pe_op o_add (e_ix (hu_of hr) (pz 0) pe_int (fun _ _ => rfl)) pe_int) (pg_sub (pz 0) pe_int (set_any (hu_of hr)))) (pss_cons (ps_set (i := 2) sc_L_take.nd rfl (Or.inl rfl) (pe_op o_mod (pe_op o_pow (pe_op o_add (e_ix (hu_of hr) (pz 0) pe_int (fun _ _ => rfl)) (pe_op o_mul (pe_op o_mul pe_int (e_ix (hu_of hr) (pz 0) pe_int (fun _ _ => rfl))) (e_ix (hu_of hr) (pz 0) pe_int (fun _ _ => rfl)))) pe_int) pe_int)) (pss_one (ps_ret (pe_op o_mod (pe_op o_div (pe_op o_mod (pe_op o_mul (pz 2) (pe_op o_add (pe_op o_div (pz 2) pe_int) (pe_op o_mul pe_int (e_ix (hu_of hr) (pz 0) pe_int (fun _ _ => rfl))))) pe_int) pe_int) (pz 1)))))))
theorem fn_L_take {P : Program} {w : World} {K : PySem.W.Frag} {mg : Str → Option Value} {base : Heap} (T : Top K mg) : ∃ fd, FnOk P w K mg base C8.CX0 1 (He.ga K "_law_take") fd ["_law_bag_here", "_law_many"] (sp_L_take K) ∧ PySem.W.keepIn K (.ref (He.ga K "_law_take")) = true ∧ Binds K fd ["_law_bag_here", "_law_many"] [] := by
  obtain ⟨fd, F⟩ := T.d_L_take
  exact ⟨fd, fnF_L_take T F, F.kp, F.bindsN (fun _ _ _ _ _ _ us hl => match us, hl with | [_, _], _ => rfl)⟩
theorem ok_L_take {P : Program} {w : World} {K : PySem.W.Frag} {mg : Str → Option Value} {base : Heap} (T : Top K mg) : C8.Cal P w K mg base 1 "_law_take" (sp_L_take K) [] := by
  obtain ⟨fd, F, kp, b⟩ := fn_L_take (P := P) (w := w) (base := base) T
  exact ⟨_, fd, _, [], F, T.g_L_take, kp, b, .nil⟩
theorem fnF_L_load {P : Program} {w : World} {K : PySem.W.Frag} {mg : Str → Option Value} {base : Heap} (T : Top K mg) {fd : FuncData} (F : FunD K "_law_load" "_law_load" (defArgs st_L_load) (defBody st_L_load) (defScope st_L_load) [] [] (He.ga K "_law_load") fd) : FnOk P w K mg base C8.CX0 1 (He.ga K "_law_load") fd ["_law_kept", "_law_cells", "_law_line"] (sp_L_load K) := by
  refine Hk.fn_ok (k := 0) F sc_L_load (ln_sp_L_load (K := K)) (t := t_L_load K) (fun cdv A outer s H E hr => ?_) (rd_L_load T)
  exact (pss_cons (ps_if (t_cmp (o_notin (hu_of hr)) (pz 2) (pz 0) (by rfl)) (pss_one (ps_asg (pe_lst (pa_cons (e_ix (hu_of hr) (pz 1) (pe_op o_mul pe_int (pz 2)) (fun _ _ => rfl)) (pa_cons (e_ix (hu_of hr) (pz 1) (pe_op o_add (pe_op o_mul pe_int (pz 2)) pe_int) (fun _ _ => rfl)) (pa_cons pe_bl pa_nil)))) (pg_sub (pz 0) (pz 2) (set_any (hu_of hr))))) pss_nil) (pss_one (ps_ret (e_ix (hu_of hr) (pz 0) (pz 2) (fun _ _ => rfl)))))
theorem fn_L_load {P : Program} {w : World} {K : PySem.W.Frag} {mg : Str → Option Value} {base : Heap} (T : Top K mg) : ∃ fd, FnOk P w K mg base C8.CX0 1 (He.ga K "_law_load") fd ["_law_kept", "_law_cells", "_law_line"] (sp_L_load K) ∧ PySem.W.keepIn K (.ref (He.ga K "_law_load")) = true ∧ Binds K fd ["_law_kept", "_law_cells", "_law_line"] [] := by
  obtain ⟨fd, F⟩ := T.d_L_load
  exact ⟨fd, fnF_L_load T F, F.kp, F.bindsN (fun _ _ _ _ _ _ us hl => match us, hl with | [_, _, _], _ => rfl)⟩
theorem ok_L_load {P : Program} {w : World} {K : PySem.W.Frag} {mg : Str → Option Value} {base : Heap} (T : Top K mg) : C8.Cal P w K mg base 1 "_law_load" (sp_L_load K) [] := by
  obtain ⟨fd, F, kp, b⟩ := fn_L_load (P := P) (w := w) (base := base) T
  exact ⟨_, fd, _, [], F, T.g_L_load, kp, b, .nil⟩
theorem fnF_L_clean {P : Program} {w : World} {K : PySem.W.Frag} {mg : Str → Option Value} {base : Heap} (T : Top K mg) {fd : FuncData} (F : FunD K "_law_clean" "_law_clean" (defArgs st_L_clean) (defBody st_L_clean) (defScope st_L_clean) [] [] (He.ga K "_law_clean") fd) : FnOk P w K mg base C8.CX0 1 (He.ga K "_law_clean") fd ["_law_kept", "_law_cells", "_law_line"] (sp_L_clean K) := by
  refine Hk.fn_ok (k := 0) F sc_L_clean (ln_sp_L_clean (K := K)) (t := t_L_clean K) (fun cdv A outer s H E hr => ?_) (rd_L_clean T)
  exact (pss_one (ps_if (PW.pt (pw_and (t_cmp (o_in (hu_of hr)) (pz 2) (pz 0) (by rfl)) (pw_and1 (t_val (e_ix (hu_of hr) (e_ix (hu_of hr) (pz 0) (pz 2) (fun _ _ => rfl)) pe_int (fun _ _ => rfl)))))) (pss_cons (ps_asg (e_ix (hu_of hr) (e_ix (hu_of hr) (pz 0) (pz 2) (fun _ _ => rfl)) pe_int (fun _ _ => rfl)) (pg_sub (pz 1) (pe_op o_mul pe_int (pz 2)) (set_any (hu_of hr)))) (pss_cons (ps_asg (e_ix (hu_of hr) (e_ix (hu_of hr) (pz 0) (pz 2) (fun _ _ => rfl)) pe_int (fun _ _ => rfl)) (pg_sub (pz 1) (pe_op o_add (pe_op o_mul pe_int (pz 2)) pe_int) (set_any (hu_of hr)))) (pss_one (ps_asg (pe_lst (pa_cons (e_ix (hu_of hr) (pz 1) (pe_op o_mul pe_int (pz 2)) (fun _ _ => rfl)) (pa_cons (e_ix (hu_of hr) (pz 1) (pe_op o_add (pe_op o_mul pe_int (pz 2)) pe_int) (fun _ _ => rfl)) (pa_cons pe_bl pa_nil)))) (pg_sub (pz 0) (pz 2) (set_any (hu_of hr))))))) pss_nil))
theorem fn_L_clean {P : Program} {w : World} {K : PySem.W.Frag} {mg : Str → Option Value} {base : Heap} (T : Top K mg) : ∃ fd, FnOk P w K mg base C8.CX0 1 (He.ga K "_law_clean") fd ["_law_kept", "_law_cells", "_law_line"] (sp_L_clean K) ∧ PySem.W.keepIn K (.ref (He.ga K "_law_clean")) = true ∧ Binds K fd ["_law_kept", "_law_cells", "_law_line"] [] := by
  obtain ⟨fd, F⟩ := T.d_L_clean
  exact ⟨fd, fnF_L_clean T F, F.kp, F.bindsN (fun _ _ _ _ _ _ us hl => match us, hl with | [_, _, _], _ => rfl)⟩
theorem ok_L_clean {P : Program} {w : World} {K : PySem.W.Frag} {mg : Str → Option Value} {base : Heap} (T : Top K mg) : C8.Cal P w K mg base 1 "_law_clean" (sp_L_clean K) [] := by
  obtain ⟨fd, F, kp, b⟩ := fn_L_clean (P := P) (w := w) (base := base) T
  exact ⟨_, fd, _, [], F, T.g_L_clean, kp, b, .nil⟩
theorem fnF_L_done {P : Program} {w : World} {K : PySem.W.Frag} {mg : Str → Option Value} {base : Heap} (T : Top K mg) {fd : FuncData} (F : FunD K "_law_done" "_law_done" (defArgs st_L_done) (defBody st_L_done) (defScope st_L_done) [] [] (He.ga K "_law_done") fd) : FnOk P w K mg base C8.CX0 3 (He.ga K "_law_done") fd ["_law_cache", "_law_kept", "_law_mirror", "_law_way", "_law_line"] (sp_L_done K) := by
  refine Hk.fn_ok (k := 2) F sc_L_done (ln_sp_L_done (K := K)) (t := t_L_done K) (fun cdv A outer s H E hr => ?_) (rd_L_done T)
  exact (pss_cons (ps_if (t_cmp (o_eq hr.units) (pz 3) pe_int (nomark _)) (pss_cons (ps_expr (C8.pe_c (ok_L_clean T) hr (by decide) (by rfl) (pa_cons (pz 1) (pa_cons (pz 2) (pa_cons (pz 4) pa_nil))))) (pss_one (ps_ret (e_mt (ok_Lines_clean T) hr (by decide) (pz 0) (pa_cons (pz 4) pa_nil))))) pss_nil) (pss_cons (ps_if (t_cmp (o_eq hr.units) (pz 3) pe_int (nomark _)) (pss_cons (ps_expr (e_pop2 (pz 1) (pz 4) pe_non ⟨rfl, rfl, rfl, rfl⟩)) (pss_one (ps_ret (e_mt (ok_Lines_drop T) hr (by decide) (pz 0) (pa_cons (pz 4) pa_nil))))) pss_nil) (pss_cons (ps_expr (C8.pe_c (ok_L_clean T) hr (by decide) (by rfl) (pa_cons (pz 1) (pa_cons (pz 2) (pa_cons (pz 4) pa_nil))))) (pss_cons (ps_expr (e_pop2 (pz 1) (pz 4) pe_non ⟨rfl, rfl, rfl, rfl⟩)) (pss_one (ps_ret (e_mt (ok_Lines_evict T) hr (by decide) (pz 0) (pa_cons (pz 4) pa_nil))))))))
theorem fn_L_done {P : Program} {w : World} {K : PySem.W.Frag} {mg : Str → Option Value} {base : Heap} (T : Top K mg) : ∃ fd, FnOk P w K mg base C8.CX0 3 (He.ga K "_law_done") fd ["_law_cache", "_law_kept", "_law_mirror", "_law_way", "_law_line"] (sp_L_done K) ∧ PySem.W.keepIn K (.ref (He.ga K "_law_done")) = true ∧ Binds K fd ["_law_cache", "_law_kept", "_law_mirror", "_law_way", "_law_line"] [] := by
  obtain ⟨fd, F⟩ := T.d_L_done
  exact ⟨fd, fnF_L_done T F, F.kp, F.bindsN (fun _ _ _ _ _ _ us hl => match us, hl with | [_, _, _, _, _], _ => rfl)⟩
theorem ok_L_done {P : Program} {w : World} {K : PySem.W.Frag} {mg : Str → Option Value} {base : Heap} (T : Top K mg) : C8.Cal P w K mg base 3 "_law_done" (sp_L_done K) [] := by
  obtain ⟨fd, F, kp, b⟩ := fn_L_done (P := P) (w := w) (base := base) T
  exact ⟨_, fd, _, [], F, T.g_L_done, kp, b, .nil⟩
theorem fnF_law {P : Program} {w : World} {K : PySem.W.Frag} {mg : Str → Option Value} {base : Heap} (T : Top K mg) {fd : FuncData} (F : FunD K "law" "law" (defArgs st_law) (defBody st_law) (defScope st_law) [] [] (He.ga K "law") fd) : FnOk P w K mg base C8.CX0 4 (He.ga K "law") fd ["_law_script"] (sp_law K) := by
  refine Hk.fn_ok (k := 3) F sc_law (ln_sp_law (K := K)) (t := t_law K) (fun cdv A outer s H E hr => ?_) (rd_law T)
  exact (pss_cons (s_forR1 PassesOwn.never rfl (by rfl) T.f_range (pe_callB (c_max2 rfl) (by rfl) T.f_max (by decide +kernel) (pa_cons pe_int (pa_cons (pe_callB (c_min2 rfl) (by rfl) T.f_min (by decide +kernel) (pa_cons pe_int (pa_cons (pe_callB c_lenS (by rfl) T.f_len (by decide +kernel) (pa_cons (pz 0) pa_nil)) pa_nil))) pa_nil))) (pg_name (i := 1) sc_law.nd rfl (Or.inl rfl)) (pss_cons (ps_set (i := 2) sc_law.nd rfl (Or.inl rfl) (C8.pe_c (ok_L_bag T) hr (by decide) (by rfl) (pa_cons (pz 0) (pa_cons (pz 1) pa_nil)))) (pss_cons (ps_set (i := 3) sc_law.nd rfl (Or.inl rfl) (pe_op o_mul pe_int (pe_op o_add pe_int (C8.pe_c (ok_L_take T) hr (by decide) (by rfl) (pa_cons (pz 2) (pa_cons pe_int pa_nil)))))) (pss_cons (ps_asg (pe_tup (pa_cons (pe_lc (own := [("_law_word", 11)]) (by rfl) sc_law.nd (i_r1 (by rfl) T.f_range (pz 3)) (blkOk_by (own := [("_law_word", 11)]) (N := nm_law) (sc := defScope st_law) (by decide +kernel)) (fun _ _ _ _ _ => (pg_name (i := 11) sc_law.nd rfl (Or.inl rfl))) (fun _ _ _ _ _ => pts_nil) (fun _ _ _ _ _ => (pe_op o_add pe_int (pz 11)))) (pa_cons (pe_callTy0 c_dict0 (by rfl) T.f_dict (by decide +kernel)) pa_nil))) (pg_tup rfl (pgs_cons (pg_name (i := 7) sc_law.nd rfl (Or.inl rfl)) (pgs_cons (pg_name (i := 8) sc_law.nd rfl (Or.inr rfl)) pgs_nil)))) (pss_cons (ps_asg (pe_tup (pa_cons (pe_callTy c_list (by rfl) T.f_list (by decide +kernel) (pa_cons (pz 7) pa_nil)) (pa_cons (C8.pe_mk (mk_Lines T) hr (by decide) (by rfl) (pa_cons (pz 7) pa_nil)) pa_nil))) (pg_tup rfl (pgs_cons (pg_name (i := 9) sc_law.nd rfl (Or.inr rfl)) (pgs_cons (pg_name (i := 10) sc_law.nd rfl (Or.inr rfl)) pgs_nil)))) (pss_cons (s_forR1 PassesOwn.never rfl (by rfl) T.f_range pe_int (pg_name (i := 4) sc_law.nd rfl (Or.inl rfl)) (pss_cons (ps_par3 (i := 11) (j := 12) (l := 13) (by rfl) sc_law.nd rfl rfl rfl (by decide) (by decide) (by decide) rfl rfl rfl (pa_cons (C8.pe_c (ok_L_take T) hr (by decide) (by rfl) (pa_cons (pz 2) (pa_cons (pz 3) pa_nil))) (pa_cons (C8.pe_c (ok_L_take T) hr (by decide) (by rfl) (pa_cons (pz 2) (pa_cons pe_int pa_nil))) (pa_cons pe_non pa_nil))) (by rfl)) (pss_cons (ps_if (t_cmp o_lt (pz 12) pe_int (nomark _)) (pss_one (ps_set (i := 13) sc_law.nd rfl (Or.inl rfl) (C8.pe_c (ok_L_done T) hr (by decide) (by rfl) (pa_cons (pz 10) (pa_cons (pz 8) (pa_cons (pz 9) (pa_cons (pz 12) (pa_cons (pe_op o_div (pz 11) pe_int) pa_nil)))))))) (pss_one (ps_if (t_cmp o_lt (pz 12) pe_int (nomark _)) (pss_cons (ps_set (i := 14) sc_law.nd rfl (Or.inl rfl) (C8.pe_c (ok_L_load T) hr (by decide) (by rfl) (pa_cons (pz 8) (pa_cons (pz 9) (pa_cons (pe_op o_div (pz 11) pe_int) pa_nil))))) (pss_cons (ps_expr (e_mt (ok_Lines_write T) hr (by decide) (pz 10) (pa_cons (pz 11) (pa_cons (pe_op o_add pe_int (pz 4)) pa_nil)))) (pss_cons (ps_asg (pe_op o_add pe_int (pz 4)) (pg_sub (pz 14) (pe_op o_mod (pz 11) pe_int) (set_any (hu_of hr)))) (pss_one (ps_asg pe_bl (pg_sub (pz 14) pe_int (set_any (hu_of hr)))))))) (pss_one (ps_if (t_cmp (o_eq hr.units) (pz 12) pe_int (nomark _)) (pss_cons (ps_asg (pe_op o_add pe_int (pz 4)) (pg_sub (pz 7) (pz 11) (set_any (hu_of hr)))) (pss_one (ps_asg (pe_op o_add pe_int (pz 4)) (pg_sub (pz 9) (pz 11) (set_any (hu_of hr)))))) (pss_cons (ps_set (i := 14) sc_law.nd rfl (Or.inl rfl) (C8.pe_c (ok_L_load T) hr (by decide) (by rfl) (pa_cons (pz 8) (pa_cons (pz 9) (pa_cons (pe_op o_div (pz 11) pe_int) pa_nil))))) (pss_one (ps_if (t_cmp (o_ne hr.units) (e_mt (ok_Lines_read T) hr (by decide) (pz 10) (pa_cons (pz 11) pa_nil)) (e_ix (hu_of hr) (pz 14) (pe_op o_mod (pz 11) pe_int) (fun _ _ => rfl)) (nomark _)) (pss_one (ps_ret pe_bl)) pss_nil)))))))) (pss_cons (ps_if (PW.pt (pw_or (t_cmp o_isnot0 (pz 13) pe_non (nomark _)) (pw_or1 (t_cmp (o_ne hr.units) (pz 7) (pz 9) (nomark _))))) (pss_one (ps_ret pe_bl)) pss_nil) (pss_one (ps_if (t_cmp (o_ne hr.units) (e_propC (pz 10) T.cl_Lines T.pr_Lines_held (fn_Lines_held T) hr (by decide)) (pe_callTy c_tuple (by rfl) T.f_tuple (by decide +kernel) (pa_cons (pe_lc (own := [("_law_line", 15)]) (by rfl) sc_law.nd (i_l (pe_callB (c_sortedKeys rfl) (by rfl) T.f_sorted (by decide +kernel) (pa_cons (pz 8) pa_nil))) (blkOk_by (own := [("_law_line", 15)]) (N := nm_law) (sc := defScope st_law) (by decide +kernel)) (fun _ _ _ _ _ => (pg_name (i := 15) sc_law.nd rfl (Or.inl rfl))) (fun _ _ _ _ _ => pts_nil) (fun _ _ _ _ _ => (pe_tup (pa_cons (pz 15) (pa_cons (e_ix (hu_of hr) (e_ix (hu_of hr) (pz 8) (pz 15) (fun _ _ => rfl)) pe_int (fun _ _ => rfl)) pa_nil))))) pa_nil)) (nomark _)) (pss_one (ps_ret pe_bl)) pss_nil)))))) (pss_cons (ps_set (i := 5) sc_law.nd rfl (Or.inr rfl) (pe_lc (own := [("_law_word", 11)]) (by rfl) sc_law.nd (i_r1 (by rfl) T.f_range (pz 3)) (blkOk_by (own := [("_law_word", 11)]) (N := nm_law) (sc := defScope st_law) (by decide +kernel)) (fun _ _ _ _ _ => (pg_name (i := 11) sc_law.nd rfl (Or.inl rfl))) (fun _ _ _ _ _ => pts_nil) (fun _ _ _ _ _ => (C8.pe_c (ok_L_load T) hr (by decide) (by rfl) (pa_cons (pz 8) (pa_cons (pz 9) (pa_cons (pe_op o_div (pz 11) pe_int) pa_nil))))))) (pss_cons (ps_setLc (i := 6) (own := [("_law_word", 11)]) (by rfl) sc_law.nd rfl rfl (sw_true rfl rfl rfl (by decide +kernel)) (i_r1 (by rfl) T.f_range (pz 3)) (blkOk_by (own := [("_law_word", 11)]) (N := nm_law) (sc := defScope st_law) (by decide +kernel)) (fun _ _ _ _ _ => (pg_name (i := 11) sc_law.nd rfl (Or.inl rfl))) (fun _ _ _ _ _ => pts_nil) (fun _ _ _ _ _ => (e_ix (hu_of hr) (e_ix (hu_of hr) (pz 5) (pz 11) (fun _ _ => rfl)) (pe_op o_mod (pz 11) pe_int) (fun _ _ => rfl)))) (pss_one (ps_if (PW.pt (pw_or (t_cmp (o_ne hr.units) (pe_lc (own := [("_law_word", 11)]) (by rfl) sc_law.nd (i_r1 (by rfl) T.f_range (pz 3)) (blkOk_by (own := [("_law_word", 11)]) (N := nm_law) (sc := defScope st_law) (by decide +kernel)) (fun _ _ _ _ _ => (pg_name (i := 11) sc_law.nd rfl (Or.inl rfl))) (fun _ _ _ _ _ => pts_nil) (fun _ _ _ _ _ => (e_mt (ok_Lines_read T) hr (by decide) (pz 10) (pa_cons (pz 11) pa_nil)))) (pz 6) (nomark _)) (pw_or1 (t_cmp (o_ne hr.units) (pz 7) (pz 9) (nomark _))))) (pss_one (ps_ret pe_bl)) pss_nil)))))))))) (pss_one (ps_ret pe_bl)))
theorem fn_law {P : Program} {w : World} {K : PySem.W.Frag} {mg : Str → Option Value} {base : Heap} (T : Top K mg) : ∃ fd, FnOk P w K mg base C8.CX0 4 (He.ga K "law") fd ["_law_script"] (sp_law K) ∧ PySem.W.keepIn K (.ref (He.ga K "law")) = true ∧ Binds K fd ["_law_script"] [] := by
  obtain ⟨fd, F⟩ := T.d_law
  exact ⟨fd, fnF_law T F, F.kp, F.bindsN (fun _ _ _ _ _ _ us hl => match us, hl with | [_], _ => rfl)⟩
theorem ok_law {P : Program} {w : World} {K : PySem.W.Frag} {mg : Str → Option Value} {base : Heap} (T : Top K mg) : C8.Cal P w K mg base 4 "law" (sp_law K) [] := by
  obtain ⟨fd, F, kp, b⟩ := fn_law (P := P) (w := w) (base := base) T
  exact ⟨_, fd, _, [], F, T.g_law, kp, b, .nil⟩
set_option maxHeartbeats 0
/-! ### the head: facts by names, the run -/
def fa : List Hk.Fact := [
  .of (.glo "law"),
  .of (.glo "_law_bag"),
  .of (.glo "_law_take"),
  .of (.glo "_law_load"),
  .of (.glo "_law_clean"),
  .of (.glo "_law_done"),
  .of (.free "len"),
  .of (.free "abs"),
  .of (.free "max"),
  .of (.free "min"),
  .of (.free "range"),
  .of (.free "list"),
  .of (.free "tuple"),
  .of (.free "dict"),
  .of (.free "sorted"),
  .of (.glo "Run"),
  .of (.glo "Lines"),
  .of (.cls "Lines"),
  .of (.noat "Lines" "cells"),
  .of (.noat "Lines" "rows"),
  .of (.mkr "Lines"),
  .of (.meth "Lines" "load"),
  .of (.meth "Lines" "read"),
  .of (.meth "Lines" "write"),
  .of (.meth "Lines" "clean"),
  .of (.meth "Lines" "drop"),
  .of (.meth "Lines" "evict"),
  Hk.propB "Lines" "held",
  Hk.cvalB "Run" "LINE" (.int 2)]
def fn : List Hk.DP := [
  ⟨fun K => (He.ma K (He.ga K "Lines") "__init__"), "__init__", "Lines.__init__", defArgs st_Lines___init__, defBody st_Lines___init__, defScope st_Lines___init__, [], []⟩,
  ⟨fun K => (He.ma K (He.ga K "Lines") "load"), "load", "Lines.load", defArgs st_Lines_load, defBody st_Lines_load, defScope st_Lines_load, [], []⟩,
  ⟨fun K => (He.ma K (He.ga K "Lines") "read"), "read", "Lines.read", defArgs st_Lines_read, defBody st_Lines_read, defScope st_Lines_read, [], []⟩,
  ⟨fun K => (He.ma K (He.ga K "Lines") "write"), "write", "Lines.write", defArgs st_Lines_write, defBody st_Lines_write, defScope st_Lines_write, [], []⟩,
  ⟨fun K => (He.ma K (He.ga K "Lines") "clean"), "clean", "Lines.clean", defArgs st_Lines_clean, defBody st_Lines_clean, defScope st_Lines_clean, [], []⟩,
  ⟨fun K => (He.ma K (He.ga K "Lines") "drop"), "drop", "Lines.drop", defArgs st_Lines_drop, defBody st_Lines_drop, defScope st_Lines_drop, [], []⟩,
  ⟨fun K => (He.ma K (He.ga K "Lines") "evict"), "evict", "Lines.evict", defArgs st_Lines_evict, defBody st_Lines_evict, defScope st_Lines_evict, [], []⟩,
  ⟨fun K => (Hk.prG "Lines" "held" K), "held", "Lines.held", defArgs st_Lines_held, defBody st_Lines_held, defScope st_Lines_held, [], []⟩,
  ⟨fun K => (He.ga K "_law_bag"), "_law_bag", "_law_bag", defArgs st_L_bag, defBody st_L_bag, defScope st_L_bag, [], []⟩,
  ⟨fun K => (He.ga K "_law_take"), "_law_take", "_law_take", defArgs st_L_take, defBody st_L_take, defScope st_L_take, [], []⟩,
  ⟨fun K => (He.ga K "_law_load"), "_law_load", "_law_load", defArgs st_L_load, defBody st_L_load, defScope st_L_load, [], []⟩,
  ⟨fun K => (He.ga K "_law_clean"), "_law_clean", "_law_clean", defArgs st_L_clean, defBody st_L_clean, defScope st_L_clean, [], []⟩,
  ⟨fun K => (He.ga K "_law_done"), "_law_done", "_law_done", defArgs st_L_done, defBody st_L_done, defScope st_L_done, [], []⟩,
  ⟨fun K => (He.ga K "law"), "law", "law", defArgs st_law, defBody st_law, defScope st_law, [], []⟩]
def names : List Str := (["_wall", "WindowError", "BadRun", "MOST", "is_integer", "is_from_to", "Run", "Lines", "_law_bag", "_law_take", "_law_load", "_law_clean", "_law_done"] : List Str)
abbrev R : PySem.W.OpenRow := PySem.W.OpenLaw.row PySem.Challenge.rw_devicewindows_k07_lines_cleaned_and_drop
abbrev hk : PySem.W.Hook := Hk.hook 7 fa fn
def ob (s : PySem.W.SharedT) : Hk.Al := Hk.obsG 7 fa fn (HandSHeadRun.getT s)
theorem ob_eq (s : PySem.W.SharedT) : ob s = hk.obs s.abs := Hk.obsG_eq (HandSHeadRun.getT_eq s)
theorem run (w : World) : HandSHeadRun.RunEq R (PySem.W.view R.prog [17]) hk ob 6000 names w := by
  intro os
  kernel_rfl
theorem top_of {K : PySem.W.Frag} {h : Heap} {mg : Str → Option Value} (X : K.In h) (G : h.Ns mainGlobals mg) (c : Hk.Says fa fn K) : Top K mg :=
  ⟨He.glo_ok X G (c.fact 0), He.glo_ok X G (c.fact 1), He.glo_ok X G (c.fact 2), He.glo_ok X G (c.fact 3), He.glo_ok X G (c.fact 4), He.glo_ok X G (c.fact 5), He.free_ok X G (c.fact 6), He.free_ok X G (c.fact 7), He.free_ok X G (c.fact 8), He.free_ok X G (c.fact 9), He.free_ok X G (c.fact 10), He.free_ok X G (c.fact 11), He.free_ok X G (c.fact 12), He.free_ok X G (c.fact 13), He.free_ok X G (c.fact 14), He.glo_ok X G (c.fact 15), He.glo_ok X G (c.fact 16), He.cls_ok (c.fact 17), He.noat_ok (c.fact 18), He.noat_ok (c.fact 19), He.mkr_ok (c.fact 20), He.meth_ok (c.fact 21), He.meth_ok (c.fact 22), He.meth_ok (c.fact 23), He.meth_ok (c.fact 24), He.meth_ok (c.fact 25), He.meth_ok (c.fact 26), Hk.propB_ok (c.fact 27), Hk.cvalB_ok (c.fact 28), c.def_ 0, c.def_ 1, c.def_ 2, c.def_ 3, c.def_ 4, c.def_ 5, c.def_ 6, c.def_ 7, c.def_ 8, c.def_ 9, c.def_ 10, c.def_ 11, c.def_ 12, c.def_ 13⟩

end K07
open PySem PySem.W PySem.Calls PyProof.Rows
set_option maxHeartbeats 0
theorem PySem.Challenge.cw_devicewindows_k07_lines_cleaned_and_drop_holds : PySem.Challenge.rw_devicewindows_k07_lines_cleaned_and_drop.Holds := by
  w_on; o_law
  refine HandSHeadRun.head_any (r := OpenLaw.row PySem.Challenge.rw_devicewindows_k07_lines_cleaned_and_drop) (q := view (OpenLaw.row PySem.Challenge.rw_devicewindows_k07_lines_cleaned_and_drop).prog [17]) (H := K07.hk) (ob := K07.ob) (M := 6000) (loose := K07.names) (d := HandSHeadRun.topDef (OpenLaw.row PySem.Challenge.rw_devicewindows_k07_lines_cleaned_and_drop).prog 17) (kwd := []) K07.ob_eq
    (by kernel_rfl) (fun s => by kernel_rfl) K07.run (by kernel_rfl) (by kernel_rfl) (by kernel_rfl) (by rfl) (by first | assumption | decide +kernel) (by decide +kernel) ⟨rfl, rfl, rfl, rfl, rfl, by decide +kernel⟩ ?hw ?hc
  case hw => w_witness2
  case hc =>
    refine L2.walk_ofE (l := PySem.Challenge.rw_devicewindows_k07_lines_cleaned_and_drop) (n := 63) (k := 4) (x := "_law_script") (CX := C8.CX0) rfl (by decide) (by kernel_rfl) ⟨rfl, by decide, by decide⟩ ?F (fun _ _ _ _ z => z)
    intro w mg fa h Y G hmg0
    obtain ⟨K, KX, c⟩ := Y
    have hmg : mg ("law" : PySem.Str) = some (.ref fa) := by
      have e : (HandSHeadRun.topDef (OpenLaw.row PySem.Challenge.rw_devicewindows_k07_lines_cleaned_and_drop).prog 17).name = ("law" : PySem.Str) := by kernel_rfl
      rw [← e]
      exact hmg0
    have T := K07.top_of KX G c
    have ea := hmg.symm.trans T.g_law
    cases ea
    obtain ⟨fd, FD⟩ := T.d_law
    have b := L2.FunD.bindsA (ps := ["_law_script"]) FD fun _ _ _ _ _ _ us hl => match us, hl with | [_], _ => rfl
    refine ⟨K, fd, K07.sp_law K, KX, fun s v => b s [v] rfl, fun H a ns hl ho hS => ⟨a, ns, rfl, hS, hl, ho, fun _ => rfl⟩, fun base _ _ => ?_⟩
    exact K07.fnF_law (P := (PySem.Challenge.rw_devicewindows_k07_lines_cleaned_and_drop).prog) (w := w) (base := base) T FD
