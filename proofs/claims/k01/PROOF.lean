import PyProof.Rows.All
import Wide.All
import OpenK.AllK
import Wide.FinOn
import HandS.Base
import HandS.Call
import HandS.List
import HandS.Comp
import HandS.Ends
import HandS.Dict
import HandS.Iter
import HandS.Text
import HandS.Words
import HandS.WordsList
import HandS.More
import HandS.Codes
import HandS.Defaults
import HandS.Property
import HandS.WordsDict
import HandS.ClsMeth
import HandS.Style
import HandS.HeadHook1
import HandS.HeadHook2
import HandS.HeadEnd
import HandS.Head2
import KE.KStateDown
import HandS.IsInst
import HandS.Exc
import HandS.ExcOwn
import HandS.ExcIs
import HandS.MakeKw
import HandS.Lambda
import HandS.EndTab
import HandS.WordsExc
import HandS.HeadWalk
import HandS.HeadHook4
import HandS.HeadNt
import PySem.Challenge.RW_devicewindows_k01_runs_made_and_refused
set_option Elab.async false
set_option linter.all false
set_option maxRecDepth 100000
set_option maxHeartbeats 4000000
namespace Z
open PySem PySem.Spec PyProof.Rows L2

/-! ### weaker readings -/
section
variable {X : Cx} {e : Expr}
theorem pe_imp {t t' : TE} (h : PE X e t) (k : ∀ σ H Q, t' σ H Q → t σ H Q) : PE X e t' := ⟨fun pins s σ H Q I q => h.run pins s σ H Q I (k σ H Q q)⟩
theorem pt_imp {t t' : TT} (h : PT X e t) (k : ∀ σ H Q, t' σ H Q → t σ H Q) : PT X e t' := ⟨fun pins s σ H Q I q => h.run pins s σ H Q I (k σ H Q q)⟩
theorem ps_imp {st : Stmt} {t t' : TS} (h : PS X st t) (k : ∀ D σ H, t' D σ H → t D σ H) : PS X st t' := ⟨fun pins s σ H D I q => h.run pins s σ H D I (k D σ H q)⟩
theorem or_imp {f : Value → Value → Sem Value} {r r' : R2} (h : OpR X f r) (k : ∀ x y H Q, r' x y H Q → r x y H Q) : OpR X f r' := fun pins s σ H x y v u Q I rx ry q => h pins s σ H x y v u Q I rx ry (k x y H Q q)
theorem or_or {f : Value → Value → Sem Value} {r r' : R2} (h : OpR X f r) (h' : OpR X f r') : OpR X f (fun x y H Q => r x y H Q ∨ r' x y H Q) := fun pins s σ H x y v u Q I rx ry q => q.elim (h pins s σ H x y v u Q I rx ry) (h' pins s σ H x y v u Q I rx ry)
theorem cr_imp {f : Value} {r r' : List V → Hp → VK → Prop} (h : CallR X f r) (k : ∀ xs H Q, r' xs H Q → r xs H Q) : CallR X f r' := fun pins s σ H xs us Q I rv q => h pins s σ H xs us Q I rv (k xs H Q q)
theorem cr_or {f : Value} {r r' : List V → Hp → VK → Prop} (h : CallR X f r) (h' : CallR X f r') : CallR X f (fun xs H Q => r xs H Q ∨ r' xs H Q) := fun pins s σ H xs us Q I rv q => q.elim (h pins s σ H xs us Q I rv) (h' pins s σ H xs us Q I rv)
theorem ix_imp {r r' : R2} (h : IxR X r) (k : ∀ x y H Q, r' x y H Q → r x y H Q) : IxR X r' := fun value slice pins s σ H x y v u Q I rx ry q hs => h value slice pins s σ H x y v u Q I rx ry (k x y H Q q) hs
theorem set_imp {t t' : TSet} (h : PSet X t) (k : ∀ o i v H Q, t' o i v H Q → t o i v H Q) : PSet X t' := fun pins s σ H o i v ov iv u Q I ro ri rv q => h pins s σ H o i v ov iv u Q I ro ri rv (k o i v H Q q)
theorem mt_imp {id : String} {r r' : V → List V → Hp → VK → Prop} (h : MtR X id r) (k : ∀ x xs H Q, r' x xs H Q → r x xs H Q) : MtR X id r' := fun pins s σ H x xs v us Q I rx rs q => h pins s σ H x xs v us Q I rx rs (k x xs H Q q)
end

/-! ### names -/
def zV (i : Nat) : TE := fun σ H Q => match σ[i]? with
  | some (some v) => Q v H
  | _ => False
theorem pz {X : Cx} (i : Nat) {x : Str} {pos : Pos} (hN : X.N[i]? = some x := by rfl) (hv : Vis X.env.scope x := by first | exact Or.inl rfl | exact Or.inr (Or.inl rfl) | exact Or.inr (Or.inr rfl)) (hd : (x == ("__debug__" : Str)) = false := by decide)
    (hcd : (x == ("__classdict__" : Str)) = false := by decide) : PE X (.Name x pos) (zV i) := pe_imp (pe_var hN hv hd hcd) fun σ H Q q => by
  unfold zV at q
  split at q
  · exact ⟨_, by assumption, q⟩
  · exact q.elim

/-! ### operators on values -/
def yAdd : R2 := fun x y H Q => match x, y with
  | .int i, .int j => Q (.int (i + j)) H
  | .str a, .str b => a.length + b.length ≤ sizeLine ∧ Q (.str (a ++ b)) H
  | .ref p, .ref q => (match H p, H q with
    | some (.lst xs), some (.lst ys) => xs.length + ys.length ≤ sizeLine ∧ ∀ l, H l = none → Q (.ref l) (upd H l (.lst (xs ++ ys)))
    | _, _ => False)
  | _, _ => False
def ySub : R2 := fun x y H Q => match x, y with
  | .int i, .int j => Q (.int (i - j)) H
  | _, _ => False
def yMul : R2 := fun x y H Q => match x, y with
  | .int i, .int j => CMul i j ∧ Q (.int (i * j)) H
  | .ref p, .int k => (match H p with
    | some (.lst xs) => (-(2 ^ 63) ≤ k ∧ k < 2 ^ 63 ∧ xs.length * k.toNat ≤ sizeLine) ∧ ∀ l, H l = none → Q (.ref l) (upd H l (.lst ((List.replicate k.toNat xs).flatten)))
    | _ => False)
  | _, _ => False
def yDiv : R2 := fun x y H Q => match x, y with
  | .int i, .int j => (0 < j ∧ j < 1073741824) ∧ Q (.int (i / j)) H
  | _, _ => False
def yMod : R2 := fun x y H Q => match x, y with
  | .int i, .int j => 0 < j ∧ Q (.int (i % j)) H
  | _, _ => False
def yPow : R2 := fun x y H Q => match x, y with
  | .int i, .int j => CPow i j ∧ Q (.int (i ^ j.toNat)) H
  | _, _ => False
def yNeg : V → Hp → VK → Prop := fun x H Q => match x with
  | .int i => Q (.int (-i)) H
  | _ => False
def yLt : R2 := fun x y H Q => match x, y with
  | .int i, .int j => Q (.bl (decide (i < j))) H
  | _, _ => False
def yLe : R2 := fun x y H Q => match x, y with
  | .int i, .int j => Q (.bl (decide (i ≤ j))) H
  | _, _ => False
def yGt : R2 := fun x y H Q => match x, y with
  | .int i, .int j => Q (.bl (decide (j < i))) H
  | _, _ => False
def yGe : R2 := fun x y H Q => match x, y with
  | .int i, .int j => Q (.bl (decide (j ≤ i))) H
  | _, _ => False
/-- == of scalars; of data at addresses -/
def yEq (K : PySem.W.Frag) : R2 := fun x y H Q => match x, y with
  | .int i, .int j => Q (.bl (decide (i = j))) H
  | .bl i, .bl j => Q (.bl (decide (i = j))) H
  | .str i, .str j => Q (.bl (decide (i = j))) H
  | .non, .non => Q (.bl true) H
  | .non, .int _ => Q (.bl false) H
  | .int _, .non => Q (.bl false) H
  | .non, .str _ => Q (.bl false) H
  | .str _, .non => Q (.bl false) H
  | .int _, .str _ => Q (.bl false) H
  | .str _, .int _ => Q (.bl false) H
  | _, _ => rEqD K x y H Q
def yNe (K : PySem.W.Frag) : R2 := fun x y H Q => match x, y with
  | .int i, .int j => Q (.bl (!decide (i = j))) H
  | .bl i, .bl j => Q (.bl (!decide (i = j))) H
  | .str i, .str j => Q (.bl (!decide (i = j))) H
  | .non, .non => Q (.bl false) H
  | .non, .int _ => Q (.bl true) H
  | .int _, .non => Q (.bl true) H
  | .non, .str _ => Q (.bl true) H
  | .str _, .non => Q (.bl true) H
  | .int _, .str _ => Q (.bl true) H
  | .str _, .int _ => Q (.bl true) H
  | _, _ => rNeD K x y H Q
def yIs0 : R2 := fun x y H Q => y = .non ∧ Q (.bl (decide (x = .non))) H
def yNotIs0 : R2 := fun x y H Q => y = .non ∧ Q (.bl (!decide (x = .non))) H

section
variable {X : Cx}
theorem o_add : OpR X (binaryOp .Add) yAdd := or_imp (or_or op_add (or_or op_add_str op_cat)) fun x y H Q q => by
  unfold yAdd at q
  split at q
  · exact .inl ⟨_, _, rfl, rfl, q⟩
  · exact .inr (.inl ⟨_, _, rfl, rfl, q.1, q.2⟩)
  · rename_i p r
    cases h1 : H p with
    | none => rw [h1] at q; exact q.elim
    | some o1 =>
      cases h2 : H r with
      | none => rw [h1, h2] at q; cases o1 <;> exact q.elim
      | some o2 =>
        rw [h1, h2] at q
        cases o1 <;> cases o2 <;> first | exact q.elim | exact .inr (.inr ⟨_, _, _, _, rfl, rfl, h1, h2, q.1, q.2⟩)
  · exact q.elim
theorem o_sub : OpR X (binaryOp .Sub) ySub := or_imp op_sub fun x y H Q q => by
  unfold ySub at q; split at q
  · exact ⟨_, _, rfl, rfl, q⟩
  · exact q.elim
theorem o_mul : OpR X (binaryOp .Mult) yMul := or_imp (or_or op_mul op_rep) fun x y H Q q => by
  unfold yMul at q; split at q
  · exact .inl ⟨_, _, rfl, rfl, q.1, q.2⟩
  · rename_i p k
    cases h1 : H p with
    | none => rw [h1] at q; exact q.elim
    | some o1 =>
      rw [h1] at q
      cases o1 with
      | lst xs => exact .inr ⟨_, _, _, rfl, rfl, h1, q.1.1, q.1.2.1, q.1.2.2, q.2⟩
      | _ => exact q.elim
  · exact q.elim
theorem o_div : OpR X (binaryOp .FloorDiv) yDiv := or_imp op_fdiv fun x y H Q q => by
  unfold yDiv at q; split at q
  · exact ⟨_, _, rfl, rfl, q.1, q.2⟩
  · exact q.elim
theorem o_mod : OpR X (binaryOp .Mod) yMod := or_imp op_mod fun x y H Q q => by
  unfold yMod at q; split at q
  · exact ⟨_, _, rfl, rfl, q.1, q.2⟩
  · exact q.elim
theorem o_pow : OpR X (binaryOp .Pow) yPow := or_imp op_pow fun x y H Q q => by
  unfold yPow at q; split at q
  · exact ⟨_, _, rfl, rfl, q.1, q.2⟩
  · exact q.elim
theorem u_neg : UnR X (unaryOp .USub) yNeg := fun pins s σ H x v Q I rx q => un_neg pins s σ H x v Q I rx (by
  unfold yNeg at q; split at q
  · exact ⟨_, rfl, q⟩
  · exact q.elim)
theorem o_lt : OpR X (compareOp .Lt) yLt := or_imp op_lt fun x y H Q q => by
  unfold yLt at q; split at q
  · exact ⟨_, _, rfl, rfl, q⟩
  · exact q.elim
theorem o_le : OpR X (compareOp .LtE) yLe := or_imp op_le fun x y H Q q => by
  unfold yLe at q; split at q
  · exact ⟨_, _, rfl, rfl, q⟩
  · exact q.elim
theorem o_gt : OpR X (compareOp .Gt) yGt := or_imp op_gt fun x y H Q q => by
  unfold yGt at q; split at q
  · exact ⟨_, _, rfl, rfl, q⟩
  · exact q.elim
theorem o_ge : OpR X (compareOp .GtE) yGe := or_imp op_ge fun x y H Q q => by
  unfold yGe at q; split at q
  · exact ⟨_, _, rfl, rfl, q⟩
  · exact q.elim
theorem o_eq (hu : X.A.units + 64 < cLine) : OpR X (compareOp .Eq) (yEq X.K) := or_imp (or_or op_eq (op_eqD hu)) fun x y H Q q => by
  unfold yEq at q
  split at q <;> first | exact .inr q | exact .inl ⟨rfl, by simpa using q⟩
theorem o_ne (hu : X.A.units + 64 < cLine) : OpR X (compareOp .NotEq) (yNe X.K) := or_imp (or_or op_ne (op_neD hu)) fun x y H Q q => by
  unfold yNe at q
  split at q <;> first | exact .inr q | exact .inl ⟨rfl, by simpa using q⟩
theorem o_is0 : OpR X (compareOp .Is) yIs0 := op_isN
theorem o_isnot0 : OpR X (compareOp .IsNot) yNotIs0 := op_notN
end

/-! ### a reading, closed under what follows -/
def up (t : TE) : TE := fun σ H Q => ∃ Q0 : VK, (∀ v H', Q0 v H' → Q v H') ∧ t σ H Q0
def upT (t : TT) : TT := fun σ H Q => ∃ Q0 : Bool → Hp → Prop, (∀ v H', Q0 v H' → Q v H') ∧ t σ H Q0
def upA (t : TA) : TA := fun σ H Q => ∃ Q0 : List V → Hp → Prop, (∀ v H', Q0 v H' → Q v H') ∧ t σ H Q0
def upR (r : R2) : R2 := fun x y H Q => ∃ Q0 : VK, (∀ v H', Q0 v H' → Q v H') ∧ r x y H Q0
section
variable {X : Cx} {e : Expr}
theorem pe_up {t : TE} (h : PE X e t) : PE X e (up t) := ⟨fun pins s σ H Q I ⟨Q0, k, q⟩ => thn (h.run pins s σ H Q0 I q) fun u s' ⟨v, H', I', r, q'⟩ => ⟨v, H', I', r, k v H' q'⟩⟩
theorem pt_up {t : TT} (h : PT X e t) : PT X e (upT t) := ⟨fun pins s σ H Q I ⟨Q0, k, q⟩ => thn (h.run pins s σ H Q0 I q) fun u s' ⟨H', I', q'⟩ => ⟨H', I', k u H' q'⟩⟩
theorem pa_up {es : List Expr} {t : TA} (h : PA X es t) : PA X es (upA t) := ⟨fun pos pins s σ H Q I ⟨Q0, k, q⟩ => thn (h.run pos pins s σ H Q0 I q) fun u s' ⟨v, H', I', r, q'⟩ => ⟨v, H', I', r, k v H' q'⟩⟩
theorem or_up {f : Value → Value → Sem Value} {r : R2} (h : OpR X f r) : OpR X f (upR r) := fun pins s σ H x y v u Q I rx ry ⟨Q0, k, q⟩ => thn (h pins s σ H x y v u Q0 I rx ry q) fun w s' ⟨z, H', I', rz, q'⟩ => ⟨z, H', I', rz, k z H' q'⟩
end

/-! ### tests -/
def zB (t : TE) : TT := fun σ H Q => t σ H fun x H' => match x with
  | .bl k => Q k H'
  | _ => False
section
variable {X : Cx} {a b c e : Expr} {ta tb tc t : TE} {pos : Pos}
theorem zB_imp {t : TE} {σ : L2.St} {H : Hp} {Q : Bool → Hp → Prop} (q : zB t σ H Q) : L2.tB (up t) σ H Q := ⟨_, fun v H' q => by
  split at q
  · exact ⟨_, rfl, q⟩
  · exact q.elim, q⟩
/-- a comparison as a test -/
theorem t_cmp {op : CmpOp} {r : R2} (ho : OpR X (compareOp op) r) (ha : PE X a ta) (hb : PE X b tb) (hm : behindInMarks op b = false) : PT X (.Compare a [op] [b] pos) (zB (tOp r ta tb)) :=
  pt_imp (pt_cmpR (or_up ho) (pe_up ha) (pe_up hb) hm) fun σ H Q q => ⟨_, fun x H1 q => ⟨_, fun y H2 q => ⟨_, fun z H3 q => by
    split at q
    · exact ⟨_, rfl, q⟩
    · exact q.elim, q⟩, q⟩, q⟩
/-- a value that is a bool, as a test -/
theorem t_val (h : PE X e t) (he : ∀ whole, isTrue e X.env whole = (do let v ← whole; standAt e.pos; holding [v] (truthy v)) := by intro _; rfl) : PT X e (zB t) :=
  pt_imp (pt_val (pe_up h) he) fun _ _ _ q => zB_imp q
/-- a op b op c -/
def zChain (r r' : R2) (ta tb tc : TE) : TE := fun σ H Q => ta σ H fun x H1 => tb σ H1 fun y H2 => r x y H2 fun z H3 => match z with
  | .bl k => (if k = true then tc σ H3 fun w' H4 => r' y w' H4 Q else Q (.bl false) H3)
  | _ => False
theorem zChain_imp {r r' : R2} {σ : L2.St} {H : Hp} {Q : VK} (q : zChain r r' ta tb tc σ H Q) : tChain (upR r) r' (up ta) (up tb) tc σ H Q := ⟨_, fun x H1 q => ⟨_, fun y H2 q => ⟨_, fun z H3 q => by
    split at q
    · exact ⟨_, rfl, q⟩
    · exact q.elim, q⟩, q⟩, q⟩
theorem e_chain {op op' : CmpOp} {r r' : R2} (ho : OpR X (compareOp op) r) (ho' : OpR X (compareOp op') r') (ha : PE X a ta) (hb : PE X b tb) (hc : PE X c tc)
    (hm : lastMarks [op, op'] [b, c] = false := by with_unfolding_all rfl) : PE X (.Compare a [op, op'] [b, c] pos) (zChain r r' ta tb tc) :=
  pe_imp (pe_chain (or_up ho) ho' (pe_up ha) (pe_up hb) hc hm) fun _ _ _ q => zChain_imp q
theorem t_chain {op op' : CmpOp} {r r' : R2} (ho : OpR X (compareOp op) r) (ho' : OpR X (compareOp op') r') (ha : PE X a ta) (hb : PE X b tb) (hc : PE X c tc)
    (hm : lastMarks [op, op'] [b, c] = false := by with_unfolding_all rfl) : PT X (.Compare a [op, op'] [b, c] pos) (zB (zChain r r' ta tb tc)) :=
  pt_imp (pt_chain (or_up ho) (or_up ho') (pe_up ha) (pe_up hb) (pe_up hc) hm) fun σ H Q q => ⟨_, fun x H1 q => ⟨_, fun y H2 q => ⟨_, fun z H3 q => by
    split at q
    · rename_i k
      refine ⟨k, rfl, ?_⟩
      cases k with
      | true =>
        rw [if_pos rfl] at q ⊢
        exact ⟨_, fun w H4 q => ⟨_, fun z2 H5 q => by
          split at q
          · exact ⟨_, rfl, q⟩
          · exact q.elim, q⟩, q⟩
      | false =>
        rw [if_neg Bool.false_ne_true] at q ⊢
        exact ⟨_, rfl, q⟩
    · exact q.elim, q⟩, q⟩, q⟩
def zAnd (ta tb : TE) : TE := fun σ H Q => ta σ H fun x H1 => match x with
  | .bl c => (if c = true then tb σ H1 Q else Q (.bl false) H1)
  | _ => False
def zOr (ta tb : TE) : TE := fun σ H Q => ta σ H fun x H1 => match x with
  | .bl c => (if c = true then Q (.bl true) H1 else tb σ H1 Q)
  | _ => False
def zNot (ta : TE) : TE := fun σ H Q => ta σ H fun x H1 => match x with
  | .bl c => Q (.bl (!c)) H1
  | _ => False
variable {rest : List Expr}
theorem e_and (ha : PE X a ta) (hb : PE X (.BoolOp .And (b :: rest) pos) tb) : PE X (.BoolOp .And (a :: b :: rest) pos) (zAnd ta tb) :=
  pe_imp (pe_and (pe_up ha) hb) fun σ H Q q => ⟨_, fun v H' q => by
    split at q
    · exact ⟨_, rfl, q⟩
    · exact q.elim, q⟩
theorem e_or (ha : PE X a ta) (hb : PE X (.BoolOp .Or (b :: rest) pos) tb) : PE X (.BoolOp .Or (a :: b :: rest) pos) (zOr ta tb) :=
  pe_imp (pe_or (pe_up ha) hb) fun σ H Q q => ⟨_, fun v H' q => by
    split at q
    · exact ⟨_, rfl, q⟩
    · exact q.elim, q⟩
theorem e_not (ha : PE X a ta) : PE X (.UnaryOp .Not a pos) (zNot ta) :=
  pe_imp (pe_not (pe_up ha)) fun σ H Q q => ⟨_, fun v H' q => by
    split at q
    · exact ⟨_, rfl, q⟩
    · exact q.elim, q⟩
end

/-! ### what stands at an address: a list or tuple that is read -/
def sqAt (K : PySem.W.Frag) (H : Hp) (p : Addr) (R : List V → Prop) : Prop := match H p with
  | some (.lst xs) => R xs
  | some (.tup xs) => R xs
  | _ => ∃ xs, (SqL K H p xs ∨ SqT K H p xs) ∧ R xs
theorem sqAt_ok {K : PySem.W.Frag} {H : Hp} {p : Addr} {R : List V → Prop} (h : sqAt K H p R) : ∃ xs, (SqL K H p xs ∨ SqT K H p xs) ∧ R xs := by
  unfold sqAt at h
  split at h
  · exact ⟨_, .inl (SqL.of (by assumption)), h⟩
  · exact ⟨_, .inr (SqT.of (by assumption)), h⟩
  · exact h
theorem sqAt_l {K : PySem.W.Frag} {H : Hp} {p : Addr} {R : List V → Prop} {xs : List V} (h : H p = some (.lst xs)) : sqAt K H p R = R xs := by unfold sqAt; rw [h]
theorem sqAt_t {K : PySem.W.Frag} {H : Hp} {p : Addr} {R : List V → Prop} {xs : List V} (h : H p = some (.tup xs)) : sqAt K H p R = R xs := by unfold sqAt; rw [h]
theorem sqAt_of {K : PySem.W.Frag} {H : Hp} {p : Addr} {R : List V → Prop} {xs : List V} (h : SqL K H p xs) (hn : ∀ ys, H p ≠ some (.lst ys)) (hm : ∀ ys, H p ≠ some (.tup ys)) (r : R xs) : sqAt K H p R := by
  unfold sqAt
  split
  · exact absurd (by assumption) (hn _)
  · exact absurd (by assumption) (hm _)
  · exact ⟨xs, .inl h, r⟩

/-! ### a[b] -/
def isNone {α : Type} (o : Option α) (Q : α → Prop) : Prop := match o with
  | some v => Q v
  | none => False
theorem isNone_some {α : Type} {v : α} {Q : α → Prop} : isNone (some v) Q = Q v := rfl
def yIx (K : PySem.W.Frag) : R2 := fun x y H Q => match x, y with
  | .ref p, .int i => (match H p with
    | some (.dK kvs) => isNone (valV kvs (Sum.inl i)) fun v => Q v H
    | _ => sqAt K H p fun xs => isNone (atI xs i) fun v => Q v H)
  | .ref p, .str k => (match H p with
    | some (.dK kvs) => isNone (valV kvs (Sum.inr k)) fun v => Q v H
    | _ => False)
  | .str z, .int i => z.length ≤ sizeLine ∧ isNone (atI z.cps.toList i) fun c => Q (.str ⟨#[c]⟩) H
  | _, _ => False
theorem isNone_ok {α : Type} {o : Option α} {Q : α → Prop} (h : isNone o Q) : ∃ v, o = some v ∧ Q v := by
  cases o with
  | none => exact h.elim
  | some v => exact ⟨v, rfl, h⟩
section
variable {X : Cx} {a b : Expr} {ta tb : TE} {pos : Pos}
theorem ix_dict (hu : X.A.units + 1 < cLine) : IxR X (fun x y H Q => ∃ p v, x = .ref p ∧ DGet H p y (some v) ∧ Q v H) := by
  intro value slice pins s σ H x y v u Q I rx ry h hs
  obtain ⟨p, w, rfl, g, q⟩ := h
  cases rx
  exact tail_any (dict_typeIs I g) PySem.F.slot_dict_getitem.lookup (d_getItem hu I g ry fun w' s3 I3 rw' => ⟨w, H, I3, rw', q⟩) hs
theorem ix_any (hu : X.A.units + 1 < cLine) : IxR X (yIx X.K) := ix_imp ((ix_list.or ix_tup).or (ix_str.or (ix_dict hu))) fun x y H Q q => by
  unfold yIx at q
  split at q
  · rename_i p i
    split at q
    · rename_i kvs hp
      obtain ⟨v, hv, q⟩ := isNone_ok q
      exact .inr (.inr ⟨p, v, rfl, by rw [← hv]; exact DGet.k (k := Sum.inl i) hp, q⟩)
    · obtain ⟨xs, hx, q⟩ := sqAt_ok q
      obtain ⟨v, hv, q⟩ := isNone_ok q
      rcases hx with hx | hx
      · exact .inl (.inl ⟨p, xs, i, v, rfl, rfl, hx, hv, q⟩)
      · exact .inl (.inr ⟨p, xs, i, v, rfl, rfl, hx, hv, q⟩)
  · rename_i p k
    split at q
    · rename_i kvs hp
      obtain ⟨v, hv, q⟩ := isNone_ok q
      exact .inr (.inr ⟨p, v, rfl, by rw [← hv]; exact DGet.k (k := Sum.inr k) hp, q⟩)
    · exact q.elim
  · rename_i z i
    obtain ⟨v, hv, q2⟩ := isNone_ok q.2
    exact .inr (.inl ⟨z, i, v, rfl, rfl, q.1, hv, q2⟩)
  · exact q.elim
theorem e_ix (hu : X.A.units + 1 < cLine) (ha : PE X a ta) (hb : PE X b tb) (hs : PlainIx b) : PE X (.Subscript a b pos) (tOp (yIx X.K) ta tb) := pe_ix (ix_any hu) ha hb hs
end

/-! ### a[b] = c -/
def ySet : V → V → V → Hp → (Hp → Prop) → Prop := fun o i v H Q => match o, i with
  | .ref p, .int k => (match H p with
    | some (.lst xs) => isNone (ixN xs.length k) fun j => Q (upd H p (.lst (xs.set j v)))
    | some (.dK kvs) => kvs.length < sizeLine ∧ Q (upd H p (.dK (putK kvs (Sum.inl k) v)))
    | _ => False)
  | .ref p, .str k => (match H p with
    | some (.dK kvs) => kvs.length < sizeLine ∧ Q (upd H p (.dK (putK kvs (Sum.inr k) v)))
    | _ => False)
  | _, _ => False
theorem set_any {X : Cx} (hu : X.A.units + 1 < cLine) : PSet X ySet := by
  intro pins s σ H o i v ov iv u Q I ro ri rv q
  unfold ySet at q
  split at q
  · rename_i p k
    split at q
    · rename_i xs hp
      obtain ⟨j, hj, q⟩ := isNone_ok q
      exact set_list pins s σ H _ _ v ov iv u Q I ro ri rv ⟨p, xs, k, j, rfl, rfl, hp, hj, q⟩
    · rename_i kvs hp
      cases ro
      exact d_setItem hu I (DPut.k (k := Sum.inl k) hp q.1) ri rv fun s' I' => ⟨_, I', q.2⟩
    · exact q.elim
  · rename_i p k
    split at q
    · rename_i kvs hp
      cases ro
      exact d_setItem hu I (DPut.k (k := Sum.inr k) hp q.1) ri rv fun s' I' => ⟨_, I', q.2⟩
    · exact q.elim
  · exact q.elim

/-! ### in, not in -/
def yIn (K : PySem.W.Frag) (neg : Bool) : R2 := fun x y H Q => match y with
  | .ref p => (match H p with
    | some (.dK kvs) => (match x with
      | .int i => Q (.bl (if neg then !(valV kvs (Sum.inl i)).isSome else (valV kvs (Sum.inl i)).isSome)) H
      | .str i => Q (.bl (if neg then !(valV kvs (Sum.inr i)).isSome else (valV kvs (Sum.inr i)).isSome)) H
      | _ => False)
    | _ => sqAt K H p fun xs => flatV x = true ∧ xs.all flatV = true ∧ Q (.bl (if neg then !inV x xs else inV x xs)) H)
  | _ => False
section
variable {X : Cx}
theorem o_in (hu : X.A.units + 1 < cLine) : OpR X (compareOp .In) (yIn X.K false) := by
  intro pins s σ H x y v u Q I rx ry q
  unfold yIn at q
  split at q
  · rename_i p
    split at q
    · rename_i kvs hp
      cases ry
      split at q
      · rename_i i
        exact d_in hu I (DGet.k (k := Sum.inl i) hp) rx fun s3 I3 => ⟨.bl _, H, I3, rfl, q⟩
      · rename_i i
        exact d_in hu I (DGet.k (k := Sum.inr i) hp) rx fun s3 I3 => ⟨.bl _, H, I3, rfl, q⟩
      · exact q.elim
    · obtain ⟨xs, hx, q1, q2, q⟩ := sqAt_ok q
      exact op_in_seq pins s σ H x _ v u Q I rx ry ⟨p, xs, rfl, hx, q1, q2, q⟩
  · exact q.elim
theorem o_notin (hu : X.A.units + 1 < cLine) : OpR X (compareOp .NotIn) (yIn X.K true) := by
  intro pins s σ H x y v u Q I rx ry q
  unfold yIn at q
  split at q
  · rename_i p
    split at q
    · rename_i kvs hp
      cases ry
      split at q
      · rename_i i
        exact d_notIn hu I (DGet.k (k := Sum.inl i) hp) rx fun s3 I3 => ⟨.bl _, H, I3, rfl, q⟩
      · rename_i i
        exact d_notIn hu I (DGet.k (k := Sum.inr i) hp) rx fun s3 I3 => ⟨.bl _, H, I3, rfl, q⟩
      · exact q.elim
    · obtain ⟨xs, hx, q1, q2, q⟩ := sqAt_ok q
      exact op_notIn_seq pins s σ H x _ v u Q I rx ry ⟨p, xs, rfl, hx, q1, q2, q⟩
  · exact q.elim
end

/-! ### fields and methods -/
def insAt (H : Hp) (x : V) (R : Addr → Addr → Addr → List (Str × V) → Prop) : Prop := match x with
  | .ref a => (match H a with
    | some (.ins C dx fs) => R a C dx fs
    | _ => False)
  | _ => False
theorem insAt_ok {H : Hp} {x : V} {R : Addr → Addr → Addr → List (Str × V) → Prop} (h : insAt H x R) : ∃ a C dx fs, x = .ref a ∧ H a = some (.ins C dx fs) ∧ R a C dx fs := by
  unfold insAt at h
  split at h
  · split at h
    · exact ⟨_, _, _, _, rfl, by assumption, h⟩
    · exact h.elim
  · exact h.elim
def zFld (K : PySem.W.Frag) (ta : TE) (f : Str) : TE := fun σ H Q => ta σ H fun x H1 => insAt H1 x fun a C dx fs => (Cls K C ∧ NoAttr K C f) ∧ isNone (fs.lookup f) fun v => Q v H1
def zSetF (K : PySem.W.Frag) (ta tv : TE) (f : Str) : TS := fun D σ H => tv σ H fun y H1 => ta σ H1 fun x H2 => insAt H2 x fun a C dx fs => (Cls K C ∧ NoAttr K C f ∧ fs.length < 1000) ∧ D.nx σ (upd H2 a (.ins C dx (putF f y fs)))
def zMeth (C : Addr) (m : Str) (sp : Sp) (dvs : List V) (E : XK) (ta : TE) (t : TA) : TE := fun σ H Q => ta σ H fun x H1 => insAt H1 x fun a C' dx fs => (C' = C ∧ fs.lookup m = none) ∧ t σ H1 fun vs H2 => sp (x :: (vs ++ dvs)) H2 Q E
section
variable {X : Cx} {e o value : Expr} {ta tv : TE} {f : Str} {pos pos' : Pos}
theorem e_fld (he : PE X e ta) (hb : attributeBase e f X.env (eval e X.env) = eval e X.env) : PE X (.Attribute e f pos) (zFld X.K ta f) :=
  pe_imp (pe_fld (pe_up he) hb) fun σ H Q q => ⟨_, fun x H1 q => by
    obtain ⟨a, C, dx, fs, rfl, ha, ⟨q1, q2⟩, q⟩ := insAt_ok q
    obtain ⟨v, hv, q⟩ := isNone_ok q
    exact ⟨a, C, dx, fs, v, rfl, ha, q1, q2, hv, q⟩, q⟩
theorem s_fld (ha : PE X o ta) (hv : PE X value tv) (hs : swapsWith value (some (.Attribute o f pos')) pos.line X.env = pure false) : PS X (.Assign [.Attribute o f pos'] value pos) (zSetF X.K ta tv f) :=
  ps_imp (ps_fld (pe_up ha) (pe_up hv) hs) fun D σ H q => ⟨_, fun y H1 q => ⟨_, fun x H2 q => by
    obtain ⟨a, C, dx, fs, rfl, ha, ⟨q1, q2, q3⟩, q⟩ := insAt_ok q
    exact ⟨a, C, dx, fs, rfl, ha, q1, q2, q3, q⟩, q⟩, q⟩
variable {k j : Nat} {C : Addr} {m : Str} {sp : Sp} {dvs : List V} {apos : Pos} {es : List Expr} {t : TA}
theorem e_mt {pl : Sem Bool} (c : C8.Met X.prog X.w X.K X.mg X.base k C m sp dvs) (hr : Room j X.A) (hk : k ≤ j) (he : PE X o ta) (ha : PA X (e :: es) t)
    (hst : starEach (e :: es) X.env = (false, eval e X.env) :: starEach es X.env := by rfl) (hpl : (backTo pos (starEach es X.env)).any (·.1) = false := by rfl)
    (ht : eval (.Call (.Attribute o m apos) (e :: es) [] pos) X.env = (do
      let ov ← eval o X.env
      standAt apos.atName
      let (f, first) ← holding [ov] (getMethod ov m pl)
      callWith pos f first (backTo pos (starEach (e :: es) X.env)) (backToKw pos (keywordEach [] X.env))) := by rfl) :
    PE X (.Call (.Attribute o m apos) (e :: es) [] pos) (zMeth C m sp dvs C8.E0 ta t) :=
  pe_imp (C8.pe_mt (pl := pl) c hr hk (pe_up he) ha hst hpl ht) fun σ H Q q => ⟨_, fun x H1 q => by
    obtain ⟨a, C', dx, fs, ex, ha, ⟨ec, q2⟩, q3⟩ := insAt_ok q
    subst ec
    exact ⟨a, dx, fs, ex, ha, q2, q3⟩, q⟩
theorem e_mt0 {pl : Sem Bool} (c : C8.Met X.prog X.w X.K X.mg X.base k C m sp dvs) (hr : Room j X.A) (hk : k ≤ j) (he : PE X o ta)
    (ht : eval (.Call (.Attribute o m apos) [] [] pos) X.env = (do
      let ov ← eval o X.env
      standAt apos.atName
      let (f, first) ← holding [ov] (getMethod ov m pl)
      callWith pos f first (backTo pos (starEach [] X.env)) (backToKw pos (keywordEach [] X.env))) := by rfl) :
    PE X (.Call (.Attribute o m apos) [] [] pos) (zMeth C m sp dvs C8.E0 ta tNil) :=
  pe_imp (C8.pe_mt0 (pl := pl) c hr hk (pe_up he) ht) fun σ H Q q => ⟨_, fun x H1 q => by
    obtain ⟨a, C', dx, fs, ex, ha, ⟨ec, q2⟩, q3⟩ := insAt_ok q
    subst ec
    exact ⟨a, dx, fs, ex, ha, q2, q3⟩, q⟩
end

/-! ### built-in functions -/
def yLen (K : PySem.W.Frag) : List V → Hp → VK → Prop := fun vs H Q => match vs with
  | [.ref p] => (match H p with
    | some (.dK kvs) => Q (.int kvs.length) H
    | _ => sqAt K H p fun xs => Q (.int xs.length) H)
  | [.str z] => z.length ≤ sizeLine ∧ Q (.int z.length) H
  | _ => False
/-- len of a list that may be the script -/
def yLenS (K : PySem.W.Frag) : List V → Hp → VK → Prop := fun vs H Q => ∃ p ys, vs = [.ref p] ∧ SqL K H p ys ∧ Q (.int ys.length) H
theorem c_lenS {X : Cx} : CallR X (.builtin "len") (yLenS X.K) := cr_imp call_len_seq fun xs H Q q => by
  obtain ⟨p, ys, rfl, h, q⟩ := q
  exact ⟨p, ys, rfl, .inl h, q⟩
def yAbs : List V → Hp → VK → Prop := fun vs H Q => match vs with
  | [.int i] => Q (.int (if i < 0 then -i else i)) H
  | _ => False
def yMax2 : List V → Hp → VK → Prop := fun vs H Q => match vs with
  | [.int i, .int j] => Q (.int (if j > i then j else i)) H
  | _ => False
def yMin2 : List V → Hp → VK → Prop := fun vs H Q => match vs with
  | [.int i, .int j] => Q (.int (if j < i then j else i)) H
  | _ => False
def yList (K : PySem.W.Frag) : List V → Hp → VK → Prop := fun vs H Q => match vs with
  | [.ref p] => sqAt K H p fun xs => ∀ l, H l = none → Q (.ref l) (upd H l (.lst xs))
  | _ => False
def yTuple (K : PySem.W.Frag) : List V → Hp → VK → Prop := fun vs H Q => match vs with
  | [.ref p] => (match H p with
    | some (.lst xs) => ∀ l, H l = none → Q (.ref l) (upd H l (.tup xs))
    | some (.tup _) => Q (.ref p) H
    | _ => False)
  | _ => False
/-- sorted of the int keys of a dict -/
def ySortedKeys : List V → Hp → VK → Prop := fun vs H Q => match vs with
  | [.ref p] => (match H p with
    | some (.dK kvs) => ∃ ks : List Int, kvs.map (·.1) = ks.map Sum.inl ∧ ks.length < 64 ∧ ∀ (ys : List Int) (l : Addr), ys.Perm ks → ys.Pairwise (· ≤ ·) → H l = none → Q (.ref l) (upd H l (.lst (ys.map V.int)))
    | _ => False)
  | _ => False
def yDict0 : List V → Hp → VK → Prop := fun vs H Q => match vs with
  | [] => ∀ p, H p = none → Q (.ref p) (upd H p (.dK []))
  | _ => False
section
variable {X : Cx}
theorem c_len : CallR X (.builtin "len") (yLen X.K) := cr_imp (cr_or call_len call_lenD) fun xs H Q q => by
  unfold yLen at q
  split at q
  · split at q
    · exact .inr ⟨_, _, rfl, by assumption, q⟩
    · obtain ⟨xs, hx, q⟩ := sqAt_ok q
      exact .inl ⟨_, xs.length, rfl, hx.elim (fun h => .inl ⟨xs, h, rfl⟩) (fun h => .inr ⟨xs, h, rfl⟩), q⟩
  · exact .inl ⟨_, _, rfl, ⟨q.1, rfl⟩, q.2⟩
  · exact q.elim
theorem c_abs : CallR X (.builtin "abs") yAbs := cr_imp call_abs fun xs H Q q => by
  unfold yAbs at q; split at q
  · exact ⟨_, rfl, q⟩
  · exact q.elim
theorem c_max2 (hc : X.calm = true) : CallR X (.builtin "max") yMax2 := cr_imp (call_max2 hc) fun xs H Q q => by
  unfold yMax2 at q; split at q
  · exact ⟨_, _, rfl, q⟩
  · exact q.elim
theorem c_min2 (hc : X.calm = true) : CallR X (.builtin "min") yMin2 := cr_imp (call_min2 hc) fun xs H Q q => by
  unfold yMin2 at q; split at q
  · exact ⟨_, _, rfl, q⟩
  · exact q.elim
theorem c_list : CallR X (.type "list") (yList X.K) := cr_imp call_list_of fun xs H Q q => by
  unfold yList at q; split at q
  · obtain ⟨xs, hx, q⟩ := sqAt_ok q
    exact ⟨_, xs, rfl, hx, q⟩
  · exact q.elim
theorem c_tuple : CallR X (.type "tuple") (yTuple X.K) := cr_imp call_tuple_of fun xs H Q q => by
  unfold yTuple at q; split at q
  · split at q
    · exact ⟨_, _, rfl, .inl ⟨SqL.of (by assumption), q⟩⟩
    · exact ⟨_, _, rfl, .inr ⟨SqT.of (by assumption), q⟩⟩
    · exact q.elim
  · exact q.elim
theorem c_sortedKeys (hc : X.calm = true) : CallR X (.builtin "sorted") ySortedKeys := cr_imp (call_sortedDI hc) fun xs H Q q => by
  unfold ySortedKeys at q; split at q
  · split at q
    · obtain ⟨ks, h1, h2, q⟩ := q
      exact ⟨_, _, ks, rfl, .inl (by assumption), h1, h2, q⟩
    · exact q.elim
  · exact q.elim
theorem c_dict0 : CallR X (.type "dict") yDict0 := by
  intro pins s σ H xs us Q I r q
  unfold yDict0 at q
  split at q
  · obtain rfl := Vals.zero r
    exact L2.FK.call_dict0 ⟨.ref s.heap.objs.size, _, I.laid (a := s.heap.objs.size) (o := .dK []) (t' := s.toks) (fun _ _ q => Heap.get?_push_of_some _ q) (Nat.le_refl _) (dk_empty s.heap I.big), rfl, q _ (I.hok.fresh (Nat.le_refl _))⟩
  · exact q.elim
end

/-! ### list methods -/
def isLst (H : Hp) (x : V) : Prop := match x with
  | .ref p => (match H p with
    | some (.lst _) => True
    | _ => False)
  | _ => False
theorem isLst_ok {K : PySem.W.Frag} {H : Hp} {x : V} (h : isLst H x) : tyV K "list" x H := by
  unfold isLst at h
  split at h
  · split at h
    · exact .inl ⟨rfl, _, SqL.of (by assumption)⟩
    · exact h.elim
  · exact h.elim
def yApp : V → List V → Hp → VK → Prop := fun x vs H Q => match x, vs with
  | .ref l, [y] => (match H l with
    | some (.lst xs) => xs.length < sizeLine ∧ Q .non (upd H l (.lst (xs ++ [y])))
    | _ => False)
  | _, _ => False
def zLM (r : V → List V → Hp → VK → Prop) (to : TE) (t : TA) : TE := fun σ H Q => to σ H fun x H1 => isLst H1 x ∧ t σ H1 fun xs H2 => r x xs H2 Q
section
variable {X : Cx} {o e : Expr} {to te : TE} {apos cpos : Pos}
theorem m_app : MtR X "list.append" yApp := mt_imp mt_append fun x xs H Q q => by
  unfold yApp at q
  split at q
  · split at q
    · exact ⟨_, _, _, rfl, rfl, by assumption, q.1, q.2⟩
    · exact q.elim
  · exact q.elim
theorem e_app (ho : PE X o to) (he : PE X e te)
    (hbase : attributeBase o "append" X.env (eval o X.env) = eval o X.env := by rfl)
    (hfew : ((backTo cpos (starEach [e] X.env)).all (fun x => !x.1) && (backToKw cpos (keywordEach [] X.env)).all (fun x => x.1.isSome)
      && decide ([e].length + ([] : List Keyword).length + (if ([] : List Keyword).isEmpty then 0 else 1) < 30)) = true := by rfl)
    (hline : (apos.endLine == cpos.line) = true := by rfl) (hs : starEach [e] X.env = (false, eval e X.env) :: starEach [] X.env := by rfl) (hplain : (backTo cpos (starEach [] X.env)).any (·.1) = false := by rfl) :
    PE X (.Call (.Attribute o "append" apos) [e] [] cpos) (zLM yApp to (tCons te tNil)) :=
  pe_imp (pe_bm PySem.F.plainAttrs_list PySem.F.slot_list_append PySem.F.type_list_append m_app (pe_up ho) (pa_cons he pa_nil hs) hbase hfew hline hs hplain) fun σ H Q q => ⟨_, fun x H1 q => ⟨isLst_ok q.1, q.2⟩, q⟩
end

/-! ### dict methods -/
def dkAt (H : Hp) (x : V) (R : Addr → List (Key × V) → Prop) : Prop := match x with
  | .ref p => (match H p with
    | some (.dK kvs) => R p kvs
    | _ => False)
  | _ => False
theorem dkAt_ok {H : Hp} {x : V} {R : Addr → List (Key × V) → Prop} (h : dkAt H x R) : ∃ p kvs, x = .ref p ∧ H p = some (.dK kvs) ∧ R p kvs := by
  unfold dkAt at h
  split at h
  · split at h
    · exact ⟨_, _, rfl, by assumption, h⟩
    · exact h.elim
  · exact h.elim
def keyOf (y : V) (R : Key → Prop) : Prop := match y with
  | .int i => R (Sum.inl i)
  | .str i => R (Sum.inr i)
  | _ => False
theorem keyOf_ok {y : V} {R : Key → Prop} (h : keyOf y R) : ∃ k, y = kV k ∧ R k := by
  unfold keyOf at h
  split at h
  · exact ⟨Sum.inl _, rfl, h⟩
  · exact ⟨Sum.inr _, rfl, h⟩
  · exact h.elim
/-- d.get(k), d.get(k, x), d.pop(k), d.pop(k, x) -/
def zGet1 (td ty : TE) : TE := fun σ H Q => td σ H fun x H1 => dkAt H1 x (fun _ _ => True) ∧ ty σ H1 fun y H2 => dkAt H2 x fun p kvs => keyOf y fun k => Q ((valV kvs k).getD .non) H2
def zGet2 (td ty tx : TE) : TE := fun σ H Q => td σ H fun x H1 => dkAt H1 x (fun _ _ => True) ∧ ty σ H1 fun y H2 => tx σ H2 fun z H3 => dkAt H3 x fun p kvs => keyOf y fun k => Q ((valV kvs k).getD z) H3
def zPop1 (td ty : TE) : TE := fun σ H Q => td σ H fun x H1 => dkAt H1 x (fun _ _ => True) ∧ ty σ H1 fun y H2 => dkAt H2 x fun p kvs => keyOf y fun k => isNone (valV kvs k) fun v => Q v (upd H2 p (.dK (dropK kvs k)))
def zPop2 (td ty tx : TE) : TE := fun σ H Q => td σ H fun x H1 => dkAt H1 x (fun _ _ => True) ∧ ty σ H1 fun y H2 => tx σ H2 fun z H3 => dkAt H3 x fun p kvs => keyOf y fun k =>
  (∀ v, valV kvs k = some v → Q v (upd H3 p (.dK (dropK kvs k)))) ∧ (valV kvs k = none → Q z H3)
section
variable {X : Cx} {o e f : Expr} {apos cpos : Pos} {td ty tx : TE}
theorem e_get1 (hu : X.A.units + 1 < cLine) (ho : PE X o td) (he : PE X e ty) (m : M1 X o "get" apos e cpos) : PE X (.Call (.Attribute o "get" apos) [e] [] cpos) (zGet1 td ty) :=
  pe_imp (pe_dget1 hu (pe_up ho) (pe_up he) m) fun σ H Q q => ⟨_, fun x H1 q => by
    obtain ⟨h1, q⟩ := q
    obtain ⟨p, kvs, rfl, hp, _⟩ := dkAt_ok h1
    refine ⟨p, rfl, .inl ⟨kvs, .inl hp⟩, _, fun y H2 q => ?_, q⟩
    obtain ⟨p', kvs', e, hp', q⟩ := dkAt_ok q
    cases e
    obtain ⟨k, ek, q5⟩ := keyOf_ok q
    subst ek
    exact ⟨_, DGet.k hp', q5⟩, q⟩
theorem e_get2 (hu : X.A.units + 1 < cLine) (ho : PE X o td) (he : PE X e ty) (hf : PE X f tx) (m : M2 X o "get" apos e f cpos) : PE X (.Call (.Attribute o "get" apos) [e, f] [] cpos) (zGet2 td ty tx) :=
  pe_imp (pe_dget2 hu (pe_up ho) (pe_up he) (pe_up hf) m) fun σ H Q q => ⟨_, fun x H1 q => by
    obtain ⟨h1, q⟩ := q
    obtain ⟨p, kvs, rfl, hp, _⟩ := dkAt_ok h1
    refine ⟨p, rfl, .inl ⟨kvs, .inl hp⟩, _, fun y H2 q => ⟨_, fun z H3 q => ?_, q⟩, q⟩
    obtain ⟨p', kvs', e, hp', q⟩ := dkAt_ok q
    cases e
    obtain ⟨k, ek, q5⟩ := keyOf_ok q
    subst ek
    exact ⟨_, DGet.k hp', q5⟩, q⟩
theorem e_pop1 (ho : PE X o td) (he : PE X e ty) (m : M1 X o "pop" apos e cpos) : PE X (.Call (.Attribute o "pop" apos) [e] [] cpos) (zPop1 td ty) :=
  pe_imp (pe_dpop1 (pe_up ho) (pe_up he) m) fun σ H Q q => ⟨_, fun x H1 q => by
    obtain ⟨h1, q⟩ := q
    obtain ⟨p, kvs, rfl, hp, _⟩ := dkAt_ok h1
    refine ⟨p, rfl, .inl ⟨kvs, .inl hp⟩, _, fun y H2 q => ?_, q⟩
    obtain ⟨p', kvs', e, hp', q⟩ := dkAt_ok q
    cases e
    obtain ⟨k, ek, q5⟩ := keyOf_ok q
    subst ek
    obtain ⟨v, hv, q6⟩ := isNone_ok q5
    exact ⟨_, _, _, hp', rfl, hv, q6⟩, q⟩
theorem e_pop2 (ho : PE X o td) (he : PE X e ty) (hf : PE X f tx) (m : M2 X o "pop" apos e f cpos) : PE X (.Call (.Attribute o "pop" apos) [e, f] [] cpos) (zPop2 td ty tx) :=
  pe_imp (pe_dpop2 (pe_up ho) (pe_up he) (pe_up hf) m) fun σ H Q q => ⟨_, fun x H1 q => by
    obtain ⟨h1, q⟩ := q
    obtain ⟨p, kvs, rfl, hp, _⟩ := dkAt_ok h1
    refine ⟨p, rfl, .inl ⟨kvs, .inl hp⟩, _, fun y H2 q => ⟨_, fun z H3 q => ?_, q⟩, q⟩
    obtain ⟨p', kvs', e, hp', q⟩ := dkAt_ok q
    cases e
    obtain ⟨k, ek, q5⟩ := keyOf_ok q
    subst ek
    exact ⟨_, _, hp', rfl, q5.1, q5.2⟩, q⟩
end

/-! ### for over a range, a list -/
def loopOn (J : It) (g : TG) (tb : TS) : TS := fun D σ H => ∃ W : Nat → Nat → L2.St → Hp → Prop, (∃ m, W 0 m σ H) ∧ ∀ i m σ H, W i m σ H →
  (J.stop i H ∧ D.nx σ H) ∨ (J.go i H ∧ ∃ N : L2.St → Hp → Prop, (∀ σ' H', N σ' H' → ∃ m', m' < m ∧ W (i + 1) m' σ' H') ∧ ∀ x H', J.yld i H x H' → g x σ H' fun σ2 H2 => tb { D with nx := N, ct := N, bk := D.nx } σ2 H2)
def intAt (v : V) (R : Int → Prop) : Prop := match v with
  | .int n => R n
  | _ => False
def refAt (v : V) (R : Addr → Prop) : Prop := match v with
  | .ref n => R n
  | _ => False
def zForR1 (te : TE) (g : TG) (tb : TS) : TS := fun D σ H => te σ H fun v H1 => intAt v fun n => (-(2 ^ 62) ≤ n ∧ n < 2 ^ 62) ∧ loopOn (Itr 0 n.toNat) g tb D σ H1
def zForR2 (ta te : TE) (g : TG) (tb : TS) : TS := fun D σ H => ta σ H fun u H1 => te σ H1 fun v H2 => intAt u fun m => intAt v fun n => (-(2 ^ 62) ≤ m ∧ m < 2 ^ 62 ∧ -(2 ^ 62) ≤ n ∧ n < 2 ^ 62) ∧ loopOn (Itr m (n - m).toNat) g tb D σ H2
def zForL (K : PySem.W.Frag) (te : TE) (g : TG) (tb : TS) : TS := fun D σ H => te σ H fun v H1 => refAt v fun a => (∃ xs, SqL K H1 a xs) ∧ loopOn (Itl K a) g tb D σ H1
def zForT (K : PySem.W.Frag) (te : TE) (g : TG) (tb : TS) : TS := fun D σ H => te σ H fun v H1 => refAt v fun a => (∃ xs, SqT K H1 a xs) ∧ loopOn (Itt K a) g tb D σ H1
theorem intAt_ok {v : V} {R : Int → Prop} (h : intAt v R) : ∃ n, v = .int n ∧ R n := by
  unfold intAt at h; split at h
  · exact ⟨_, rfl, h⟩
  · exact h.elim
theorem refAt_ok {v : V} {R : Addr → Prop} (h : refAt v R) : ∃ n, v = .ref n ∧ R n := by
  unfold refAt at h; split at h
  · exact ⟨_, rfl, h⟩
  · exact h.elim
section
variable {X : Cx} {tg e e2 : Expr} {body : List Stmt} {te ta : TE} {g : TG} {tb : TS} {pos p pos2 : Pos}
theorem s_forR1 (hp : PassesOwn (model X.prog X.w) X.A X.env X.xe) (hc : X.calm = true) (hg : Gl X "range") (hm : X.mg "range" = none) (he : PE X e te) (hgt : PG X tg g) (hb : PSs X body tb)
    (hst : starEach [e] X.env = [(false, eval e X.env)] := by rfl) (hs : ∀ x, foldedSetIterable (.Call (.Name "range" p) [e] [] pos2) X.env x = pure x := by intro _; rfl) :
    PS X (.For tg (.Call (.Name "range" p) [e] [] pos2) body [] pos) (zForR1 te g tb) :=
  ps_imp (ps_for hp hc (pi_range1 hg hm (pa_cons (pe_up he) pa_nil hst) hst) hgt hb hs) fun D σ H q => ⟨_, fun v H1 q => by
    obtain ⟨n, en, ⟨h1, h2⟩, q6⟩ := intAt_ok q
    subst en
    exact ⟨n, rfl, h1, h2, q6⟩, q⟩
theorem s_forR2 (hp : PassesOwn (model X.prog X.w) X.A X.env X.xe) (hc : X.calm = true) (hg : Gl X "range") (hm : X.mg "range" = none) (ha : PE X e2 ta) (he : PE X e te) (hgt : PG X tg g) (hb : PSs X body tb)
    (hst : starEach [e2, e] X.env = [(false, eval e2 X.env), (false, eval e X.env)] := by rfl) (hst2 : starEach [e] X.env = [(false, eval e X.env)] := by rfl) (hs : ∀ x, foldedSetIterable (.Call (.Name "range" p) [e2, e] [] pos2) X.env x = pure x := by intro _; rfl) :
    PS X (.For tg (.Call (.Name "range" p) [e2, e] [] pos2) body [] pos) (zForR2 ta te g tb) :=
  ps_imp (ps_for hp hc (pi_range2 hg hm (pa_cons (pe_up ha) (pa_cons (pe_up he) pa_nil hst2) (hst.trans (by rw [hst2]))) hst hst2) hgt hb hs) fun D σ H q => ⟨_, fun u H1 q => ⟨_, fun v H2 q => by
    obtain ⟨m, em, q5⟩ := intAt_ok q
    obtain ⟨n, en, ⟨h1, h2⟩, q6⟩ := intAt_ok q5
    subst em en
    exact ⟨m, n, rfl, ⟨h1, h2⟩, q6⟩, q⟩, q⟩
theorem s_forL (hp : PassesOwn (model X.prog X.w) X.A X.env X.xe) (hc : X.calm = true) (he : PE X e te) (hgt : PG X tg g) (hb : PSs X body tb)
    (hs : ∀ x, foldedSetIterable e X.env x = pure x := by intro _; rfl) : PS X (.For tg e body [] pos) (zForL X.K te g tb) :=
  ps_imp (ps_for hp hc (pi_list (pe_up he)) hgt hb hs) fun D σ H q => ⟨_, fun v H1 q => by
    obtain ⟨a, en, h1, q6⟩ := refAt_ok q
    subst en
    exact ⟨a, rfl, h1, q6⟩, q⟩
theorem s_forT (hp : PassesOwn (model X.prog X.w) X.A X.env X.xe) (hc : X.calm = true) (he : PE X e te) (hgt : PG X tg g) (hb : PSs X body tb)
    (hs : ∀ x, foldedSetIterable e X.env x = pure x := by intro _; rfl) : PS X (.For tg e body [] pos) (zForT X.K te g tb) :=
  ps_imp (ps_for hp hc (pi_tup (pe_up he)) hgt hb hs) fun D σ H q => ⟨_, fun v H1 q => by
    obtain ⟨a, en, h1, q6⟩ := refAt_ok q
    subst en
    exact ⟨a, rfl, h1, q6⟩, q⟩
end
theorem loopR {lo : Int} {n : Nat} {g : TG} {tb : TS} {D : Ends} {σ : L2.St} {H : Hp} (Pv : Nat → L2.St → Hp → Prop) (h0 : Pv 0 σ H)
    (hs : ∀ i σ H, i < n → Pv i σ H → g (.int (lo + i)) σ H fun σ2 H2 => tb { D with nx := Pv (i + 1), ct := Pv (i + 1), bk := D.nx } σ2 H2) (hd : ∀ σ H, Pv n σ H → D.nx σ H) : loopOn (Itr lo n) g tb D σ H := for_range Pv h0 hs hd
theorem loopL {K : PySem.W.Frag} {a : Addr} {xs : List V} {g : TG} {tb : TS} {D : Ends} {σ : L2.St} {H : Hp} (Pv : Nat → L2.St → Hp → Prop) (h0 : Pv 0 σ H) (hl : ∀ i σ H, i ≤ xs.length → Pv i σ H → SqL K H a xs)
    (hs : ∀ i x σ H, xs[i]? = some x → Pv i σ H → g x σ H fun σ2 H2 => tb { D with nx := Pv (i + 1), ct := Pv (i + 1), bk := D.nx } σ2 H2) (hd : ∀ σ H, Pv xs.length σ H → D.nx σ H) : loopOn (Itl K a) g tb D σ H := for_list Pv h0 hl hs hd
theorem loopT {K : PySem.W.Frag} {a : Addr} {xs : List V} {g : TG} {tb : TS} {D : Ends} {σ : L2.St} {H : Hp} (Pv : Nat → L2.St → Hp → Prop) (h0 : Pv 0 σ H) (hl : ∀ i σ H, i ≤ xs.length → Pv i σ H → SqT K H a xs)
    (hs : ∀ i x σ H, xs[i]? = some x → Pv i σ H → g x σ H fun σ2 H2 => tb { D with nx := Pv (i + 1), ct := Pv (i + 1), bk := D.nx } σ2 H2) (hd : ∀ σ H, Pv xs.length σ H → D.nx σ H) : loopOn (Itt K a) g tb D σ H := for_tup Pv h0 hl hs hd

/-! ### comprehensions -/
def compOn (J : It) (g : TG) (tt : TT) (te : TE) (vs : List Nat) : TE := fun σ H1 Q => ∀ D, H1 D = none → ∃ W : Nat → Nat → Hp → Prop, (∃ m, W 0 m (upd H1 D (.lst []))) ∧ ∀ i m H, W i m H →
  (J.stop i H ∧ Q (.ref D) H) ∨ (J.go i H ∧ ∃ Nx : Hp → Prop, (∀ H', Nx H' → ∃ m', m' < m ∧ W (i + 1) m' H') ∧ ∀ x H', J.yld i H x H' → g x (wipe σ vs) H' fun σ2 H2 => wipe σ2 vs = wipe σ vs ∧ tt σ2 H2 fun b H3 =>
    if b = true then te σ2 H3 fun y H4 => ∃ acc, H4 D = some (.lst acc) ∧ acc.length < sizeLine ∧ Nx (upd H4 D (.lst (acc ++ [y]))) else Nx H3)
def iR1 (te : TE) : TI := fun σ H R => te σ H fun v H1 => intAt v fun n => (-(2 ^ 62) ≤ n ∧ n < 2 ^ 62) ∧ R (Itr 0 n.toNat) H1
def iR2 (ta te : TE) : TI := fun σ H R => ta σ H fun u H1 => te σ H1 fun v H2 => intAt u fun m => intAt v fun n => (-(2 ^ 62) ≤ m ∧ m < 2 ^ 62 ∧ -(2 ^ 62) ≤ n ∧ n < 2 ^ 62) ∧ R (Itr m (n - m).toNat) H2
def iL (K : PySem.W.Frag) (te : TE) : TI := fun σ H R => te σ H fun v H1 => refAt v fun a => (∃ xs, SqL K H1 a xs) ∧ R (Itl K a) H1
def iT (K : PySem.W.Frag) (te : TE) : TI := fun σ H R => te σ H fun v H1 => refAt v fun a => (∃ xs, SqT K H1 a xs) ∧ R (Itt K a) H1
def zLc (wi : TI) (g : TG) (tt : TT) (te : TE) (vs : List Nat) : TE := fun σ H Q => wi σ H fun J H1 => compOn J g tt te vs σ H1 Q
theorem pi_imp {X : Cx} {tg it : Expr} {w w' : TI} (h : PI X tg it w) (k : ∀ σ H R, w' σ H R → w σ H R) : PI X tg it w' := ⟨fun pins s σ H R I q => h.run pins s σ H R I (k σ H R q)⟩
section
variable {X : Cx} {tg e e2 : Expr} {te ta : TE} {p pos2 : Pos}
theorem i_r1 (hg : Gl X "range") (hm : X.mg "range" = none) (he : PE X e te) (hst : starEach [e] X.env = [(false, eval e X.env)] := by rfl) : PI X tg (.Call (.Name "range" p) [e] [] pos2) (iR1 te) :=
  pi_imp (pi_range1 hg hm (pa_cons (pe_up he) pa_nil hst) hst) fun σ H R q => ⟨_, fun v H1 q => by
    obtain ⟨n, en, ⟨h1, h2⟩, q6⟩ := intAt_ok q
    subst en
    exact ⟨n, rfl, h1, h2, q6⟩, q⟩
theorem i_r2 (hg : Gl X "range") (hm : X.mg "range" = none) (ha : PE X e2 ta) (he : PE X e te) (hst : starEach [e2, e] X.env = [(false, eval e2 X.env), (false, eval e X.env)] := by rfl) (hst2 : starEach [e] X.env = [(false, eval e X.env)] := by rfl) : PI X tg (.Call (.Name "range" p) [e2, e] [] pos2) (iR2 ta te) :=
  pi_imp (pi_range2 hg hm (pa_cons (pe_up ha) (pa_cons (pe_up he) pa_nil hst2) (hst.trans (by rw [hst2]))) hst hst2) fun σ H R q => ⟨_, fun u H1 q => ⟨_, fun v H2 q => by
    obtain ⟨m, em, q5⟩ := intAt_ok q
    obtain ⟨n, en, ⟨h1, h2⟩, q6⟩ := intAt_ok q5
    subst em en
    exact ⟨m, n, rfl, ⟨h1, h2⟩, q6⟩, q⟩, q⟩
theorem i_l (he : PE X e te) : PI X tg e (iL X.K te) := pi_imp (pi_list (pe_up he)) fun σ H R q => ⟨_, fun v H1 q => by
    obtain ⟨a, en, h1, q6⟩ := refAt_ok q
    subst en
    exact ⟨a, rfl, h1, q6⟩, q⟩
theorem i_t (he : PE X e te) : PI X tg e (iT X.K te) := pi_imp (pi_tup (pe_up he)) fun σ H R q => ⟨_, fun v H1 q => by
    obtain ⟨a, en, h1, q6⟩ := refAt_ok q
    subst en
    exact ⟨a, rfl, h1, q6⟩, q⟩
end
theorem compR {lo : Int} {n : Nat} {g : TG} {tt : TT} {te : TE} {vs : List Nat} {σ : L2.St} {H1 : Hp} {Q : VK} (Pv : Addr → Nat → Hp → Prop) (h0 : ∀ D, H1 D = none → Pv D 0 (upd H1 D (.lst [])))
    (hs : ∀ D i H, H1 D = none → i < n → Pv D i H → g (.int (lo + i)) (wipe σ vs) H fun σ2 H2 => wipe σ2 vs = wipe σ vs ∧ tt σ2 H2 fun b H3 =>
      if b = true then te σ2 H3 fun y H4 => ∃ acc, H4 D = some (.lst acc) ∧ acc.length < sizeLine ∧ Pv D (i + 1) (upd H4 D (.lst (acc ++ [y]))) else Pv D (i + 1) H3) (hd : ∀ D H, H1 D = none → Pv D n H → Q (.ref D) H) :
    compOn (Itr lo n) g tt te vs σ H1 Q := fun D hD => lc_range (Pv D) (h0 D hD) (fun i H hi p => hs D i H hD hi p) (fun H p => hd D H hD p)
theorem compL {K : PySem.W.Frag} {a : Addr} {xs : List V} {g : TG} {tt : TT} {te : TE} {vs : List Nat} {σ : L2.St} {H1 : Hp} {Q : VK} (Pv : Addr → Nat → Hp → Prop) (h0 : ∀ D, H1 D = none → Pv D 0 (upd H1 D (.lst []))) (hl : ∀ D i H, H1 D = none → i ≤ xs.length → Pv D i H → SqL K H a xs)
    (hs : ∀ D i x H, H1 D = none → xs[i]? = some x → Pv D i H → g x (wipe σ vs) H fun σ2 H2 => wipe σ2 vs = wipe σ vs ∧ tt σ2 H2 fun b H3 =>
      if b = true then te σ2 H3 fun y H4 => ∃ acc, H4 D = some (.lst acc) ∧ acc.length < sizeLine ∧ Pv D (i + 1) (upd H4 D (.lst (acc ++ [y]))) else Pv D (i + 1) H3) (hd : ∀ D H, H1 D = none → Pv D xs.length H → Q (.ref D) H) :
    compOn (Itl K a) g tt te vs σ H1 Q := fun D hD => lc_list (Pv D) (h0 D hD) (fun i H hi p => hl D i H hD hi p) (fun i x H hx p => hs D i x H hD hx p) (fun H p => hd D H hD p)

/-! ### properties, constants of a class -/
def zProp (C : Addr) (sp : Sp) (dvs : List V) (E : XK) (ta : TE) : TE := fun σ H Q => ta σ H fun x H1 => insAt H1 x fun a C' dx fs => C' = C ∧ sp (.ref a :: dvs) H1 Q E
section
variable {X : Cx} {k j : Nat} {C p g : Addr} {f : Str} {fd : FuncData} {ps : List Str} {sp : Sp} {dvs : List V} {ds : List Value} {E : XK} {e : Expr} {pos : Pos} {ta : TE}
theorem e_prop (he : PE X e ta) (c : Cls X.K C) (hp : PropOf X.K C f p g) (F : FnOk X.prog X.w X.K X.mg X.base C8.CX0 k g fd ps sp) (hr : Room j X.A) (hk : k + 1 ≤ j) (hb : Binds X.K fd ps ds) (hd : Vals dvs ds)
    (hab : attributeBase e f X.env (eval e X.env) = eval e X.env := by rfl) : PE X (.Attribute e f pos) (zProp C sp dvs E ta) :=
  pe_imp (pe_prop (pe_up he) c hp F (hr.mono hk) hb hd (C8.pass0 (X := X.nox) (E := E)) hab) fun σ H Q q => ⟨_, fun x H1 q => by
    obtain ⟨a, C', dx, fs, ex, ha, ec, q3⟩ := insAt_ok q
    rw [ec] at ha
    exact ⟨a, dx, fs, ex, ha, q3⟩, q⟩
theorem e_propC (he : PE X e ta) (c : Cls X.K C) (hp : PropOf X.K C f p g) (F : ∃ fd, FnOk X.prog X.w X.K X.mg X.base C8.CX0 k g fd ps sp ∧ PySem.W.keepIn X.K (.ref g) = true ∧ L2.Binds X.K fd ps []) (hr : Room j X.A) (hk : k + 1 ≤ j)
    (hab : attributeBase e f X.env (eval e X.env) = eval e X.env := by rfl) : PE X (.Attribute e f pos) (zProp C sp [] E ta) := by
  obtain ⟨fd, F, _, b⟩ := F
  exact e_prop he c hp F hr hk b .nil hab
end

/-! ### small facts for readings -/
theorem at0 {α : Type} {a : α} {l : List α} : atI (a :: l) 0 = some a := by
  unfold atI ixN; rw [if_pos (by decide), if_pos (by simp only [List.length_cons]; omega)]; rfl
theorem at1 {α : Type} {a b : α} {l : List α} : atI (a :: b :: l) 1 = some b := by
  unfold atI ixN; rw [if_pos (by decide), if_pos (by simp only [List.length_cons]; omega)]; rfl
theorem at2 {α : Type} {a b c : α} {l : List α} : atI (a :: b :: c :: l) 2 = some c := by
  unfold atI ixN; rw [if_pos (by decide), if_pos (by simp only [List.length_cons]; omega)]; rfl
theorem ix0 {α : Type} {a : α} {l : List α} : ixN (a :: l).length 0 = some 0 := by
  unfold ixN; rw [if_pos (by decide), if_pos (by simp only [List.length_cons]; omega)]; rfl
theorem ix1 {α : Type} {a b : α} {l : List α} : ixN (a :: b :: l).length 1 = some 1 := by
  unfold ixN; rw [if_pos (by decide), if_pos (by simp only [List.length_cons]; omega)]; rfl
theorem ix2 {α : Type} {a b c : α} {l : List α} : ixN (a :: b :: c :: l).length 2 = some 2 := by
  unfold ixN; rw [if_pos (by decide), if_pos (by simp only [List.length_cons]; omega)]; rfl
theorem upd_comm {H : Hp} {a b : Addr} {o u : HO} (h : a ≠ b) : upd (upd H a o) b u = upd (upd H b u) a o := by
  funext c
  unfold upd
  by_cases h1 : c = b
  · by_cases h2 : c = a
    · exact absurd (h2.symm.trans h1) h
    · simp [h1, h2, Ne.symm h]
  · simp [h1]

/-! ### comprehensions that leave what stood -/
/-- J gives item 0 .. item (n - 1), whatever is new -/
def Steady (J : It) (n : Nat) (item : Nat → V) (H1 : Hp) : Prop := ∀ H', Same H1 H' → (∀ i, n ≤ i → J.stop i H') ∧ (∀ i, i < n → J.go i H') ∧ ∀ i x H'', i < n → J.yld i H' x H'' → H'' = H' ∧ x = item i
theorem steady_l {K : PySem.W.Frag} {a : Addr} {xs : List V} {H1 : Hp} (h : SqL K H1 a xs) : Steady (Itl K a) xs.length (fun i => xs.getD i .non) H1 := fun H' s => by
  have h' := s.seq h
  refine ⟨fun i hi => ⟨xs, h', hi⟩, fun i hi => ⟨xs, xs[i], h', by simp [hi]⟩, fun i x H'' hi y => ?_⟩
  obtain ⟨e, y⟩ := y
  have e2 := y xs h'
  refine ⟨e, ?_⟩
  show x = xs.getD i V.non
  rw [List.getD_eq_getElem?_getD, e2] <;> rfl
theorem steady_t {K : PySem.W.Frag} {a : Addr} {xs : List V} {H1 : Hp} (h : H1 a = some (.tup xs)) : Steady (Itt K a) xs.length (fun i => xs.getD i .non) H1 := fun H' s => by
  have h' : SqT K H' a xs := SqT.of (s _ _ h)
  refine ⟨fun i hi => ⟨xs, h', hi⟩, fun i hi => ⟨xs, xs[i], h', by simp [hi]⟩, fun i x H'' hi y => ?_⟩
  obtain ⟨e, y⟩ := y
  have e2 := y xs h'
  refine ⟨e, ?_⟩
  show x = xs.getD i V.non
  rw [List.getD_eq_getElem?_getD, e2] <;> rfl
theorem steady_r {lo : Int} {n : Nat} {H1 : Hp} : Steady (Itr lo n) n (fun i => .int (lo + i)) H1 := fun H' _ => ⟨fun _ hi => hi, fun _ hi => hi, fun _ _ _ _ y => y⟩
theorem comp_core {J : It} {n : Nat} {item : Nat → V} {g : TG} {tt : TT} {te : TE} {vs : List Nat} {σ : L2.St} {H1 : Hp} {Q : VK} (S : Steady J n item H1) (Pv : Addr → Nat → Hp → Prop) (hsame : ∀ D i H, H1 D = none → Pv D i H → Same H1 H)
    (h0 : ∀ D, H1 D = none → Pv D 0 (upd H1 D (.lst [])))
    (hs : ∀ D i H, H1 D = none → i < n → Pv D i H → g (item i) (wipe σ vs) H fun σ2 H2 => wipe σ2 vs = wipe σ vs ∧ tt σ2 H2 fun b H3 =>
      if b = true then te σ2 H3 fun y H4 => ∃ acc, H4 D = some (.lst acc) ∧ acc.length < sizeLine ∧ Pv D (i + 1) (upd H4 D (.lst (acc ++ [y]))) else Pv D (i + 1) H3) (hd : ∀ D H, H1 D = none → Pv D n H → Q (.ref D) H) :
    compOn J g tt te vs σ H1 Q := by
  intro D hD
  refine ⟨fun i m H => m = n - i ∧ i ≤ n ∧ Pv D i H, ⟨n, by simp, Nat.zero_le _, h0 D hD⟩, ?_⟩
  rintro i m H ⟨rfl, hi, p⟩
  obtain ⟨s1, s2, s3⟩ := S H (hsame D i H hD p)
  by_cases hlt : i < n
  · refine .inr ⟨s2 i hlt, Pv D (i + 1), fun H' p' => ⟨n - (i + 1), by omega, rfl, hlt, p'⟩, fun x H' y => ?_⟩
    obtain ⟨e1, e2⟩ := s3 i x H' hlt y
    rw [e1, e2]
    exact hs D i H hD hlt p
  · have e : i = n := by omega
    subst e
    exact .inl ⟨s1 i (Nat.le_refl _), hd D H hD p⟩
/-- elements that are new tuples -/
theorem comp_tups {J : It} {n j : Nat} {item : Nat → V} {te : TE} {vs : List Nat} {σ : L2.St} {H1 : Hp} {Q : VK} (S : Steady J n item H1) (hn : n < sizeLine) (f : Nat → List V) (hw : ∀ x, wipe ((wipe σ vs).set j (some x)) vs = wipe σ vs)
    (he : ∀ i H', i < n → Same H1 H' → ∀ Q' : VK, (∀ t, H' t = none → Q' (.ref t) (upd H' t (.tup (f i)))) → te ((wipe σ vs).set j (some (item i))) H' Q')
    (k : ∀ (D : Addr) (H' : Hp) (ts : List Addr), H1 D = none → Same H1 H' → ts.length = n → H' D = some (.lst (ts.map V.ref)) → (∀ (i : Nat) t, ts[i]? = some t → H' t = some (.tup (f i))) → Q (.ref D) H') : compOn J (gName j) tYes te vs σ H1 Q := by
  refine comp_core S (fun D i H' => Same H1 H' ∧ ∃ ts : List Addr, ts.length = i ∧ H' D = some (.lst (ts.map V.ref)) ∧ ∀ (j : Nat) t, ts[j]? = some t → H' t = some (.tup (f j))) (fun D i H _ p => p.1) ?_ ?_ ?_
  · intro D hD
    refine ⟨fun b o e => by rw [upd_ne (ne_of_none e hD)]; exact e, [], rfl, upd_same, fun j t h => by simp at h⟩
  · rintro D i H hD hi ⟨s, ts, hl, hDl, ht⟩
    refine ⟨hw _, ?_⟩
    show te ((wipe σ vs).set j (some (item i))) H _
    refine he i H hi s _ fun t htn => ?_
    have nDt : D ≠ t := ne_of_none hDl htn
    refine ⟨ts.map V.ref, by rw [upd_ne nDt]; exact hDl, by rw [List.length_map]; omega, fun b o e => ?_, ts ++ [t], by rw [List.length_append, hl] <;> rfl, by rw [upd_same, List.map_append] <;> rfl, fun j' t' h => ?_⟩
    · rw [upd_ne (ne_of_none e hD), upd_ne (ne_of_none (s b o e) htn)]
      exact s b o e
    · by_cases hj : j' < ts.length
      · rw [List.getElem?_append_left hj] at h
        have h' := ht j' t' h
        rw [upd_ne (ne_of h' hDl (by intro z; cases z)), upd_ne (ne_of_none h' htn)]
        exact h'
      · rw [List.getElem?_append_right (by omega)] at h
        have hj2 : j' - ts.length = 0 := by
          have := (List.getElem?_eq_some_iff.mp h).1
          simp at this
          omega
        rw [hj2] at h
        have e1 : t = t' := by simpa using h
        subst e1
        rw [upd_ne nDt.symm, upd_same]
        have : j' = i := by omega
        rw [this]
  · rintro D H hD ⟨s, ts, hl, hDl, ht⟩
    exact k D H ts hD s hl hDl ht
/-- elements that are values -/
theorem comp_vals {J : It} {n j : Nat} {item : Nat → V} {te : TE} {vs : List Nat} {σ : L2.St} {H1 : Hp} {Q : VK} (S : Steady J n item H1) (hn : n < sizeLine) (f : Nat → V) (hw : ∀ x, wipe ((wipe σ vs).set j (some x)) vs = wipe σ vs)
    (he : ∀ i H', i < n → Same H1 H' → ∀ Q' : VK, Q' (f i) H' → te ((wipe σ vs).set j (some (item i))) H' Q')
    (k : ∀ D, H1 D = none → Q (.ref D) (upd H1 D (.lst ((List.range n).map f)))) : compOn J (gName j) tYes te vs σ H1 Q := by
  refine comp_core S (fun D i H' => H' = upd H1 D (.lst ((List.range i).map f))) (fun D i H hD p b o e => ?_) (fun D _ => rfl) ?_ ?_
  · rw [p, upd_ne (ne_of_none e hD)]
    exact e
  · rintro D i H hD hi rfl
    refine ⟨hw _, ?_⟩
    show te ((wipe σ vs).set j (some (item i))) _ _
    refine he i _ hi (fun b o e => by rw [upd_ne (ne_of_none e hD)]; exact e) _ ⟨_, upd_same, by rw [List.length_map, List.length_range]; omega, ?_⟩
    rw [upd_upd, List.range_succ, List.map_append] <;> rfl
  · rintro D H hD rfl
    exact k D hD
/-- a tuple of tuples of flat things, as data -/
theorem dp_all {K : PySem.W.Frag} {H : Hp} : ∀ {vs : List V} {ds : List PyData}, vs.length = ds.length → (∀ (i : Nat) v d, vs[i]? = some v → ds[i]? = some d → Dp K H v d) → DpAll K H vs ds
  | [], [], _, _ => .nil
  | [], _ :: _, h, _ => by cases h
  | _ :: _, [], h, _ => by cases h
  | v :: vs, d :: ds, h, k => .cons (k 0 v d rfl rfl) (dp_all (by simpa using h) fun i v' d' h1 h2 => k (i + 1) v' d' (by simpa using h1) (by simpa using h2))

/-! ### data that == takes -/
theorem shaped_of {d : PyData} {n : Nat} (h1 : d.canLay0 = true) (h2 : d.depth ≤ n) (hn : n ≤ 64) : SeqAt.shaped d = true := by
  unfold SeqAt.shaped
  rw [h1, Bool.true_and]
  exact decide_eq_true (Nat.le_trans h2 hn)
theorem lay_all : ∀ {l : List PyData}, (∀ x ∈ l, x.canLay0 = true) → PyData.canLayAll0 l = true
  | [], _ => by simp only [PyData.canLayAll0]
  | x :: r, h => by
    simp only [PyData.canLayAll0, Bool.and_eq_true]
    exact ⟨h x (List.mem_cons_self ..), lay_all fun y hy => h y (List.mem_cons_of_mem _ hy)⟩
theorem depth_all {n : Nat} : ∀ {l : List PyData}, (∀ x ∈ l, x.depth ≤ n) → PyData.depthAll l ≤ n
  | [], _ => by simp only [PyData.depthAll]; exact Nat.zero_le _
  | x :: r, h => by
    simp only [PyData.depthAll]
    exact Nat.max_le.mpr ⟨h x (List.mem_cons_self ..), depth_all fun y hy => h y (List.mem_cons_of_mem _ hy)⟩
theorem lay_list {l : List PyData} (h : ∀ x ∈ l, x.canLay0 = true) : (PyData.list l).canLay0 = true := by simp only [PyData.canLay0]; exact lay_all h
theorem lay_tuple {l : List PyData} (h : ∀ x ∈ l, x.canLay0 = true) : (PyData.tuple l).canLay0 = true := by simp only [PyData.canLay0]; exact lay_all h
theorem depth_list {n : Nat} {l : List PyData} (h : ∀ x ∈ l, x.depth ≤ n) : (PyData.list l).depth ≤ n + 1 := by simp only [PyData.depth]; exact Nat.succ_le_succ (depth_all h)
theorem depth_tuple {n : Nat} {l : List PyData} (h : ∀ x ∈ l, x.depth ≤ n) : (PyData.tuple l).depth ≤ n + 1 := by simp only [PyData.depth]; exact Nat.succ_le_succ (depth_all h)
/-- two equal data -/
theorem ne_same {K : PySem.W.Frag} {x y : V} {H : Hp} {Q : VK} {d : PyData} (h1 : Dp K H x d) (h2 : Dp K H y d) (hs : SeqAt.shaped d = true) (q : Q (.bl false) H) : rNeD K x y H Q :=
  ⟨d, d, h1, h2, hs, hs, by rw [SeqAt.eqv_refl d (SeqAt.canLay_of_shaped hs)]; exact q⟩
theorem eq_same {K : PySem.W.Frag} {x y : V} {H : Hp} {Q : VK} {d : PyData} (h1 : Dp K H x d) (h2 : Dp K H y d) (hs : SeqAt.shaped d = true) (q : Q (.bl true) H) : rEqD K x y H Q :=
  ⟨d, d, h1, h2, hs, hs, by rw [SeqAt.eqv_refl d (SeqAt.canLay_of_shaped hs)]; exact q⟩

theorem sqT_same {K : PySem.W.Frag} {H H' : Hp} {a : Addr} {xs : List V} (e : Same H H') (h : SqT K H a xs) : SqT K H' a xs := by
  rcases h with (h | ⟨o, h⟩) | h
  · exact .inl (.inl (e _ _ h))
  · exact .inl (.inr ⟨o, e _ _ h⟩)
  · exact .inr h
mutual
theorem dp_same {K : PySem.W.Frag} {H H' : Hp} (s : Same H H') : ∀ (d : PyData) (v : V), Dp K H v d → Dp K H' v d
  | .none, _, h => by cases h; exact .non
  | .bool b, _, h => by cases h; exact .bl b
  | .int i, _, h => by cases h; exact .int i
  | .str x, _, h => by cases h; exact .str x
  | .list ds, _, h => by
    cases h with
    | lst hs ha => exact .lst (s.seq hs) (dpAll_same s ds _ ha)
  | .tuple ds, _, h => by
    cases h with
    | tup hs ha => exact .tup (sqT_same s hs) (dpAll_same s ds _ ha)
  | .dict _, _, h => by cases h
theorem dpAll_same {K : PySem.W.Frag} {H H' : Hp} (s : Same H H') : ∀ (ds : List PyData) (vs : List V), DpAll K H vs ds → DpAll K H' vs ds
  | [], _, h => by cases h; exact .nil
  | d :: ds, _, h => by
    cases h with
    | cons h1 h2 => exact .cons (dp_same s d _ h1) (dpAll_same s ds _ h2)
end
end Z
namespace Hk
open PySem PySem.Spec PyProof.Rows L2
/-! ### a def at a path -/
structure DP where
  at_ : PySem.W.Frag → Addr
  name : Str
  qual : Str
  params : Arguments
  body : List Stmt
  scope : Scope
  dfl : List He.Dv := []
  kwd : List (Str × He.Dv) := []
def fnW (K : PySem.W.Frag) (a : Addr) : He.FnW := match K.lookup a with
  | some ⟨_, _, .func fd, _⟩ => some (fd.name, fd.qualname, fd.params, fd.body, fd.scope, fd.globals, fd.closure, fd.builtins)
  | _ => none
def DP.val (d : DP) : He.FnW := some (d.name, d.qual, d.params, .stmts d.body, d.scope, mainGlobals, [], builtinsNs)
def DP.dvs (K : PySem.W.Frag) (d : DP) : List V := d.dfl.map (He.Dv.v K)
def DP.kws (K : PySem.W.Frag) (d : DP) : List (Str × V) := d.kwd.map fun q => (q.1, q.2.v K)
def DP.ok (K : PySem.W.Frag) (d : DP) : Bool := PySem.W.keepIn K (.ref (d.at_ K)) && (match K.lookup (d.at_ K) with
  | some ⟨_, _, .func fd, _⟩ => PySem.W.codeIn K fd.code d.qual && (He.dflB K fd.defaults (d.dvs K) && He.kwdB K fd.kwdefaults (d.kws K))
  | _ => false)
theorem DP.funD {K : PySem.W.Frag} {d : DP} (e : fnW K (d.at_ K) = d.val) (c : d.ok K = true) : ∃ fd, FunD K d.name d.qual d.params d.body d.scope (d.dvs K) (d.kws K) (d.at_ K) fd := by
  obtain ⟨kp, c2⟩ := He.ba c
  unfold fnW at e
  cases q : K.lookup (d.at_ K) with
  | none =>
    rw [q] at c2
    cases c2
  | some o =>
    obtain ⟨oc, od, dt, osl⟩ := o
    rw [q] at c2 e
    cases dt with
    | func fd =>
      obtain ⟨n1, n2, n3, n4, n5, n6, n7, n8, n9, n10, n11, n12, n13, n14, n15⟩ := fd
      have e2 : (some (n1, n2, n3, n4, n5, n6, n7, n15) : He.FnW) = some (d.name, d.qual, d.params, .stmts d.body, d.scope, mainGlobals, [], builtinsNs) := e
      simp only [Option.some.injEq, Prod.mk.injEq] at e2
      obtain ⟨h1, h2, h3, h4, h5, h6, h7, h8⟩ := e2
      subst h1 h2 h3 h4 h5 h6 h7 h8
      have c3 : (PySem.W.codeIn K n13 d.qual && (He.dflB K n8 (d.dvs K) && He.kwdB K n9 (d.kws K))) = true := c2
      obtain ⟨k1, k2⟩ := He.ba c3
      obtain ⟨k3, k4⟩ := He.ba k2
      exact ⟨_, ⟨oc, od, n8, n9, n10, n11, n12, n13, n14, osl, rfl, q, k1, He.dflB_ok k3, He.kwdB_ok k4⟩, kp⟩
    | _ => cases c2
/-! ### facts -/
abbrev Fact := PySem.W.Frag → Bool
def Fact.of (f : He.Fa) : Fact := fun K => f.ok K
/-- a property's own address, its getter's -/
def prG (C f : Str) (K : PySem.W.Frag) : Addr := match PySem.W.recIn K (He.ma K (He.ga K C) f) "property" with
  | some (.ref g :: _) => g
  | _ => 0
def propB (C f : Str) : Fact := fun K => He.eqO (PySem.W.findIn K (.ref (He.ga K C)) f) (some (some (.ref (He.ma K (He.ga K C) f)))) &&
  (He.eqO (PySem.W.specialIn K (.ref (He.ma K (He.ga K C) f)) "__get__") (some (some (.builtin "property.__get__"))) &&
  (decide (PySem.W.takesIn K (.ref (He.ma K (He.ga K C) f)) = some true) && (match PySem.W.recIn K (He.ma K (He.ga K C) f) "property" with
    | some (.ref _ :: _) => true
    | _ => false)))
theorem propB_ok {K : PySem.W.Frag} {C f : Str} (h : propB C f K = true) : PropOf K (He.ga K C) f (He.ma K (He.ga K C) f) (prG C f K) := by
  obtain ⟨h1, h⟩ := He.ba h
  obtain ⟨h2, h⟩ := He.ba h
  obtain ⟨h3, h4⟩ := He.ba h
  refine ⟨He.eqO_ok h1, He.eqO_ok h2, of_decide_eq_true h3, ?_⟩
  unfold prG
  split at h4
  · rename_i g rest e
    rw [e]
    exact ⟨rest, rfl⟩
  · cases h4
/-- C.f is a constant of the class -/
def CK (K : PySem.W.Frag) (C : Addr) (f : Str) (v : V) : Prop := ∃ mc u, ClX.CRead K C mc ∧ ClX.CVal K C mc f v u
def cvalB (C f : Str) (v : V) : Fact := fun K => PySem.W.readsIn K (He.ga K C) (.type "type") && (He.eqO (PySem.W.specialIn K (.ref (He.ga K C)) "__getattribute__") (some (some (.builtin "type.__getattribute__"))) &&
  (match PySem.W.findCls K (.ref (He.ga K C)) (.type "type") f with
    | some (.val u) => He.relB v u
    | _ => false))
theorem cvalB_ok {K : PySem.W.Frag} {C f : Str} {v : V} (h : cvalB C f v K = true) : CK K (He.ga K C) f v := by
  obtain ⟨h1, h⟩ := He.ba h
  obtain ⟨h2, h3⟩ := He.ba h
  split at h3
  · rename_i u e
    exact ⟨_, u, ⟨h1, He.eqO_ok h2⟩, ⟨e, He.relB_ok h3⟩⟩
  · cases h3
theorem e_cval {X : Cx} {C : Addr} {x f : Str} {v : V} {p pos : Pos} (hg : Gl X x) (hm : X.mg x = some (.ref C)) (k : CK X.K C f v) (hd : (x == ("__debug__" : Str)) = false := by decide) (hb : attributeBase (.Name x p) f X.env (eval (.Name x p) X.env) = eval (.Name x p) X.env := by rfl) :
    PE X (.Attribute (.Name x p) f pos) (tC v) := by
  obtain ⟨mc, u, r, c⟩ := k
  exact Z.pe_imp (ClX.pe_cval (pe_glob (v := .ref C) hg hm rfl hd) hb) fun σ H Q q => ⟨C, mc, v, u, rfl, r, c, q⟩
/-! ### the Hook -/
def frag (n : Nat) (g : Addr → Option Obj) : PySem.W.Frag := He.frG g (He.asD g n ++ [cStatics])
abbrev Al : Type := Bool × List He.FnW
def obsP (fa : List Fact) (fn : List DP) (K : PySem.W.Frag) : Al := ((fa.all fun f => f K) && fn.all fun d => d.ok K, fn.map fun d => fnW K (d.at_ K))
def valP (fn : List DP) : Al := (true, fn.map DP.val)
def Says (fa : List Fact) (fn : List DP) (K : PySem.W.Frag) : Prop := obsP fa fn K = valP fn
def obsG (n : Nat) (fa : List Fact) (fn : List DP) (g : Addr → Option Obj) : Al := obsP fa fn (frag n g)
def hook (n : Nat) (fa : List Fact) (fn : List DP) : PySem.W.Hook where
  α := Al
  obs := fun s => obsG n fa fn s.heap.get?
  val := fun _ => valP fn
  says := fun _ h => ∃ K : PySem.W.Frag, K.In h ∧ Says fa fn K
  of := fun _ _ e => ⟨_, He.frG_in, e⟩
  keeps := fun _ _ _ ⟨K, hK, c⟩ k => ⟨K, PySem.W.Frag.In.keeps hK k, c⟩
theorem obsG_eq {n : Nat} {fa : List Fact} {fn : List DP} {g : Addr → Option Obj} {s : Shared} (h : ∀ a, g a = s.heap.get? a) : obsG n fa fn g = (hook n fa fn).obs s := by
  have e : g = s.heap.get? := funext h
  rw [e] <;> rfl
section
variable {fa : List Fact} {fn : List DP} {K : PySem.W.Frag}
theorem Says.fact (c : Says fa fn K) (i : Nat) {f : Fact} (h : fa[i]? = some f := by rfl) : f K = true := by
  have c1 := (He.ba (show ((fa.all fun f => f K) && fn.all fun d => d.ok K) = true from congrArg (fun z : Al => z.1) c)).1
  exact List.all_eq_true.mp c1 f (List.mem_of_getElem? h)
theorem Says.def_ (c : Says fa fn K) (i : Nat) {d : DP} (h : fn[i]? = some d := by rfl) : ∃ fd, FunD K d.name d.qual d.params d.body d.scope (d.dvs K) (d.kws K) (d.at_ K) fd := by
  have c2 := (He.ba (show ((fa.all fun f => f K) && fn.all fun d => d.ok K) = true from congrArg (fun z : Al => z.1) c)).2
  have e : fn.map (fun d => fnW K (d.at_ K)) = fn.map DP.val := congrArg (fun z : Al => z.2) c
  have e2 : (fn.map fun d => fnW K (d.at_ K))[i]? = (fn.map DP.val)[i]? := by rw [e]
  rw [List.getElem?_map, List.getElem?_map, h] at e2
  exact DP.funD (Option.some.inj e2) (List.all_eq_true.mp c2 d (List.mem_of_getElem? h))
end
theorem putF_ne {f g : Str} {a b : V} {r : List (Str × V)} (h : ¬ g = f) : putF f a ((g, b) :: r) = (g, b) :: putF f a r := by
  show (if g = f then (g, a) :: r else (g, b) :: putF f a r) = _
  rw [if_neg h]
theorem putF_eq {f : Str} {a b : V} {r : List (Str × V)} : putF f a ((f, b) :: r) = (f, a) :: r := by
  show (if f = f then (f, a) :: r else (f, b) :: putF f a r) = _
  rw [if_pos rfl]
/-! ### calls by names, from a def's promise -/
section
variable {P : Program} {w : World} {K : PySem.W.Frag} {mg : Str → Option Value} {base : Heap} {x qual : Str} {f C : Addr} {st : Stmt}
/-- what of the text a def is -/
abbrev FN (K : PySem.W.Frag) (x qual : Str) (st : Stmt) (f : Addr) : Prop := ∃ fd, FunD K x qual (defArgs st) (defBody st) (defScope st) [] [] f fd
theorem fn_ok {N ps : List Str} {k : Nat} {sp : Sp} {fd : FuncData} (F : FunD K x qual (defArgs st) (defBody st) (defScope st) [] [] f fd) (S : FnScope N ps (defScope st)) (len : ∀ vs H Q E, sp vs H Q E → vs.length = ps.length) {t : TS}
    (hd : ∀ (cdv : Value) (A : Around) (outer : List Env) (s : Shared) (H : Hp) (E : XK), Room k (A.deeper (envOfC qual (defScope st) s.heap.objs.size f cdv)) → PSs (cxOf C8.CX0 P w K mg base N qual (defScope st) f cdv A outer s H E).nox (defBody st) t)
    (hrd : ∀ vs H Q E, sp vs H Q E → t { nx := fun _ H' => Q .non H', rt := Q } (start N vs) H) : FnOk P w K mg base C8.CX0 (k + 1) f fd ps sp :=
  F.ok S len fun cdv A outer s H vs Q E hr h => ⟨t, PSs.nox (hd cdv A outer s H E hr), hrd vs H Q E h⟩
end
end Hk
namespace Z
open PySem PySem.Spec PyProof.Rows L2
/-! ### isinstance -/
structure InsF (K : PySem.W.Frag) (C : Addr) : Prop where
  cl : Cls K C
  ha : PySem.W.findIn K (.ref C) "__class__" = some (some (.builtin "object.__class__"))
  hn : PySem.W.specialIn K (.builtin "object.__class__") "__get__" = some (some (.builtin "getset_descriptor.__get__"))
  htk : PySem.W.takesIn K (.builtin "object.__class__") = some true
  hm : PySem.W.mroIn K C (.type "object") = some true
def tyAt (K : PySem.W.Frag) (H : Hp) (x : V) (R : Value → Prop) : Prop := match x with
  | .int _ => R (.type "int")
  | .bl _ => R (.type "bool")
  | .non => R (.type "NoneType")
  | .str _ => R (.type "str")
  | .ref a => (match H a with
    | some (.lst _) => R (.type "list")
    | some (.tup _) => R (.type "tuple")
    | some (.dK _) => R (.type "dict")
    | some (.ins C _ _) => InsF K C ∧ R (.ref C)
    | _ => False)
  | _ => False
theorem tyAt_ok {K : PySem.W.Frag} {H : Hp} {x : V} {R : Value → Prop} (h : tyAt K H x R) : ∃ t, TyX K H x t ∧ R t := by
  unfold tyAt at h
  split at h
  · exact ⟨_, .base (.int _), h⟩
  · exact ⟨_, .base (.bl _), h⟩
  · exact ⟨_, .base .non, h⟩
  · exact ⟨_, .base (.str _), h⟩
  · split at h
    · exact ⟨_, .base (.lst (by assumption)), h⟩
    · exact ⟨_, .base (.tup (by assumption)), h⟩
    · exact ⟨_, .base (.dK (by assumption)), h⟩
    · exact ⟨_, .base (.ins (by assumption) h.1.cl h.1.ha h.1.hn h.1.htk h.1.hm), h.2⟩
    · exact h.elim
  · exact h.elim
def clsAt (c : V) (R : Value → Prop) : Prop := match c with
  | .ty n => R (.type n)
  | .ref C => R (.ref C)
  | _ => False
theorem clsAt_ok {c : V} {R : Value → Prop} (h : clsAt c R) : ∃ u, ClsV c u ∧ R u := by
  unfold clsAt at h
  split at h
  · exact ⟨_, .ty _, h⟩
  · exact ⟨_, .own _, h⟩
  · exact h.elim
def yIsi (K : PySem.W.Frag) : List V → Hp → VK → Prop := fun vs H Q => match vs with
  | [x, c] => clsAt c fun u => tyAt K H x fun t => isNone (PySem.W.kitOne K t u) fun b => Q (.bl b) H
  | _ => False
theorem c_isi {X : Cx} : CallR X (.builtin "isinstance") (yIsi X.K) := cr_imp call_isi fun xs H Q q => by
  unfold yIsi at q
  split at q
  · obtain ⟨u, hu, q⟩ := clsAt_ok q
    obtain ⟨t, ht, q⟩ := tyAt_ok q
    obtain ⟨b, hb, q⟩ := isNone_ok q
    exact ⟨_, _, t, u, b, rfl, hu, ht, hb, q⟩
  · exact q.elim
theorem ki_int_int {K : PySem.W.Frag} : PySem.W.kitOne K (.type "int") (.type "int") = some true := kit_ty (by decide +kernel)
theorem ki_bool_int {K : PySem.W.Frag} : PySem.W.kitOne K (.type "bool") (.type "int") = some true := kit_ty (by decide +kernel)
theorem ki_none_int {K : PySem.W.Frag} : PySem.W.kitOne K (.type "NoneType") (.type "int") = some false := kit_ty (by decide +kernel)
theorem ki_str_int {K : PySem.W.Frag} : PySem.W.kitOne K (.type "str") (.type "int") = some false := kit_ty (by decide +kernel)
theorem ki_list_int {K : PySem.W.Frag} : PySem.W.kitOne K (.type "list") (.type "int") = some false := kit_ty (by decide +kernel)
theorem ki_tuple_int {K : PySem.W.Frag} : PySem.W.kitOne K (.type "tuple") (.type "int") = some false := kit_ty (by decide +kernel)
theorem ki_int_bool {K : PySem.W.Frag} : PySem.W.kitOne K (.type "int") (.type "bool") = some false := kit_ty (by decide +kernel)
theorem ki_bool_bool {K : PySem.W.Frag} : PySem.W.kitOne K (.type "bool") (.type "bool") = some true := kit_ty (by decide +kernel)
theorem ki_none_bool {K : PySem.W.Frag} : PySem.W.kitOne K (.type "NoneType") (.type "bool") = some false := kit_ty (by decide +kernel)
theorem ki_str_bool {K : PySem.W.Frag} : PySem.W.kitOne K (.type "str") (.type "bool") = some false := kit_ty (by decide +kernel)
theorem ki_list_bool {K : PySem.W.Frag} : PySem.W.kitOne K (.type "list") (.type "bool") = some false := kit_ty (by decide +kernel)
theorem ki_tuple_bool {K : PySem.W.Frag} : PySem.W.kitOne K (.type "tuple") (.type "bool") = some false := kit_ty (by decide +kernel)
/-- a built-in type, by its name -/
theorem pe_ty {X : Cx} {x : Str} {n : String} {pos : Pos} (hg : Gl X x) (hm : X.mg x = none) (hv : bootBuiltins x = some (.type n)) (hnm : x ≠ "__name__" := by decide) (hdb : (x == ("__debug__" : Str)) = false := by decide) : PE X (.Name x pos) (tC (.ty n)) := by
  refine ⟨fun pins s σ H Q I q => ?_⟩
  exact ld_blt I hg hm hv ⟨.ty n, H, I, rfl, q⟩ hnm hdb
/-! ### what is never reached; raise -/
def zNever : TS := fun _ _ _ => False
theorem ps_never {X : Cx} {st : Stmt} : PS X st zNever := ⟨fun _ _ _ _ _ _ q => q.elim⟩
def tRz (E : XK) (C : Addr) : TS := fun _ _ H => E (.ref C) none H
theorem s_raise {X : Cx} {x m : Str} {C : Addr} {E : XK} {j : Nat} {p p2 pos pos2 : Pos} (hc : X.calm = true) (tk : Takes X (fun cls d _ H => E cls d H))
    (q : PySem.W.excIn X.K C He.veBase "ValueError.__new__" = true ∧ PySem.W.keepIn X.K (.ref C) = true ∧ PySem.W.subIn X.K (.ref C) (.type "BaseException") = some true ∧ PySem.W.typeIn X.K (.ref C) = some (.type "type"))
    (gC : X.mg x = some (.ref C)) (hg : Gl X x) (hdb : (x == ("__debug__" : Str)) = false := by decide) : PS X (.Raise (some (.Call (.Name x p) [.Constant (.str m) j p2] [] pos)) none pos2) (tRz E C) :=
  ps_imp (ps_raise hc tk (pmk_own F.excBase_ValueError q.1 gC q.2.1 (raises_own q.2.2.1 q.2.2.2) hg hdb)) fun D σ H q => q
/-! ### a def that may raise -/
theorem fn_okX {P : Program} {w : World} {K : PySem.W.Frag} {mg : Str → Option Value} {base : Heap} {x qual : Str} {f : Addr} {st : Stmt} {N ps : List Str} {k : Nat} {sp : Sp} {fd : FuncData} (F : FunD K x qual (defArgs st) (defBody st) (defScope st) [] [] f fd) (S : FnScope N ps (defScope st)) (len : ∀ vs H Q E, sp vs H Q E → vs.length = ps.length) {t : XK → TS}
    (hd : ∀ (cdv : Value) (A : Around) (outer : List Env) (s : Shared) (H : Hp) (E : XK), Room k (A.deeper (envOfC qual (defScope st) s.heap.objs.size f cdv)) → Takes (cxOf (L2.CX P w) P w K mg base N qual (defScope st) f cdv A outer s H E) (fun cls d _ H => E cls d H) → PassesOwn (model P w) (cxOf (L2.CX P w) P w K mg base N qual (defScope st) f cdv A outer s H E).A (cxOf (L2.CX P w) P w K mg base N qual (defScope st) f cdv A outer s H E).env (cxOf (L2.CX P w) P w K mg base N qual (defScope st) f cdv A outer s H E).xe → PSs (cxOf (L2.CX P w) P w K mg base N qual (defScope st) f cdv A outer s H E) (defBody st) (t E))
    (hrd : ∀ vs H Q E, sp vs H Q E → t E { nx := fun _ H' => Q .non H', rt := Q } (start N vs) H) : FnOk P w K mg base (L2.CX P w) (k + 1) f fd ps sp :=
  F.ok S len fun cdv A outer s H vs Q E hr h => ⟨t E, hd cdv A outer s H E hr (takes_of rfl rfl rfl rfl) (passes_of rfl), hrd vs H Q E h⟩
/-! ### a class in a variable; by keywords -/
section
variable {X : Cx} {CX : CXT} {k i : Nat} {f C : Addr} {fd : FuncData} {ps ks : List Str} {sp : Sp} {E : XK} {x m : Str} {p pos apos : Pos} {e o : Expr} {es : List Expr} {kws : List Keyword} {ta : TE} {t tk : TA} {g : List Value → List Value → List Value} {gV : List V → List V → List V}
def zMakeV (i : Nat) (C : Addr) (sp : Sp) (E : XK) (t : TA) : TE := fun σ H Q => (match σ[i]? with
  | some (some v) => v = .ref C
  | _ => False) ∧ tMake C sp [] E t σ H Q
theorem e_makeV (M : Mk X.K C f) (F : FnOk X.prog X.w X.K X.mg X.base CX k f fd ps sp) (hr : Room (k + 1) X.A) (hb : Binds X.K fd ps []) (hx : Passes CX X E) (hN : X.N[i]? = some x) (hv : Vis X.env.scope x) (ha : PA X (e :: es) t)
    (hd : (x == ("__debug__" : Str)) = false := by decide) (hcd : (x == ("__classdict__" : Str)) = false := by decide)
    (he : starEach (e :: es) X.env = (false, eval e X.env) :: starEach es X.env := by rfl) (hpl : (backTo pos (starEach es X.env)).any (·.1) = false := by rfl) :
    PE X (.Call (.Name x p) (e :: es) [] pos) (zMakeV i C sp E t) := by
  refine ⟨fun pins s σ H Q I h => ?_⟩
  obtain ⟨hs, ht⟩ := h
  have hs' : σ[i]? = some (some (.ref C)) := by
    split at hs
    · rename_i e1
      rw [e1, hs]
    · exact hs.elim
  refine wpAny_Call_Name_kw (thn ((pe_var (pos := p) hN hv hd hcd).run pins s σ H (fun v H1 => v = .ref C ∧ H1 = H) I ⟨.ref C, hs', rfl, rfl⟩) fun u s1 ⟨v, H1, I1, r1, q1⟩ => ?_)
  obtain ⟨rfl, rfl⟩ := q1
  cases r1
  refine PySem.W.callWith_K (h₀ := X.base) I.ok.mod.kin M.kp (thn (ha.run pos pins s1 σ _ _ I1 ht) fun us s2 ⟨vs, H2, I2, r, q⟩ => ⟨I2.kIn, ?_⟩) he hpl
  exact run_make M F hr hb .nil hx I2 r q
/-- C(k = v, ..) -/
theorem e_make0N (M : Mk X.K C f) (F : FnOk X.prog X.w X.K X.mg X.base CX k f fd ps sp) (hr : Room (k + 1) X.A) (hg : Gl X x) (hm : X.mg x = some (.ref C)) (hb : KBn X.K fd ps 1 ks g gV) (hx : Passes CX X E)
    (hkw : PK X kws tk) (hall : (backToKw pos (keywordEach kws X.env)).all (·.1.isSome) = true := by rfl) (hks : (backToKw pos (keywordEach kws X.env)).filterMap (·.1) = ks := by rfl)
    (hdb : (x == ("__debug__" : Str)) = false := by decide)
    (hpl : ((backTo pos (starEach [] X.env)).any (·.1) || (backToKw pos (keywordEach kws X.env)).any (·.1.isNone)) = false := by rfl) :
    PE X (.Call (.Name x p) [] kws pos) (tMakeN C 0 ks.length sp gV E tNil tk) := by
  refine ⟨fun pins s σ H Q I h => ?_⟩
  refine wpAny_Call_Name_kw (ld_glob I hg hm ?_ hdb)
  refine PySem.W.callWith_KW0 (h₀ := X.base) I.ok.mod.kin M.kp hall (thn (hkw.run pos pins s σ H _ I h) fun ws s2 ⟨zs, H2, I2, rz, l1, l2, q2⟩ => ⟨I2.kIn, ?_⟩) hpl
  rw [hks]
  exact run_makeN (us := []) (vs := []) M F hr hb hx I2 .nil rz l1 l2 q2
/-! ### a class whose __init__ may raise -/
def MakX (P : Program) (w : World) (K : PySem.W.Frag) (mg : Str → Option Value) (base : Heap) (k : Nat) (x : Str) (C : Addr) (sp : Sp) : Prop := ∃ f fd ps, Mk K C f ∧ FnOk P w K mg base (L2.CX P w) k f fd ps sp ∧ mg x = some (.ref C) ∧ Binds K fd ps []
theorem e_mkX {j : Nat} (c : MakX X.prog X.w X.K X.mg X.base k x C sp) (hr : Room j X.A) (hk : k + 1 ≤ j) (hg : Gl X x) (hx : Passes (L2.CX X.prog X.w) X E) (ha : PA X (e :: es) t)
    (hdb : (x == ("__debug__" : Str)) = false := by decide) (he : starEach (e :: es) X.env = (false, eval e X.env) :: starEach es X.env := by rfl) (hpl : (backTo pos (starEach es X.env)).any (·.1) = false := by rfl) :
    PE X (.Call (.Name x p) (e :: es) [] pos) (tMake C sp [] E t) := by
  obtain ⟨f, fd, ps, M, F, hm, b⟩ := c
  exact pe_make M F (hr.mono hk) hg hm b .nil hx ha hdb he hpl
theorem e_mkV {j : Nat} (c : MakX X.prog X.w X.K X.mg X.base k m C sp) (hr : Room j X.A) (hk : k + 1 ≤ j) (hx : Passes (L2.CX X.prog X.w) X E) (hN : X.N[i]? = some x) (hv : Vis X.env.scope x) (ha : PA X (e :: es) t)
    (hd : (x == ("__debug__" : Str)) = false := by decide) (hcd : (x == ("__classdict__" : Str)) = false := by decide)
    (he : starEach (e :: es) X.env = (false, eval e X.env) :: starEach es X.env := by rfl) (hpl : (backTo pos (starEach es X.env)).any (·.1) = false := by rfl) :
    PE X (.Call (.Name x p) (e :: es) [] pos) (zMakeV i C sp E t) := by
  obtain ⟨f, fd, ps, M, F, hm, b⟩ := c
  exact e_makeV M F (hr.mono hk) b hx hN hv ha hd hcd he hpl
/-! ### classmethods -/
theorem fnR_of (F : FnOk X.prog X.w X.K X.mg X.base CX k f fd ps sp) (hb : Binds X.K fd ps []) : FnR X.prog X.w X.K X.mg X.base CX k f sp := fun A outer s H us vs Q E hr e0 r h => by
  have hl : us.length = ps.length := by rw [← r.length]; exact F.len _ _ _ _ h
  have kin : X.K.In s.heap := e0.mod.kin.keeps fun b o e => (e0.bs b o e).1
  have b := hb s us kin (by rw [List.append_nil]; exact hl)
  rw [List.append_nil] at b
  exact F.run A outer s H ⟨us, []⟩ us vs Q E hr e0 b r h
def zCMethN (C : Addr) (n : Nat) (sp : Sp) (gV : List V → List V → List V) (E : XK) (tk : TA) : TE := fun σ H Q => tk σ H fun zs H2 => zs.length = n ∧ sp (gV [.ref C] zs) H2 Q E
/-- C.m(k = v, ..) -/
theorem e_cmethN {mc : Value} {cp : Addr} {pl : Sem Bool} (hg : Gl X x) (hm : X.mg x = some (.ref C)) (r : ClX.CRead X.K C mc) (c : ClX.CMet X.K C mc m cp f) (F : FnOk X.prog X.w X.K X.mg X.base CX k f fd ps sp) (hr : Room k X.A) (hx : Passes CX X E) (hb : KBn X.K fd ps 1 ks g gV)
    (hkw : PK X kws tk) (hall : (backToKw pos (keywordEach kws X.env)).all (·.1.isSome) = true := by rfl) (hks : (backToKw pos (keywordEach kws X.env)).filterMap (·.1) = ks := by rfl)
    (hpl : ((backTo pos (starEach [] X.env)).any (·.1) || (backToKw pos (keywordEach kws X.env)).any (·.1.isNone)) = false := by rfl) (hdb : (x == ("__debug__" : Str)) = false := by decide)
    (ht : eval (.Call (.Attribute (.Name x p) m apos) [] kws pos) X.env = (do
      let ov ← eval (.Name x p) X.env
      standAt apos.atName
      let (f, first) ← holding [ov] (getMethod ov m pl)
      callWith pos f first (backTo pos (starEach [] X.env)) (backToKw pos (keywordEach kws X.env))) := by rfl) :
    PE X (.Call (.Attribute (.Name x p) m apos) [] kws pos) (zCMethN C ks.length sp gV E tk) := by
  refine ⟨fun pins s σ H Q I h => ?_⟩
  rw [ht]
  refine wpAny_bind (ld_glob I hg hm ?_ hdb)
  refine wpAny_bind (wpAny_standAt (wpAny_bind (wpAny_holding ?_)))
  refine ClX.getmethcm_ok I r c fun s2 I2 => ?_
  refine PySem.W.callWith_of hpl (PySem.W.keeps_M (self := .ref C) c.fi) (evalArgs_kw2_nil hall (thn (hkw.run pos _ s2 σ H _ I2 h) fun ws s3 ⟨zs, H2, I3, rz, l2, q2⟩ => ⟨⟨ClX.pin_at I3, I3.kIn⟩, ?_⟩))
  rw [hks]
  have r1 : Vals [V.ref C] [Value.ref C] := .cons rfl .nil
  have e2 : ws.length = ks.length := rz.length.symm.trans l2
  refine wpAny_call (PySem.W.method_call (ClX.pin_at I3) (codeAny_mono (F.run X.A X.stack s3 H2 ⟨[.ref C], ks.zip ws⟩ (g [.ref C] ws) (gV [.ref C] zs) Q E hr I3.env0 (hb.to _ [.ref C] ws I3.kIn rfl e2) (hb.rel r1 rz) q2) fun r s' hq => ?_))
  have I4 := ClX.unpin I3
  cases r with
  | error e => exact hx pins σ H2 s3 e s' I4 hq
  | ok fl =>
    cases fl with
    | ret u => exact I4.after hq
    | next => exact False.elim hq
    | brk => exact False.elim hq
    | cont => exact False.elim hq
end
end Z
namespace Hk
open PySem PySem.Spec PyProof.Rows L2
/-! ### more facts -/
def insB (C : Str) : Fact := fun K => (He.Fa.cls C).ok K && (He.eqO (PySem.W.findIn K (.ref (He.ga K C)) "__class__") (some (some (.builtin "object.__class__"))) && (He.eqO (PySem.W.specialIn K (.builtin "object.__class__") "__get__") (some (some (.builtin "getset_descriptor.__get__"))) &&
  (decide (PySem.W.takesIn K (.builtin "object.__class__") = some true) && decide (PySem.W.mroIn K (He.ga K C) (.type "object") = some true))))
theorem insB_ok {K : PySem.W.Frag} {C : Str} (h : insB C K = true) : Z.InsF K (He.ga K C) := by
  obtain ⟨h1, h⟩ := He.ba h
  obtain ⟨h2, h⟩ := He.ba h
  obtain ⟨h3, h⟩ := He.ba h
  obtain ⟨h4, h5⟩ := He.ba h
  exact ⟨He.cls_ok h1, He.eqO_ok h2, He.eqO_ok h3, of_decide_eq_true h4, of_decide_eq_true h5⟩
def kitTB (C : Str) (T : String) (b : Bool) : Fact := fun K => decide (PySem.W.kitOne K (.ref (He.ga K C)) (.type T) = some b)
theorem kitTB_ok {K : PySem.W.Frag} {C : Str} {T : String} {b : Bool} (h : kitTB C T b K = true) : PySem.W.kitOne K (.ref (He.ga K C)) (.type T) = some b := of_decide_eq_true h
def kitCB (C D : Str) (b : Bool) : Fact := fun K => decide (PySem.W.kitOne K (.ref (He.ga K C)) (.ref (He.ga K D)) = some b)
theorem kitCB_ok {K : PySem.W.Frag} {C D : Str} {b : Bool} (h : kitCB C D b K = true) : PySem.W.kitOne K (.ref (He.ga K C)) (.ref (He.ga K D)) = some b := of_decide_eq_true h
def excCB (C : Str) : Fact := fun K => He.eqO (PySem.W.findIn K (.ref (He.ga K C)) "__getattribute__") (some (some (.builtin "BaseException.__getattribute__"))) && (He.eqO (PySem.W.findIn K (.ref (He.ga K C)) "__getattr__") (some none) &&
  (decide (PySem.W.subIn K (.ref (He.ga K C)) (.type "BaseException") = some true) && (PySem.W.hasDictIn K (He.ga K C) && (He.eqO (PySem.W.findIn K (.ref (He.ga K C)) "__class__") (some (some (.builtin "object.__class__"))) &&
  (He.eqO (PySem.W.specialIn K (.builtin "object.__class__") "__get__") (some (some (.builtin "getset_descriptor.__get__"))) && (decide (PySem.W.takesIn K (.builtin "object.__class__") = some true) && decide (PySem.W.mroIn K (He.ga K C) (.type "object") = some true)))))))
theorem excCB_ok {K : PySem.W.Frag} {C : Str} (h : excCB C K = true) : ExcC K (He.ga K C) := by
  obtain ⟨h1, h⟩ := He.ba h
  obtain ⟨h2, h⟩ := He.ba h
  obtain ⟨h3, h⟩ := He.ba h
  obtain ⟨h4, h⟩ := He.ba h
  obtain ⟨h5, h⟩ := He.ba h
  obtain ⟨h6, h⟩ := He.ba h
  obtain ⟨h7, h8⟩ := He.ba h
  exact ⟨He.eqO_ok h1, He.eqO_ok h2, of_decide_eq_true h3, h4, He.eqO_ok h5, He.eqO_ok h6, of_decide_eq_true h7, of_decide_eq_true h8⟩
/-- a classmethod -/
def cmG (C m : Str) (K : PySem.W.Frag) : Addr := He5.wf K (He.ga K C) "classmethod" m
def cmB (C m : Str) : Fact := fun K => PySem.W.readsIn K (He.ga K C) (.type "type") && (He.eqO (PySem.W.specialIn K (.ref (He.ga K C)) "__getattribute__") (some (some (.builtin "type.__getattribute__"))) &&
  (He5.wrapB K (He.ga K C) "classmethod" "classmethod.__get__" m && PySem.W.fnIn K (cmG C m K)))
theorem cmB_ok {K : PySem.W.Frag} {C m : Str} (h : cmB C m K = true) : ClX.CRead K (He.ga K C) (.type "type") ∧ ClX.CMet K (He.ga K C) (.type "type") m (He.ma K (He.ga K C) m) (cmG C m K) := by
  obtain ⟨h1, h⟩ := He.ba h
  obtain ⟨h2, h⟩ := He.ba h
  obtain ⟨h3, h4⟩ := He.ba h
  exact ⟨⟨h1, He.eqO_ok h2⟩, He5.cmet_of h3 h4⟩
/-- a def of the top, its code object known -/
theorem fn_okC {P : Program} {w : World} {K : PySem.W.Frag} {mg : Str → Option Value} {base : Heap} {x qual : Str} {st : Stmt} {N ps : List Str} {k : Nat} {sp : Sp} {fd : FuncData} (F : FunD K x qual (defArgs st) (defBody st) (defScope st) [] [] (He.ga K x) fd) (S : FnScope N ps (defScope st)) (len : ∀ vs H Q E, sp vs H Q E → vs.length = ps.length) {t : TS}
    (hd : ∀ (A : Around) (outer : List Env) (s : Shared) (H : Hp) (E : XK), Room k (A.deeper (envOfC qual (defScope st) s.heap.objs.size (He.ga K x) (.ref (He.cT K (x, none)).1))) → PSs (cxOf C8.CX0 P w K mg base N qual (defScope st) (He.ga K x) (.ref (He.cT K (x, none)).1) A outer s H E).nox (defBody st) t)
    (hrd : ∀ vs H Q E, sp vs H Q E → t { nx := fun _ H' => Q .non H', rt := Q } (start N vs) H) : FnOk P w K mg base C8.CX0 (k + 1) (He.ga K x) fd ps sp := by
  obtain ⟨oc, od, dV, kV, doc, pm, an, cdv, ct, osl, rfl, lk, hcd, _, _⟩ := F.ex
  obtain ⟨c, rfl⟩ := He.codeIn_ref hcd
  have ec : He.codeOf K (x, none) = c := He.codeOf_eq (p := (x, none)) lk rfl
  refine fn_of lk hcd S len fun A outer s H vs Q E hr hsp => ⟨t, PSs.nox ?_, hrd vs H Q E hsp⟩
  have h := hd A outer s H E
  rw [show (He.cT K (x, none)).1 = c from ec] at h
  exact h hr
/-! ### the Hook with tables -/
def fragT (n : Nat) (g : Addr → Option Obj) : PySem.W.Frag := He.frT g (He.asD g n ++ [cStatics])
def obsTT (n : Nat) (fa : List Fact) (fn : List DP) (tf : List He.Defn) (g : Addr → Option Obj) : Al × Bool := (obsP fa fn (fragT n g), He.tabsB g tf (fragT n g))
structure SaysT (fa : List Fact) (fn : List DP) (tf : List He.Defn) (h : Heap) (K : PySem.W.Frag) : Prop where
  t : Says fa fn K
  hd : ∀ p ∈ tf, PySem.W.codeHdIn K (He.cT K p).1 (He.cT K p).2 = true
  out : ∀ p ∈ tf, K.lookup (He.cT K p).2 = none
  empty : ∀ p ∈ tf, h.get? (He.cT K p).2 = some { cls := .none, data := .fields #[] }
theorem saysT_of {n : Nat} {fa : List Fact} {fn : List DP} {tf : List He.Defn} {h : Heap} (e : obsTT n fa fn tf h.get? = (valP fn, true)) : SaysT fa fn tf h (fragT n h.get?) := by
  have e1 : obsP fa fn (fragT n h.get?) = valP fn := congrArg (fun z : Al × Bool => z.1) e
  have e2 : He.tabsB h.get? tf (fragT n h.get?) = true := congrArg (fun z : Al × Bool => z.2) e
  have key : ∀ p ∈ tf, PySem.W.codeHdIn (fragT n h.get?) (He.cT (fragT n h.get?) p).1 (He.cT (fragT n h.get?) p).2 = true ∧ ∃ o, h.get? (He.cT (fragT n h.get?) p).2 = some o ∧ He.emptyTab o = true := fun p hp => by
    obtain ⟨h3, h4⟩ := He.ba (List.all_eq_true.mp e2 p hp)
    refine ⟨h3, ?_⟩
    cases q : h.get? (He.cT (fragT n h.get?) p).2 with
    | none =>
      rw [q] at h4
      cases h4
    | some o =>
      rw [q] at h4
      exact ⟨o, rfl, h4⟩
  exact ⟨e1, fun p hp => (key p hp).1, fun p hp => by
    obtain ⟨_, o, q, z⟩ := key p hp
    exact He.frT_none q z, fun p hp => by
    obtain ⟨_, o, q, z⟩ := key p hp
    rw [q, He.emptyTab_eq z]⟩
def hookT (n : Nat) (fa : List Fact) (fn : List DP) (tf : List He.Defn) : PySem.W.Hook where
  α := Al × Bool
  obs := fun s => obsTT n fa fn tf s.heap.get?
  val := fun _ => (valP fn, true)
  says := fun _ h => ∃ K : PySem.W.Frag, K.In h ∧ SaysT fa fn tf h K
  of := fun _ _ e => ⟨_, He.frT_in, saysT_of e⟩
  keeps := fun _ _ _ ⟨K, hK, c⟩ k => ⟨K, PySem.W.Frag.In.keeps hK k, ⟨c.t, c.hd, c.out, fun p hp => k _ _ (c.empty p hp)⟩⟩
theorem obsTT_eq {n : Nat} {fa : List Fact} {fn : List DP} {tf : List He.Defn} {g : Addr → Option Obj} {s : Shared} (h : ∀ a, g a = s.heap.get? a) : obsTT n fa fn tf g = (hookT n fa fn tf).obs s := by
  have e : g = s.heap.get? := funext h
  rw [e] <;> rfl
end Hk
namespace K01
open PySem PySem.Spec PyProof.Rows L2 Z
def top (i : Nat) : Stmt := PySem.Challenge.pw_devicewindows_k01_runs_made_and_refused.main.body.getD i (.Pass ⟨0, 0, 0, 0⟩)
abbrev st_is_integer : Stmt := top 6
abbrev nm_is_integer : List Str := ["thing"]
theorem sc_is_integer : FnScope nm_is_integer ["thing"] (defScope st_is_integer) := ⟨rfl, rfl, rfl, by decide +kernel, rfl, by decide +kernel, by decide +kernel⟩
theorem start_is_integer (v0 : V) : start nm_is_integer [v0] = [some v0] := rfl
abbrev st_is_from_to : Stmt := top 7
abbrev nm_is_from_to : List Str := ["thing", "least", "most"]
theorem sc_is_from_to : FnScope nm_is_from_to ["thing", "least", "most"] (defScope st_is_from_to) := ⟨rfl, rfl, rfl, by decide +kernel, rfl, by decide +kernel, by decide +kernel⟩
theorem start_is_from_to (v0 v1 v2 : V) : start nm_is_from_to [v0, v1, v2] = [some v0, some v1, some v2] := rfl
abbrev st_Run___init__ : Stmt := inClass (top 8) 2
abbrev nm_Run___init__ : List Str := ["self", "first", "many"]
theorem sc_Run___init__ : FnScope nm_Run___init__ ["self", "first", "many"] (defScope st_Run___init__) := ⟨rfl, rfl, rfl, by decide +kernel, rfl, by decide +kernel, by decide +kernel⟩
theorem start_Run___init__ (v0 v1 v2 : V) : start nm_Run___init__ [v0, v1, v2] = [some v0, some v1, some v2] := rfl
abbrev st_Run_end : Stmt := inClass (top 8) 3
abbrev nm_Run_end : List Str := ["self"]
theorem sc_Run_end : FnScope nm_Run_end ["self"] (defScope st_Run_end) := ⟨rfl, rfl, rfl, by decide +kernel, rfl, by decide +kernel, by decide +kernel⟩
theorem start_Run_end (v0 : V) : start nm_Run_end [v0] = [some v0] := rfl
abbrev st_Run_between : Stmt := inClass (top 8) 14
abbrev nm_Run_between : List Str := ["cls", "first", "end"]
theorem sc_Run_between : FnScope nm_Run_between ["cls", "first", "end"] (defScope st_Run_between) := ⟨rfl, rfl, rfl, by decide +kernel, rfl, by decide +kernel, by decide +kernel⟩
theorem start_Run_between (v0 v1 v2 : V) : start nm_Run_between [v0, v1, v2] = [some v0, some v1, some v2] := rfl
abbrev st_L_bag : Stmt := top 10
abbrev nm_L_bag : List Str := ["_law_script", "_law_at", "_law_number", "_law_large"]
theorem sc_L_bag : FnScope nm_L_bag ["_law_script", "_law_at"] (defScope st_L_bag) := ⟨rfl, rfl, rfl, by decide +kernel, rfl, by decide +kernel, by decide +kernel⟩
theorem start_L_bag (v0 v1 : V) : start nm_L_bag [v0, v1] = [some v0, some v1, none, none] := rfl
abbrev st_L_take : Stmt := top 11
abbrev nm_L_take : List Str := ["_law_bag_here", "_law_size", "_law_mixed", "_law_digit"]
theorem sc_L_take : FnScope nm_L_take ["_law_bag_here", "_law_size"] (defScope st_L_take) := ⟨rfl, rfl, rfl, by decide +kernel, rfl, by decide +kernel, by decide +kernel⟩
theorem start_L_take (v0 v1 : V) : start nm_L_take [v0, v1] = [some v0, some v1, none, none] := rfl
abbrev st_L_value : Stmt := top 12
abbrev nm_L_value : List Str := ["_law_bag_here", "_law_most", "_law_some", "_law_odd"]
theorem sc_L_value : FnScope nm_L_value ["_law_bag_here"] (defScope st_L_value) := ⟨rfl, rfl, rfl, by decide +kernel, rfl, by decide +kernel, by decide +kernel⟩
theorem start_L_value (v0 : V) : start nm_L_value [v0] = [some v0, none, none, none] := rfl
abbrev st_L_is_whole : Stmt := top 13
abbrev nm_L_is_whole : List Str := ["_law_thing"]
theorem sc_L_is_whole : FnScope nm_L_is_whole ["_law_thing"] (defScope st_L_is_whole) := ⟨rfl, rfl, rfl, by decide +kernel, rfl, by decide +kernel, by decide +kernel⟩
theorem start_L_is_whole (v0 : V) : start nm_L_is_whole [v0] = [some v0] := rfl
abbrev st_L_due : Stmt := top 14
abbrev nm_L_due : List Str := ["_law_begin", "_law_size"]
theorem sc_L_due : FnScope nm_L_due ["_law_begin", "_law_size"] (defScope st_L_due) := ⟨rfl, rfl, rfl, by decide +kernel, rfl, by decide +kernel, by decide +kernel⟩
theorem start_L_due (v0 v1 : V) : start nm_L_due [v0, v1] = [some v0, some v1] := rfl
abbrev st_L_told : Stmt := top 15
abbrev nm_L_told : List Str := ["_law_call", "e", "_law_found"]
theorem sc_L_told : FnScope nm_L_told ["_law_call"] (defScope st_L_told) := ⟨rfl, rfl, rfl, by decide +kernel, rfl, by decide +kernel, by decide +kernel⟩
theorem start_L_told (v0 : V) : start nm_L_told [v0] = [some v0, none, none] := rfl
abbrev st_law : Stmt := top 16
abbrev nm_law : List Str := ["_law_script", "_law_k", "_law_bag_here", "_law_turn", "_law_due_here", "_law_whole", "_law_one", "_law_two"]
theorem sc_law : FnScope nm_law ["_law_script"] (defScope st_law) := ⟨rfl, rfl, rfl, by decide +kernel, rfl, by decide +kernel, by decide +kernel⟩
theorem start_law (v0 : V) : start nm_law [v0] = [some v0, none, none, none, none, none, none, none] := rfl
def fs_Run (v0 v1 : V) : List (Str × V) := [(("first" : Str), v0), (("many" : Str), v1)]
theorem lk_Run_first (v0 v1 : V) : (fs_Run v0 v1).lookup ("first" : Str) = some v0 := by unfold fs_Run; rw [List.lookup_cons, show (("first" : Str) == ("first" : Str)) = true by decide +kernel]
theorem pf_Run_first (w v0 v1 : V) : putF ("first" : Str) w (fs_Run v0 v1) = fs_Run w v1 := by unfold fs_Run; rw [Hk.putF_eq]
theorem pn_Run_first (v0 v1 : V) : putF ("first" : Str) v0 ([] : List (Str × V)) = [(("first" : Str), v0)] := by rfl
theorem lk_Run_many (v0 v1 : V) : (fs_Run v0 v1).lookup ("many" : Str) = some v1 := by unfold fs_Run; rw [List.lookup_cons, show (("many" : Str) == ("first" : Str)) = false by decide +kernel]; rw [List.lookup_cons, show (("many" : Str) == ("many" : Str)) = true by decide +kernel]
theorem pf_Run_many (w v0 v1 : V) : putF ("many" : Str) w (fs_Run v0 v1) = fs_Run v0 w := by unfold fs_Run; rw [Hk.putF_ne (show ¬ ("first" : Str) = ("many" : Str) by decide +kernel)]; rw [Hk.putF_eq]
theorem pn_Run_many (v0 v1 : V) : putF ("many" : Str) v1 ([(("first" : Str), v0)] : List (Str × V)) = [(("first" : Str), v0), (("many" : Str), v1)] := by rw [Hk.putF_ne (show ¬ ("first" : Str) = ("many" : Str) by decide +kernel)]; rfl
theorem ln_Run (v0 v1 : V) : (fs_Run v0 v1).length < 1000 := by show 2 < 1000; decide
theorem no_Run_end (v0 v1 : V) : (fs_Run v0 v1).lookup ("end" : Str) = none := by unfold fs_Run; rw [List.lookup_cons, show (("end" : Str) == ("first" : Str)) = false by decide +kernel]; rw [List.lookup_cons, show (("end" : Str) == ("many" : Str)) = false by decide +kernel]; rfl
theorem no_Run_between (v0 v1 : V) : (fs_Run v0 v1).lookup ("between" : Str) = none := by unfold fs_Run; rw [List.lookup_cons, show (("between" : Str) == ("first" : Str)) = false by decide +kernel]; rw [List.lookup_cons, show (("between" : Str) == ("many" : Str)) = false by decide +kernel]; rfl
/-! ### the bag -/
def BagO (o : HO) (n : Int) : Prop := ∃ L M c : Int, o = .lst [.int L, .int M, .int c] ∧ 0 ≤ L ∧ 0 ≤ M ∧ M ≤ 6000000000000000000 ∧ 0 ≤ c ∧ c ≤ n
def sp_L_bag (K : PySem.W.Frag) : Sp := fun vs H Q _ => ∃ (a : Addr) (i : Int) (ns : List Int), vs = [.ref a, .int i] ∧ SqL K H a (ns.map V.int) ∧ 0 ≤ i ∧ i ≤ 100 ∧ ∀ b o, H b = none → BagO o 0 → Q (.ref b) (upd H b o)
def sp_L_take (K : PySem.W.Frag) : Sp := fun vs H Q _ => ∃ (b : Addr) (o : HO) (m n : Int), vs = [.ref b, .int m] ∧ H b = some o ∧ BagO o n ∧ 0 < m ∧ m < 1000000000 ∧ n ≤ 1000000 ∧ ∀ d o', 0 ≤ d → d < m → BagO o' (n + 1) → Q (.int d) (upd H b o')
theorem ln_sp_L_bag {K : PySem.W.Frag} (vs : List V) (H : Hp) (Q : VK) (E : XK) (h : sp_L_bag K vs H Q E) : vs.length = 2 := by obtain ⟨a, i, ns, rfl, _⟩ := h; rfl
theorem ln_sp_L_take {K : PySem.W.Frag} (vs : List V) (H : Hp) (Q : VK) (E : XK) (h : sp_L_take K vs H Q E) : vs.length = 2 := by obtain ⟨b, o, m, n, rfl, _⟩ := h; rfl
/-! ### runs -/
abbrev cRun (K : PySem.W.Frag) : Addr := He.ga K "Run"
/-- a value whose type is known -/
def Kn (K : PySem.W.Frag) (H : Hp) (x : V) : Prop := (∃ i, x = .int i) ∨ (∃ b, x = .bl b) ∨ x = .non ∨ (∃ z, x = .str z) ∨ ∃ a o, x = .ref a ∧ H a = some o ∧ ((∃ xs, o = .lst xs) ∨ (∃ xs, o = .tup xs) ∨ ∃ dx fs, o = .ins (cRun K) dx fs)
def isW : V → Bool
  | .int _ => true
  | _ => false
def inR (x : V) (lo hi : Int) : Bool := match x with
  | .int i => decide (lo ≤ i) && decide (i ≤ hi)
  | _ => false
/-- the run that first and many make -/
def dueV (x y : V) : Option (Int × Int) := match x, y with
  | .int f, .int m => if 0 ≤ f ∧ f ≤ 1000000000000 ∧ 1 ≤ m ∧ m ≤ 1000000000000 then some (f, m) else none
  | _, _ => none
def btwV (x y : V) : Option (Int × Int) := match x, y with
  | .int f, .int e => dueV (.int f) (.int (e - f))
  | _, _ => none
def sp_is_integer (K : PySem.W.Frag) : Sp := fun vs H Q _ => ∃ x, vs = [x] ∧ Kn K H x ∧ Q (.bl (isW x)) H
theorem ln_sp_is_integer {K : PySem.W.Frag} (vs : List V) (H : Hp) (Q : VK) (E : XK) (h : sp_is_integer K vs H Q E) : vs.length = 1 := by obtain ⟨x, rfl, _⟩ := h; rfl
def sp_L_is_whole (K : PySem.W.Frag) : Sp := sp_is_integer K
theorem ln_sp_L_is_whole {K : PySem.W.Frag} (vs : List V) (H : Hp) (Q : VK) (E : XK) (h : sp_L_is_whole K vs H Q E) : vs.length = 1 := by obtain ⟨x, rfl, _⟩ := h; rfl
def sp_is_from_to (K : PySem.W.Frag) : Sp := fun vs H Q _ => ∃ x lo hi, vs = [x, .int lo, .int hi] ∧ Kn K H x ∧ Q (.bl (inR x lo hi)) H
theorem ln_sp_is_from_to {K : PySem.W.Frag} (vs : List V) (H : Hp) (Q : VK) (E : XK) (h : sp_is_from_to K vs H Q E) : vs.length = 3 := by obtain ⟨x, lo, hi, rfl, _⟩ := h; rfl
def sp_Run___init__ (K : PySem.W.Frag) : Sp := fun vs H Q E => ∃ a dx x y, vs = [.ref a, x, y] ∧ H a = some (.ins (cRun K) dx []) ∧ Kn K H x ∧ Kn K H y ∧ (∀ f m, dueV x y = some (f, m) → Q .non (upd H a (.ins (cRun K) dx (fs_Run (.int f) (.int m))))) ∧ (dueV x y = none → E (.ref (He.ga K "BadRun")) none H)
theorem ln_sp_Run___init__ {K : PySem.W.Frag} (vs : List V) (H : Hp) (Q : VK) (E : XK) (h : sp_Run___init__ K vs H Q E) : vs.length = 3 := by obtain ⟨a, dx, x, y, rfl, _⟩ := h; rfl
def sp_Run_end (K : PySem.W.Frag) : Sp := fun vs H Q _ => ∃ a dx f m, vs = [.ref a] ∧ H a = some (.ins (cRun K) dx (fs_Run (.int f) (.int m))) ∧ Q (.int (f + m)) H
theorem ln_sp_Run_end {K : PySem.W.Frag} (vs : List V) (H : Hp) (Q : VK) (E : XK) (h : sp_Run_end K vs H Q E) : vs.length = 1 := by obtain ⟨a, dx, f, m, rfl, _⟩ := h; rfl
def sp_Run_between (K : PySem.W.Frag) : Sp := fun vs H Q E => ∃ x y, vs = [.ref (cRun K), x, y] ∧ Kn K H x ∧ Kn K H y ∧
  (∀ f m a dx H', btwV x y = some (f, m) → Same H H' → H' a = some (.ins (cRun K) dx (fs_Run (.int f) (.int m))) → Q (.ref a) H') ∧ (btwV x y = none → ∀ H', Same H H' → E (.ref (He.ga K "BadRun")) none H')
theorem ln_sp_Run_between {K : PySem.W.Frag} (vs : List V) (H : Hp) (Q : VK) (E : XK) (h : sp_Run_between K vs H Q E) : vs.length = 3 := by obtain ⟨x, y, rfl, _⟩ := h; rfl
/-- the frame but the bag -/
def Keeps (H H' : Hp) (b : Addr) : Prop := ∀ p u, H p = some u → p ≠ b → H' p = some u
def sp_L_value (K : PySem.W.Frag) : Sp := fun vs H Q _ => ∃ (b : Addr) (o : HO) (n : Int), vs = [.ref b] ∧ H b = some o ∧ BagO o n ∧ n + 4 ≤ 1000000 ∧ ∀ x H' o', Keeps H H' b → H' b = some o' → BagO o' (n + 4) → Kn K H' x → Q x H'
theorem ln_sp_L_value {K : PySem.W.Frag} (vs : List V) (H : Hp) (Q : VK) (E : XK) (h : sp_L_value K vs H Q E) : vs.length = 1 := by obtain ⟨b, o, n, rfl, _⟩ := h; rfl
/-- what law says of a pair -/
def DueTo (H : Hp) (r : Option (Int × Int)) (Q : VK) : Prop := (r = none → Q (.str "refused") H) ∧ ∀ f m, r = some (f, m) → ∀ p, H p = none → Q (.ref p) (upd H p (.lst [.int f, .int m, .int (f + m)]))
def sp_L_due (K : PySem.W.Frag) : Sp := fun vs H Q _ => ∃ x y, vs = [x, y] ∧ Kn K H x ∧ Kn K H y ∧ DueTo H (dueV x y) Q
theorem ln_sp_L_due {K : PySem.W.Frag} (vs : List V) (H : Hp) (Q : VK) (E : XK) (h : sp_L_due K vs H Q E) : vs.length = 2 := by obtain ⟨x, y, rfl, _⟩ := h; rfl
/-- the law's code object, its table, its lambdas' name -/
abbrev lamQ : Str := "law.<locals>.<lambda>"
def tabs (K : PySem.W.Frag) : List (Addr × Str) := [((He.cT K ("law", none)).2, lamQ)]
/-- what told makes of a call -/
def TTold (K : PySem.W.Frag) : (XK → Hp → VK → Prop) → Hp → VK → Prop := fun tl H Q => tl (fun cls d H' => cls = .ref (He.ga K "BadRun") ∧ d = none ∧ Q (.str "refused") H') H
  fun v H' => ∃ a dx f m, v = .ref a ∧ H' a = some (.ins (cRun K) dx (fs_Run (.int f) (.int m))) ∧ ∀ p, H' p = none → Q (.ref p) (upd H' p (.lst [.int f, .int m, .int (f + m)]))
/-- the lambdas' bodies -/
def gMF (vs zs : List V) : List V := match vs, zs with
  | [a], [m, f] => [a, f, m]
  | _, _ => []
def tl1 (K : PySem.W.Frag) (E : XK) : TE := tMake (cRun K) (sp_Run___init__ K) [] E (tCons (zV 6) (tCons (zV 7) tNil))
def tl2 (K : PySem.W.Frag) (E : XK) : TE := tMakeN (cRun K) 0 2 (sp_Run___init__ K) gMF E tNil (tCons (zV 7) (tCons (zV 6) tNil))
def tl3 (K : PySem.W.Frag) (E : XK) : TE := ClX.tCMeth (cRun K) (sp_Run_between K) E (tC (.ref (cRun K))) (tCons (zV 6) (tCons (zV 7) tNil))
def tl4 (K : PySem.W.Frag) (E : XK) : TE := zCMethN (cRun K) 2 (sp_Run_between K) gMF E (tCons (zV 7) (tCons (zV 6) tNil))
def sp_law (K : PySem.W.Frag) : Sp := fun vs H Q _ => ∃ (a : Addr) (ns : List Int), vs = [.ref a] ∧ SqL K H a (ns.map V.int) ∧ ns.length ≤ 63 ∧ LamX.Tabs (tabs K) H ∧ ∀ H', Q (.bl true) H'
theorem ln_sp_law {K : PySem.W.Frag} (vs : List V) (H : Hp) (Q : VK) (E : XK) (h : sp_law K vs H Q E) : vs.length = 1 := by obtain ⟨a, ns, rfl, _⟩ := h; rfl

def t_is_integer_1 (K : PySem.W.Frag) : TS := (tRet (zAnd (tCB (yIsi K) (tCons (zV 0) (tCons (tC (.ty "int")) tNil))) (zNot (tCB (yIsi K) (tCons (zV 0) (tCons (tC (.ty "bool")) tNil))))))
def t_is_integer (K : PySem.W.Frag) : TS := (t_is_integer_1 K)
def t_is_from_to_1 (K : PySem.W.Frag) : TS := (tRet (zAnd (tCall (sp_is_integer K) [] C8.E0 (tCons (zV 0) tNil)) (zChain yLe yLe (zV 1) (zV 0) (zV 2))))
def t_is_from_to (K : PySem.W.Frag) : TS := (t_is_from_to_1 K)
def t_Run___init___1t_1 (K : PySem.W.Frag) (E : XK) : TS := (tRz E (He.ga K "BadRun"))
def t_Run___init___1 (K : PySem.W.Frag) (E : XK) : TS := (tIfS (tOr (tNot (zB (tCall (sp_is_from_to K) [] C8.E0 (tCons (zV 1) (tCons (tC (.int 0)) (tCons (tC (.int 1000000000000)) tNil)))))) (tNot (zB (tCall (sp_is_from_to K) [] C8.E0 (tCons (zV 2) (tCons (tC (.int 1)) (tCons (tC (.int 1000000000000)) tNil))))))) (t_Run___init___1t_1 K E) tNext)
def t_Run___init___2 (K : PySem.W.Frag) (E : XK) : TS := (zSetF K (zV 0) (zV 1) "first")
def t_Run___init___3 (K : PySem.W.Frag) (E : XK) : TS := (zSetF K (zV 0) (zV 2) "many")
def t_Run___init__ (K : PySem.W.Frag) (E : XK) : TS := (tSeq (t_Run___init___1 K E) (tSeq (t_Run___init___2 K E) (t_Run___init___3 K E)))
def t_Run_end_1 (K : PySem.W.Frag) : TS := (tRet (tOp yAdd (zFld K (zV 0) "first") (zFld K (zV 0) "many")))
def t_Run_end (K : PySem.W.Frag) : TS := (t_Run_end_1 K)
def t_Run_between_1t_1 (K : PySem.W.Frag) (E : XK) : TS := (tRz E (He.ga K "BadRun"))
def t_Run_between_1 (K : PySem.W.Frag) (E : XK) : TS := (tIfS (tOr (tNot (zB (tCall (sp_is_integer K) [] C8.E0 (tCons (zV 1) tNil)))) (tNot (zB (tCall (sp_is_integer K) [] C8.E0 (tCons (zV 2) tNil))))) (t_Run_between_1t_1 K E) tNext)
def t_Run_between_2 (K : PySem.W.Frag) (E : XK) : TS := (tRet (zMakeV 0 (He.ga K "Run") (sp_Run___init__ K) E (tCons (zV 1) (tCons (tOp ySub (zV 2) (zV 1)) tNil))))
def t_Run_between (K : PySem.W.Frag) (E : XK) : TS := (tSeq (t_Run_between_1 K E) (t_Run_between_2 K E))
def t_L_bag_1 (K : PySem.W.Frag) : TS := (tAsg (tIf (zB (tOp yLt (zV 1) (tCB (yLenS K) (tCons (zV 0) tNil)))) (tOp (rIxL K) (zV 0) (zV 1)) (tC (.int 0))) (gName 2))
def t_L_bag_2 (K : PySem.W.Frag) : TS := (tAsg (tIf (zB (tOp yGe (tCB yAbs (tCons (zV 2) tNil)) (tOp yPow (tC (.int 10)) (tC (.int 18))))) (tCB yAbs (tCons (zV 2) tNil)) (tC (.int 0))) (gName 3))
def t_L_bag_3 (K : PySem.W.Frag) : TS := (tRet (tLst (tCons (zV 3) (tCons (tOp yAdd (tOp yAdd (tOp yMul (tOp yMod (zV 2) (tOp yAdd (tOp yPow (tC (.int 10)) (tC (.int 18))) (tC (.int 9)))) (tC (.int 5))) (tOp yMul (tC (.int 7793)) (zV 1))) (tC (.int 613))) (tCons (tC (.int 0)) tNil)))))
def t_L_bag (K : PySem.W.Frag) : TS := (tSeq (t_L_bag_1 K) (tSeq (t_L_bag_2 K) (t_L_bag_3 K)))
def t_L_take_1t_1 (K : PySem.W.Frag) : TS := (tAsg (tOp yMod (tOp (yIx K) (zV 0) (tC (.int 0))) (zV 1)) (gName 3))
def t_L_take_1t_2 (K : PySem.W.Frag) : TS := (tAsg (tOp yDiv (tOp (yIx K) (zV 0) (tC (.int 0))) (zV 1)) (gSub (zV 0) (tC (.int 0)) ySet))
def t_L_take_1t_3 (K : PySem.W.Frag) : TS := (tRet (zV 3))
def t_L_take_1 (K : PySem.W.Frag) : TS := (tIfS (zB (tOp yGt (tOp (yIx K) (zV 0) (tC (.int 0))) (tC (.int 0)))) (tSeq (t_L_take_1t_1 K) (tSeq (t_L_take_1t_2 K) (t_L_take_1t_3 K))) tNext)
def t_L_take_2 (K : PySem.W.Frag) : TS := (tAsg (tOp yAdd (tOp (yIx K) (zV 0) (tC (.int 2))) (tC (.int 1))) (gSub (zV 0) (tC (.int 2)) ySet))
def t_L_take_3 (K : PySem.W.Frag) : TS := (tAsg (tOp yMod (tOp yPow (tOp yAdd (tOp (yIx K) (zV 0) (tC (.int 1))) (tOp yMul (tOp yMul (tC (.int 8081)) (tOp (yIx K) (zV 0) (tC (.int 2)))) (tOp (yIx K) (zV 0) (tC (.int 2))))) (tC (.int 3))) (tC (.int 2147483563))) (gName 2))
def t_L_take_4 (K : PySem.W.Frag) : TS := (tRet (tOp yMod (tOp yDiv (tOp yMod (tOp yMul (zV 2) (tOp yAdd (tOp yDiv (zV 2) (tC (.int 11))) (tOp yMul (tC (.int 3)) (tOp (yIx K) (zV 0) (tC (.int 2)))))) (tC (.int 2147483549))) (tC (.int 64))) (zV 1)))
def t_L_take (K : PySem.W.Frag) : TS := (tSeq (t_L_take_1 K) (tSeq (t_L_take_2 K) (tSeq (t_L_take_3 K) (t_L_take_4 K))))
def t_L_value_1 (K : PySem.W.Frag) : TS := (tAsg (tOp yPow (tC (.int 10)) (tC (.int 12))) (gName 1))
def t_L_value_2 (K : PySem.W.Frag) : TS := (tAsg (tLst (tCons (tC (.int 0)) (tCons (tC (.int 1)) (tCons (tC (.int 2)) (tCons (tC (.int 7)) (tCons (tOp ySub (zV 1) (tC (.int 1))) (tCons (zV 1) (tCons (tOp yAdd (zV 1) (tC (.int 1))) (tCons (tUn yNeg (tC (.int 1))) (tCons (tUn yNeg (zV 1)) (tCons (tOp ySub (tOp yPow (tC (.int 10)) (tC (.int 40))) (tC (.int 1))) (tCons (tCall (sp_L_take K) [] C8.E0 (tCons (zV 0) (tCons (tC (.int 40)) tNil))) (tCons (tCall (sp_L_take K) [] C8.E0 (tCons (zV 0) (tCons (tC (.int 5)) tNil))) tNil))))))))))))) (gName 2))
def t_L_value_3 (K : PySem.W.Frag) : TS := (tAsg (tLst (tCons (tC (.bl true)) (tCons (tC (.bl false)) (tCons (tC .non) (tCons (tC (.str "")) (tCons (tC (.str "3")) (tCons (tLst (tCons (tC (.int 1)) tNil)) (tCons (tTup (tCons (tC (.int 2)) tNil)) (tCons (tTup tNil) (tCons (tLst tNil) (tCons (tLst (tCons (tC (.bl true)) tNil)) (tCons (tMake (He.ga K "Run") (sp_Run___init__ K) [] C8.E0 (tCons (tC (.int 2)) (tCons (tC (.int 3)) tNil))) (tCons (tMake (He.ga K "Run") (sp_Run___init__ K) [] C8.E0 (tCons (tC (.int 0)) (tCons (tC (.int 1)) tNil))) tNil))))))))))))) (gName 3))
def t_L_value_4 (K : PySem.W.Frag) : TS := (tRet (tIf (zB (tOp yGt (tCall (sp_L_take K) [] C8.E0 (tCons (zV 0) (tCons (tC (.int 4)) tNil))) (tC (.int 0)))) (tOp (yIx K) (zV 2) (tCall (sp_L_take K) [] C8.E0 (tCons (zV 0) (tCons (tC (.int 12)) tNil)))) (tOp (yIx K) (zV 3) (tCall (sp_L_take K) [] C8.E0 (tCons (zV 0) (tCons (tC (.int 12)) tNil))))))
def t_L_value (K : PySem.W.Frag) : TS := (tSeq (t_L_value_1 K) (tSeq (t_L_value_2 K) (tSeq (t_L_value_3 K) (t_L_value_4 K))))
def t_L_is_whole_1 (K : PySem.W.Frag) : TS := (tRet (zAnd (tCB (yIsi K) (tCons (zV 0) (tCons (tC (.ty "int")) tNil))) (zNot (tCB (yIsi K) (tCons (zV 0) (tCons (tC (.ty "bool")) tNil))))))
def t_L_is_whole (K : PySem.W.Frag) : TS := (t_L_is_whole_1 K)
def t_L_due_1t_1 (K : PySem.W.Frag) : TS := (tRet (tC (.str "refused")))
def t_L_due_1 (K : PySem.W.Frag) : TS := (tIfS (tOr (tNot (zB (tCall (sp_L_is_whole K) [] C8.E0 (tCons (zV 0) tNil)))) (tNot (zB (tCall (sp_L_is_whole K) [] C8.E0 (tCons (zV 1) tNil))))) (t_L_due_1t_1 K) tNext)
def t_L_due_2t_1 (K : PySem.W.Frag) : TS := (tRet (tC (.str "refused")))
def t_L_due_2 (K : PySem.W.Frag) : TS := (tIfS (tOr (tNot (zB (zChain yLe yLe (tC (.int 0)) (zV 0) (tOp yPow (tC (.int 10)) (tC (.int 12)))))) (tNot (zB (zChain yLe yLe (tC (.int 1)) (zV 1) (tOp yPow (tC (.int 10)) (tC (.int 12))))))) (t_L_due_2t_1 K) tNext)
def t_L_due_3 (K : PySem.W.Frag) : TS := (tRet (tLst (tCons (zV 0) (tCons (zV 1) (tCons (tOp yAdd (zV 0) (zV 1)) tNil)))))
def t_L_due (K : PySem.W.Frag) : TS := (tSeq (t_L_due_1 K) (tSeq (t_L_due_2 K) (t_L_due_3 K)))
def t_law_1b_1 (K : PySem.W.Frag) : TS := (tAsg (tCall (sp_L_bag K) [] C8.E0 (tCons (zV 0) (tCons (zV 1) tNil))) (gName 2))
def t_law_1b_2b_1 (K : PySem.W.Frag) : TS := (tAsg (tTup (tCons (tCall (sp_L_value K) [] C8.E0 (tCons (zV 2) tNil)) (tCons (tCall (sp_L_value K) [] C8.E0 (tCons (zV 2) tNil)) tNil))) (gTup K 2 (gCons (gName 6) (gCons (gName 7) gNil))))
def t_law_1b_2b_2 (K : PySem.W.Frag) : TS := (tAsg (tCall (sp_L_due K) [] C8.E0 (tCons (zV 6) (tCons (zV 7) tNil))) (gName 4))
def t_law_1b_2b_3t_1 (K : PySem.W.Frag) : TS := (tRet (tC (.bl false)))
def t_law_1b_2b_3 (K : PySem.W.Frag) : TS := (tIfS (zB (tOp (yNe K) (LamX.tLam (tabs K) (TTold K) (tl1 K)) (zV 4))) (t_law_1b_2b_3t_1 K) tNext)
def t_law_1b_2b_4t_1 (K : PySem.W.Frag) : TS := (tRet (tC (.bl false)))
def t_law_1b_2b_4 (K : PySem.W.Frag) : TS := (tIfS (zB (tOp (yNe K) (LamX.tLam (tabs K) (TTold K) (tl2 K)) (zV 4))) (t_law_1b_2b_4t_1 K) tNext)
def t_law_1b_2b_5 (K : PySem.W.Frag) : TS := (tAsg (zAnd (tCall (sp_L_is_whole K) [] C8.E0 (tCons (zV 6) tNil)) (tCall (sp_L_is_whole K) [] C8.E0 (tCons (zV 7) tNil))) (gName 5))
def t_law_1b_2b_6 (K : PySem.W.Frag) : TS := (tAsg (tIf (zB (zV 5)) (tCall (sp_L_due K) [] C8.E0 (tCons (zV 6) (tCons (tOp ySub (zV 7) (zV 6)) tNil))) (tC (.str "refused"))) (gName 4))
def t_law_1b_2b_7t_1 (K : PySem.W.Frag) : TS := (tRet (tC (.bl false)))
def t_law_1b_2b_7 (K : PySem.W.Frag) : TS := (tIfS (zB (tOp (yNe K) (LamX.tLam (tabs K) (TTold K) (tl3 K)) (zV 4))) (t_law_1b_2b_7t_1 K) tNext)
def t_law_1b_2b_8t_1 (K : PySem.W.Frag) : TS := (tRet (tC (.bl false)))
def t_law_1b_2b_8 (K : PySem.W.Frag) : TS := (tIfS (zB (tOp (yNe K) (LamX.tLam (tabs K) (TTold K) (tl4 K)) (zV 4))) (t_law_1b_2b_8t_1 K) tNext)
def t_law_1b_2 (K : PySem.W.Frag) : TS := (zForR1 (tC (.int 10)) (gName 3) (tSeq (t_law_1b_2b_1 K) (tSeq (t_law_1b_2b_2 K) (tSeq (t_law_1b_2b_3 K) (tSeq (t_law_1b_2b_4 K) (tSeq (t_law_1b_2b_5 K) (tSeq (t_law_1b_2b_6 K) (tSeq (t_law_1b_2b_7 K) (t_law_1b_2b_8 K)))))))))
def t_law_1 (K : PySem.W.Frag) : TS := (zForR1 (tCB yMax2 (tCons (tC (.int 2)) (tCons (tCB yMin2 (tCons (tC (.int 6)) (tCons (tCB (yLenS K) (tCons (zV 0) tNil)) tNil))) tNil))) (gName 1) (tSeq (t_law_1b_1 K) (t_law_1b_2 K)))
def t_law_2 (K : PySem.W.Frag) : TS := (tRet (tOp (yEq K) (tLst (tCons (tC (.int 2)) (tCons (tC (.int 4)) tNil))) (tLst (tCons (tC (.int 2)) (tCons (tC (.int 4)) tNil)))))
def t_law (K : PySem.W.Frag) : TS := (tSeq (t_law_1 K) (t_law_2 K))
structure Top (K : PySem.W.Frag) (mg : Str → Option Value) : Prop where
  g_law : mg "law" = some (.ref (He.ga K "law"))
  g_is_integer : mg "is_integer" = some (.ref (He.ga K "is_integer"))
  g_is_from_to : mg "is_from_to" = some (.ref (He.ga K "is_from_to"))
  g_L_bag : mg "_law_bag" = some (.ref (He.ga K "_law_bag"))
  g_L_take : mg "_law_take" = some (.ref (He.ga K "_law_take"))
  g_L_value : mg "_law_value" = some (.ref (He.ga K "_law_value"))
  g_L_is_whole : mg "_law_is_whole" = some (.ref (He.ga K "_law_is_whole"))
  g_L_due : mg "_law_due" = some (.ref (He.ga K "_law_due"))
  g_L_told : mg "_law_told" = some (.ref (He.ga K "_law_told"))
  f_len : mg "len" = none
  f_abs : mg "abs" = none
  f_max : mg "max" = none
  f_min : mg "min" = none
  f_range : mg "range" = none
  f_isinstance : mg "isinstance" = none
  f_int : mg "int" = none
  f_bool : mg "bool" = none
  f_ValueError : mg "ValueError" = none
  g_MOST : ∃ u, mg "MOST" = some u ∧ RelV (.int 1000000000000) u
  m_Run : mg "Run" = some (.ref (He.ga K "Run"))
  m_BadRun : mg "BadRun" = some (.ref (He.ga K "BadRun"))
  m_WindowError : mg "WindowError" = some (.ref (He.ga K "WindowError"))
  cl_Run : Cls K (He.ga K "Run")
  na_Run_first : NoAttr K (He.ga K "Run") "first"
  na_Run_many : NoAttr K (He.ga K "Run") "many"
  mk_Run : Mk K (He.ga K "Run") (He.ma K (He.ga K "Run") "__init__")
  pr_Run_end : PropOf K (He.ga K "Run") "end" (He.ma K (He.ga K "Run") "end") (Hk.prG "Run" "end" K)
  cm_Run_between : ClX.CRead K (He.ga K "Run") (.type "type") ∧ ClX.CMet K (He.ga K "Run") (.type "type") "between" (He.ma K (He.ga K "Run") "between") (Hk.cmG "Run" "between" K)
  k_Run_LINE : Hk.CK K (He.ga K "Run") "LINE" (.int 2)
  k_Run_PAGE : Hk.CK K (He.ga K "Run") "PAGE" (.int 4)
  x_BadRun : PySem.W.excIn K (He.ga K "BadRun") He.veBase "ValueError.__new__" = true ∧ PySem.W.keepIn K (.ref (He.ga K "BadRun")) = true ∧ PySem.W.subIn K (.ref (He.ga K "BadRun")) (.type "BaseException") = some true ∧ PySem.W.typeIn K (.ref (He.ga K "BadRun")) = some (.type "type")
  e_BadRun_BadRun : PySem.W.exmOne K (.ref (He.ga K "BadRun")) (.ref (He.ga K "BadRun")) = some true
  c_BadRun : ExcC K (He.ga K "BadRun")
  i_Run : InsF K (He.ga K "Run")
  ki_Run_int : PySem.W.kitOne K (.ref (He.ga K "Run")) (.type "int") = some false
  ki_Run_bool : PySem.W.kitOne K (.ref (He.ga K "Run")) (.type "bool") = some false
  ki_BadRun_WindowError : PySem.W.kitOne K (.ref (He.ga K "BadRun")) (.ref (He.ga K "WindowError")) = some true
  ki_BadRun_ValueError : PySem.W.kitOne K (.ref (He.ga K "BadRun")) (.type "ValueError") = some true
  d_is_integer : Hk.FN K "is_integer" "is_integer" st_is_integer (He.ga K "is_integer")
  d_is_from_to : Hk.FN K "is_from_to" "is_from_to" st_is_from_to (He.ga K "is_from_to")
  d_Run___init__ : Hk.FN K "__init__" "Run.__init__" st_Run___init__ (He.ma K (He.ga K "Run") "__init__")
  d_Run_end : Hk.FN K "end" "Run.end" st_Run_end (Hk.prG "Run" "end" K)
  d_Run_between : Hk.FN K "between" "Run.between" st_Run_between (Hk.cmG "Run" "between" K)
  d_L_bag : Hk.FN K "_law_bag" "_law_bag" st_L_bag (He.ga K "_law_bag")
  d_L_take : Hk.FN K "_law_take" "_law_take" st_L_take (He.ga K "_law_take")
  d_L_value : Hk.FN K "_law_value" "_law_value" st_L_value (He.ga K "_law_value")
  d_L_is_whole : Hk.FN K "_law_is_whole" "_law_is_whole" st_L_is_whole (He.ga K "_law_is_whole")
  d_L_due : Hk.FN K "_law_due" "_law_due" st_L_due (He.ga K "_law_due")
  d_L_told : Hk.FN K "_law_told" "_law_told" st_L_told (He.ga K "_law_told")
  d_law : Hk.FN K "law" "law" st_law (He.ga K "law")
theorem use_take {K : PySem.W.Frag} {H : Hp} {Q : VK} {E : XK} {b : Addr} {o : HO} {m n : Int} (hb : H b = some o) (ho : BagO o n) (hm : 0 < m) (hm2 : m < 1000000000) (hn : n ≤ 1000000) (k : ∀ d o', 0 ≤ d → d < m → BagO o' (n + 1) → Q (.int d) (upd H b o')) : sp_L_take K [.ref b, .int m] H Q E :=
  ⟨b, o, m, n, rfl, hb, ho, hm, hm2, hn, k⟩
theorem rd_L_take {K : PySem.W.Frag} {mg : Str → Option Value} (T : Top K mg) : ∀ vs H Q E, sp_L_take K vs H Q E → t_L_take K { nx := fun _ H' => Q .non H', rt := Q } (start nm_L_take vs) H := by
  rintro vs H Q E ⟨b, o, m, n, rfl, hb, ⟨L, M, c, rfl, h1, h2, h3, h4, h5⟩, hm, hm2, hn, k⟩
  rw [start_L_take]
  unfold t_L_take t_L_take_1
  simp only [tSeq, tAsg, tIfS, tRet, tRetN, tDrop, tNext, tPar, tPar3, gName, gSub, gTup, gCons, gNil, zV, tC, tOp, tUn, tCons, tNil, tLst, tTup, tIf, tAnd, tOr, tNot, tYes, zB, zAnd, zOr, zNot, zChain, tDNewK, yAdd, ySub, yMul, yDiv, yMod, yPow, yNeg, yLt, yLe, yGt, yGe, yEq, yNe, yIs0, yNotIs0, yIx, ySet, yIn, sqAt, isNone, zFld, zSetF, insAt, zMeth, zProp, tCall, tMake, tCB, yLen, yAbs, yMax2, yMin2, yList, yTuple, yDict0, zLM, yApp, isLst, dkAt, keyOf, zGet1, zGet2, zPop1, zPop2, zForR1, zForR2, zForL, zForT, Z.intAt, refAt, zLc, iR1, iR2, iL, iT, wipe, List.getElem?_cons_zero, List.getElem?_cons_succ, List.set_cons_zero, List.set_cons_succ, List.cons_append, List.nil_append, List.append_nil, upd_same, at0, at1, at2, ix0, ix1, ix2, upd_upd, ite_true, ite_false, if_true, if_false, Bool.false_eq_true, decide_true, decide_false, reduceIte, true_and, and_true, Option.isSome_none, Option.isSome_some, Bool.not_false, Bool.not_true, hb]
  by_cases hL : 0 < L
  · simp only [tSeq, tAsg, tIfS, tRet, tRetN, tDrop, tNext, tPar, tPar3, gName, gSub, gTup, gCons, gNil, zV, tC, tOp, tUn, tCons, tNil, tLst, tTup, tIf, tAnd, tOr, tNot, tYes, zB, zAnd, zOr, zNot, zChain, tDNewK, yAdd, ySub, yMul, yDiv, yMod, yPow, yNeg, yLt, yLe, yGt, yGe, yEq, yNe, yIs0, yNotIs0, yIx, ySet, yIn, sqAt, isNone, zFld, zSetF, insAt, zMeth, zProp, tCall, tMake, tCB, yLen, yAbs, yMax2, yMin2, yList, yTuple, yDict0, zLM, yApp, isLst, dkAt, keyOf, zGet1, zGet2, zPop1, zPop2, zForR1, zForR2, zForL, zForT, Z.intAt, refAt, zLc, iR1, iR2, iL, iT, wipe, List.getElem?_cons_zero, List.getElem?_cons_succ, List.set_cons_zero, List.set_cons_succ, List.cons_append, List.nil_append, List.append_nil, upd_same, at0, at1, at2, ix0, ix1, ix2, upd_upd, ite_true, ite_false, if_true, if_false, Bool.false_eq_true, decide_true, decide_false, reduceIte, true_and, and_true, Option.isSome_none, Option.isSome_some, Bool.not_false, Bool.not_true, hL, t_L_take_1t_1, t_L_take_1t_2, t_L_take_1t_3, hb]
    refine ⟨hm, ⟨hm, by omega⟩, ?_⟩
    exact k _ _ (Int.emod_nonneg _ (by omega)) (Int.emod_lt_of_pos _ hm) ⟨L / m, M, c, rfl, Int.ediv_nonneg h1 (by omega), h2, h3, h4, by omega⟩
  · simp only [tSeq, tAsg, tIfS, tRet, tRetN, tDrop, tNext, tPar, tPar3, gName, gSub, gTup, gCons, gNil, zV, tC, tOp, tUn, tCons, tNil, tLst, tTup, tIf, tAnd, tOr, tNot, tYes, zB, zAnd, zOr, zNot, zChain, tDNewK, yAdd, ySub, yMul, yDiv, yMod, yPow, yNeg, yLt, yLe, yGt, yGe, yEq, yNe, yIs0, yNotIs0, yIx, ySet, yIn, sqAt, isNone, zFld, zSetF, insAt, zMeth, zProp, tCall, tMake, tCB, yLen, yAbs, yMax2, yMin2, yList, yTuple, yDict0, zLM, yApp, isLst, dkAt, keyOf, zGet1, zGet2, zPop1, zPop2, zForR1, zForR2, zForL, zForT, Z.intAt, refAt, zLc, iR1, iR2, iL, iT, wipe, List.getElem?_cons_zero, List.getElem?_cons_succ, List.set_cons_zero, List.set_cons_succ, List.cons_append, List.nil_append, List.append_nil, upd_same, at0, at1, at2, ix0, ix1, ix2, upd_upd, ite_true, ite_false, if_true, if_false, Bool.false_eq_true, decide_true, decide_false, reduceIte, true_and, and_true, Option.isSome_none, Option.isSome_some, Bool.not_false, Bool.not_true, hL, t_L_take_2, t_L_take_3, t_L_take_4, hb]
    have q1 : (c + 1) * (c + 1) ≤ 1000001 * 1000001 := Int.mul_le_mul (by omega) (by omega) (by omega) (by omega)
    have q0 : 0 ≤ (c + 1) * (c + 1) := Int.mul_nonneg (by omega) (by omega)
    have e1 : 8081 * (c + 1) * (c + 1) = 8081 * ((c + 1) * (c + 1)) := Int.mul_assoc _ _ _
    have q2 : (M + 8081 * (c + 1) * (c + 1)).natAbs < 2 ^ 64 := by
      rw [e1]
      generalize (c + 1) * (c + 1) = z at q0 q1
      omega
    generalize M + 8081 * (c + 1) * (c + 1) = y at q2
    generalize hx : y ^ Int.toNat 3 % 2147483563 = x
    have x0 : 0 ≤ x := by rw [← hx]; exact Int.emod_nonneg _ (by decide)
    have x1 : x < 2147483563 := by rw [← hx]; exact Int.emod_lt_of_pos _ (by decide)
    refine ⟨.inl ⟨by decide, by decide⟩, .inr ⟨by omega, by omega⟩, ⟨by decide, by decide, q2⟩, by decide, ⟨by decide, by decide⟩, .inl ⟨by decide, by decide⟩, .inl ⟨by omega, by omega⟩, by decide, ⟨by decide, by decide⟩, hm, ?_⟩
    exact k _ _ (Int.emod_nonneg _ (by omega)) (Int.emod_lt_of_pos _ hm) ⟨L, M, c + 1, rfl, h1, h2, h3, by omega, by omega⟩
theorem rd_L_bag {K : PySem.W.Frag} {mg : Str → Option Value} (T : Top K mg) : ∀ vs H Q E, sp_L_bag K vs H Q E → t_L_bag K { nx := fun _ H' => Q .non H', rt := Q } (start nm_L_bag vs) H := by
  rintro vs H Q E ⟨a, i, ns, rfl, hS, h0, h1, k⟩
  rw [start_L_bag]
  have key : ∀ N : Int, t_L_bag_2 K { nx := t_L_bag_3 K { nx := fun x H' => Q V.non H', rt := Q }, rt := Q } [some (V.ref a), some (V.int i), some (V.int N), none] H := by
    intro N
    have key2 : ∀ L : Int, 0 ≤ L → t_L_bag_3 K { nx := fun x H' => Q V.non H', rt := Q } [some (V.ref a), some (V.int i), some (V.int N), some (V.int L)] H := by
      intro L hL
      unfold t_L_bag_3
      simp only [tSeq, tAsg, tIfS, tRet, tRetN, tDrop, tNext, tPar, tPar3, gName, gSub, gTup, gCons, gNil, zV, tC, tOp, tUn, tCons, tNil, tLst, tTup, tIf, tAnd, tOr, tNot, tYes, zB, zAnd, zOr, zNot, zChain, tDNewK, yAdd, ySub, yMul, yDiv, yMod, yPow, yNeg, yLt, yLe, yGt, yGe, yEq, yNe, yIs0, yNotIs0, yIx, ySet, yIn, sqAt, isNone, zFld, zSetF, insAt, zMeth, zProp, tCall, tMake, tCB, yLen, yAbs, yMax2, yMin2, yList, yTuple, yDict0, zLM, yApp, isLst, dkAt, keyOf, zGet1, zGet2, zPop1, zPop2, zForR1, zForR2, zForL, zForT, Z.intAt, refAt, zLc, iR1, iR2, iL, iT, wipe, List.getElem?_cons_zero, List.getElem?_cons_succ, List.set_cons_zero, List.set_cons_succ, List.cons_append, List.nil_append, List.append_nil, upd_same, at0, at1, at2, ix0, ix1, ix2, upd_upd, ite_true, ite_false, if_true, if_false, Bool.false_eq_true, decide_true, decide_false, reduceIte, true_and, and_true, Option.isSome_none, Option.isSome_some, Bool.not_false, Bool.not_true]
      have e0 : (10 : Int) ^ Int.toNat 18 = 1000000000000000000 := by decide
      rw [e0]
      have m0 : 0 ≤ N % (1000000000000000000 + 9) := Int.emod_nonneg _ (by decide)
      have m1 : N % (1000000000000000000 + 9) < 1000000000000000000 + 9 := Int.emod_lt_of_pos _ (by decide)
      refine ⟨⟨by decide, by decide, by decide⟩, by decide, .inr ⟨by decide, by decide⟩, .inl ⟨by decide, by decide⟩, by show 3 ≤ sizeLine; decide, fun p hp => ?_⟩
      exact k _ _ hp ⟨_, _, _, rfl, hL, by omega, by omega, by omega, by omega⟩
    unfold t_L_bag_2
    simp only [tSeq, tAsg, tIfS, tRet, tRetN, tDrop, tNext, tPar, tPar3, gName, gSub, gTup, gCons, gNil, zV, tC, tOp, tUn, tCons, tNil, tLst, tTup, tIf, tAnd, tOr, tNot, tYes, zB, zAnd, zOr, zNot, zChain, tDNewK, yAdd, ySub, yMul, yDiv, yMod, yPow, yNeg, yLt, yLe, yGt, yGe, yEq, yNe, yIs0, yNotIs0, yIx, ySet, yIn, sqAt, isNone, zFld, zSetF, insAt, zMeth, zProp, tCall, tMake, tCB, yLen, yAbs, yMax2, yMin2, yList, yTuple, yDict0, zLM, yApp, isLst, dkAt, keyOf, zGet1, zGet2, zPop1, zPop2, zForR1, zForR2, zForL, zForT, Z.intAt, refAt, zLc, iR1, iR2, iL, iT, wipe, List.getElem?_cons_zero, List.getElem?_cons_succ, List.set_cons_zero, List.set_cons_succ, List.cons_append, List.nil_append, List.append_nil, upd_same, at0, at1, at2, ix0, ix1, ix2, upd_upd, ite_true, ite_false, if_true, if_false, Bool.false_eq_true, decide_true, decide_false, reduceIte, true_and, and_true, Option.isSome_none, Option.isSome_some, Bool.not_false, Bool.not_true]
    have e0 : (10 : Int) ^ Int.toNat 18 = 1000000000000000000 := by decide
    rw [e0]
    refine ⟨⟨by decide, by decide, by decide⟩, ?_⟩
    have hz : 0 ≤ (if N < 0 then -N else N) := by split <;> omega
    by_cases hN : (1000000000000000000 : Int) ≤ (if N < 0 then -N else N)
    · rw [decide_eq_true hN]
      simp only [tSeq, tAsg, tIfS, tRet, tRetN, tDrop, tNext, tPar, tPar3, gName, gSub, gTup, gCons, gNil, zV, tC, tOp, tUn, tCons, tNil, tLst, tTup, tIf, tAnd, tOr, tNot, tYes, zB, zAnd, zOr, zNot, zChain, tDNewK, yAdd, ySub, yMul, yDiv, yMod, yPow, yNeg, yLt, yLe, yGt, yGe, yEq, yNe, yIs0, yNotIs0, yIx, ySet, yIn, sqAt, isNone, zFld, zSetF, insAt, zMeth, zProp, tCall, tMake, tCB, yLen, yAbs, yMax2, yMin2, yList, yTuple, yDict0, zLM, yApp, isLst, dkAt, keyOf, zGet1, zGet2, zPop1, zPop2, zForR1, zForR2, zForL, zForT, Z.intAt, refAt, zLc, iR1, iR2, iL, iT, wipe, List.getElem?_cons_zero, List.getElem?_cons_succ, List.set_cons_zero, List.set_cons_succ, List.cons_append, List.nil_append, List.append_nil, upd_same, at0, at1, at2, ix0, ix1, ix2, upd_upd, ite_true, ite_false, if_true, if_false, Bool.false_eq_true, decide_true, decide_false, reduceIte, true_and, and_true, Option.isSome_none, Option.isSome_some, Bool.not_false, Bool.not_true]
      exact key2 _ hz
    · rw [decide_eq_false hN]
      simp only [tSeq, tAsg, tIfS, tRet, tRetN, tDrop, tNext, tPar, tPar3, gName, gSub, gTup, gCons, gNil, zV, tC, tOp, tUn, tCons, tNil, tLst, tTup, tIf, tAnd, tOr, tNot, tYes, zB, zAnd, zOr, zNot, zChain, tDNewK, yAdd, ySub, yMul, yDiv, yMod, yPow, yNeg, yLt, yLe, yGt, yGe, yEq, yNe, yIs0, yNotIs0, yIx, ySet, yIn, sqAt, isNone, zFld, zSetF, insAt, zMeth, zProp, tCall, tMake, tCB, yLen, yAbs, yMax2, yMin2, yList, yTuple, yDict0, zLM, yApp, isLst, dkAt, keyOf, zGet1, zGet2, zPop1, zPop2, zForR1, zForR2, zForL, zForT, Z.intAt, refAt, zLc, iR1, iR2, iL, iT, wipe, List.getElem?_cons_zero, List.getElem?_cons_succ, List.set_cons_zero, List.set_cons_succ, List.cons_append, List.nil_append, List.append_nil, upd_same, at0, at1, at2, ix0, ix1, ix2, upd_upd, ite_true, ite_false, if_true, if_false, Bool.false_eq_true, decide_true, decide_false, reduceIte, true_and, and_true, Option.isSome_none, Option.isSome_some, Bool.not_false, Bool.not_true]
      exact key2 _ (by decide)
  unfold t_L_bag t_L_bag_1
  simp only [tSeq, tAsg, tIfS, tRet, tRetN, tDrop, tNext, tPar, tPar3, gName, gSub, gTup, gCons, gNil, zV, tC, tOp, tUn, tCons, tNil, tLst, tTup, tIf, tAnd, tOr, tNot, tYes, zB, zAnd, zOr, zNot, zChain, tDNewK, yAdd, ySub, yMul, yDiv, yMod, yPow, yNeg, yLt, yLe, yGt, yGe, yEq, yNe, yIs0, yNotIs0, yIx, ySet, yIn, sqAt, isNone, zFld, zSetF, insAt, zMeth, zProp, tCall, tMake, tCB, yLen, yAbs, yMax2, yMin2, yList, yTuple, yDict0, zLM, yApp, isLst, dkAt, keyOf, zGet1, zGet2, zPop1, zPop2, zForR1, zForR2, zForL, zForT, Z.intAt, refAt, zLc, iR1, iR2, iL, iT, wipe, List.getElem?_cons_zero, List.getElem?_cons_succ, List.set_cons_zero, List.set_cons_succ, List.cons_append, List.nil_append, List.append_nil, upd_same, at0, at1, at2, ix0, ix1, ix2, upd_upd, ite_true, ite_false, if_true, if_false, Bool.false_eq_true, decide_true, decide_false, reduceIte, true_and, and_true, Option.isSome_none, Option.isSome_some, Bool.not_false, Bool.not_true]
  refine ⟨a, _, rfl, hS, ?_⟩
  simp only [tSeq, tAsg, tIfS, tRet, tRetN, tDrop, tNext, tPar, tPar3, gName, gSub, gTup, gCons, gNil, zV, tC, tOp, tUn, tCons, tNil, tLst, tTup, tIf, tAnd, tOr, tNot, tYes, zB, zAnd, zOr, zNot, zChain, tDNewK, yAdd, ySub, yMul, yDiv, yMod, yPow, yNeg, yLt, yLe, yGt, yGe, yEq, yNe, yIs0, yNotIs0, yIx, ySet, yIn, sqAt, isNone, zFld, zSetF, insAt, zMeth, zProp, tCall, tMake, tCB, yLen, yAbs, yMax2, yMin2, yList, yTuple, yDict0, zLM, yApp, isLst, dkAt, keyOf, zGet1, zGet2, zPop1, zPop2, zForR1, zForR2, zForL, zForT, Z.intAt, refAt, zLc, iR1, iR2, iL, iT, wipe, List.getElem?_cons_zero, List.getElem?_cons_succ, List.set_cons_zero, List.set_cons_succ, List.cons_append, List.nil_append, List.append_nil, upd_same, at0, at1, at2, ix0, ix1, ix2, upd_upd, ite_true, ite_false, if_true, if_false, Bool.false_eq_true, decide_true, decide_false, reduceIte, true_and, and_true, Option.isSome_none, Option.isSome_some, Bool.not_false, Bool.not_true]
  by_cases hi : i < ((ns.map V.int).length : Int)
  · rw [decide_eq_true hi]
    simp only [tSeq, tAsg, tIfS, tRet, tRetN, tDrop, tNext, tPar, tPar3, gName, gSub, gTup, gCons, gNil, zV, tC, tOp, tUn, tCons, tNil, tLst, tTup, tIf, tAnd, tOr, tNot, tYes, zB, zAnd, zOr, zNot, zChain, tDNewK, yAdd, ySub, yMul, yDiv, yMod, yPow, yNeg, yLt, yLe, yGt, yGe, yEq, yNe, yIs0, yNotIs0, yIx, ySet, yIn, sqAt, isNone, zFld, zSetF, insAt, zMeth, zProp, tCall, tMake, tCB, yLen, yAbs, yMax2, yMin2, yList, yTuple, yDict0, zLM, yApp, isLst, dkAt, keyOf, zGet1, zGet2, zPop1, zPop2, zForR1, zForR2, zForL, zForT, Z.intAt, refAt, zLc, iR1, iR2, iL, iT, wipe, List.getElem?_cons_zero, List.getElem?_cons_succ, List.set_cons_zero, List.set_cons_succ, List.cons_append, List.nil_append, List.append_nil, upd_same, at0, at1, at2, ix0, ix1, ix2, upd_upd, ite_true, ite_false, if_true, if_false, Bool.false_eq_true, decide_true, decide_false, reduceIte, true_and, and_true, Option.isSome_none, Option.isSome_some, Bool.not_false, Bool.not_true]
    have hl : i.toNat < ns.length := by rw [List.length_map] at hi; omega
    exact ⟨a, _, i, .int ns[i.toNat], rfl, rfl, hS, at_of (j := i.toNat) (by omega) (by rw [List.getElem?_map, List.getElem?_eq_getElem hl]; rfl), key _⟩
  · rw [decide_eq_false hi]
    simp only [tSeq, tAsg, tIfS, tRet, tRetN, tDrop, tNext, tPar, tPar3, gName, gSub, gTup, gCons, gNil, zV, tC, tOp, tUn, tCons, tNil, tLst, tTup, tIf, tAnd, tOr, tNot, tYes, zB, zAnd, zOr, zNot, zChain, tDNewK, yAdd, ySub, yMul, yDiv, yMod, yPow, yNeg, yLt, yLe, yGt, yGe, yEq, yNe, yIs0, yNotIs0, yIx, ySet, yIn, sqAt, isNone, zFld, zSetF, insAt, zMeth, zProp, tCall, tMake, tCB, yLen, yAbs, yMax2, yMin2, yList, yTuple, yDict0, zLM, yApp, isLst, dkAt, keyOf, zGet1, zGet2, zPop1, zPop2, zForR1, zForR2, zForL, zForT, Z.intAt, refAt, zLc, iR1, iR2, iL, iT, wipe, List.getElem?_cons_zero, List.getElem?_cons_succ, List.set_cons_zero, List.set_cons_succ, List.cons_append, List.nil_append, List.append_nil, upd_same, at0, at1, at2, ix0, ix1, ix2, upd_upd, ite_true, ite_false, if_true, if_false, Bool.false_eq_true, decide_true, decide_false, reduceIte, true_and, and_true, Option.isSome_none, Option.isSome_some, Bool.not_false, Bool.not_true]
    exact key 0

theorem rd_is_integer {K : PySem.W.Frag} {mg : Str → Option Value} (T : Top K mg) : ∀ vs H Q E, sp_is_integer K vs H Q E → t_is_integer K { nx := fun _ H' => Q .non H', rt := Q } (start nm_is_integer vs) H := by
  rintro vs H Q E ⟨x, rfl, kn, q⟩
  rw [start_is_integer]
  unfold t_is_integer t_is_integer_1
  rcases kn with ⟨i, rfl⟩ | ⟨b, rfl⟩ | rfl | ⟨z, rfl⟩ | ⟨a, o, rfl, ha, ⟨xs, rfl⟩ | ⟨xs, rfl⟩ | ⟨dx, fs, rfl⟩⟩
  · simp only [tSeq, tAsg, tIfS, tRet, tRetN, tDrop, tNext, tPar, tPar3, gName, gSub, gTup, gCons, gNil, zV, tC, tOp, tUn, tCons, tNil, tLst, tTup, tIf, tAnd, tOr, tNot, tYes, zB, zAnd, zOr, zNot, zChain, tDNewK, yAdd, ySub, yMul, yDiv, yMod, yPow, yNeg, yLt, yLe, yGt, yGe, yEq, yNe, yIs0, yNotIs0, yIx, ySet, yIn, sqAt, isNone, zFld, zSetF, insAt, zMeth, zProp, tCall, tMake, tCB, yLen, yAbs, yMax2, yMin2, yList, yTuple, yDict0, zLM, yApp, isLst, dkAt, keyOf, zGet1, zGet2, zPop1, zPop2, zForR1, zForR2, zForL, zForT, Z.intAt, refAt, zLc, iR1, iR2, iL, iT, wipe, List.getElem?_cons_zero, List.getElem?_cons_succ, List.set_cons_zero, List.set_cons_succ, List.cons_append, List.nil_append, List.append_nil, upd_same, at0, at1, at2, ix0, ix1, ix2, upd_upd, ite_true, ite_false, if_true, if_false, Bool.false_eq_true, decide_true, decide_false, reduceIte, true_and, and_true, Option.isSome_none, Option.isSome_some, Bool.not_false, Bool.not_true, yIsi, tyAt, clsAt, ki_int_int, ki_bool_int, ki_none_int, ki_str_int, ki_list_int, ki_tuple_int, ki_int_bool, ki_bool_bool, ki_none_bool, ki_str_bool, ki_list_bool, ki_tuple_bool, zMakeV, tRz, zNever]
    exact q
  · simp only [tSeq, tAsg, tIfS, tRet, tRetN, tDrop, tNext, tPar, tPar3, gName, gSub, gTup, gCons, gNil, zV, tC, tOp, tUn, tCons, tNil, tLst, tTup, tIf, tAnd, tOr, tNot, tYes, zB, zAnd, zOr, zNot, zChain, tDNewK, yAdd, ySub, yMul, yDiv, yMod, yPow, yNeg, yLt, yLe, yGt, yGe, yEq, yNe, yIs0, yNotIs0, yIx, ySet, yIn, sqAt, isNone, zFld, zSetF, insAt, zMeth, zProp, tCall, tMake, tCB, yLen, yAbs, yMax2, yMin2, yList, yTuple, yDict0, zLM, yApp, isLst, dkAt, keyOf, zGet1, zGet2, zPop1, zPop2, zForR1, zForR2, zForL, zForT, Z.intAt, refAt, zLc, iR1, iR2, iL, iT, wipe, List.getElem?_cons_zero, List.getElem?_cons_succ, List.set_cons_zero, List.set_cons_succ, List.cons_append, List.nil_append, List.append_nil, upd_same, at0, at1, at2, ix0, ix1, ix2, upd_upd, ite_true, ite_false, if_true, if_false, Bool.false_eq_true, decide_true, decide_false, reduceIte, true_and, and_true, Option.isSome_none, Option.isSome_some, Bool.not_false, Bool.not_true, yIsi, tyAt, clsAt, ki_int_int, ki_bool_int, ki_none_int, ki_str_int, ki_list_int, ki_tuple_int, ki_int_bool, ki_bool_bool, ki_none_bool, ki_str_bool, ki_list_bool, ki_tuple_bool, zMakeV, tRz, zNever]
    exact q
  · simp only [tSeq, tAsg, tIfS, tRet, tRetN, tDrop, tNext, tPar, tPar3, gName, gSub, gTup, gCons, gNil, zV, tC, tOp, tUn, tCons, tNil, tLst, tTup, tIf, tAnd, tOr, tNot, tYes, zB, zAnd, zOr, zNot, zChain, tDNewK, yAdd, ySub, yMul, yDiv, yMod, yPow, yNeg, yLt, yLe, yGt, yGe, yEq, yNe, yIs0, yNotIs0, yIx, ySet, yIn, sqAt, isNone, zFld, zSetF, insAt, zMeth, zProp, tCall, tMake, tCB, yLen, yAbs, yMax2, yMin2, yList, yTuple, yDict0, zLM, yApp, isLst, dkAt, keyOf, zGet1, zGet2, zPop1, zPop2, zForR1, zForR2, zForL, zForT, Z.intAt, refAt, zLc, iR1, iR2, iL, iT, wipe, List.getElem?_cons_zero, List.getElem?_cons_succ, List.set_cons_zero, List.set_cons_succ, List.cons_append, List.nil_append, List.append_nil, upd_same, at0, at1, at2, ix0, ix1, ix2, upd_upd, ite_true, ite_false, if_true, if_false, Bool.false_eq_true, decide_true, decide_false, reduceIte, true_and, and_true, Option.isSome_none, Option.isSome_some, Bool.not_false, Bool.not_true, yIsi, tyAt, clsAt, ki_int_int, ki_bool_int, ki_none_int, ki_str_int, ki_list_int, ki_tuple_int, ki_int_bool, ki_bool_bool, ki_none_bool, ki_str_bool, ki_list_bool, ki_tuple_bool, zMakeV, tRz, zNever]
    exact q
  · simp only [tSeq, tAsg, tIfS, tRet, tRetN, tDrop, tNext, tPar, tPar3, gName, gSub, gTup, gCons, gNil, zV, tC, tOp, tUn, tCons, tNil, tLst, tTup, tIf, tAnd, tOr, tNot, tYes, zB, zAnd, zOr, zNot, zChain, tDNewK, yAdd, ySub, yMul, yDiv, yMod, yPow, yNeg, yLt, yLe, yGt, yGe, yEq, yNe, yIs0, yNotIs0, yIx, ySet, yIn, sqAt, isNone, zFld, zSetF, insAt, zMeth, zProp, tCall, tMake, tCB, yLen, yAbs, yMax2, yMin2, yList, yTuple, yDict0, zLM, yApp, isLst, dkAt, keyOf, zGet1, zGet2, zPop1, zPop2, zForR1, zForR2, zForL, zForT, Z.intAt, refAt, zLc, iR1, iR2, iL, iT, wipe, List.getElem?_cons_zero, List.getElem?_cons_succ, List.set_cons_zero, List.set_cons_succ, List.cons_append, List.nil_append, List.append_nil, upd_same, at0, at1, at2, ix0, ix1, ix2, upd_upd, ite_true, ite_false, if_true, if_false, Bool.false_eq_true, decide_true, decide_false, reduceIte, true_and, and_true, Option.isSome_none, Option.isSome_some, Bool.not_false, Bool.not_true, yIsi, tyAt, clsAt, ki_int_int, ki_bool_int, ki_none_int, ki_str_int, ki_list_int, ki_tuple_int, ki_int_bool, ki_bool_bool, ki_none_bool, ki_str_bool, ki_list_bool, ki_tuple_bool, zMakeV, tRz, zNever]
    exact q
  · simp only [tSeq, tAsg, tIfS, tRet, tRetN, tDrop, tNext, tPar, tPar3, gName, gSub, gTup, gCons, gNil, zV, tC, tOp, tUn, tCons, tNil, tLst, tTup, tIf, tAnd, tOr, tNot, tYes, zB, zAnd, zOr, zNot, zChain, tDNewK, yAdd, ySub, yMul, yDiv, yMod, yPow, yNeg, yLt, yLe, yGt, yGe, yEq, yNe, yIs0, yNotIs0, yIx, ySet, yIn, sqAt, isNone, zFld, zSetF, insAt, zMeth, zProp, tCall, tMake, tCB, yLen, yAbs, yMax2, yMin2, yList, yTuple, yDict0, zLM, yApp, isLst, dkAt, keyOf, zGet1, zGet2, zPop1, zPop2, zForR1, zForR2, zForL, zForT, Z.intAt, refAt, zLc, iR1, iR2, iL, iT, wipe, List.getElem?_cons_zero, List.getElem?_cons_succ, List.set_cons_zero, List.set_cons_succ, List.cons_append, List.nil_append, List.append_nil, upd_same, at0, at1, at2, ix0, ix1, ix2, upd_upd, ite_true, ite_false, if_true, if_false, Bool.false_eq_true, decide_true, decide_false, reduceIte, true_and, and_true, Option.isSome_none, Option.isSome_some, Bool.not_false, Bool.not_true, yIsi, tyAt, clsAt, ki_int_int, ki_bool_int, ki_none_int, ki_str_int, ki_list_int, ki_tuple_int, ki_int_bool, ki_bool_bool, ki_none_bool, ki_str_bool, ki_list_bool, ki_tuple_bool, zMakeV, tRz, zNever, ha]
    exact q
  · simp only [tSeq, tAsg, tIfS, tRet, tRetN, tDrop, tNext, tPar, tPar3, gName, gSub, gTup, gCons, gNil, zV, tC, tOp, tUn, tCons, tNil, tLst, tTup, tIf, tAnd, tOr, tNot, tYes, zB, zAnd, zOr, zNot, zChain, tDNewK, yAdd, ySub, yMul, yDiv, yMod, yPow, yNeg, yLt, yLe, yGt, yGe, yEq, yNe, yIs0, yNotIs0, yIx, ySet, yIn, sqAt, isNone, zFld, zSetF, insAt, zMeth, zProp, tCall, tMake, tCB, yLen, yAbs, yMax2, yMin2, yList, yTuple, yDict0, zLM, yApp, isLst, dkAt, keyOf, zGet1, zGet2, zPop1, zPop2, zForR1, zForR2, zForL, zForT, Z.intAt, refAt, zLc, iR1, iR2, iL, iT, wipe, List.getElem?_cons_zero, List.getElem?_cons_succ, List.set_cons_zero, List.set_cons_succ, List.cons_append, List.nil_append, List.append_nil, upd_same, at0, at1, at2, ix0, ix1, ix2, upd_upd, ite_true, ite_false, if_true, if_false, Bool.false_eq_true, decide_true, decide_false, reduceIte, true_and, and_true, Option.isSome_none, Option.isSome_some, Bool.not_false, Bool.not_true, yIsi, tyAt, clsAt, ki_int_int, ki_bool_int, ki_none_int, ki_str_int, ki_list_int, ki_tuple_int, ki_int_bool, ki_bool_bool, ki_none_bool, ki_str_bool, ki_list_bool, ki_tuple_bool, zMakeV, tRz, zNever, ha]
    exact q
  · simp only [tSeq, tAsg, tIfS, tRet, tRetN, tDrop, tNext, tPar, tPar3, gName, gSub, gTup, gCons, gNil, zV, tC, tOp, tUn, tCons, tNil, tLst, tTup, tIf, tAnd, tOr, tNot, tYes, zB, zAnd, zOr, zNot, zChain, tDNewK, yAdd, ySub, yMul, yDiv, yMod, yPow, yNeg, yLt, yLe, yGt, yGe, yEq, yNe, yIs0, yNotIs0, yIx, ySet, yIn, sqAt, isNone, zFld, zSetF, insAt, zMeth, zProp, tCall, tMake, tCB, yLen, yAbs, yMax2, yMin2, yList, yTuple, yDict0, zLM, yApp, isLst, dkAt, keyOf, zGet1, zGet2, zPop1, zPop2, zForR1, zForR2, zForL, zForT, Z.intAt, refAt, zLc, iR1, iR2, iL, iT, wipe, List.getElem?_cons_zero, List.getElem?_cons_succ, List.set_cons_zero, List.set_cons_succ, List.cons_append, List.nil_append, List.append_nil, upd_same, at0, at1, at2, ix0, ix1, ix2, upd_upd, ite_true, ite_false, if_true, if_false, Bool.false_eq_true, decide_true, decide_false, reduceIte, true_and, and_true, Option.isSome_none, Option.isSome_some, Bool.not_false, Bool.not_true, yIsi, tyAt, clsAt, ki_int_int, ki_bool_int, ki_none_int, ki_str_int, ki_list_int, ki_tuple_int, ki_int_bool, ki_bool_bool, ki_none_bool, ki_str_bool, ki_list_bool, ki_tuple_bool, zMakeV, tRz, zNever, ha, T.ki_Run_int, T.ki_Run_bool]
    exact ⟨T.i_Run, q⟩
theorem rd_L_is_whole {K : PySem.W.Frag} {mg : Str → Option Value} (T : Top K mg) : ∀ vs H Q E, sp_L_is_whole K vs H Q E → t_L_is_whole K { nx := fun _ H' => Q .non H', rt := Q } (start nm_L_is_whole vs) H := by
  rintro vs H Q E ⟨x, rfl, kn, q⟩
  rw [start_L_is_whole]
  unfold t_L_is_whole t_L_is_whole_1
  rcases kn with ⟨i, rfl⟩ | ⟨b, rfl⟩ | rfl | ⟨z, rfl⟩ | ⟨a, o, rfl, ha, ⟨xs, rfl⟩ | ⟨xs, rfl⟩ | ⟨dx, fs, rfl⟩⟩
  · simp only [tSeq, tAsg, tIfS, tRet, tRetN, tDrop, tNext, tPar, tPar3, gName, gSub, gTup, gCons, gNil, zV, tC, tOp, tUn, tCons, tNil, tLst, tTup, tIf, tAnd, tOr, tNot, tYes, zB, zAnd, zOr, zNot, zChain, tDNewK, yAdd, ySub, yMul, yDiv, yMod, yPow, yNeg, yLt, yLe, yGt, yGe, yEq, yNe, yIs0, yNotIs0, yIx, ySet, yIn, sqAt, isNone, zFld, zSetF, insAt, zMeth, zProp, tCall, tMake, tCB, yLen, yAbs, yMax2, yMin2, yList, yTuple, yDict0, zLM, yApp, isLst, dkAt, keyOf, zGet1, zGet2, zPop1, zPop2, zForR1, zForR2, zForL, zForT, Z.intAt, refAt, zLc, iR1, iR2, iL, iT, wipe, List.getElem?_cons_zero, List.getElem?_cons_succ, List.set_cons_zero, List.set_cons_succ, List.cons_append, List.nil_append, List.append_nil, upd_same, at0, at1, at2, ix0, ix1, ix2, upd_upd, ite_true, ite_false, if_true, if_false, Bool.false_eq_true, decide_true, decide_false, reduceIte, true_and, and_true, Option.isSome_none, Option.isSome_some, Bool.not_false, Bool.not_true, yIsi, tyAt, clsAt, ki_int_int, ki_bool_int, ki_none_int, ki_str_int, ki_list_int, ki_tuple_int, ki_int_bool, ki_bool_bool, ki_none_bool, ki_str_bool, ki_list_bool, ki_tuple_bool, zMakeV, tRz, zNever]
    exact q
  · simp only [tSeq, tAsg, tIfS, tRet, tRetN, tDrop, tNext, tPar, tPar3, gName, gSub, gTup, gCons, gNil, zV, tC, tOp, tUn, tCons, tNil, tLst, tTup, tIf, tAnd, tOr, tNot, tYes, zB, zAnd, zOr, zNot, zChain, tDNewK, yAdd, ySub, yMul, yDiv, yMod, yPow, yNeg, yLt, yLe, yGt, yGe, yEq, yNe, yIs0, yNotIs0, yIx, ySet, yIn, sqAt, isNone, zFld, zSetF, insAt, zMeth, zProp, tCall, tMake, tCB, yLen, yAbs, yMax2, yMin2, yList, yTuple, yDict0, zLM, yApp, isLst, dkAt, keyOf, zGet1, zGet2, zPop1, zPop2, zForR1, zForR2, zForL, zForT, Z.intAt, refAt, zLc, iR1, iR2, iL, iT, wipe, List.getElem?_cons_zero, List.getElem?_cons_succ, List.set_cons_zero, List.set_cons_succ, List.cons_append, List.nil_append, List.append_nil, upd_same, at0, at1, at2, ix0, ix1, ix2, upd_upd, ite_true, ite_false, if_true, if_false, Bool.false_eq_true, decide_true, decide_false, reduceIte, true_and, and_true, Option.isSome_none, Option.isSome_some, Bool.not_false, Bool.not_true, yIsi, tyAt, clsAt, ki_int_int, ki_bool_int, ki_none_int, ki_str_int, ki_list_int, ki_tuple_int, ki_int_bool, ki_bool_bool, ki_none_bool, ki_str_bool, ki_list_bool, ki_tuple_bool, zMakeV, tRz, zNever]
    exact q
  · simp only [tSeq, tAsg, tIfS, tRet, tRetN, tDrop, tNext, tPar, tPar3, gName, gSub, gTup, gCons, gNil, zV, tC, tOp, tUn, tCons, tNil, tLst, tTup, tIf, tAnd, tOr, tNot, tYes, zB, zAnd, zOr, zNot, zChain, tDNewK, yAdd, ySub, yMul, yDiv, yMod, yPow, yNeg, yLt, yLe, yGt, yGe, yEq, yNe, yIs0, yNotIs0, yIx, ySet, yIn, sqAt, isNone, zFld, zSetF, insAt, zMeth, zProp, tCall, tMake, tCB, yLen, yAbs, yMax2, yMin2, yList, yTuple, yDict0, zLM, yApp, isLst, dkAt, keyOf, zGet1, zGet2, zPop1, zPop2, zForR1, zForR2, zForL, zForT, Z.intAt, refAt, zLc, iR1, iR2, iL, iT, wipe, List.getElem?_cons_zero, List.getElem?_cons_succ, List.set_cons_zero, List.set_cons_succ, List.cons_append, List.nil_append, List.append_nil, upd_same, at0, at1, at2, ix0, ix1, ix2, upd_upd, ite_true, ite_false, if_true, if_false, Bool.false_eq_true, decide_true, decide_false, reduceIte, true_and, and_true, Option.isSome_none, Option.isSome_some, Bool.not_false, Bool.not_true, yIsi, tyAt, clsAt, ki_int_int, ki_bool_int, ki_none_int, ki_str_int, ki_list_int, ki_tuple_int, ki_int_bool, ki_bool_bool, ki_none_bool, ki_str_bool, ki_list_bool, ki_tuple_bool, zMakeV, tRz, zNever]
    exact q
  · simp only [tSeq, tAsg, tIfS, tRet, tRetN, tDrop, tNext, tPar, tPar3, gName, gSub, gTup, gCons, gNil, zV, tC, tOp, tUn, tCons, tNil, tLst, tTup, tIf, tAnd, tOr, tNot, tYes, zB, zAnd, zOr, zNot, zChain, tDNewK, yAdd, ySub, yMul, yDiv, yMod, yPow, yNeg, yLt, yLe, yGt, yGe, yEq, yNe, yIs0, yNotIs0, yIx, ySet, yIn, sqAt, isNone, zFld, zSetF, insAt, zMeth, zProp, tCall, tMake, tCB, yLen, yAbs, yMax2, yMin2, yList, yTuple, yDict0, zLM, yApp, isLst, dkAt, keyOf, zGet1, zGet2, zPop1, zPop2, zForR1, zForR2, zForL, zForT, Z.intAt, refAt, zLc, iR1, iR2, iL, iT, wipe, List.getElem?_cons_zero, List.getElem?_cons_succ, List.set_cons_zero, List.set_cons_succ, List.cons_append, List.nil_append, List.append_nil, upd_same, at0, at1, at2, ix0, ix1, ix2, upd_upd, ite_true, ite_false, if_true, if_false, Bool.false_eq_true, decide_true, decide_false, reduceIte, true_and, and_true, Option.isSome_none, Option.isSome_some, Bool.not_false, Bool.not_true, yIsi, tyAt, clsAt, ki_int_int, ki_bool_int, ki_none_int, ki_str_int, ki_list_int, ki_tuple_int, ki_int_bool, ki_bool_bool, ki_none_bool, ki_str_bool, ki_list_bool, ki_tuple_bool, zMakeV, tRz, zNever]
    exact q
  · simp only [tSeq, tAsg, tIfS, tRet, tRetN, tDrop, tNext, tPar, tPar3, gName, gSub, gTup, gCons, gNil, zV, tC, tOp, tUn, tCons, tNil, tLst, tTup, tIf, tAnd, tOr, tNot, tYes, zB, zAnd, zOr, zNot, zChain, tDNewK, yAdd, ySub, yMul, yDiv, yMod, yPow, yNeg, yLt, yLe, yGt, yGe, yEq, yNe, yIs0, yNotIs0, yIx, ySet, yIn, sqAt, isNone, zFld, zSetF, insAt, zMeth, zProp, tCall, tMake, tCB, yLen, yAbs, yMax2, yMin2, yList, yTuple, yDict0, zLM, yApp, isLst, dkAt, keyOf, zGet1, zGet2, zPop1, zPop2, zForR1, zForR2, zForL, zForT, Z.intAt, refAt, zLc, iR1, iR2, iL, iT, wipe, List.getElem?_cons_zero, List.getElem?_cons_succ, List.set_cons_zero, List.set_cons_succ, List.cons_append, List.nil_append, List.append_nil, upd_same, at0, at1, at2, ix0, ix1, ix2, upd_upd, ite_true, ite_false, if_true, if_false, Bool.false_eq_true, decide_true, decide_false, reduceIte, true_and, and_true, Option.isSome_none, Option.isSome_some, Bool.not_false, Bool.not_true, yIsi, tyAt, clsAt, ki_int_int, ki_bool_int, ki_none_int, ki_str_int, ki_list_int, ki_tuple_int, ki_int_bool, ki_bool_bool, ki_none_bool, ki_str_bool, ki_list_bool, ki_tuple_bool, zMakeV, tRz, zNever, ha]
    exact q
  · simp only [tSeq, tAsg, tIfS, tRet, tRetN, tDrop, tNext, tPar, tPar3, gName, gSub, gTup, gCons, gNil, zV, tC, tOp, tUn, tCons, tNil, tLst, tTup, tIf, tAnd, tOr, tNot, tYes, zB, zAnd, zOr, zNot, zChain, tDNewK, yAdd, ySub, yMul, yDiv, yMod, yPow, yNeg, yLt, yLe, yGt, yGe, yEq, yNe, yIs0, yNotIs0, yIx, ySet, yIn, sqAt, isNone, zFld, zSetF, insAt, zMeth, zProp, tCall, tMake, tCB, yLen, yAbs, yMax2, yMin2, yList, yTuple, yDict0, zLM, yApp, isLst, dkAt, keyOf, zGet1, zGet2, zPop1, zPop2, zForR1, zForR2, zForL, zForT, Z.intAt, refAt, zLc, iR1, iR2, iL, iT, wipe, List.getElem?_cons_zero, List.getElem?_cons_succ, List.set_cons_zero, List.set_cons_succ, List.cons_append, List.nil_append, List.append_nil, upd_same, at0, at1, at2, ix0, ix1, ix2, upd_upd, ite_true, ite_false, if_true, if_false, Bool.false_eq_true, decide_true, decide_false, reduceIte, true_and, and_true, Option.isSome_none, Option.isSome_some, Bool.not_false, Bool.not_true, yIsi, tyAt, clsAt, ki_int_int, ki_bool_int, ki_none_int, ki_str_int, ki_list_int, ki_tuple_int, ki_int_bool, ki_bool_bool, ki_none_bool, ki_str_bool, ki_list_bool, ki_tuple_bool, zMakeV, tRz, zNever, ha]
    exact q
  · simp only [tSeq, tAsg, tIfS, tRet, tRetN, tDrop, tNext, tPar, tPar3, gName, gSub, gTup, gCons, gNil, zV, tC, tOp, tUn, tCons, tNil, tLst, tTup, tIf, tAnd, tOr, tNot, tYes, zB, zAnd, zOr, zNot, zChain, tDNewK, yAdd, ySub, yMul, yDiv, yMod, yPow, yNeg, yLt, yLe, yGt, yGe, yEq, yNe, yIs0, yNotIs0, yIx, ySet, yIn, sqAt, isNone, zFld, zSetF, insAt, zMeth, zProp, tCall, tMake, tCB, yLen, yAbs, yMax2, yMin2, yList, yTuple, yDict0, zLM, yApp, isLst, dkAt, keyOf, zGet1, zGet2, zPop1, zPop2, zForR1, zForR2, zForL, zForT, Z.intAt, refAt, zLc, iR1, iR2, iL, iT, wipe, List.getElem?_cons_zero, List.getElem?_cons_succ, List.set_cons_zero, List.set_cons_succ, List.cons_append, List.nil_append, List.append_nil, upd_same, at0, at1, at2, ix0, ix1, ix2, upd_upd, ite_true, ite_false, if_true, if_false, Bool.false_eq_true, decide_true, decide_false, reduceIte, true_and, and_true, Option.isSome_none, Option.isSome_some, Bool.not_false, Bool.not_true, yIsi, tyAt, clsAt, ki_int_int, ki_bool_int, ki_none_int, ki_str_int, ki_list_int, ki_tuple_int, ki_int_bool, ki_bool_bool, ki_none_bool, ki_str_bool, ki_list_bool, ki_tuple_bool, zMakeV, tRz, zNever, ha, T.ki_Run_int, T.ki_Run_bool]
    exact ⟨T.i_Run, q⟩
theorem notW {x : V} (h : isW x = false) : ∀ i, x ≠ .int i := fun i e => by rw [e] at h; cases h
theorem isW_int {x : V} (h : isW x = true) : ∃ i, x = .int i := by
  unfold isW at h
  split at h
  · exact ⟨_, rfl⟩
  · cases h
theorem inR_int (i lo hi : Int) : inR (.int i) lo hi = (decide (lo ≤ i) && decide (i ≤ hi)) := rfl
theorem inR_not {x : V} (h : isW x = false) (lo hi : Int) : inR x lo hi = false := by
  unfold inR
  split
  · cases h
  · rfl
theorem rd_is_from_to {K : PySem.W.Frag} {mg : Str → Option Value} (T : Top K mg) : ∀ vs H Q E, sp_is_from_to K vs H Q E → t_is_from_to K { nx := fun _ H' => Q .non H', rt := Q } (start nm_is_from_to vs) H := by
  rintro vs H Q E ⟨x, lo, hi, rfl, kn, q⟩
  rw [start_is_from_to]
  unfold t_is_from_to t_is_from_to_1
  simp only [tSeq, tAsg, tIfS, tRet, tRetN, tDrop, tNext, tPar, tPar3, gName, gSub, gTup, gCons, gNil, zV, tC, tOp, tUn, tCons, tNil, tLst, tTup, tIf, tAnd, tOr, tNot, tYes, zB, zAnd, zOr, zNot, zChain, tDNewK, yAdd, ySub, yMul, yDiv, yMod, yPow, yNeg, yLt, yLe, yGt, yGe, yEq, yNe, yIs0, yNotIs0, yIx, ySet, yIn, sqAt, isNone, zFld, zSetF, insAt, zMeth, zProp, tCall, tMake, tCB, yLen, yAbs, yMax2, yMin2, yList, yTuple, yDict0, zLM, yApp, isLst, dkAt, keyOf, zGet1, zGet2, zPop1, zPop2, zForR1, zForR2, zForL, zForT, Z.intAt, refAt, zLc, iR1, iR2, iL, iT, wipe, List.getElem?_cons_zero, List.getElem?_cons_succ, List.set_cons_zero, List.set_cons_succ, List.cons_append, List.nil_append, List.append_nil, upd_same, at0, at1, at2, ix0, ix1, ix2, upd_upd, ite_true, ite_false, if_true, if_false, Bool.false_eq_true, decide_true, decide_false, reduceIte, true_and, and_true, Option.isSome_none, Option.isSome_some, Bool.not_false, Bool.not_true, yIsi, tyAt, clsAt, ki_int_int, ki_bool_int, ki_none_int, ki_str_int, ki_list_int, ki_tuple_int, ki_int_bool, ki_bool_bool, ki_none_bool, ki_str_bool, ki_list_bool, ki_tuple_bool, zMakeV, tRz, zNever]
  refine ⟨x, rfl, kn, ?_⟩
  cases h : isW x with
  | false =>
    simp only [tSeq, tAsg, tIfS, tRet, tRetN, tDrop, tNext, tPar, tPar3, gName, gSub, gTup, gCons, gNil, zV, tC, tOp, tUn, tCons, tNil, tLst, tTup, tIf, tAnd, tOr, tNot, tYes, zB, zAnd, zOr, zNot, zChain, tDNewK, yAdd, ySub, yMul, yDiv, yMod, yPow, yNeg, yLt, yLe, yGt, yGe, yEq, yNe, yIs0, yNotIs0, yIx, ySet, yIn, sqAt, isNone, zFld, zSetF, insAt, zMeth, zProp, tCall, tMake, tCB, yLen, yAbs, yMax2, yMin2, yList, yTuple, yDict0, zLM, yApp, isLst, dkAt, keyOf, zGet1, zGet2, zPop1, zPop2, zForR1, zForR2, zForL, zForT, Z.intAt, refAt, zLc, iR1, iR2, iL, iT, wipe, List.getElem?_cons_zero, List.getElem?_cons_succ, List.set_cons_zero, List.set_cons_succ, List.cons_append, List.nil_append, List.append_nil, upd_same, at0, at1, at2, ix0, ix1, ix2, upd_upd, ite_true, ite_false, if_true, if_false, Bool.false_eq_true, decide_true, decide_false, reduceIte, true_and, and_true, Option.isSome_none, Option.isSome_some, Bool.not_false, Bool.not_true, yIsi, tyAt, clsAt, ki_int_int, ki_bool_int, ki_none_int, ki_str_int, ki_list_int, ki_tuple_int, ki_int_bool, ki_bool_bool, ki_none_bool, ki_str_bool, ki_list_bool, ki_tuple_bool, zMakeV, tRz, zNever]
    rw [inR_not h] at q
    exact q
  | true =>
    obtain ⟨i, rfl⟩ := isW_int h
    simp only [tSeq, tAsg, tIfS, tRet, tRetN, tDrop, tNext, tPar, tPar3, gName, gSub, gTup, gCons, gNil, zV, tC, tOp, tUn, tCons, tNil, tLst, tTup, tIf, tAnd, tOr, tNot, tYes, zB, zAnd, zOr, zNot, zChain, tDNewK, yAdd, ySub, yMul, yDiv, yMod, yPow, yNeg, yLt, yLe, yGt, yGe, yEq, yNe, yIs0, yNotIs0, yIx, ySet, yIn, sqAt, isNone, zFld, zSetF, insAt, zMeth, zProp, tCall, tMake, tCB, yLen, yAbs, yMax2, yMin2, yList, yTuple, yDict0, zLM, yApp, isLst, dkAt, keyOf, zGet1, zGet2, zPop1, zPop2, zForR1, zForR2, zForL, zForT, Z.intAt, refAt, zLc, iR1, iR2, iL, iT, wipe, List.getElem?_cons_zero, List.getElem?_cons_succ, List.set_cons_zero, List.set_cons_succ, List.cons_append, List.nil_append, List.append_nil, upd_same, at0, at1, at2, ix0, ix1, ix2, upd_upd, ite_true, ite_false, if_true, if_false, Bool.false_eq_true, decide_true, decide_false, reduceIte, true_and, and_true, Option.isSome_none, Option.isSome_some, Bool.not_false, Bool.not_true, yIsi, tyAt, clsAt, ki_int_int, ki_bool_int, ki_none_int, ki_str_int, ki_list_int, ki_tuple_int, ki_int_bool, ki_bool_bool, ki_none_bool, ki_str_bool, ki_list_bool, ki_tuple_bool, zMakeV, tRz, zNever]
    rw [inR_int] at q
    by_cases h1 : lo ≤ i
    · rw [decide_eq_true h1] at q ⊢
      simp only [tSeq, tAsg, tIfS, tRet, tRetN, tDrop, tNext, tPar, tPar3, gName, gSub, gTup, gCons, gNil, zV, tC, tOp, tUn, tCons, tNil, tLst, tTup, tIf, tAnd, tOr, tNot, tYes, zB, zAnd, zOr, zNot, zChain, tDNewK, yAdd, ySub, yMul, yDiv, yMod, yPow, yNeg, yLt, yLe, yGt, yGe, yEq, yNe, yIs0, yNotIs0, yIx, ySet, yIn, sqAt, isNone, zFld, zSetF, insAt, zMeth, zProp, tCall, tMake, tCB, yLen, yAbs, yMax2, yMin2, yList, yTuple, yDict0, zLM, yApp, isLst, dkAt, keyOf, zGet1, zGet2, zPop1, zPop2, zForR1, zForR2, zForL, zForT, Z.intAt, refAt, zLc, iR1, iR2, iL, iT, wipe, List.getElem?_cons_zero, List.getElem?_cons_succ, List.set_cons_zero, List.set_cons_succ, List.cons_append, List.nil_append, List.append_nil, upd_same, at0, at1, at2, ix0, ix1, ix2, upd_upd, ite_true, ite_false, if_true, if_false, Bool.false_eq_true, decide_true, decide_false, reduceIte, true_and, and_true, Option.isSome_none, Option.isSome_some, Bool.not_false, Bool.not_true, yIsi, tyAt, clsAt, ki_int_int, ki_bool_int, ki_none_int, ki_str_int, ki_list_int, ki_tuple_int, ki_int_bool, ki_bool_bool, ki_none_bool, ki_str_bool, ki_list_bool, ki_tuple_bool, zMakeV, tRz, zNever]
      rw [Bool.true_and] at q
      exact q
    · rw [decide_eq_false h1] at q ⊢
      simp only [tSeq, tAsg, tIfS, tRet, tRetN, tDrop, tNext, tPar, tPar3, gName, gSub, gTup, gCons, gNil, zV, tC, tOp, tUn, tCons, tNil, tLst, tTup, tIf, tAnd, tOr, tNot, tYes, zB, zAnd, zOr, zNot, zChain, tDNewK, yAdd, ySub, yMul, yDiv, yMod, yPow, yNeg, yLt, yLe, yGt, yGe, yEq, yNe, yIs0, yNotIs0, yIx, ySet, yIn, sqAt, isNone, zFld, zSetF, insAt, zMeth, zProp, tCall, tMake, tCB, yLen, yAbs, yMax2, yMin2, yList, yTuple, yDict0, zLM, yApp, isLst, dkAt, keyOf, zGet1, zGet2, zPop1, zPop2, zForR1, zForR2, zForL, zForT, Z.intAt, refAt, zLc, iR1, iR2, iL, iT, wipe, List.getElem?_cons_zero, List.getElem?_cons_succ, List.set_cons_zero, List.set_cons_succ, List.cons_append, List.nil_append, List.append_nil, upd_same, at0, at1, at2, ix0, ix1, ix2, upd_upd, ite_true, ite_false, if_true, if_false, Bool.false_eq_true, decide_true, decide_false, reduceIte, true_and, and_true, Option.isSome_none, Option.isSome_some, Bool.not_false, Bool.not_true, yIsi, tyAt, clsAt, ki_int_int, ki_bool_int, ki_none_int, ki_str_int, ki_list_int, ki_tuple_int, ki_int_bool, ki_bool_bool, ki_none_bool, ki_str_bool, ki_list_bool, ki_tuple_bool, zMakeV, tRz, zNever]
      exact q
theorem dueV_int (f m : Int) : dueV (.int f) (.int m) = if 0 ≤ f ∧ f ≤ 1000000000000 ∧ 1 ≤ m ∧ m ≤ 1000000000000 then some (f, m) else none := rfl
theorem dueV_some {x y : V} {f m : Int} (h : dueV x y = some (f, m)) : x = .int f ∧ y = .int m ∧ inR x 0 1000000000000 = true ∧ inR y 1 1000000000000 = true := by
  unfold dueV at h
  split at h
  · split at h
    · rename_i c
      obtain ⟨rfl, rfl⟩ := Prod.mk.inj (Option.some.inj h)
      refine ⟨rfl, rfl, ?_, ?_⟩
      · rw [inR_int, decide_eq_true c.1, decide_eq_true c.2.1]; rfl
      · rw [inR_int, decide_eq_true c.2.2.1, decide_eq_true c.2.2.2]; rfl
    · cases h
  · cases h
theorem dueV_none {x y : V} (h : (inR x 0 1000000000000 && inR y 1 1000000000000) = false) : dueV x y = none := by
  cases e : dueV x y with
  | none => rfl
  | some p =>
    obtain ⟨f, m⟩ := p
    obtain ⟨_, _, h1, h2⟩ := dueV_some e
    rw [h1, h2] at h
    cases h
theorem dueV_of {x y : V} (h1 : inR x 0 1000000000000 = true) (h2 : inR y 1 1000000000000 = true) : ∃ f m, x = .int f ∧ y = .int m ∧ dueV x y = some (f, m) := by
  unfold inR at h1 h2
  split at h1
  · rename_i f
    split at h2
    · rename_i m
      obtain ⟨a1, a2⟩ := Bool.and_eq_true_iff.mp h1
      obtain ⟨b1, b2⟩ := Bool.and_eq_true_iff.mp h2
      exact ⟨f, m, rfl, rfl, by rw [dueV_int, if_pos ⟨of_decide_eq_true a1, of_decide_eq_true a2, of_decide_eq_true b1, of_decide_eq_true b2⟩]⟩
    · cases h2
  · cases h1
theorem rd_Run___init__ {K : PySem.W.Frag} {mg : Str → Option Value} (T : Top K mg) : ∀ vs H Q E, sp_Run___init__ K vs H Q E → t_Run___init__ K E { nx := fun _ H' => Q .non H', rt := Q } (start nm_Run___init__ vs) H := by
  rintro vs H Q E ⟨a, dx, x, y, rfl, ha, kx, ky, k1, k2⟩
  rw [start_Run___init__]
  unfold t_Run___init__ t_Run___init___1
  simp only [tSeq, tAsg, tIfS, tRet, tRetN, tDrop, tNext, tPar, tPar3, gName, gSub, gTup, gCons, gNil, zV, tC, tOp, tUn, tCons, tNil, tLst, tTup, tIf, tAnd, tOr, tNot, tYes, zB, zAnd, zOr, zNot, zChain, tDNewK, yAdd, ySub, yMul, yDiv, yMod, yPow, yNeg, yLt, yLe, yGt, yGe, yEq, yNe, yIs0, yNotIs0, yIx, ySet, yIn, sqAt, isNone, zFld, zSetF, insAt, zMeth, zProp, tCall, tMake, tCB, yLen, yAbs, yMax2, yMin2, yList, yTuple, yDict0, zLM, yApp, isLst, dkAt, keyOf, zGet1, zGet2, zPop1, zPop2, zForR1, zForR2, zForL, zForT, Z.intAt, refAt, zLc, iR1, iR2, iL, iT, wipe, List.getElem?_cons_zero, List.getElem?_cons_succ, List.set_cons_zero, List.set_cons_succ, List.cons_append, List.nil_append, List.append_nil, upd_same, at0, at1, at2, ix0, ix1, ix2, upd_upd, ite_true, ite_false, if_true, if_false, Bool.false_eq_true, decide_true, decide_false, reduceIte, true_and, and_true, Option.isSome_none, Option.isSome_some, Bool.not_false, Bool.not_true, yIsi, tyAt, clsAt, ki_int_int, ki_bool_int, ki_none_int, ki_str_int, ki_list_int, ki_tuple_int, ki_int_bool, ki_bool_bool, ki_none_bool, ki_str_bool, ki_list_bool, ki_tuple_bool, zMakeV, tRz, zNever]
  refine ⟨x, 0, _, rfl, kx, ?_⟩
  cases h1 : inR x 0 1000000000000 with
  | false =>
    simp only [tSeq, tAsg, tIfS, tRet, tRetN, tDrop, tNext, tPar, tPar3, gName, gSub, gTup, gCons, gNil, zV, tC, tOp, tUn, tCons, tNil, tLst, tTup, tIf, tAnd, tOr, tNot, tYes, zB, zAnd, zOr, zNot, zChain, tDNewK, yAdd, ySub, yMul, yDiv, yMod, yPow, yNeg, yLt, yLe, yGt, yGe, yEq, yNe, yIs0, yNotIs0, yIx, ySet, yIn, sqAt, isNone, zFld, zSetF, insAt, zMeth, zProp, tCall, tMake, tCB, yLen, yAbs, yMax2, yMin2, yList, yTuple, yDict0, zLM, yApp, isLst, dkAt, keyOf, zGet1, zGet2, zPop1, zPop2, zForR1, zForR2, zForL, zForT, Z.intAt, refAt, zLc, iR1, iR2, iL, iT, wipe, List.getElem?_cons_zero, List.getElem?_cons_succ, List.set_cons_zero, List.set_cons_succ, List.cons_append, List.nil_append, List.append_nil, upd_same, at0, at1, at2, ix0, ix1, ix2, upd_upd, ite_true, ite_false, if_true, if_false, Bool.false_eq_true, decide_true, decide_false, reduceIte, true_and, and_true, Option.isSome_none, Option.isSome_some, Bool.not_false, Bool.not_true, yIsi, tyAt, clsAt, ki_int_int, ki_bool_int, ki_none_int, ki_str_int, ki_list_int, ki_tuple_int, ki_int_bool, ki_bool_bool, ki_none_bool, ki_str_bool, ki_list_bool, ki_tuple_bool, zMakeV, tRz, zNever, t_Run___init___1t_1]
    exact k2 (dueV_none (by rw [h1]; rfl))
  | true =>
    simp only [tSeq, tAsg, tIfS, tRet, tRetN, tDrop, tNext, tPar, tPar3, gName, gSub, gTup, gCons, gNil, zV, tC, tOp, tUn, tCons, tNil, tLst, tTup, tIf, tAnd, tOr, tNot, tYes, zB, zAnd, zOr, zNot, zChain, tDNewK, yAdd, ySub, yMul, yDiv, yMod, yPow, yNeg, yLt, yLe, yGt, yGe, yEq, yNe, yIs0, yNotIs0, yIx, ySet, yIn, sqAt, isNone, zFld, zSetF, insAt, zMeth, zProp, tCall, tMake, tCB, yLen, yAbs, yMax2, yMin2, yList, yTuple, yDict0, zLM, yApp, isLst, dkAt, keyOf, zGet1, zGet2, zPop1, zPop2, zForR1, zForR2, zForL, zForT, Z.intAt, refAt, zLc, iR1, iR2, iL, iT, wipe, List.getElem?_cons_zero, List.getElem?_cons_succ, List.set_cons_zero, List.set_cons_succ, List.cons_append, List.nil_append, List.append_nil, upd_same, at0, at1, at2, ix0, ix1, ix2, upd_upd, ite_true, ite_false, if_true, if_false, Bool.false_eq_true, decide_true, decide_false, reduceIte, true_and, and_true, Option.isSome_none, Option.isSome_some, Bool.not_false, Bool.not_true, yIsi, tyAt, clsAt, ki_int_int, ki_bool_int, ki_none_int, ki_str_int, ki_list_int, ki_tuple_int, ki_int_bool, ki_bool_bool, ki_none_bool, ki_str_bool, ki_list_bool, ki_tuple_bool, zMakeV, tRz, zNever]
    refine ⟨y, 1, _, rfl, ky, ?_⟩
    cases h2 : inR y 1 1000000000000 with
    | false =>
      simp only [tSeq, tAsg, tIfS, tRet, tRetN, tDrop, tNext, tPar, tPar3, gName, gSub, gTup, gCons, gNil, zV, tC, tOp, tUn, tCons, tNil, tLst, tTup, tIf, tAnd, tOr, tNot, tYes, zB, zAnd, zOr, zNot, zChain, tDNewK, yAdd, ySub, yMul, yDiv, yMod, yPow, yNeg, yLt, yLe, yGt, yGe, yEq, yNe, yIs0, yNotIs0, yIx, ySet, yIn, sqAt, isNone, zFld, zSetF, insAt, zMeth, zProp, tCall, tMake, tCB, yLen, yAbs, yMax2, yMin2, yList, yTuple, yDict0, zLM, yApp, isLst, dkAt, keyOf, zGet1, zGet2, zPop1, zPop2, zForR1, zForR2, zForL, zForT, Z.intAt, refAt, zLc, iR1, iR2, iL, iT, wipe, List.getElem?_cons_zero, List.getElem?_cons_succ, List.set_cons_zero, List.set_cons_succ, List.cons_append, List.nil_append, List.append_nil, upd_same, at0, at1, at2, ix0, ix1, ix2, upd_upd, ite_true, ite_false, if_true, if_false, Bool.false_eq_true, decide_true, decide_false, reduceIte, true_and, and_true, Option.isSome_none, Option.isSome_some, Bool.not_false, Bool.not_true, yIsi, tyAt, clsAt, ki_int_int, ki_bool_int, ki_none_int, ki_str_int, ki_list_int, ki_tuple_int, ki_int_bool, ki_bool_bool, ki_none_bool, ki_str_bool, ki_list_bool, ki_tuple_bool, zMakeV, tRz, zNever, t_Run___init___1t_1]
      exact k2 (dueV_none (by rw [h1, h2]; rfl))
    | true =>
      obtain ⟨f, m, rfl, rfl, hd⟩ := dueV_of h1 h2
      simp only [tSeq, tAsg, tIfS, tRet, tRetN, tDrop, tNext, tPar, tPar3, gName, gSub, gTup, gCons, gNil, zV, tC, tOp, tUn, tCons, tNil, tLst, tTup, tIf, tAnd, tOr, tNot, tYes, zB, zAnd, zOr, zNot, zChain, tDNewK, yAdd, ySub, yMul, yDiv, yMod, yPow, yNeg, yLt, yLe, yGt, yGe, yEq, yNe, yIs0, yNotIs0, yIx, ySet, yIn, sqAt, isNone, zFld, zSetF, insAt, zMeth, zProp, tCall, tMake, tCB, yLen, yAbs, yMax2, yMin2, yList, yTuple, yDict0, zLM, yApp, isLst, dkAt, keyOf, zGet1, zGet2, zPop1, zPop2, zForR1, zForR2, zForL, zForT, Z.intAt, refAt, zLc, iR1, iR2, iL, iT, wipe, List.getElem?_cons_zero, List.getElem?_cons_succ, List.set_cons_zero, List.set_cons_succ, List.cons_append, List.nil_append, List.append_nil, upd_same, at0, at1, at2, ix0, ix1, ix2, upd_upd, ite_true, ite_false, if_true, if_false, Bool.false_eq_true, decide_true, decide_false, reduceIte, true_and, and_true, Option.isSome_none, Option.isSome_some, Bool.not_false, Bool.not_true, yIsi, tyAt, clsAt, ki_int_int, ki_bool_int, ki_none_int, ki_str_int, ki_list_int, ki_tuple_int, ki_int_bool, ki_bool_bool, ki_none_bool, ki_str_bool, ki_list_bool, ki_tuple_bool, zMakeV, tRz, zNever, t_Run___init___2, t_Run___init___3, ha, pn_Run_first (.int f) (.int m), pn_Run_many (.int f) (.int m)]
      refine ⟨⟨T.cl_Run, T.na_Run_first, by show 0 < 1000; decide⟩, ⟨T.cl_Run, T.na_Run_many, by show 1 < 1000; decide⟩, ?_⟩
      have hq := k1 f m hd
      first
        | exact hq
        | (rw [pn_Run_many]; exact hq)
theorem rd_Run_end {K : PySem.W.Frag} {mg : Str → Option Value} (T : Top K mg) : ∀ vs H Q E, sp_Run_end K vs H Q E → t_Run_end K { nx := fun _ H' => Q .non H', rt := Q } (start nm_Run_end vs) H := by
  rintro vs H Q E ⟨a, dx, f, m, rfl, ha, q⟩
  rw [start_Run_end]
  unfold t_Run_end t_Run_end_1
  simp only [tSeq, tAsg, tIfS, tRet, tRetN, tDrop, tNext, tPar, tPar3, gName, gSub, gTup, gCons, gNil, zV, tC, tOp, tUn, tCons, tNil, tLst, tTup, tIf, tAnd, tOr, tNot, tYes, zB, zAnd, zOr, zNot, zChain, tDNewK, yAdd, ySub, yMul, yDiv, yMod, yPow, yNeg, yLt, yLe, yGt, yGe, yEq, yNe, yIs0, yNotIs0, yIx, ySet, yIn, sqAt, isNone, zFld, zSetF, insAt, zMeth, zProp, tCall, tMake, tCB, yLen, yAbs, yMax2, yMin2, yList, yTuple, yDict0, zLM, yApp, isLst, dkAt, keyOf, zGet1, zGet2, zPop1, zPop2, zForR1, zForR2, zForL, zForT, Z.intAt, refAt, zLc, iR1, iR2, iL, iT, wipe, List.getElem?_cons_zero, List.getElem?_cons_succ, List.set_cons_zero, List.set_cons_succ, List.cons_append, List.nil_append, List.append_nil, upd_same, at0, at1, at2, ix0, ix1, ix2, upd_upd, ite_true, ite_false, if_true, if_false, Bool.false_eq_true, decide_true, decide_false, reduceIte, true_and, and_true, Option.isSome_none, Option.isSome_some, Bool.not_false, Bool.not_true, yIsi, tyAt, clsAt, ki_int_int, ki_bool_int, ki_none_int, ki_str_int, ki_list_int, ki_tuple_int, ki_int_bool, ki_bool_bool, ki_none_bool, ki_str_bool, ki_list_bool, ki_tuple_bool, zMakeV, tRz, zNever, ha, lk_Run_first, lk_Run_many]
  exact ⟨⟨T.cl_Run, T.na_Run_first⟩, ⟨T.cl_Run, T.na_Run_many⟩, q⟩
theorem Same.upd' {H0 H : Hp} {p : Addr} {o : HO} (s : Same H0 H) (h : H0 p = none) : Same H0 (upd H p o) := fun a u e => by rw [upd_ne (ne_of_none e h)]; exact s a u e
theorem Kn.int {K : PySem.W.Frag} {H : Hp} (i : Int) : Kn K H (.int i) := .inl ⟨i, rfl⟩
theorem rd_Run_between {K : PySem.W.Frag} {mg : Str → Option Value} (T : Top K mg) : ∀ vs H Q E, sp_Run_between K vs H Q E → t_Run_between K E { nx := fun _ H' => Q .non H', rt := Q } (start nm_Run_between vs) H := by
  rintro vs H Q E ⟨x, y, rfl, kx, ky, k1, k2⟩
  rw [start_Run_between]
  unfold t_Run_between t_Run_between_1
  simp only [tSeq, tAsg, tIfS, tRet, tRetN, tDrop, tNext, tPar, tPar3, gName, gSub, gTup, gCons, gNil, zV, tC, tOp, tUn, tCons, tNil, tLst, tTup, tIf, tAnd, tOr, tNot, tYes, zB, zAnd, zOr, zNot, zChain, tDNewK, yAdd, ySub, yMul, yDiv, yMod, yPow, yNeg, yLt, yLe, yGt, yGe, yEq, yNe, yIs0, yNotIs0, yIx, ySet, yIn, sqAt, isNone, zFld, zSetF, insAt, zMeth, zProp, tCall, tMake, tCB, yLen, yAbs, yMax2, yMin2, yList, yTuple, yDict0, zLM, yApp, isLst, dkAt, keyOf, zGet1, zGet2, zPop1, zPop2, zForR1, zForR2, zForL, zForT, Z.intAt, refAt, zLc, iR1, iR2, iL, iT, wipe, List.getElem?_cons_zero, List.getElem?_cons_succ, List.set_cons_zero, List.set_cons_succ, List.cons_append, List.nil_append, List.append_nil, upd_same, at0, at1, at2, ix0, ix1, ix2, upd_upd, ite_true, ite_false, if_true, if_false, Bool.false_eq_true, decide_true, decide_false, reduceIte, true_and, and_true, Option.isSome_none, Option.isSome_some, Bool.not_false, Bool.not_true, yIsi, tyAt, clsAt, ki_int_int, ki_bool_int, ki_none_int, ki_str_int, ki_list_int, ki_tuple_int, ki_int_bool, ki_bool_bool, ki_none_bool, ki_str_bool, ki_list_bool, ki_tuple_bool, zMakeV, tRz, zNever]
  refine ⟨x, rfl, kx, ?_⟩
  cases h1 : isW x with
  | false =>
    simp only [tSeq, tAsg, tIfS, tRet, tRetN, tDrop, tNext, tPar, tPar3, gName, gSub, gTup, gCons, gNil, zV, tC, tOp, tUn, tCons, tNil, tLst, tTup, tIf, tAnd, tOr, tNot, tYes, zB, zAnd, zOr, zNot, zChain, tDNewK, yAdd, ySub, yMul, yDiv, yMod, yPow, yNeg, yLt, yLe, yGt, yGe, yEq, yNe, yIs0, yNotIs0, yIx, ySet, yIn, sqAt, isNone, zFld, zSetF, insAt, zMeth, zProp, tCall, tMake, tCB, yLen, yAbs, yMax2, yMin2, yList, yTuple, yDict0, zLM, yApp, isLst, dkAt, keyOf, zGet1, zGet2, zPop1, zPop2, zForR1, zForR2, zForL, zForT, Z.intAt, refAt, zLc, iR1, iR2, iL, iT, wipe, List.getElem?_cons_zero, List.getElem?_cons_succ, List.set_cons_zero, List.set_cons_succ, List.cons_append, List.nil_append, List.append_nil, upd_same, at0, at1, at2, ix0, ix1, ix2, upd_upd, ite_true, ite_false, if_true, if_false, Bool.false_eq_true, decide_true, decide_false, reduceIte, true_and, and_true, Option.isSome_none, Option.isSome_some, Bool.not_false, Bool.not_true, yIsi, tyAt, clsAt, ki_int_int, ki_bool_int, ki_none_int, ki_str_int, ki_list_int, ki_tuple_int, ki_int_bool, ki_bool_bool, ki_none_bool, ki_str_bool, ki_list_bool, ki_tuple_bool, zMakeV, tRz, zNever, t_Run_between_1t_1]
    refine k2 ?_ H (Same.refl H)
    unfold btwV
    split
    · cases h1
    · rfl
  | true =>
    obtain ⟨f, rfl⟩ := isW_int h1
    simp only [tSeq, tAsg, tIfS, tRet, tRetN, tDrop, tNext, tPar, tPar3, gName, gSub, gTup, gCons, gNil, zV, tC, tOp, tUn, tCons, tNil, tLst, tTup, tIf, tAnd, tOr, tNot, tYes, zB, zAnd, zOr, zNot, zChain, tDNewK, yAdd, ySub, yMul, yDiv, yMod, yPow, yNeg, yLt, yLe, yGt, yGe, yEq, yNe, yIs0, yNotIs0, yIx, ySet, yIn, sqAt, isNone, zFld, zSetF, insAt, zMeth, zProp, tCall, tMake, tCB, yLen, yAbs, yMax2, yMin2, yList, yTuple, yDict0, zLM, yApp, isLst, dkAt, keyOf, zGet1, zGet2, zPop1, zPop2, zForR1, zForR2, zForL, zForT, Z.intAt, refAt, zLc, iR1, iR2, iL, iT, wipe, List.getElem?_cons_zero, List.getElem?_cons_succ, List.set_cons_zero, List.set_cons_succ, List.cons_append, List.nil_append, List.append_nil, upd_same, at0, at1, at2, ix0, ix1, ix2, upd_upd, ite_true, ite_false, if_true, if_false, Bool.false_eq_true, decide_true, decide_false, reduceIte, true_and, and_true, Option.isSome_none, Option.isSome_some, Bool.not_false, Bool.not_true, yIsi, tyAt, clsAt, ki_int_int, ki_bool_int, ki_none_int, ki_str_int, ki_list_int, ki_tuple_int, ki_int_bool, ki_bool_bool, ki_none_bool, ki_str_bool, ki_list_bool, ki_tuple_bool, zMakeV, tRz, zNever]
    refine ⟨y, rfl, ky, ?_⟩
    cases h2 : isW y with
    | false =>
      simp only [tSeq, tAsg, tIfS, tRet, tRetN, tDrop, tNext, tPar, tPar3, gName, gSub, gTup, gCons, gNil, zV, tC, tOp, tUn, tCons, tNil, tLst, tTup, tIf, tAnd, tOr, tNot, tYes, zB, zAnd, zOr, zNot, zChain, tDNewK, yAdd, ySub, yMul, yDiv, yMod, yPow, yNeg, yLt, yLe, yGt, yGe, yEq, yNe, yIs0, yNotIs0, yIx, ySet, yIn, sqAt, isNone, zFld, zSetF, insAt, zMeth, zProp, tCall, tMake, tCB, yLen, yAbs, yMax2, yMin2, yList, yTuple, yDict0, zLM, yApp, isLst, dkAt, keyOf, zGet1, zGet2, zPop1, zPop2, zForR1, zForR2, zForL, zForT, Z.intAt, refAt, zLc, iR1, iR2, iL, iT, wipe, List.getElem?_cons_zero, List.getElem?_cons_succ, List.set_cons_zero, List.set_cons_succ, List.cons_append, List.nil_append, List.append_nil, upd_same, at0, at1, at2, ix0, ix1, ix2, upd_upd, ite_true, ite_false, if_true, if_false, Bool.false_eq_true, decide_true, decide_false, reduceIte, true_and, and_true, Option.isSome_none, Option.isSome_some, Bool.not_false, Bool.not_true, yIsi, tyAt, clsAt, ki_int_int, ki_bool_int, ki_none_int, ki_str_int, ki_list_int, ki_tuple_int, ki_int_bool, ki_bool_bool, ki_none_bool, ki_str_bool, ki_list_bool, ki_tuple_bool, zMakeV, tRz, zNever, t_Run_between_1t_1]
      refine k2 ?_ H (Same.refl H)
      unfold btwV
      split
      · cases h2
      · rfl
    | true =>
      obtain ⟨e, rfl⟩ := isW_int h2
      unfold t_Run_between_2
      simp only [tSeq, tAsg, tIfS, tRet, tRetN, tDrop, tNext, tPar, tPar3, gName, gSub, gTup, gCons, gNil, zV, tC, tOp, tUn, tCons, tNil, tLst, tTup, tIf, tAnd, tOr, tNot, tYes, zB, zAnd, zOr, zNot, zChain, tDNewK, yAdd, ySub, yMul, yDiv, yMod, yPow, yNeg, yLt, yLe, yGt, yGe, yEq, yNe, yIs0, yNotIs0, yIx, ySet, yIn, sqAt, isNone, zFld, zSetF, insAt, zMeth, zProp, tCall, tMake, tCB, yLen, yAbs, yMax2, yMin2, yList, yTuple, yDict0, zLM, yApp, isLst, dkAt, keyOf, zGet1, zGet2, zPop1, zPop2, zForR1, zForR2, zForL, zForT, Z.intAt, refAt, zLc, iR1, iR2, iL, iT, wipe, List.getElem?_cons_zero, List.getElem?_cons_succ, List.set_cons_zero, List.set_cons_succ, List.cons_append, List.nil_append, List.append_nil, upd_same, at0, at1, at2, ix0, ix1, ix2, upd_upd, ite_true, ite_false, if_true, if_false, Bool.false_eq_true, decide_true, decide_false, reduceIte, true_and, and_true, Option.isSome_none, Option.isSome_some, Bool.not_false, Bool.not_true, yIsi, tyAt, clsAt, ki_int_int, ki_bool_int, ki_none_int, ki_str_int, ki_list_int, ki_tuple_int, ki_int_bool, ki_bool_bool, ki_none_bool, ki_str_bool, ki_list_bool, ki_tuple_bool, zMakeV, tRz, zNever]
      intro a dx ha hdx nd
      have s1 : Same H (upd (upd H dx (.own a)) a (.ins (He.ga K "Run") dx [])) := Same.upd' (Same.upd' (Same.refl H) hdx) ha
      refine ⟨a, dx, .int f, .int (e - f), rfl, upd_same, .int _, .int _, fun f' m hd => ⟨rfl, ?_⟩, fun hd => k2 hd _ s1⟩
      exact k1 f' m a dx _ hd (Same.upd' s1 ha) upd_same
theorem rd_L_due {K : PySem.W.Frag} {mg : Str → Option Value} (T : Top K mg) : ∀ vs H Q E, sp_L_due K vs H Q E → t_L_due K { nx := fun _ H' => Q .non H', rt := Q } (start nm_L_due vs) H := by
  rintro vs H Q E ⟨x, y, rfl, kx, ky, k1, k2⟩
  rw [start_L_due]
  unfold t_L_due t_L_due_1
  simp only [tSeq, tAsg, tIfS, tRet, tRetN, tDrop, tNext, tPar, tPar3, gName, gSub, gTup, gCons, gNil, zV, tC, tOp, tUn, tCons, tNil, tLst, tTup, tIf, tAnd, tOr, tNot, tYes, zB, zAnd, zOr, zNot, zChain, tDNewK, yAdd, ySub, yMul, yDiv, yMod, yPow, yNeg, yLt, yLe, yGt, yGe, yEq, yNe, yIs0, yNotIs0, yIx, ySet, yIn, sqAt, isNone, zFld, zSetF, insAt, zMeth, zProp, tCall, tMake, tCB, yLen, yAbs, yMax2, yMin2, yList, yTuple, yDict0, zLM, yApp, isLst, dkAt, keyOf, zGet1, zGet2, zPop1, zPop2, zForR1, zForR2, zForL, zForT, Z.intAt, refAt, zLc, iR1, iR2, iL, iT, wipe, List.getElem?_cons_zero, List.getElem?_cons_succ, List.set_cons_zero, List.set_cons_succ, List.cons_append, List.nil_append, List.append_nil, upd_same, at0, at1, at2, ix0, ix1, ix2, upd_upd, ite_true, ite_false, if_true, if_false, Bool.false_eq_true, decide_true, decide_false, reduceIte, true_and, and_true, Option.isSome_none, Option.isSome_some, Bool.not_false, Bool.not_true, yIsi, tyAt, clsAt, ki_int_int, ki_bool_int, ki_none_int, ki_str_int, ki_list_int, ki_tuple_int, ki_int_bool, ki_bool_bool, ki_none_bool, ki_str_bool, ki_list_bool, ki_tuple_bool, zMakeV, tRz, zNever]
  refine ⟨x, rfl, kx, ?_⟩
  cases h1 : isW x with
  | false =>
    simp only [tSeq, tAsg, tIfS, tRet, tRetN, tDrop, tNext, tPar, tPar3, gName, gSub, gTup, gCons, gNil, zV, tC, tOp, tUn, tCons, tNil, tLst, tTup, tIf, tAnd, tOr, tNot, tYes, zB, zAnd, zOr, zNot, zChain, tDNewK, yAdd, ySub, yMul, yDiv, yMod, yPow, yNeg, yLt, yLe, yGt, yGe, yEq, yNe, yIs0, yNotIs0, yIx, ySet, yIn, sqAt, isNone, zFld, zSetF, insAt, zMeth, zProp, tCall, tMake, tCB, yLen, yAbs, yMax2, yMin2, yList, yTuple, yDict0, zLM, yApp, isLst, dkAt, keyOf, zGet1, zGet2, zPop1, zPop2, zForR1, zForR2, zForL, zForT, Z.intAt, refAt, zLc, iR1, iR2, iL, iT, wipe, List.getElem?_cons_zero, List.getElem?_cons_succ, List.set_cons_zero, List.set_cons_succ, List.cons_append, List.nil_append, List.append_nil, upd_same, at0, at1, at2, ix0, ix1, ix2, upd_upd, ite_true, ite_false, if_true, if_false, Bool.false_eq_true, decide_true, decide_false, reduceIte, true_and, and_true, Option.isSome_none, Option.isSome_some, Bool.not_false, Bool.not_true, yIsi, tyAt, clsAt, ki_int_int, ki_bool_int, ki_none_int, ki_str_int, ki_list_int, ki_tuple_int, ki_int_bool, ki_bool_bool, ki_none_bool, ki_str_bool, ki_list_bool, ki_tuple_bool, zMakeV, tRz, zNever, t_L_due_1t_1]
    exact k1 (dueV_none (by rw [inR_not h1]; rfl))
  | true =>
    obtain ⟨f, rfl⟩ := isW_int h1
    simp only [tSeq, tAsg, tIfS, tRet, tRetN, tDrop, tNext, tPar, tPar3, gName, gSub, gTup, gCons, gNil, zV, tC, tOp, tUn, tCons, tNil, tLst, tTup, tIf, tAnd, tOr, tNot, tYes, zB, zAnd, zOr, zNot, zChain, tDNewK, yAdd, ySub, yMul, yDiv, yMod, yPow, yNeg, yLt, yLe, yGt, yGe, yEq, yNe, yIs0, yNotIs0, yIx, ySet, yIn, sqAt, isNone, zFld, zSetF, insAt, zMeth, zProp, tCall, tMake, tCB, yLen, yAbs, yMax2, yMin2, yList, yTuple, yDict0, zLM, yApp, isLst, dkAt, keyOf, zGet1, zGet2, zPop1, zPop2, zForR1, zForR2, zForL, zForT, Z.intAt, refAt, zLc, iR1, iR2, iL, iT, wipe, List.getElem?_cons_zero, List.getElem?_cons_succ, List.set_cons_zero, List.set_cons_succ, List.cons_append, List.nil_append, List.append_nil, upd_same, at0, at1, at2, ix0, ix1, ix2, upd_upd, ite_true, ite_false, if_true, if_false, Bool.false_eq_true, decide_true, decide_false, reduceIte, true_and, and_true, Option.isSome_none, Option.isSome_some, Bool.not_false, Bool.not_true, yIsi, tyAt, clsAt, ki_int_int, ki_bool_int, ki_none_int, ki_str_int, ki_list_int, ki_tuple_int, ki_int_bool, ki_bool_bool, ki_none_bool, ki_str_bool, ki_list_bool, ki_tuple_bool, zMakeV, tRz, zNever]
    refine ⟨y, rfl, ky, ?_⟩
    cases h2 : isW y with
    | false =>
      simp only [tSeq, tAsg, tIfS, tRet, tRetN, tDrop, tNext, tPar, tPar3, gName, gSub, gTup, gCons, gNil, zV, tC, tOp, tUn, tCons, tNil, tLst, tTup, tIf, tAnd, tOr, tNot, tYes, zB, zAnd, zOr, zNot, zChain, tDNewK, yAdd, ySub, yMul, yDiv, yMod, yPow, yNeg, yLt, yLe, yGt, yGe, yEq, yNe, yIs0, yNotIs0, yIx, ySet, yIn, sqAt, isNone, zFld, zSetF, insAt, zMeth, zProp, tCall, tMake, tCB, yLen, yAbs, yMax2, yMin2, yList, yTuple, yDict0, zLM, yApp, isLst, dkAt, keyOf, zGet1, zGet2, zPop1, zPop2, zForR1, zForR2, zForL, zForT, Z.intAt, refAt, zLc, iR1, iR2, iL, iT, wipe, List.getElem?_cons_zero, List.getElem?_cons_succ, List.set_cons_zero, List.set_cons_succ, List.cons_append, List.nil_append, List.append_nil, upd_same, at0, at1, at2, ix0, ix1, ix2, upd_upd, ite_true, ite_false, if_true, if_false, Bool.false_eq_true, decide_true, decide_false, reduceIte, true_and, and_true, Option.isSome_none, Option.isSome_some, Bool.not_false, Bool.not_true, yIsi, tyAt, clsAt, ki_int_int, ki_bool_int, ki_none_int, ki_str_int, ki_list_int, ki_tuple_int, ki_int_bool, ki_bool_bool, ki_none_bool, ki_str_bool, ki_list_bool, ki_tuple_bool, zMakeV, tRz, zNever, t_L_due_1t_1]
      exact k1 (dueV_none (by rw [inR_not h2, Bool.and_false]))
    | true =>
      obtain ⟨m, rfl⟩ := isW_int h2
      unfold t_L_due_2
      simp only [tSeq, tAsg, tIfS, tRet, tRetN, tDrop, tNext, tPar, tPar3, gName, gSub, gTup, gCons, gNil, zV, tC, tOp, tUn, tCons, tNil, tLst, tTup, tIf, tAnd, tOr, tNot, tYes, zB, zAnd, zOr, zNot, zChain, tDNewK, yAdd, ySub, yMul, yDiv, yMod, yPow, yNeg, yLt, yLe, yGt, yGe, yEq, yNe, yIs0, yNotIs0, yIx, ySet, yIn, sqAt, isNone, zFld, zSetF, insAt, zMeth, zProp, tCall, tMake, tCB, yLen, yAbs, yMax2, yMin2, yList, yTuple, yDict0, zLM, yApp, isLst, dkAt, keyOf, zGet1, zGet2, zPop1, zPop2, zForR1, zForR2, zForL, zForT, Z.intAt, refAt, zLc, iR1, iR2, iL, iT, wipe, List.getElem?_cons_zero, List.getElem?_cons_succ, List.set_cons_zero, List.set_cons_succ, List.cons_append, List.nil_append, List.append_nil, upd_same, at0, at1, at2, ix0, ix1, ix2, upd_upd, ite_true, ite_false, if_true, if_false, Bool.false_eq_true, decide_true, decide_false, reduceIte, true_and, and_true, Option.isSome_none, Option.isSome_some, Bool.not_false, Bool.not_true, yIsi, tyAt, clsAt, ki_int_int, ki_bool_int, ki_none_int, ki_str_int, ki_list_int, ki_tuple_int, ki_int_bool, ki_bool_bool, ki_none_bool, ki_str_bool, ki_list_bool, ki_tuple_bool, zMakeV, tRz, zNever]
      have e0 : (10 : Int) ^ Int.toNat 12 = 1000000000000 := by decide
      have fin : 0 ≤ f → f ≤ 1000000000000 → 1 ≤ m → m ≤ 1000000000000 → dueV (.int f) (.int m) = some (f, m) := fun a b c d => by rw [dueV_int, if_pos ⟨a, b, c, d⟩]
      have nof : ¬ (0 ≤ f ∧ f ≤ 1000000000000 ∧ 1 ≤ m ∧ m ≤ 1000000000000) → dueV (.int f) (.int m) = none := fun h => by rw [dueV_int, if_neg h]
      by_cases c1 : 0 ≤ f
      · rw [decide_eq_true c1]
        simp only [tSeq, tAsg, tIfS, tRet, tRetN, tDrop, tNext, tPar, tPar3, gName, gSub, gTup, gCons, gNil, zV, tC, tOp, tUn, tCons, tNil, tLst, tTup, tIf, tAnd, tOr, tNot, tYes, zB, zAnd, zOr, zNot, zChain, tDNewK, yAdd, ySub, yMul, yDiv, yMod, yPow, yNeg, yLt, yLe, yGt, yGe, yEq, yNe, yIs0, yNotIs0, yIx, ySet, yIn, sqAt, isNone, zFld, zSetF, insAt, zMeth, zProp, tCall, tMake, tCB, yLen, yAbs, yMax2, yMin2, yList, yTuple, yDict0, zLM, yApp, isLst, dkAt, keyOf, zGet1, zGet2, zPop1, zPop2, zForR1, zForR2, zForL, zForT, Z.intAt, refAt, zLc, iR1, iR2, iL, iT, wipe, List.getElem?_cons_zero, List.getElem?_cons_succ, List.set_cons_zero, List.set_cons_succ, List.cons_append, List.nil_append, List.append_nil, upd_same, at0, at1, at2, ix0, ix1, ix2, upd_upd, ite_true, ite_false, if_true, if_false, Bool.false_eq_true, decide_true, decide_false, reduceIte, true_and, and_true, Option.isSome_none, Option.isSome_some, Bool.not_false, Bool.not_true, yIsi, tyAt, clsAt, ki_int_int, ki_bool_int, ki_none_int, ki_str_int, ki_list_int, ki_tuple_int, ki_int_bool, ki_bool_bool, ki_none_bool, ki_str_bool, ki_list_bool, ki_tuple_bool, zMakeV, tRz, zNever]
        refine ⟨⟨by decide, by decide, by decide⟩, ?_⟩
        rw [e0]
        by_cases c2 : f ≤ 1000000000000
        · rw [decide_eq_true c2]
          simp only [tSeq, tAsg, tIfS, tRet, tRetN, tDrop, tNext, tPar, tPar3, gName, gSub, gTup, gCons, gNil, zV, tC, tOp, tUn, tCons, tNil, tLst, tTup, tIf, tAnd, tOr, tNot, tYes, zB, zAnd, zOr, zNot, zChain, tDNewK, yAdd, ySub, yMul, yDiv, yMod, yPow, yNeg, yLt, yLe, yGt, yGe, yEq, yNe, yIs0, yNotIs0, yIx, ySet, yIn, sqAt, isNone, zFld, zSetF, insAt, zMeth, zProp, tCall, tMake, tCB, yLen, yAbs, yMax2, yMin2, yList, yTuple, yDict0, zLM, yApp, isLst, dkAt, keyOf, zGet1, zGet2, zPop1, zPop2, zForR1, zForR2, zForL, zForT, Z.intAt, refAt, zLc, iR1, iR2, iL, iT, wipe, List.getElem?_cons_zero, List.getElem?_cons_succ, List.set_cons_zero, List.set_cons_succ, List.cons_append, List.nil_append, List.append_nil, upd_same, at0, at1, at2, ix0, ix1, ix2, upd_upd, ite_true, ite_false, if_true, if_false, Bool.false_eq_true, decide_true, decide_false, reduceIte, true_and, and_true, Option.isSome_none, Option.isSome_some, Bool.not_false, Bool.not_true, yIsi, tyAt, clsAt, ki_int_int, ki_bool_int, ki_none_int, ki_str_int, ki_list_int, ki_tuple_int, ki_int_bool, ki_bool_bool, ki_none_bool, ki_str_bool, ki_list_bool, ki_tuple_bool, zMakeV, tRz, zNever]
          by_cases c3 : 1 ≤ m
          · rw [decide_eq_true c3]
            simp only [tSeq, tAsg, tIfS, tRet, tRetN, tDrop, tNext, tPar, tPar3, gName, gSub, gTup, gCons, gNil, zV, tC, tOp, tUn, tCons, tNil, tLst, tTup, tIf, tAnd, tOr, tNot, tYes, zB, zAnd, zOr, zNot, zChain, tDNewK, yAdd, ySub, yMul, yDiv, yMod, yPow, yNeg, yLt, yLe, yGt, yGe, yEq, yNe, yIs0, yNotIs0, yIx, ySet, yIn, sqAt, isNone, zFld, zSetF, insAt, zMeth, zProp, tCall, tMake, tCB, yLen, yAbs, yMax2, yMin2, yList, yTuple, yDict0, zLM, yApp, isLst, dkAt, keyOf, zGet1, zGet2, zPop1, zPop2, zForR1, zForR2, zForL, zForT, Z.intAt, refAt, zLc, iR1, iR2, iL, iT, wipe, List.getElem?_cons_zero, List.getElem?_cons_succ, List.set_cons_zero, List.set_cons_succ, List.cons_append, List.nil_append, List.append_nil, upd_same, at0, at1, at2, ix0, ix1, ix2, upd_upd, ite_true, ite_false, if_true, if_false, Bool.false_eq_true, decide_true, decide_false, reduceIte, true_and, and_true, Option.isSome_none, Option.isSome_some, Bool.not_false, Bool.not_true, yIsi, tyAt, clsAt, ki_int_int, ki_bool_int, ki_none_int, ki_str_int, ki_list_int, ki_tuple_int, ki_int_bool, ki_bool_bool, ki_none_bool, ki_str_bool, ki_list_bool, ki_tuple_bool, zMakeV, tRz, zNever]
            refine ⟨⟨by decide, by decide, by decide⟩, ?_⟩
            by_cases c4 : m ≤ 1000000000000
            · rw [decide_eq_true c4]
              simp only [tSeq, tAsg, tIfS, tRet, tRetN, tDrop, tNext, tPar, tPar3, gName, gSub, gTup, gCons, gNil, zV, tC, tOp, tUn, tCons, tNil, tLst, tTup, tIf, tAnd, tOr, tNot, tYes, zB, zAnd, zOr, zNot, zChain, tDNewK, yAdd, ySub, yMul, yDiv, yMod, yPow, yNeg, yLt, yLe, yGt, yGe, yEq, yNe, yIs0, yNotIs0, yIx, ySet, yIn, sqAt, isNone, zFld, zSetF, insAt, zMeth, zProp, tCall, tMake, tCB, yLen, yAbs, yMax2, yMin2, yList, yTuple, yDict0, zLM, yApp, isLst, dkAt, keyOf, zGet1, zGet2, zPop1, zPop2, zForR1, zForR2, zForL, zForT, Z.intAt, refAt, zLc, iR1, iR2, iL, iT, wipe, List.getElem?_cons_zero, List.getElem?_cons_succ, List.set_cons_zero, List.set_cons_succ, List.cons_append, List.nil_append, List.append_nil, upd_same, at0, at1, at2, ix0, ix1, ix2, upd_upd, ite_true, ite_false, if_true, if_false, Bool.false_eq_true, decide_true, decide_false, reduceIte, true_and, and_true, Option.isSome_none, Option.isSome_some, Bool.not_false, Bool.not_true, yIsi, tyAt, clsAt, ki_int_int, ki_bool_int, ki_none_int, ki_str_int, ki_list_int, ki_tuple_int, ki_int_bool, ki_bool_bool, ki_none_bool, ki_str_bool, ki_list_bool, ki_tuple_bool, zMakeV, tRz, zNever, t_L_due_3]
              exact ⟨by show 3 ≤ sizeLine; decide, fun p hp => k2 f m (fin c1 c2 c3 c4) p hp⟩
            · rw [decide_eq_false c4]
              simp only [tSeq, tAsg, tIfS, tRet, tRetN, tDrop, tNext, tPar, tPar3, gName, gSub, gTup, gCons, gNil, zV, tC, tOp, tUn, tCons, tNil, tLst, tTup, tIf, tAnd, tOr, tNot, tYes, zB, zAnd, zOr, zNot, zChain, tDNewK, yAdd, ySub, yMul, yDiv, yMod, yPow, yNeg, yLt, yLe, yGt, yGe, yEq, yNe, yIs0, yNotIs0, yIx, ySet, yIn, sqAt, isNone, zFld, zSetF, insAt, zMeth, zProp, tCall, tMake, tCB, yLen, yAbs, yMax2, yMin2, yList, yTuple, yDict0, zLM, yApp, isLst, dkAt, keyOf, zGet1, zGet2, zPop1, zPop2, zForR1, zForR2, zForL, zForT, Z.intAt, refAt, zLc, iR1, iR2, iL, iT, wipe, List.getElem?_cons_zero, List.getElem?_cons_succ, List.set_cons_zero, List.set_cons_succ, List.cons_append, List.nil_append, List.append_nil, upd_same, at0, at1, at2, ix0, ix1, ix2, upd_upd, ite_true, ite_false, if_true, if_false, Bool.false_eq_true, decide_true, decide_false, reduceIte, true_and, and_true, Option.isSome_none, Option.isSome_some, Bool.not_false, Bool.not_true, yIsi, tyAt, clsAt, ki_int_int, ki_bool_int, ki_none_int, ki_str_int, ki_list_int, ki_tuple_int, ki_int_bool, ki_bool_bool, ki_none_bool, ki_str_bool, ki_list_bool, ki_tuple_bool, zMakeV, tRz, zNever, t_L_due_2t_1]
              exact k1 (nof fun h => c4 h.2.2.2)
          · rw [decide_eq_false c3]
            simp only [tSeq, tAsg, tIfS, tRet, tRetN, tDrop, tNext, tPar, tPar3, gName, gSub, gTup, gCons, gNil, zV, tC, tOp, tUn, tCons, tNil, tLst, tTup, tIf, tAnd, tOr, tNot, tYes, zB, zAnd, zOr, zNot, zChain, tDNewK, yAdd, ySub, yMul, yDiv, yMod, yPow, yNeg, yLt, yLe, yGt, yGe, yEq, yNe, yIs0, yNotIs0, yIx, ySet, yIn, sqAt, isNone, zFld, zSetF, insAt, zMeth, zProp, tCall, tMake, tCB, yLen, yAbs, yMax2, yMin2, yList, yTuple, yDict0, zLM, yApp, isLst, dkAt, keyOf, zGet1, zGet2, zPop1, zPop2, zForR1, zForR2, zForL, zForT, Z.intAt, refAt, zLc, iR1, iR2, iL, iT, wipe, List.getElem?_cons_zero, List.getElem?_cons_succ, List.set_cons_zero, List.set_cons_succ, List.cons_append, List.nil_append, List.append_nil, upd_same, at0, at1, at2, ix0, ix1, ix2, upd_upd, ite_true, ite_false, if_true, if_false, Bool.false_eq_true, decide_true, decide_false, reduceIte, true_and, and_true, Option.isSome_none, Option.isSome_some, Bool.not_false, Bool.not_true, yIsi, tyAt, clsAt, ki_int_int, ki_bool_int, ki_none_int, ki_str_int, ki_list_int, ki_tuple_int, ki_int_bool, ki_bool_bool, ki_none_bool, ki_str_bool, ki_list_bool, ki_tuple_bool, zMakeV, tRz, zNever, t_L_due_2t_1]
            exact k1 (nof fun h => c3 h.2.2.1)
        · rw [decide_eq_false c2]
          simp only [tSeq, tAsg, tIfS, tRet, tRetN, tDrop, tNext, tPar, tPar3, gName, gSub, gTup, gCons, gNil, zV, tC, tOp, tUn, tCons, tNil, tLst, tTup, tIf, tAnd, tOr, tNot, tYes, zB, zAnd, zOr, zNot, zChain, tDNewK, yAdd, ySub, yMul, yDiv, yMod, yPow, yNeg, yLt, yLe, yGt, yGe, yEq, yNe, yIs0, yNotIs0, yIx, ySet, yIn, sqAt, isNone, zFld, zSetF, insAt, zMeth, zProp, tCall, tMake, tCB, yLen, yAbs, yMax2, yMin2, yList, yTuple, yDict0, zLM, yApp, isLst, dkAt, keyOf, zGet1, zGet2, zPop1, zPop2, zForR1, zForR2, zForL, zForT, Z.intAt, refAt, zLc, iR1, iR2, iL, iT, wipe, List.getElem?_cons_zero, List.getElem?_cons_succ, List.set_cons_zero, List.set_cons_succ, List.cons_append, List.nil_append, List.append_nil, upd_same, at0, at1, at2, ix0, ix1, ix2, upd_upd, ite_true, ite_false, if_true, if_false, Bool.false_eq_true, decide_true, decide_false, reduceIte, true_and, and_true, Option.isSome_none, Option.isSome_some, Bool.not_false, Bool.not_true, yIsi, tyAt, clsAt, ki_int_int, ki_bool_int, ki_none_int, ki_str_int, ki_list_int, ki_tuple_int, ki_int_bool, ki_bool_bool, ki_none_bool, ki_str_bool, ki_list_bool, ki_tuple_bool, zMakeV, tRz, zNever, t_L_due_2t_1]
          exact k1 (nof fun h => c2 h.2.1)
      · rw [decide_eq_false c1]
        simp only [tSeq, tAsg, tIfS, tRet, tRetN, tDrop, tNext, tPar, tPar3, gName, gSub, gTup, gCons, gNil, zV, tC, tOp, tUn, tCons, tNil, tLst, tTup, tIf, tAnd, tOr, tNot, tYes, zB, zAnd, zOr, zNot, zChain, tDNewK, yAdd, ySub, yMul, yDiv, yMod, yPow, yNeg, yLt, yLe, yGt, yGe, yEq, yNe, yIs0, yNotIs0, yIx, ySet, yIn, sqAt, isNone, zFld, zSetF, insAt, zMeth, zProp, tCall, tMake, tCB, yLen, yAbs, yMax2, yMin2, yList, yTuple, yDict0, zLM, yApp, isLst, dkAt, keyOf, zGet1, zGet2, zPop1, zPop2, zForR1, zForR2, zForL, zForT, Z.intAt, refAt, zLc, iR1, iR2, iL, iT, wipe, List.getElem?_cons_zero, List.getElem?_cons_succ, List.set_cons_zero, List.set_cons_succ, List.cons_append, List.nil_append, List.append_nil, upd_same, at0, at1, at2, ix0, ix1, ix2, upd_upd, ite_true, ite_false, if_true, if_false, Bool.false_eq_true, decide_true, decide_false, reduceIte, true_and, and_true, Option.isSome_none, Option.isSome_some, Bool.not_false, Bool.not_true, yIsi, tyAt, clsAt, ki_int_int, ki_bool_int, ki_none_int, ki_str_int, ki_list_int, ki_tuple_int, ki_int_bool, ki_bool_bool, ki_none_bool, ki_str_bool, ki_list_bool, ki_tuple_bool, zMakeV, tRz, zNever, t_L_due_2t_1]
        exact k1 (nof fun h => c1 h.1)

theorem Kn.same {K : PySem.W.Frag} {H H' : Hp} {x : V} (k : Kn K H x) (e : ∀ a o, H a = some o → ((∃ xs, o = .lst xs) ∨ (∃ xs, o = .tup xs) ∨ ∃ dx fs, o = .ins (cRun K) dx fs) → H' a = some o) : Kn K H' x := by
  rcases k with h | h | h | h | ⟨a, o, rfl, ha, h⟩
  · exact .inl h
  · exact .inr (.inl h)
  · exact .inr (.inr (.inl h))
  · exact .inr (.inr (.inr (.inl h)))
  · exact .inr (.inr (.inr (.inr ⟨a, o, rfl, e a o ha h, h⟩)))
theorem at_nat {α : Type} {xs : List α} {i : Int} {v : α} (h0 : 0 ≤ i) (h : xs[i.toNat]? = some v) : atI xs i = some v := by
  have hl := (List.getElem?_eq_some_iff.mp h).1
  unfold atI ixN
  rw [if_pos h0, if_pos (by omega)]
  exact h
theorem at_in {xs : List V} {d : Int} (h0 : 0 ≤ d) (h : d < (xs.length : Int)) : ∃ x, x ∈ xs ∧ atI xs d = some x := by
  have hl : d.toNat < xs.length := by omega
  exact ⟨xs[d.toNat], List.getElem_mem hl, at_nat h0 (List.getElem?_eq_getElem hl)⟩
theorem rd_L_value {K : PySem.W.Frag} {mg : Str → Option Value} (T : Top K mg) : ∀ vs H Q E, sp_L_value K vs H Q E → t_L_value K { nx := fun _ H' => Q .non H', rt := Q } (start nm_L_value vs) H := by
  rintro vs H Q E ⟨b, o, n, rfl, hb, ho, hn, k⟩
  rw [start_L_value]
  unfold t_L_value t_L_value_1
  simp only [tSeq, tAsg, tIfS, tRet, tRetN, tDrop, tNext, tPar, tPar3, gName, gSub, gTup, gCons, gNil, zV, tC, tOp, tUn, tCons, tNil, tLst, tTup, tIf, tAnd, tOr, tNot, tYes, zB, zAnd, zOr, zNot, zChain, tDNewK, yAdd, ySub, yMul, yDiv, yMod, yPow, yNeg, yLt, yLe, yGt, yGe, yEq, yNe, yIs0, yNotIs0, yIx, ySet, yIn, sqAt, isNone, zFld, zSetF, insAt, zMeth, zProp, tCall, tMake, tCB, yLen, yAbs, yMax2, yMin2, yList, yTuple, yDict0, zLM, yApp, isLst, dkAt, keyOf, zGet1, zGet2, zPop1, zPop2, zForR1, zForR2, zForL, zForT, Z.intAt, refAt, zLc, iR1, iR2, iL, iT, wipe, List.getElem?_cons_zero, List.getElem?_cons_succ, List.set_cons_zero, List.set_cons_succ, List.cons_append, List.nil_append, List.append_nil, upd_same, at0, at1, at2, ix0, ix1, ix2, upd_upd, ite_true, ite_false, if_true, if_false, Bool.false_eq_true, decide_true, decide_false, reduceIte, true_and, and_true, Option.isSome_none, Option.isSome_some, Bool.not_false, Bool.not_true, yIsi, tyAt, clsAt, ki_int_int, ki_bool_int, ki_none_int, ki_str_int, ki_list_int, ki_tuple_int, ki_int_bool, ki_bool_bool, ki_none_bool, ki_str_bool, ki_list_bool, ki_tuple_bool, zMakeV, tRz, zNever]
  have e0 : (10 : Int) ^ Int.toNat 12 = 1000000000000 := by decide
  rw [e0]
  refine ⟨⟨by decide, by decide, by decide⟩, ?_⟩
  unfold t_L_value_2
  simp only [tSeq, tAsg, tIfS, tRet, tRetN, tDrop, tNext, tPar, tPar3, gName, gSub, gTup, gCons, gNil, zV, tC, tOp, tUn, tCons, tNil, tLst, tTup, tIf, tAnd, tOr, tNot, tYes, zB, zAnd, zOr, zNot, zChain, tDNewK, yAdd, ySub, yMul, yDiv, yMod, yPow, yNeg, yLt, yLe, yGt, yGe, yEq, yNe, yIs0, yNotIs0, yIx, ySet, yIn, sqAt, isNone, zFld, zSetF, insAt, zMeth, zProp, tCall, tMake, tCB, yLen, yAbs, yMax2, yMin2, yList, yTuple, yDict0, zLM, yApp, isLst, dkAt, keyOf, zGet1, zGet2, zPop1, zPop2, zForR1, zForR2, zForL, zForT, Z.intAt, refAt, zLc, iR1, iR2, iL, iT, wipe, List.getElem?_cons_zero, List.getElem?_cons_succ, List.set_cons_zero, List.set_cons_succ, List.cons_append, List.nil_append, List.append_nil, upd_same, at0, at1, at2, ix0, ix1, ix2, upd_upd, ite_true, ite_false, if_true, if_false, Bool.false_eq_true, decide_true, decide_false, reduceIte, true_and, and_true, Option.isSome_none, Option.isSome_some, Bool.not_false, Bool.not_true, yIsi, tyAt, clsAt, ki_int_int, ki_bool_int, ki_none_int, ki_str_int, ki_list_int, ki_tuple_int, ki_int_bool, ki_bool_bool, ki_none_bool, ki_str_bool, ki_list_bool, ki_tuple_bool, zMakeV, tRz, zNever]
  refine ⟨⟨by decide, by decide, by decide⟩, ?_⟩
  refine use_take hb ho (by decide) (by decide) (by omega) fun d1 o1 d10 d11 ho1 => ?_
  refine use_take upd_same ho1 (by decide) (by decide) (by omega) fun d2 o2 d20 d21 ho2 => ?_
  refine ⟨by show 12 ≤ sizeLine; decide, fun p2 hp2 => ?_⟩
  simp only [upd_upd] at hp2 ⊢
  have kp2 : Keeps H (upd (upd H b o2) p2 (.lst [.int 0, .int 1, .int 2, .int 7, .int (1000000000000 - 1), .int 1000000000000, .int (1000000000000 + 1), .int (-1), .int (-1000000000000), .int (10 ^ Int.toNat 40 - 1), .int d1, .int d2])) b := fun p u e hp => by
    have hpp : p ≠ p2 := fun z => by rw [z] at e hp; rw [upd_ne hp] at hp2; rw [hp2] at e; cases e
    rw [upd_ne hpp, upd_ne hp]; exact e
  have nb2 : b ≠ p2 := fun z => by rw [← z, upd_same] at hp2; cases hp2
  have hb2 : (upd (upd H b o2) p2 (.lst [.int 0, .int 1, .int 2, .int 7, .int (1000000000000 - 1), .int 1000000000000, .int (1000000000000 + 1), .int (-1), .int (-1000000000000), .int (10 ^ Int.toNat 40 - 1), .int d1, .int d2])) b = some o2 := by rw [upd_ne nb2, upd_same]
  have hl2 : (upd (upd H b o2) p2 (.lst [.int 0, .int 1, .int 2, .int 7, .int (1000000000000 - 1), .int 1000000000000, .int (1000000000000 + 1), .int (-1), .int (-1000000000000), .int (10 ^ Int.toNat 40 - 1), .int d1, .int d2])) p2 = some (.lst ([0, 1, 2, 7, 1000000000000 - 1, 1000000000000, 1000000000000 + 1, -1, -1000000000000, 10 ^ Int.toNat 40 - 1, d1, d2].map V.int)) := upd_same
  have hlen : ([0, 1, 2, 7, 1000000000000 - 1, 1000000000000, 1000000000000 + 1, -1, -1000000000000, 10 ^ Int.toNat 40 - 1, d1, d2] : List Int).length = 12 := rfl
  generalize ([0, 1, 2, 7, 1000000000000 - 1, 1000000000000, 1000000000000 + 1, -1, -1000000000000, 10 ^ Int.toNat 40 - 1, d1, d2] : List Int) = L1 at hl2 hlen
  generalize upd (upd H b o2) p2 (.lst [.int 0, .int 1, .int 2, .int 7, .int (1000000000000 - 1), .int 1000000000000, .int (1000000000000 + 1), .int (-1), .int (-1000000000000), .int (10 ^ Int.toNat 40 - 1), .int d1, .int d2]) = H2 at kp2 hb2 hl2
  unfold t_L_value_3
  simp only [tSeq, tAsg, tIfS, tRet, tRetN, tDrop, tNext, tPar, tPar3, gName, gSub, gTup, gCons, gNil, zV, tC, tOp, tUn, tCons, tNil, tLst, tTup, tIf, tAnd, tOr, tNot, tYes, zB, zAnd, zOr, zNot, zChain, tDNewK, yAdd, ySub, yMul, yDiv, yMod, yPow, yNeg, yLt, yLe, yGt, yGe, yEq, yNe, yIs0, yNotIs0, yIx, ySet, yIn, sqAt, isNone, zFld, zSetF, insAt, zMeth, zProp, tCall, tMake, tCB, yLen, yAbs, yMax2, yMin2, yList, yTuple, yDict0, zLM, yApp, isLst, dkAt, keyOf, zGet1, zGet2, zPop1, zPop2, zForR1, zForR2, zForL, zForT, Z.intAt, refAt, zLc, iR1, iR2, iL, iT, wipe, List.getElem?_cons_zero, List.getElem?_cons_succ, List.set_cons_zero, List.set_cons_succ, List.cons_append, List.nil_append, List.append_nil, upd_same, at0, at1, at2, ix0, ix1, ix2, upd_upd, ite_true, ite_false, if_true, if_false, Bool.false_eq_true, decide_true, decide_false, reduceIte, true_and, and_true, Option.isSome_none, Option.isSome_some, Bool.not_false, Bool.not_true, yIsi, tyAt, clsAt, ki_int_int, ki_bool_int, ki_none_int, ki_str_int, ki_list_int, ki_tuple_int, ki_int_bool, ki_bool_bool, ki_none_bool, ki_str_bool, ki_list_bool, ki_tuple_bool, zMakeV, tRz, zNever]
  have stp : ∀ (H3 : Hp) (p : Addr) (o3 : HO), H3 p = none → Same H3 (upd H3 p o3) := fun H3 p o3 h => Same.upd' (Same.refl H3) h
  refine ⟨by show 1 ≤ sizeLine; decide, fun q1 hq1 => ?_⟩
  have s1 := stp H2 q1 (.lst [.int 1]) hq1
  have g1 : (upd H2 q1 (.lst [.int 1])) q1 = some (.lst [.int 1]) := upd_same
  generalize upd H2 q1 (.lst [.int 1]) = H3 at s1 g1
  refine ⟨by show 1 ≤ sizeLine; decide, fun q2 hq2 => ?_⟩
  have s2 := stp H3 q2 (.tup [.int 2]) hq2
  have g2 : (upd H3 q2 (.tup [.int 2])) q2 = some (.tup [.int 2]) := upd_same
  generalize upd H3 q2 (.tup [.int 2]) = H4 at s2 g2
  refine ⟨by show 0 ≤ sizeLine; decide, fun q3 hq3 => ?_⟩
  have s3 := stp H4 q3 (.tup []) hq3
  have g3 : (upd H4 q3 (.tup [])) q3 = some (.tup []) := upd_same
  generalize upd H4 q3 (.tup []) = H5 at s3 g3
  refine ⟨by show 0 ≤ sizeLine; decide, fun q4 hq4 => ?_⟩
  have s4 := stp H5 q4 (.lst []) hq4
  have g4 : (upd H5 q4 (.lst [])) q4 = some (.lst []) := upd_same
  generalize upd H5 q4 (.lst []) = H6 at s4 g4
  refine ⟨by show 1 ≤ sizeLine; decide, fun q5 hq5 => ?_⟩
  have s5 := stp H6 q5 (.lst [.bl true]) hq5
  have g5 : (upd H6 q5 (.lst [.bl true])) q5 = some (.lst [.bl true]) := upd_same
  generalize upd H6 q5 (.lst [.bl true]) = H7 at s5 g5
  intro x dx hx hdx nd
  refine ⟨x, dx, .int 2, .int 3, rfl, upd_same, .int _, .int _, fun f m hd => ⟨rfl, ?_⟩, fun hd => absurd hd (by decide)⟩
  have s6 : Same H7 (upd (upd (upd H7 dx (.own x)) x (.ins (cRun K) dx [])) x (.ins (cRun K) dx (fs_Run (.int f) (.int m)))) := Same.upd' (Same.upd' (stp H7 dx _ hdx) hx) hx
  have g6 : (upd (upd (upd H7 dx (.own x)) x (.ins (cRun K) dx [])) x (.ins (cRun K) dx (fs_Run (.int f) (.int m)))) x = some (.ins (cRun K) dx (fs_Run (.int f) (.int m))) := upd_same
  generalize upd (upd (upd H7 dx (.own x)) x (.ins (cRun K) dx [])) x (.ins (cRun K) dx (fs_Run (.int f) (.int m))) = H8 at s6 g6
  intro y dy hy hdy ndy
  refine ⟨y, dy, .int 0, .int 1, rfl, upd_same, .int _, .int _, fun f' m' hd' => ⟨rfl, ?_⟩, fun hd => absurd hd (by decide)⟩
  have s7 : Same H8 (upd (upd (upd H8 dy (.own y)) y (.ins (cRun K) dy [])) y (.ins (cRun K) dy (fs_Run (.int f') (.int m')))) := Same.upd' (Same.upd' (stp H8 dy _ hdy) hy) hy
  have g7 : (upd (upd (upd H8 dy (.own y)) y (.ins (cRun K) dy [])) y (.ins (cRun K) dy (fs_Run (.int f') (.int m')))) y = some (.ins (cRun K) dy (fs_Run (.int f') (.int m'))) := upd_same
  generalize upd (upd (upd H8 dy (.own y)) y (.ins (cRun K) dy [])) y (.ins (cRun K) dy (fs_Run (.int f') (.int m'))) = H9 at s7 g7
  refine ⟨by show 12 ≤ sizeLine; decide, fun p3 hp3 => ?_⟩
  have t6 := s7
  have t5 := s6.trans t6
  have t4 := s5.trans t5
  have t3 := s4.trans t4
  have t2 := s3.trans t3
  have t1 := s2.trans t2
  have t0 := s1.trans t1
  have s8 := stp H9 p3 (.lst [.bl true, .bl false, .non, .str "", .str "3", .ref q1, .ref q2, .ref q3, .ref q4, .ref q5, .ref x, .ref y]) hp3
  have g8 : (upd H9 p3 (.lst [.bl true, .bl false, .non, .str "", .str "3", .ref q1, .ref q2, .ref q3, .ref q4, .ref q5, .ref x, .ref y])) p3 = some (.lst [.bl true, .bl false, .non, .str "", .str "3", .ref q1, .ref q2, .ref q3, .ref q4, .ref q5, .ref x, .ref y]) := upd_same
  generalize upd H9 p3 (.lst [.bl true, .bl false, .non, .str "", .str "3", .ref q1, .ref q2, .ref q3, .ref q4, .ref q5, .ref x, .ref y]) = H10 at s8 g8
  have hb10 : H10 b = some o2 := s8 _ _ (t0 _ _ hb2)
  have hl10 : H10 p2 = some (.lst (L1.map V.int)) := s8 _ _ (t0 _ _ hl2)
  have kp10 : Keeps H H10 b := fun p u e hp => s8 _ _ (t0 _ _ (kp2 p u e hp))
  have kall : ∀ z ∈ [V.bl true, .bl false, .non, .str "", .str "3", .ref q1, .ref q2, .ref q3, .ref q4, .ref q5, .ref x, .ref y], Kn K H10 z := fun z hz => by
    simp only [List.mem_cons, List.not_mem_nil, or_false] at hz
    rcases hz with rfl | rfl | rfl | rfl | rfl | rfl | rfl | rfl | rfl | rfl | rfl | rfl
    · exact .inr (.inl ⟨_, rfl⟩)
    · exact .inr (.inl ⟨_, rfl⟩)
    · exact .inr (.inr (.inl rfl))
    · exact .inr (.inr (.inr (.inl ⟨_, rfl⟩)))
    · exact .inr (.inr (.inr (.inl ⟨_, rfl⟩)))
    · exact .inr (.inr (.inr (.inr ⟨q1, _, rfl, s8 _ _ (t1 _ _ g1), .inl ⟨_, rfl⟩⟩)))
    · exact .inr (.inr (.inr (.inr ⟨q2, _, rfl, s8 _ _ (t2 _ _ g2), .inr (.inl ⟨_, rfl⟩)⟩)))
    · exact .inr (.inr (.inr (.inr ⟨q3, _, rfl, s8 _ _ (t3 _ _ g3), .inr (.inl ⟨_, rfl⟩)⟩)))
    · exact .inr (.inr (.inr (.inr ⟨q4, _, rfl, s8 _ _ (t4 _ _ g4), .inl ⟨_, rfl⟩⟩)))
    · exact .inr (.inr (.inr (.inr ⟨q5, _, rfl, s8 _ _ (t5 _ _ g5), .inl ⟨_, rfl⟩⟩)))
    · exact .inr (.inr (.inr (.inr ⟨x, _, rfl, s8 _ _ (t6 _ _ g6), .inr (.inr ⟨_, _, rfl⟩)⟩)))
    · exact .inr (.inr (.inr (.inr ⟨y, _, rfl, s8 _ _ g7, .inr (.inr ⟨_, _, rfl⟩)⟩)))
  clear s1 s2 s3 s4 s5 s6 s7 s8 t0 t1 t2 t3 t4 t5 t6 g1 g2 g3 g4 g5 g6 g7
  have nb3 : b ≠ p3 := fun z => by
    obtain ⟨L, M, c, e, _⟩ := ho2
    rw [z, g8, e] at hb10
    have := HO.lst.inj (Option.some.inj hb10)
    cases this
  unfold t_L_value_4
  simp only [tSeq, tAsg, tIfS, tRet, tRetN, tDrop, tNext, tPar, tPar3, gName, gSub, gTup, gCons, gNil, zV, tC, tOp, tUn, tCons, tNil, tLst, tTup, tIf, tAnd, tOr, tNot, tYes, zB, zAnd, zOr, zNot, zChain, tDNewK, yAdd, ySub, yMul, yDiv, yMod, yPow, yNeg, yLt, yLe, yGt, yGe, yEq, yNe, yIs0, yNotIs0, yIx, ySet, yIn, sqAt, isNone, zFld, zSetF, insAt, zMeth, zProp, tCall, tMake, tCB, yLen, yAbs, yMax2, yMin2, yList, yTuple, yDict0, zLM, yApp, isLst, dkAt, keyOf, zGet1, zGet2, zPop1, zPop2, zForR1, zForR2, zForL, zForT, Z.intAt, refAt, zLc, iR1, iR2, iL, iT, wipe, List.getElem?_cons_zero, List.getElem?_cons_succ, List.set_cons_zero, List.set_cons_succ, List.cons_append, List.nil_append, List.append_nil, upd_same, at0, at1, at2, ix0, ix1, ix2, upd_upd, ite_true, ite_false, if_true, if_false, Bool.false_eq_true, decide_true, decide_false, reduceIte, true_and, and_true, Option.isSome_none, Option.isSome_some, Bool.not_false, Bool.not_true, yIsi, tyAt, clsAt, ki_int_int, ki_bool_int, ki_none_int, ki_str_int, ki_list_int, ki_tuple_int, ki_int_bool, ki_bool_bool, ki_none_bool, ki_str_bool, ki_list_bool, ki_tuple_bool, zMakeV, tRz, zNever]
  refine use_take hb10 ho2 (by decide) (by decide) (by omega) fun d3 o3 d30 d31 ho3 => ?_
  have fin : ∀ z o4, BagO o4 (n + 4) → Kn K H10 z → Q z (upd H10 b o4) := fun z o4 ho4 kz => by
    refine k z _ o4 (fun p u e hp => by rw [upd_ne hp]; exact kp10 p u e hp) upd_same ho4 ?_
    obtain ⟨L, M, c, e4, _⟩ := ho4
    obtain ⟨L', M', c', e2, _⟩ := ho2
    rcases kz with h | h | h | h | ⟨a, o, rfl, ha, h⟩
    · exact .inl h
    · exact .inr (.inl h)
    · exact .inr (.inr (.inl h))
    · exact .inr (.inr (.inr (.inl h)))
    · by_cases hab : a = b
      · exact .inr (.inr (.inr (.inr ⟨a, o4, rfl, by rw [hab, upd_same], .inl ⟨_, e4⟩⟩)))
      · exact .inr (.inr (.inr (.inr ⟨a, o, rfl, by rw [upd_ne hab]; exact ha, h⟩)))
  simp only [tSeq, tAsg, tIfS, tRet, tRetN, tDrop, tNext, tPar, tPar3, gName, gSub, gTup, gCons, gNil, zV, tC, tOp, tUn, tCons, tNil, tLst, tTup, tIf, tAnd, tOr, tNot, tYes, zB, zAnd, zOr, zNot, zChain, tDNewK, yAdd, ySub, yMul, yDiv, yMod, yPow, yNeg, yLt, yLe, yGt, yGe, yEq, yNe, yIs0, yNotIs0, yIx, ySet, yIn, sqAt, isNone, zFld, zSetF, insAt, zMeth, zProp, tCall, tMake, tCB, yLen, yAbs, yMax2, yMin2, yList, yTuple, yDict0, zLM, yApp, isLst, dkAt, keyOf, zGet1, zGet2, zPop1, zPop2, zForR1, zForR2, zForL, zForT, Z.intAt, refAt, zLc, iR1, iR2, iL, iT, wipe, List.getElem?_cons_zero, List.getElem?_cons_succ, List.set_cons_zero, List.set_cons_succ, List.cons_append, List.nil_append, List.append_nil, upd_same, at0, at1, at2, ix0, ix1, ix2, upd_upd, ite_true, ite_false, if_true, if_false, Bool.false_eq_true, decide_true, decide_false, reduceIte, true_and, and_true, Option.isSome_none, Option.isSome_some, Bool.not_false, Bool.not_true, yIsi, tyAt, clsAt, ki_int_int, ki_bool_int, ki_none_int, ki_str_int, ki_list_int, ki_tuple_int, ki_int_bool, ki_bool_bool, ki_none_bool, ki_str_bool, ki_list_bool, ki_tuple_bool, zMakeV, tRz, zNever]
  by_cases hd3 : 0 < d3
  · rw [decide_eq_true hd3]
    simp only [tSeq, tAsg, tIfS, tRet, tRetN, tDrop, tNext, tPar, tPar3, gName, gSub, gTup, gCons, gNil, zV, tC, tOp, tUn, tCons, tNil, tLst, tTup, tIf, tAnd, tOr, tNot, tYes, zB, zAnd, zOr, zNot, zChain, tDNewK, yAdd, ySub, yMul, yDiv, yMod, yPow, yNeg, yLt, yLe, yGt, yGe, yEq, yNe, yIs0, yNotIs0, yIx, ySet, yIn, sqAt, isNone, zFld, zSetF, insAt, zMeth, zProp, tCall, tMake, tCB, yLen, yAbs, yMax2, yMin2, yList, yTuple, yDict0, zLM, yApp, isLst, dkAt, keyOf, zGet1, zGet2, zPop1, zPop2, zForR1, zForR2, zForL, zForT, Z.intAt, refAt, zLc, iR1, iR2, iL, iT, wipe, List.getElem?_cons_zero, List.getElem?_cons_succ, List.set_cons_zero, List.set_cons_succ, List.cons_append, List.nil_append, List.append_nil, upd_same, at0, at1, at2, ix0, ix1, ix2, upd_upd, ite_true, ite_false, if_true, if_false, Bool.false_eq_true, decide_true, decide_false, reduceIte, true_and, and_true, Option.isSome_none, Option.isSome_some, Bool.not_false, Bool.not_true, yIsi, tyAt, clsAt, ki_int_int, ki_bool_int, ki_none_int, ki_str_int, ki_list_int, ki_tuple_int, ki_int_bool, ki_bool_bool, ki_none_bool, ki_str_bool, ki_list_bool, ki_tuple_bool, zMakeV, tRz, zNever]
    refine use_take upd_same ho3 (by decide) (by decide) (by omega) fun d4 o4 d40 d41 ho4 => ?_
    obtain ⟨z, hz, ez⟩ := at_in (xs := L1.map V.int) d40 (by rw [List.length_map, hlen]; exact d41)
    have hp2' : (upd H10 b o4) p2 = some (.lst (L1.map V.int)) := by rw [upd_ne nb2.symm]; exact hl10
    simp only [tSeq, tAsg, tIfS, tRet, tRetN, tDrop, tNext, tPar, tPar3, gName, gSub, gTup, gCons, gNil, zV, tC, tOp, tUn, tCons, tNil, tLst, tTup, tIf, tAnd, tOr, tNot, tYes, zB, zAnd, zOr, zNot, zChain, tDNewK, yAdd, ySub, yMul, yDiv, yMod, yPow, yNeg, yLt, yLe, yGt, yGe, yEq, yNe, yIs0, yNotIs0, yIx, ySet, yIn, sqAt, isNone, zFld, zSetF, insAt, zMeth, zProp, tCall, tMake, tCB, yLen, yAbs, yMax2, yMin2, yList, yTuple, yDict0, zLM, yApp, isLst, dkAt, keyOf, zGet1, zGet2, zPop1, zPop2, zForR1, zForR2, zForL, zForT, Z.intAt, refAt, zLc, iR1, iR2, iL, iT, wipe, List.getElem?_cons_zero, List.getElem?_cons_succ, List.set_cons_zero, List.set_cons_succ, List.cons_append, List.nil_append, List.append_nil, upd_same, at0, at1, at2, ix0, ix1, ix2, upd_upd, ite_true, ite_false, if_true, if_false, Bool.false_eq_true, decide_true, decide_false, reduceIte, true_and, and_true, Option.isSome_none, Option.isSome_some, Bool.not_false, Bool.not_true, yIsi, tyAt, clsAt, ki_int_int, ki_bool_int, ki_none_int, ki_str_int, ki_list_int, ki_tuple_int, ki_int_bool, ki_bool_bool, ki_none_bool, ki_str_bool, ki_list_bool, ki_tuple_bool, zMakeV, tRz, zNever, hp2', ez]
    refine fin z o4 (by rw [show n + 4 = n + 1 + 1 + 1 + 1 by omega]; exact ho4) ?_
    obtain ⟨i, _, rfl⟩ := List.mem_map.mp hz
    exact .int i
  · rw [decide_eq_false hd3]
    simp only [tSeq, tAsg, tIfS, tRet, tRetN, tDrop, tNext, tPar, tPar3, gName, gSub, gTup, gCons, gNil, zV, tC, tOp, tUn, tCons, tNil, tLst, tTup, tIf, tAnd, tOr, tNot, tYes, zB, zAnd, zOr, zNot, zChain, tDNewK, yAdd, ySub, yMul, yDiv, yMod, yPow, yNeg, yLt, yLe, yGt, yGe, yEq, yNe, yIs0, yNotIs0, yIx, ySet, yIn, sqAt, isNone, zFld, zSetF, insAt, zMeth, zProp, tCall, tMake, tCB, yLen, yAbs, yMax2, yMin2, yList, yTuple, yDict0, zLM, yApp, isLst, dkAt, keyOf, zGet1, zGet2, zPop1, zPop2, zForR1, zForR2, zForL, zForT, Z.intAt, refAt, zLc, iR1, iR2, iL, iT, wipe, List.getElem?_cons_zero, List.getElem?_cons_succ, List.set_cons_zero, List.set_cons_succ, List.cons_append, List.nil_append, List.append_nil, upd_same, at0, at1, at2, ix0, ix1, ix2, upd_upd, ite_true, ite_false, if_true, if_false, Bool.false_eq_true, decide_true, decide_false, reduceIte, true_and, and_true, Option.isSome_none, Option.isSome_some, Bool.not_false, Bool.not_true, yIsi, tyAt, clsAt, ki_int_int, ki_bool_int, ki_none_int, ki_str_int, ki_list_int, ki_tuple_int, ki_int_bool, ki_bool_bool, ki_none_bool, ki_str_bool, ki_list_bool, ki_tuple_bool, zMakeV, tRz, zNever]
    refine use_take upd_same ho3 (by decide) (by decide) (by omega) fun d4 o4 d40 d41 ho4 => ?_
    obtain ⟨z, hz, ez⟩ := at_in (xs := [V.bl true, .bl false, .non, .str "", .str "3", .ref q1, .ref q2, .ref q3, .ref q4, .ref q5, .ref x, .ref y]) d40 d41
    have hp3' : (upd H10 b o4) p3 = some (.lst [.bl true, .bl false, .non, .str "", .str "3", .ref q1, .ref q2, .ref q3, .ref q4, .ref q5, .ref x, .ref y]) := by rw [upd_ne nb3.symm]; exact g8
    simp only [tSeq, tAsg, tIfS, tRet, tRetN, tDrop, tNext, tPar, tPar3, gName, gSub, gTup, gCons, gNil, zV, tC, tOp, tUn, tCons, tNil, tLst, tTup, tIf, tAnd, tOr, tNot, tYes, zB, zAnd, zOr, zNot, zChain, tDNewK, yAdd, ySub, yMul, yDiv, yMod, yPow, yNeg, yLt, yLe, yGt, yGe, yEq, yNe, yIs0, yNotIs0, yIx, ySet, yIn, sqAt, isNone, zFld, zSetF, insAt, zMeth, zProp, tCall, tMake, tCB, yLen, yAbs, yMax2, yMin2, yList, yTuple, yDict0, zLM, yApp, isLst, dkAt, keyOf, zGet1, zGet2, zPop1, zPop2, zForR1, zForR2, zForL, zForT, Z.intAt, refAt, zLc, iR1, iR2, iL, iT, wipe, List.getElem?_cons_zero, List.getElem?_cons_succ, List.set_cons_zero, List.set_cons_succ, List.cons_append, List.nil_append, List.append_nil, upd_same, at0, at1, at2, ix0, ix1, ix2, upd_upd, ite_true, ite_false, if_true, if_false, Bool.false_eq_true, decide_true, decide_false, reduceIte, true_and, and_true, Option.isSome_none, Option.isSome_some, Bool.not_false, Bool.not_true, yIsi, tyAt, clsAt, ki_int_int, ki_bool_int, ki_none_int, ki_str_int, ki_list_int, ki_tuple_int, ki_int_bool, ki_bool_bool, ki_none_bool, ki_str_bool, ki_list_bool, ki_tuple_bool, zMakeV, tRz, zNever, hp3', ez]
    exact fin z o4 (by rw [show n + 4 = n + 1 + 1 + 1 + 1 by omega]; exact ho4) (kall z hz)

theorem ExtN.same {H H' : Hp} (s : Same H H') : LamX.ExtN H H' := fun b o h _ => s b o h
theorem Tabs.same {T : List (Addr × Str)} {H H' : Hp} (t : LamX.Tabs T H) (s : Same H H') : LamX.Tabs T H' := t.ext s
theorem Tabs.keeps {T : List (Addr × Str)} {H H' : Hp} {b : Addr} {xs : List V} (t : LamX.Tabs T H) (hb : H b = some (.lst xs)) (k : Keeps H H' b) : LamX.Tabs T H' := fun p hp => by
  obtain ⟨ps, h1, h2, h3⟩ := t p hp
  refine ⟨ps, k _ _ h1 (fun e => by rw [e, hb] at h1; cases h1), h2, fun pos cv hc => ?_⟩
  obtain ⟨c, e1, e2⟩ := h3 pos cv hc
  exact ⟨c, e1, k _ _ e2 (fun e => by rw [e, hb] at e2; unfold LamX.CodeO at e2; cases e2)⟩
theorem Kn.keeps {K : PySem.W.Frag} {H H' : Hp} {b : Addr} {xs : List V} {x : V} (k : Keeps H H' b) (hb : H' b = some (.lst xs)) (kn : Kn K H x) : Kn K H' x := by
  rcases kn with h | h | h | h | ⟨a, o, rfl, ha, h⟩
  · exact .inl h
  · exact .inr (.inl h)
  · exact .inr (.inr (.inl h))
  · exact .inr (.inr (.inr (.inl h)))
  · by_cases hab : a = b
    · exact .inr (.inr (.inr (.inr ⟨a, _, rfl, by rw [hab]; exact hb, .inl ⟨_, rfl⟩⟩)))
    · exact .inr (.inr (.inr (.inr ⟨a, o, rfl, k a o ha hab, h⟩)))
theorem Kn.ext {K : PySem.W.Frag} {H H' : Hp} {x : V} (s : LamX.ExtN H H') (kn : Kn K H x) : Kn K H' x := kn.same fun a o ha h => s a o ha fun ps e => by
  subst e
  rcases h with ⟨_, h⟩ | ⟨_, h⟩ | ⟨_, _, h⟩ <;> cases h
/-- what told or due gave -/
def ResAt (H : Hp) (r : V) (d : Option (Int × Int)) : Prop := (d = none ∧ r = .str "refused") ∨ ∃ f m p, d = some (f, m) ∧ r = .ref p ∧ H p = some (.lst [.int f, .int m, .int (f + m)])
theorem ResAt.ext {H H' : Hp} {r : V} {d : Option (Int × Int)} (h : ResAt H r d) (s : LamX.ExtN H H') : ResAt H' r d := by
  rcases h with h | ⟨f, m, p, h1, h2, h3⟩
  · exact .inl h
  · exact .inr ⟨f, m, p, h1, h2, s _ _ h3 fun ps e => by cases e⟩
def resD (f m : Int) : PyData := .list [.int f, .int m, .int (f + m)]
theorem resD_dp {K : PySem.W.Frag} {H : Hp} {p : Addr} {f m : Int} (h : H p = some (.lst [.int f, .int m, .int (f + m)])) : Dp K H (.ref p) (resD f m) := Dp.lst (SqL.of h) (.cons (.int _) (.cons (.int _) (.cons (.int _) .nil)))
theorem resD_shaped (f m : Int) : SeqAt.shaped (resD f m) = true := by
  refine shaped_of (n := 1) (lay_list fun x hx => ?_) (depth_list (n := 0) fun x hx => ?_) (by decide)
  · simp only [List.mem_cons, List.not_mem_nil, or_false] at hx
    rcases hx with rfl | rfl | rfl <;> simp only [PyData.canLay0]
  · simp only [List.mem_cons, List.not_mem_nil, or_false] at hx
    rcases hx with rfl | rfl | rfl <;> (simp only [PyData.depth]; decide)
theorem res_ne {K : PySem.W.Frag} {H : Hp} {r r' : V} {d : Option (Int × Int)} {Q : VK} (h1 : ResAt H r d) (h2 : ResAt H r' d) (q : Q (.bl false) H) : yNe K r r' H Q := by
  rcases h1 with ⟨e1, rfl⟩ | ⟨f, m, p, e1, rfl, hp⟩
  · rcases h2 with ⟨_, rfl⟩ | ⟨f, m, p, e2, _⟩
    · show Q (.bl (!decide (("refused" : Str) = "refused"))) H
      rw [decide_eq_true rfl]
      exact q
    · rw [e1] at e2; cases e2
  · rcases h2 with ⟨e2, _⟩ | ⟨f', m', p', e2, rfl, hp'⟩
    · rw [e1] at e2; cases e2
    · rw [e1] at e2
      obtain ⟨rfl, rfl⟩ := Prod.mk.inj (Option.some.inj e2)
      exact ne_same (resD_dp hp) (resD_dp hp') (resD_shaped f m) q
def Calls (K : PySem.W.Frag) (tl : XK → TE) (σ : L2.St) (d : Option (Int × Int)) (H1 : Hp) : Prop := ∀ (E : XK) (Q1 : VK), (d = none → ∀ H2, Same H1 H2 → E (.ref (He.ga K "BadRun")) none H2) →
  (∀ f m, d = some (f, m) → ∀ H2 a dx, Same H1 H2 → H2 a = some (.ins (cRun K) dx (fs_Run (.int f) (.int m))) → Q1 (.ref a) H2) → tl E σ H1 Q1
theorem told_step {K : PySem.W.Frag} {tl : XK → TE} {σ : L2.St} {d : Option (Int × Int)} {H : Hp} {v4 : V} {D : Ends} {tb : TS} (t : LamX.Tabs (tabs K) H) (c : ∀ H1, LamX.ExtN H H1 → Calls K tl σ d H1) (h4 : ResAt H v4 d) (e4 : σ[4]? = some (some v4))
    (kD : ∀ H', LamX.ExtN H H' → LamX.Tabs (tabs K) H' → D.nx σ H') : tIfS (zB (tOp (yNe K) (LamX.tLam (tabs K) (TTold K) tl) (zV 4))) tb tNext D σ H := by
  refine ⟨t, fun H1 x1 t1 => c H1 x1 _ _ (fun hd H2 s2 => ⟨rfl, rfl, ?_⟩) fun f m hd H2 a dx s2 ha => ⟨a, dx, f, m, rfl, ha, fun p hp => ?_⟩⟩
  · have x2 := x1.trans (ExtN.same s2)
    show zV 4 σ H2 _
    unfold zV
    rw [e4]
    refine res_ne (.inl ⟨hd, rfl⟩) (h4.ext x2) ?_
    exact kD _ x2 (Tabs.same t1 s2)
  · have s3 : Same H1 (upd H2 p (.lst [.int f, .int m, .int (f + m)])) := s2.trans (Same.upd' (Same.refl H2) hp)
    have x2 := x1.trans (ExtN.same s3)
    show zV 4 σ (upd H2 p (.lst [.int f, .int m, .int (f + m)])) _
    unfold zV
    rw [e4]
    refine res_ne (.inr ⟨f, m, p, hd, rfl, upd_same⟩) (h4.ext x2) ?_
    exact kD _ x2 (Tabs.same t1 s3)
section
variable {K : PySem.W.Frag} {H1 : Hp} {x y : V} {v0 v1 v2 v3 v4 v5 : Option V}
theorem calls1 (kx : Kn K H1 x) (ky : Kn K H1 y) : Calls K (tl1 K) [v0, v1, v2, v3, v4, v5, some x, some y] (dueV x y) H1 := fun E Q1 k1 k2 => by
  unfold tl1
  simp only [tSeq, tAsg, tIfS, tRet, tRetN, tDrop, tNext, tPar, tPar3, gName, gSub, gTup, gCons, gNil, zV, tC, tOp, tUn, tCons, tNil, tLst, tTup, tIf, tAnd, tOr, tNot, tYes, zB, zAnd, zOr, zNot, zChain, tDNewK, yAdd, ySub, yMul, yDiv, yMod, yPow, yNeg, yLt, yLe, yGt, yGe, yEq, yNe, yIs0, yNotIs0, yIx, ySet, yIn, sqAt, isNone, zFld, zSetF, insAt, zMeth, zProp, tCall, tMake, tCB, yLen, yAbs, yMax2, yMin2, yList, yTuple, yDict0, zLM, yApp, isLst, dkAt, keyOf, zGet1, zGet2, zPop1, zPop2, zForR1, zForR2, zForL, zForT, Z.intAt, refAt, zLc, iR1, iR2, iL, iT, wipe, List.getElem?_cons_zero, List.getElem?_cons_succ, List.set_cons_zero, List.set_cons_succ, List.cons_append, List.nil_append, List.append_nil, upd_same, at0, at1, at2, ix0, ix1, ix2, upd_upd, ite_true, ite_false, if_true, if_false, Bool.false_eq_true, decide_true, decide_false, reduceIte, true_and, and_true, Option.isSome_none, Option.isSome_some, Bool.not_false, Bool.not_true, yIsi, tyAt, clsAt, ki_int_int, ki_bool_int, ki_none_int, ki_str_int, ki_list_int, ki_tuple_int, ki_int_bool, ki_bool_bool, ki_none_bool, ki_str_bool, ki_list_bool, ki_tuple_bool, zMakeV, tRz, zNever]
  intro a dx ha hdx nd
  have s1 : Same H1 (upd (upd H1 dx (.own a)) a (.ins (cRun K) dx [])) := Same.upd' (Same.upd' (Same.refl H1) hdx) ha
  exact ⟨a, dx, x, y, rfl, upd_same, kx.ext (ExtN.same s1), ky.ext (ExtN.same s1), fun f m hd => ⟨rfl, k2 f m hd _ a dx (Same.upd' s1 ha) upd_same⟩, fun hd => k1 hd _ s1⟩
theorem calls2 (kx : Kn K H1 x) (ky : Kn K H1 y) : Calls K (tl2 K) [v0, v1, v2, v3, v4, v5, some x, some y] (dueV x y) H1 := fun E Q1 k1 k2 => by
  unfold tl2 tMakeN
  simp only [tSeq, tAsg, tIfS, tRet, tRetN, tDrop, tNext, tPar, tPar3, gName, gSub, gTup, gCons, gNil, zV, tC, tOp, tUn, tCons, tNil, tLst, tTup, tIf, tAnd, tOr, tNot, tYes, zB, zAnd, zOr, zNot, zChain, tDNewK, yAdd, ySub, yMul, yDiv, yMod, yPow, yNeg, yLt, yLe, yGt, yGe, yEq, yNe, yIs0, yNotIs0, yIx, ySet, yIn, sqAt, isNone, zFld, zSetF, insAt, zMeth, zProp, tCall, tMake, tCB, yLen, yAbs, yMax2, yMin2, yList, yTuple, yDict0, zLM, yApp, isLst, dkAt, keyOf, zGet1, zGet2, zPop1, zPop2, zForR1, zForR2, zForL, zForT, Z.intAt, refAt, zLc, iR1, iR2, iL, iT, wipe, List.getElem?_cons_zero, List.getElem?_cons_succ, List.set_cons_zero, List.set_cons_succ, List.cons_append, List.nil_append, List.append_nil, upd_same, at0, at1, at2, ix0, ix1, ix2, upd_upd, ite_true, ite_false, if_true, if_false, Bool.false_eq_true, decide_true, decide_false, reduceIte, true_and, and_true, Option.isSome_none, Option.isSome_some, Bool.not_false, Bool.not_true, yIsi, tyAt, clsAt, ki_int_int, ki_bool_int, ki_none_int, ki_str_int, ki_list_int, ki_tuple_int, ki_int_bool, ki_bool_bool, ki_none_bool, ki_str_bool, ki_list_bool, ki_tuple_bool, zMakeV, tRz, zNever]
  refine ⟨rfl, rfl, fun a dx ha hdx nd => ?_⟩
  have s1 : Same H1 (upd (upd H1 dx (.own a)) a (.ins (cRun K) dx [])) := Same.upd' (Same.upd' (Same.refl H1) hdx) ha
  exact ⟨a, dx, x, y, rfl, upd_same, kx.ext (ExtN.same s1), ky.ext (ExtN.same s1), fun f m hd => ⟨rfl, k2 f m hd _ a dx (Same.upd' s1 ha) upd_same⟩, fun hd => k1 hd _ s1⟩
theorem calls3 (kx : Kn K H1 x) (ky : Kn K H1 y) : Calls K (tl3 K) [v0, v1, v2, v3, v4, v5, some x, some y] (btwV x y) H1 := fun E Q1 k1 k2 => by
  unfold tl3 ClX.tCMeth
  simp only [tSeq, tAsg, tIfS, tRet, tRetN, tDrop, tNext, tPar, tPar3, gName, gSub, gTup, gCons, gNil, zV, tC, tOp, tUn, tCons, tNil, tLst, tTup, tIf, tAnd, tOr, tNot, tYes, zB, zAnd, zOr, zNot, zChain, tDNewK, yAdd, ySub, yMul, yDiv, yMod, yPow, yNeg, yLt, yLe, yGt, yGe, yEq, yNe, yIs0, yNotIs0, yIx, ySet, yIn, sqAt, isNone, zFld, zSetF, insAt, zMeth, zProp, tCall, tMake, tCB, yLen, yAbs, yMax2, yMin2, yList, yTuple, yDict0, zLM, yApp, isLst, dkAt, keyOf, zGet1, zGet2, zPop1, zPop2, zForR1, zForR2, zForL, zForT, Z.intAt, refAt, zLc, iR1, iR2, iL, iT, wipe, List.getElem?_cons_zero, List.getElem?_cons_succ, List.set_cons_zero, List.set_cons_succ, List.cons_append, List.nil_append, List.append_nil, upd_same, at0, at1, at2, ix0, ix1, ix2, upd_upd, ite_true, ite_false, if_true, if_false, Bool.false_eq_true, decide_true, decide_false, reduceIte, true_and, and_true, Option.isSome_none, Option.isSome_some, Bool.not_false, Bool.not_true, yIsi, tyAt, clsAt, ki_int_int, ki_bool_int, ki_none_int, ki_str_int, ki_list_int, ki_tuple_int, ki_int_bool, ki_bool_bool, ki_none_bool, ki_str_bool, ki_list_bool, ki_tuple_bool, zMakeV, tRz, zNever]
  exact ⟨x, y, rfl, kx, ky, fun f m a dx H' hd s ha => k2 f m hd H' a dx s ha, fun hd H' s => k1 hd H' s⟩
theorem calls4 (kx : Kn K H1 x) (ky : Kn K H1 y) : Calls K (tl4 K) [v0, v1, v2, v3, v4, v5, some x, some y] (btwV x y) H1 := fun E Q1 k1 k2 => by
  unfold tl4 zCMethN
  simp only [tSeq, tAsg, tIfS, tRet, tRetN, tDrop, tNext, tPar, tPar3, gName, gSub, gTup, gCons, gNil, zV, tC, tOp, tUn, tCons, tNil, tLst, tTup, tIf, tAnd, tOr, tNot, tYes, zB, zAnd, zOr, zNot, zChain, tDNewK, yAdd, ySub, yMul, yDiv, yMod, yPow, yNeg, yLt, yLe, yGt, yGe, yEq, yNe, yIs0, yNotIs0, yIx, ySet, yIn, sqAt, isNone, zFld, zSetF, insAt, zMeth, zProp, tCall, tMake, tCB, yLen, yAbs, yMax2, yMin2, yList, yTuple, yDict0, zLM, yApp, isLst, dkAt, keyOf, zGet1, zGet2, zPop1, zPop2, zForR1, zForR2, zForL, zForT, Z.intAt, refAt, zLc, iR1, iR2, iL, iT, wipe, List.getElem?_cons_zero, List.getElem?_cons_succ, List.set_cons_zero, List.set_cons_succ, List.cons_append, List.nil_append, List.append_nil, upd_same, at0, at1, at2, ix0, ix1, ix2, upd_upd, ite_true, ite_false, if_true, if_false, Bool.false_eq_true, decide_true, decide_false, reduceIte, true_and, and_true, Option.isSome_none, Option.isSome_some, Bool.not_false, Bool.not_true, yIsi, tyAt, clsAt, ki_int_int, ki_bool_int, ki_none_int, ki_str_int, ki_list_int, ki_tuple_int, ki_int_bool, ki_bool_bool, ki_none_bool, ki_str_bool, ki_list_bool, ki_tuple_bool, zMakeV, tRz, zNever]
  exact ⟨rfl, x, y, rfl, kx, ky, fun f m a dx H' hd s ha => k2 f m hd H' a dx s ha, fun hd H' s => k1 hd H' s⟩
end

def OutInv (K : PySem.W.Frag) (a : Addr) (H0 : Hp) (_ : Nat) (σ : L2.St) (H' : Hp) : Prop := (∃ v1 v2 v3 v4 v5 v6 v7, σ = [some (.ref a), v1, v2, v3, v4, v5, v6, v7]) ∧ LamX.ExtN H0 H' ∧ LamX.Tabs (tabs K) H'
def InInv (K : PySem.W.Frag) (a b : Addr) (i : Int) (H0 : Hp) (j : Nat) (σ : L2.St) (H' : Hp) : Prop := ∃ o n v3 v4 v5 v6 v7, σ = [some (.ref a), some (.int i), some (.ref b), v3, v4, v5, v6, v7] ∧ LamX.ExtN H0 H' ∧ LamX.Tabs (tabs K) H' ∧ H' b = some o ∧ BagO o n ∧ n ≤ 10 * j
theorem sq_ext {K : PySem.W.Frag} {H H' : Hp} {a : Addr} {xs : List V} (e : LamX.ExtN H H') (h : SqL K H a xs) : SqL K H' a xs := by
  rcases h with (h | ⟨o, h⟩) | h
  · exact .inl (.inl (e _ _ h fun ps z => by cases z))
  · exact .inl (.inr ⟨o, e _ _ h fun ps z => by cases z⟩)
  · exact .inr h
theorem ext_keeps {H0 H H' : Hp} {b : Addr} (e : LamX.ExtN H0 H) (nb : ∀ u, H0 b = some u → ∃ ps, u = .tbl ps) (k : Keeps H H' b) : LamX.ExtN H0 H' := fun p u h n => k p u (e p u h n) fun z => by
  rw [z] at h
  obtain ⟨ps, hp⟩ := nb u h
  exact n ps hp
theorem bag_l {o : HO} {n : Int} (h : BagO o n) : ∃ xs, o = .lst xs := by
  obtain ⟨L, M, z, rfl, _⟩ := h
  exact ⟨_, rfl⟩
theorem btw_none {x y : V} (h : (isW x && isW y) = false) : btwV x y = none := by
  unfold btwV
  split
  · cases h
  · rfl
/-- the rest of a turn, from the two values -/
theorem turn01 {K : PySem.W.Frag} {mg : Str → Option Value} (T : Top K mg) {D : Ends} {H0 H : Hp} {a b : Addr} {i : Int} {v3 v4 v5 : Option V} {x y : V} {o : HO} (x0 : LamX.ExtN H0 H) (t0 : LamX.Tabs (tabs K) H) (hb : H b = some o) (ho : ∃ xs, o = .lst xs) (kx : Kn K H x) (ky : Kn K H y)
    (kD : ∀ H' v4 v5, LamX.ExtN H0 H' → LamX.Tabs (tabs K) H' → H' b = some o → D.nx [some (.ref a), some (.int i), some (.ref b), v3, v4, v5, some x, some y] H') :
    tSeq (t_law_1b_2b_2 K) (tSeq (t_law_1b_2b_3 K) (tSeq (t_law_1b_2b_4 K) (tSeq (t_law_1b_2b_5 K) (tSeq (t_law_1b_2b_6 K) (tSeq (t_law_1b_2b_7 K) (t_law_1b_2b_8 K)))))) D [some (.ref a), some (.int i), some (.ref b), v3, v4, v5, some x, some y] H := by
  have nt : ∀ ps, o ≠ .tbl ps := fun ps e => by
    obtain ⟨xs, rfl⟩ := ho
    cases e
  have part2 : ∀ H4 w4, LamX.ExtN H H4 → LamX.Tabs (tabs K) H4 → tSeq (t_law_1b_2b_5 K) (tSeq (t_law_1b_2b_6 K) (tSeq (t_law_1b_2b_7 K) (t_law_1b_2b_8 K))) D [some (.ref a), some (.int i), some (.ref b), v3, w4, v5, some x, some y] H4 := by
    intro H4 w4 x4 t4
    have part3 : ∀ H5 w w5, LamX.ExtN H H5 → LamX.Tabs (tabs K) H5 → ResAt H5 w (btwV x y) → tSeq (t_law_1b_2b_7 K) (t_law_1b_2b_8 K) D [some (.ref a), some (.int i), some (.ref b), v3, some w, w5, some x, some y] H5 := by
      intro H5 w w5 x5 t5 r5
      unfold t_law_1b_2b_7
      refine told_step t5 (fun H1 x1 => calls3 (kx.ext (x5.trans x1)) (ky.ext (x5.trans x1))) r5 rfl fun H6 x6 t6 => ?_
      unfold t_law_1b_2b_8
      refine told_step t6 (fun H1 x1 => calls4 (kx.ext ((x5.trans x6).trans x1)) (ky.ext ((x5.trans x6).trans x1))) (r5.ext x6) rfl fun H7 x7 t7 => ?_
      have xx := (x5.trans x6).trans x7
      exact kD H7 _ _ (x0.trans xx) t7 (xx _ _ hb nt)
    have kx4 := kx.ext x4
    have ky4 := ky.ext x4
    unfold t_law_1b_2b_5
    simp only [tSeq, tAsg, tIfS, tRet, tRetN, tDrop, tNext, tPar, tPar3, gName, gSub, gTup, gCons, gNil, zV, tC, tOp, tUn, tCons, tNil, tLst, tTup, tIf, tAnd, tOr, tNot, tYes, zB, zAnd, zOr, zNot, zChain, tDNewK, yAdd, ySub, yMul, yDiv, yMod, yPow, yNeg, yLt, yLe, yGt, yGe, yEq, yNe, yIs0, yNotIs0, yIx, ySet, yIn, sqAt, isNone, zFld, zSetF, insAt, zMeth, zProp, tCall, tMake, tCB, yLen, yAbs, yMax2, yMin2, yList, yTuple, yDict0, zLM, yApp, isLst, dkAt, keyOf, zGet1, zGet2, zPop1, zPop2, zForR1, zForR2, zForL, zForT, Z.intAt, refAt, zLc, iR1, iR2, iL, iT, wipe, List.getElem?_cons_zero, List.getElem?_cons_succ, List.set_cons_zero, List.set_cons_succ, List.cons_append, List.nil_append, List.append_nil, upd_same, at0, at1, at2, ix0, ix1, ix2, upd_upd, ite_true, ite_false, if_true, if_false, Bool.false_eq_true, decide_true, decide_false, reduceIte, true_and, and_true, Option.isSome_none, Option.isSome_some, Bool.not_false, Bool.not_true, yIsi, tyAt, clsAt, ki_int_int, ki_bool_int, ki_none_int, ki_str_int, ki_list_int, ki_tuple_int, ki_int_bool, ki_bool_bool, ki_none_bool, ki_str_bool, ki_list_bool, ki_tuple_bool, zMakeV, tRz, zNever]
    refine ⟨x, rfl, kx4, ?_⟩
    cases h1 : isW x with
    | false =>
      simp only [tSeq, tAsg, tIfS, tRet, tRetN, tDrop, tNext, tPar, tPar3, gName, gSub, gTup, gCons, gNil, zV, tC, tOp, tUn, tCons, tNil, tLst, tTup, tIf, tAnd, tOr, tNot, tYes, zB, zAnd, zOr, zNot, zChain, tDNewK, yAdd, ySub, yMul, yDiv, yMod, yPow, yNeg, yLt, yLe, yGt, yGe, yEq, yNe, yIs0, yNotIs0, yIx, ySet, yIn, sqAt, isNone, zFld, zSetF, insAt, zMeth, zProp, tCall, tMake, tCB, yLen, yAbs, yMax2, yMin2, yList, yTuple, yDict0, zLM, yApp, isLst, dkAt, keyOf, zGet1, zGet2, zPop1, zPop2, zForR1, zForR2, zForL, zForT, Z.intAt, refAt, zLc, iR1, iR2, iL, iT, wipe, List.getElem?_cons_zero, List.getElem?_cons_succ, List.set_cons_zero, List.set_cons_succ, List.cons_append, List.nil_append, List.append_nil, upd_same, at0, at1, at2, ix0, ix1, ix2, upd_upd, ite_true, ite_false, if_true, if_false, Bool.false_eq_true, decide_true, decide_false, reduceIte, true_and, and_true, Option.isSome_none, Option.isSome_some, Bool.not_false, Bool.not_true, yIsi, tyAt, clsAt, ki_int_int, ki_bool_int, ki_none_int, ki_str_int, ki_list_int, ki_tuple_int, ki_int_bool, ki_bool_bool, ki_none_bool, ki_str_bool, ki_list_bool, ki_tuple_bool, zMakeV, tRz, zNever]
      unfold t_law_1b_2b_6
      simp only [tSeq, tAsg, tIfS, tRet, tRetN, tDrop, tNext, tPar, tPar3, gName, gSub, gTup, gCons, gNil, zV, tC, tOp, tUn, tCons, tNil, tLst, tTup, tIf, tAnd, tOr, tNot, tYes, zB, zAnd, zOr, zNot, zChain, tDNewK, yAdd, ySub, yMul, yDiv, yMod, yPow, yNeg, yLt, yLe, yGt, yGe, yEq, yNe, yIs0, yNotIs0, yIx, ySet, yIn, sqAt, isNone, zFld, zSetF, insAt, zMeth, zProp, tCall, tMake, tCB, yLen, yAbs, yMax2, yMin2, yList, yTuple, yDict0, zLM, yApp, isLst, dkAt, keyOf, zGet1, zGet2, zPop1, zPop2, zForR1, zForR2, zForL, zForT, Z.intAt, refAt, zLc, iR1, iR2, iL, iT, wipe, List.getElem?_cons_zero, List.getElem?_cons_succ, List.set_cons_zero, List.set_cons_succ, List.cons_append, List.nil_append, List.append_nil, upd_same, at0, at1, at2, ix0, ix1, ix2, upd_upd, ite_true, ite_false, if_true, if_false, Bool.false_eq_true, decide_true, decide_false, reduceIte, true_and, and_true, Option.isSome_none, Option.isSome_some, Bool.not_false, Bool.not_true, yIsi, tyAt, clsAt, ki_int_int, ki_bool_int, ki_none_int, ki_str_int, ki_list_int, ki_tuple_int, ki_int_bool, ki_bool_bool, ki_none_bool, ki_str_bool, ki_list_bool, ki_tuple_bool, zMakeV, tRz, zNever]
      exact part3 H4 _ _ x4 t4 (.inl ⟨btw_none (by rw [h1]; rfl), rfl⟩)
    | true =>
      simp only [tSeq, tAsg, tIfS, tRet, tRetN, tDrop, tNext, tPar, tPar3, gName, gSub, gTup, gCons, gNil, zV, tC, tOp, tUn, tCons, tNil, tLst, tTup, tIf, tAnd, tOr, tNot, tYes, zB, zAnd, zOr, zNot, zChain, tDNewK, yAdd, ySub, yMul, yDiv, yMod, yPow, yNeg, yLt, yLe, yGt, yGe, yEq, yNe, yIs0, yNotIs0, yIx, ySet, yIn, sqAt, isNone, zFld, zSetF, insAt, zMeth, zProp, tCall, tMake, tCB, yLen, yAbs, yMax2, yMin2, yList, yTuple, yDict0, zLM, yApp, isLst, dkAt, keyOf, zGet1, zGet2, zPop1, zPop2, zForR1, zForR2, zForL, zForT, Z.intAt, refAt, zLc, iR1, iR2, iL, iT, wipe, List.getElem?_cons_zero, List.getElem?_cons_succ, List.set_cons_zero, List.set_cons_succ, List.cons_append, List.nil_append, List.append_nil, upd_same, at0, at1, at2, ix0, ix1, ix2, upd_upd, ite_true, ite_false, if_true, if_false, Bool.false_eq_true, decide_true, decide_false, reduceIte, true_and, and_true, Option.isSome_none, Option.isSome_some, Bool.not_false, Bool.not_true, yIsi, tyAt, clsAt, ki_int_int, ki_bool_int, ki_none_int, ki_str_int, ki_list_int, ki_tuple_int, ki_int_bool, ki_bool_bool, ki_none_bool, ki_str_bool, ki_list_bool, ki_tuple_bool, zMakeV, tRz, zNever]
      refine ⟨y, rfl, ky4, ?_⟩
      cases h2 : isW y with
      | false =>
        unfold t_law_1b_2b_6
        simp only [tSeq, tAsg, tIfS, tRet, tRetN, tDrop, tNext, tPar, tPar3, gName, gSub, gTup, gCons, gNil, zV, tC, tOp, tUn, tCons, tNil, tLst, tTup, tIf, tAnd, tOr, tNot, tYes, zB, zAnd, zOr, zNot, zChain, tDNewK, yAdd, ySub, yMul, yDiv, yMod, yPow, yNeg, yLt, yLe, yGt, yGe, yEq, yNe, yIs0, yNotIs0, yIx, ySet, yIn, sqAt, isNone, zFld, zSetF, insAt, zMeth, zProp, tCall, tMake, tCB, yLen, yAbs, yMax2, yMin2, yList, yTuple, yDict0, zLM, yApp, isLst, dkAt, keyOf, zGet1, zGet2, zPop1, zPop2, zForR1, zForR2, zForL, zForT, Z.intAt, refAt, zLc, iR1, iR2, iL, iT, wipe, List.getElem?_cons_zero, List.getElem?_cons_succ, List.set_cons_zero, List.set_cons_succ, List.cons_append, List.nil_append, List.append_nil, upd_same, at0, at1, at2, ix0, ix1, ix2, upd_upd, ite_true, ite_false, if_true, if_false, Bool.false_eq_true, decide_true, decide_false, reduceIte, true_and, and_true, Option.isSome_none, Option.isSome_some, Bool.not_false, Bool.not_true, yIsi, tyAt, clsAt, ki_int_int, ki_bool_int, ki_none_int, ki_str_int, ki_list_int, ki_tuple_int, ki_int_bool, ki_bool_bool, ki_none_bool, ki_str_bool, ki_list_bool, ki_tuple_bool, zMakeV, tRz, zNever]
        exact part3 H4 _ _ x4 t4 (.inl ⟨btw_none (by rw [h1, h2]; rfl), rfl⟩)
      | true =>
        obtain ⟨f, rfl⟩ := isW_int h1
        obtain ⟨e, rfl⟩ := isW_int h2
        unfold t_law_1b_2b_6
        simp only [tSeq, tAsg, tIfS, tRet, tRetN, tDrop, tNext, tPar, tPar3, gName, gSub, gTup, gCons, gNil, zV, tC, tOp, tUn, tCons, tNil, tLst, tTup, tIf, tAnd, tOr, tNot, tYes, zB, zAnd, zOr, zNot, zChain, tDNewK, yAdd, ySub, yMul, yDiv, yMod, yPow, yNeg, yLt, yLe, yGt, yGe, yEq, yNe, yIs0, yNotIs0, yIx, ySet, yIn, sqAt, isNone, zFld, zSetF, insAt, zMeth, zProp, tCall, tMake, tCB, yLen, yAbs, yMax2, yMin2, yList, yTuple, yDict0, zLM, yApp, isLst, dkAt, keyOf, zGet1, zGet2, zPop1, zPop2, zForR1, zForR2, zForL, zForT, Z.intAt, refAt, zLc, iR1, iR2, iL, iT, wipe, List.getElem?_cons_zero, List.getElem?_cons_succ, List.set_cons_zero, List.set_cons_succ, List.cons_append, List.nil_append, List.append_nil, upd_same, at0, at1, at2, ix0, ix1, ix2, upd_upd, ite_true, ite_false, if_true, if_false, Bool.false_eq_true, decide_true, decide_false, reduceIte, true_and, and_true, Option.isSome_none, Option.isSome_some, Bool.not_false, Bool.not_true, yIsi, tyAt, clsAt, ki_int_int, ki_bool_int, ki_none_int, ki_str_int, ki_list_int, ki_tuple_int, ki_int_bool, ki_bool_bool, ki_none_bool, ki_str_bool, ki_list_bool, ki_tuple_bool, zMakeV, tRz, zNever]
        refine ⟨.int f, .int (e - f), rfl, kx4, .int _, fun hd => part3 H4 _ _ x4 t4 (.inl ⟨hd, rfl⟩), fun f' m' hd p hp => ?_⟩
        have s4 : Same H4 (upd H4 p (.lst [.int f', .int m', .int (f' + m')])) := Same.upd' (Same.refl H4) hp
        exact part3 _ _ _ (x4.trans (ExtN.same s4)) (Tabs.same t4 s4) (.inr ⟨f', m', p, hd, rfl, upd_same⟩)
  have part1 : ∀ H5 w, LamX.ExtN H H5 → LamX.Tabs (tabs K) H5 → ResAt H5 w (dueV x y) → tSeq (t_law_1b_2b_3 K) (tSeq (t_law_1b_2b_4 K) (tSeq (t_law_1b_2b_5 K) (tSeq (t_law_1b_2b_6 K) (tSeq (t_law_1b_2b_7 K) (t_law_1b_2b_8 K))))) D [some (.ref a), some (.int i), some (.ref b), v3, some w, v5, some x, some y] H5 := by
    intro H5 w x5 t5 r5
    unfold t_law_1b_2b_3
    refine told_step t5 (fun H1 x1 => calls1 (kx.ext (x5.trans x1)) (ky.ext (x5.trans x1))) r5 rfl fun H6 x6 t6 => ?_
    unfold t_law_1b_2b_4
    refine told_step t6 (fun H1 x1 => calls2 (kx.ext ((x5.trans x6).trans x1)) (ky.ext ((x5.trans x6).trans x1))) (r5.ext x6) rfl fun H7 x7 t7 => ?_
    exact part2 H7 _ ((x5.trans x6).trans x7) t7
  unfold t_law_1b_2b_2
  simp only [tSeq, tAsg, tIfS, tRet, tRetN, tDrop, tNext, tPar, tPar3, gName, gSub, gTup, gCons, gNil, zV, tC, tOp, tUn, tCons, tNil, tLst, tTup, tIf, tAnd, tOr, tNot, tYes, zB, zAnd, zOr, zNot, zChain, tDNewK, yAdd, ySub, yMul, yDiv, yMod, yPow, yNeg, yLt, yLe, yGt, yGe, yEq, yNe, yIs0, yNotIs0, yIx, ySet, yIn, sqAt, isNone, zFld, zSetF, insAt, zMeth, zProp, tCall, tMake, tCB, yLen, yAbs, yMax2, yMin2, yList, yTuple, yDict0, zLM, yApp, isLst, dkAt, keyOf, zGet1, zGet2, zPop1, zPop2, zForR1, zForR2, zForL, zForT, Z.intAt, refAt, zLc, iR1, iR2, iL, iT, wipe, List.getElem?_cons_zero, List.getElem?_cons_succ, List.set_cons_zero, List.set_cons_succ, List.cons_append, List.nil_append, List.append_nil, upd_same, at0, at1, at2, ix0, ix1, ix2, upd_upd, ite_true, ite_false, if_true, if_false, Bool.false_eq_true, decide_true, decide_false, reduceIte, true_and, and_true, Option.isSome_none, Option.isSome_some, Bool.not_false, Bool.not_true, yIsi, tyAt, clsAt, ki_int_int, ki_bool_int, ki_none_int, ki_str_int, ki_list_int, ki_tuple_int, ki_int_bool, ki_bool_bool, ki_none_bool, ki_str_bool, ki_list_bool, ki_tuple_bool, zMakeV, tRz, zNever]
  refine ⟨x, y, rfl, kx, ky, fun hd => part1 H _ (LamX.ExtN.refl H) t0 (.inl ⟨hd, rfl⟩), fun f m hd p hp => ?_⟩
  have s4 : Same H (upd H p (.lst [.int f, .int m, .int (f + m)])) := Same.upd' (Same.refl H) hp
  exact part1 _ _ (ExtN.same s4) (Tabs.same t0 s4) (.inr ⟨f, m, p, hd, rfl, upd_same⟩)
theorem rd_law {K : PySem.W.Frag} {mg : Str → Option Value} (T : Top K mg) : ∀ vs H Q E, sp_law K vs H Q E → t_law K { nx := fun _ H' => Q .non H', rt := Q } (start nm_law vs) H := by
  rintro vs H Q E ⟨a, ns, rfl, hS, hl, hT, k⟩
  rw [start_law]
  unfold t_law t_law_1
  simp only [tSeq, tAsg, tIfS, tRet, tRetN, tDrop, tNext, tPar, tPar3, gName, gSub, gTup, gCons, gNil, zV, tC, tOp, tUn, tCons, tNil, tLst, tTup, tIf, tAnd, tOr, tNot, tYes, zB, zAnd, zOr, zNot, zChain, tDNewK, yAdd, ySub, yMul, yDiv, yMod, yPow, yNeg, yLt, yLe, yGt, yGe, yEq, yNe, yIs0, yNotIs0, yIx, ySet, yIn, sqAt, isNone, zFld, zSetF, insAt, zMeth, zProp, tCall, tMake, tCB, yLen, yAbs, yMax2, yMin2, yList, yTuple, yDict0, zLM, yApp, isLst, dkAt, keyOf, zGet1, zGet2, zPop1, zPop2, zForR1, zForR2, zForL, zForT, Z.intAt, refAt, zLc, iR1, iR2, iL, iT, wipe, List.getElem?_cons_zero, List.getElem?_cons_succ, List.set_cons_zero, List.set_cons_succ, List.cons_append, List.nil_append, List.append_nil, upd_same, at0, at1, at2, ix0, ix1, ix2, upd_upd, ite_true, ite_false, if_true, if_false, Bool.false_eq_true, decide_true, decide_false, reduceIte, true_and, and_true, Option.isSome_none, Option.isSome_some, Bool.not_false, Bool.not_true, yIsi, tyAt, clsAt, ki_int_int, ki_bool_int, ki_none_int, ki_str_int, ki_list_int, ki_tuple_int, ki_int_bool, ki_bool_bool, ki_none_bool, ki_str_bool, ki_list_bool, ki_tuple_bool, zMakeV, tRz, zNever]
  refine ⟨a, _, rfl, hS, ?_⟩
  simp only [tSeq, tAsg, tIfS, tRet, tRetN, tDrop, tNext, tPar, tPar3, gName, gSub, gTup, gCons, gNil, zV, tC, tOp, tUn, tCons, tNil, tLst, tTup, tIf, tAnd, tOr, tNot, tYes, zB, zAnd, zOr, zNot, zChain, tDNewK, yAdd, ySub, yMul, yDiv, yMod, yPow, yNeg, yLt, yLe, yGt, yGe, yEq, yNe, yIs0, yNotIs0, yIx, ySet, yIn, sqAt, isNone, zFld, zSetF, insAt, zMeth, zProp, tCall, tMake, tCB, yLen, yAbs, yMax2, yMin2, yList, yTuple, yDict0, zLM, yApp, isLst, dkAt, keyOf, zGet1, zGet2, zPop1, zPop2, zForR1, zForR2, zForL, zForT, Z.intAt, refAt, zLc, iR1, iR2, iL, iT, wipe, List.getElem?_cons_zero, List.getElem?_cons_succ, List.set_cons_zero, List.set_cons_succ, List.cons_append, List.nil_append, List.append_nil, upd_same, at0, at1, at2, ix0, ix1, ix2, upd_upd, ite_true, ite_false, if_true, if_false, Bool.false_eq_true, decide_true, decide_false, reduceIte, true_and, and_true, Option.isSome_none, Option.isSome_some, Bool.not_false, Bool.not_true, yIsi, tyAt, clsAt, ki_int_int, ki_bool_int, ki_none_int, ki_str_int, ki_list_int, ki_tuple_int, ki_int_bool, ki_bool_bool, ki_none_bool, ki_str_bool, ki_list_bool, ki_tuple_bool, zMakeV, tRz, zNever]
  generalize hN : (if (if (↑(List.map V.int ns).length : Int) < 6 then ↑(List.map V.int ns).length else (6 : Int)) > 2 then if (↑(List.map V.int ns).length : Int) < 6 then ↑(List.map V.int ns).length else (6 : Int) else 2) = N
  have hN2 : 0 ≤ N ∧ N ≤ 6 := by rw [← hN]; split <;> (try split) <;> omega
  refine ⟨⟨by omega, by omega⟩, loopR (OutInv K a H) ⟨⟨_, _, _, _, _, _, _, rfl⟩, LamX.ExtN.refl H, hT⟩ ?_ ?_⟩
  · rintro i σ H1 hi ⟨⟨v1, v2, v3, v4, v5, v6, v7, rfl⟩, x1, t1⟩
    unfold t_law_1b_1
    simp only [tSeq, tAsg, tIfS, tRet, tRetN, tDrop, tNext, tPar, tPar3, gName, gSub, gTup, gCons, gNil, zV, tC, tOp, tUn, tCons, tNil, tLst, tTup, tIf, tAnd, tOr, tNot, tYes, zB, zAnd, zOr, zNot, zChain, tDNewK, yAdd, ySub, yMul, yDiv, yMod, yPow, yNeg, yLt, yLe, yGt, yGe, yEq, yNe, yIs0, yNotIs0, yIx, ySet, yIn, sqAt, isNone, zFld, zSetF, insAt, zMeth, zProp, tCall, tMake, tCB, yLen, yAbs, yMax2, yMin2, yList, yTuple, yDict0, zLM, yApp, isLst, dkAt, keyOf, zGet1, zGet2, zPop1, zPop2, zForR1, zForR2, zForL, zForT, Z.intAt, refAt, zLc, iR1, iR2, iL, iT, wipe, List.getElem?_cons_zero, List.getElem?_cons_succ, List.set_cons_zero, List.set_cons_succ, List.cons_append, List.nil_append, List.append_nil, upd_same, at0, at1, at2, ix0, ix1, ix2, upd_upd, ite_true, ite_false, if_true, if_false, Bool.false_eq_true, decide_true, decide_false, reduceIte, true_and, and_true, Option.isSome_none, Option.isSome_some, Bool.not_false, Bool.not_true, yIsi, tyAt, clsAt, ki_int_int, ki_bool_int, ki_none_int, ki_str_int, ki_list_int, ki_tuple_int, ki_int_bool, ki_bool_bool, ki_none_bool, ki_str_bool, ki_list_bool, ki_tuple_bool, zMakeV, tRz, zNever]
    refine ⟨a, _, ns, rfl, sq_ext x1 hS, by omega, by omega, fun b o hb ho => ?_⟩
    have nb : ∀ u, H b = some u → ∃ ps, u = .tbl ps := fun u hu => by
      cases u with
      | tbl ps => exact ⟨ps, rfl⟩
      | _ =>
        have z := x1 b _ hu (fun ps e => by cases e)
        rw [hb] at z
        cases z
    have s1 : Same H1 (upd H1 b o) := Same.upd' (Same.refl H1) hb
    unfold t_law_1b_2
    simp only [tSeq, tAsg, tIfS, tRet, tRetN, tDrop, tNext, tPar, tPar3, gName, gSub, gTup, gCons, gNil, zV, tC, tOp, tUn, tCons, tNil, tLst, tTup, tIf, tAnd, tOr, tNot, tYes, zB, zAnd, zOr, zNot, zChain, tDNewK, yAdd, ySub, yMul, yDiv, yMod, yPow, yNeg, yLt, yLe, yGt, yGe, yEq, yNe, yIs0, yNotIs0, yIx, ySet, yIn, sqAt, isNone, zFld, zSetF, insAt, zMeth, zProp, tCall, tMake, tCB, yLen, yAbs, yMax2, yMin2, yList, yTuple, yDict0, zLM, yApp, isLst, dkAt, keyOf, zGet1, zGet2, zPop1, zPop2, zForR1, zForR2, zForL, zForT, Z.intAt, refAt, zLc, iR1, iR2, iL, iT, wipe, List.getElem?_cons_zero, List.getElem?_cons_succ, List.set_cons_zero, List.set_cons_succ, List.cons_append, List.nil_append, List.append_nil, upd_same, at0, at1, at2, ix0, ix1, ix2, upd_upd, ite_true, ite_false, if_true, if_false, Bool.false_eq_true, decide_true, decide_false, reduceIte, true_and, and_true, Option.isSome_none, Option.isSome_some, Bool.not_false, Bool.not_true, yIsi, tyAt, clsAt, ki_int_int, ki_bool_int, ki_none_int, ki_str_int, ki_list_int, ki_tuple_int, ki_int_bool, ki_bool_bool, ki_none_bool, ki_str_bool, ki_list_bool, ki_tuple_bool, zMakeV, tRz, zNever]
    refine ⟨⟨by decide, by decide⟩, loopR (InInv K a b (0 + (i : Int)) H) ⟨o, 0, _, _, _, _, _, rfl, x1.trans (ExtN.same s1), Tabs.same t1 s1, upd_same, ho, by omega⟩ ?_ ?_⟩
    · rintro j σ H2 hj ⟨o2, n, w3, w4, w5, w6, w7, rfl, x2, t2, hb2, ho2, hn⟩
      unfold t_law_1b_2b_1
      simp only [tSeq, tAsg, tIfS, tRet, tRetN, tDrop, tNext, tPar, tPar3, gName, gSub, gTup, gCons, gNil, zV, tC, tOp, tUn, tCons, tNil, tLst, tTup, tIf, tAnd, tOr, tNot, tYes, zB, zAnd, zOr, zNot, zChain, tDNewK, yAdd, ySub, yMul, yDiv, yMod, yPow, yNeg, yLt, yLe, yGt, yGe, yEq, yNe, yIs0, yNotIs0, yIx, ySet, yIn, sqAt, isNone, zFld, zSetF, insAt, zMeth, zProp, tCall, tMake, tCB, yLen, yAbs, yMax2, yMin2, yList, yTuple, yDict0, zLM, yApp, isLst, dkAt, keyOf, zGet1, zGet2, zPop1, zPop2, zForR1, zForR2, zForL, zForT, Z.intAt, refAt, zLc, iR1, iR2, iL, iT, wipe, List.getElem?_cons_zero, List.getElem?_cons_succ, List.set_cons_zero, List.set_cons_succ, List.cons_append, List.nil_append, List.append_nil, upd_same, at0, at1, at2, ix0, ix1, ix2, upd_upd, ite_true, ite_false, if_true, if_false, Bool.false_eq_true, decide_true, decide_false, reduceIte, true_and, and_true, Option.isSome_none, Option.isSome_some, Bool.not_false, Bool.not_true, yIsi, tyAt, clsAt, ki_int_int, ki_bool_int, ki_none_int, ki_str_int, ki_list_int, ki_tuple_int, ki_int_bool, ki_bool_bool, ki_none_bool, ki_str_bool, ki_list_bool, ki_tuple_bool, zMakeV, tRz, zNever]
      refine ⟨b, o2, n, rfl, hb2, ho2, by omega, fun x H3 o3 k3 hb3 ho3 kx => ?_⟩
      obtain ⟨l2, e2⟩ := bag_l ho2
      obtain ⟨l3, e3⟩ := bag_l ho3
      subst e2 e3
      refine ⟨b, _, n + 4, rfl, hb3, ho3, by omega, fun y H4 o4 k4 hb4 ho4 ky => ?_⟩
      obtain ⟨l4, e4⟩ := bag_l ho4
      subst e4
      have kx4 := kx.keeps k4 hb4
      have x4 := ext_keeps (ext_keeps x2 nb k3) nb k4
      have t4 := Tabs.keeps (Tabs.keeps t2 hb2 k3) hb3 k4
      refine ⟨by show 2 ≤ sizeLine; decide, fun tp htp => ⟨_, _, rfl, SqT.of upd_same, rfl, _, _, rfl, _, _, rfl, rfl, ?_⟩⟩
      have s5 : Same H4 (upd H4 tp (.tup [x, y])) := Same.upd' (Same.refl H4) htp
      refine turn01 T (x4.trans (ExtN.same s5)) (Tabs.same t4 s5) (s5 _ _ hb4) ⟨_, rfl⟩ (kx4.ext (ExtN.same s5)) (ky.ext (ExtN.same s5)) fun H6 w4' w5' x6 t6 hb6 => ?_
      exact ⟨_, _, _, _, _, _, _, rfl, x6, t6, hb6, ho4, by omega⟩
    · rintro σ H2 ⟨o2, n, w3, w4, w5, w6, w7, rfl, x2, t2, _⟩
      exact ⟨⟨_, _, _, _, _, _, _, rfl⟩, x2, t2⟩
  · rintro σ H1 ⟨⟨v1, v2, v3, v4, v5, v6, v7, rfl⟩, x1, t1⟩
    unfold t_law_2
    simp only [tSeq, tAsg, tIfS, tRet, tRetN, tDrop, tNext, tPar, tPar3, gName, gSub, gTup, gCons, gNil, zV, tC, tOp, tUn, tCons, tNil, tLst, tTup, tIf, tAnd, tOr, tNot, tYes, zB, zAnd, zOr, zNot, zChain, tDNewK, yAdd, ySub, yMul, yDiv, yMod, yPow, yNeg, yLt, yLe, yGt, yGe, yEq, yNe, yIs0, yNotIs0, yIx, ySet, yIn, sqAt, isNone, zFld, zSetF, insAt, zMeth, zProp, tCall, tMake, tCB, yLen, yAbs, yMax2, yMin2, yList, yTuple, yDict0, zLM, yApp, isLst, dkAt, keyOf, zGet1, zGet2, zPop1, zPop2, zForR1, zForR2, zForL, zForT, Z.intAt, refAt, zLc, iR1, iR2, iL, iT, wipe, List.getElem?_cons_zero, List.getElem?_cons_succ, List.set_cons_zero, List.set_cons_succ, List.cons_append, List.nil_append, List.append_nil, upd_same, at0, at1, at2, ix0, ix1, ix2, upd_upd, ite_true, ite_false, if_true, if_false, Bool.false_eq_true, decide_true, decide_false, reduceIte, true_and, and_true, Option.isSome_none, Option.isSome_some, Bool.not_false, Bool.not_true, yIsi, tyAt, clsAt, ki_int_int, ki_bool_int, ki_none_int, ki_str_int, ki_list_int, ki_tuple_int, ki_int_bool, ki_bool_bool, ki_none_bool, ki_str_bool, ki_list_bool, ki_tuple_bool, zMakeV, tRz, zNever]
    refine ⟨by show 2 ≤ sizeLine; decide, fun p hp => ⟨by show 2 ≤ sizeLine; decide, fun p' hp' => ?_⟩⟩
    have h1 : (upd (upd H1 p (.lst [.int 2, .int 4])) p' (.lst [.int 2, .int 4])) p = some (.lst [.int 2, .int 4]) := by rw [upd_ne (ne_of_none upd_same hp'), upd_same]
    refine eq_same (d := .list [.int 2, .int 4]) (Dp.lst (SqL.of h1) (.cons (.int _) (.cons (.int _) .nil))) (Dp.lst (SqL.of upd_same) (.cons (.int _) (.cons (.int _) .nil))) (by decide +kernel) (k _)

theorem fnF_is_integer {P : Program} {w : World} {K : PySem.W.Frag} {mg : Str → Option Value} {base : Heap} (T : Top K mg) {fd : FuncData} (F : FunD K "is_integer" "is_integer" (defArgs st_is_integer) (defBody st_is_integer) (defScope st_is_integer) [] [] (He.ga K "is_integer") fd) : FnOk P w K mg base C8.CX0 1 (He.ga K "is_integer") fd ["thing"] (sp_is_integer K) := by
  refine Hk.fn_ok (k := 0) F sc_is_integer (ln_sp_is_integer (K := K)) (t := t_is_integer K) (fun cdv A outer s H E hr => ?_) (rd_is_integer T)
  exact (pss_one (ps_ret (e_and (pe_callB c_isi (by rfl) T.f_isinstance (by decide +kernel) (pa_cons (pz 0) (pa_cons (pe_ty (by rfl) T.f_int (by decide +kernel)) pa_nil))) (pe_one (e_not (pe_callB c_isi (by rfl) T.f_isinstance (by decide +kernel) (pa_cons (pz 0) (pa_cons (pe_ty (by rfl) T.f_bool (by decide +kernel)) pa_nil))))))))
theorem fn_is_integer {P : Program} {w : World} {K : PySem.W.Frag} {mg : Str → Option Value} {base : Heap} (T : Top K mg) : ∃ fd, FnOk P w K mg base C8.CX0 1 (He.ga K "is_integer") fd ["thing"] (sp_is_integer K) ∧ PySem.W.keepIn K (.ref (He.ga K "is_integer")) = true ∧ Binds K fd ["thing"] [] := by
  obtain ⟨fd, F⟩ := T.d_is_integer
  exact ⟨fd, fnF_is_integer T F, F.kp, F.bindsN (fun _ _ _ _ _ _ us hl => match us, hl with | [_], _ => rfl)⟩
theorem ok_is_integer {P : Program} {w : World} {K : PySem.W.Frag} {mg : Str → Option Value} {base : Heap} (T : Top K mg) : C8.Cal P w K mg base 1 "is_integer" (sp_is_integer K) [] := by
  obtain ⟨fd, F, kp, b⟩ := fn_is_integer (P := P) (w := w) (base := base) T
  exact ⟨_, fd, _, [], F, T.g_is_integer, kp, b, .nil⟩
theorem fnF_is_from_to {P : Program} {w : World} {K : PySem.W.Frag} {mg : Str → Option Value} {base : Heap} (T : Top K mg) {fd : FuncData} (F : FunD K "is_from_to" "is_from_to" (defArgs st_is_from_to) (defBody st_is_from_to) (defScope st_is_from_to) [] [] (He.ga K "is_from_to") fd) : FnOk P w K mg base C8.CX0 2 (He.ga K "is_from_to") fd ["thing", "least", "most"] (sp_is_from_to K) := by
  refine Hk.fn_ok (k := 1) F sc_is_from_to (ln_sp_is_from_to (K := K)) (t := t_is_from_to K) (fun cdv A outer s H E hr => ?_) (rd_is_from_to T)
  exact (pss_one (ps_ret (e_and (C8.pe_c (ok_is_integer T) hr (by decide) (by rfl) (pa_cons (pz 0) pa_nil)) (pe_one (e_chain o_le o_le (pz 1) (pz 0) (pz 2))))))
theorem fn_is_from_to {P : Program} {w : World} {K : PySem.W.Frag} {mg : Str → Option Value} {base : Heap} (T : Top K mg) : ∃ fd, FnOk P w K mg base C8.CX0 2 (He.ga K "is_from_to") fd ["thing", "least", "most"] (sp_is_from_to K) ∧ PySem.W.keepIn K (.ref (He.ga K "is_from_to")) = true ∧ Binds K fd ["thing", "least", "most"] [] := by
  obtain ⟨fd, F⟩ := T.d_is_from_to
  exact ⟨fd, fnF_is_from_to T F, F.kp, F.bindsN (fun _ _ _ _ _ _ us hl => match us, hl with | [_, _, _], _ => rfl)⟩
theorem ok_is_from_to {P : Program} {w : World} {K : PySem.W.Frag} {mg : Str → Option Value} {base : Heap} (T : Top K mg) : C8.Cal P w K mg base 2 "is_from_to" (sp_is_from_to K) [] := by
  obtain ⟨fd, F, kp, b⟩ := fn_is_from_to (P := P) (w := w) (base := base) T
  exact ⟨_, fd, _, [], F, T.g_is_from_to, kp, b, .nil⟩
theorem fnF_Run___init__ {P : Program} {w : World} {K : PySem.W.Frag} {mg : Str → Option Value} {base : Heap} (T : Top K mg) {fd : FuncData} (F : FunD K "__init__" "Run.__init__" (defArgs st_Run___init__) (defBody st_Run___init__) (defScope st_Run___init__) [] [] (He.ma K (He.ga K "Run") "__init__") fd) : FnOk P w K mg base (L2.CX P w) 3 (He.ma K (He.ga K "Run") "__init__") fd ["self", "first", "many"] (sp_Run___init__ K) := by
  refine fn_okX (k := 2) F sc_Run___init__ (ln_sp_Run___init__ (K := K)) (t := t_Run___init__ K) (fun cdv A outer s H E hr tk po => ?_) (rd_Run___init__ T)
  exact (pss_cons (ps_if (PW.pt (pw_or (pt_not (t_val (C8.pe_c (ok_is_from_to T) hr (by decide) (by rfl) (pa_cons (pz 1) (pa_cons pe_int (pa_cons (C8.pe_gc (by rfl) T.g_MOST) pa_nil)))))) (pw_or1 (pt_not (t_val (C8.pe_c (ok_is_from_to T) hr (by decide) (by rfl) (pa_cons (pz 2) (pa_cons pe_int (pa_cons (C8.pe_gc (by rfl) T.g_MOST) pa_nil))))))))) (pss_one (s_raise rfl tk T.x_BadRun T.m_BadRun (by rfl))) pss_nil) (pss_cons (s_fld (pz 0) (pz 1) rfl) (pss_one (s_fld (pz 0) (pz 2) rfl))))
theorem fn_Run___init__ {P : Program} {w : World} {K : PySem.W.Frag} {mg : Str → Option Value} {base : Heap} (T : Top K mg) : ∃ fd, FnOk P w K mg base (L2.CX P w) 3 (He.ma K (He.ga K "Run") "__init__") fd ["self", "first", "many"] (sp_Run___init__ K) ∧ PySem.W.keepIn K (.ref (He.ma K (He.ga K "Run") "__init__")) = true ∧ Binds K fd ["self", "first", "many"] [] := by
  obtain ⟨fd, F⟩ := T.d_Run___init__
  exact ⟨fd, fnF_Run___init__ T F, F.kp, F.bindsN (fun _ _ _ _ _ _ us hl => match us, hl with | [_, _, _], _ => rfl)⟩
theorem mkx_Run {P : Program} {w : World} {K : PySem.W.Frag} {mg : Str → Option Value} {base : Heap} (T : Top K mg) : MakX P w K mg base 3 "Run" (He.ga K "Run") (sp_Run___init__ K) := by
  obtain ⟨fd, F, kp, b⟩ := fn_Run___init__ (P := P) (w := w) (base := base) T
  exact ⟨_, fd, _, T.mk_Run, F, T.m_Run, b⟩
theorem fnF_Run_end {P : Program} {w : World} {K : PySem.W.Frag} {mg : Str → Option Value} {base : Heap} (T : Top K mg) {fd : FuncData} (F : FunD K "end" "Run.end" (defArgs st_Run_end) (defBody st_Run_end) (defScope st_Run_end) [] [] (Hk.prG "Run" "end" K) fd) : FnOk P w K mg base C8.CX0 1 (Hk.prG "Run" "end" K) fd ["self"] (sp_Run_end K) := by
  refine Hk.fn_ok (k := 0) F sc_Run_end (ln_sp_Run_end (K := K)) (t := t_Run_end K) (fun cdv A outer s H E hr => ?_) (rd_Run_end T)
  exact (pss_one (ps_ret (pe_op o_add (e_fld (pz 0) rfl) (e_fld (pz 0) rfl))))
theorem fn_Run_end {P : Program} {w : World} {K : PySem.W.Frag} {mg : Str → Option Value} {base : Heap} (T : Top K mg) : ∃ fd, FnOk P w K mg base C8.CX0 1 (Hk.prG "Run" "end" K) fd ["self"] (sp_Run_end K) ∧ PySem.W.keepIn K (.ref (Hk.prG "Run" "end" K)) = true ∧ Binds K fd ["self"] [] := by
  obtain ⟨fd, F⟩ := T.d_Run_end
  exact ⟨fd, fnF_Run_end T F, F.kp, F.bindsN (fun _ _ _ _ _ _ us hl => match us, hl with | [_], _ => rfl)⟩
theorem fnF_Run_between {P : Program} {w : World} {K : PySem.W.Frag} {mg : Str → Option Value} {base : Heap} (T : Top K mg) {fd : FuncData} (F : FunD K "between" "Run.between" (defArgs st_Run_between) (defBody st_Run_between) (defScope st_Run_between) [] [] (Hk.cmG "Run" "between" K) fd) : FnOk P w K mg base (L2.CX P w) 5 (Hk.cmG "Run" "between" K) fd ["cls", "first", "end"] (sp_Run_between K) := by
  refine fn_okX (k := 4) F sc_Run_between (ln_sp_Run_between (K := K)) (t := t_Run_between K) (fun cdv A outer s H E hr tk po => ?_) (rd_Run_between T)
  exact (pss_cons (ps_if (PW.pt (pw_or (pt_not (t_val (C8.pe_c (ok_is_integer T) hr (by decide) (by rfl) (pa_cons (pz 1) pa_nil)))) (pw_or1 (pt_not (t_val (C8.pe_c (ok_is_integer T) hr (by decide) (by rfl) (pa_cons (pz 2) pa_nil))))))) (pss_one (s_raise rfl tk T.x_BadRun T.m_BadRun (by rfl))) pss_nil) (pss_one (ps_ret (e_mkV (mkx_Run T) hr (by decide) (passes_call tk (fun _ _ _ _ h => h)) rfl (Or.inl rfl) (pa_cons (pz 1) (pa_cons (pe_op o_sub (pz 2) (pz 1)) pa_nil))))))
theorem fn_Run_between {P : Program} {w : World} {K : PySem.W.Frag} {mg : Str → Option Value} {base : Heap} (T : Top K mg) : ∃ fd, FnOk P w K mg base (L2.CX P w) 5 (Hk.cmG "Run" "between" K) fd ["cls", "first", "end"] (sp_Run_between K) ∧ PySem.W.keepIn K (.ref (Hk.cmG "Run" "between" K)) = true ∧ Binds K fd ["cls", "first", "end"] [] := by
  obtain ⟨fd, F⟩ := T.d_Run_between
  exact ⟨fd, fnF_Run_between T F, F.kp, F.bindsN (fun _ _ _ _ _ _ us hl => match us, hl with | [_, _, _], _ => rfl)⟩
theorem fnF_L_bag {P : Program} {w : World} {K : PySem.W.Frag} {mg : Str → Option Value} {base : Heap} (T : Top K mg) {fd : FuncData} (F : FunD K "_law_bag" "_law_bag" (defArgs st_L_bag) (defBody st_L_bag) (defScope st_L_bag) [] [] (He.ga K "_law_bag") fd) : FnOk P w K mg base C8.CX0 1 (He.ga K "_law_bag") fd ["_law_script", "_law_at"] (sp_L_bag K) := by
  refine Hk.fn_ok (k := 0) F sc_L_bag (ln_sp_L_bag (K := K)) (t := t_L_bag K) (fun cdv A outer s H E hr => ?_) (rd_L_bag T)
  exact (pss_cons (ps_set (i := 2) sc_L_bag.nd rfl (Or.inl rfl) (pe_ifExp (t_cmp o_lt (pz 1) (pe_callB c_lenS (by rfl) T.f_len (by decide +kernel) (pa_cons (pz 0) pa_nil)) (nomark _)) (pe_ix ix_list (pz 0) (pz 1) (fun _ _ => rfl)) pe_int)) (pss_cons (ps_set (i := 3) sc_L_bag.nd rfl (Or.inl rfl) (pe_ifExp (t_cmp o_ge (pe_callB c_abs (by rfl) T.f_abs (by decide +kernel) (pa_cons (pz 2) pa_nil)) (pe_op o_pow pe_int pe_int) (nomark _)) (pe_callB c_abs (by rfl) T.f_abs (by decide +kernel) (pa_cons (pz 2) pa_nil)) pe_int)) (pss_one (ps_ret (pe_lst (pa_cons (pz 3) (pa_cons (pe_op o_add (pe_op o_add (pe_op o_mul (pe_op o_mod (pz 2) (pe_op o_add (pe_op o_pow pe_int pe_int) pe_int)) pe_int) (pe_op o_mul pe_int (pz 1))) pe_int) (pa_cons pe_int pa_nil))))))))
theorem fn_L_bag {P : Program} {w : World} {K : PySem.W.Frag} {mg : Str → Option Value} {base : Heap} (T : Top K mg) : ∃ fd, FnOk P w K mg base C8.CX0 1 (He.ga K "_law_bag") fd ["_law_script", "_law_at"] (sp_L_bag K) ∧ PySem.W.keepIn K (.ref (He.ga K "_law_bag")) = true ∧ Binds K fd ["_law_script", "_law_at"] [] := by
  obtain ⟨fd, F⟩ := T.d_L_bag
  exact ⟨fd, fnF_L_bag T F, F.kp, F.bindsN (fun _ _ _ _ _ _ us hl => match us, hl with | [_, _], _ => rfl)⟩
theorem ok_L_bag {P : Program} {w : World} {K : PySem.W.Frag} {mg : Str → Option Value} {base : Heap} (T : Top K mg) : C8.Cal P w K mg base 1 "_law_bag" (sp_L_bag K) [] := by
  obtain ⟨fd, F, kp, b⟩ := fn_L_bag (P := P) (w := w) (base := base) T
  exact ⟨_, fd, _, [], F, T.g_L_bag, kp, b, .nil⟩
theorem fnF_L_take {P : Program} {w : World} {K : PySem.W.Frag} {mg : Str → Option Value} {base : Heap} (T : Top K mg) {fd : FuncData} (F : FunD K "_law_take" "_law_take" (defArgs st_L_take) (defBody st_L_take) (defScope st_L_take) [] [] (He.ga K "_law_take") fd) : FnOk P w K mg base C8.CX0 1 (He.ga K "_law_take") fd ["_law_bag_here", "_law_size"] (sp_L_take K) := by
  refine Hk.fn_ok (k := 0) F sc_L_take (ln_sp_L_take (K := K)) (t := t_L_take K) (fun cdv A outer s H E hr => ?_) (rd_L_take T)
  exact (pss_cons (ps_if (t_cmp o_gt (e_ix (hu_of hr) (pz 0) pe_int (fun _ _ => rfl)) pe_int (nomark _)) (pss_cons (ps_set (i := 3) sc_L_take.nd rfl (Or.inl rfl) (pe_op o_mod (e_ix (hu_of hr) (pz 0) pe_int (fun _ _ => rfl)) (pz 1))) (pss_cons (ps_asg (pe_op o_div (e_ix (hu_of hr) (pz 0) pe_int (fun _ _ => rfl)) (pz 1)) (pg_sub (pz 0) pe_int (set_any (hu_of hr)))) (pss_one (ps_ret (pz 3))))) pss_nil) (pss_cons (ps_asg (pe_op o_add (e_ix (hu_of hr) (pz 0) pe_int (fun _ _ => rfl)) pe_int) (pg_sub (pz 0) pe_int (set_any (hu_of hr)))) (pss_cons (ps_set (i := 2) sc_L_take.nd rfl (Or.inl rfl) (pe_op o_mod (pe_op o_pow (pe_op o_add (e_ix (hu_of hr) (pz 0) pe_int (fun _ _ => rfl)) (pe_op o_mul (pe_op o_mul pe_int (e_ix (hu_of hr) (pz 0) pe_int (fun _ _ => rfl))) (e_ix (hu_of hr) (pz 0) pe_int (fun _ _ => rfl)))) pe_int) pe_int)) (pss_one (ps_ret (pe_op o_mod (pe_op o_div (pe_op o_mod (pe_op o_mul (pz 2) (pe_op o_add (pe_op o_div (pz 2) pe_int) (pe_op o_mul pe_int (e_ix (hu_of hr) (pz 0) pe_int (fun _ _ => rfl))))) pe_int) pe_int) (pz 1)))))))
theorem fn_L_take {P : Program} {w : World} {K : PySem.W.Frag} {mg : Str → Option Value} {base : Heap} (T : Top K mg) : ∃ fd, FnOk P w K mg base C8.CX0 1 (He.ga K "_law_take") fd ["_law_bag_here", "_law_size"] (sp_L_take K) ∧ PySem.W.keepIn K (.ref (He.ga K "_law_take")) = true ∧ Binds K fd ["_law_bag_here", "_law_size"] [] := by
  obtain ⟨fd, F⟩ := T.d_L_take
  exact ⟨fd, fnF_L_take T F, F.kp, F.bindsN (fun _ _ _ _ _ _ us hl => match us, hl with | [_, _], _ => rfl)⟩
theorem ok_L_take {P : Program} {w : World} {K : PySem.W.Frag} {mg : Str → Option Value} {base : Heap} (T : Top K mg) : C8.Cal P w K mg base 1 "_law_take" (sp_L_take K) [] := by
  obtain ⟨fd, F, kp, b⟩ := fn_L_take (P := P) (w := w) (base := base) T
  exact ⟨_, fd, _, [], F, T.g_L_take, kp, b, .nil⟩
theorem fnF_L_value {P : Program} {w : World} {K : PySem.W.Frag} {mg : Str → Option Value} {base : Heap} (T : Top K mg) {fd : FuncData} (F : FunD K "_law_value" "_law_value" (defArgs st_L_value) (defBody st_L_value) (defScope st_L_value) [] [] (He.ga K "_law_value") fd) : FnOk P w K mg base C8.CX0 5 (He.ga K "_law_value") fd ["_law_bag_here"] (sp_L_value K) := by
  refine Hk.fn_ok (k := 4) F sc_L_value (ln_sp_L_value (K := K)) (t := t_L_value K) (fun cdv A outer s H E hr => ?_) (rd_L_value T)
  exact (pss_cons (ps_set (i := 1) sc_L_value.nd rfl (Or.inl rfl) (pe_op o_pow pe_int pe_int)) (pss_cons (ps_set (i := 2) sc_L_value.nd rfl (Or.inl rfl) (pe_lst (pa_cons pe_int (pa_cons pe_int (pa_cons pe_int (pa_cons pe_int (pa_cons (pe_op o_sub (pz 1) pe_int) (pa_cons (pz 1) (pa_cons (pe_op o_add (pz 1) pe_int) (pa_cons (pe_un u_neg pe_int) (pa_cons (pe_un u_neg (pz 1)) (pa_cons (pe_op o_sub (pe_op o_pow pe_int pe_int) pe_int) (pa_cons (C8.pe_c (ok_L_take T) hr (by decide) (by rfl) (pa_cons (pz 0) (pa_cons pe_int pa_nil))) (pa_cons (C8.pe_c (ok_L_take T) hr (by decide) (by rfl) (pa_cons (pz 0) (pa_cons pe_int pa_nil))) pa_nil)))))))))))))) (pss_cons (ps_set (i := 3) sc_L_value.nd rfl (Or.inl rfl) (pe_lst (pa_cons pe_bl (pa_cons pe_bl (pa_cons pe_non (pa_cons pe_str (pa_cons pe_str (pa_cons (pe_lst (pa_cons pe_int pa_nil)) (pa_cons (pe_tup (pa_cons pe_int pa_nil)) (pa_cons (pe_tup pa_nil) (pa_cons (pe_lst pa_nil) (pa_cons (pe_lst (pa_cons pe_bl pa_nil)) (pa_cons (e_mkX (mkx_Run T) hr (by decide) (by rfl) passL (pa_cons pe_int (pa_cons pe_int pa_nil))) (pa_cons (e_mkX (mkx_Run T) hr (by decide) (by rfl) passL (pa_cons pe_int (pa_cons pe_int pa_nil))) pa_nil)))))))))))))) (pss_one (ps_ret (pe_ifExp (t_cmp o_gt (C8.pe_c (ok_L_take T) hr (by decide) (by rfl) (pa_cons (pz 0) (pa_cons pe_int pa_nil))) pe_int (nomark _)) (e_ix (hu_of hr) (pz 2) (C8.pe_c (ok_L_take T) hr (by decide) (by rfl) (pa_cons (pz 0) (pa_cons pe_int pa_nil))) (fun _ _ => rfl)) (e_ix (hu_of hr) (pz 3) (C8.pe_c (ok_L_take T) hr (by decide) (by rfl) (pa_cons (pz 0) (pa_cons pe_int pa_nil))) (fun _ _ => rfl))))))))
theorem fn_L_value {P : Program} {w : World} {K : PySem.W.Frag} {mg : Str → Option Value} {base : Heap} (T : Top K mg) : ∃ fd, FnOk P w K mg base C8.CX0 5 (He.ga K "_law_value") fd ["_law_bag_here"] (sp_L_value K) ∧ PySem.W.keepIn K (.ref (He.ga K "_law_value")) = true ∧ Binds K fd ["_law_bag_here"] [] := by
  obtain ⟨fd, F⟩ := T.d_L_value
  exact ⟨fd, fnF_L_value T F, F.kp, F.bindsN (fun _ _ _ _ _ _ us hl => match us, hl with | [_], _ => rfl)⟩
theorem ok_L_value {P : Program} {w : World} {K : PySem.W.Frag} {mg : Str → Option Value} {base : Heap} (T : Top K mg) : C8.Cal P w K mg base 5 "_law_value" (sp_L_value K) [] := by
  obtain ⟨fd, F, kp, b⟩ := fn_L_value (P := P) (w := w) (base := base) T
  exact ⟨_, fd, _, [], F, T.g_L_value, kp, b, .nil⟩
theorem fnF_L_is_whole {P : Program} {w : World} {K : PySem.W.Frag} {mg : Str → Option Value} {base : Heap} (T : Top K mg) {fd : FuncData} (F : FunD K "_law_is_whole" "_law_is_whole" (defArgs st_L_is_whole) (defBody st_L_is_whole) (defScope st_L_is_whole) [] [] (He.ga K "_law_is_whole") fd) : FnOk P w K mg base C8.CX0 1 (He.ga K "_law_is_whole") fd ["_law_thing"] (sp_L_is_whole K) := by
  refine Hk.fn_ok (k := 0) F sc_L_is_whole (ln_sp_L_is_whole (K := K)) (t := t_L_is_whole K) (fun cdv A outer s H E hr => ?_) (rd_L_is_whole T)
  exact (pss_one (ps_ret (e_and (pe_callB c_isi (by rfl) T.f_isinstance (by decide +kernel) (pa_cons (pz 0) (pa_cons (pe_ty (by rfl) T.f_int (by decide +kernel)) pa_nil))) (pe_one (e_not (pe_callB c_isi (by rfl) T.f_isinstance (by decide +kernel) (pa_cons (pz 0) (pa_cons (pe_ty (by rfl) T.f_bool (by decide +kernel)) pa_nil))))))))
theorem fn_L_is_whole {P : Program} {w : World} {K : PySem.W.Frag} {mg : Str → Option Value} {base : Heap} (T : Top K mg) : ∃ fd, FnOk P w K mg base C8.CX0 1 (He.ga K "_law_is_whole") fd ["_law_thing"] (sp_L_is_whole K) ∧ PySem.W.keepIn K (.ref (He.ga K "_law_is_whole")) = true ∧ Binds K fd ["_law_thing"] [] := by
  obtain ⟨fd, F⟩ := T.d_L_is_whole
  exact ⟨fd, fnF_L_is_whole T F, F.kp, F.bindsN (fun _ _ _ _ _ _ us hl => match us, hl with | [_], _ => rfl)⟩
theorem ok_L_is_whole {P : Program} {w : World} {K : PySem.W.Frag} {mg : Str → Option Value} {base : Heap} (T : Top K mg) : C8.Cal P w K mg base 1 "_law_is_whole" (sp_L_is_whole K) [] := by
  obtain ⟨fd, F, kp, b⟩ := fn_L_is_whole (P := P) (w := w) (base := base) T
  exact ⟨_, fd, _, [], F, T.g_L_is_whole, kp, b, .nil⟩
theorem fnF_L_due {P : Program} {w : World} {K : PySem.W.Frag} {mg : Str → Option Value} {base : Heap} (T : Top K mg) {fd : FuncData} (F : FunD K "_law_due" "_law_due" (defArgs st_L_due) (defBody st_L_due) (defScope st_L_due) [] [] (He.ga K "_law_due") fd) : FnOk P w K mg base C8.CX0 2 (He.ga K "_law_due") fd ["_law_begin", "_law_size"] (sp_L_due K) := by
  refine Hk.fn_ok (k := 1) F sc_L_due (ln_sp_L_due (K := K)) (t := t_L_due K) (fun cdv A outer s H E hr => ?_) (rd_L_due T)
  exact (pss_cons (ps_if (PW.pt (pw_or (pt_not (t_val (C8.pe_c (ok_L_is_whole T) hr (by decide) (by rfl) (pa_cons (pz 0) pa_nil)))) (pw_or1 (pt_not (t_val (C8.pe_c (ok_L_is_whole T) hr (by decide) (by rfl) (pa_cons (pz 1) pa_nil))))))) (pss_one (ps_ret pe_str)) pss_nil) (pss_cons (ps_if (PW.pt (pw_or (pt_not (t_chain o_le o_le pe_int (pz 0) (pe_op o_pow pe_int pe_int))) (pw_or1 (pt_not (t_chain o_le o_le pe_int (pz 1) (pe_op o_pow pe_int pe_int)))))) (pss_one (ps_ret pe_str)) pss_nil) (pss_one (ps_ret (pe_lst (pa_cons (pz 0) (pa_cons (pz 1) (pa_cons (pe_op o_add (pz 0) (pz 1)) pa_nil))))))))
theorem fn_L_due {P : Program} {w : World} {K : PySem.W.Frag} {mg : Str → Option Value} {base : Heap} (T : Top K mg) : ∃ fd, FnOk P w K mg base C8.CX0 2 (He.ga K "_law_due") fd ["_law_begin", "_law_size"] (sp_L_due K) ∧ PySem.W.keepIn K (.ref (He.ga K "_law_due")) = true ∧ Binds K fd ["_law_begin", "_law_size"] [] := by
  obtain ⟨fd, F⟩ := T.d_L_due
  exact ⟨fd, fnF_L_due T F, F.kp, F.bindsN (fun _ _ _ _ _ _ us hl => match us, hl with | [_, _], _ => rfl)⟩
theorem ok_L_due {P : Program} {w : World} {K : PySem.W.Frag} {mg : Str → Option Value} {base : Heap} (T : Top K mg) : C8.Cal P w K mg base 2 "_law_due" (sp_L_due K) [] := by
  obtain ⟨fd, F, kp, b⟩ := fn_L_due (P := P) (w := w) (base := base) T
  exact ⟨_, fd, _, [], F, T.g_L_due, kp, b, .nil⟩
/-! ### told, and the lambdas -/
abbrev LX (P : Program) (w : World) (K : PySem.W.Frag) (mg : Str → Option Value) (base : Heap) (A : Around) (outer : List Env) (s : Shared) (H : Hp) (E : XK) : Cx := (cxOf C8.CX0 P w K mg base nm_law "law" (defScope st_law) (He.ga K "law") (.ref (He.cT K ("law", none)).1) A outer s H E).nox
theorem takes_len {X : Cx} {W : WX} (tk : Takes X W) : Takes X (fun cls d σ H => σ.length = X.N.length → W cls d σ H) := fun u s' ⟨a, B, sI, pins, σ, H, cls, d, e, I, nb, up, sky, na, os, ag, wq⟩ =>
  tk u s' ⟨a, B, sI, pins, σ, H, cls, d, e, I, nb, up, sky, na, os, ag, wq I.len⟩
def tSuite (K : PySem.W.Frag) (a : Addr) (cls : Value) (d : Option Addr) : TS := fun D σ H => (cls = .ref (He.ga K "BadRun") ∧ d = none) ∧
  tRet (tIf (tAnd (zB (tCB (rIsE K (He.ga K "BadRun") a) (tCons (zV 1) (tCons (tC (.ref (He.ga K "WindowError"))) tNil)))) (zB (tCB (rIsE K (He.ga K "BadRun") a) (tCons (zV 1) (tCons (tC (.ty "ValueError")) tNil))))) (tC (.str "refused")) (tC (.str "another error"))) D σ H
section
variable {P : Program} {w : World} {K : PySem.W.Frag} {mg : Str → Option Value} {base : Heap} {A : Around} {outer : List Env} {s : Shared} {H : Hp} {E : XK}
theorem told_gives (T : Top K mg) {cdv : Value} {X : Cx} {q : Str} {j : Nat} (hX : X.K = K ∧ X.mg = mg) (hr : ∀ s : Shared, Room (j + 3) (X.A.deeper (envOfC "_law_told" (defScope st_L_told) s.heap.objs.size (He.ga K "_law_told") cdv))) :
    LamX.GivesTo X nm_L_told "_law_told" (defScope st_L_told) (He.ga K "_law_told") cdv (defBody st_L_told) "_law_call" q (TTold K) := by
  obtain ⟨rfl, rfl⟩ := hX
  intro f c' s H Q tl act hc h
  refine ⟨_, pss_cons (ps_try_as (X := (cxOf C8.CX0 X.prog X.w X.K X.mg X.base nm_L_told "_law_told" (defScope st_L_told) (He.ga X.K "_law_told") cdv X.A X.stack s H C8.E0).nox) (i := 1) (c := .ref (He.ga X.K "BadRun")) (Wout := fun _ _ _ _ => False) (ts := tSuite X.K)
      (tb := fun W D σ H => ∃ Ech : XK, (∀ cls d σ' H', Ech cls d H' → σ'.length = 3 → W cls d σ' H') ∧ ∃ Q0 : VK, (∀ v H', Q0 v H' → D.nx (σ.set 2 (some v)) H') ∧ σ[0]? = some (some (.ref f)) ∧ H c' = some (LamX.CodeO c' q) ∧ tl Ech H Q0)
      rfl rfl sc_L_told.nd rfl rfl ⟨rfl, by decide, .inl T.m_BadRun⟩ takes0 (fun W pn xe tk _ => ?_) (fun a oe cls d pn hz hf => ?_))
    (pss_one (ps_ret (pe_lst (pa_cons (e_fld (pz 2) rfl) (pa_cons (e_fld (pz 2) rfl) (pa_cons (e_propC (E := C8.E0) (pz 2) T.cl_Run T.pr_Run_end (fn_Run_end T) (hr s) (by omega)) pa_nil)))))), ?_⟩
  · refine ⟨fun pins s' σ H' D I h' => ?_⟩
    obtain ⟨Ech, hW, h1⟩ := h'
    have hp := fun p1 p2 => act (fun cls d σ H => σ.length = nm_L_told.length → W cls d σ H) pn xe Ech p1 p2 (takes_len tk) (fun cls d σ' H' e => hW cls d σ' H' e)
    exact (pss_one (ps_set (i := 2) sc_L_told.nd rfl (Or.inl rfl) (pe_up (hp _ _)))).run pins s' σ H' D I h1
  · refine ⟨fun pins s' σ H' D I h' => ?_⟩
    obtain ⟨⟨e1, e2⟩, h'⟩ := h'
    subst e1 e2
    exact (pss_one (ps_ret (pe_ifExp (PW.pt (pw_and (t_val (pe_callB (call_isE (X := (cxOf C8.CX0 X.prog X.w X.K X.mg X.base nm_L_told "_law_told" (defScope st_L_told) (He.ga X.K "_law_told") cdv X.A X.stack s H C8.E0).nox) (pn := pn) T.c_BadRun hz hf) (by rfl) T.f_isinstance (by decide +kernel) (pa_cons (pz 1) (pa_cons (C8.pe_gc (v := .ref (He.ga X.K "WindowError")) (by rfl) ⟨_, T.m_WindowError, rfl⟩) pa_nil))))
      (pw_and1 (t_val (pe_callB (call_isE (X := (cxOf C8.CX0 X.prog X.w X.K X.mg X.base nm_L_told "_law_told" (defScope st_L_told) (He.ga X.K "_law_told") cdv X.A X.stack s H C8.E0).nox) (pn := pn) T.c_BadRun hz hf) (by rfl) T.f_isinstance (by decide +kernel) (pa_cons (pz 1) (pa_cons (pe_ty (by rfl) T.f_ValueError (by decide +kernel)) pa_nil))))))) pe_str pe_str))).run pins s' σ H' D I h'
  · refine ⟨_, fun cls d σ' H' e hl => ?_, _, fun v H' e => ?_, rfl, hc, h⟩
    · obtain ⟨rfl, rfl, e⟩ := e
      refine ⟨true, T.e_BadRun_BadRun, fun _ a ha => ⟨⟨rfl, rfl⟩, ?_⟩, fun z => by cases z⟩
      match σ', hl with
      | [x0, x1, x2], _ =>
        simp only [tSeq, tAsg, tIfS, tRet, tRetN, tDrop, tNext, tPar, tPar3, gName, gSub, gTup, gCons, gNil, zV, tC, tOp, tUn, tCons, tNil, tLst, tTup, tIf, tAnd, tOr, tNot, tYes, zB, zAnd, zOr, zNot, zChain, tDNewK, yAdd, ySub, yMul, yDiv, yMod, yPow, yNeg, yLt, yLe, yGt, yGe, yEq, yNe, yIs0, yNotIs0, yIx, ySet, yIn, sqAt, isNone, zFld, zSetF, insAt, zMeth, zProp, tCall, tMake, tCB, yLen, yAbs, yMax2, yMin2, yList, yTuple, yDict0, zLM, yApp, isLst, dkAt, keyOf, zGet1, zGet2, zPop1, zPop2, zForR1, zForR2, zForL, zForT, Z.intAt, refAt, zLc, iR1, iR2, iL, iT, wipe, List.getElem?_cons_zero, List.getElem?_cons_succ, List.set_cons_zero, List.set_cons_succ, List.cons_append, List.nil_append, List.append_nil, upd_same, at0, at1, at2, ix0, ix1, ix2, upd_upd, ite_true, ite_false, if_true, if_false, Bool.false_eq_true, decide_true, decide_false, reduceIte, true_and, and_true, Option.isSome_none, Option.isSome_some, Bool.not_false, Bool.not_true, rIsE]
        refine ⟨_, _, true, rfl, fun u hu => hu, T.ki_BadRun_WindowError, ?_⟩
        simp only [tSeq, tAsg, tIfS, tRet, tRetN, tDrop, tNext, tPar, tPar3, gName, gSub, gTup, gCons, gNil, zV, tC, tOp, tUn, tCons, tNil, tLst, tTup, tIf, tAnd, tOr, tNot, tYes, zB, zAnd, zOr, zNot, zChain, tDNewK, yAdd, ySub, yMul, yDiv, yMod, yPow, yNeg, yLt, yLe, yGt, yGe, yEq, yNe, yIs0, yNotIs0, yIx, ySet, yIn, sqAt, isNone, zFld, zSetF, insAt, zMeth, zProp, tCall, tMake, tCB, yLen, yAbs, yMax2, yMin2, yList, yTuple, yDict0, zLM, yApp, isLst, dkAt, keyOf, zGet1, zGet2, zPop1, zPop2, zForR1, zForR2, zForL, zForT, Z.intAt, refAt, zLc, iR1, iR2, iL, iT, wipe, List.getElem?_cons_zero, List.getElem?_cons_succ, List.set_cons_zero, List.set_cons_succ, List.cons_append, List.nil_append, List.append_nil, upd_same, at0, at1, at2, ix0, ix1, ix2, upd_upd, ite_true, ite_false, if_true, if_false, Bool.false_eq_true, decide_true, decide_false, reduceIte, true_and, and_true, Option.isSome_none, Option.isSome_some, Bool.not_false, Bool.not_true]
        refine ⟨_, _, true, rfl, fun u hu => hu, T.ki_BadRun_ValueError, ?_⟩
        simp only [tSeq, tAsg, tIfS, tRet, tRetN, tDrop, tNext, tPar, tPar3, gName, gSub, gTup, gCons, gNil, zV, tC, tOp, tUn, tCons, tNil, tLst, tTup, tIf, tAnd, tOr, tNot, tYes, zB, zAnd, zOr, zNot, zChain, tDNewK, yAdd, ySub, yMul, yDiv, yMod, yPow, yNeg, yLt, yLe, yGt, yGe, yEq, yNe, yIs0, yNotIs0, yIx, ySet, yIn, sqAt, isNone, zFld, zSetF, insAt, zMeth, zProp, tCall, tMake, tCB, yLen, yAbs, yMax2, yMin2, yList, yTuple, yDict0, zLM, yApp, isLst, dkAt, keyOf, zGet1, zGet2, zPop1, zPop2, zForR1, zForR2, zForL, zForT, Z.intAt, refAt, zLc, iR1, iR2, iL, iT, wipe, List.getElem?_cons_zero, List.getElem?_cons_succ, List.set_cons_zero, List.set_cons_succ, List.cons_append, List.nil_append, List.append_nil, upd_same, at0, at1, at2, ix0, ix1, ix2, upd_upd, ite_true, ite_false, if_true, if_false, Bool.false_eq_true, decide_true, decide_false, reduceIte, true_and, and_true, Option.isSome_none, Option.isSome_some, Bool.not_false, Bool.not_true]
        exact e
    · obtain ⟨a, dx, f', m, rfl, ha, e⟩ := e
      have ha' := ha
      rw [start_L_told]
      simp only [tSeq, tAsg, tIfS, tRet, tRetN, tDrop, tNext, tPar, tPar3, gName, gSub, gTup, gCons, gNil, zV, tC, tOp, tUn, tCons, tNil, tLst, tTup, tIf, tAnd, tOr, tNot, tYes, zB, zAnd, zOr, zNot, zChain, tDNewK, yAdd, ySub, yMul, yDiv, yMod, yPow, yNeg, yLt, yLe, yGt, yGe, yEq, yNe, yIs0, yNotIs0, yIx, ySet, yIn, sqAt, isNone, zFld, zSetF, insAt, zMeth, zProp, tCall, tMake, tCB, yLen, yAbs, yMax2, yMin2, yList, yTuple, yDict0, zLM, yApp, isLst, dkAt, keyOf, zGet1, zGet2, zPop1, zPop2, zForR1, zForR2, zForL, zForT, Z.intAt, refAt, zLc, iR1, iR2, iL, iT, wipe, List.getElem?_cons_zero, List.getElem?_cons_succ, List.set_cons_zero, List.set_cons_succ, List.cons_append, List.nil_append, List.append_nil, upd_same, at0, at1, at2, ix0, ix1, ix2, upd_upd, ite_true, ite_false, if_true, if_false, Bool.false_eq_true, decide_true, decide_false, reduceIte, true_and, and_true, Option.isSome_none, Option.isSome_some, Bool.not_false, Bool.not_true, ha', lk_Run_first, lk_Run_many]
      refine ⟨⟨T.cl_Run, T.na_Run_first⟩, ⟨T.cl_Run, T.na_Run_many⟩, a, dx, f', m, rfl, ha, by show 3 ≤ sizeLine; decide, fun p hp => e p hp⟩
end
section
variable {P : Program} {w : World} {K : PySem.W.Frag} {mg : Str → Option Value} {base : Heap} {A : Around} {outer : List Env} {s : Shared} {H : Hp} {E : XK}
theorem lamQ_eq : (LX P w K mg base A outer s H E).env.qual ++ ("<lambda>" : Str) = lamQ := by first | rfl | decide +kernel
theorem lamG (T : Top K mg) (TB : LamX.TabB base mg (He.cT K ("law", none)).1 (He.cT K ("law", none)).2) {j : Nat} (hr : Room j (LX P w K mg base A outer s H E).A) (hj : 9 ≤ j) {params : Arguments} {body : Expr} {scope : Scope} {p lpos pos : Pos} {t : XK → TE}
    (hL : LamX.lamSB (defScope st_law) scope = true) (hdef : defaultsOf params (LX P w K mg base A outer s H E).env = ([], []))
    (hbind : ∀ (q : Str) (cl : List (Str × Addr)) (pm cv ctv : Value), bindArgs (PySem.W.kla_fn "<lambda>" q params body scope cl pm cv ctv) ⟨[], []⟩ = pure [])
    (hbody : ∀ (A' : Around) (outer' : List Env) (s' : Shared) (H' : Hp) (E' : XK) (f c' : Addr), Room 7 (A'.deeper (LamX.lamEnv (LX P w K mg base A outer s H E) scope s'.heap.objs.size f c')) → PE (LamX.lamCx (LX P w K mg base A outer s H E) A' outer' s' H' E' scope f c') body (t E')) :
    PE (LX P w K mg base A outer s H E) (.Call (.Name "_law_told" p) [.Lambda params body scope lpos] [] pos) (LamX.tLam (tabs K) (TTold K) t) := by
  obtain ⟨fd, F⟩ := T.d_L_told
  have b : L2.Binds K fd ["_law_call"] [] := F.bindsN (fun _ _ _ _ _ _ us hl => match us, hl with | [_], _ => rfl)
  obtain ⟨oc, od, dV, kV, doc, pm, an, cdv, ct, osl, rfl, lk, hcd, _, _⟩ := F.ex
  have hr' : Room 9 (LX P w K mg base A outer s H E).A := hr.mono hj
  refine LamX.pe_lamcall (X := LX P w K mg base A outer s H E) (k := 7) (a := "_law_call") (Ng := nm_L_told) (g := He.ga K "_law_told") (c := (He.cT K ("law", none)).1) (P := (He.cT K ("law", none)).2) rfl T.g_L_told F.kp lk hcd b sc_L_told rfl (Or.inl rfl) ?_ TB rfl ?_ ?_ hr' (LamX.lamS_by hL) hdef hbind hbody
  · exact told_gives (j := 5) T ⟨rfl, rfl⟩ fun s => hr'.deeper _
  · exact List.mem_singleton.mpr (by rw [lamQ_eq])
  · intro q hq _
    rw [List.mem_singleton.mp hq, lamQ_eq]
theorem lam1 (T : Top K mg) (TB : LamX.TabB base mg (He.cT K ("law", none)).1 (He.cT K ("law", none)).2) {j : Nat} (hr : Room j (LX P w K mg base A outer s H E).A) {params : Arguments} {scope : Scope} {p lpos pos p1 p2 p3 p4 : Pos} (hj : 9 ≤ j := by decide)
    (hL : LamX.lamSB (defScope st_law) scope = true := by decide +kernel) (hdef : defaultsOf params (LX P w K mg base A outer s H E).env = ([], []) := by rfl)
    (hbind : ∀ (q : Str) (cl : List (Str × Addr)) (pm cv ctv : Value), bindArgs (PySem.W.kla_fn "<lambda>" q params (.Call (.Name "Run" p1) [.Name "_law_one" p2, .Name "_law_two" p3] [] p4) scope cl pm cv ctv) ⟨[], []⟩ = pure [] := by intros; rfl)
    (h6 : scope.names.lookup ("_law_one" : Str) = some .free := by rfl) (h7 : scope.names.lookup ("_law_two" : Str) = some .free := by rfl) (hR : scope.names.lookup ("Run" : Str) = some .globalImplicit := by rfl) :
    PE (LX P w K mg base A outer s H E) (.Call (.Name "_law_told" p) [.Lambda params (.Call (.Name "Run" p1) [.Name "_law_one" p2, .Name "_law_two" p3] [] p4) scope lpos] [] pos) (LamX.tLam (tabs K) (TTold K) (tl1 K)) :=
  lamG T TB hr hj hL hdef hbind fun A' outer' s' H' E' f c' hr7 =>
    e_mkX (mkx_Run T) hr7 (by decide) hR (passes_call (takes_of rfl rfl rfl rfl) (fun _ _ _ _ h => h)) (pa_cons (pz 6 rfl (Or.inr (Or.inr h6))) (pa_cons (pz 7 rfl (Or.inr (Or.inr h7))) pa_nil))
/-- the keywords many, first: what they bind -/
theorem kb_Run (T : Top K mg) : ∃ f fd, Mk K (He.ga K "Run") f ∧ FnOk P w K mg base (L2.CX P w) 3 f fd ["self", "first", "many"] (sp_Run___init__ K) ∧ KBn K fd ["self", "first", "many"] 1 ["many", "first"] (fun us ws => match us, ws with | [a], [m, f] => [a, f, m] | _, _ => []) gMF := by
  obtain ⟨fd, F⟩ := T.d_Run___init__
  have F0 := F
  refine ⟨_, fd, T.mk_Run, fnF_Run___init__ T F, ⟨fun s us ws X l1 l2 => ?_, fun r1 r2 => ?_⟩⟩
  · obtain ⟨oc, od, dV, kV, doc, pm, an, cdv, ct, osl, rfl, lk, hcd, hD, _⟩ := F0.ex
    rcases hD with ⟨_, rfl⟩ | ⟨e, _⟩
    · match us, ws, l1, l2 with
      | [a], [m, f], _, _ => exact .of_eq rfl
    · exact absurd rfl e
  · cases r1 with
    | nil => cases r2 <;> exact .nil
    | cons a b =>
      cases b with
      | cons _ _ => exact .nil
      | nil =>
        cases r2 with
        | nil => exact .nil
        | cons c d =>
          cases d with
          | nil => exact .nil
          | cons e g =>
            cases g with
            | nil => exact .cons a (.cons e (.cons c .nil))
            | cons _ _ => exact .nil
theorem lam2 (T : Top K mg) (TB : LamX.TabB base mg (He.cT K ("law", none)).1 (He.cT K ("law", none)).2) {j : Nat} (hr : Room j (LX P w K mg base A outer s H E).A) {params : Arguments} {scope : Scope} {p lpos pos p1 p2 p3 p4 p5 p6 : Pos} (hj : 9 ≤ j := by decide)
    (hL : LamX.lamSB (defScope st_law) scope = true := by decide +kernel) (hdef : defaultsOf params (LX P w K mg base A outer s H E).env = ([], []) := by rfl)
    (hbind : ∀ (q : Str) (cl : List (Str × Addr)) (pm cv ctv : Value), bindArgs (PySem.W.kla_fn "<lambda>" q params (.Call (.Name "Run" p1) [] [⟨some "many", .Name "_law_two" p2, p5⟩, ⟨some "first", .Name "_law_one" p3, p6⟩] p4) scope cl pm cv ctv) ⟨[], []⟩ = pure [] := by intros; rfl)
    (h6 : scope.names.lookup ("_law_one" : Str) = some .free := by rfl) (h7 : scope.names.lookup ("_law_two" : Str) = some .free := by rfl) (hR : scope.names.lookup ("Run" : Str) = some .globalImplicit := by rfl) :
    PE (LX P w K mg base A outer s H E) (.Call (.Name "_law_told" p) [.Lambda params (.Call (.Name "Run" p1) [] [⟨some "many", .Name "_law_two" p2, p5⟩, ⟨some "first", .Name "_law_one" p3, p6⟩] p4) scope lpos] [] pos) (LamX.tLam (tabs K) (TTold K) (tl2 K)) :=
  lamG T TB hr hj hL hdef hbind fun A' outer' s' H' E' f c' hr7 => by
    obtain ⟨fi, fd, M, F, kb⟩ := kb_Run (P := P) (w := w) (base := base) T
    exact e_make0N (ks := ["many", "first"]) M F (hr7.mono (by decide)) hR T.m_Run kb (passes_call (takes_of rfl rfl rfl rfl) (fun _ _ _ _ h => h)) (pk_cons (pz 7 rfl (Or.inr (Or.inr h7))) (pk_cons (pz 6 rfl (Or.inr (Or.inr h6))) pk_nil))
theorem fnb_between (T : Top K mg) : ∃ fd, FnOk P w K mg base (L2.CX P w) 5 (Hk.cmG "Run" "between" K) fd ["cls", "first", "end"] (sp_Run_between K) ∧ L2.Binds K fd ["cls", "first", "end"] [] ∧
    KBn K fd ["cls", "first", "end"] 1 ["end", "first"] (fun us ws => match us, ws with | [a], [m, f] => [a, f, m] | _, _ => []) gMF := by
  obtain ⟨fd, F⟩ := T.d_Run_between
  have F0 := F
  refine ⟨fd, fnF_Run_between T F, F.bindsN (fun _ _ _ _ _ _ us hl => match us, hl with | [_, _, _], _ => rfl), ⟨fun s us ws X l1 l2 => ?_, fun r1 r2 => ?_⟩⟩
  · obtain ⟨oc, od, dV, kV, doc, pm, an, cdv, ct, osl, rfl, lk, hcd, hD, _⟩ := F0.ex
    rcases hD with ⟨_, rfl⟩ | ⟨e, _⟩
    · match us, ws, l1, l2 with
      | [a], [m, f], _, _ => exact .of_eq rfl
    · exact absurd rfl e
  · cases r1 with
    | nil => cases r2 <;> exact .nil
    | cons a b =>
      cases b with
      | cons _ _ => exact .nil
      | nil =>
        cases r2 with
        | nil => exact .nil
        | cons c d =>
          cases d with
          | nil => exact .nil
          | cons e g =>
            cases g with
            | nil => exact .cons a (.cons e (.cons c .nil))
            | cons _ _ => exact .nil
theorem lam3 (T : Top K mg) (TB : LamX.TabB base mg (He.cT K ("law", none)).1 (He.cT K ("law", none)).2) {j : Nat} (hr : Room j (LX P w K mg base A outer s H E).A) {params : Arguments} {scope : Scope} {p lpos pos p1 p2 p3 p4 p5 : Pos} (hj : 9 ≤ j := by decide)
    (hL : LamX.lamSB (defScope st_law) scope = true := by decide +kernel) (hdef : defaultsOf params (LX P w K mg base A outer s H E).env = ([], []) := by rfl)
    (hbind : ∀ (q : Str) (cl : List (Str × Addr)) (pm cv ctv : Value), bindArgs (PySem.W.kla_fn "<lambda>" q params (.Call (.Attribute (.Name "Run" p1) "between" p5) [.Name "_law_one" p2, .Name "_law_two" p3] [] p4) scope cl pm cv ctv) ⟨[], []⟩ = pure [] := by intros; rfl)
    (h6 : scope.names.lookup ("_law_one" : Str) = some .free := by rfl) (h7 : scope.names.lookup ("_law_two" : Str) = some .free := by rfl) (hR : scope.names.lookup ("Run" : Str) = some .globalImplicit := by rfl) (ht : ∀ env : Env, eval (.Call (.Attribute (.Name "Run" p1) "between" p5) [.Name "_law_one" p2, .Name "_law_two" p3] [] p4) env = (do
      let ov ← eval (.Name "Run" p1) env
      standAt p5.atName
      let (f, first) ← holding [ov] (getMethod ov "between" (L2.plainOf (.Name "Run" p1) env))
      callWith p4 f first (backTo p4 (starEach [.Name "_law_one" p2, .Name "_law_two" p3] env)) (backToKw p4 (keywordEach [] env))) := by intro env; rfl) :
    PE (LX P w K mg base A outer s H E) (.Call (.Name "_law_told" p) [.Lambda params (.Call (.Attribute (.Name "Run" p1) "between" p5) [.Name "_law_one" p2, .Name "_law_two" p3] [] p4) scope lpos] [] pos) (LamX.tLam (tabs K) (TTold K) (tl3 K)) :=
  lamG T TB hr hj hL hdef hbind fun A' outer' s' H' E' f c' hr7 => by
    obtain ⟨fd, F, b, kb⟩ := fnb_between (P := P) (w := w) (base := base) T
    exact ClX.pe_cmeth (ht := ht _) (C8.pe_gc (v := .ref (He.ga K "Run")) hR ⟨_, T.m_Run, rfl⟩) T.cm_Run_between.1 T.cm_Run_between.2 (fnR_of (X := LamX.lamCx (LX P w K mg base A outer s H E) A' outer' s' H' E' scope f c') F b) (hr7.mono (by decide)) (passes_call (takes_of rfl rfl rfl rfl) (fun _ _ _ _ h => h)) (pa_cons (pz 6 rfl (Or.inr (Or.inr h6))) (pa_cons (pz 7 rfl (Or.inr (Or.inr h7))) pa_nil))
theorem lam4 (T : Top K mg) (TB : LamX.TabB base mg (He.cT K ("law", none)).1 (He.cT K ("law", none)).2) {j : Nat} (hr : Room j (LX P w K mg base A outer s H E).A) {params : Arguments} {scope : Scope} {p lpos pos p1 p2 p3 p4 p5 p6 p7 : Pos} (hj : 9 ≤ j := by decide)
    (hL : LamX.lamSB (defScope st_law) scope = true := by decide +kernel) (hdef : defaultsOf params (LX P w K mg base A outer s H E).env = ([], []) := by rfl)
    (hbind : ∀ (q : Str) (cl : List (Str × Addr)) (pm cv ctv : Value), bindArgs (PySem.W.kla_fn "<lambda>" q params (.Call (.Attribute (.Name "Run" p1) "between" p5) [] [⟨some "end", .Name "_law_two" p2, p6⟩, ⟨some "first", .Name "_law_one" p3, p7⟩] p4) scope cl pm cv ctv) ⟨[], []⟩ = pure [] := by intros; rfl)
    (h6 : scope.names.lookup ("_law_one" : Str) = some .free := by rfl) (h7 : scope.names.lookup ("_law_two" : Str) = some .free := by rfl) (hR : scope.names.lookup ("Run" : Str) = some .globalImplicit := by rfl) (ht : ∀ env : Env, eval (.Call (.Attribute (.Name "Run" p1) "between" p5) [] [⟨some "end", .Name "_law_two" p2, p6⟩, ⟨some "first", .Name "_law_one" p3, p7⟩] p4) env = (do
      let ov ← eval (.Name "Run" p1) env
      standAt p5.atName
      let (f, first) ← holding [ov] (getMethod ov "between" (L2.plainOf (.Name "Run" p1) env))
      callWith p4 f first (backTo p4 (starEach [] env)) (backToKw p4 (keywordEach [⟨some "end", .Name "_law_two" p2, p6⟩, ⟨some "first", .Name "_law_one" p3, p7⟩] env))) := by intro env; rfl) :
    PE (LX P w K mg base A outer s H E) (.Call (.Name "_law_told" p) [.Lambda params (.Call (.Attribute (.Name "Run" p1) "between" p5) [] [⟨some "end", .Name "_law_two" p2, p6⟩, ⟨some "first", .Name "_law_one" p3, p7⟩] p4) scope lpos] [] pos) (LamX.tLam (tabs K) (TTold K) (tl4 K)) :=
  lamG T TB hr hj hL hdef hbind fun A' outer' s' H' E' f c' hr7 => by
    obtain ⟨fd, F, b, kb⟩ := fnb_between (P := P) (w := w) (base := base) T
    exact e_cmethN (ht := ht _) (ks := ["end", "first"]) hR T.m_Run T.cm_Run_between.1 T.cm_Run_between.2 F (hr7.mono (by decide)) (passes_call (takes_of rfl rfl rfl rfl) (fun _ _ _ _ h => h)) kb (pk_cons (pz 7 rfl (Or.inr (Or.inr h7))) (pk_cons (pz 6 rfl (Or.inr (Or.inr h6))) pk_nil))
end

theorem fnF_law {P : Program} {w : World} {K : PySem.W.Frag} {mg : Str → Option Value} {base : Heap} (T : Top K mg) (TB : LamX.TabB base mg (He.cT K ("law", none)).1 (He.cT K ("law", none)).2) {fd : FuncData} (F : FunD K "law" "law" (defArgs st_law) (defBody st_law) (defScope st_law) [] [] (He.ga K "law") fd) : FnOk P w K mg base C8.CX0 12 (He.ga K "law") fd ["_law_script"] (sp_law K) := by
  refine Hk.fn_okC (k := 11) F sc_law (ln_sp_law (K := K)) (t := t_law K) (fun A outer s H E hr => ?_) (rd_law T)
  exact (pss_cons (s_forR1 PassesOwn.never rfl (by rfl) T.f_range (pe_callB (c_max2 rfl) (by rfl) T.f_max (by decide +kernel) (pa_cons pe_int (pa_cons (pe_callB (c_min2 rfl) (by rfl) T.f_min (by decide +kernel) (pa_cons pe_int (pa_cons (pe_callB c_lenS (by rfl) T.f_len (by decide +kernel) (pa_cons (pz 0) pa_nil)) pa_nil))) pa_nil))) (pg_name (i := 1) sc_law.nd rfl (Or.inl rfl)) (pss_cons (ps_set (i := 2) sc_law.nd rfl (Or.inl rfl) (C8.pe_c (ok_L_bag T) hr (by decide) (by rfl) (pa_cons (pz 0) (pa_cons (pz 1) pa_nil)))) (pss_one (s_forR1 PassesOwn.never rfl (by rfl) T.f_range pe_int (pg_name (i := 3) sc_law.nd rfl (Or.inl rfl)) (pss_cons (ps_asg (pe_tup (pa_cons (C8.pe_c (ok_L_value T) hr (by decide) (by rfl) (pa_cons (pz 2) pa_nil)) (pa_cons (C8.pe_c (ok_L_value T) hr (by decide) (by rfl) (pa_cons (pz 2) pa_nil)) pa_nil))) (pg_tup rfl (pgs_cons (pg_name (i := 6) sc_law.nd rfl (Or.inr rfl)) (pgs_cons (pg_name (i := 7) sc_law.nd rfl (Or.inr rfl)) pgs_nil)))) (pss_cons (ps_set (i := 4) sc_law.nd rfl (Or.inl rfl) (C8.pe_c (ok_L_due T) hr (by decide) (by rfl) (pa_cons (pz 6) (pa_cons (pz 7) pa_nil)))) (pss_cons (ps_if (t_cmp (o_ne hr.units) (lam1 T TB hr) (pz 4) (nomark _)) (pss_one (ps_ret pe_bl)) pss_nil) (pss_cons (ps_if (t_cmp (o_ne hr.units) (lam2 T TB hr) (pz 4) (nomark _)) (pss_one (ps_ret pe_bl)) pss_nil) (pss_cons (ps_set (i := 5) sc_law.nd rfl (Or.inl rfl) (e_and (C8.pe_c (ok_L_is_whole T) hr (by decide) (by rfl) (pa_cons (pz 6) pa_nil)) (pe_one (C8.pe_c (ok_L_is_whole T) hr (by decide) (by rfl) (pa_cons (pz 7) pa_nil))))) (pss_cons (ps_set (i := 4) sc_law.nd rfl (Or.inl rfl) (pe_ifExp (t_val (pz 5)) (C8.pe_c (ok_L_due T) hr (by decide) (by rfl) (pa_cons (pz 6) (pa_cons (pe_op o_sub (pz 7) (pz 6)) pa_nil))) pe_str)) (pss_cons (ps_if (t_cmp (o_ne hr.units) (lam3 T TB hr) (pz 4) (nomark _)) (pss_one (ps_ret pe_bl)) pss_nil) (pss_one (ps_if (t_cmp (o_ne hr.units) (lam4 T TB hr) (pz 4) (nomark _)) (pss_one (ps_ret pe_bl)) pss_nil))))))))))))) (pss_one (ps_ret (pe_cmpR (o_eq hr.units) (pe_lst (pa_cons (Hk.e_cval (by rfl) T.m_Run T.k_Run_LINE) (pa_cons (Hk.e_cval (by rfl) T.m_Run T.k_Run_PAGE) pa_nil))) (pe_lst (pa_cons pe_int (pa_cons pe_int pa_nil))) (nomark _)))))
set_option maxHeartbeats 0
/-! ### the head: facts by names, the run -/
def fa : List Hk.Fact := [
  .of (.glo "law"),
  .of (.glo "is_integer"),
  .of (.glo "is_from_to"),
  .of (.glo "_law_bag"),
  .of (.glo "_law_take"),
  .of (.glo "_law_value"),
  .of (.glo "_law_is_whole"),
  .of (.glo "_law_due"),
  .of (.glo "_law_told"),
  .of (.free "len"),
  .of (.free "abs"),
  .of (.free "max"),
  .of (.free "min"),
  .of (.free "range"),
  .of (.free "isinstance"),
  .of (.free "int"),
  .of (.free "bool"),
  .of (.free "ValueError"),
  .of (.int "MOST" 1000000000000),
  .of (.glo "Run"),
  .of (.glo "BadRun"),
  .of (.glo "WindowError"),
  .of (.cls "Run"),
  .of (.noat "Run" "first"),
  .of (.noat "Run" "many"),
  .of (.mkr "Run"),
  Hk.propB "Run" "end",
  Hk.cmB "Run" "between",
  Hk.cvalB "Run" "LINE" (.int 2),
  Hk.cvalB "Run" "PAGE" (.int 4),
  .of (.exc "BadRun"),
  .of (.exm "BadRun" "BadRun" true),
  Hk.excCB "BadRun",
  Hk.insB "Run",
  Hk.kitTB "Run" "int" false,
  Hk.kitTB "Run" "bool" false,
  Hk.kitCB "BadRun" "WindowError" true,
  Hk.kitTB "BadRun" "ValueError" true]
def fn : List Hk.DP := [
  ⟨fun K => (He.ga K "is_integer"), "is_integer", "is_integer", defArgs st_is_integer, defBody st_is_integer, defScope st_is_integer, [], []⟩,
  ⟨fun K => (He.ga K "is_from_to"), "is_from_to", "is_from_to", defArgs st_is_from_to, defBody st_is_from_to, defScope st_is_from_to, [], []⟩,
  ⟨fun K => (He.ma K (He.ga K "Run") "__init__"), "__init__", "Run.__init__", defArgs st_Run___init__, defBody st_Run___init__, defScope st_Run___init__, [], []⟩,
  ⟨fun K => (Hk.prG "Run" "end" K), "end", "Run.end", defArgs st_Run_end, defBody st_Run_end, defScope st_Run_end, [], []⟩,
  ⟨fun K => (Hk.cmG "Run" "between" K), "between", "Run.between", defArgs st_Run_between, defBody st_Run_between, defScope st_Run_between, [], []⟩,
  ⟨fun K => (He.ga K "_law_bag"), "_law_bag", "_law_bag", defArgs st_L_bag, defBody st_L_bag, defScope st_L_bag, [], []⟩,
  ⟨fun K => (He.ga K "_law_take"), "_law_take", "_law_take", defArgs st_L_take, defBody st_L_take, defScope st_L_take, [], []⟩,
  ⟨fun K => (He.ga K "_law_value"), "_law_value", "_law_value", defArgs st_L_value, defBody st_L_value, defScope st_L_value, [], []⟩,
  ⟨fun K => (He.ga K "_law_is_whole"), "_law_is_whole", "_law_is_whole", defArgs st_L_is_whole, defBody st_L_is_whole, defScope st_L_is_whole, [], []⟩,
  ⟨fun K => (He.ga K "_law_due"), "_law_due", "_law_due", defArgs st_L_due, defBody st_L_due, defScope st_L_due, [], []⟩,
  ⟨fun K => (He.ga K "_law_told"), "_law_told", "_law_told", defArgs st_L_told, defBody st_L_told, defScope st_L_told, [], []⟩,
  ⟨fun K => (He.ga K "law"), "law", "law", defArgs st_law, defBody st_law, defScope st_law, [], []⟩]
def names : List Str := (["_wall", "WindowError", "BadRun", "MOST", "is_integer", "is_from_to", "Run", "_law_bag", "_law_take", "_law_value", "_law_is_whole", "_law_due", "_law_told"] : List Str)
def tf : List He.Defn := [("law", none)]
abbrev R : PySem.W.OpenRow := PySem.W.OpenLaw.row PySem.Challenge.rw_devicewindows_k01_runs_made_and_refused
abbrev hk : PySem.W.Hook := Hk.hookT 7 fa fn tf
def ob (s : PySem.W.SharedT) : Hk.Al × Bool := Hk.obsTT 7 fa fn tf (HandSHeadRun.getT s)
theorem ob_eq (s : PySem.W.SharedT) : ob s = hk.obs s.abs := Hk.obsTT_eq (HandSHeadRun.getT_eq s)
theorem run (w : World) : HandSHeadRun.RunEq R (PySem.W.view R.prog [16]) hk ob 6000 names w := by
  intro os
  kernel_rfl
theorem top_of {K : PySem.W.Frag} {h : Heap} {mg : Str → Option Value} (X : K.In h) (G : h.Ns mainGlobals mg) (c : Hk.Says fa fn K) : Top K mg :=
  ⟨He.glo_ok X G (c.fact 0), He.glo_ok X G (c.fact 1), He.glo_ok X G (c.fact 2), He.glo_ok X G (c.fact 3), He.glo_ok X G (c.fact 4), He.glo_ok X G (c.fact 5), He.glo_ok X G (c.fact 6), He.glo_ok X G (c.fact 7), He.glo_ok X G (c.fact 8), He.free_ok X G (c.fact 9), He.free_ok X G (c.fact 10), He.free_ok X G (c.fact 11), He.free_ok X G (c.fact 12), He.free_ok X G (c.fact 13), He.free_ok X G (c.fact 14), He.free_ok X G (c.fact 15), He.free_ok X G (c.fact 16), He.free_ok X G (c.fact 17), (by obtain ⟨t, h⟩ := He.int_ok X G (c.fact 18); exact ⟨_, h, t, rfl⟩), He.glo_ok X G (c.fact 19), He.glo_ok X G (c.fact 20), He.glo_ok X G (c.fact 21), He.cls_ok (c.fact 22), He.noat_ok (c.fact 23), He.noat_ok (c.fact 24), He.mkr_ok (c.fact 25), Hk.propB_ok (c.fact 26), Hk.cmB_ok (c.fact 27), Hk.cvalB_ok (c.fact 28), Hk.cvalB_ok (c.fact 29), He.exc_ok (c.fact 30), He.exm_ok (c.fact 31), Hk.excCB_ok (c.fact 32), Hk.insB_ok (c.fact 33), Hk.kitTB_ok (c.fact 34), Hk.kitTB_ok (c.fact 35), Hk.kitCB_ok (c.fact 36), Hk.kitTB_ok (c.fact 37), c.def_ 0, c.def_ 1, c.def_ 2, c.def_ 3, c.def_ 4, c.def_ 5, c.def_ 6, c.def_ 7, c.def_ 8, c.def_ 9, c.def_ 10, c.def_ 11⟩

end K01
open PySem PySem.W PySem.Calls PyProof.Rows
set_option maxHeartbeats 0
theorem PySem.Challenge.cw_devicewindows_k01_runs_made_and_refused_holds : PySem.Challenge.rw_devicewindows_k01_runs_made_and_refused.Holds := by
  w_on; o_law
  refine HandSHeadRun.head_any (r := OpenLaw.row PySem.Challenge.rw_devicewindows_k01_runs_made_and_refused) (q := view (OpenLaw.row PySem.Challenge.rw_devicewindows_k01_runs_made_and_refused).prog [16]) (H := K01.hk) (ob := K01.ob) (M := 6000) (loose := K01.names) (d := HandSHeadRun.topDef (OpenLaw.row PySem.Challenge.rw_devicewindows_k01_runs_made_and_refused).prog 16) (kwd := []) K01.ob_eq
    (by kernel_rfl) (fun s => by kernel_rfl) K01.run (by kernel_rfl) (by kernel_rfl) (by kernel_rfl) (by rfl) (by first | assumption | decide +kernel) (by decide +kernel) ⟨rfl, rfl, rfl, rfl, rfl, by decide +kernel⟩ ?hw ?hc
  case hw => w_witness2
  case hc =>
    refine LamX.walk_ofTsE (l := PySem.Challenge.rw_devicewindows_k01_runs_made_and_refused) (n := 63) (k := 12) (x := "_law_script") (CX := fun _ => C8.CX0) rfl (by decide) (by kernel_rfl) ⟨rfl, by decide, by decide⟩ ?F (fun _ _ _ _ _ z => z)
    intro w mg fa h Y G hmg0
    obtain ⟨K, KX, c⟩ := Y
    have hmg : mg ("law" : PySem.Str) = some (.ref fa) := by
      have e : (HandSHeadRun.topDef (OpenLaw.row PySem.Challenge.rw_devicewindows_k01_runs_made_and_refused).prog 16).name = ("law" : PySem.Str) := by kernel_rfl
      rw [← e]
      exact hmg0
    have T := K01.top_of KX G c.t
    have ea := hmg.symm.trans T.g_law
    cases ea
    obtain ⟨fd, FD⟩ := T.d_law
    have b := L2.FunD.bindsA (ps := ["_law_script"]) FD fun _ _ _ _ _ _ us hl => match us, hl with | [_], _ => rfl
    have one : ∀ p ∈ [He.cT K ("law", none)], p = He.cT K ("law", none) := fun p hp => List.mem_singleton.mp hp
    have mem : (("law", none) : He.Defn) ∈ K01.tf := List.mem_singleton.mpr rfl
    refine ⟨K, KX, fd, [He.cT K ("law", none)], K01.sp_law K, fun p hp => ?e1, fun p hp => ?e2, fun p hp => ?e3, fun s v => b s [v] rfl, fun H a ns hl hb ht hS => ⟨a, ns, rfl, hS, hl, fun q hq => ?e4, fun _ => rfl⟩, fun base _ _ TB => ?e5⟩
    case e1 => rw [one p hp]; exact c.empty _ mem
    case e2 => rw [one p hp]; exact c.out _ mem
    case e3 => rw [one p hp]; exact PySem.W.codeHd_of_K KX (c.hd _ mem)
    case e4 =>
      have e : q = ((He.cT K ("law", none)).2, K01.lamQ) := List.mem_singleton.mp hq
      rw [e]
      exact LamX.TabS.nil (ht _ (List.mem_singleton.mpr rfl))
    case e5 => exact K01.fnF_law (P := (PySem.Challenge.rw_devicewindows_k01_runs_made_and_refused).prog) (w := w) (base := base) T (TB _ (List.mem_singleton.mpr rfl)) FD
