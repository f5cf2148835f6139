import PyProof.Rows.All
import Wide.All
import OpenK.AllK
import Wide.FinOn
import HandS.ForMost
import HandS.Star
import HandS.IsInst
import HandS.Style
import HandS.TupAny
import HandS.WrittenGet
import HandS.StrMore
import HandS.OwnEq
import KE.KOpsOwn
import PyProof.InstNe
import HandS.HeadHook1
import HandS.HeadHook2
import HandS.HeadHook3
import HandS.HeadHook4
import HandS.Defaults
import HandS.Codes
import HandS.Walk
import HandS.Zip
import KE.KAssignIn
import HandS.Small
import HandS.WideBits
import PyProof.NoPylong
import PyProof.ListStr
import PyProof.Rows.StrMeet
import KE.KExcInit
import HandS.ExcInit
import HandS.ExcField
import KE.KTryMore
import HandS.HeadNt
import HandS.DictTup
import KE.KSortTupAny
import HandS.Replace
import KE.GoesNew
import KE.GoesMore
import HandS.Iter
import KE.KDictZip
import HandS.Lambda
import HandS.ExcCtx
import HandS.ExcIs
import HandS.HotCalls
import KE.KExcIs
import HandS.Property
import PyProof.ReprRoads
import PyProof.ReprLen
import PyProof.FitsInt
import HandS.HeadWalk
import HandS.HeadEnd
import KE.KStateDown
import HandS.Head0
import HandS.Head1
import HandS.Head2
import HandS.EndBits
import PySem.Challenge.RW_fourswaps_k66_whole_known_claims
set_option Elab.async false
set_option linter.all false
set_option maxRecDepth 100000
set_option maxHeartbeats 4000000
/-! A1: a calculus over the syntax: RE, RT, RS, RB say «there is a reading of this piece that gives what is wanted». -/
namespace My
open PySem PySem.Spec PyProof.Rows L2
abbrev Hy := L2.Hp

def RE (X : Cx) (e : Expr) : TE := fun σ H Q => ∃ t, PE X e t ∧ t σ H Q
def RT (X : Cx) (e : Expr) : TT := fun σ H Q => ∃ t, PT X e t ∧ t σ H Q
def RW (X : Cx) (e : Expr) : TT := fun σ H Q => ∃ t, PW X e t ∧ t σ H Q
def RA (X : Cx) (es : List Expr) : TA := fun σ H Q => ∃ t, PA X es t ∧ t σ H Q
def RS (X : Cx) (st : Stmt) : TS := fun D σ H => ∃ t, PS X st t ∧ t D σ H
def RB (X : Cx) (sts : List Stmt) : TS := fun D σ H => ∃ t, PSs X sts t ∧ t D σ H
def RG (X : Cx) (tg : Expr) : TG := fun v σ H Q => ∃ t, PG X tg t ∧ t v σ H Q
def RGs (X : Cx) (ts : List Expr) : TGs := fun vs σ H Q => ∃ t, PGs X ts t ∧ t vs σ H Q
def RI (X : Cx) (tg it : Expr) : TI := fun σ H R => ∃ w, PI X tg it w ∧ w σ H R
def RTs (X : Cx) (ifs : List Expr) : TT := fun σ H Q => ∃ t, PTs X ifs t ∧ t σ H Q
def RO (X : Cx) (e : Option Expr) : TO := fun σ H Q => ∃ t, PO X e t ∧ t σ H Q

section
variable {X : Cx}
theorem pRE {e : Expr} : PE X e (RE X e) := ⟨fun pins s σ H Q I ⟨_, h, q⟩ => h.run pins s σ H Q I q⟩
theorem pRT {e : Expr} : PT X e (RT X e) := ⟨fun pins s σ H Q I ⟨_, h, q⟩ => h.run pins s σ H Q I q⟩
theorem pRW {e : Expr} : PW X e (RW X e) := ⟨fun wh pins s σ H Q I ⟨_, h, q⟩ => h.run wh pins s σ H Q I q⟩
theorem pRA {es : List Expr} : PA X es (RA X es) := ⟨fun pos pins s σ H Q I ⟨_, h, q⟩ => h.run pos pins s σ H Q I q⟩
theorem pRS {st : Stmt} : PS X st (RS X st) := ⟨fun pins s σ H D I ⟨_, h, q⟩ => h.run pins s σ H D I q⟩
theorem pRB {sts : List Stmt} : PSs X sts (RB X sts) := ⟨fun pins s σ H D I ⟨_, h, q⟩ => h.run pins s σ H D I q⟩
theorem pRG {tg : Expr} : PG X tg (RG X tg) := ⟨fun pins s σ H v u Q I r ⟨_, h, q⟩ => h.run pins s σ H v u Q I r q⟩
theorem pRGs {ts : List Expr} : PGs X ts (RGs X ts) := ⟨fun pins s σ H vs us Q I r ⟨_, h, q⟩ => h.run pins s σ H vs us Q I r q⟩
theorem pRI {tg it : Expr} : PI X tg it (RI X tg it) := ⟨fun pins s σ H R I ⟨_, h, q⟩ => h.run pins s σ H R I q⟩
theorem pRTs {ifs : List Expr} : PTs X ifs (RTs X ifs) := ⟨fun pins s σ H Q I ⟨_, h, q⟩ => h.run pins s σ H Q I q⟩
theorem pRO {e : Option Expr} : PO X e (RO X e) := ⟨fun pins s σ H Q I ⟨_, h, q⟩ => h.run pins s σ H Q I q⟩
end

/-! ### operations by values -/
def rAdd (K : PySem.W.Frag) : R2 := fun x y H Q => match x, y with
  | .int i, .int j => Q (.int (i + j)) H
  | .str a, .str b => a.length + b.length ≤ sizeLine ∧ Q (.str (a ++ b)) H
  | .ref a, .ref b => ∃ xs zs, H a = some (.lst xs) ∧ H b = some (.lst zs) ∧ xs.length + zs.length ≤ sizeLine ∧ ∀ p, H p = none → Q (.ref p) (upd H p (.lst (xs ++ zs)))
  | _, _ => False
def rSub : R2 := fun x y H Q => match x, y with
  | .int i, .int j => Q (.int (i - j)) H
  | _, _ => False
def rMul : R2 := fun x y H Q => match x, y with
  | .int i, .int j => CMul i j ∧ Q (.int (i * j)) H
  | _, _ => False
def rMod : R2 := fun x y H Q => match x, y with
  | .int i, .int j => 0 < j ∧ Q (.int (i % j)) H
  | _, _ => False
def rFdiv : R2 := fun x y H Q => match x, y with
  | .int i, .int j => CDiv i j ∧ Q (.int (i / j)) H
  | _, _ => False
def rPow : R2 := fun x y H Q => match x, y with
  | .int i, .int j => CPow i j ∧ Q (.int (i ^ j.toNat)) H
  | _, _ => False
def rEq (K : PySem.W.Frag) : R2 := fun x y H Q => match x, y with
  | .ref _, _ => rEqD K x y H Q
  | _, .ref _ => rEqD K x y H Q
  | _, _ => scal x y = true ∧ Q (.bl (decide (x = y))) H
def rNe (K : PySem.W.Frag) : R2 := fun x y H Q => match x, y with
  | .ref _, _ => rNeD K x y H Q
  | _, .ref _ => rNeD K x y H Q
  | _, _ => scal x y = true ∧ Q (.bl (!decide (x = y))) H
def rLt : R2 := fun x y H Q => match x, y with
  | .int i, .int j => Q (.bl (decide (i < j))) H
  | .str i, .str j => Q (.bl (decide (i.cps.toList < j.cps.toList))) H
  | _, _ => False
def rLe : R2 := fun x y H Q => match x, y with
  | .int i, .int j => Q (.bl (decide (i ≤ j))) H
  | .str i, .str j => Q (.bl (!decide (j.cps.toList < i.cps.toList))) H
  | _, _ => False
def rGt : R2 := fun x y H Q => match x, y with
  | .int i, .int j => Q (.bl (decide (j < i))) H
  | _, _ => False
def rGe : R2 := fun x y H Q => match x, y with
  | .int i, .int j => Q (.bl (decide (j ≤ i))) H
  | _, _ => False
def rIs : R2 := fun x y H Q => match y with
  | .non => Q (.bl (decide (x = .non))) H
  | _ => False
def rIsNot : R2 := fun x y H Q => match y with
  | .non => Q (.bl (!decide (x = .non))) H
  | _ => False
/-- one sign in a text; a flat thing in a list or a tuple -/
def rIn (K : PySem.W.Frag) : R2 := fun x y H Q => match y with
  | .str z => ∃ c : Nat, x = .str ⟨#[c]⟩ ∧ Q (.bl (decide (c ∈ z.cps.toList))) H
  | .ref p => ∃ xs, (SqL K H p xs ∨ SqT K H p xs) ∧ flatV x = true ∧ xs.all flatV = true ∧ Q (.bl (inV x xs)) H
  | _ => False
def rNotIn (K : PySem.W.Frag) : R2 := fun x y H Q => match y with
  | .str z => ∃ c : Nat, x = .str ⟨#[c]⟩ ∧ Q (.bl (!decide (c ∈ z.cps.toList))) H
  | .ref p => ∃ xs, (SqL K H p xs ∨ SqT K H p xs) ∧ flatV x = true ∧ xs.all flatV = true ∧ Q (.bl (!inV x xs)) H
  | _ => False
def rIx (K : PySem.W.Frag) : R2 := fun x y H Q => match x, y with
  | .str z, .int i => z.length ≤ sizeLine ∧ ∃ c, atI z.cps.toList i = some c ∧ Q (.str ⟨#[c]⟩) H
  | .ref p, .int i => ∃ xs v, (SqL K H p xs ∨ SqT K H p xs) ∧ atI xs i = some v ∧ Q v H
  | _, _ => False
def rNeg : V → Hy → VK → Prop := fun x H Q => match x with
  | .int i => Q (.int (-i)) H
  | _ => False

section
variable {X : Cx}
theorem oAdd : OpR X (binaryOp .Add) (rAdd X.K) := by
  intro pins s σ H x y v u Q I rx ry h
  cases x <;> cases y <;> first
    | exact False.elim h
    | exact op_add pins s σ H _ _ v u Q I rx ry ⟨_, _, rfl, rfl, h⟩
    | exact op_add_str pins s σ H _ _ v u Q I rx ry ⟨_, _, rfl, rfl, h⟩
    | (obtain ⟨xs, zs, h1, h2, h3, h4⟩ := h
       exact op_cat pins s σ H _ _ v u Q I rx ry ⟨_, _, xs, zs, rfl, rfl, h1, h2, h3, h4⟩)
theorem oSub : OpR X (binaryOp .Sub) rSub := by
  intro pins s σ H x y v u Q I rx ry h
  cases x <;> cases y <;> first
    | exact False.elim h
    | exact op_sub pins s σ H _ _ v u Q I rx ry ⟨_, _, rfl, rfl, h⟩
theorem oMul : OpR X (binaryOp .Mult) rMul := by
  intro pins s σ H x y v u Q I rx ry h
  cases x <;> cases y <;> first
    | exact False.elim h
    | exact op_mul pins s σ H _ _ v u Q I rx ry ⟨_, _, rfl, rfl, h⟩
theorem oMod : OpR X (binaryOp .Mod) rMod := by
  intro pins s σ H x y v u Q I rx ry h
  cases x <;> cases y <;> first
    | exact False.elim h
    | exact op_mod pins s σ H _ _ v u Q I rx ry ⟨_, _, rfl, rfl, h⟩
theorem oFdiv : OpR X (binaryOp .FloorDiv) rFdiv := by
  intro pins s σ H x y v u Q I rx ry h
  cases x <;> cases y <;> first
    | exact False.elim h
    | exact op_fdiv pins s σ H _ _ v u Q I rx ry ⟨_, _, rfl, rfl, h⟩
theorem oPow : OpR X (binaryOp .Pow) rPow := by
  intro pins s σ H x y v u Q I rx ry h
  cases x <;> cases y <;> first
    | exact False.elim h
    | exact op_pow pins s σ H _ _ v u Q I rx ry ⟨_, _, rfl, rfl, h⟩
theorem oEq (hu : X.A.units + 64 < cLine) : OpR X (compareOp .Eq) (rEq X.K) := by
  intro pins s σ H x y v u Q I rx ry h
  cases x <;> cases y <;> first
    | exact op_eqD hu pins s σ H _ _ v u Q I rx ry h
    | exact op_eq pins s σ H _ _ v u Q I rx ry h
theorem oNe (hu : X.A.units + 64 < cLine) : OpR X (compareOp .NotEq) (rNe X.K) := by
  intro pins s σ H x y v u Q I rx ry h
  cases x <;> cases y <;> first
    | exact op_neD hu pins s σ H _ _ v u Q I rx ry h
    | exact op_ne pins s σ H _ _ v u Q I rx ry h
theorem oLt : OpR X (compareOp .Lt) rLt := by
  intro pins s σ H x y v u Q I rx ry h
  cases x <;> cases y <;> first
    | exact False.elim h
    | exact op_lt pins s σ H _ _ v u Q I rx ry ⟨_, _, rfl, rfl, h⟩
    | exact op_lt_str pins s σ H _ _ v u Q I rx ry ⟨_, _, rfl, rfl, h⟩
theorem oLe : OpR X (compareOp .LtE) rLe := by
  intro pins s σ H x y v u Q I rx ry h
  cases x <;> cases y <;> first
    | exact False.elim h
    | exact op_le pins s σ H _ _ v u Q I rx ry ⟨_, _, rfl, rfl, h⟩
    | exact op_le_str pins s σ H _ _ v u Q I rx ry ⟨_, _, rfl, rfl, h⟩
theorem oGt : OpR X (compareOp .Gt) rGt := by
  intro pins s σ H x y v u Q I rx ry h
  cases x <;> cases y <;> first
    | exact False.elim h
    | exact op_gt pins s σ H _ _ v u Q I rx ry ⟨_, _, rfl, rfl, h⟩
theorem oGe : OpR X (compareOp .GtE) rGe := by
  intro pins s σ H x y v u Q I rx ry h
  cases x <;> cases y <;> first
    | exact False.elim h
    | exact op_ge pins s σ H _ _ v u Q I rx ry ⟨_, _, rfl, rfl, h⟩
theorem oIs : OpR X (compareOp .Is) rIs := by
  intro pins s σ H x y v u Q I rx ry h
  cases y <;> first
    | exact False.elim h
    | exact op_isN pins s σ H _ _ v u Q I rx ry ⟨rfl, h⟩
theorem oIsNot : OpR X (compareOp .IsNot) rIsNot := by
  intro pins s σ H x y v u Q I rx ry h
  cases y <;> first
    | exact False.elim h
    | exact op_notN pins s σ H _ _ v u Q I rx ry ⟨rfl, h⟩
theorem oIn : OpR X (compareOp .In) (rIn X.K) := by
  intro pins s σ H x y v u Q I rx ry h
  cases y <;> first
    | exact False.elim h
    | (obtain ⟨c, e, q⟩ := h
       exact op_in_sign pins s σ H _ _ v u Q I rx ry ⟨c, _, e, rfl, q⟩)
    | (obtain ⟨xs, h1, h2, h3, q⟩ := h
       exact op_in_seq pins s σ H _ _ v u Q I rx ry ⟨_, xs, rfl, h1, h2, h3, q⟩)
theorem oNotIn : OpR X (compareOp .NotIn) (rNotIn X.K) := by
  intro pins s σ H x y v u Q I rx ry h
  cases y <;> first
    | exact False.elim h
    | (obtain ⟨c, e, q⟩ := h
       exact op_notIn_sign pins s σ H _ _ v u Q I rx ry ⟨c, _, e, rfl, q⟩)
    | (obtain ⟨xs, h1, h2, h3, q⟩ := h
       exact op_notIn_seq pins s σ H _ _ v u Q I rx ry ⟨_, xs, rfl, h1, h2, h3, q⟩)
theorem iIx : IxR X (rIx X.K) := by
  intro va sl pins s σ H x y v u Q I rx ry h hs
  cases x <;> cases y <;> first
    | exact False.elim h
    | (obtain ⟨h1, c, h2, q⟩ := h
       exact ix_str va sl pins s σ H _ _ v u Q I rx ry ⟨_, _, c, rfl, rfl, h1, h2, q⟩ hs)
    | (obtain ⟨xs, w', h1, h2, q⟩ := h
       rcases h1 with h1 | h1
       · exact ix_list va sl pins s σ H _ _ v u Q I rx ry ⟨_, xs, _, w', rfl, rfl, h1, h2, q⟩ hs
       · exact ix_tup va sl pins s σ H _ _ v u Q I rx ry ⟨_, xs, _, w', rfl, rfl, h1, h2, q⟩ hs)
theorem uNeg : UnR X (unaryOp .USub) rNeg := by
  intro pins s σ H x v Q I rx h
  cases x <;> first
    | exact False.elim h
    | exact un_neg pins s σ H _ v Q I rx ⟨_, rfl, h⟩
end

/-! ### weaker ends -/
section
variable {X : Cx} {σ : L2.St} {H : Hy}
theorem RE.mono {e : Expr} {Q1 Q2 : VK} (h : RE X e σ H Q1) (i : ∀ v H', Q1 v H' → Q2 v H') : RE X e σ H Q2 := by
  obtain ⟨t, ht, q⟩ := h
  refine ⟨fun σ' H' Q' => t σ' H' Q1 ∧ ∀ v H', Q1 v H' → Q' v H', ⟨fun pins s σ' H' Q' I ⟨q1, j⟩ => ?_⟩, q, i⟩
  exact thn (ht.run pins s σ' H' _ I q1) fun u s1 ⟨v, H1, I1, r1, q2⟩ => ⟨v, H1, I1, r1, j v H1 q2⟩
theorem RT.mono {e : Expr} {Q1 Q2 : Bool → Hy → Prop} (h : RT X e σ H Q1) (i : ∀ v H', Q1 v H' → Q2 v H') : RT X e σ H Q2 := by
  obtain ⟨t, ht, q⟩ := h
  refine ⟨fun σ' H' Q' => t σ' H' Q1 ∧ ∀ v H', Q1 v H' → Q' v H', ⟨fun pins s σ' H' Q' I ⟨q1, j⟩ => ?_⟩, q, i⟩
  exact thn (ht.run pins s σ' H' _ I q1) fun u s1 ⟨H1, I1, q2⟩ => ⟨H1, I1, j u H1 q2⟩
theorem RA.mono {es : List Expr} {Q1 Q2 : List V → Hy → Prop} (h : RA X es σ H Q1) (i : ∀ v H', Q1 v H' → Q2 v H') : RA X es σ H Q2 := by
  obtain ⟨t, ht, q⟩ := h
  refine ⟨fun σ' H' Q' => t σ' H' Q1 ∧ ∀ v H', Q1 v H' → Q' v H', ⟨fun pos pins s σ' H' Q' I ⟨q1, j⟩ => ?_⟩, q, i⟩
  exact thn (ht.run pos pins s σ' H' _ I q1) fun u s1 ⟨v, H1, I1, r1, q2⟩ => ⟨v, H1, I1, r1, j v H1 q2⟩
theorem RG.mono {tg : Expr} {v : V} {Q1 Q2 : L2.St → Hy → Prop} (h : RG X tg v σ H Q1) (i : ∀ σ' H', Q1 σ' H' → Q2 σ' H') : RG X tg v σ H Q2 := by
  obtain ⟨t, ht, q⟩ := h
  refine ⟨fun v' σ' H' Q' => t v' σ' H' Q1 ∧ ∀ σ' H', Q1 σ' H' → Q' σ' H', ⟨fun pins s σ' H' v' u Q' I r ⟨q1, j⟩ => ?_⟩, q, i⟩
  exact thn (ht.run pins s σ' H' v' u _ I r q1) fun u s1 ⟨σ1, H1, I1, q2⟩ => ⟨σ1, H1, I1, j σ1 H1 q2⟩
theorem RB.mono {sts : List Stmt} {D D' : Ends} (h : RB X sts D σ H) (h1 : ∀ σ' H', D.nx σ' H' → D'.nx σ' H') (h2 : ∀ v H', D.rt v H' → D'.rt v H') (h3 : ∀ σ' H', D.bk σ' H' → D'.bk σ' H') (h4 : ∀ σ' H', D.ct σ' H' → D'.ct σ' H') : RB X sts D' σ H := by
  obtain ⟨t, ht, q⟩ := h
  refine ⟨fun E σ' H' => t D σ' H' ∧ (∀ σ' H', D.nx σ' H' → E.nx σ' H') ∧ (∀ v H', D.rt v H' → E.rt v H') ∧ (∀ σ' H', D.bk σ' H' → E.bk σ' H') ∧ ∀ σ' H', D.ct σ' H' → E.ct σ' H', ⟨fun pins s σ' H' E I ⟨q1, j1, j2, j3, j4⟩ => ?_⟩, q, h1, h2, h3, h4⟩
  refine thn (ht.run pins s σ' H' _ I q1) fun f s1 q2 => ?_
  cases f with
  | next => obtain ⟨σ1, H1, I1, q⟩ := q2; exact ⟨σ1, H1, I1, j1 _ _ q⟩
  | brk => obtain ⟨σ1, H1, I1, q⟩ := q2; exact ⟨σ1, H1, I1, j3 _ _ q⟩
  | cont => obtain ⟨σ1, H1, I1, q⟩ := q2; exact ⟨σ1, H1, I1, j4 _ _ q⟩
  | ret v => obtain ⟨x, σ1, H1, I1, r, q⟩ := q2; exact ⟨x, σ1, H1, I1, r, j2 _ _ q⟩
end

/-! ### expressions -/
def getV (σ : L2.St) (i : Nat) (k : V → Prop) : Prop := match σ[i]? with
  | some (some v) => k v
  | _ => False
theorem getV_ex {σ : L2.St} {i : Nat} {k : V → Prop} (h : getV σ i k) : ∃ v, σ[i]? = some (some v) ∧ k v := by
  unfold getV at h
  split at h
  · exact ⟨_, by assumption, h⟩
  · exact h.elim
def isB (z : V) (k : Bool → Prop) : Prop := match z with
  | .bl c => k c
  | _ => False
theorem isB_ex {z : V} {k : Bool → Prop} (h : isB z k) : ∃ c, z = .bl c ∧ k c := by
  cases z <;> first | exact False.elim h | exact ⟨_, rfl, h⟩
def isR (z : V) (k : Addr → Prop) : Prop := match z with
  | .ref a => k a
  | _ => False
theorem isR_ex {z : V} {k : Addr → Prop} (h : isR z k) : ∃ c, z = .ref c ∧ k c := by
  cases z <;> first | exact False.elim h | exact ⟨_, rfl, h⟩
section
variable {X : Cx} {σ : L2.St} {H : Hy} {Q : VK} {QT : Bool → Hy → Prop} {QA : List V → Hy → Prop} {pos : Pos} {a b c e : Expr} {es : List Expr}
theorem r_var (i : Nat) {x : Str} (h : getV σ i fun v => Q v H) (hN : X.N[i]? = some x := by rfl) (hv : Vis X.env.scope x := by first | exact Or.inl rfl | exact Or.inr (Or.inl rfl) | exact Or.inr (Or.inr rfl))
    (hd : (x == ("__debug__" : Str)) = false := by decide) (hcd : (x == ("__classdict__" : Str)) = false := by decide) : RE X (.Name x pos) σ H Q := ⟨_, pe_var hN hv hd hcd, getV_ex h⟩
theorem r_glob {x : Str} {v : V} {u : Value} (hm : X.mg x = some u) (r : RelV v u) (h : Q v H) (hg : Gl X x := by rfl) (hd : (x == ("__debug__" : Str)) = false := by decide) : RE X (.Name x pos) σ H Q := ⟨_, pe_glob hg hm r hd, h⟩
theorem r_bltn {x : Str} {v : V} {u : Value} (hm : X.mg x = none) (hv : bootBuiltins x = some u) (r : RelV v u) (h : Q v H) (hg : Gl X x := by rfl) (hn : x ≠ "__name__" := by decide) (hd : (x == ("__debug__" : Str)) = false := by decide) : RE X (.Name x pos) σ H Q :=
  ⟨_, pe_bltn hg hm hv r hn hd, h⟩
theorem r_int {i : Int} {j} (h : Q (.int i) H) : RE X (.Constant (.int i) j pos) σ H Q := ⟨_, pe_int, h⟩
theorem r_bl {i : Bool} {j} (h : Q (.bl i) H) : RE X (.Constant (.bool i) j pos) σ H Q := ⟨_, pe_bl, h⟩
theorem r_non {j} (h : Q .non H) : RE X (.Constant .none j pos) σ H Q := ⟨_, pe_non, h⟩
theorem r_str {x : Str} {j} (h : Q (.str x) H) : RE X (.Constant (.str x) j pos) σ H Q := ⟨_, pe_str, h⟩
theorem r_bin {op : Operator} {r : R2} (ho : OpR X (binaryOp op) r) (h : RE X a σ H fun x H1 => RE X b σ H1 fun y H2 => r x y H2 Q) : RE X (.BinOp a op b pos) σ H Q := ⟨_, pe_op ho pRE pRE, h⟩
theorem r_add (h : RE X a σ H fun x H1 => RE X b σ H1 fun y H2 => rAdd X.K x y H2 Q) : RE X (.BinOp a .Add b pos) σ H Q := r_bin oAdd h
theorem r_sub (h : RE X a σ H fun x H1 => RE X b σ H1 fun y H2 => rSub x y H2 Q) : RE X (.BinOp a .Sub b pos) σ H Q := r_bin oSub h
theorem r_mul (h : RE X a σ H fun x H1 => RE X b σ H1 fun y H2 => rMul x y H2 Q) : RE X (.BinOp a .Mult b pos) σ H Q := r_bin oMul h
theorem r_mod (h : RE X a σ H fun x H1 => RE X b σ H1 fun y H2 => rMod x y H2 Q) : RE X (.BinOp a .Mod b pos) σ H Q := r_bin oMod h
theorem r_fdiv (h : RE X a σ H fun x H1 => RE X b σ H1 fun y H2 => rFdiv x y H2 Q) : RE X (.BinOp a .FloorDiv b pos) σ H Q := r_bin oFdiv h
theorem r_pow (h : RE X a σ H fun x H1 => RE X b σ H1 fun y H2 => rPow x y H2 Q) : RE X (.BinOp a .Pow b pos) σ H Q := r_bin oPow h
theorem r_neg (h : RE X a σ H fun x H1 => rNeg x H1 Q) : RE X (.UnaryOp .USub a pos) σ H Q := ⟨_, pe_un uNeg pRE, h⟩
theorem r_not (h : RE X a σ H fun x H1 => isB x fun c => Q (.bl (!c)) H1) : RE X (.UnaryOp .Not a pos) σ H Q := ⟨_, pe_not pRE, h.mono fun _ _ q => isB_ex q⟩
/-! comparisons -/
theorem r_cmp {op : CmpOp} {r : R2} (ho : OpR X (compareOp op) r) (h : RE X a σ H fun x H1 => RE X b σ H1 fun y H2 => r x y H2 Q) (hm : behindInMarks op b = false := by first | exact nomark _ | rfl) : RE X (.Compare a [op] [b] pos) σ H Q := ⟨_, pe_cmpR ho pRE pRE hm, h⟩
theorem r_eq (hu : X.A.units + 64 < cLine) (h : RE X a σ H fun x H1 => RE X b σ H1 fun y H2 => rEq X.K x y H2 Q) : RE X (.Compare a [.Eq] [b] pos) σ H Q := r_cmp (oEq hu) h
theorem r_ne (hu : X.A.units + 64 < cLine) (h : RE X a σ H fun x H1 => RE X b σ H1 fun y H2 => rNe X.K x y H2 Q) : RE X (.Compare a [.NotEq] [b] pos) σ H Q := r_cmp (oNe hu) h
theorem r_lt (h : RE X a σ H fun x H1 => RE X b σ H1 fun y H2 => rLt x y H2 Q) : RE X (.Compare a [.Lt] [b] pos) σ H Q := r_cmp oLt h
theorem r_le (h : RE X a σ H fun x H1 => RE X b σ H1 fun y H2 => rLe x y H2 Q) : RE X (.Compare a [.LtE] [b] pos) σ H Q := r_cmp oLe h
theorem r_gt (h : RE X a σ H fun x H1 => RE X b σ H1 fun y H2 => rGt x y H2 Q) : RE X (.Compare a [.Gt] [b] pos) σ H Q := r_cmp oGt h
theorem r_ge (h : RE X a σ H fun x H1 => RE X b σ H1 fun y H2 => rGe x y H2 Q) : RE X (.Compare a [.GtE] [b] pos) σ H Q := r_cmp oGe h
theorem r_is (h : RE X a σ H fun x H1 => RE X b σ H1 fun y H2 => rIs x y H2 Q) : RE X (.Compare a [.Is] [b] pos) σ H Q := r_cmp oIs h
theorem r_isnot (h : RE X a σ H fun x H1 => RE X b σ H1 fun y H2 => rIsNot x y H2 Q) : RE X (.Compare a [.IsNot] [b] pos) σ H Q := r_cmp oIsNot h
theorem r_in (h : RE X a σ H fun x H1 => RE X b σ H1 fun y H2 => rIn X.K x y H2 Q) (hm : behindInMarks .In b = false := by rfl) : RE X (.Compare a [.In] [b] pos) σ H Q := r_cmp oIn h hm
theorem r_notin (h : RE X a σ H fun x H1 => RE X b σ H1 fun y H2 => rNotIn X.K x y H2 Q) (hm : behindInMarks .NotIn b = false := by rfl) : RE X (.Compare a [.NotIn] [b] pos) σ H Q := r_cmp oNotIn h hm
theorem OpR.weak {f : Value → Value → Sem Value} {r : R2} (h : OpR X f r) : OpR X f fun x y H Q => ∃ Q1 : VK, r x y H Q1 ∧ ∀ v H', Q1 v H' → Q v H' := by
  intro pins s σ H x y v u Q I rx ry ⟨Q1, q, i⟩
  exact thn (h pins s σ H x y v u Q1 I rx ry q) fun u s1 ⟨v, H1, I1, r1, q2⟩ => ⟨v, H1, I1, r1, i v H1 q2⟩
theorem r_chain {op op' : CmpOp} {r r' : R2} (ho : OpR X (compareOp op) r) (ho' : OpR X (compareOp op') r')
    (h : RE X a σ H fun x H1 => RE X b σ H1 fun y H2 => r x y H2 fun z H3 => isB z fun k => if k = true then RE X c σ H3 (fun w' H4 => r' y w' H4 Q) else Q (.bl false) H3)
    (hm : lastMarks [op, op'] [b, c] = false := by with_unfolding_all rfl) : RE X (.Compare a [op, op'] [b, c] pos) σ H Q :=
  ⟨_, pe_chain (OpR.weak ho) ho' pRE pRE pRE hm, h.mono fun _ _ q => RE.mono q fun _ _ q2 => ⟨_, q2, fun _ _ q3 => isB_ex q3⟩⟩
/-! tests -/
theorem rt_cmp {op : CmpOp} {r : R2} (ho : OpR X (compareOp op) r) (h : RE X a σ H fun x H1 => RE X b σ H1 fun y H2 => r x y H2 fun z H3 => isB z fun k => QT k H3) (hm : behindInMarks op b = false := by first | exact nomark _ | rfl) : RT X (.Compare a [op] [b] pos) σ H QT :=
  ⟨_, pt_cmpR (OpR.weak ho) pRE pRE hm, h.mono fun _ _ q => RE.mono q fun _ _ q2 => ⟨_, q2, fun _ _ q3 => isB_ex q3⟩⟩
theorem rt_eq (hu : X.A.units + 64 < cLine) (h : RE X a σ H fun x H1 => RE X b σ H1 fun y H2 => rEq X.K x y H2 fun z H3 => isB z fun k => QT k H3) : RT X (.Compare a [.Eq] [b] pos) σ H QT := rt_cmp (oEq hu) h
theorem rt_ne (hu : X.A.units + 64 < cLine) (h : RE X a σ H fun x H1 => RE X b σ H1 fun y H2 => rNe X.K x y H2 fun z H3 => isB z fun k => QT k H3) : RT X (.Compare a [.NotEq] [b] pos) σ H QT := rt_cmp (oNe hu) h
theorem rt_lt (h : RE X a σ H fun x H1 => RE X b σ H1 fun y H2 => rLt x y H2 fun z H3 => isB z fun k => QT k H3) : RT X (.Compare a [.Lt] [b] pos) σ H QT := rt_cmp oLt h
theorem rt_le (h : RE X a σ H fun x H1 => RE X b σ H1 fun y H2 => rLe x y H2 fun z H3 => isB z fun k => QT k H3) : RT X (.Compare a [.LtE] [b] pos) σ H QT := rt_cmp oLe h
theorem rt_gt (h : RE X a σ H fun x H1 => RE X b σ H1 fun y H2 => rGt x y H2 fun z H3 => isB z fun k => QT k H3) : RT X (.Compare a [.Gt] [b] pos) σ H QT := rt_cmp oGt h
theorem rt_ge (h : RE X a σ H fun x H1 => RE X b σ H1 fun y H2 => rGe x y H2 fun z H3 => isB z fun k => QT k H3) : RT X (.Compare a [.GtE] [b] pos) σ H QT := rt_cmp oGe h
theorem rt_is (h : RE X a σ H fun x H1 => RE X b σ H1 fun y H2 => rIs x y H2 fun z H3 => isB z fun k => QT k H3) : RT X (.Compare a [.Is] [b] pos) σ H QT := rt_cmp oIs h
theorem rt_isnot (h : RE X a σ H fun x H1 => RE X b σ H1 fun y H2 => rIsNot x y H2 fun z H3 => isB z fun k => QT k H3) : RT X (.Compare a [.IsNot] [b] pos) σ H QT := rt_cmp oIsNot h
theorem rt_in (h : RE X a σ H fun x H1 => RE X b σ H1 fun y H2 => rIn X.K x y H2 fun z H3 => isB z fun k => QT k H3) (hm : behindInMarks .In b = false := by rfl) : RT X (.Compare a [.In] [b] pos) σ H QT := rt_cmp oIn h hm
theorem rt_notin (h : RE X a σ H fun x H1 => RE X b σ H1 fun y H2 => rNotIn X.K x y H2 fun z H3 => isB z fun k => QT k H3) (hm : behindInMarks .NotIn b = false := by rfl) : RT X (.Compare a [.NotIn] [b] pos) σ H QT := rt_cmp oNotIn h hm
theorem rt_chain {op op' : CmpOp} {r r' : R2} (ho : OpR X (compareOp op) r) (ho' : OpR X (compareOp op') r')
    (h : RE X a σ H fun x H1 => RE X b σ H1 fun y H2 => r x y H2 fun z H3 => isB z fun k => if k = true then RE X c σ H3 (fun w' H4 => r' y w' H4 fun z H5 => isB z fun k => QT k H5) else QT false H3)
    (hm : lastMarks [op, op'] [b, c] = false := by with_unfolding_all rfl) : RT X (.Compare a [op, op'] [b, c] pos) σ H QT :=
  ⟨_, pt_chain (OpR.weak ho) (OpR.weak ho') pRE pRE pRE hm, h.mono fun _ _ q => RE.mono q fun _ _ q2 => ⟨_, q2, fun z H3 q3 => by
    obtain ⟨k, e, q4⟩ := isB_ex q3
    refine ⟨k, e, ?_⟩
    cases k with
    | true =>
      rw [if_pos rfl] at q4 ⊢
      exact RE.mono q4 fun _ _ q5 => ⟨_, q5, fun _ _ q6 => isB_ex q6⟩
    | false =>
      rw [if_neg Bool.false_ne_true] at q4 ⊢
      exact ⟨false, rfl, q4⟩⟩⟩
theorem rt_val (h : RE X e σ H fun x H1 => isB x fun c => QT c H1) (he : ∀ whole, isTrue e X.env whole = (do let v ← whole; standAt e.pos; holding [v] (truthy v)) := by intro _; rfl) : RT X e σ H QT := ⟨_, pt_val pRE he, h.mono fun _ _ q => isB_ex q⟩
theorem rt_truth (h : RE X e σ H fun x H1 => ∃ k, TruV X.K x H1 k ∧ QT k H1) (he : ∀ whole, isTrue e X.env whole = (do let v ← whole; standAt e.pos; holding [v] (truthy v)) := by intro _; rfl) : RT X e σ H QT := ⟨_, pt_truth pRE he, h⟩
theorem rt_not (h : RT X a σ H fun c H1 => QT (!c) H1) : RT X (.UnaryOp .Not a pos) σ H QT := ⟨_, pt_not pRT, h⟩
theorem rt_bool {op : BoolOp} (h : RW X (.BoolOp op es pos) σ H QT) : RT X (.BoolOp op es pos) σ H QT := let ⟨t, ht, q⟩ := h; ⟨t, ht.pt, q⟩
theorem rw_and (h : RT X a σ H fun c H1 => if c = true then RW X (.BoolOp .And (b :: es) pos) σ H1 QT else QT false H1) : RW X (.BoolOp .And (a :: b :: es) pos) σ H QT := ⟨_, pw_and pRT pRW, h⟩
theorem rw_or (h : RT X a σ H fun c H1 => if c = true then QT true H1 else RW X (.BoolOp .Or (b :: es) pos) σ H1 QT) : RW X (.BoolOp .Or (a :: b :: es) pos) σ H QT := ⟨_, pw_or pRT pRW, h⟩
theorem rw_and1 (h : RT X a σ H QT) : RW X (.BoolOp .And [a] pos) σ H QT := ⟨_, pw_and1 pRT, h⟩
theorem rw_or1 (h : RT X a σ H QT) : RW X (.BoolOp .Or [a] pos) σ H QT := ⟨_, pw_or1 pRT, h⟩
/-! and, or, if as values -/
theorem r_one {op : BoolOp} (h : RE X a σ H Q) : RE X (.BoolOp op [a] pos) σ H Q := ⟨_, pe_one pRE, h⟩
theorem r_and (h : RE X a σ H fun x H1 => isB x fun c => if c = true then RE X (.BoolOp .And (b :: es) pos) σ H1 Q else Q (.bl false) H1) : RE X (.BoolOp .And (a :: b :: es) pos) σ H Q := ⟨_, pe_and pRE pRE, h.mono fun _ _ q => isB_ex q⟩
theorem r_or (h : RE X a σ H fun x H1 => isB x fun c => if c = true then Q (.bl true) H1 else RE X (.BoolOp .Or (b :: es) pos) σ H1 Q) : RE X (.BoolOp .Or (a :: b :: es) pos) σ H Q := ⟨_, pe_or pRE pRE, h.mono fun _ _ q => isB_ex q⟩
theorem r_if (h : RT X c σ H fun k H1 => if k = true then RE X a σ H1 Q else RE X b σ H1 Q) : RE X (.IfExp c a b pos) σ H Q := ⟨_, pe_ifExp pRT pRE pRE, h⟩
/-! subscripts, displays -/
theorem r_ix (h : RE X a σ H fun x H1 => RE X b σ H1 fun y H2 => rIx X.K x y H2 Q) (hs : PlainIx b := by exact fun _ _ => rfl) : RE X (.Subscript a b pos) σ H Q := ⟨_, pe_ix iIx pRE pRE hs, h⟩
theorem ra_nil (h : QA [] H) : RA X [] σ H QA := ⟨_, pa_nil, h⟩
theorem ra_cons (h : RE X e σ H fun x H1 => RA X es σ H1 fun xs H2 => QA (x :: xs) H2) (hs : starEach (e :: es) X.env = (false, eval e X.env) :: starEach es X.env := by rfl) : RA X (e :: es) σ H QA := ⟨_, pa_cons pRE pRA hs, h⟩
theorem ra_star {p : Pos} (h : RE X e σ H fun x H1 => ∃ p xs, x = V.ref p ∧ (SqT X.K H1 p xs ∨ SqL X.K H1 p xs) ∧ RA X es σ H1 fun ys H2 => QA (xs ++ ys) H2) (hs : starEach (.Starred e p :: es) X.env = (true, eval e X.env) :: starEach es X.env := by rfl) : RA X (.Starred e p :: es) σ H QA := ⟨_, StX.pa_star pRE pRA hs, h⟩
theorem r_tup {x1} (h : RA X es σ H fun xs H1 => xs.length ≤ sizeLine ∧ ∀ p, H1 p = none → Q (.ref p) (upd H1 p (.tup xs))) : RE X (.Tuple es x1 pos) σ H Q := ⟨_, pe_tup pRA, h⟩
theorem r_lst (h : RA X es σ H fun xs H1 => xs.length ≤ sizeLine ∧ ∀ p, H1 p = none → Q (.ref p) (upd H1 p (.lst xs))) : RE X (.List es pos) σ H Q := ⟨_, pe_lst pRA, h⟩
theorem ro_none {QO : Option Int → Hy → Prop} (h : QO none H) : RO X none σ H QO := ⟨_, po_none, h⟩
theorem ro_some {QO : Option Int → Hy → Prop} (h : RE X e σ H fun x H1 => ∃ i, x = .int i ∧ QO (some i) H1) : RO X (some e) σ H QO := ⟨_, po_some pRE, h⟩
theorem r_slice {lo hi : Option Expr} {p2 : Pos} {r : V → Option Int → Option Int → Hy → VK → Prop} (hr : SlR X r) (h : RE X e σ H fun x H1 => RO X lo σ H1 fun l H2 => RO X hi σ H2 fun u H3 => r x l u H3 Q) : RE X (.Subscript e (.Slice lo hi none p2) pos) σ H Q := ⟨_, pe_slice hr pRE pRO pRO, h⟩
theorem r_slL {lo hi : Option Expr} {p2 : Pos} (h : RE X e σ H fun x H1 => RO X lo σ H1 fun l H2 => RO X hi σ H2 fun u H3 => rSlL X.K x l u H3 Q) : RE X (.Subscript e (.Slice lo hi none p2) pos) σ H Q := r_slice sl_list h
theorem r_slT {lo hi : Option Expr} {p2 : Pos} (h : RE X e σ H fun x H1 => RO X lo σ H1 fun l H2 => RO X hi σ H2 fun u H3 => rSlT X.K x l u H3 Q) : RE X (.Subscript e (.Slice lo hi none p2) pos) σ H Q := r_slice sl_tup h
/-! calls -/
theorem r_fld {f : Str} (h : RE X e σ H fun x H1 => ∃ a C dx fs v, x = .ref a ∧ H1 a = some (.ins C dx fs) ∧ Cls X.K C ∧ NoAttr X.K C f ∧ fs.lookup f = some v ∧ Q v H1) (hb : attributeBase e f X.env (eval e X.env) = eval e X.env := by rfl) : RE X (.Attribute e f pos) σ H Q := ⟨_, pe_fld pRE hb, h⟩
theorem r_callB {id : String} {r : List V → Hy → VK → Prop} {x : Str} {p : Pos} (hc : CallR X (.builtin id) r) (hm : X.mg x = none) (hv : bootBuiltins x = some (.builtin id)) (h : RA X (e :: es) σ H fun vs H1 => r vs H1 Q) (hg : Gl X x := by rfl) (hn : x ≠ "__name__" := by decide) (hdb : (x == ("__debug__" : Str)) = false := by decide)
    (he : starEach (e :: es) X.env = (false, eval e X.env) :: starEach es X.env := by rfl) (hpl : (backTo pos (starEach es X.env)).any (·.1) = false := by rfl) : RE X (.Call (.Name x p) (e :: es) [] pos) σ H Q := ⟨_, pe_callB hc hg hm hv pRA hn hdb he hpl, h⟩
theorem r_callTy {T : String} {r : List V → Hy → VK → Prop} {x : Str} {p : Pos} (hc : CallR X (.type T) r) (hm : X.mg x = none) (hv : bootBuiltins x = some (.type T)) (h : RA X (e :: es) σ H fun vs H1 => r vs H1 Q) (hg : Gl X x := by rfl) (hn : x ≠ "__name__" := by decide) (hdb : (x == ("__debug__" : Str)) = false := by decide)
    (he : starEach (e :: es) X.env = (false, eval e X.env) :: starEach es X.env := by rfl) (hpl : (backTo pos (starEach es X.env)).any (·.1) = false := by rfl) : RE X (.Call (.Name x p) (e :: es) [] pos) σ H Q := ⟨_, pe_callTy hc hg hm hv pRA hn hdb he hpl, h⟩
theorem r_bm0 {T id : String} {name : Str} {apos : Pos} {r : V → List V → Hy → VK → Prop} (pa : PlainAttrs T) (slot : Slot T name id) (hty : typeOf (.builtin id) = pure (.type "method_descriptor")) (hm : MtR X id r) (h : RE X e σ H fun x H1 => tyV X.K T x H1 ∧ r x [] H1 Q)
    (hbase : attributeBase e name X.env (eval e X.env) = eval e X.env := by rfl) (hline : (apos.endLine == pos.line) = true := by rfl) : RE X (.Call (.Attribute e name apos) [] [] pos) σ H Q := ⟨_, pe_bm0 pa slot hty hm pRE hbase hline, h⟩
theorem r_bm {T id : String} {name : Str} {apos : Pos} {r : V → List V → Hy → VK → Prop} (pa : PlainAttrs T) (slot : Slot T name id) (hty : typeOf (.builtin id) = pure (.type "method_descriptor")) (hm : MtR X id r) (h : RE X e σ H fun x H1 => tyV X.K T x H1 ∧ RA X (a :: es) σ H1 fun xs H2 => r x xs H2 Q)
    (hbase : attributeBase e name X.env (eval e X.env) = eval e X.env := by rfl)
    (hfew : ((backTo pos (starEach (a :: es) X.env)).all (fun x => !x.1) && (backToKw pos (keywordEach [] X.env)).all (fun x => x.1.isSome)
      && decide ((a :: es).length + ([] : List Keyword).length + (if ([] : List Keyword).isEmpty then 0 else 1) < 30)) = true := by rfl)
    (hline : (apos.endLine == pos.line) = true := by rfl) (hs : starEach (a :: es) X.env = (false, eval a X.env) :: starEach es X.env := by rfl) (hplain : (backTo pos (starEach es X.env)).any (·.1) = false := by rfl) : RE X (.Call (.Attribute e name apos) (a :: es) [] pos) σ H Q :=
  ⟨_, pe_bm pa slot hty hm pRE pRA hbase hfew hline hs hplain, h⟩
end
/-! ### statements -/
section
variable {X : Cx} {σ : L2.St} {H : Hy} {D : Ends} {pos : Pos} {a b c e : Expr} {es : List Expr} {st : Stmt} {sts : List Stmt}
theorem rb_nil (h : D.nx σ H) : RB X [] D σ H := ⟨_, pss_nil, h⟩
theorem rb_one (h : RS X st D σ H) : RB X [st] D σ H := ⟨_, pss_one pRS, h⟩
theorem rb_cons (h : RS X st { D with nx := fun σ' H' => RB X sts D σ' H' } σ H) : RB X (st :: sts) D σ H := ⟨_, pss_cons pRS pRB, h⟩
theorem rs_pass (h : D.nx σ H) : RS X (.Pass pos) D σ H := ⟨_, ps_pass, h⟩
theorem rs_break (h : D.bk σ H) : RS X (.Break pos) D σ H := ⟨_, ps_break, h⟩
theorem rs_expr (h : RE X e σ H fun _ H1 => D.nx σ H1) (hs : swapsWith e none pos.line X.env = pure false := by rfl) : RS X (.Expr e pos) D σ H := ⟨_, ps_expr pRE hs, h⟩
theorem rs_ret (h : RE X e σ H D.rt) : RS X (.Return (some e) pos) D σ H := ⟨_, ps_ret pRE, h⟩
theorem rs_if {s1 s2 : List Stmt} (h : RT X c σ H fun k H1 => if k = true then RB X s1 D σ H1 else RB X s2 D σ H1) : RS X (.If c s1 s2 pos) D σ H := ⟨_, ps_if pRT pRB pRB, h⟩
theorem rs_set (i : Nat) {x : Str} {p' : Pos} (hN : X.N.Nodup) (h : RE X e σ H fun v H1 => D.nx (σ.set i (some v)) H1) (hi : X.N[i]? = some x := by rfl) (hx : Loc X.env.scope x := by first | exact Or.inl rfl | exact Or.inr rfl)
    (hs : swapsWith e (some (.Name x p')) pos.line X.env = pure false := by rfl) (hf : X.fn x = true ∨ X.env.scope.names.lookup x = some .local := by first | exact .inl rfl | exact .inr rfl | assumption) : RS X (.Assign [.Name x p'] e pos) D σ H := ⟨_, ps_set hN hi hx pRE hs hf, h⟩
theorem rs_asg {tg : Expr} (h : RE X e σ H fun v H1 => RG X tg v σ H1 D.nx) (hs : swapsWithSole [tg] e pos.line X.env = pure false := by rfl) (hw : swappedStores [tg] e X.env = pure none := by rfl)
    (h1 : (assignEach [tg] X.env).map (·.2) = [assign tg X.env] := by rfl) : RS X (.Assign [tg] e pos) D σ H := ⟨_, ps_asg pRE pRG hs hw h1, h⟩
theorem rs_par (i j : Nat) {x y : Str} {px py pt : Pos} {kt k2 pt2} (hN : X.N.Nodup) (h : RA X [a, b] σ H fun vs H1 => ∃ v w, vs = [v, w] ∧ D.nx ((σ.set i (some v)).set j (some w)) H1) (hc : X.calm = true := by rfl) (hi : X.N[i]? = some x := by rfl) (hj : X.N[j]? = some y := by rfl) (hij : i ≠ j := by decide)
    (hx : X.env.scope.names.lookup x = some .local := by rfl) (hy : X.env.scope.names.lookup y = some .local := by rfl) (hw : swappedStores [.Tuple [.Name x px, .Name y py] kt pt] (.Tuple [a, b] k2 pt2) X.env = pure (some [x, y]) := by rfl)
    (hs : swapsWithSole [.Tuple [.Name x px, .Name y py] kt pt] (.Tuple [a, b] k2 pt2) pos.line X.env = pure false := by rfl) : RS X (.Assign [.Tuple [.Name x px, .Name y py] kt pt] (.Tuple [a, b] k2 pt2) pos) D σ H := ⟨_, ps_par hc hN hi hj hij hx hy pRA hw hs, h⟩
theorem rs_fld {o : Expr} {f : Str} {p' : Pos} (h : RE X e σ H fun y H1 => RE X o σ H1 fun x H2 => ∃ a C dx fs, x = .ref a ∧ H2 a = some (.ins C dx fs) ∧ Cls X.K C ∧ NoAttr X.K C f ∧ fs.length < 1000 ∧ D.nx σ (upd H2 a (.ins C dx (putF f y fs))))
    (hs : swapsWith e (some (.Attribute o f p')) pos.line X.env = pure false := by rfl) : RS X (.Assign [.Attribute o f p'] e pos) D σ H := ⟨_, ps_fld pRE pRE hs, h⟩
theorem rg_name (i : Nat) {x : Str} {v : V} {QG : L2.St → Hy → Prop} (hN : X.N.Nodup) (h : QG (σ.set i (some v)) H) (hi : X.N[i]? = some x := by rfl) (hx : Loc X.env.scope x := by first | exact Or.inl rfl | exact Or.inr rfl)
    (hf : X.fn x = true ∨ X.env.scope.names.lookup x = some .local := by first | exact .inl rfl | exact .inr rfl | assumption) : RG X (.Name x pos) v σ H QG := ⟨_, pg_name hN hi hx hf, h⟩
theorem rg_tup {k : Nat} {kk} {v : V} {QG : L2.St → Hy → Prop} (h : ∃ a xs, v = .ref a ∧ SqT X.K H a xs ∧ xs.length = k ∧ RGs X es xs σ H QG) (hc : X.calm = true := by rfl) (hn : (assignEach es X.env).length = k := by rfl) (hst : (assignEach es X.env).findIdx? (·.1) = none := by rfl) : RG X (.Tuple es kk pos) v σ H QG :=
  ⟨_, pg_tup hc pRGs hn hst, h⟩
theorem rgs_nil {QG : L2.St → Hy → Prop} (h : QG σ H) : RGs X [] [] σ H QG := ⟨_, pgs_nil, rfl, h⟩
theorem rgs_cons {v : V} {vs : List V} {QG : L2.St → Hy → Prop} (h : RG X e v σ H fun σ' H' => RGs X es vs σ' H' QG) (hs : (assignEach (e :: es) X.env).map (·.2) = assign e X.env :: (assignEach es X.env).map (·.2) := by rfl) : RGs X (e :: es) (v :: vs) σ H QG := ⟨_, pgs_cons pRG pRGs hs, v, vs, rfl, h⟩
theorem rg_sub {o i : Expr} {v : V} {t : TSet} {QG : L2.St → Hy → Prop} (hp : PSet X t) (h : RE X o σ H fun ov H1 => RE X i σ H1 fun iv H2 => t ov iv v H2 fun H3 => QG σ H3)
    (ha : ∀ v, assign (.Subscript o i pos) X.env v = (do
      let ov ← holding [v] (eval o X.env)
      let iv ← holding [v, ov] (eval i X.env)
      standAt pos
      holding [v, ov, iv] (setItem ov iv v)
      release [v, ov, iv] []) := by intro _; rfl) : RG X (.Subscript o i pos) v σ H QG := ⟨_, pg_sub pRE pRE hp ha, h⟩
theorem rs_for {tg iter : Expr} {body : List Stmt} (hp : PassesOwn (model X.prog X.w) X.A X.env X.xe) (h : RI X tg iter σ H fun J H1 => ∃ W : Nat → Nat → L2.St → Hy → Prop, (∃ m, W 0 m σ H1) ∧ ∀ i m σ H, W i m σ H →
      (J.stop i H ∧ D.nx σ H) ∨ (J.go i H ∧ ∃ N : L2.St → Hy → Prop, (∀ σ' H', N σ' H' → ∃ m', m' < m ∧ W (i + 1) m' σ' H') ∧ ∀ x H', J.yld i H x H' → RG X tg x σ H' fun σ2 H2 => RB X body { D with nx := N, ct := N, bk := D.nx } σ2 H2))
    (hc : X.calm = true := by rfl) (hs : ∀ x, foldedSetIterable iter X.env x = pure x := by intro _; rfl) : RS X (.For tg iter body [] pos) D σ H := ⟨_, ps_for hp hc pRI pRG pRB hs, h⟩
theorem rs_while {body : List Stmt} (hp : PassesOwn (model X.prog X.w) X.A X.env X.xe) (h : tWhile (RT X c) (RB X body) D σ H) : RS X (.While c body [] pos) D σ H := ⟨_, ps_while hp pRT pRB, h⟩
theorem ri_list {tg : Expr} {R : It → Hy → Prop} (h : RE X e σ H fun x H1 => ∃ a, x = .ref a ∧ (∃ xs, SqL X.K H1 a xs) ∧ R (Itl X.K a) H1) : RI X tg e σ H R := ⟨_, pi_list pRE, h⟩
theorem ri_tup {tg : Expr} {R : It → Hy → Prop} (h : RE X e σ H fun x H1 => ∃ a, x = .ref a ∧ (∃ xs, SqT X.K H1 a xs) ∧ R (Itt X.K a) H1) : RI X tg e σ H R := ⟨_, pi_tup pRE, h⟩
theorem ri_str {tg : Expr} {R : It → Hy → Prop} (h : RE X e σ H fun v H1 => ∃ x, v = .str x ∧ R (Its x) H1) : RI X tg e σ H R := ⟨_, pi_str pRE, h⟩
theorem ri_range1 {tg : Expr} {p : Pos} {R : It → Hy → Prop} (hm : X.mg "range" = none) (h : RA X [e] σ H fun vs H1 => ∃ j : Int, vs = [.int j] ∧ -(2 ^ 62) ≤ j ∧ j < 2 ^ 62 ∧ R (Itr 0 j.toNat) H1) (hg : Gl X "range" := by rfl) (hs : starEach [e] X.env = [(false, eval e X.env)] := by rfl) : RI X tg (.Call (.Name "range" p) [e] [] pos) σ H R :=
  ⟨_, pi_range1 hg hm pRA hs, h⟩
end
/-! ### list comprehensions -/
def gB (X : Cx) (scope : Scope) (tg : Expr) : TG := fun v σ H Q => ∀ (s : Shared) (H0 : Hy) (C : Addr) (cl : List (Str × Addr)) (fp : List Addr), RG (X.blk s H0 scope (compEnvC scope cl C X.env) fp) tg v σ H Q
def ttB (X : Cx) (scope : Scope) (ifs : List Expr) : TT := fun σ H Q => ∀ (s : Shared) (H0 : Hy) (C : Addr) (cl : List (Str × Addr)) (fp : List Addr), RTs (X.blk s H0 scope (compEnvC scope cl C X.env) fp) ifs σ H Q
def teB (X : Cx) (scope : Scope) (e : Expr) : TE := fun σ H Q => ∀ (s : Shared) (H0 : Hy) (C : Addr) (cl : List (Str × Addr)) (fp : List Addr), RE (X.blk s H0 scope (compEnvC scope cl C X.env) fp) e σ H Q
def tiB (X : Cx) (scope : Scope) (tg it : Expr) : TI := fun σ H R => ∀ (s : Shared) (H0 : Hy) (C : Addr) (cl : List (Str × Addr)) (fp : List Addr), RI (X.blk s H0 scope (compEnvC scope cl C X.env) fp) tg it σ H R
section
variable {X : Cx} {σ : L2.St} {H : Hy} {Q : VK} {pos : Pos} {elt tg iter tg1 iter1 : Expr} {ifs ifs1 : List Expr} {scope : Scope}
theorem pgB (s : Shared) (H0 : Hy) (C : Addr) (cl : List (Str × Addr)) (fp : List Addr) : PG (X.blk s H0 scope (compEnvC scope cl C X.env) fp) tg (gB X scope tg) := ⟨fun pins s1 σ H v u Q I r h => pRG.run pins s1 σ H v u Q I r (h s H0 C cl fp)⟩
theorem ptB (s : Shared) (H0 : Hy) (C : Addr) (cl : List (Str × Addr)) (fp : List Addr) : PTs (X.blk s H0 scope (compEnvC scope cl C X.env) fp) ifs (ttB X scope ifs) := ⟨fun pins s1 σ H Q I h => pRTs.run pins s1 σ H Q I (h s H0 C cl fp)⟩
theorem peB (s : Shared) (H0 : Hy) (C : Addr) (cl : List (Str × Addr)) (fp : List Addr) : PE (X.blk s H0 scope (compEnvC scope cl C X.env) fp) elt (teB X scope elt) := ⟨fun pins s1 σ H Q I h => pRE.run pins s1 σ H Q I (h s H0 C cl fp)⟩
theorem piB (s : Shared) (H0 : Hy) (C : Addr) (cl : List (Str × Addr)) (fp : List Addr) : PI (X.blk s H0 scope (compEnvC scope cl C X.env) fp) tg iter (tiB X scope tg iter) := ⟨fun pins s1 σ H R I h => pRI.run pins s1 σ H R I (h s H0 C cl fp)⟩
theorem r_lc (own : List (Str × Nat)) (hN : X.N.Nodup) (ok : BlkOk X.N X.env.scope scope own) (h : tLc (RI X tg iter) (gB X scope tg) (ttB X scope ifs) (teB X scope elt) (own.map (·.2)) σ H Q) (hc : X.calm = true := by rfl) (hs : ∀ x, foldedSetIterable iter X.env x = pure x := by intro _; rfl) :
    RE X (.ListComp elt [⟨tg, iter, ifs, 0⟩] scope pos) σ H Q := ⟨_, pe_lc hc hN pRI ok pgB ptB peB hs, h⟩
theorem rs_lc (i : Nat) {y : Str} {py spos : Pos} {D : Ends} (own : List (Str × Nat)) (hN : X.N.Nodup) (ok : BlkOk X.N X.env.scope scope own) (hsw : swapsWith (.ListComp elt [⟨tg, iter, ifs, 0⟩] scope pos) (some (.Name y py)) spos.line X.env = pure true)
    (h : tLc (RI X tg iter) (gB X scope tg) (ttB X scope ifs) (teB X scope elt) (own.map (·.2)) σ H fun v H1 => D.nx (σ.set i (some v)) H1) (hc : X.calm = true := by rfl) (hy : X.N[i]? = some y := by rfl) (hyl : X.env.scope.names.lookup y = some .local := by rfl) (hs : ∀ x, foldedSetIterable iter X.env x = pure x := by intro _; rfl) :
    RS X (.Assign [.Name y py] (.ListComp elt [⟨tg, iter, ifs, 0⟩] scope pos) spos) D σ H := ⟨_, ps_setLc hc hN hy hyl hsw pRI ok pgB ptB peB hs, h⟩
theorem r_lc2 (own : List (Str × Nat)) (vs1 : List Nat) (hN : X.N.Nodup) (ok : BlkOk X.N X.env.scope scope own) (hv : ∀ i ∈ vs1, i ∈ own.map (·.2)) (h : tLc2 (RI X tg iter) (gB X scope tg) (ttB X scope ifs) (tiB X scope tg1 iter1) (gB X scope tg1) (ttB X scope ifs1) (teB X scope elt) (own.map (·.2)) vs1 σ H Q)
    (hc : X.calm = true := by rfl) (hs : ∀ x, foldedSetIterable iter X.env x = pure x := by intro _; rfl) (hs1 : ∀ env x, foldedSetIterable iter1 env x = pure x := by intro _ _; rfl) :
    RE X (.ListComp elt [⟨tg, iter, ifs, 0⟩, ⟨tg1, iter1, ifs1, 0⟩] scope pos) σ H Q := ⟨_, pe_lc2 hc hN pRI ok hv pgB ptB piB pgB ptB peB hs hs1, h⟩
theorem rs_lc2 (i : Nat) {y : Str} {py spos : Pos} {D : Ends} (own : List (Str × Nat)) (vs1 : List Nat) (hN : X.N.Nodup) (ok : BlkOk X.N X.env.scope scope own) (hv : ∀ i ∈ vs1, i ∈ own.map (·.2)) (hsw : swapsWith (.ListComp elt [⟨tg, iter, ifs, 0⟩, ⟨tg1, iter1, ifs1, 0⟩] scope pos) (some (.Name y py)) spos.line X.env = pure true)
    (h : tLc2 (RI X tg iter) (gB X scope tg) (ttB X scope ifs) (tiB X scope tg1 iter1) (gB X scope tg1) (ttB X scope ifs1) (teB X scope elt) (own.map (·.2)) vs1 σ H fun v H1 => D.nx (σ.set i (some v)) H1) (hc : X.calm = true := by rfl) (hy : X.N[i]? = some y := by rfl) (hyl : X.env.scope.names.lookup y = some .local := by rfl)
    (hs : ∀ x, foldedSetIterable iter X.env x = pure x := by intro _; rfl) (hs1 : ∀ env x, foldedSetIterable iter1 env x = pure x := by intro _ _; rfl) :
    RS X (.Assign [.Name y py] (.ListComp elt [⟨tg, iter, ifs, 0⟩, ⟨tg1, iter1, ifs1, 0⟩] scope pos) spos) D σ H := ⟨_, ps_setLc2 hc hN hy hyl hsw pRI ok hv pgB ptB piB pgB ptB peB hs hs1, h⟩
theorem rts_nil {QT : Bool → Hy → Prop} (h : QT true H) : RTs X [] σ H QT := ⟨_, pts_nil, h⟩
theorem rts_one {c : Expr} {QT : Bool → Hy → Prop} (h : RT X c σ H QT) : RTs X [c] σ H QT := ⟨_, pts_one pRT, h⟩
end
end My
set_option Elab.async false
set_option linter.all false
set_option maxRecDepth 100000
set_option maxHeartbeats 4000000
/-! A2: the text by places, the facts of the head (printed by genfacts.py) -/
namespace My
open PySem PySem.Spec PyProof.Rows L2
def top (i : Nat) : Stmt := PySem.Challenge.pw_fourswaps_k66_whole_known_claims.main.body.getD i (.Pass ⟨0, 0, 0, 0⟩)
abbrev s_is_integer : Stmt := top 40
abbrev s_is_between : Stmt := top 41
abbrev s_is_word : Stmt := top 42
abbrev s_is_rising : Stmt := top 43
abbrev s_words_of : Stmt := top 48
abbrev s_is_column : Stmt := top 49
abbrev s_product_of : Stmt := top 50
abbrev s_read_columns : Stmt := top 51
abbrev s_is_part : Stmt := top 52
abbrev s_is_set_of : Stmt := top 53
abbrev s_read_lots : Stmt := top 54
abbrev s_read_model : Stmt := top 55
abbrev s_all_rows : Stmt := top 56
abbrev s_Model_init : Stmt := inClass (top 57) 0
abbrev s_Model_eq : Stmt := inClass (top 57) 1
abbrev s_check_model : Stmt := top 58
abbrev s_places : Stmt := top 59
abbrev s_values_on : Stmt := top 60
abbrev s_is_row : Stmt := top 61
abbrev s_check_row : Stmt := top 62
abbrev s_is_pair : Stmt := top 65
abbrev s_wrong_index : Stmt := top 66
abbrev s_check_counts : Stmt := top 67
abbrev s_sums_of : Stmt := top 68
abbrev s_Table_init : Stmt := inClass (top 69) 0
abbrev s_check_table : Stmt := top 71
abbrev s_shared : Stmt := top 75
abbrev s_within : Stmt := top 77
abbrev s_ears_of : Stmt := top 78
abbrev s_is_ear : Stmt := top 79
abbrev s_order_of : Stmt := top 80
abbrev s_held : Stmt := top 85
abbrev s_ends_by : Stmt := top 86
abbrev s_span : Stmt := top 89
abbrev s_leaking : Stmt := top 90
abbrev s_check_most : Stmt := top 91
abbrev s_leaks : Stmt := top 92
abbrev s_is_claim : Stmt := top 115
abbrev s_names_of : Stmt := top 116
abbrev s_first_unlike : Stmt := top 117
abbrev s_answer_to : Stmt := top 118
abbrev s_check_claims : Stmt := top 119
abbrev s_Layer_init : Stmt := inClass (top 120) 0
abbrev s_Desk_init : Stmt := inClass (top 121) 0
abbrev s_Desk_cover : Stmt := inClass (top 121) 1
abbrev s_Desk_need : Stmt := inClass (top 121) 2
abbrev s_Desk_setitem : Stmt := inClass (top 121) 3
abbrev s_Desk_contains : Stmt := inClass (top 121) 6
abbrev s_Desk_claim : Stmt := inClass (top 121) 10
abbrev s_Desk_lift : Stmt := inClass (top 121) 11
abbrev s_Desk_claims : Stmt := inClass (top 121) 16
abbrev s_Broken_init : Stmt := inClass (top 27) 0
abbrev s_w_jar : Stmt := top 123
abbrev s_w_dip : Stmt := top 124
abbrev s_w_letters : Stmt := top 125
abbrev s_w_small : Stmt := top 126
abbrev s_w_text : Stmt := top 128
abbrev s_w_rows : Stmt := top 129
abbrev s_w_row : Stmt := top 130
abbrev s_w_sums : Stmt := top 131
abbrev s_w_kin : Stmt := top 132
abbrev s_w_tale : Stmt := top 133
abbrev s_w_ask : Stmt := top 134
abbrev s_w_place : Stmt := top 135
abbrev s_w_pieces : Stmt := top 136
abbrev s_w_exchanged : Stmt := top 137
abbrev s_w_known : Stmt := top 138
abbrev s_w_range : Stmt := top 139
abbrev s_w_many : Stmt := top 140
abbrev s_w_table : Stmt := top 141
abbrev s_w_mate : Stmt := top 142
abbrev s_w_claimed : Stmt := top 143
abbrev s_w_right : Stmt := top 144
abbrev s_law : Stmt := top 145
def d_is_integer : He.DefD := ⟨("is_integer", none), "is_integer", "is_integer", defArgs s_is_integer, defBody s_is_integer, defScope s_is_integer, [], []⟩
def d_is_between : He.DefD := ⟨("is_between", none), "is_between", "is_between", defArgs s_is_between, defBody s_is_between, defScope s_is_between, [], []⟩
def d_is_word : He.DefD := ⟨("is_word", none), "is_word", "is_word", defArgs s_is_word, defBody s_is_word, defScope s_is_word, [], []⟩
def d_is_rising : He.DefD := ⟨("is_rising", none), "is_rising", "is_rising", defArgs s_is_rising, defBody s_is_rising, defScope s_is_rising, [], []⟩
def d_words_of : He.DefD := ⟨("words_of", none), "words_of", "words_of", defArgs s_words_of, defBody s_words_of, defScope s_words_of, [], []⟩
def d_is_column : He.DefD := ⟨("is_column", none), "is_column", "is_column", defArgs s_is_column, defBody s_is_column, defScope s_is_column, [], []⟩
def d_product_of : He.DefD := ⟨("product_of", none), "product_of", "product_of", defArgs s_product_of, defBody s_product_of, defScope s_product_of, [], []⟩
def d_read_columns : He.DefD := ⟨("read_columns", none), "read_columns", "read_columns", defArgs s_read_columns, defBody s_read_columns, defScope s_read_columns, [], []⟩
def d_is_part : He.DefD := ⟨("is_part", none), "is_part", "is_part", defArgs s_is_part, defBody s_is_part, defScope s_is_part, [], []⟩
def d_is_set_of : He.DefD := ⟨("is_set_of", none), "is_set_of", "is_set_of", defArgs s_is_set_of, defBody s_is_set_of, defScope s_is_set_of, [], []⟩
def d_read_lots : He.DefD := ⟨("read_lots", none), "read_lots", "read_lots", defArgs s_read_lots, defBody s_read_lots, defScope s_read_lots, [], []⟩
def d_read_model : He.DefD := ⟨("read_model", none), "read_model", "read_model", defArgs s_read_model, defBody s_read_model, defScope s_read_model, [], []⟩
def d_all_rows : He.DefD := ⟨("all_rows", none), "all_rows", "all_rows", defArgs s_all_rows, defBody s_all_rows, defScope s_all_rows, [], []⟩
def d_Model_init : He.DefD := ⟨("Model", some "__init__"), "__init__", "Model.__init__", defArgs s_Model_init, defBody s_Model_init, defScope s_Model_init, [], []⟩
def d_Model_eq : He.DefD := ⟨("Model", some "__eq__"), "__eq__", "Model.__eq__", defArgs s_Model_eq, defBody s_Model_eq, defScope s_Model_eq, [], []⟩
def d_check_model : He.DefD := ⟨("check_model", none), "check_model", "check_model", defArgs s_check_model, defBody s_check_model, defScope s_check_model, [], []⟩
def d_places : He.DefD := ⟨("places", none), "places", "places", defArgs s_places, defBody s_places, defScope s_places, [], []⟩
def d_values_on : He.DefD := ⟨("values_on", none), "values_on", "values_on", defArgs s_values_on, defBody s_values_on, defScope s_values_on, [], []⟩
def d_is_row : He.DefD := ⟨("is_row", none), "is_row", "is_row", defArgs s_is_row, defBody s_is_row, defScope s_is_row, [], []⟩
def d_check_row : He.DefD := ⟨("check_row", none), "check_row", "check_row", defArgs s_check_row, defBody s_check_row, defScope s_check_row, [], []⟩
def d_is_pair : He.DefD := ⟨("is_pair", none), "is_pair", "is_pair", defArgs s_is_pair, defBody s_is_pair, defScope s_is_pair, [], []⟩
def d_wrong_index : He.DefD := ⟨("wrong_index", none), "wrong_index", "wrong_index", defArgs s_wrong_index, defBody s_wrong_index, defScope s_wrong_index, [], []⟩
def d_check_counts : He.DefD := ⟨("check_counts", none), "check_counts", "check_counts", defArgs s_check_counts, defBody s_check_counts, defScope s_check_counts, [], []⟩
def d_sums_of : He.DefD := ⟨("sums_of", none), "sums_of", "sums_of", defArgs s_sums_of, defBody s_sums_of, defScope s_sums_of, [], []⟩
def d_Table_init : He.DefD := ⟨("Table", some "__init__"), "__init__", "Table.__init__", defArgs s_Table_init, defBody s_Table_init, defScope s_Table_init, [], []⟩
def d_check_table : He.DefD := ⟨("check_table", none), "check_table", "check_table", defArgs s_check_table, defBody s_check_table, defScope s_check_table, [], []⟩
def d_shared : He.DefD := ⟨("shared", none), "shared", "shared", defArgs s_shared, defBody s_shared, defScope s_shared, [], []⟩
def d_within : He.DefD := ⟨("within", none), "within", "within", defArgs s_within, defBody s_within, defScope s_within, [], []⟩
def d_ears_of : He.DefD := ⟨("ears_of", none), "ears_of", "ears_of", defArgs s_ears_of, defBody s_ears_of, defScope s_ears_of, [], []⟩
def d_is_ear : He.DefD := ⟨("is_ear", none), "is_ear", "is_ear", defArgs s_is_ear, defBody s_is_ear, defScope s_is_ear, [], []⟩
def d_order_of : He.DefD := ⟨("order_of", none), "order_of", "order_of", defArgs s_order_of, defBody s_order_of, defScope s_order_of, [], []⟩
def d_held : He.DefD := ⟨("held", none), "held", "held", defArgs s_held, defBody s_held, defScope s_held, [], []⟩
def d_ends_by : He.DefD := ⟨("ends_by", none), "ends_by", "ends_by", defArgs s_ends_by, defBody s_ends_by, defScope s_ends_by, [], []⟩
def d_span : He.DefD := ⟨("span", none), "span", "span", defArgs s_span, defBody s_span, defScope s_span, [], []⟩
def d_leaking : He.DefD := ⟨("leaking", none), "leaking", "leaking", defArgs s_leaking, defBody s_leaking, defScope s_leaking, [], []⟩
def d_check_most : He.DefD := ⟨("check_most", none), "check_most", "check_most", defArgs s_check_most, defBody s_check_most, defScope s_check_most, [], []⟩
def d_leaks : He.DefD := ⟨("leaks", none), "leaks", "leaks", defArgs s_leaks, defBody s_leaks, defScope s_leaks, [], []⟩
def d_is_claim : He.DefD := ⟨("is_claim", none), "is_claim", "is_claim", defArgs s_is_claim, defBody s_is_claim, defScope s_is_claim, [], []⟩
def d_names_of : He.DefD := ⟨("names_of", none), "names_of", "names_of", defArgs s_names_of, defBody s_names_of, defScope s_names_of, [], []⟩
def d_first_unlike : He.DefD := ⟨("first_unlike", none), "first_unlike", "first_unlike", defArgs s_first_unlike, defBody s_first_unlike, defScope s_first_unlike, [], []⟩
def d_answer_to : He.DefD := ⟨("answer_to", none), "answer_to", "answer_to", defArgs s_answer_to, defBody s_answer_to, defScope s_answer_to, [], []⟩
def d_check_claims : He.DefD := ⟨("check_claims", none), "check_claims", "check_claims", defArgs s_check_claims, defBody s_check_claims, defScope s_check_claims, [], []⟩
def d_Layer_init : He.DefD := ⟨("Layer", some "__init__"), "__init__", "Layer.__init__", defArgs s_Layer_init, defBody s_Layer_init, defScope s_Layer_init, [], []⟩
def d_Desk_init : He.DefD := ⟨("Desk", some "__init__"), "__init__", "Desk.__init__", defArgs s_Desk_init, defBody s_Desk_init, defScope s_Desk_init, [], []⟩
def d_Desk_cover : He.DefD := ⟨("Desk", some "cover"), "cover", "Desk.cover", defArgs s_Desk_cover, defBody s_Desk_cover, defScope s_Desk_cover, [], []⟩
def d_Desk_need : He.DefD := ⟨("Desk", some "need"), "need", "Desk.need", defArgs s_Desk_need, defBody s_Desk_need, defScope s_Desk_need, [], []⟩
def d_Desk_setitem : He.DefD := ⟨("Desk", some "__setitem__"), "__setitem__", "Desk.__setitem__", defArgs s_Desk_setitem, defBody s_Desk_setitem, defScope s_Desk_setitem, [], []⟩
def d_Desk_contains : He.DefD := ⟨("Desk", some "__contains__"), "__contains__", "Desk.__contains__", defArgs s_Desk_contains, defBody s_Desk_contains, defScope s_Desk_contains, [], []⟩
def d_Desk_claim : He.DefD := ⟨("Desk", some "claim"), "claim", "Desk.claim", defArgs s_Desk_claim, defBody s_Desk_claim, defScope s_Desk_claim, [], []⟩
def d_Desk_lift : He.DefD := ⟨("Desk", some "lift"), "lift", "Desk.lift", defArgs s_Desk_lift, defBody s_Desk_lift, defScope s_Desk_lift, [], []⟩
def d_Desk_claims : He.DefD := ⟨("Desk", some "claims"), "claims", "Desk.claims", defArgs s_Desk_claims, defBody s_Desk_claims, defScope s_Desk_claims, [], []⟩
def d_Broken_init : He.DefD := ⟨("Broken", some "__init__"), "__init__", "Broken.__init__", defArgs s_Broken_init, defBody s_Broken_init, defScope s_Broken_init, [], []⟩
def d_w_jar : He.DefD := ⟨("_law_jar", none), "_law_jar", "_law_jar", defArgs s_w_jar, defBody s_w_jar, defScope s_w_jar, [], []⟩
def d_w_dip : He.DefD := ⟨("_law_dip", none), "_law_dip", "_law_dip", defArgs s_w_dip, defBody s_w_dip, defScope s_w_dip, [], []⟩
def d_w_letters : He.DefD := ⟨("_law_letters", none), "_law_letters", "_law_letters", defArgs s_w_letters, defBody s_w_letters, defScope s_w_letters, [], []⟩
def d_w_small : He.DefD := ⟨("_law_small", none), "_law_small", "_law_small", defArgs s_w_small, defBody s_w_small, defScope s_w_small, [], []⟩
def d_w_text : He.DefD := ⟨("_law_text", none), "_law_text", "_law_text", defArgs s_w_text, defBody s_w_text, defScope s_w_text, [], []⟩
def d_w_rows : He.DefD := ⟨("_law_rows", none), "_law_rows", "_law_rows", defArgs s_w_rows, defBody s_w_rows, defScope s_w_rows, [], []⟩
def d_w_row : He.DefD := ⟨("_law_row", none), "_law_row", "_law_row", defArgs s_w_row, defBody s_w_row, defScope s_w_row, [], []⟩
def d_w_sums : He.DefD := ⟨("_law_sums", none), "_law_sums", "_law_sums", defArgs s_w_sums, defBody s_w_sums, defScope s_w_sums, [], []⟩
def d_w_kin : He.DefD := ⟨("_law_kin", none), "_law_kin", "_law_kin", defArgs s_w_kin, defBody s_w_kin, defScope s_w_kin, [], []⟩
def d_w_tale : He.DefD := ⟨("_law_tale", none), "_law_tale", "_law_tale", defArgs s_w_tale, defBody s_w_tale, defScope s_w_tale, [], []⟩
def d_w_ask : He.DefD := ⟨("_law_ask", none), "_law_ask", "_law_ask", defArgs s_w_ask, defBody s_w_ask, defScope s_w_ask, [], []⟩
def d_w_place : He.DefD := ⟨("_law_place", none), "_law_place", "_law_place", defArgs s_w_place, defBody s_w_place, defScope s_w_place, [], []⟩
def d_w_pieces : He.DefD := ⟨("_law_pieces", none), "_law_pieces", "_law_pieces", defArgs s_w_pieces, defBody s_w_pieces, defScope s_w_pieces, [], []⟩
def d_w_exchanged : He.DefD := ⟨("_law_exchanged", none), "_law_exchanged", "_law_exchanged", defArgs s_w_exchanged, defBody s_w_exchanged, defScope s_w_exchanged, [], []⟩
def d_w_known : He.DefD := ⟨("_law_known", none), "_law_known", "_law_known", defArgs s_w_known, defBody s_w_known, defScope s_w_known, [], []⟩
def d_w_range : He.DefD := ⟨("_law_range", none), "_law_range", "_law_range", defArgs s_w_range, defBody s_w_range, defScope s_w_range, [], []⟩
def d_w_many : He.DefD := ⟨("_law_many", none), "_law_many", "_law_many", defArgs s_w_many, defBody s_w_many, defScope s_w_many, [], []⟩
def d_w_table : He.DefD := ⟨("_law_table", none), "_law_table", "_law_table", defArgs s_w_table, defBody s_w_table, defScope s_w_table, [], []⟩
def d_w_mate : He.DefD := ⟨("_law_mate", none), "_law_mate", "_law_mate", defArgs s_w_mate, defBody s_w_mate, defScope s_w_mate, [], []⟩
def d_w_claimed : He.DefD := ⟨("_law_claimed", none), "_law_claimed", "_law_claimed", defArgs s_w_claimed, defBody s_w_claimed, defScope s_w_claimed, [], []⟩
def d_w_right : He.DefD := ⟨("_law_right", none), "_law_right", "_law_right", defArgs s_w_right, defBody s_w_right, defScope s_w_right, [], []⟩
def d_law : He.DefD := ⟨("law", none), "law", "law", defArgs s_law, defBody s_law, defScope s_law, [], []⟩
def fn0 : List He.DefD := [d_is_integer, d_is_between, d_is_word, d_is_rising, d_words_of, d_is_column, d_product_of, d_read_columns, d_is_part, d_is_set_of, d_read_lots, d_read_model, d_all_rows, d_Model_init, d_Model_eq, d_check_model, d_places, d_values_on, d_is_row, d_check_row, d_is_pair, d_wrong_index, d_check_counts, d_sums_of, d_Table_init]
def fn1 : List He.DefD := [d_check_table, d_shared, d_within, d_ears_of, d_is_ear, d_order_of, d_held, d_ends_by, d_span, d_leaking, d_check_most, d_leaks, d_is_claim, d_names_of, d_first_unlike, d_answer_to, d_check_claims, d_Layer_init, d_Desk_init, d_Desk_cover, d_Desk_need, d_Desk_setitem, d_Desk_contains, d_Desk_claim, d_Desk_lift]
def fn2 : List He.DefD := [d_Desk_lift, d_Broken_init, d_w_jar, d_w_dip, d_w_letters, d_w_small, d_w_text, d_w_rows, d_w_row, d_w_sums, d_w_kin, d_w_tale, d_w_ask, d_w_place, d_w_pieces, d_w_exchanged, d_w_known, d_w_range, d_w_many, d_w_table, d_w_mate, d_w_claimed, d_w_right, d_law]
def fn : List He.DefD := fn0 ++ fn1 ++ fn2
def fa0 : List He.Fa := [.glo "is_integer", .glo "is_between", .glo "is_word", .glo "is_rising", .glo "words_of", .glo "is_column", .glo "product_of", .glo "read_columns", .glo "is_part", .glo "is_set_of", .glo "read_lots", .glo "read_model", .glo "all_rows", .glo "check_model", .glo "places", .glo "values_on", .glo "is_row", .glo "check_row", .glo "is_pair", .glo "wrong_index", .glo "check_counts", .glo "sums_of", .glo "check_table", .glo "shared", .glo "within", .glo "ears_of", .glo "is_ear", .glo "order_of", .glo "held", .glo "ends_by"]
def fa1 : List He.Fa := [.glo "span", .glo "leaking", .glo "check_most", .glo "leaks", .glo "is_claim", .glo "names_of", .glo "first_unlike", .glo "answer_to", .glo "check_claims", .glo "_law_jar", .glo "_law_dip", .glo "_law_letters", .glo "_law_small", .glo "_law_text", .glo "_law_rows", .glo "_law_row", .glo "_law_sums", .glo "_law_kin", .glo "_law_tale", .glo "_law_ask", .glo "_law_place", .glo "_law_pieces", .glo "_law_exchanged", .glo "_law_known", .glo "_law_range", .glo "_law_many", .glo "_law_table", .glo "_law_mate", .glo "_law_claimed", .glo "_law_right"]
def fa2 : List He.Fa := [.glo "law", .glo "Model", .glo "Table", .glo "Layer", .glo "Desk", .glo "BadValue", .glo "InvalidText", .glo "InvalidRow", .glo "InvalidColumns", .glo "InvalidSwap", .glo "InvalidNumber", .glo "InvalidName", .glo "InvalidIndex", .glo "InvalidClaim", .glo "InvalidHole", .glo "NotAModel", .glo "NotATable", .glo "InvalidCounts", .glo "InvalidRows", .glo "InvalidSums", .glo "InvalidPairs", .glo "BadName", .glo "UnknownName", .glo "InUse", .glo "NoAnswer", .glo "OtherModels", .glo "NotAlike", .glo "TooMany", .glo "NothingToUndo", .glo "NotAsked"]
def fa3 : List He.Fa := [.glo "Broken", .glo "LENGTHS", .glo "PAIRED", .cls "Model", .mkr "Model", .cls "Table", .mkr "Table", .cls "Layer", .mkr "Layer", .cls "Desk", .mkr "Desk", .noat "Model" "text", .noat "Model" "columns", .noat "Model" "levels", .noat "Model" "lots", .noat "Model" "rows", .noat "Table" "model", .noat "Table" "counts", .noat "Table" "sums", .noat "Table" "many", .noat "Layer" "shelf", .noat "Layer" "told", .noat "Layer" "below", .noat "Layer" "height", .noat "Desk" "model", .noat "Desk" "layer", .meth "Model" "__eq__", .meth "Desk" "cover", .meth "Desk" "need", .meth "Desk" "__setitem__"]
def fa4 : List He.Fa := [.meth "Desk" "__contains__", .meth "Desk" "claim", .meth "Desk" "lift", .free "isinstance", .free "len", .free "range", .free "tuple", .free "all", .free "int", .free "sorted", .free "sum", .free "min", .free "max", .free "enumerate", .free "zip", .free "list", .free "str", .free "any", .free "repr", .free "abs", .free "divmod", .free "dict", .free "bool", .free "ValueError", .free "LookupError", .free "ArithmeticError", .int "MOST_CELLS" 256, .int "MOST_LOTS" 10, .int "MOST_COLUMNS" 6, .int "MOST_LEVELS" 4]
def fa5 : List He.Fa := [.int "MOST_COUNT" 1000000000000000000000000000000, .int "MOST_LEAK" 1000, .int "LONGEST_WORD" 8, .int "LEAST_COLUMNS" 2, .int "LEAST_LEVELS" 2, .str "LETTERS" "abcdefghijklmnopqrstuvwxyz", .str "DIGITS" "0123456789"]
def fa : List He.Fa := fa0 ++ fa1 ++ fa2 ++ fa3 ++ fa4 ++ fa5
def ts : List He.Tab := [(fun K => He.ga K "LENGTHS", ["alike", "joined", "kept", "at least"])]
def insB (K : PySem.W.Frag) (x : Str) : Bool := decide (PySem.W.findIn K (.ref (He.ga K x)) "__class__" = some (some (.builtin "object.__class__"))) && (decide (PySem.W.specialIn K (.builtin "object.__class__") "__get__" = some (some (.builtin "getset_descriptor.__get__"))) &&
  (decide (PySem.W.takesIn K (.builtin "object.__class__") = some true) && (decide (PySem.W.mroIn K (He.ga K x) (.type "object") = some true) && decide (PySem.W.kitOne K (.ref (He.ga K x)) (.ref (He.ga K x)) = some true))))
def kInt (K : PySem.W.Frag) (x k : Str) (i : Int) : Bool := match PySem.W.nsIn K (He.ga K x) k with
  | some (some (.int j _)) => decide (j = i)
  | _ => false
def kPair (K : PySem.W.Frag) (x a b : Str) : Bool := match K.lookup (He.ga K x) with
  | some ⟨.type "tuple", _, .seq its _, _⟩ => (match its.toList with
    | [.str y _, .str z _] => decide (y = a) && (decide (z = b) && decide (its.size ≤ sizeLine))
    | _ => false)
  | _ => false
def ex (K : PySem.W.Frag) : Bool := insB K "Model" && (insB K "Table" && (kInt K "LENGTHS" "alike" 3 && (kInt K "LENGTHS" "kept" 3 && (kInt K "LENGTHS" "at least" 4 && (kPair K "PAIRED" "alike" "joined" && (decide (PySem.W.noSeq K (He.ga K "Desk") = true) &&
  decide (PySem.W.findIn K (.ref (He.ga K "Model")) "__ne__" = some (some (.builtin "object.__ne__")))))))))
/-- all that the walk knows of the top: over base, the heap ahead of the law's call -/
structure EV (w : World) (K : PySem.W.Frag) (mg : Str → Option Value) (base : Heap) : Prop where
  kin : K.In base
  ns : base.Ns mainGlobals mg
  t : He.SaysT fa fn ts w K
  x : ex K = true
section
variable {w : World} {K : PySem.W.Frag} {mg : Str → Option Value} {base : Heap}
theorem EV.fact (e : EV w K mg base) (i : Nat) {f : He.Fa} (h : fa[i]? = some f) : f.ok K = true := e.t.d.fact i h
abbrev FD (K : PySem.W.Frag) (d : He.DefD) (fd : FuncData) : Prop := FunD K d.name d.qual d.params d.body d.scope [] [] (He.fAd K d.at_) fd
theorem EV.fun_ (e : EV w K mg base) (i : Nat) {d : He.DefD} (h : fn[i]? = some d) (h1 : d.dfl = [] := by rfl) (h2 : d.kwd = [] := by rfl) : ∃ fd, FD K d fd := by
  obtain ⟨fd, F⟩ := e.t.d.def_ i h
  have e1 : d.dvs K = [] := by unfold He.DefD.dvs; rw [h1]; rfl
  have e2 : d.kws K = [] := by unfold He.DefD.kws; rw [h2]; rfl
  rw [e1, e2] at F
  exact ⟨fd, F⟩
theorem EV.g_is_integer (e : EV w K mg base) : mg "is_integer" = some (.ref (He.ga K "is_integer")) := He.glo_ok e.kin e.ns (e.fact 0 rfl)
theorem EV.g_is_between (e : EV w K mg base) : mg "is_between" = some (.ref (He.ga K "is_between")) := He.glo_ok e.kin e.ns (e.fact 1 rfl)
theorem EV.g_is_word (e : EV w K mg base) : mg "is_word" = some (.ref (He.ga K "is_word")) := He.glo_ok e.kin e.ns (e.fact 2 rfl)
theorem EV.g_is_rising (e : EV w K mg base) : mg "is_rising" = some (.ref (He.ga K "is_rising")) := He.glo_ok e.kin e.ns (e.fact 3 rfl)
theorem EV.g_words_of (e : EV w K mg base) : mg "words_of" = some (.ref (He.ga K "words_of")) := He.glo_ok e.kin e.ns (e.fact 4 rfl)
theorem EV.g_is_column (e : EV w K mg base) : mg "is_column" = some (.ref (He.ga K "is_column")) := He.glo_ok e.kin e.ns (e.fact 5 rfl)
theorem EV.g_product_of (e : EV w K mg base) : mg "product_of" = some (.ref (He.ga K "product_of")) := He.glo_ok e.kin e.ns (e.fact 6 rfl)
theorem EV.g_read_columns (e : EV w K mg base) : mg "read_columns" = some (.ref (He.ga K "read_columns")) := He.glo_ok e.kin e.ns (e.fact 7 rfl)
theorem EV.g_is_part (e : EV w K mg base) : mg "is_part" = some (.ref (He.ga K "is_part")) := He.glo_ok e.kin e.ns (e.fact 8 rfl)
theorem EV.g_is_set_of (e : EV w K mg base) : mg "is_set_of" = some (.ref (He.ga K "is_set_of")) := He.glo_ok e.kin e.ns (e.fact 9 rfl)
theorem EV.g_read_lots (e : EV w K mg base) : mg "read_lots" = some (.ref (He.ga K "read_lots")) := He.glo_ok e.kin e.ns (e.fact 10 rfl)
theorem EV.g_read_model (e : EV w K mg base) : mg "read_model" = some (.ref (He.ga K "read_model")) := He.glo_ok e.kin e.ns (e.fact 11 rfl)
theorem EV.g_all_rows (e : EV w K mg base) : mg "all_rows" = some (.ref (He.ga K "all_rows")) := He.glo_ok e.kin e.ns (e.fact 12 rfl)
theorem EV.g_check_model (e : EV w K mg base) : mg "check_model" = some (.ref (He.ga K "check_model")) := He.glo_ok e.kin e.ns (e.fact 13 rfl)
theorem EV.g_places (e : EV w K mg base) : mg "places" = some (.ref (He.ga K "places")) := He.glo_ok e.kin e.ns (e.fact 14 rfl)
theorem EV.g_values_on (e : EV w K mg base) : mg "values_on" = some (.ref (He.ga K "values_on")) := He.glo_ok e.kin e.ns (e.fact 15 rfl)
theorem EV.g_is_row (e : EV w K mg base) : mg "is_row" = some (.ref (He.ga K "is_row")) := He.glo_ok e.kin e.ns (e.fact 16 rfl)
theorem EV.g_check_row (e : EV w K mg base) : mg "check_row" = some (.ref (He.ga K "check_row")) := He.glo_ok e.kin e.ns (e.fact 17 rfl)
theorem EV.g_is_pair (e : EV w K mg base) : mg "is_pair" = some (.ref (He.ga K "is_pair")) := He.glo_ok e.kin e.ns (e.fact 18 rfl)
theorem EV.g_wrong_index (e : EV w K mg base) : mg "wrong_index" = some (.ref (He.ga K "wrong_index")) := He.glo_ok e.kin e.ns (e.fact 19 rfl)
theorem EV.g_check_counts (e : EV w K mg base) : mg "check_counts" = some (.ref (He.ga K "check_counts")) := He.glo_ok e.kin e.ns (e.fact 20 rfl)
theorem EV.g_sums_of (e : EV w K mg base) : mg "sums_of" = some (.ref (He.ga K "sums_of")) := He.glo_ok e.kin e.ns (e.fact 21 rfl)
theorem EV.g_check_table (e : EV w K mg base) : mg "check_table" = some (.ref (He.ga K "check_table")) := He.glo_ok e.kin e.ns (e.fact 22 rfl)
theorem EV.g_shared (e : EV w K mg base) : mg "shared" = some (.ref (He.ga K "shared")) := He.glo_ok e.kin e.ns (e.fact 23 rfl)
theorem EV.g_within (e : EV w K mg base) : mg "within" = some (.ref (He.ga K "within")) := He.glo_ok e.kin e.ns (e.fact 24 rfl)
theorem EV.g_ears_of (e : EV w K mg base) : mg "ears_of" = some (.ref (He.ga K "ears_of")) := He.glo_ok e.kin e.ns (e.fact 25 rfl)
theorem EV.g_is_ear (e : EV w K mg base) : mg "is_ear" = some (.ref (He.ga K "is_ear")) := He.glo_ok e.kin e.ns (e.fact 26 rfl)
theorem EV.g_order_of (e : EV w K mg base) : mg "order_of" = some (.ref (He.ga K "order_of")) := He.glo_ok e.kin e.ns (e.fact 27 rfl)
theorem EV.g_held (e : EV w K mg base) : mg "held" = some (.ref (He.ga K "held")) := He.glo_ok e.kin e.ns (e.fact 28 rfl)
theorem EV.g_ends_by (e : EV w K mg base) : mg "ends_by" = some (.ref (He.ga K "ends_by")) := He.glo_ok e.kin e.ns (e.fact 29 rfl)
theorem EV.g_span (e : EV w K mg base) : mg "span" = some (.ref (He.ga K "span")) := He.glo_ok e.kin e.ns (e.fact 30 rfl)
theorem EV.g_leaking (e : EV w K mg base) : mg "leaking" = some (.ref (He.ga K "leaking")) := He.glo_ok e.kin e.ns (e.fact 31 rfl)
theorem EV.g_check_most (e : EV w K mg base) : mg "check_most" = some (.ref (He.ga K "check_most")) := He.glo_ok e.kin e.ns (e.fact 32 rfl)
theorem EV.g_leaks (e : EV w K mg base) : mg "leaks" = some (.ref (He.ga K "leaks")) := He.glo_ok e.kin e.ns (e.fact 33 rfl)
theorem EV.g_is_claim (e : EV w K mg base) : mg "is_claim" = some (.ref (He.ga K "is_claim")) := He.glo_ok e.kin e.ns (e.fact 34 rfl)
theorem EV.g_names_of (e : EV w K mg base) : mg "names_of" = some (.ref (He.ga K "names_of")) := He.glo_ok e.kin e.ns (e.fact 35 rfl)
theorem EV.g_first_unlike (e : EV w K mg base) : mg "first_unlike" = some (.ref (He.ga K "first_unlike")) := He.glo_ok e.kin e.ns (e.fact 36 rfl)
theorem EV.g_answer_to (e : EV w K mg base) : mg "answer_to" = some (.ref (He.ga K "answer_to")) := He.glo_ok e.kin e.ns (e.fact 37 rfl)
theorem EV.g_check_claims (e : EV w K mg base) : mg "check_claims" = some (.ref (He.ga K "check_claims")) := He.glo_ok e.kin e.ns (e.fact 38 rfl)
theorem EV.g_w_jar (e : EV w K mg base) : mg "_law_jar" = some (.ref (He.ga K "_law_jar")) := He.glo_ok e.kin e.ns (e.fact 39 rfl)
theorem EV.g_w_dip (e : EV w K mg base) : mg "_law_dip" = some (.ref (He.ga K "_law_dip")) := He.glo_ok e.kin e.ns (e.fact 40 rfl)
theorem EV.g_w_letters (e : EV w K mg base) : mg "_law_letters" = some (.ref (He.ga K "_law_letters")) := He.glo_ok e.kin e.ns (e.fact 41 rfl)
theorem EV.g_w_small (e : EV w K mg base) : mg "_law_small" = some (.ref (He.ga K "_law_small")) := He.glo_ok e.kin e.ns (e.fact 42 rfl)
theorem EV.g_w_text (e : EV w K mg base) : mg "_law_text" = some (.ref (He.ga K "_law_text")) := He.glo_ok e.kin e.ns (e.fact 43 rfl)
theorem EV.g_w_rows (e : EV w K mg base) : mg "_law_rows" = some (.ref (He.ga K "_law_rows")) := He.glo_ok e.kin e.ns (e.fact 44 rfl)
theorem EV.g_w_row (e : EV w K mg base) : mg "_law_row" = some (.ref (He.ga K "_law_row")) := He.glo_ok e.kin e.ns (e.fact 45 rfl)
theorem EV.g_w_sums (e : EV w K mg base) : mg "_law_sums" = some (.ref (He.ga K "_law_sums")) := He.glo_ok e.kin e.ns (e.fact 46 rfl)
theorem EV.g_w_kin (e : EV w K mg base) : mg "_law_kin" = some (.ref (He.ga K "_law_kin")) := He.glo_ok e.kin e.ns (e.fact 47 rfl)
theorem EV.g_w_tale (e : EV w K mg base) : mg "_law_tale" = some (.ref (He.ga K "_law_tale")) := He.glo_ok e.kin e.ns (e.fact 48 rfl)
theorem EV.g_w_ask (e : EV w K mg base) : mg "_law_ask" = some (.ref (He.ga K "_law_ask")) := He.glo_ok e.kin e.ns (e.fact 49 rfl)
theorem EV.g_w_place (e : EV w K mg base) : mg "_law_place" = some (.ref (He.ga K "_law_place")) := He.glo_ok e.kin e.ns (e.fact 50 rfl)
theorem EV.g_w_pieces (e : EV w K mg base) : mg "_law_pieces" = some (.ref (He.ga K "_law_pieces")) := He.glo_ok e.kin e.ns (e.fact 51 rfl)
theorem EV.g_w_exchanged (e : EV w K mg base) : mg "_law_exchanged" = some (.ref (He.ga K "_law_exchanged")) := He.glo_ok e.kin e.ns (e.fact 52 rfl)
theorem EV.g_w_known (e : EV w K mg base) : mg "_law_known" = some (.ref (He.ga K "_law_known")) := He.glo_ok e.kin e.ns (e.fact 53 rfl)
theorem EV.g_w_range (e : EV w K mg base) : mg "_law_range" = some (.ref (He.ga K "_law_range")) := He.glo_ok e.kin e.ns (e.fact 54 rfl)
theorem EV.g_w_many (e : EV w K mg base) : mg "_law_many" = some (.ref (He.ga K "_law_many")) := He.glo_ok e.kin e.ns (e.fact 55 rfl)
theorem EV.g_w_table (e : EV w K mg base) : mg "_law_table" = some (.ref (He.ga K "_law_table")) := He.glo_ok e.kin e.ns (e.fact 56 rfl)
theorem EV.g_w_mate (e : EV w K mg base) : mg "_law_mate" = some (.ref (He.ga K "_law_mate")) := He.glo_ok e.kin e.ns (e.fact 57 rfl)
theorem EV.g_w_claimed (e : EV w K mg base) : mg "_law_claimed" = some (.ref (He.ga K "_law_claimed")) := He.glo_ok e.kin e.ns (e.fact 58 rfl)
theorem EV.g_w_right (e : EV w K mg base) : mg "_law_right" = some (.ref (He.ga K "_law_right")) := He.glo_ok e.kin e.ns (e.fact 59 rfl)
theorem EV.g_law (e : EV w K mg base) : mg "law" = some (.ref (He.ga K "law")) := He.glo_ok e.kin e.ns (e.fact 60 rfl)
theorem EV.g_Model (e : EV w K mg base) : mg "Model" = some (.ref (He.ga K "Model")) := He.glo_ok e.kin e.ns (e.fact 61 rfl)
theorem EV.g_Table (e : EV w K mg base) : mg "Table" = some (.ref (He.ga K "Table")) := He.glo_ok e.kin e.ns (e.fact 62 rfl)
theorem EV.g_Layer (e : EV w K mg base) : mg "Layer" = some (.ref (He.ga K "Layer")) := He.glo_ok e.kin e.ns (e.fact 63 rfl)
theorem EV.g_Desk (e : EV w K mg base) : mg "Desk" = some (.ref (He.ga K "Desk")) := He.glo_ok e.kin e.ns (e.fact 64 rfl)
theorem EV.g_BadValue (e : EV w K mg base) : mg "BadValue" = some (.ref (He.ga K "BadValue")) := He.glo_ok e.kin e.ns (e.fact 65 rfl)
theorem EV.g_InvalidText (e : EV w K mg base) : mg "InvalidText" = some (.ref (He.ga K "InvalidText")) := He.glo_ok e.kin e.ns (e.fact 66 rfl)
theorem EV.g_InvalidRow (e : EV w K mg base) : mg "InvalidRow" = some (.ref (He.ga K "InvalidRow")) := He.glo_ok e.kin e.ns (e.fact 67 rfl)
theorem EV.g_InvalidColumns (e : EV w K mg base) : mg "InvalidColumns" = some (.ref (He.ga K "InvalidColumns")) := He.glo_ok e.kin e.ns (e.fact 68 rfl)
theorem EV.g_InvalidSwap (e : EV w K mg base) : mg "InvalidSwap" = some (.ref (He.ga K "InvalidSwap")) := He.glo_ok e.kin e.ns (e.fact 69 rfl)
theorem EV.g_InvalidNumber (e : EV w K mg base) : mg "InvalidNumber" = some (.ref (He.ga K "InvalidNumber")) := He.glo_ok e.kin e.ns (e.fact 70 rfl)
theorem EV.g_InvalidName (e : EV w K mg base) : mg "InvalidName" = some (.ref (He.ga K "InvalidName")) := He.glo_ok e.kin e.ns (e.fact 71 rfl)
theorem EV.g_InvalidIndex (e : EV w K mg base) : mg "InvalidIndex" = some (.ref (He.ga K "InvalidIndex")) := He.glo_ok e.kin e.ns (e.fact 72 rfl)
theorem EV.g_InvalidClaim (e : EV w K mg base) : mg "InvalidClaim" = some (.ref (He.ga K "InvalidClaim")) := He.glo_ok e.kin e.ns (e.fact 73 rfl)
theorem EV.g_InvalidHole (e : EV w K mg base) : mg "InvalidHole" = some (.ref (He.ga K "InvalidHole")) := He.glo_ok e.kin e.ns (e.fact 74 rfl)
theorem EV.g_NotAModel (e : EV w K mg base) : mg "NotAModel" = some (.ref (He.ga K "NotAModel")) := He.glo_ok e.kin e.ns (e.fact 75 rfl)
theorem EV.g_NotATable (e : EV w K mg base) : mg "NotATable" = some (.ref (He.ga K "NotATable")) := He.glo_ok e.kin e.ns (e.fact 76 rfl)
theorem EV.g_InvalidCounts (e : EV w K mg base) : mg "InvalidCounts" = some (.ref (He.ga K "InvalidCounts")) := He.glo_ok e.kin e.ns (e.fact 77 rfl)
theorem EV.g_InvalidRows (e : EV w K mg base) : mg "InvalidRows" = some (.ref (He.ga K "InvalidRows")) := He.glo_ok e.kin e.ns (e.fact 78 rfl)
theorem EV.g_InvalidSums (e : EV w K mg base) : mg "InvalidSums" = some (.ref (He.ga K "InvalidSums")) := He.glo_ok e.kin e.ns (e.fact 79 rfl)
theorem EV.g_InvalidPairs (e : EV w K mg base) : mg "InvalidPairs" = some (.ref (He.ga K "InvalidPairs")) := He.glo_ok e.kin e.ns (e.fact 80 rfl)
theorem EV.g_BadName (e : EV w K mg base) : mg "BadName" = some (.ref (He.ga K "BadName")) := He.glo_ok e.kin e.ns (e.fact 81 rfl)
theorem EV.g_UnknownName (e : EV w K mg base) : mg "UnknownName" = some (.ref (He.ga K "UnknownName")) := He.glo_ok e.kin e.ns (e.fact 82 rfl)
theorem EV.g_InUse (e : EV w K mg base) : mg "InUse" = some (.ref (He.ga K "InUse")) := He.glo_ok e.kin e.ns (e.fact 83 rfl)
theorem EV.g_NoAnswer (e : EV w K mg base) : mg "NoAnswer" = some (.ref (He.ga K "NoAnswer")) := He.glo_ok e.kin e.ns (e.fact 84 rfl)
theorem EV.g_OtherModels (e : EV w K mg base) : mg "OtherModels" = some (.ref (He.ga K "OtherModels")) := He.glo_ok e.kin e.ns (e.fact 85 rfl)
theorem EV.g_NotAlike (e : EV w K mg base) : mg "NotAlike" = some (.ref (He.ga K "NotAlike")) := He.glo_ok e.kin e.ns (e.fact 86 rfl)
theorem EV.g_TooMany (e : EV w K mg base) : mg "TooMany" = some (.ref (He.ga K "TooMany")) := He.glo_ok e.kin e.ns (e.fact 87 rfl)
theorem EV.g_NothingToUndo (e : EV w K mg base) : mg "NothingToUndo" = some (.ref (He.ga K "NothingToUndo")) := He.glo_ok e.kin e.ns (e.fact 88 rfl)
theorem EV.g_NotAsked (e : EV w K mg base) : mg "NotAsked" = some (.ref (He.ga K "NotAsked")) := He.glo_ok e.kin e.ns (e.fact 89 rfl)
theorem EV.g_Broken (e : EV w K mg base) : mg "Broken" = some (.ref (He.ga K "Broken")) := He.glo_ok e.kin e.ns (e.fact 90 rfl)
theorem EV.g_LENGTHS (e : EV w K mg base) : mg "LENGTHS" = some (.ref (He.ga K "LENGTHS")) := He.glo_ok e.kin e.ns (e.fact 91 rfl)
theorem EV.g_PAIRED (e : EV w K mg base) : mg "PAIRED" = some (.ref (He.ga K "PAIRED")) := He.glo_ok e.kin e.ns (e.fact 92 rfl)
theorem EV.c_Model (e : EV w K mg base) : Cls K (He.ga K "Model") := He.cls_ok (e.fact 93 rfl)
theorem EV.k_Model (e : EV w K mg base) : Mk K (He.ga K "Model") (He.ma K (He.ga K "Model") "__init__") := He.mkr_ok (e.fact 94 rfl)
theorem EV.c_Table (e : EV w K mg base) : Cls K (He.ga K "Table") := He.cls_ok (e.fact 95 rfl)
theorem EV.k_Table (e : EV w K mg base) : Mk K (He.ga K "Table") (He.ma K (He.ga K "Table") "__init__") := He.mkr_ok (e.fact 96 rfl)
theorem EV.c_Layer (e : EV w K mg base) : Cls K (He.ga K "Layer") := He.cls_ok (e.fact 97 rfl)
theorem EV.k_Layer (e : EV w K mg base) : Mk K (He.ga K "Layer") (He.ma K (He.ga K "Layer") "__init__") := He.mkr_ok (e.fact 98 rfl)
theorem EV.c_Desk (e : EV w K mg base) : Cls K (He.ga K "Desk") := He.cls_ok (e.fact 99 rfl)
theorem EV.k_Desk (e : EV w K mg base) : Mk K (He.ga K "Desk") (He.ma K (He.ga K "Desk") "__init__") := He.mkr_ok (e.fact 100 rfl)
theorem EV.n_Model_text (e : EV w K mg base) : NoAttr K (He.ga K "Model") "text" := He.noat_ok (e.fact 101 rfl)
theorem EV.n_Model_columns (e : EV w K mg base) : NoAttr K (He.ga K "Model") "columns" := He.noat_ok (e.fact 102 rfl)
theorem EV.n_Model_levels (e : EV w K mg base) : NoAttr K (He.ga K "Model") "levels" := He.noat_ok (e.fact 103 rfl)
theorem EV.n_Model_lots (e : EV w K mg base) : NoAttr K (He.ga K "Model") "lots" := He.noat_ok (e.fact 104 rfl)
theorem EV.n_Model_rows (e : EV w K mg base) : NoAttr K (He.ga K "Model") "rows" := He.noat_ok (e.fact 105 rfl)
theorem EV.n_Table_model (e : EV w K mg base) : NoAttr K (He.ga K "Table") "model" := He.noat_ok (e.fact 106 rfl)
theorem EV.n_Table_counts (e : EV w K mg base) : NoAttr K (He.ga K "Table") "counts" := He.noat_ok (e.fact 107 rfl)
theorem EV.n_Table_sums (e : EV w K mg base) : NoAttr K (He.ga K "Table") "sums" := He.noat_ok (e.fact 108 rfl)
theorem EV.n_Table_many (e : EV w K mg base) : NoAttr K (He.ga K "Table") "many" := He.noat_ok (e.fact 109 rfl)
theorem EV.n_Layer_shelf (e : EV w K mg base) : NoAttr K (He.ga K "Layer") "shelf" := He.noat_ok (e.fact 110 rfl)
theorem EV.n_Layer_told (e : EV w K mg base) : NoAttr K (He.ga K "Layer") "told" := He.noat_ok (e.fact 111 rfl)
theorem EV.n_Layer_below (e : EV w K mg base) : NoAttr K (He.ga K "Layer") "below" := He.noat_ok (e.fact 112 rfl)
theorem EV.n_Layer_height (e : EV w K mg base) : NoAttr K (He.ga K "Layer") "height" := He.noat_ok (e.fact 113 rfl)
theorem EV.n_Desk_model (e : EV w K mg base) : NoAttr K (He.ga K "Desk") "model" := He.noat_ok (e.fact 114 rfl)
theorem EV.n_Desk_layer (e : EV w K mg base) : NoAttr K (He.ga K "Desk") "layer" := He.noat_ok (e.fact 115 rfl)
theorem EV.m_Model_eq (e : EV w K mg base) : Meth K (He.ga K "Model") "__eq__" (He.ma K (He.ga K "Model") "__eq__") := He.meth_ok (e.fact 116 rfl)
theorem EV.m_Desk_cover (e : EV w K mg base) : Meth K (He.ga K "Desk") "cover" (He.ma K (He.ga K "Desk") "cover") := He.meth_ok (e.fact 117 rfl)
theorem EV.m_Desk_need (e : EV w K mg base) : Meth K (He.ga K "Desk") "need" (He.ma K (He.ga K "Desk") "need") := He.meth_ok (e.fact 118 rfl)
theorem EV.m_Desk_setitem (e : EV w K mg base) : Meth K (He.ga K "Desk") "__setitem__" (He.ma K (He.ga K "Desk") "__setitem__") := He.meth_ok (e.fact 119 rfl)
theorem EV.m_Desk_contains (e : EV w K mg base) : Meth K (He.ga K "Desk") "__contains__" (He.ma K (He.ga K "Desk") "__contains__") := He.meth_ok (e.fact 120 rfl)
theorem EV.m_Desk_claim (e : EV w K mg base) : Meth K (He.ga K "Desk") "claim" (He.ma K (He.ga K "Desk") "claim") := He.meth_ok (e.fact 121 rfl)
theorem EV.m_Desk_lift (e : EV w K mg base) : Meth K (He.ga K "Desk") "lift" (He.ma K (He.ga K "Desk") "lift") := He.meth_ok (e.fact 122 rfl)
theorem EV.z_isinstance (e : EV w K mg base) : mg "isinstance" = none := He.free_ok e.kin e.ns (e.fact 123 rfl)
theorem EV.z_len (e : EV w K mg base) : mg "len" = none := He.free_ok e.kin e.ns (e.fact 124 rfl)
theorem EV.z_range (e : EV w K mg base) : mg "range" = none := He.free_ok e.kin e.ns (e.fact 125 rfl)
theorem EV.z_tuple (e : EV w K mg base) : mg "tuple" = none := He.free_ok e.kin e.ns (e.fact 126 rfl)
theorem EV.z_all (e : EV w K mg base) : mg "all" = none := He.free_ok e.kin e.ns (e.fact 127 rfl)
theorem EV.z_int (e : EV w K mg base) : mg "int" = none := He.free_ok e.kin e.ns (e.fact 128 rfl)
theorem EV.z_sorted (e : EV w K mg base) : mg "sorted" = none := He.free_ok e.kin e.ns (e.fact 129 rfl)
theorem EV.z_sum (e : EV w K mg base) : mg "sum" = none := He.free_ok e.kin e.ns (e.fact 130 rfl)
theorem EV.z_min (e : EV w K mg base) : mg "min" = none := He.free_ok e.kin e.ns (e.fact 131 rfl)
theorem EV.z_max (e : EV w K mg base) : mg "max" = none := He.free_ok e.kin e.ns (e.fact 132 rfl)
theorem EV.z_enumerate (e : EV w K mg base) : mg "enumerate" = none := He.free_ok e.kin e.ns (e.fact 133 rfl)
theorem EV.z_zip (e : EV w K mg base) : mg "zip" = none := He.free_ok e.kin e.ns (e.fact 134 rfl)
theorem EV.z_list (e : EV w K mg base) : mg "list" = none := He.free_ok e.kin e.ns (e.fact 135 rfl)
theorem EV.z_str (e : EV w K mg base) : mg "str" = none := He.free_ok e.kin e.ns (e.fact 136 rfl)
theorem EV.z_any (e : EV w K mg base) : mg "any" = none := He.free_ok e.kin e.ns (e.fact 137 rfl)
theorem EV.z_repr (e : EV w K mg base) : mg "repr" = none := He.free_ok e.kin e.ns (e.fact 138 rfl)
theorem EV.z_abs (e : EV w K mg base) : mg "abs" = none := He.free_ok e.kin e.ns (e.fact 139 rfl)
theorem EV.z_divmod (e : EV w K mg base) : mg "divmod" = none := He.free_ok e.kin e.ns (e.fact 140 rfl)
theorem EV.z_dict (e : EV w K mg base) : mg "dict" = none := He.free_ok e.kin e.ns (e.fact 141 rfl)
theorem EV.z_bool (e : EV w K mg base) : mg "bool" = none := He.free_ok e.kin e.ns (e.fact 142 rfl)
theorem EV.z_ValueError (e : EV w K mg base) : mg "ValueError" = none := He.free_ok e.kin e.ns (e.fact 143 rfl)
theorem EV.z_LookupError (e : EV w K mg base) : mg "LookupError" = none := He.free_ok e.kin e.ns (e.fact 144 rfl)
theorem EV.z_ArithmeticError (e : EV w K mg base) : mg "ArithmeticError" = none := He.free_ok e.kin e.ns (e.fact 145 rfl)
theorem EV.i_MOST_CELLS (e : EV w K mg base) : ∃ t, mg "MOST_CELLS" = some (.int 256 t) := He.int_ok e.kin e.ns (e.fact 146 rfl)
theorem EV.i_MOST_LOTS (e : EV w K mg base) : ∃ t, mg "MOST_LOTS" = some (.int 10 t) := He.int_ok e.kin e.ns (e.fact 147 rfl)
theorem EV.i_MOST_COLUMNS (e : EV w K mg base) : ∃ t, mg "MOST_COLUMNS" = some (.int 6 t) := He.int_ok e.kin e.ns (e.fact 148 rfl)
theorem EV.i_MOST_LEVELS (e : EV w K mg base) : ∃ t, mg "MOST_LEVELS" = some (.int 4 t) := He.int_ok e.kin e.ns (e.fact 149 rfl)
theorem EV.i_MOST_COUNT (e : EV w K mg base) : ∃ t, mg "MOST_COUNT" = some (.int 1000000000000000000000000000000 t) := He.int_ok e.kin e.ns (e.fact 150 rfl)
theorem EV.i_MOST_LEAK (e : EV w K mg base) : ∃ t, mg "MOST_LEAK" = some (.int 1000 t) := He.int_ok e.kin e.ns (e.fact 151 rfl)
theorem EV.i_LONGEST_WORD (e : EV w K mg base) : ∃ t, mg "LONGEST_WORD" = some (.int 8 t) := He.int_ok e.kin e.ns (e.fact 152 rfl)
theorem EV.i_LEAST_COLUMNS (e : EV w K mg base) : ∃ t, mg "LEAST_COLUMNS" = some (.int 2 t) := He.int_ok e.kin e.ns (e.fact 153 rfl)
theorem EV.i_LEAST_LEVELS (e : EV w K mg base) : ∃ t, mg "LEAST_LEVELS" = some (.int 2 t) := He.int_ok e.kin e.ns (e.fact 154 rfl)
theorem EV.t_LETTERS (e : EV w K mg base) : ∃ t, mg "LETTERS" = some (.str "abcdefghijklmnopqrstuvwxyz" t) := He.str_ok e.kin e.ns (e.fact 155 rfl)
theorem EV.t_DIGITS (e : EV w K mg base) : ∃ t, mg "DIGITS" = some (.str "0123456789" t) := He.str_ok e.kin e.ns (e.fact 156 rfl)
theorem EV.f_is_integer (e : EV w K mg base) : ∃ fd, FD K d_is_integer fd := e.fun_ 0 rfl
theorem EV.f_is_between (e : EV w K mg base) : ∃ fd, FD K d_is_between fd := e.fun_ 1 rfl
theorem EV.f_is_word (e : EV w K mg base) : ∃ fd, FD K d_is_word fd := e.fun_ 2 rfl
theorem EV.f_is_rising (e : EV w K mg base) : ∃ fd, FD K d_is_rising fd := e.fun_ 3 rfl
theorem EV.f_words_of (e : EV w K mg base) : ∃ fd, FD K d_words_of fd := e.fun_ 4 rfl
theorem EV.f_is_column (e : EV w K mg base) : ∃ fd, FD K d_is_column fd := e.fun_ 5 rfl
theorem EV.f_product_of (e : EV w K mg base) : ∃ fd, FD K d_product_of fd := e.fun_ 6 rfl
theorem EV.f_read_columns (e : EV w K mg base) : ∃ fd, FD K d_read_columns fd := e.fun_ 7 rfl
theorem EV.f_is_part (e : EV w K mg base) : ∃ fd, FD K d_is_part fd := e.fun_ 8 rfl
theorem EV.f_is_set_of (e : EV w K mg base) : ∃ fd, FD K d_is_set_of fd := e.fun_ 9 rfl
theorem EV.f_read_lots (e : EV w K mg base) : ∃ fd, FD K d_read_lots fd := e.fun_ 10 rfl
theorem EV.f_read_model (e : EV w K mg base) : ∃ fd, FD K d_read_model fd := e.fun_ 11 rfl
theorem EV.f_all_rows (e : EV w K mg base) : ∃ fd, FD K d_all_rows fd := e.fun_ 12 rfl
theorem EV.f_Model_init (e : EV w K mg base) : ∃ fd, FD K d_Model_init fd := e.fun_ 13 rfl
theorem EV.f_Model_eq (e : EV w K mg base) : ∃ fd, FD K d_Model_eq fd := e.fun_ 14 rfl
theorem EV.f_check_model (e : EV w K mg base) : ∃ fd, FD K d_check_model fd := e.fun_ 15 rfl
theorem EV.f_places (e : EV w K mg base) : ∃ fd, FD K d_places fd := e.fun_ 16 rfl
theorem EV.f_values_on (e : EV w K mg base) : ∃ fd, FD K d_values_on fd := e.fun_ 17 rfl
theorem EV.f_is_row (e : EV w K mg base) : ∃ fd, FD K d_is_row fd := e.fun_ 18 rfl
theorem EV.f_check_row (e : EV w K mg base) : ∃ fd, FD K d_check_row fd := e.fun_ 19 rfl
theorem EV.f_is_pair (e : EV w K mg base) : ∃ fd, FD K d_is_pair fd := e.fun_ 20 rfl
theorem EV.f_wrong_index (e : EV w K mg base) : ∃ fd, FD K d_wrong_index fd := e.fun_ 21 rfl
theorem EV.f_check_counts (e : EV w K mg base) : ∃ fd, FD K d_check_counts fd := e.fun_ 22 rfl
theorem EV.f_sums_of (e : EV w K mg base) : ∃ fd, FD K d_sums_of fd := e.fun_ 23 rfl
theorem EV.f_Table_init (e : EV w K mg base) : ∃ fd, FD K d_Table_init fd := e.fun_ 24 rfl
theorem EV.f_check_table (e : EV w K mg base) : ∃ fd, FD K d_check_table fd := e.fun_ 25 rfl
theorem EV.f_shared (e : EV w K mg base) : ∃ fd, FD K d_shared fd := e.fun_ 26 rfl
theorem EV.f_within (e : EV w K mg base) : ∃ fd, FD K d_within fd := e.fun_ 27 rfl
theorem EV.f_ears_of (e : EV w K mg base) : ∃ fd, FD K d_ears_of fd := e.fun_ 28 rfl
theorem EV.f_is_ear (e : EV w K mg base) : ∃ fd, FD K d_is_ear fd := e.fun_ 29 rfl
theorem EV.f_order_of (e : EV w K mg base) : ∃ fd, FD K d_order_of fd := e.fun_ 30 rfl
theorem EV.f_held (e : EV w K mg base) : ∃ fd, FD K d_held fd := e.fun_ 31 rfl
theorem EV.f_ends_by (e : EV w K mg base) : ∃ fd, FD K d_ends_by fd := e.fun_ 32 rfl
theorem EV.f_span (e : EV w K mg base) : ∃ fd, FD K d_span fd := e.fun_ 33 rfl
theorem EV.f_leaking (e : EV w K mg base) : ∃ fd, FD K d_leaking fd := e.fun_ 34 rfl
theorem EV.f_check_most (e : EV w K mg base) : ∃ fd, FD K d_check_most fd := e.fun_ 35 rfl
theorem EV.f_leaks (e : EV w K mg base) : ∃ fd, FD K d_leaks fd := e.fun_ 36 rfl
theorem EV.f_is_claim (e : EV w K mg base) : ∃ fd, FD K d_is_claim fd := e.fun_ 37 rfl
theorem EV.f_names_of (e : EV w K mg base) : ∃ fd, FD K d_names_of fd := e.fun_ 38 rfl
theorem EV.f_first_unlike (e : EV w K mg base) : ∃ fd, FD K d_first_unlike fd := e.fun_ 39 rfl
theorem EV.f_answer_to (e : EV w K mg base) : ∃ fd, FD K d_answer_to fd := e.fun_ 40 rfl
theorem EV.f_check_claims (e : EV w K mg base) : ∃ fd, FD K d_check_claims fd := e.fun_ 41 rfl
theorem EV.f_Layer_init (e : EV w K mg base) : ∃ fd, FD K d_Layer_init fd := e.fun_ 42 rfl
theorem EV.f_Desk_init (e : EV w K mg base) : ∃ fd, FD K d_Desk_init fd := e.fun_ 43 rfl
theorem EV.f_Desk_cover (e : EV w K mg base) : ∃ fd, FD K d_Desk_cover fd := e.fun_ 44 rfl
theorem EV.f_Desk_need (e : EV w K mg base) : ∃ fd, FD K d_Desk_need fd := e.fun_ 45 rfl
theorem EV.f_Desk_setitem (e : EV w K mg base) : ∃ fd, FD K d_Desk_setitem fd := e.fun_ 46 rfl
theorem EV.f_Desk_contains (e : EV w K mg base) : ∃ fd, FD K d_Desk_contains fd := e.fun_ 47 rfl
theorem EV.f_Desk_claim (e : EV w K mg base) : ∃ fd, FD K d_Desk_claim fd := e.fun_ 48 rfl
theorem EV.f_Desk_lift (e : EV w K mg base) : ∃ fd, FD K d_Desk_lift fd := e.fun_ 49 rfl
theorem EV.f_Broken_init (e : EV w K mg base) : ∃ fd, FD K d_Broken_init fd := e.fun_ 51 rfl
theorem EV.f_w_jar (e : EV w K mg base) : ∃ fd, FD K d_w_jar fd := e.fun_ 52 rfl
theorem EV.f_w_dip (e : EV w K mg base) : ∃ fd, FD K d_w_dip fd := e.fun_ 53 rfl
theorem EV.f_w_letters (e : EV w K mg base) : ∃ fd, FD K d_w_letters fd := e.fun_ 54 rfl
theorem EV.f_w_small (e : EV w K mg base) : ∃ fd, FD K d_w_small fd := e.fun_ 55 rfl
theorem EV.f_w_text (e : EV w K mg base) : ∃ fd, FD K d_w_text fd := e.fun_ 56 rfl
theorem EV.f_w_rows (e : EV w K mg base) : ∃ fd, FD K d_w_rows fd := e.fun_ 57 rfl
theorem EV.f_w_row (e : EV w K mg base) : ∃ fd, FD K d_w_row fd := e.fun_ 58 rfl
theorem EV.f_w_sums (e : EV w K mg base) : ∃ fd, FD K d_w_sums fd := e.fun_ 59 rfl
theorem EV.f_w_kin (e : EV w K mg base) : ∃ fd, FD K d_w_kin fd := e.fun_ 60 rfl
theorem EV.f_w_tale (e : EV w K mg base) : ∃ fd, FD K d_w_tale fd := e.fun_ 61 rfl
theorem EV.f_w_ask (e : EV w K mg base) : ∃ fd, FD K d_w_ask fd := e.fun_ 62 rfl
theorem EV.f_w_place (e : EV w K mg base) : ∃ fd, FD K d_w_place fd := e.fun_ 63 rfl
theorem EV.f_w_pieces (e : EV w K mg base) : ∃ fd, FD K d_w_pieces fd := e.fun_ 64 rfl
theorem EV.f_w_exchanged (e : EV w K mg base) : ∃ fd, FD K d_w_exchanged fd := e.fun_ 65 rfl
theorem EV.f_w_known (e : EV w K mg base) : ∃ fd, FD K d_w_known fd := e.fun_ 66 rfl
theorem EV.f_w_range (e : EV w K mg base) : ∃ fd, FD K d_w_range fd := e.fun_ 67 rfl
theorem EV.f_w_many (e : EV w K mg base) : ∃ fd, FD K d_w_many fd := e.fun_ 68 rfl
theorem EV.f_w_table (e : EV w K mg base) : ∃ fd, FD K d_w_table fd := e.fun_ 69 rfl
theorem EV.f_w_mate (e : EV w K mg base) : ∃ fd, FD K d_w_mate fd := e.fun_ 70 rfl
theorem EV.f_w_claimed (e : EV w K mg base) : ∃ fd, FD K d_w_claimed fd := e.fun_ 71 rfl
theorem EV.f_w_right (e : EV w K mg base) : ∃ fd, FD K d_w_right fd := e.fun_ 72 rfl
theorem EV.f_law (e : EV w K mg base) : ∃ fd, FD K d_law fd := e.fun_ 73 rfl
theorem ins_of {x : Str} (c : Cls K (He.ga K x)) (h : insB K x = true) : C8.InsC K (He.ga K x) := by
  obtain ⟨h1, h⟩ := He.ba h
  obtain ⟨h2, h⟩ := He.ba h
  obtain ⟨h3, h⟩ := He.ba h
  obtain ⟨h4, h5⟩ := He.ba h
  exact ⟨c, of_decide_eq_true h1, of_decide_eq_true h2, of_decide_eq_true h3, of_decide_eq_true h4, of_decide_eq_true h5⟩
theorem EV.o_Model (e : EV w K mg base) : C8.InsC K (He.ga K "Model") := ins_of e.c_Model (He.ba e.x).1
theorem EV.o_Table (e : EV w K mg base) : C8.InsC K (He.ga K "Table") := ins_of e.c_Table (He.ba (He.ba e.x).2).1
theorem kInt_ok {x k : Str} {i : Int} (h : kInt K x k i = true) : ∃ t, PySem.W.nsIn K (He.ga K x) k = some (some (.int i t)) := by
  unfold kInt at h
  split at h
  · rename_i j t q
    rw [of_decide_eq_true h] at q
    exact ⟨t, q⟩
  · cases h
theorem kPair_ok {x a b : Str} (h : kPair K x a b = true) (H : L2.Hp) : SqT K H (He.ga K x) [.str a, .str b] := by
  unfold kPair at h
  split at h
  · rename_i o its n sl q
    split at h
    · rename_i y t z u q2
      obtain ⟨h1, h2⟩ := He.ba h
      obtain ⟨h2, h3⟩ := He.ba h2
      rw [of_decide_eq_true h1, of_decide_eq_true h2] at q2
      exact .inr ⟨_, its, n, q, rfl, rfl, of_decide_eq_true h3, by rw [q2]; exact .cons ⟨t, rfl⟩ (.cons ⟨u, rfl⟩ .nil)⟩
    · cases h
  · cases h
theorem EV.l_alike (e : EV w K mg base) : ∃ t, PySem.W.nsIn K (He.ga K "LENGTHS") "alike" = some (some (.int 3 t)) := kInt_ok (He.ba (He.ba (He.ba e.x).2).2).1
theorem EV.l_kept (e : EV w K mg base) : ∃ t, PySem.W.nsIn K (He.ga K "LENGTHS") "kept" = some (some (.int 3 t)) := kInt_ok (He.ba (He.ba (He.ba (He.ba e.x).2).2).2).1
theorem EV.l_least (e : EV w K mg base) : ∃ t, PySem.W.nsIn K (He.ga K "LENGTHS") "at least" = some (some (.int 4 t)) := kInt_ok (He.ba (He.ba (He.ba (He.ba (He.ba e.x).2).2).2).2).1
theorem EV.paired (e : EV w K mg base) (H : L2.Hp) : SqT K H (He.ga K "PAIRED") [.str "alike", .str "joined"] := kPair_ok (He.ba (He.ba (He.ba (He.ba (He.ba (He.ba e.x).2).2).2).2).2).1 H
theorem EV.noseq (e : EV w K mg base) : PySem.W.noSeq K (He.ga K "Desk") = true := of_decide_eq_true (He.ba (He.ba (He.ba (He.ba (He.ba (He.ba (He.ba e.x).2).2).2).2).2).2).1
theorem EV.ne_Model (e : EV w K mg base) : PySem.W.findIn K (.ref (He.ga K "Model")) "__ne__" = some (some (.builtin "object.__ne__")) := of_decide_eq_true (He.ba (He.ba (He.ba (He.ba (He.ba (He.ba (He.ba e.x).2).2).2).2).2).2).2
theorem EV.lens (e : EV w K mg base) : ∃ es n, KDict K w (He.ga K "LENGTHS") es n := e.t.tab 0
end
end My
set_option Elab.async false
set_option pp.maxSteps 1500
set_option linter.all false
set_option maxRecDepth 100000
set_option maxHeartbeats 4000000
/-! R0: what the head is asked: Broken, the property, the objects looked at -/
namespace My
open PySem PySem.Spec PyProof.Rows L2
abbrev aeMro : List Value := [.type "ArithmeticError", .type "Exception", .type "BaseException", .type "object"]
def kinTy : List (String × Bool) := [("ValueError", false), ("LookupError", false), ("ArithmeticError", true)]
def kinOwn : List (Str × Bool) := [("BadValue", false), ("BadName", false), ("NoAnswer", true), ("InvalidText", false), ("InvalidRow", false), ("InvalidColumns", false), ("InvalidSwap", false), ("InvalidNumber", false), ("InvalidName", false), ("InvalidIndex", false), ("InvalidClaim", false), ("InvalidHole", false), ("NotAModel", false), ("NotATable", false), ("InvalidCounts", false), ("InvalidRows", false), ("InvalidSums", false), ("InvalidPairs", false), ("UnknownName", false), ("InUse", false), ("OtherModels", false), ("NotAlike", false), ("TooMany", false), ("NothingToUndo", false), ("NotAsked", false), ("Broken", true)]
/-- the getter of the property claims -/
def gC (K : PySem.W.Frag) : Addr := match PySem.W.findIn K (.ref (He.ga K "Desk")) "claims" with
  | some (some (.ref p)) => (match PySem.W.recIn K p "property" with
    | some (.ref g :: _) => g
    | _ => 0)
  | _ => 0
abbrev gBr (K : PySem.W.Frag) : Addr := He.ga K "Broken"
def exB1 (K : PySem.W.Frag) : Bool := PySem.W.excInitIn K (gBr K) aeMro "ArithmeticError.__new__" && (PySem.W.excOver K (gBr K) aeMro && (PySem.W.hasDictIn K (gBr K) && (decide (PySem.W.findIn K (.ref (gBr K)) "__setattr__" = some (some (.builtin "object.__setattr__"))) &&
  (decide (PySem.W.subIn K (.ref (gBr K)) (.type "BaseException") = some true) && (decide (PySem.W.typeIn K (.ref (gBr K)) = some (.type "type")) && PySem.W.keepIn K (.ref (gBr K)))))))
def exB2 (K : PySem.W.Frag) : Bool := decide (PySem.W.findIn K (.ref (gBr K)) "__init__" = some (some (.ref (He.fAd K d_Broken_init.at_)))) && (decide (PySem.W.typeIn K (.ref (He.fAd K d_Broken_init.at_)) = some (.type "function")) && (decide (PySem.W.findIn K (.ref (gBr K)) "index" = some none) &&
  (decide (PySem.W.findIn K (.ref (gBr K)) "shown" = some none) && (decide (PySem.W.takerIn K (gBr K) "index" = some none) && decide (PySem.W.takerIn K (gBr K) "shown" = some none)))))
def exB3 (K : PySem.W.Frag) : Bool := xfB K (gBr K) && (decide (PySem.W.findIn K (.ref (gBr K)) "__class__" = some (some (.builtin "object.__class__"))) && (decide (PySem.W.specialIn K (.builtin "object.__class__") "__get__" = some (some (.builtin "getset_descriptor.__get__"))) &&
  (decide (PySem.W.takesIn K (.builtin "object.__class__") = some true) && decide (PySem.W.mroIn K (gBr K) (.type "object") = some true))))
def exB4 (K : PySem.W.Frag) : Bool := (kinTy.all fun p => decide (PySem.W.kitOne K (.ref (gBr K)) (.type p.1) = some p.2)) && ((kinOwn.all fun p => decide (PySem.W.kitOne K (.ref (gBr K)) (.ref (He.ga K p.1)) = some p.2)) &&
  decide (PySem.W.exmAny K (.ref (gBr K)) [.ref (He.ga K "BadValue"), .ref (He.ga K "BadName"), .ref (He.ga K "NoAnswer")] = some true))
def exB5 (K : PySem.W.Frag) : Bool := match PySem.W.findIn K (.ref (He.ga K "Desk")) "claims" with
  | some (some (.ref p)) => decide (PySem.W.specialIn K (.ref p) "__get__" = some (some (.builtin "property.__get__"))) && (decide (PySem.W.takesIn K (.ref p) = some true) && (match PySem.W.recIn K p "property" with
    | some (.ref _ :: _) => true
    | _ => false))
  | _ => false
def exB (K : PySem.W.Frag) : Bool := exB1 K && (exB2 K && (exB3 K && (exB4 K && exB5 K)))
abbrev GetO : Type := Addr → Option Obj
def codeA (g : GetO) (a : Addr) : List Addr := match g a with
  | some ⟨_, _, .func fd, _⟩ => He.refV fd.code
  | _ => []
def nsA (g : GetO) (a : Addr) : List Addr := match g a with
  | some ⟨_, _, .cls cd, _⟩ => [cd.ns]
  | _ => []
def valsA (g : GetO) (a : Addr) : List Addr := match g a with
  | some ⟨_, _, .dict es _, _⟩ => es.toList.flatMap fun e => He.refV e.val
  | _ => []
def fldA (g : GetO) (a : Addr) : List Addr := match g a with
  | some ⟨.type c, _, .fields vs, _⟩ => if c = "property" then vs.toList.flatMap He.refV else []
  | _ => []
/-- the top's objects, the classes' dicts, what stands in them, the getters, the code objects -/
def LG (g : GetO) : List Addr :=
  let t := valsA g mainGlobals
  let d := t.flatMap (nsA g)
  let m := d.flatMap (valsA g)
  let q := m.flatMap (fldA g)
  mainGlobals :: (t ++ (d ++ (m ++ (q ++ (t ++ (m ++ q)).flatMap (codeA g)))))
def obsL (fa : List He.Fa) (fn : List He.DefD) (ts : List He.Tab) (tf : List He.Defn) (ex : PySem.W.Frag → Bool) (g : GetO) : He.AlX := (He.obsT fa fn ts (He.frT g (LG g)), ex (He.frT g (LG g)) && He.tabsB g tf (He.frT g (LG g)))
theorem saysL_of {fa : List He.Fa} {fn : List He.DefD} {ts : List He.Tab} {tf : List He.Defn} {ex : PySem.W.Frag → Bool} {w : World} {h : Heap} (e : obsL fa fn ts tf ex h.get? = He.valX fn ts w) : He.SaysX fa fn ts tf ex w h (He.frT h.get? (LG h.get?)) := by
  have e1 : He.obsT fa fn ts (He.frT h.get? (LG h.get?)) = He.valT fn ts w := congrArg Prod.fst e
  have e2 : (ex (He.frT h.get? (LG h.get?)) && He.tabsB h.get? tf (He.frT h.get? (LG h.get?))) = true := congrArg Prod.snd e
  obtain ⟨h1, h2⟩ := He.ba e2
  have each : ∀ p ∈ tf, PySem.W.codeHdIn (He.frT h.get? (LG h.get?)) (He.cT (He.frT h.get? (LG h.get?)) p).1 (He.cT (He.frT h.get? (LG h.get?)) p).2 = true ∧ ∃ o, h.get? (He.cT (He.frT h.get? (LG h.get?)) p).2 = some o ∧ He.emptyTab o = true := fun p hp => by
    obtain ⟨h3, h4⟩ := He.ba (List.all_eq_true.mp h2 p hp)
    cases q : h.get? (He.cT (He.frT h.get? (LG h.get?)) p).2 with
    | none =>
      rw [q] at h4
      cases h4
    | some o =>
      rw [q] at h4
      exact ⟨h3, o, rfl, h4⟩
  refine ⟨e1, h1, fun p hp => (each p hp).1, fun p hp => ?_, fun p hp => ?_⟩
  · obtain ⟨_, o, q, z⟩ := each p hp
    exact He.frT_none q z
  · obtain ⟨_, o, q, z⟩ := each p hp
    rw [q, He.emptyTab_eq z]
/-- the property's getter -/
def dA : He5.DefA := ⟨gC, "claims", "Desk.claims", defArgs s_Desk_claims, defBody s_Desk_claims, defScope s_Desk_claims, [], []⟩
def obsG (fa : List He.Fa) (fn : List He.DefD) (ts : List He.Tab) (tf : List He.Defn) (ex : PySem.W.Frag → Bool) (g : GetO) : He.AlX × Bool × He.FnW := (obsL fa fn ts tf ex g, dA.ok (He.frT g (LG g)), He5.fnA (He.frT g (LG g)) (gC (He.frT g (LG g))))
def hookL (fa : List He.Fa) (fn : List He.DefD) (ts : List He.Tab) (tf : List He.Defn) (ex : PySem.W.Frag → Bool) : PySem.W.Hook where
  α := He.AlX × Bool × He.FnW
  obs := fun s => obsG fa fn ts tf ex s.heap.get?
  val := fun w => (He.valX fn ts w, true, dA.val)
  says := fun w h => ∃ K : PySem.W.Frag, K.In h ∧ He.SaysX fa fn ts tf ex w h K ∧ ∃ fd, FunD K "claims" "Desk.claims" (defArgs s_Desk_claims) (defBody s_Desk_claims) (defScope s_Desk_claims) [] [] (gC K) fd
  of := fun _ _ e => ⟨_, He.frT_in, saysL_of (congrArg Prod.fst e), He5.DefA.funD (d := dA) (congrArg (fun z => z.2.2) e) (congrArg (fun z => z.2.1) e)⟩
  keeps := fun _ _ _ ⟨K, hK, c, f⟩ k => ⟨K, PySem.W.Frag.In.keeps hK k, ⟨c.t, c.more, c.hd, c.out, fun p hp => k _ _ (c.empty p hp)⟩, f⟩
end My
set_option Elab.async false
set_option linter.all false
set_option maxRecDepth 100000
set_option maxHeartbeats 0
/-! R2: the top, its view, what is looked at (printed by genhead.py) -/
namespace My
open PySem PySem.W PySem.Calls PyProof.Rows
def nm0 : List PySem.Str := ["_wall", "__name__", "BadValue", "InvalidText", "InvalidRow", "InvalidColumns", "InvalidSwap", "InvalidNumber", "InvalidName", "InvalidIndex", "InvalidClaim", "InvalidHole", "NotAModel", "NotATable", "InvalidCounts", "InvalidRows", "InvalidSums", "InvalidPairs", "BadName", "UnknownName", "InUse", "NoAnswer", "OtherModels", "NotAlike", "TooMany", "NothingToUndo", "NotAsked", "Broken"]
def nm1 : List PySem.Str := ["MOST_COLUMNS", "MOST_LEVELS", "MOST_CELLS", "MOST_LOTS", "MOST_COUNT", "MOST_WALK", "MOST_FREE", "MOST_TABLES", "MOST_LEAK", "LETTERS", "LONGEST_WORD", "is_integer", "is_between", "is_word", "is_rising", "DIGITS", "LEAST_COLUMNS", "LEAST_LEVELS", "words_of", "is_column", "product_of", "read_columns", "is_part", "is_set_of", "read_lots", "read_model", "all_rows", "Model"]
def nm2 : List PySem.Str := ["check_model", "places", "values_on", "is_row", "check_row", "MOST_ROWS", "is_pair", "wrong_index", "check_counts", "sums_of", "Table", "table_from", "check_table", "check_two", "is_alike", "shared", "union_of", "within", "ears_of", "is_ear", "order_of", "Filling", "all_tables", "held", "ends_by", "tables_alike", "ends_among", "span"]
def nm3 : List PySem.Str := ["leaking", "check_most", "leaks", "unlike", "pieces_of", "hangs", "exchanged", "moved", "unions", "swaps_in", "check_walk", "sides_of", "tree_walk", "spread", "swaps_to", "place_of", "found_walk", "walk_between", "walk", "joined", "LENGTHS", "PAIRED", "is_claim", "names_of", "first_unlike", "answer_to", "check_claims", "Layer"]
def nm4 : List PySem.Str := ["Desk", "_law_jar", "_law_dip", "_law_letters", "_law_small", "_law_few", "_law_text", "_law_rows", "_law_row", "_law_sums", "_law_kin", "_law_tale", "_law_ask", "_law_place", "_law_pieces", "_law_exchanged", "_law_known", "_law_range", "_law_many", "_law_table", "_law_mate", "_law_claimed", "_law_right"]
def nms : List PySem.Str := nm0 ++ (nm1 ++ (nm2 ++ (nm3 ++ (nm4))))
abbrev Rw : OpenRow := OpenLaw.row PySem.Challenge.rw_fourswaps_k66_whole_known_claims
abbrev qv : Program := view Rw.prog [145]
def tf : List He.Defn := [("_law_claimed", none)]
def exA (K : Frag) : Bool := ex K && exB K
abbrev hk : Hook := hookL fa fn ts tf exA
def ob (s : SharedT) : He.AlX × Bool × He.FnW := obsG fa fn ts tf exA (HandSHeadRun.getT s)
theorem ob_eq (s : SharedT) : ob s = hk.obs s.abs := by
  have e : HandSHeadRun.getT s = s.abs.heap.get? := funext (HandSHeadRun.getT_eq s)
  show obsG fa fn ts tf exA (HandSHeadRun.getT s) = obsG fa fn ts tf exA s.abs.heap.get?
  rw [e]
abbrev KT (s : SharedT) : Frag := He.frT (HandSHeadRun.getT s) (LG (HandSHeadRun.getT s))
/-- the run, one thing looked at -/
def RunO {α : Type} (o : World → SharedT → α) (v : World → α) (w : World) : Prop := ∀ os : OsState, (HandSHeadRun.endF (HandSHeadRun.stepQ (HandSHeadRun.denQ HandSHeadRun.tabQ) Rw.prog w) 14000 Rw.prog w os).map (o w) = some (v w)
/-! the looks and the facts, in four parts: each part is run apart (the memory) -/
noncomputable def l1 (w : World) (s : SharedT) : Bool := HandSHeadRun.looksF Rw.prog (boot_heap w.params) s.abs
noncomputable def l2 (_ : World) (s : SharedT) := HandSHeadRun.seenQ qv nms (importedModules Rw.prog.main.body) (fun s => xlAt qv [] s && recOk Rw.toRowW.records s) s.abs
def p1 (_ : World) (s : SharedT) : Bool := fa.all fun f => f.ok (KT s)
def p2 (_ : World) (s : SharedT) : Bool × List He.FnW × List (Option (List (Option (PySem.Str × Int)))) × Bool × Bool × He.FnW := (fn.all (fun d => d.ok (KT s)), fn.map (fun d => He.fnW (KT s) d.at_), ts.map (fun t => He.dicW (KT s) (t.1 (KT s))), exA (KT s) && He.tabsB (HandSHeadRun.getT s) tf (KT s), dA.ok (KT s), He5.fnA (KT s) (gC (KT s)))
def v2 (w : World) : Bool × List He.FnW × List (Option (List (Option (PySem.Str × Int)))) × Bool × Bool × He.FnW := (true, fn.map He.DefD.val, ts.map (fun t => some (He.keysIn w.params t.2)), true, true, dA.val)
def joinF (b : Bool) (z : Bool × List He.FnW × List (Option (List (Option (PySem.Str × Int)))) × Bool × Bool × He.FnW) : He.AlX × Bool × He.FnW := ((((b && z.1, z.2.1), z.2.2.1), z.2.2.2.1), z.2.2.2.2.1, z.2.2.2.2.2)
theorem join_run {σ α β γ δ ε : Type} {x : Option σ} {f : σ → α} {g : σ → β} {o : σ → γ} {u : σ → δ} {k : γ → δ → ε} {a : α} {b : β} {c : γ} {d : δ} (h1 : x.map f = some a) (h2 : x.map g = some b) (h3 : x.map o = some c) (h4 : x.map u = some d) : x.map (fun s => (f s, g s, k (o s) (u s))) = some (a, b, k c d) := by
  cases x with
  | none => cases h1
  | some s =>
    have q1 : f s = a := Option.some.inj h1
    have q2 : g s = b := Option.some.inj h2
    have q3 : o s = c := Option.some.inj h3
    have q4 : u s = d := Option.some.inj h4
    show some (f s, g s, k (o s) (u s)) = some (a, b, k c d)
    rw [q1, q2, q3, q4]
theorem ob_join (w : World) (s : SharedT) : ob s = joinF (p1 w s) (p2 w s) := by
  unfold ob obsG obsL He.obsT He.obsD joinF p1 p2 KT
  with_reducible rfl
theorem val_join (w : World) : hk.val w = joinF true (v2 w) := by
  show (((((true, fn.map He.DefD.val), ts.map fun t => some (He.keysIn w.params t.2)), true), true, dA.val) : He.AlX × Bool × He.FnW) = joinF true (v2 w)
  unfold joinF v2
  rfl
theorem run_of (h1 : ∀ w : World, RunO l1 (fun _ => true) w) (h2 : ∀ w : World, RunO l2 (fun _ => openGood qv nms) w) (h3 : ∀ w : World, RunO p1 (fun _ => true) w) (h4 : ∀ w : World, RunO p2 v2 w) (w : World) : HandSHeadRun.RunEq Rw qv hk ob 14000 nms w := by
  intro os
  have q := join_run (k := joinF) (h1 w os) (h2 w os) (h3 w os) (h4 w os)
  rw [val_join w]
  have e : (fun s => (l1 w s, l2 w s, ob s)) = fun s => (l1 w s, l2 w s, joinF (p1 w s) (p2 w s)) := funext fun s => by rw [ob_join w s]
  rw [← e] at q
  exact q
end My
set_option Elab.async false
set_option linter.all false
set_option maxRecDepth 100000
set_option maxHeartbeats 0
/-! R1: the runs of the top -/
namespace My
open PySem PySem.W PySem.Calls PyProof.Rows
theorem p2_f (w : World) : RunO p2 v2 (w.withFollow "special-get-raises" false) := by
  intro os
  kernel_rfl
theorem p2_t (w : World) : RunO p2 v2 (w.withFollow "special-get-raises" true) := by
  intro os
  kernel_rfl
theorem p1_f (w : World) : RunO p1 (fun _ => true) (w.withFollow "special-get-raises" false) := by
  intro os
  kernel_rfl
theorem p1_t (w : World) : RunO p1 (fun _ => true) (w.withFollow "special-get-raises" true) := by
  intro os
  kernel_rfl
theorem l1_f (w : World) : RunO l1 (fun _ => true) (w.withFollow "special-get-raises" false) := by
  intro os
  kernel_rfl
theorem l1_t (w : World) : RunO l1 (fun _ => true) (w.withFollow "special-get-raises" true) := by
  intro os
  kernel_rfl
theorem l2_f (w : World) : RunO l2 (fun _ => openGood qv nms) (w.withFollow "special-get-raises" false) := by
  intro os
  kernel_rfl
theorem l2_t (w : World) : RunO l2 (fun _ => openGood qv nms) (w.withFollow "special-get-raises" true) := by
  intro os
  kernel_rfl
theorem run_top (w : World) : HandSHeadRun.RunEq Rw qv hk ob 14000 nms w := run_of
  (fun w => byRow2 "special-get-raises" (P := fun w => RunO l1 (fun _ => true) w) l1_f l1_t w)
  (fun w => byRow2 "special-get-raises" (P := fun w => RunO l2 (fun _ => openGood qv nms) w) l2_f l2_t w)
  (fun w => byRow2 "special-get-raises" (P := fun w => RunO p1 (fun _ => true) w) p1_f p1_t w)
  (fun w => byRow2 "special-get-raises" (P := fun w => RunO p2 v2 w) p2_f p2_t w)
  w
end My
set_option Elab.async false
set_option linter.all false
set_option maxRecDepth 100000
set_option maxHeartbeats 4000000
/-! A3: a def by its promise; texts as lists of codes; data; loops -/
namespace My
open PySem PySem.Spec PyProof.Rows L2
/-! ### a def -/
structure Has (P : Program) (w : World) (K : PySem.W.Frag) (mg : Str → Option Value) (base : Heap) (k : Nat) (x : Str) (ps : List Str) (sp : Sp) : Prop where
  ex : ∃ f fd, mg x = some (.ref f) ∧ PySem.W.keepIn K (.ref f) = true ∧ Binds K fd ps [] ∧ FnOk P w K mg base CX0 k f fd ps sp
section
variable {P : Program} {w : World} {K : PySem.W.Frag} {mg : Str → Option Value} {base : Heap}
theorem mk_ok {d : He.DefD} {fd : FuncData} {N ps : List Str} {sp : Sp} {k : Nat} (F : FD K d fd) (S : FnScope N ps d.scope) (len : ∀ vs H Q E, sp vs H Q E → vs.length = ps.length)
    (body : ∀ (cdv : Value) (A : Around) (outer : List Env) (s : Shared) (H : Hy) (vs : List V) (Q : VK) (E : XK), Room k (A.deeper (envOfC d.qual d.scope s.heap.objs.size (He.fAd K d.at_) cdv)) → sp vs H Q E →
      RB (cxOf CX0 P w K mg base N d.qual d.scope (He.fAd K d.at_) cdv A outer s H E).nox d.body { nx := fun _ H' => Q .non H', rt := Q } (start N vs) H) : FnOk P w K mg base CX0 (k + 1) (He.fAd K d.at_) fd ps sp :=
  F.ok S len fun cdv A outer s H vs Q E hr h => let ⟨t, ht, q⟩ := body cdv A outer s H vs Q E hr h; ⟨t, ht.nox, q⟩
theorem mk_has {d : He.DefD} {N ps : List Str} {sp : Sp} {k : Nat} (g : mg d.name = some (.ref (He.fAd K d.at_))) (F : ∃ fd, FD K d fd) (S : FnScope N ps d.scope)
    (hb : ∀ (kV doc pm : Value) (an : Option Addr) (cdv ct : Value) (us : List Value), us.length = ps.length → bindArgs (PySem.W.fnOf d.name d.qual d.params d.body d.scope .none kV doc pm an cdv ct) ⟨us, []⟩ = pure (ps.zip us)) (len : ∀ vs H Q E, sp vs H Q E → vs.length = ps.length)
    (body : ∀ (cdv : Value) (A : Around) (outer : List Env) (s : Shared) (H : Hy) (vs : List V) (Q : VK) (E : XK), Room k (A.deeper (envOfC d.qual d.scope s.heap.objs.size (He.fAd K d.at_) cdv)) → sp vs H Q E →
      RB (cxOf CX0 P w K mg base N d.qual d.scope (He.fAd K d.at_) cdv A outer s H E).nox d.body { nx := fun _ H' => Q .non H', rt := Q } (start N vs) H) : Has P w K mg base (k + 1) d.name ps sp := by
  obtain ⟨fd, F⟩ := F
  exact ⟨_, fd, g, F.kp, F.bindsN hb, mk_ok F S len body⟩
end
section
variable {X : Cx} {σ : L2.St} {H : Hy} {Q : VK} {pos p : Pos} {e : Expr} {es : List Expr} {k : Nat} {x : Str} {ps : List Str} {sp : Sp}
theorem r_call {j : Nat} (F : Has X.prog X.w X.K X.mg X.base k x ps sp) (hr : Room j X.A) (h : RA X (e :: es) σ H fun vs H1 => sp vs H1 Q E0) (hg : Gl X x := by rfl) (hdb : (x == ("__debug__" : Str)) = false := by decide)
    (he : starEach (e :: es) X.env = (false, eval e X.env) :: starEach es X.env := by rfl) (hpl : (backTo pos (starEach es X.env)).any (·.1) = false := by rfl) (hj : k ≤ j := by decide) : RE X (.Call (.Name x p) (e :: es) [] pos) σ H Q := by
  obtain ⟨f, fd, g, kp, b, F⟩ := F.ex
  exact ⟨_, pe_call F (hr.mono hj) hg g kp b .nil pass0 pRA hdb he hpl, h.mono fun vs H' q => by rw [List.append_nil]; exact q⟩
theorem Has.up {P : Program} {w : World} {K : PySem.W.Frag} {mg : Str → Option Value} {base : Heap} {j : Nat} (h : Has P w K mg base j x ps sp) (hj : j ≤ k) : Has P w K mg base k x ps sp :=
  let ⟨f, fd, g, kp, b, F⟩ := h.ex; ⟨f, fd, g, kp, b, F.mono hj⟩
end
/-! ### answers -/
theorem ifT {c : Bool} {A B : Prop} (e : c = true) (h : A) : if c = true then A else B := by
  rw [if_pos e]
  exact h
theorem ifF {c : Bool} {A B : Prop} (e : c = false) (h : B) : if c = true then A else B := by
  rw [e, if_neg Bool.false_ne_true]
  exact h
theorem b_t {z : V} {A B : Prop} (h : A) (hz : z = .bl true := by rfl) : isB z (fun c => if c = true then A else B) := by
  subst hz
  exact iteT (A := A) (B := B) h
theorem b_f {z : V} {A B : Prop} (h : B) (hz : z = .bl false := by rfl) : isB z (fun c => if c = true then A else B) := by
  subst hz
  exact iteF (A := A) (B := B) h
theorem b_d {p A B : Prop} [Decidable p] (h1 : p → A) (h2 : ¬ p → B) : isB (.bl (decide p)) (fun c => if c = true then A else B) := by
  by_cases h : p
  · exact b_t (h1 h) (by rw [decide_eq_true h])
  · exact b_f (h2 h) (by rw [decide_eq_false h])
theorem b_b {b : Bool} {A B : Prop} (h1 : b = true → A) (h2 : b = false → B) : isB (.bl b) (fun c => if c = true then A else B) := by
  cases b
  · exact b_f (h2 rfl)
  · exact b_t (h1 rfl)
theorem b_yes {z : V} {b : Bool} {A B : Prop} (e : b = true) (h : A) (hz : z = .bl b := by rfl) : isB z (fun c => if c = true then A else B) := b_t h (by rw [hz, e])
theorem b_no {z : V} {b : Bool} {A B : Prop} (e : b = false) (h : B) (hz : z = .bl b := by rfl) : isB z (fun c => if c = true then A else B) := b_f h (by rw [hz, e])
def isNonV : V → Bool
  | .non => true
  | _ => false
section
variable {X : Cx} {σ : L2.St} {H : Hy} {Q : VK} {QT : Bool → Hy → Prop} {pos p2 : Pos} {a : Expr} {j}
theorem dec_non (x : V) : decide (x = .non) = isNonV x := by cases x <;> rfl
theorem rt_isN (h : RE X a σ H fun x H1 => QT (isNonV x) H1) : RT X (.Compare a [.Is] [.Constant .none j p2] pos) σ H QT := rt_is (h.mono fun x H1 q => r_non (by show QT (decide (x = .non)) H1; rw [dec_non]; exact q))
theorem rt_isN0 (h : RE X a σ H fun x H1 => isNonV x = false ∧ QT false H1) : RT X (.Compare a [.Is] [.Constant .none j p2] pos) σ H QT := rt_isN (h.mono fun x H1 q => by rw [q.1]; exact q.2)
theorem rt_isN1 (h : RE X a σ H fun x H1 => isNonV x = true ∧ QT true H1) : RT X (.Compare a [.Is] [.Constant .none j p2] pos) σ H QT := rt_isN (h.mono fun x H1 q => by rw [q.1]; exact q.2)
theorem rt_notN (h : RE X a σ H fun x H1 => QT (!isNonV x) H1) : RT X (.Compare a [.IsNot] [.Constant .none j p2] pos) σ H QT := rt_isnot (h.mono fun x H1 q => r_non (by show QT (!decide (x = .non)) H1; rw [dec_non]; exact q))
theorem rt_notN0 (h : RE X a σ H fun x H1 => isNonV x = true ∧ QT false H1) : RT X (.Compare a [.IsNot] [.Constant .none j p2] pos) σ H QT := rt_notN (h.mono fun x H1 q => by rw [q.1]; exact q.2)
theorem rt_notN1 (h : RE X a σ H fun x H1 => isNonV x = false ∧ QT true H1) : RT X (.Compare a [.IsNot] [.Constant .none j p2] pos) σ H QT := rt_notN (h.mono fun x H1 q => by rw [q.1]; exact q.2)
theorem r_isN (h : RE X a σ H fun x H1 => Q (.bl (isNonV x)) H1) : RE X (.Compare a [.Is] [.Constant .none j p2] pos) σ H Q := r_is (h.mono fun x H1 q => r_non (by show Q (.bl (decide (x = .non))) H1; rw [dec_non]; exact q))
end
section
variable {K : PySem.W.Frag} {H : Hy} {Q : VK} {i j : Int} {a b : Str}
theorem add_ii (h : Q (.int (i + j)) H) : rAdd K (.int i) (.int j) H Q := h
theorem sub_ii (h : Q (.int (i - j)) H) : rSub (.int i) (.int j) H Q := h
theorem eq_ii (h : Q (.bl (decide (V.int i = V.int j))) H) : rEq K (.int i) (.int j) H Q := ⟨rfl, h⟩
theorem ne_ii (h : Q (.bl (!decide (V.int i = V.int j))) H) : rNe K (.int i) (.int j) H Q := ⟨rfl, h⟩
theorem eq_ss (h : Q (.bl (decide (V.str a = V.str b))) H) : rEq K (.str a) (.str b) H Q := ⟨rfl, h⟩
theorem ne_ss (h : Q (.bl (!decide (V.str a = V.str b))) H) : rNe K (.str a) (.str b) H Q := ⟨rfl, h⟩
theorem lt_ii (h : Q (.bl (decide (i < j))) H) : rLt (.int i) (.int j) H Q := h
theorem le_ii (h : Q (.bl (decide (i ≤ j))) H) : rLe (.int i) (.int j) H Q := h
theorem gt_ii (h : Q (.bl (decide (j < i))) H) : rGt (.int i) (.int j) H Q := h
theorem ge_ii (h : Q (.bl (decide (j ≤ i))) H) : rGe (.int i) (.int j) H Q := h
theorem lt_ss (h : Q (.bl (decide (a.cps.toList < b.cps.toList))) H) : rLt (.str a) (.str b) H Q := h
theorem le_ss (h : Q (.bl (!decide (b.cps.toList < a.cps.toList))) H) : rLe (.str a) (.str b) H Q := h
end
/-! ### texts as codes -/
def S (l : List Nat) : Str := ⟨l.toArray⟩
theorem S_inj {l m : List Nat} (h : S l = S m) : l = m := by
  have e : l.toArray = m.toArray := Str.mk.inj h
  simpa using congrArg Array.toList e
theorem S_eta (x : Str) : S x.cps.toList = x := by
  obtain ⟨a⟩ := x
  rfl
theorem S_cps (l : List Nat) : (S l).cps.toList = l := rfl
theorem S_length (l : List Nat) : (S l).length = l.length := rfl
theorem S_append (l m : List Nat) : S l ++ S m = S (l ++ m) := by
  show (⟨l.toArray ++ m.toArray⟩ : Str) = ⟨(l ++ m).toArray⟩
  rw [List.append_toArray]
theorem S_sign (c : Nat) : (⟨#[c]⟩ : Str) = S [c] := rfl
section
variable {X : Cx} {σ : L2.St} {H : Hy} {Q : VK} {pos p p2 : Pos} {e : Expr}
theorem r_isT (T : String) {N : Str} (hm : X.mg "isinstance" = none) (hT : X.mg N = none) (hv : bootBuiltins N = some (.type T)) (h : RE X e σ H fun x H1 => ∃ t b, TyX X.K H1 x (.type t) ∧ kitB t T = some b ∧ Q (.bl b) H1)
    (hg1 : Gl X "isinstance" := by rfl) (hg : Gl X N := by rfl) (hn : N ≠ "__name__" := by decide) (hdb : (N == ("__debug__" : Str)) = false := by decide)
    (he : starEach [e, .Name N p2] X.env = (false, eval e X.env) :: starEach [.Name N p2] X.env := by rfl) (hpl : (backTo pos (starEach [.Name N p2] X.env)).any (·.1) = false := by rfl) (hs2 : starEach [.Name N p2] X.env = (false, eval (.Name N p2) X.env) :: starEach [] X.env := by rfl) :
    RE X (.Call (.Name "isinstance" p) [e, .Name N p2] [] pos) σ H Q := by
  refine r_callB call_isi hm (by decide +kernel) (ra_cons (h.mono fun x H1 q => ?_) he) hg1 (by decide) (by decide) he hpl
  obtain ⟨t, b, h1, h2, q⟩ := q
  exact ra_cons (r_bltn (v := .ty T) hT hv rfl (ra_nil ⟨x, .ty T, _, _, b, rfl, .ty T, h1, kit_ty h2, q⟩) hg hn hdb) hs2
end
section
variable {X : Cx} {σ : L2.St} {H : Hy} {Q : VK} {pos : Pos} {x : Str}
theorem r_gstr {z : Str} (h : ∃ t, X.mg x = some (.str z t)) (k : Q (.str z) H) (hg : Gl X x := by rfl) (hd : (x == ("__debug__" : Str)) = false := by decide) : RE X (.Name x pos) σ H Q := let ⟨t, g⟩ := h; r_glob (v := .str z) g ⟨t, rfl⟩ k hg hd
theorem r_gint {i : Int} (h : ∃ t, X.mg x = some (.int i t)) (k : Q (.int i) H) (hg : Gl X x := by rfl) (hd : (x == ("__debug__" : Str)) = false := by decide) : RE X (.Name x pos) σ H Q := let ⟨t, g⟩ := h; r_glob (v := .int i) g ⟨t, rfl⟩ k hg hd
theorem r_gref {a : Addr} (h : X.mg x = some (.ref a)) (k : Q (.ref a) H) (hg : Gl X x := by rfl) (hd : (x == ("__debug__" : Str)) = false := by decide) : RE X (.Name x pos) σ H Q := r_glob (v := .ref a) h rfl k hg hd
end
theorem at0 {α : Type} {x : α} {l : List α} : atI (x :: l) 0 = some x := atI_nat (xs := x :: l) (j := 0) rfl
theorem at1 {α : Type} {x y : α} {l : List α} : atI (x :: y :: l) 1 = some y := atI_nat (xs := x :: y :: l) (j := 1) rfl
theorem at2 {α : Type} {x y z : α} {l : List α} : atI (x :: y :: z :: l) 2 = some z := atI_nat (xs := x :: y :: z :: l) (j := 2) rfl
theorem at3 {α : Type} {x y z u : α} {l : List α} : atI (x :: y :: z :: u :: l) 3 = some u := atI_nat (xs := x :: y :: z :: u :: l) (j := 3) rfl
/-! ### data -/
theorem Same.t {K : PySem.W.Frag} {H H' : Hy} (s : Same H H') {a : Addr} {xs : List V} (h : SqT K H a xs) : SqT K H' a xs := by
  rcases h with (h | ⟨o, h⟩) | h
  · exact .inl (.inl (s _ _ h))
  · exact .inl (.inr ⟨o, s _ _ h⟩)
  · exact .inr h
mutual
theorem Dp.ext {K : PySem.W.Frag} {H H' : Hy} (s : Same H H') : ∀ {v : V} {d : PyData}, Dp K H v d → Dp K H' v d
  | _, _, .non => .non
  | _, _, .bl b => .bl b
  | _, _, .int i => .int i
  | _, _, .str x => .str x
  | _, _, .lst h a => .lst (s.seq h) (DpAll.ext s a)
  | _, _, .tup h a => .tup (Same.t s h) (DpAll.ext s a)
theorem DpAll.ext {K : PySem.W.Frag} {H H' : Hy} (s : Same H H') : ∀ {vs : List V} {ds : List PyData}, DpAll K H vs ds → DpAll K H' vs ds
  | _, _, .nil => .nil
  | _, _, .cons h a => .cons (Dp.ext s h) (DpAll.ext s a)
end
section
variable {K : PySem.W.Frag} {H H' : Hy} {v : V} {vs : List V} {d : PyData} {ds : List PyData}
theorem same_new {p : Addr} {o : HO} (h : H p = none) : Same H (upd H p o) := fun a u e => by
  rw [upd_ne (ne_of_none e h)]
  exact e
theorem Dp.tup_ex (h : Dp K H v (.tuple ds)) : ∃ a xs, v = .ref a ∧ SqT K H a xs ∧ DpAll K H xs ds := by
  cases h with
  | tup h a => exact ⟨_, _, rfl, h, a⟩
theorem Dp.lst_ex (h : Dp K H v (.list ds)) : ∃ a xs, v = .ref a ∧ SqL K H a xs ∧ DpAll K H xs ds := by
  cases h with
  | lst h a => exact ⟨_, _, rfl, h, a⟩
theorem Dp.int_eq {i : Int} (h : Dp K H v (.int i)) : v = .int i := by cases h; rfl
theorem Dp.str_eq {x : Str} (h : Dp K H v (.str x)) : v = .str x := by cases h; rfl
theorem Dp.bl_eq {b : Bool} (h : Dp K H v (.bool b)) : v = .bl b := by cases h; rfl
theorem Dp.non_eq (h : Dp K H v .none) : v = .non := by cases h; rfl
theorem DpAll.length : ∀ {vs : List V} {ds : List PyData}, DpAll K H vs ds → vs.length = ds.length
  | _, _, .nil => rfl
  | _, _, .cons _ a => congrArg Nat.succ (DpAll.length a)
theorem DpAll.get : ∀ {vs : List V} {ds : List PyData} {i : Nat} {v : V}, DpAll K H vs ds → vs[i]? = some v → ∃ d, ds[i]? = some d ∧ Dp K H v d
  | _, _, _, _, .nil, h => by simp at h
  | _, _, 0, v, .cons a b, h => ⟨_, rfl, by cases Option.some.inj h; exact a⟩
  | _, _, i + 1, v, .cons a b, h => DpAll.get b (i := i) (by simpa using h)
theorem DpAll.get' : ∀ {vs : List V} {ds : List PyData} {i : Nat} {d : PyData}, DpAll K H vs ds → ds[i]? = some d → ∃ v, vs[i]? = some v ∧ Dp K H v d
  | _, _, _, _, .nil, h => by simp at h
  | _, _, 0, v, .cons a b, h => ⟨_, rfl, by cases Option.some.inj h; exact a⟩
  | _, _, i + 1, v, .cons a b, h => DpAll.get' b (i := i) (by simpa using h)
theorem DpAll.snoc : ∀ {vs : List V} {ds : List PyData}, DpAll K H vs ds → Dp K H v d → DpAll K H (vs ++ [v]) (ds ++ [d])
  | _, _, .nil, h => .cons h .nil
  | _, _, .cons a b, h => .cons a (DpAll.snoc b h)
theorem DpAll.ints (ns : List Int) : DpAll K H (ns.map V.int) (ns.map PyData.int) := by
  induction ns with
  | nil => exact .nil
  | cons n ns ih => exact .cons (.int n) ih
theorem DpAll.strs (ns : List Str) : DpAll K H (ns.map V.str) (ns.map PyData.str) := by
  induction ns with
  | nil => exact .nil
  | cons n ns ih => exact .cons (.str n) ih
theorem DpAll.ints_eq : ∀ {ns : List Int} {vs : List V}, DpAll K H vs (ns.map PyData.int) → vs = ns.map V.int
  | [], _, h => by cases h; rfl
  | n :: ns, _, h => by
    cases h with
    | cons a b => cases a; rw [DpAll.ints_eq b]; rfl
theorem DpAll.strs_eq : ∀ {ns : List Str} {vs : List V}, DpAll K H vs (ns.map PyData.str) → vs = ns.map V.str
  | [], _, h => by cases h; rfl
  | n :: ns, _, h => by
    cases h with
    | cons a b => cases a; rw [DpAll.strs_eq b]; rfl
end
theorem S_small {l : List Nat} (h : l.length ≤ 100000) : (S l).length ≤ sizeLine := Nat.le_trans h (by decide)
theorem small (n : Nat) (h : n ≤ 100000) : n ≤ sizeLine := Nat.le_trans h (by decide)
/-! ### for and comprehensions over a Walk -/
section
variable {X : Cx} {D : Ends} {σ : L2.St} {H : Hy} {tg : Expr} {body : List Stmt} {J : It} {n : Nat} {G : Hy → Prop} {Y : Nat → Hy → V → Hy → Prop}
theorem rfor_it (w : Walk J n G Y) (Pv : Nat → L2.St → Hy → Prop) (h0 : Pv 0 σ H) (hG : ∀ i σ H, i ≤ n → Pv i σ H → G H)
    (hs : ∀ i x σ H H', i < n → Pv i σ H → Y i H x H' → RG X tg x σ H' fun σ2 H2 => RB X body { D with nx := Pv (i + 1), ct := Pv (i + 1), bk := D.nx } σ2 H2) (hd : ∀ σ H, Pv n σ H → D.nx σ H) :
    ∃ W : Nat → Nat → L2.St → Hy → Prop, (∃ m, W 0 m σ H) ∧ ∀ i m σ H, W i m σ H →
      (J.stop i H ∧ D.nx σ H) ∨ (J.go i H ∧ ∃ N : L2.St → Hy → Prop, (∀ σ' H', N σ' H' → ∃ m', m' < m ∧ W (i + 1) m' σ' H') ∧ ∀ x H', J.yld i H x H' → RG X tg x σ H' fun σ2 H2 => RB X body { D with nx := N, ct := N, bk := D.nx } σ2 H2) :=
  for_it (g := RG X tg) (tb := RB X body) w Pv h0 hG hs hd
end
section
variable {X : Cx} {σ : L2.St} {H1 : Hy} {D : Addr} {Qd : Hy → Prop} {tg elt : Expr} {ifs : List Expr} {scope : Scope} {J : It} {n : Nat} {G : Hy → Prop} {Y : Nat → Hy → V → Hy → Prop} {vs : List Nat}
/-- f i: what stands in the new list ahead of turn i; nothing that stood is touched -/
theorem lc_f (w : Walk J n G Y) (hD : H1 D = none) (hG : ∀ H', Same H1 H' → G H') (hY : ∀ i H x H', Y i H x H' → Same H H') (f : Nat → List V) (f0 : f 0 = []) (fl : ∀ i, i ≤ n → (f i).length < sizeLine)
    (turn : ∀ i x H H', i < n → Same H1 H → H D = some (.lst (f i)) → Y i H x H' → gB X scope tg x (wipe σ vs) H' fun σ2 H2 => wipe σ2 vs = wipe σ vs ∧ ttB X scope ifs σ2 H2 fun b H3 =>
      if b = true then teB X scope elt σ2 H3 fun y H4 => Same H H4 ∧ f (i + 1) = f i ++ [y] else Same H H3 ∧ f (i + 1) = f i)
    (done : ∀ H', Same H1 H' → H' D = some (.lst (f n)) → Qd H') :
    ∃ W : Nat → Nat → Hy → Prop, (∃ m, W 0 m (upd H1 D (.lst []))) ∧ ∀ i m H, W i m H →
      (J.stop i H ∧ Qd H) ∨ (J.go i H ∧ ∃ Nx : Hy → Prop, (∀ H', Nx H' → ∃ m', m' < m ∧ W (i + 1) m' H') ∧ ∀ x H', J.yld i H x H' → gB X scope tg x (wipe σ vs) H' fun σ2 H2 => wipe σ2 vs = wipe σ vs ∧ ttB X scope ifs σ2 H2 fun b H3 =>
        if b = true then teB X scope elt σ2 H3 fun y H4 => ∃ acc, H4 D = some (.lst acc) ∧ acc.length < sizeLine ∧ Nx (upd H4 D (.lst (acc ++ [y]))) else Nx H3) := by
  have s1 : ∀ {H o}, Same H1 H → Same H1 (upd H D o) := fun {H o} s a u e => by
    rw [upd_ne (ne_of_none e hD)]
    exact s a u e
  refine lc_it w (fun i H => Same H1 H ∧ H D = some (.lst (f i))) ⟨same_new hD, by rw [f0]; exact upd_same⟩ (fun i H _ p => hG H p.1) (fun i x H H' hi p y => ?_) fun H p => done H p.1 p.2
  have t := turn i x H H' hi p.1 p.2 y
  intro s0 H0 C cl fp
  refine (t s0 H0 C cl fp).mono fun σ2 H2 q => ⟨q.1, ?_⟩
  intro s0 H0 C cl fp
  obtain ⟨t2, ht2, q2⟩ := q.2 s0 H0 C cl fp
  refine ⟨fun σ' H' Q' => t2 σ' H' (fun b H3 => if b = true then teB X scope elt σ' H3 fun y H4 => Same H H4 ∧ f (i + 1) = f i ++ [y] else Same H H3 ∧ f (i + 1) = f i) ∧ ∀ b H3, (if b = true then teB X scope elt σ' H3 fun y H4 => Same H H4 ∧ f (i + 1) = f i ++ [y] else Same H H3 ∧ f (i + 1) = f i) → Q' b H3,
    ⟨fun pins s σ' H' Q' I z => ?_⟩, q2, fun b H3 z => ?_⟩
  · exact thn (ht2.run pins s σ' H' _ I z.1) fun u s1 ⟨H1, I1, q3⟩ => ⟨H1, I1, z.2 u H1 q3⟩
  · cases b with
    | true =>
      rw [if_pos rfl] at z ⊢
      intro s0 H0 C cl fp
      refine (z s0 H0 C cl fp).mono fun y H4 z2 => ⟨f i, z2.1 D _ p.2, fl i (Nat.le_of_lt hi), s1 (fun a u e => z2.1 a u (p.1 a u e)), ?_⟩
      rw [z2.2]
      exact upd_same
    | false =>
      rw [if_neg Bool.false_ne_true] at z ⊢
      refine ⟨fun a u e => z.1 a u (p.1 a u e), ?_⟩
      rw [z.2]
      exact z.1 D _ p.2
end
/-- the target a name, no tests: turn i gives y i -/
theorem lc_n {X : Cx} {σ : L2.St} {H1 : Hy} {D : Addr} {Qd : Hy → Prop} {elt : Expr} {scope : Scope} {J : It} {n : Nat} {G : Hy → Prop} {Y : Nat → Hy → V → Hy → Prop} {x : Str} {px : Pos} (j : Nat) (w : Walk J n G Y) (hD : H1 D = none) (hG : ∀ H', Same H1 H' → G H') (hY : ∀ i H x H', Y i H x H' → Same H H')
    (ys : List V) (hn : ys.length = n) (hz : n < sizeLine) (turn : ∀ i v H H', i < n → Same H1 H' → Y i H v H' → teB X scope elt ((wipe σ [j]).set j (some v)) H' fun y H4 => Same H' H4 ∧ ys[i]? = some y)
    (done : ∀ H', Same H1 H' → H' D = some (.lst ys) → Qd H') (hN : X.N.Nodup) (hj : X.N[j]? = some x := by rfl) (hx : ∀ (s : Shared) (H0 : Hy) (C : Addr) (cl : List (Str × Addr)) (fp : List Addr), Loc (X.blk s H0 scope (compEnvC scope cl C X.env) fp).env.scope x := by first | exact fun _ _ _ _ _ => Or.inl rfl | exact fun _ _ _ _ _ => Or.inr rfl)
    (hf : ∀ (s : Shared) (H0 : Hy) (C : Addr) (cl : List (Str × Addr)) (fp : List Addr), (X.blk s H0 scope (compEnvC scope cl C X.env) fp).fn x = true ∨ (X.blk s H0 scope (compEnvC scope cl C X.env) fp).env.scope.names.lookup x = some .local := by first | exact fun _ _ _ _ _ => Or.inr rfl | exact fun _ _ _ _ _ => Or.inl rfl) :
    ∃ W : Nat → Nat → Hy → Prop, (∃ m, W 0 m (upd H1 D (.lst []))) ∧ ∀ i m H, W i m H →
      (J.stop i H ∧ Qd H) ∨ (J.go i H ∧ ∃ Nx : Hy → Prop, (∀ H', Nx H' → ∃ m', m' < m ∧ W (i + 1) m' H') ∧ ∀ v H', J.yld i H v H' → gB X scope (.Name x px) v (wipe σ [j]) H' fun σ2 H2 => wipe σ2 [j] = wipe σ [j] ∧ ttB X scope [] σ2 H2 fun b H3 =>
        if b = true then teB X scope elt σ2 H3 fun y H4 => ∃ acc, H4 D = some (.lst acc) ∧ acc.length < sizeLine ∧ Nx (upd H4 D (.lst (acc ++ [y]))) else Nx H3) := by
  refine lc_f w hD hG hY (fun i => ys.take i) (by simp) (fun i hi => ?_) (fun i v H H' hi s1 hd y => ?_) fun H' s1 hd => done H' s1 (by rw [hd, ← hn, List.take_length])
  · rw [List.length_take]
    omega
  · intro s0 H0 C cl fp
    refine rg_name j hN ?_ hj (hx s0 H0 C cl fp) (hf s0 H0 C cl fp)
    refine ⟨?_, ?_⟩
    · show ((wipe σ []).set j none |>.set j (some v) |>.set j none) = (wipe σ []).set j none
      simp [wipe]
    · intro s0 H0 C cl fp
      refine rts_nil ?_
      rw [if_pos rfl]
      intro s0 H0 C cl fp
      have s2 : Same H H' := hY i H v H' y
      refine (turn i v H H' hi (fun a u e => s2 a u (s1 a u e)) y s0 H0 C cl fp).mono fun y' H4 q => ⟨fun a u e => q.1 a u (s2 a u e), ?_⟩
      obtain ⟨h1, h2⟩ := List.getElem?_eq_some_iff.mp q.2
      rw [List.take_succ, q.2]
      rfl
end My
set_option Elab.async false
set_option linter.all false
set_option maxRecDepth 100000
set_option maxHeartbeats 4000000
/-! U1: zip and enumerate over texts and tuples -/
namespace My
open PySem PySem.Spec PyProof.Rows L2
/-- what zip and enumerate draw from -/
structure Src (P : Program) (w : World) (K : PySem.W.Frag) : Type where
  n : Nat
  f : Nat → V → Prop
  ok : Hy → Prop
  tn : Addr → Nat → Heap → Prop
  live : ∀ it i h, tn it i h → ∃ o, h.get? it = some o ∧ ∀ v, o.data ≠ .cell v
  frame : ∀ it i h h', tn it i h → (∀ o, h.get? it = some o → h'.get? it = some o) → tn it i h'
  draws : ∀ X : Cx, X.prog = P → X.w = w → X.K = K → X.calm = true → ∀ (pins : List (Addr × Obj)) (σ : L2.St) (H : Hy) (s : Shared), L2.Inv X pins σ H s → ok H → ∀ it, H it = none →
    ∃ (fp : List Addr) (Pv : Nat → Value → Prop) (St : Nat → Heap → Prop), it ∈ fp ∧ (∀ b ∈ fp, b = it ∨ ∃ o, H b = some o) ∧ Draws P w X.A.in1 it fp n Pv St ∧ (∀ i u, Pv i u → ∃ x, L2.RelV x u ∧ f i x) ∧ (∀ i, tn it i s.heap → St i s.heap) ∧ ∀ i h, St i h → tn it i h
section
variable {X : Cx} {pins : List (Addr × Obj)} {σ : L2.St} {H : Hy} {s : Shared}
theorem item_of {tg : Expr} {I : Addr} {fp wr : List Addr} {n i : Nat} {Y : Nat → Heap → Value → Heap → Prop} {St : Nat → Heap → Prop} {E : Value → Shared → Prop} (W : GoesN X.prog X.w X.A tg I fp wr n Y St) (I0 : L2.Inv X pins σ H s) (hst : St i s.heap) (hi : i < n)
    (fpT : List Addr) (hwr : ∀ b ∈ wr, FpOk X pins H b) (hfp : ∀ b ∈ fpT, H b = none ∧ b < s.heap.objs.size) (R : V → Hy → Prop) (tn' : Heap → Prop)
    (hY : ∀ v h', Y i s.heap v h' → St (i + 1) h' → ∃ T xs its, v = .ref T ∧ s.heap.objs.size ≤ T ∧ Vals xs its ∧ h'.IsTuple T its.toArray ∧ xs.length ≤ sizeLine ∧ (H T = none → R (.ref T) (upd H T (.tup xs))) ∧ tn' h') :
    wpAny (model X.prog X.w) X.A (pyNext (.ref I)) (fun r s1 => ∃ u, r = some u ∧ wpAny (model X.prog X.w) X.A (letOwnedTupleGo tg (.ref I) u) (fun _ s2 => ∃ x H', L2.Inv X pins σ H' s2 ∧ L2.RelV x u ∧ R x H' ∧ tn' s2.heap ∧ ∀ b ∈ fpT, H' b = none) E s1) E s := by
  refine W.goes i s (fun u s2 => ∃ x H', L2.Inv X pins σ H' s2 ∧ L2.RelV x u ∧ R x H' ∧ tn' s2.heap ∧ ∀ b ∈ fpT, H' b = none) E hi hst fun v h' tk hy st' hk htk => ?_
  obtain ⟨T, xs, its, rfl, hT, rv, ht, hz, hR, htn⟩ := hY v h' hy st'
  have hn : H T = none := I0.hok.fresh hT
  have new : ObjOk X.prog X.w (upd H T (.tup xs)) h' T (.tup xs) := ⟨hz, its, rv, ht⟩
  refine ⟨.ref T, _, I0.turnedNew (t' := tk) (ch := wr) hk hwr hT new, rfl, hR hn, htn, fun b hb => ?_⟩
  rw [upd_ne (Nat.ne_of_lt (Nat.lt_of_lt_of_le (hfp b hb).2 hT))]
  exact (hfp b hb).1
theorem done_of {tg : Expr} {I : Addr} {fp wr : List Addr} {n : Nat} {Y : Nat → Heap → Value → Heap → Prop} {St : Nat → Heap → Prop} {E : Value → Shared → Prop} (W : GoesN X.prog X.w X.A tg I fp wr n Y St) (I0 : L2.Inv X pins σ H s) (hst : St n s.heap)
    (hwr : ∀ b ∈ wr, FpOk X pins H b) : wpAny (model X.prog X.w) X.A (pyNext (.ref I)) (fun r s1 => r = none ∧ L2.Inv X pins σ H s1) E s := by
  refine W.stops s (fun s1 => L2.Inv X pins σ H s1) E hst fun h' tk hk htk => ?_
  refine I0.step (g' := s.gens) (d' := s.drawn) (ch := wr) (fun b hb => ⟨(hwr b hb).2.2.2.1, (hwr b hb).2.1, (hwr b hb).2.2.2.2.1, (hwr b hb).2.2.2.2.2⟩) (fun b o _ _ hc e _ => hk b o hc e) (fun b o _ _ hc e _ => ⟨o.slots, hk b o hc e⟩)
    (fun b o _ e n => n) (fun b o hc e => ⟨o, hk b o hc e⟩) (fun b xs e => e) (fun b o u e => e) (fun b ps e => ⟨#[], by rw [e]; simp⟩) (fun m hm => let ⟨o, es, ep, e, r⟩ := hm; ⟨o, es, ep, hk _ _ (fun q => (hwr _ q).2.1 rfl) e, r⟩) (fun b u e => ?_) I0.bare
  have nch : ∀ c u, H c = some u → c ∉ wr := fun c u q z => by
    have := (hwr c z).1
    rw [q] at this
    cases this
  refine (I0.hok b u e).stay (fun c v hc q => hk c v ?_ q) (fun _ q => q) fun _ _ q => q
  rcases hc with rfl | hc
  · exact nch _ _ e
  · exact nch _ _ hc
end
theorem meets_enum1 {v : Value} {o : Obj} {Hh : Heap → Prop} (B : Begins v o Hh) :
    Meets (Builtin.«enumerate.__new__» ⟨[.type "enumerate", v], []⟩) (fun _ R s => Hh s.heap ∧
      R (.ok (.ret (.ref (s.heap.push o).objs.size))) { s with heap := (s.heap.push o).push { cls := .type "enumerate", data := .fields #[.none, .bool false, .ref s.heap.objs.size, rawInt 0, .none, .none] } }) :=
  .of_wp fun prog w A R s h => by
    obtain ⟨hp, g, d, tk, os⟩ := s
    obtain ⟨h1, h⟩ := h
    have hsub := sub_enumerate
    have q1 : ∀ {A' : Around} {E : Value → Shared → Prop} {Q : Value → Shared → Prop}, Q (.ref hp.objs.size) ⟨hp.push o, g, d, tk, os⟩ → wpAny (model prog w) A' (pyIter v) Q E ⟨hp, g, d, tk, os⟩ := fun q => B.iter prog w _ _ ⟨hp, g, d, tk, os⟩ _ h1 q
    wp_walk using q1
    refine wpAny_stack_any fun st => wpAny_pure ?_
    split
    · rename_i c _ _ _ _ _
      cases (c == Value.type "enumerate") <;> (wp_walk using q1; exact ⟨_, rfl, h⟩)
    · wp_walk using q1
      exact ⟨_, rfl, h⟩
theorem enum_begins1 {prog : Program} {w : World} {A : Around} {E : Value → Shared → Prop} {s : Shared} {v : Value} {o : Obj} {Hh : Heap → Prop} {Q : Value → Shared → Prop} (B : Begins v o Hh) (h1 : Hh s.heap)
    (h : ∀ h', IsEnum h' (s.heap.objs.size + 1) s.heap.objs.size 0 .none → h'.get? s.heap.objs.size = some o → h'.objs.size = s.heap.objs.size + 2 → (∀ b u, s.heap.get? b = some u → h'.get? b = some u) → Q (.ref (s.heap.objs.size + 1)) { s with heap := h' }) :
    wpAny (model prog w) A (call (.type "enumerate") [v]) Q E s := by
  refine callType_new F.called_enumerate (by decide) (F.typeCall_enumerate_1 _) (F.newCall_enumerate_1 _) (fun obj => F.args_object_init_2 obj _) F.entry_enumerate_new (meets_enum1 B) ⟨h1, ?_⟩
  have hz : (s.heap.push o).objs.size = s.heap.objs.size + 1 := Heap.size_push ..
  show _ ∧ _
  rw [hz]
  have he : IsEnum ((s.heap.push o).push { cls := .type "enumerate", data := .fields #[.none, .bool false, .ref s.heap.objs.size, rawInt 0, .none, .none] }) (s.heap.objs.size + 1) s.heap.objs.size 0 .none := by
    have q := Heap.get?_push_size (s.heap.push o) (o := { cls := .type "enumerate", data := .fields #[.none, .bool false, .ref s.heap.objs.size, rawInt 0, .none, .none] }) rfl
    rw [hz] at q
    exact q
  exact ⟨⟨_, he, rfl⟩, h _ he (Heap.get?_push_of_some _ (Heap.get?_push_size _ B.free)) (by rw [Heap.size_push, hz]) fun b u x => Heap.get?_push_of_some _ (Heap.get?_push_of_some _ x)⟩
theorem nd5 (n : Nat) : [n + 4, n + 2, n + 3, n, n + 1].Nodup := by
  simp only [List.nodup_cons, List.mem_cons, List.not_mem_nil, or_false, not_or]
  refine ⟨⟨?_, ?_, ?_, ?_⟩, ⟨?_, ?_, ?_⟩, ⟨?_, ?_⟩, ?_, not_false, List.nodup_nil⟩ <;> omega
theorem le5 (n c : Nat) (h : c = n + 4 ∨ c = n + 2 ∨ c = n + 3 ∨ c = n ∨ c = n + 1) : n ≤ c := by omega
section
variable {P : Program} {w : World} {K : PySem.W.Frag}
/-- enumerate(source) -/
def ItE (S : Src P w K) : It := ⟨fun i H => i < S.n ∧ S.ok H, fun i H v H' => ∃ T x, v = .ref T ∧ H T = none ∧ H' = upd H T (.tup [.int (i : Nat), x]) ∧ S.f i x, fun i H => i = S.n ∧ S.ok H⟩
theorem turn_E (S : Src P w K) {elts : List Expr} {kk : Nat} {tpos : Pos} (e it : Addr) (hne : e ≠ it) : Turn P w K (.Tuple elts kk tpos) (ItE S) [e, it] e (fun i h => (∃ old, IsEnum h e it (0 + (i : Int)) old) ∧ S.tn it i h) where
  mem := by simp
  obj := fun i h st b hb => by
    obtain ⟨⟨old, he⟩, ht⟩ := st
    have e' : b = e ∨ b = it := by simpa using hb
    rcases e' with z | z
    · rw [z]; exact ⟨_, he, fun v q => nomatch q⟩
    · rw [z]; exact S.live _ _ _ ht
  keep := fun i h h' st k => let ⟨⟨old, he⟩, ht⟩ := st; ⟨⟨old, k e (by simp) _ he⟩, S.frame _ _ _ _ ht fun o q => k it (by simp) o q⟩
  item := by
    intro X hP hw hK hc i pins s σ H E I hf st hg
    subst hP hw hK
    obtain ⟨⟨old, he⟩, ht⟩ := st
    obtain ⟨hi, hok⟩ := hg
    obtain ⟨fp, Pv, St, h1, h2, D, h3, h4, h5⟩ := S.draws X rfl rfl rfl hc pins σ H s I hok it (hf it (by simp)).1
    have hef : e ∉ fp := fun z => by
      rcases h2 e z with q | ⟨o, q⟩
      · exact hne q
      · rw [(hf e (by simp)).1] at q; cases q
    have hel : e < s.heap.objs.size := Heap.lt_size he
    obtain ⟨o, ho, _⟩ := S.live _ _ _ ht
    have hil : it < s.heap.objs.size := Heap.lt_size ho
    refine item_of (GoesN.enumFrom 0 D e hne hef h1) I ⟨⟨old, he⟩, h4 i ht⟩ hi [e, it] hf (fun b hb => ⟨(hf b hb).1, ?_⟩) _ (fun h => (∃ old, IsEnum h e it (0 + ((i + 1 : Nat) : Int)) old) ∧ S.tn it (i + 1) h) fun v h' hy st' => ?_
    · have e' : b = e ∨ b = it := by simpa using hb
      rcases e' with z | z
      · rw [z]; exact hel
      · rw [z]; exact hil
    · obtain ⟨T, t, u, rfl, hT, hu, htu⟩ := hy
      obtain ⟨x, rx, fx⟩ := h3 i u hu
      refine ⟨T, [.int (i : Nat), x], [.int (0 + (i : Int)) t, u], rfl, hT, .cons ⟨t, by rw [Int.zero_add]⟩ (.cons rx .nil), htu, by show 2 ≤ sizeLine; decide, fun hn => ⟨T, x, rfl, hn, rfl, fx⟩, st'.1, h5 _ _ st'.2⟩
  done := by
    intro X hP hw hK hc i pins s σ H E I hf st hg
    subst hP hw hK
    obtain ⟨⟨old, he⟩, ht⟩ := st
    obtain ⟨hi, hok⟩ := hg
    obtain ⟨fp, Pv, St, h1, h2, D, h3, h4, h5⟩ := S.draws X rfl rfl rfl hc pins σ H s I hok it (hf it (by simp)).1
    have hef : e ∉ fp := fun z => by
      rcases h2 e z with q | ⟨o, q⟩
      · exact hne q
      · rw [(hf e (by simp)).1] at q; cases q
    refine done_of (GoesN.enumFrom (elts := elts) (x1 := kk) (pos := tpos) 0 D e hne hef h1) I ?_ hf
    rw [hi] at ht he
    exact ⟨⟨old, he⟩, h4 _ ht⟩
  self := fun A i s Q E st h => let ⟨⟨_, he⟩, _⟩ := st; wpAny_pyIter_enum he h
/-- zip(source, source) -/
def ItZ (S1 S2 : Src P w K) : It := ⟨fun i H => i < min S1.n S2.n ∧ S1.ok H ∧ S2.ok H, fun i H v H' => ∃ T x y, v = .ref T ∧ H T = none ∧ H' = upd H T (.tup [x, y]) ∧ S1.f i x ∧ S2.f i y, fun i H => i = min S1.n S2.n ∧ S1.ok H ∧ S2.ok H⟩
theorem turn_Z (S1 S2 : Src P w K) {elts : List Expr} {kk : Nat} {tpos : Pos} (z TI TO i1 i2 : Addr) (nd : [z, TI, TO, i1, i2].Nodup) :
    Turn P w K (.Tuple elts kk tpos) (ItZ S1 S2) [z, TI, TO, i1, i2] z (fun i h => IsZip h z TI TO .none ∧ IsTupOf2 h TI (.ref i1) (.ref i2) ∧ (∃ a1 a2, IsTupOf2 h TO a1 a2) ∧ S1.tn i1 i h ∧ S2.tn i2 i h) where
  mem := by simp
  obj := fun i h st b hb => by
    obtain ⟨h1, h2, ⟨a1, a2, h3⟩, h4, h5⟩ := st
    have e' : b = z ∨ b = TI ∨ b = TO ∨ b = i1 ∨ b = i2 := by simpa using hb
    rcases e' with z' | z' | z' | z' | z' <;> rw [z']
    · exact ⟨_, h1, fun v q => nomatch q⟩
    · exact ⟨_, h2, fun v q => nomatch q⟩
    · exact ⟨_, h3, fun v q => nomatch q⟩
    · exact S1.live _ _ _ h4
    · exact S2.live _ _ _ h5
  keep := fun i h h' st k => by
    obtain ⟨h1, h2, ⟨a1, a2, h3⟩, h4, h5⟩ := st
    exact ⟨k z (by simp) _ h1, k TI (by simp) _ h2, ⟨a1, a2, k TO (by simp) _ h3⟩, S1.frame _ _ _ _ h4 fun o q => k i1 (by simp) o q, S2.frame _ _ _ _ h5 fun o q => k i2 (by simp) o q⟩
  item := by
    intro X hP hw hK hc i pins s σ H E I hf st hg
    subst hP hw hK
    obtain ⟨h1, h2, ⟨a1, a2, h3⟩, h4, h5⟩ := st
    obtain ⟨hi, k1, k2⟩ := hg
    obtain ⟨fp, Pv, St, d1, d2, D, d3, d4, d5⟩ := S1.draws X rfl rfl rfl hc pins σ H s I k1 i1 (hf i1 (by simp)).1
    obtain ⟨fp', Pv', St', e1, e2, D', e3, e4, e5⟩ := S2.draws X rfl rfl rfl hc pins σ H s I k2 i2 (hf i2 (by simp)).1
    simp only [List.nodup_cons, List.mem_cons, List.not_mem_nil, or_false, not_or] at nd
    have nf : ∀ b ∈ [z, TI, TO, i1, i2], b ≠ i1 → b ∉ fp := fun b hb n q => by
      rcases d2 b q with r | ⟨o, r⟩
      · exact n r
      · rw [(hf b hb).1] at r; cases r
    have nf' : ∀ b ∈ [z, TI, TO, i1, i2], b ≠ i2 → b ∉ fp' := fun b hb n q => by
      rcases e2 b q with r | ⟨o, r⟩
      · exact n r
      · rw [(hf b hb).1] at r; cases r
    have SP : ZipSep2 z TI TO i1 i2 fp fp' := ⟨fun q => nd.1.1 q.symm, fun q => nd.1.2.1 q.symm, nd.2.1.1, nd.2.1.2.1, d1, nf z (by simp) nd.1.2.2.1, nf TO (by simp) nd.2.2.1.1, nd.2.1.2.2, e1, nf' z (by simp) nd.1.2.2.2, nf' TO (by simp) nd.2.2.1.2,
      nf' i1 (by simp) nd.2.2.2.1, nf i2 (by simp) fun q => nd.2.2.2.1 q.symm⟩
    have hlt : ∀ b ∈ [z, TI, TO, i1, i2], b < s.heap.objs.size := fun b hb => by
      have e' : b = z ∨ b = TI ∨ b = TO ∨ b = i1 ∨ b = i2 := by simpa using hb
      rcases e' with z' | z' | z' | z' | z' <;> rw [z']
      · exact Heap.lt_size h1
      · exact Heap.lt_size h2
      · exact Heap.lt_size h3
      · obtain ⟨o, ho, _⟩ := S1.live _ _ _ h4; exact Heap.lt_size ho
      · obtain ⟨o, ho, _⟩ := S2.live _ _ _ h5; exact Heap.lt_size ho
    refine item_of (GoesN.zip2 SP D D') I ⟨h1, h2, ⟨a1, a2, h3⟩, d4 i h4, e4 i h5⟩ hi [z, TI, TO, i1, i2] (fun b hb => hf b ?_) (fun b hb => ⟨(hf b hb).1, hlt b hb⟩) _ (fun h => IsZip h z TI TO .none ∧ IsTupOf2 h TI (.ref i1) (.ref i2) ∧ (∃ a1 a2, IsTupOf2 h TO a1 a2) ∧ S1.tn i1 (i + 1) h ∧ S2.tn i2 (i + 1) h) fun v h' hy st' => ?_
    · have e' : b = z ∨ b = TO ∨ b = i1 ∨ b = i2 := by simpa using hb
      rcases e' with z' | z' | z' | z' <;> rw [z'] <;> simp
    · obtain ⟨T, u, u', rfl, hT, hu, hu', htu⟩ := hy
      obtain ⟨x, rx, fx⟩ := d3 i u hu
      obtain ⟨y, ry, fy⟩ := e3 i u' hu'
      exact ⟨T, [x, y], [u, u'], rfl, hT, .cons rx (.cons ry .nil), htu, by show 2 ≤ sizeLine; decide, fun hn => ⟨T, x, y, rfl, hn, rfl, fx, fy⟩, st'.1, st'.2.1, st'.2.2.1, d5 _ _ st'.2.2.2.1, e5 _ _ st'.2.2.2.2⟩
  done := by
    intro X hP hw hK hc i pins s σ H E I hf st hg
    subst hP hw hK
    obtain ⟨h1, h2, ⟨a1, a2, h3⟩, h4, h5⟩ := st
    obtain ⟨hi, k1, k2⟩ := hg
    obtain ⟨fp, Pv, St, d1, d2, D, d3, d4, d5⟩ := S1.draws X rfl rfl rfl hc pins σ H s I k1 i1 (hf i1 (by simp)).1
    obtain ⟨fp', Pv', St', e1, e2, D', e3, e4, e5⟩ := S2.draws X rfl rfl rfl hc pins σ H s I k2 i2 (hf i2 (by simp)).1
    simp only [List.nodup_cons, List.mem_cons, List.not_mem_nil, or_false, not_or] at nd
    have nf : ∀ b ∈ [z, TI, TO, i1, i2], b ≠ i1 → b ∉ fp := fun b hb n q => by
      rcases d2 b q with r | ⟨o, r⟩
      · exact n r
      · rw [(hf b hb).1] at r; cases r
    have nf' : ∀ b ∈ [z, TI, TO, i1, i2], b ≠ i2 → b ∉ fp' := fun b hb n q => by
      rcases e2 b q with r | ⟨o, r⟩
      · exact n r
      · rw [(hf b hb).1] at r; cases r
    have SP : ZipSep2 z TI TO i1 i2 fp fp' := ⟨fun q => nd.1.1 q.symm, fun q => nd.1.2.1 q.symm, nd.2.1.1, nd.2.1.2.1, d1, nf z (by simp) nd.1.2.2.1, nf TO (by simp) nd.2.2.1.1, nd.2.1.2.2, e1, nf' z (by simp) nd.1.2.2.2, nf' TO (by simp) nd.2.2.1.2,
      nf' i1 (by simp) nd.2.2.2.1, nf i2 (by simp) fun q => nd.2.2.2.1 q.symm⟩
    refine done_of (GoesN.zip2 (elts := elts) (x1 := kk) (pos := tpos) SP D D') I ?_ (fun b hb => hf b ?_)
    · rw [hi] at h4 h5
      exact ⟨h1, h2, ⟨a1, a2, h3⟩, d4 _ h4, e4 _ h5⟩
    · have e' : b = z ∨ b = TO ∨ b = i1 ∨ b = i2 := by simpa using hb
      rcases e' with z' | z' | z' | z' <;> rw [z'] <;> simp
  self := fun A i s Q E st h => wpAny_pyIter_zip st.1 h
/-! ### the sources -/
/-- a text -/
def Src.text (x : Str) (t : Tok) : Src P w K where
  n := x.cps.size
  f := fun i v => ∃ c, x.cps[i]? = some c ∧ v = .str ⟨#[c]⟩
  ok := fun _ => True
  tn := fun it i h => h.IsStrIter it (strIterType x) x t i
  live := fun it i h st => let ⟨o, ho, _, hd⟩ := st; ⟨o, ho, fun v q => by rw [hd] at q; cases q⟩
  frame := fun it i h h' st k => let ⟨o, ho, hc, hd⟩ := st; ⟨o, k o ho, hc, hd⟩
  draws := fun X hP hw hK hc pins σ H s I _ it hn => by
    subst hP hw hK
    exact ⟨[it], _, _, by simp, fun b hb => .inl (by simpa using hb), Draws.text (A := X.A.in1) (I.ok.hd hc) it x t, fun i u ⟨c, k, h1, h2⟩ => ⟨.str ⟨#[c]⟩, ⟨k, h2⟩, c, h1, rfl⟩, fun i h => h, fun i h st => st⟩
/-- a tracked tuple -/
def Src.tup (a : Addr) (xs : List V) : Src P w K where
  n := xs.length
  f := fun i v => xs[i]? = some v
  ok := fun H => Rd H a (.tup xs)
  tn := fun it i h => h.IsTupleIter it a i
  live := fun it i h st => let ⟨o, ho, _, hd⟩ := st; ⟨o, ho, fun v q => by rw [hd] at q; cases q⟩
  frame := fun it i h h' st k => let ⟨o, ho, hc, hd⟩ := st; ⟨o, k o ho, hc, hd⟩
  draws := fun X hP hw hK hc pins σ H s I hok it hn => by
    subst hP hw hK
    obtain ⟨its, rv, ht, hz⟩ := I.tuple (.inl hok)
    have ha : ∃ o, H a = some o := by
      rcases hok with h | ⟨o, h⟩
      · exact ⟨_, h⟩
      · exact ⟨_, h⟩
    have hne : a ≠ it := fun q => by
      obtain ⟨o, h⟩ := ha
      rw [q, hn] at h
      cases h
    have hl := rv.length
    have D := Draws.tuple (prog := X.prog) (w := X.w) (A := X.A.in1) (I.ok.hd hc) it a hne its.toArray
    rw [List.size_toArray, ← hl] at D
    refine ⟨[it, a], _, _, by simp, fun b hb => ?_, D, fun i u hu => ?_, fun i h => ⟨h, ht⟩, fun i h st => st.1⟩
    · have e' : b = it ∨ b = a := by simpa using hb
      rcases e' with z | z
      · exact .inl z
      · rw [z]; exact .inr ha
    · have hu' : its[i]? = some u := by simpa using hu
      cases e : xs[i]? with
      | none =>
        have := rv.none_of e
        rw [hu'] at this
        cases this
      | some x =>
        obtain ⟨u2, h1, h2⟩ := rv.get e
        rw [hu'] at h1
        cases h1
        exact ⟨x, h2, rfl⟩
theorem walk_E (S : Src P w K) : Walk (ItE S) S.n S.ok (fun i H v H' => ∃ T x, v = .ref T ∧ H T = none ∧ H' = upd H T (.tup [.int (i : Nat), x]) ∧ S.f i x) :=
  ⟨fun i H hi h => ⟨hi, h⟩, fun H h => ⟨rfl, h⟩, fun i H x H' _ _ y => y⟩
theorem walk_Z (S1 S2 : Src P w K) : Walk (ItZ S1 S2) (min S1.n S2.n) (fun H => S1.ok H ∧ S2.ok H) (fun i H v H' => ∃ T x y, v = .ref T ∧ H T = none ∧ H' = upd H T (.tup [x, y]) ∧ S1.f i x ∧ S2.f i y) :=
  ⟨fun i H hi h => ⟨hi, h⟩, fun H h => ⟨rfl, h⟩, fun i H x H' _ _ y => y⟩
/-- a value as a source: how its iterator begins -/
structure SrcV (P : Program) (w : World) (K : PySem.W.Frag) (v : V) (H : Hy) (S : Value → Src P w K) : Prop where
  beg : ∀ X : Cx, X.prog = P → X.w = w → X.K = K → ∀ (pins : List (Addr × Obj)) (σ : L2.St) (s : Shared) (u : Value), L2.Inv X pins σ H s → L2.RelV v u → ∃ o Hh, Begins u o Hh ∧ Hh s.heap ∧ ∀ it h', h'.get? it = some o → (S u).tn it 0 h'
def tokOf : Value → Tok
  | .str _ t => t
  | _ => 0
theorem srcV_text {x : Str} {H : Hy} : SrcV P w K (.str x) H (fun u => Src.text x (tokOf u)) := ⟨fun X hP hw hK pins σ s u I r => by
  obtain ⟨t, rfl⟩ := r
  exact ⟨_, _, begins_text x t, trivial, fun it h' e => ⟨_, e, rfl, rfl⟩⟩⟩
theorem srcV_tup {a : Addr} {xs : List V} {H : Hy} (h : Rd H a (.tup xs)) : SrcV P w K (.ref a) H (fun _ => Src.tup a xs) := ⟨fun X hP hw hK pins σ s u I r => by
  subst hP hw hK
  cases r
  obtain ⟨its, rv, ht, hz⟩ := I.tuple (.inl h)
  exact ⟨_, _, begins_tuple a its.toArray, ht, fun it h' e => ⟨_, e, rfl, rfl⟩⟩⟩
end
section
variable {X : Cx} {σ : L2.St} {H : Hy} {pos p tpos : Pos} {a b : Expr} {elts : List Expr} {kk : Nat} {R : It → Hy → Prop}
theorem ri_zip (hm : X.mg "zip" = none) (h : RA X [a, b] σ H fun vs H1 => ∃ v1 v2 S1 S2, vs = [v1, v2] ∧ SrcV X.prog X.w X.K v1 H1 S1 ∧ SrcV X.prog X.w X.K v2 H1 S2 ∧ ∀ u1 u2, R (ItZ (S1 u1) (S2 u2)) H1) (hg : Gl X "zip" := by rfl)
    (hs : starEach [a, b] X.env = (false, eval a X.env) :: starEach [b] X.env := by rfl) (hpl : (backTo pos (starEach [b] X.env)).any (·.1) = false := by rfl) : RI X (.Tuple elts kk tpos) (.Call (.Name "zip" p) [a, b] [] pos) σ H R := by
  obtain ⟨t, ht, q⟩ := h
  refine ⟨fun σ H R' => ∃ R1, t σ H (fun vs H1 => ∃ v1 v2 S1 S2, vs = [v1, v2] ∧ SrcV X.prog X.w X.K v1 H1 S1 ∧ SrcV X.prog X.w X.K v2 H1 S2 ∧ ∀ u1 u2, R1 (ItZ (S1 u1) (S2 u2)) H1) ∧ ∀ J H1, R1 J H1 → R' J H1, ⟨fun pins s σ H R' I h => ?_⟩, R, q, fun _ _ z => z⟩
  obtain ⟨R1, q, j⟩ := h
  refine Call_ (ld_blt I hg hm PyProof.Rows.boot_zip (PyProof.Rows.callWith_type1 (thn (ht.run pos pins s σ H _ I q) fun us s1 ⟨vs, H1, I1, r1, q1⟩ => ?_) hs hpl))
  obtain ⟨v1, v2, S1, S2, rfl, c1, c2, q2⟩ := q1
  obtain ⟨u1, u2, rfl, r1, r2⟩ := vals2 r1
  obtain ⟨o1, g1, B1, k1, t1⟩ := c1.beg X rfl rfl rfl pins σ s1 u1 I1 r1
  obtain ⟨o2, g2, B2, k2, t2⟩ := c2.beg X rfl rfl rfl pins σ s1 u2 I1 r2
  refine zip_begins2 B1 B2 k1 k2 fun h' hz hTI hTO h1 h2 hsz hk => wpAny_pyIter_zip hz ?_
  have I2 : L2.Inv X pins σ H1 { s1 with heap := h' } := I1.kept (t' := s1.toks) hk
  refine ⟨s1.heap.objs.size + 4, [s1.heap.objs.size + 4, s1.heap.objs.size + 2, s1.heap.objs.size + 3, s1.heap.objs.size, s1.heap.objs.size + 1], _, _, H1, rfl, I2,
    turn_Z (S1 u1) (S2 u2) (s1.heap.objs.size + 4) (s1.heap.objs.size + 2) (s1.heap.objs.size + 3) s1.heap.objs.size (s1.heap.objs.size + 1) (nd5 _), ⟨hz, hTI, ⟨_, _, hTO⟩, t1 _ _ h1, t2 _ _ h2⟩, fun c hcm => ?_, j _ _ (q2 u1 u2)⟩
  have e' : c = s1.heap.objs.size + 4 ∨ c = s1.heap.objs.size + 2 ∨ c = s1.heap.objs.size + 3 ∨ c = s1.heap.objs.size ∨ c = s1.heap.objs.size + 1 := by simpa using hcm
  have hle : s1.heap.objs.size ≤ c := le5 _ _ e'
  exact I1.fpOk hle (I1.hok.fresh hle)
theorem ri_zipL (hm : X.mg "zip" = none) (h : RA X [a, b] σ H fun vs H1 => ∃ p q xs ys, vs = [.ref p, .ref q] ∧ SqL X.K H1 p xs ∧ SqL X.K H1 q ys ∧ R (Itz X.K p q) H1) (hg : Gl X "zip" := by rfl)
    (hs : starEach [a, b] X.env = (false, eval a X.env) :: starEach [b] X.env := by rfl) (hpl : (backTo pos (starEach [b] X.env)).any (·.1) = false := by rfl) : RI X (.Tuple elts kk tpos) (.Call (.Name "zip" p) [a, b] [] pos) σ H R := ⟨_, pi_zip hg hm pRA hs hpl, h⟩
theorem ri_enum (hm : X.mg "enumerate" = none) (h : RA X [a] σ H fun vs H1 => ∃ v S, vs = [v] ∧ SrcV X.prog X.w X.K v H1 S ∧ ∀ u, R (ItE (S u)) H1) (hg : Gl X "enumerate" := by rfl) (hs : starEach [a] X.env = (false, eval a X.env) :: starEach [] X.env := by rfl) (hpl : (backTo pos (starEach [] X.env)).any (·.1) = false := by rfl) :
    RI X (.Tuple elts kk tpos) (.Call (.Name "enumerate" p) [a] [] pos) σ H R := by
  obtain ⟨t, ht, q⟩ := h
  refine ⟨fun σ H R' => ∃ R1, t σ H (fun vs H1 => ∃ v S, vs = [v] ∧ SrcV X.prog X.w X.K v H1 S ∧ ∀ u, R1 (ItE (S u)) H1) ∧ ∀ J H1, R1 J H1 → R' J H1, ⟨fun pins s σ H R' I h => ?_⟩, R, q, fun _ _ z => z⟩
  obtain ⟨R1, q, j⟩ := h
  refine Call_ (ld_blt I hg hm boot_enumerate (PyProof.Rows.callWith_type1 (thn (ht.run pos pins s σ H _ I q) fun us s1 ⟨vs, H1, I1, r1, q1⟩ => ?_) hs hpl))
  obtain ⟨v, S, rfl, c, q2⟩ := q1
  obtain ⟨u, rfl, r⟩ := vals1 r1
  obtain ⟨o, g1, B, k1, t1⟩ := c.beg X rfl rfl rfl pins σ s1 u I1 r
  refine enum_begins1 B k1 fun h' he h1 hsz hk => wpAny_pyIter_enum he ?_
  have I2 : L2.Inv X pins σ H1 { s1 with heap := h' } := I1.kept (t' := s1.toks) hk
  refine ⟨s1.heap.objs.size + 1, [s1.heap.objs.size + 1, s1.heap.objs.size], _, _, H1, rfl, I2, turn_E (S u) (s1.heap.objs.size + 1) s1.heap.objs.size (Nat.succ_ne_self _), ⟨⟨_, he⟩, t1 _ _ h1⟩, fun c hcm => ?_, j _ _ (q2 u)⟩
  have e' : c = s1.heap.objs.size + 1 ∨ c = s1.heap.objs.size := by simpa using hcm
  have hle : s1.heap.objs.size ≤ c := by
    rcases e' with z | z <;> rw [z]
    · exact Nat.le_add_right _ _
    · exact Nat.le_refl _
  exact I1.fpOk hle (I1.hok.fresh hle)
end
end My
set_option Elab.async false
set_option pp.maxSteps 1500
set_option linter.all false
set_option maxRecDepth 100000
set_option maxHeartbeats 4000000
/-! U2: enumerate of a zip, at the machine -/
namespace My
open PySem PySem.Spec PyProof.Rows L2
section
variable {prog : Program} {w : World} {A : Around} {E : Value → Shared → Prop} {s : Shared} {z TI TO i1 i2 T e : Addr} {fp1 fp2 : List Addr} {n1 n2 i : Nat} {P1 P2 : Nat → Value → Prop} {St1 St2 : Nat → Heap → Prop} {f : Bool} {oT : Obj} {a1 a2 : Value}
/-- zip's next while the tuple that it gave last is still held: a new one -/
theorem zip_item_held {Q : Value → Shared → Prop} (S : ZipSep2 z TI TO i1 i2 fp1 fp2) (D1 : Draws prog w A i1 fp1 n1 P1 St1) (D2 : Draws prog w A i2 fp2 n2 P2 St2) (hz : PySem.IsZipHeld s.heap z TI TO T f) (hT : s.heap.get? T = some oT)
    (hTI : IsTupOf2 s.heap TI (.ref i1) (.ref i2)) (st1 : St1 i s.heap) (st2 : St2 i s.heap) (hlt1 : i < n1) (hlt2 : i < n2)
    (hQ : ∀ x1 x2 h' tk, P1 i x1 → P2 i x2 → PySem.IsZipHeld h' z TI TO T true → St1 (i + 1) h' → St2 (i + 1) h' → IsTupOf2 h' s.heap.objs.size x1 x2 → h'.objs.size = s.heap.objs.size + 1 →
      (∀ c o, c ≠ z → c ≠ i1 → c ≠ i2 → s.heap.get? c = some o → h'.get? c = some o) → Q (.ref s.heap.objs.size) { s with heap := h', toks := tk }) :
    wpAny (model prog w) A (Builtin.«zip.__next__» ⟨[.ref z], []⟩) (fun fin s' => ∃ v, fin = .done (.ret v) ∧ Q v s') E s := by
  obtain ⟨hp, g, d, tk0, os⟩ := s
  show wpAny _ _ (field (.ref z) 2 >>= _) _ _ _; refine wpAny_bind (wpAny_field hz rfl (x := .bool false) rfl ?_)
  show wpAny _ _ (field (.ref z) 3 >>= _) _ _ _; refine wpAny_bind (wpAny_field hz rfl (x := .ref TI) rfl (wpAny_bind (wpAny_seqItems hTI rfl ?_)))
  show wpAny _ _ (Builtin.SmallTypes.ownedTupleIsFree (.ref z) >>= _) _ _ _
  refine wpAny_bind (PySem.wpAny_tupleHeld_zip hz hT fun g1 hz1 hs1 => ?_)
  replace hs1 : Heap.SameBut z hp g1 := hs1
  simp only [Bool.false_eq_true, if_false]
  refine wpAny_bind ?_
  rw [← Array.forIn_toList]
  simp only [List.forIn_cons, List.forIn_nil]
  refine wpAny_bind (wpAny_bind (wpAny_holding ?_))
  show wpAny _ _ (Builtin.SmallTypes.nextOf (.ref i1) >>= _) _ _ ⟨g1, g, d, tk0, os⟩
  refine wpAny_bind (D1.item i _ _ _ hlt1 (D1.over st1 hs1 S.zf1) fun x1 p1 tk1 hx1 sn1 hp1 => wpAny_pure (wpAny_pure ?_))
  replace hp1 : Heap.SameBut i1 g1 p1 := hp1
  refine wpAny_bind (wpAny_bind (wpAny_holding ?_))
  show wpAny _ _ (Builtin.SmallTypes.nextOf (.ref i2) >>= _) _ _ ⟨p1, g, d, tk1, os⟩
  refine wpAny_bind (D2.item i _ _ _ hlt2 (D2.over (D2.over st2 hs1 S.zf2) hp1 S.sep1_2) fun x2 p2 tk2 hx2 sn2 hp2 => wpAny_pure (wpAny_pure (wpAny_pure ?_)))
  replace hp2 : Heap.SameBut i2 p1 p2 := hp2
  show wpAny _ _ (newTuple [x1, x2] >>= _) _ _ _
  refine wpAny_bind (wpAny_newTuple ?_)
  have hsz : p2.objs.size = hp.objs.size := by rw [hp2.1, hp1.1, hs1.1]
  refine wpAny_pure ⟨_, rfl, ?_⟩
  show Q (.ref p2.objs.size) ⟨p2.push { cls := .type "tuple", data := .seq #[x1, x2] }, g, d, tk2, os⟩
  have hnew : IsTupOf2 (p2.push { cls := .type "tuple", data := .seq #[x1, x2] }) p2.objs.size x1 x2 := Heap.get?_push_size _ rfl
  have hsz2 : (p2.push { cls := .type "tuple", data := .seq #[x1, x2] }).objs.size = p2.objs.size + 1 := Heap.size_push ..
  have hz2 : PySem.IsZipHeld p2 z TI TO T true := hp2.extBut _ _ S.zi2 (hp1.extBut _ _ S.zi1 hz1)
  rw [hsz] at hnew hsz2 ⊢
  refine hQ x1 x2 _ tk2 hx1 hx2 (Heap.get?_push_of_some _ hz2) ?_ ?_ hnew hsz2 fun c o c1 c2 c3 e => Heap.get?_push_of_some _ (hp2.extBut _ _ c3 (hp1.extBut _ _ c2 (hs1.extBut _ _ c1 e)))
  · exact D1.frame _ _ _ (D1.over sn1 hp2 S.sep2_1) fun b _ o e => Heap.get?_push_of_some _ e
  · exact D2.frame _ _ _ sn2 fun b _ o e => Heap.get?_push_of_some _ e
/-- .. at the end -/
theorem zip_end_held {Q : Fin → Shared → Prop} (S : ZipSep2 z TI TO i1 i2 fp1 fp2) (D1 : Draws prog w A i1 fp1 n1 P1 St1) (D2 : Draws prog w A i2 fp2 n2 P2 St2) (hz : PySem.IsZipHeld s.heap z TI TO T f) (hT : s.heap.get? T = some oT)
    (hTI : IsTupOf2 s.heap TI (.ref i1) (.ref i2)) (st1 : St1 i s.heap) (st2 : St2 i s.heap) (hle1 : i ≤ n1) (hle2 : i ≤ n2) (hend : i = n1 ∨ i = n2)
    (hE : ∀ h' tk e, (∀ c o, c ≠ z → c ≠ i1 → c ≠ i2 → s.heap.get? c = some o → h'.get? c = some o) → (∃ o, h'.get? e = some o ∧ o.cls = .type "StopIteration") → E (.ref e) { s with heap := h', toks := tk }) :
    wpAny (model prog w) A (Builtin.«zip.__next__» ⟨[.ref z], []⟩) Q E s := by
  obtain ⟨hp, g, d, tk0, os⟩ := s
  show wpAny _ _ (field (.ref z) 2 >>= _) _ _ _; refine wpAny_bind (wpAny_field hz rfl (x := .bool false) rfl ?_)
  show wpAny _ _ (field (.ref z) 3 >>= _) _ _ _; refine wpAny_bind (wpAny_field hz rfl (x := .ref TI) rfl (wpAny_bind (wpAny_seqItems hTI rfl ?_)))
  show wpAny _ _ (Builtin.SmallTypes.ownedTupleIsFree (.ref z) >>= _) _ _ _
  refine wpAny_bind (PySem.wpAny_tupleHeld_zip hz hT fun g1 hz1 hs1 => ?_)
  replace hs1 : Heap.SameBut z hp g1 := hs1
  simp only [Bool.false_eq_true, if_false]
  refine wpAny_bind ?_
  rw [← Array.forIn_toList]
  simp only [List.forIn_cons, List.forIn_nil]
  refine wpAny_bind (wpAny_bind (wpAny_holding ?_))
  show wpAny _ _ (Builtin.SmallTypes.nextOf (.ref i1) >>= _) _ _ ⟨g1, g, d, tk0, os⟩
  by_cases hlt1 : i < n1
  · refine wpAny_bind (D1.item i _ _ _ hlt1 (D1.over st1 hs1 S.zf1) fun x1 p1 tk1 hx1 sn1 hp1 => wpAny_pure (wpAny_pure ?_))
    replace hp1 : Heap.SameBut i1 g1 p1 := hp1
    have hi2 : i = n2 := by omega
    refine wpAny_bind (wpAny_bind (wpAny_holding ?_))
    show wpAny _ _ (Builtin.SmallTypes.nextOf (.ref i2) >>= _) _ _ ⟨p1, g, d, tk1, os⟩
    refine wpAny_bind (D2.done ⟨p1, g, d, tk1, os⟩ _ _ (by rw [← hi2]; exact D2.over (D2.over st2 hs1 S.zf2) hp1 S.sep1_2) fun q e hq he => ?_)
    replace hq : Heap.ExtBut i2 p1 q := hq
    exact hE q tk1 e (fun c o c1 c2 c3 x => hq _ _ c3 (hp1.extBut _ _ c2 (hs1.extBut _ _ c1 x))) he
  · have hi1 : i = n1 := by omega
    refine wpAny_bind (D1.done ⟨g1, g, d, tk0, os⟩ _ _ (by rw [← hi1]; exact D1.over st1 hs1 S.zf1) fun q e hq he => ?_)
    replace hq : Heap.ExtBut i1 g1 q := hq
    exact hE q tk0 e (fun c o c1 c2 c3 x => hq _ _ c2 (hs1.extBut _ _ c1 x)) he
/-- nextOf a zip -/
theorem nextOf_zip {Q : Value → Shared → Prop} (hz : ∃ o, s.heap.get? z = some o ∧ o.cls = .type "zip") (h : wpAny (model prog w) A.in1 (Builtin.«zip.__next__» ⟨[.ref z], []⟩) (fun fin s' => ∃ v, fin = .done (.ret v) ∧ Q v s') E s) :
    wpAny (model prog w) A (Builtin.SmallTypes.nextOf (.ref z)) Q E s := by
  have hT : s.TypeIs (.ref z) "zip" := hz
  unfold Builtin.SmallTypes.nextOf
  refine wpAny_bind (wpAny_callSpecial?_slot (name := Str.ofString "__next__") hT F.slot_zip_next (wpAny_call_entry F.slot_zip_next hT F.entry_zip_next ?_ (F.args_zip_next_1 _)))
  exact wpAny_mono h (fun fin s' ⟨v, e, q⟩ => ⟨v, e, wpAny_pure q⟩) fun _ _ x => x
/-- enumerate's next, whatever it draws from -/
theorem enum_item_of {c : Int} {old : Value} {it : Addr} {G : Value → Heap → Prop} {Q : Option Value → Shared → Prop} (he : IsEnum s.heap e it c old)
    (inner : ∀ (R : Value → Shared → Prop) (E' : Value → Shared → Prop), (∀ x h1 tk, G x h1 → h1.get? e = s.heap.get? e → R x { s with heap := h1, toks := tk }) → wpAny (model prog w) A.in1 (Builtin.SmallTypes.nextOf (.ref it)) R E' s)
    (hQ : ∀ x h1 tk h', G x h1 → IsEnumOut h' e it (c + 1) x h1.objs.size → h'.get? h1.objs.size = some { cls := .type "tuple", data := .seq #[.int c tk, x] } → (∀ b o, b ≠ e → h1.get? b = some o → h'.get? b = some o) → Q (some (.ref h1.objs.size)) { s with heap := h', toks := tk + 1 }) :
    wpAny (model prog w) A (pyNext (.ref e)) Q E s := by
  have hT : s.TypeIs (.ref e) "enumerate" := ⟨_, he, rfl⟩
  unfold pyNext
  refine wpAny_bind (wpAny_attempt (wpAny_callSpecial?_slot (name := Str.ofString "__next__") hT F.slot_enumerate_next (wpAny_call_entry F.slot_enumerate_next hT F.entry_enumerate_next ?_ (F.args_enumerate_next_1 _))))
  obtain ⟨hp, g, d, tk0, os⟩ := s
  show wpAny _ _ (field (.ref e) 2 >>= _) _ _ _; refine wpAny_bind (wpAny_field he rfl (x := .ref it) rfl ?_)
  refine wpAny_bind (inner _ _ fun x h1 tk hG hke => ?_)
  have e1 : IsEnum h1 e it c old := hke.trans he
  show wpAny _ _ (field (.ref e) 3 >>= _) _ _ ⟨h1, g, d, tk, os⟩; refine wpAny_bind (wpAny_field e1 rfl (x := rawInt c) rfl ?_)
  show wpAny _ _ (field (.ref e) 4 >>= _) _ _ ⟨h1, g, d, tk, os⟩; refine wpAny_bind (wpAny_field e1 rfl (x := .none) rfl ?_)
  show wpAny _ _ (mkInt c >>= _) _ _ ⟨h1, g, d, tk, os⟩; refine wpAny_bind (wpAny_mkInt ?_)
  show wpAny _ _ (setField (.ref e) 3 (rawInt (c + 1)) >>= _) _ _ ⟨h1, g, d, tk + 1, os⟩
  refine wpAny_bind (wpAny_setField_rec e1 (by simp) fun h2 e2 s2 => ?_)
  replace s2 : Heap.SameBut e h1 h2 := s2
  replace e2 : IsEnum h2 e it (c + 1) old := e2
  show wpAny _ _ (setField (.ref e) 4 .none >>= _) _ _ ⟨h2, g, d, tk + 1, os⟩
  refine wpAny_bind (wpAny_setField_rec e2 (by simp) fun h3 e3 s3 => ?_)
  replace s3 : Heap.SameBut e h2 h3 := s3
  replace e3 : IsEnum h3 e it (c + 1) old := e3
  show wpAny _ _ (newTuple [.int c tk, x] >>= _) _ _ ⟨h3, g, d, tk + 1, os⟩; refine wpAny_bind (wpAny_newTuple ?_)
  have hsz : h3.objs.size = h1.objs.size := by rw [s3.1, s2.1]
  have e4 : IsEnum (h3.push { cls := .type "tuple", data := .seq #[.int c tk, x] }) e it (c + 1) old := Heap.get?_push_of_some _ e3
  have t4 : (h3.push { cls := .type "tuple", data := .seq #[.int c tk, x] }).get? h3.objs.size = some { cls := .type "tuple", data := .seq #[.int c tk, x] } := Heap.get?_push_size _ rfl
  have k4 : ∀ b o, b ≠ e → h1.get? b = some o → (h3.push { cls := .type "tuple", data := .seq #[.int c tk, x] }).get? b = some o := fun b o hb y => Heap.get?_push_of_some _ (s3.extBut b o hb (s2.extBut b o hb y))
  have hne : h1.objs.size ≠ e := Nat.ne_of_gt (Heap.lt_size e1)
  rw [hsz] at t4 ⊢
  generalize h3.push { cls := .type "tuple", data := .seq #[.int c tk, x] } = h4 at e4 t4 k4
  show wpAny _ _ (Builtin.SmallTypes.ownedTupleIsFree (.ref e) >>= _) _ _ ⟨h4, g, d, tk + 1, os⟩
  refine wpAny_bind ?_
  unfold Builtin.SmallTypes.ownedTupleIsFree
  refine wpAny_bind (wpAny_field e4 rfl (x := .none) rfl (wpAny_pure ?_))
  simp only [if_true]
  refine wpAny_bind (wpAny_rule (wpAny_bind (wpAny_field e4 rfl (x := old) rfl (wpAny_bind (wpAny_setField_rec e4 (by simp) fun h5 e5 s5 => ?_)))))
  replace s5 : Heap.SameBut e h4 h5 := s5
  replace e5 : IsEnum h5 e it (c + 1) x := e5
  show wpAny _ _ (Builtin.SmallTypes.ownedTupleHandOut (.ref e) (.ref h1.objs.size) >>= _) _ _ ⟨h5, g, d, tk + 1, os⟩
  refine wpAny_bind ?_
  unfold Builtin.SmallTypes.ownedTupleHandOut
  refine wpAny_bind (wpAny_setField_rec e5 (by simp) fun h6 e6 s6 => ?_)
  replace s6 : Heap.SameBut e h5 h6 := s6
  replace e6 : IsEnumOut h6 e it (c + 1) x h1.objs.size := e6
  refine wpAny_setField_rec e6 (by simp) fun h7 e7 s7 => ?_
  replace s7 : Heap.SameBut e h6 h7 := s7
  have k7 : ∀ b o, b ≠ e → h4.get? b = some o → h7.get? b = some o := fun b o hb y => s7.extBut b o hb (s6.extBut b o hb (s5.extBut b o hb y))
  refine wpAny_bind (wpAny_letGo (wpAny_pure ⟨_, rfl, wpAny_pure (hQ x h1 tk h7 hG e7 (k7 _ _ hne t4) fun b o hb y => k7 b o hb (k4 b o hb y))⟩))
/-- enumerate's end -/
theorem enum_end_of {c : Int} {old : Value} {it : Addr} {Q : Option Value → Shared → Prop} (he : IsEnum s.heap e it c old)
    (inner : ∀ (R : Value → Shared → Prop) (E' : Value → Shared → Prop), (∀ h' tk x, (∃ o, h'.get? x = some o ∧ o.cls = .type "StopIteration") → Q none { s with heap := h', toks := tk } → E' (.ref x) { s with heap := h', toks := tk }) → wpAny (model prog w) A.in1 (Builtin.SmallTypes.nextOf (.ref it)) R E' s) :
    wpAny (model prog w) A (pyNext (.ref e)) Q E s := by
  have hT : s.TypeIs (.ref e) "enumerate" := ⟨_, he, rfl⟩
  unfold pyNext
  refine wpAny_bind (wpAny_attempt (wpAny_callSpecial?_slot (name := Str.ofString "__next__") hT F.slot_enumerate_next (wpAny_call_entry F.slot_enumerate_next hT F.entry_enumerate_next ?_ (F.args_enumerate_next_1 _))))
  show wpAny _ _ (field (.ref e) 2 >>= _) _ _ _; refine wpAny_bind (wpAny_field he rfl (x := .ref it) rfl ?_)
  refine wpAny_bind (inner _ _ fun h' tk x hx q => ?_)
  obtain ⟨o, ho, hc⟩ := hx
  exact wpAny_bind (wpAny_isInstance (T := "StopIteration") (b := true) ⟨o, ho, hc⟩ isSubtype_stop (wpAny_pure q))
end
end My
set_option Elab.async false
set_option pp.maxSteps 1500
set_option linter.all false
set_option maxRecDepth 100000
set_option maxHeartbeats 4000000
/-! U3: for i, (a, b) in enumerate(zip(tuple, tuple)) -/
namespace My
open PySem PySem.Spec PyProof.Rows L2
/-- where the two iterators stand: ahead of turn i; g: the tuple that zip gave last -/
structure EzAt (e z TI TO i1 i2 ta tb : Addr) (g : Option Addr) (i : Nat) (h : Heap) : Prop where
  en : ∃ old, IsEnum h e z (0 + (i : Int)) old
  ti : IsTupOf2 h TI (.ref i1) (.ref i2)
  to_ : ∃ a1 a2, IsTupOf2 h TO a1 a2
  j1 : h.IsTupleIter i1 ta i
  j2 : h.IsTupleIter i2 tb i
  zp : match g with
    | none => IsZip h z TI TO .none
    | some T => ∃ f, PySem.IsZipHeld h z TI TO T f
abbrev ezFp (e z TI TO i1 i2 : Addr) : List Addr := [e, z, TI, TO, i1, i2]
theorem EzAt.keep {e z TI TO i1 i2 ta tb : Addr} {g : Option Addr} {i : Nat} {h h' : Heap} (S : EzAt e z TI TO i1 i2 ta tb g i h) (k : ∀ b ∈ ezFp e z TI TO i1 i2, ∀ o, h.get? b = some o → h'.get? b = some o) : EzAt e z TI TO i1 i2 ta tb g i h' := by
  obtain ⟨⟨old, h1⟩, h2, ⟨a1, a2, h3⟩, ⟨o4, h4, r4⟩, ⟨o5, h5, r5⟩, h6⟩ := S
  refine ⟨⟨old, k e (by simp) _ h1⟩, k TI (by simp) _ h2, ⟨a1, a2, k TO (by simp) _ h3⟩, ⟨o4, k i1 (by simp) _ h4, r4⟩, ⟨o5, k i2 (by simp) _ h5, r5⟩, ?_⟩
  cases g with
  | none => exact k z (by simp) _ h6
  | some T => obtain ⟨f, h6⟩ := h6; exact ⟨f, k z (by simp) _ h6⟩
theorem EzAt.obj {e z TI TO i1 i2 ta tb : Addr} {g : Option Addr} {i : Nat} {h : Heap} (S : EzAt e z TI TO i1 i2 ta tb g i h) : ∀ b ∈ ezFp e z TI TO i1 i2, ∃ o, h.get? b = some o ∧ ∀ v, o.data ≠ .cell v := by
  intro b hb
  obtain ⟨⟨old, h1⟩, h2, ⟨a1, a2, h3⟩, ⟨o4, h4, _, d4⟩, ⟨o5, h5, _, d5⟩, h6⟩ := S
  have e' : b = e ∨ b = z ∨ b = TI ∨ b = TO ∨ b = i1 ∨ b = i2 := by simpa using hb
  rcases e' with q | q | q | q | q | q <;> rw [q]
  · exact ⟨_, h1, fun v y => nomatch y⟩
  · cases g with
    | none => exact ⟨_, h6, fun v y => nomatch y⟩
    | some T => obtain ⟨f, h6⟩ := h6; exact ⟨_, h6, fun v y => nomatch y⟩
  · exact ⟨_, h2, fun v y => nomatch y⟩
  · exact ⟨_, h3, fun v y => nomatch y⟩
  · exact ⟨_, h4, fun v y => by rw [d4] at y; cases y⟩
  · exact ⟨_, h5, fun v y => by rw [d5] at y; cases y⟩
section
variable {X : Cx} {pins : List (Addr × Obj)} {σ : L2.St} {H : Hy} {s : Shared} {e z TI TO i1 i2 ta tb : Addr} {g : Option Addr} {i : Nat} {xs ys : List V} {elts : List Expr} {kk : Nat} {tpos : Pos} {E : Value → Shared → Prop}
theorem ez_apart (I : L2.Inv X pins σ H s) (nd : (ezFp e z TI TO i1 i2).Nodup) (hf : ∀ b ∈ ezFp e z TI TO i1 i2, FpOk X pins H b) (ha : ∃ o, H ta = some o) (hb : ∃ o, H tb = some o) : ZipSep2 z TI TO i1 i2 [i1, ta] [i2, tb] ∧ e ≠ z ∧ e ≠ TO ∧ e ≠ i1 ∧ e ≠ i2 ∧ e ≠ TI := by
  simp only [List.nodup_cons, List.mem_cons, List.not_mem_nil, or_false, not_or] at nd
  obtain ⟨⟨n1, n2, n3, n4, n5⟩, ⟨n6, n7, n8, n9⟩, ⟨n10, n11, n12⟩, ⟨n13, n14⟩, n15, _⟩ := nd
  have na : ∀ b ∈ ezFp e z TI TO i1 i2, b ≠ ta := fun b hb q => by obtain ⟨o, h⟩ := ha; rw [← q, (hf b hb).1] at h; cases h
  have nb : ∀ b ∈ ezFp e z TI TO i1 i2, b ≠ tb := fun b hb' q => by obtain ⟨o, h⟩ := hb; rw [← q, (hf b hb').1] at h; cases h
  refine ⟨⟨Ne.symm n6, Ne.symm n7, n10, n11, by simp, ?_, ?_, n12, by simp, ?_, ?_, ?_, ?_⟩, n1, n3, n4, n5, n2⟩
  all_goals simp only [List.mem_cons, List.not_mem_nil, or_false, not_or]
  · exact ⟨n8, na z (by simp)⟩
  · exact ⟨n13, na TO (by simp)⟩
  · exact ⟨n9, nb z (by simp)⟩
  · exact ⟨n14, nb TO (by simp)⟩
  · exact ⟨n15, nb i1 (by simp)⟩
  · exact ⟨fun q => n15 q.symm, na i2 (by simp)⟩
theorem ez_item (I : L2.Inv X pins σ H s) (hc : X.A.handled = none) (nd : (ezFp e z TI TO i1 i2).Nodup) (hf : ∀ b ∈ ezFp e z TI TO i1 i2, FpOk X pins H b) (ha : Rd H ta (.tup xs)) (hb : Rd H tb (.tup ys)) (S : EzAt e z TI TO i1 i2 ta tb g i s.heap) (hg : ∀ T, g = some T → ∃ zs, H T = some (.tup zs))
    (hi1 : i < xs.length) (hi2 : i < ys.length) :
    wpAny (model X.prog X.w) X.A (pyNext (.ref e)) (fun r s1 => ∃ u, r = some u ∧ wpAny (model X.prog X.w) X.A (letOwnedTupleGo (.Tuple elts kk tpos) (.ref e) u) (fun _ s2 => ∃ T T' x y, u = .ref T ∧ H T' = none ∧ H T = none ∧ T ≠ T' ∧ xs[i]? = some x ∧ ys[i]? = some y ∧
      L2.Inv X pins σ (upd (upd H T' (.tup [x, y])) T (.tup [.int (i : Nat), .ref T'])) s2 ∧ EzAt e z TI TO i1 i2 ta tb (some (g.getD T')) (i + 1) s2.heap ∧ ∀ b ∈ ezFp e z TI TO i1 i2, upd (upd H T' (.tup [x, y])) T (.tup [.int (i : Nat), .ref T']) b = none) E s1) E s := by
  obtain ⟨its1, rv1, ht1, hz1⟩ := I.tuple (.inl ha)
  obtain ⟨its2, rv2, ht2, hz2⟩ := I.tuple (.inl hb)
  have some_of : ∀ {a : Addr} {u : HO}, Rd H a u → ∃ o, H a = some o := fun h => by
    rcases h with h | ⟨o, h⟩ <;> exact ⟨_, h⟩
  obtain ⟨Z, nz, nT, n1, n2, nI⟩ := ez_apart I nd hf (some_of ha) (some_of hb)
  have na : ta ≠ i1 := fun q => by obtain ⟨o, h⟩ := some_of ha; rw [q, (hf i1 (by simp)).1] at h; cases h
  have nb : tb ≠ i2 := fun q => by obtain ⟨o, h⟩ := some_of hb; rw [q, (hf i2 (by simp)).1] at h; cases h
  have D1 := Draws.tuple (prog := X.prog) (w := X.w) (A := X.A.in1.in1) hc i1 ta na its1.toArray
  have D2 := Draws.tuple (prog := X.prog) (w := X.w) (A := X.A.in1.in1) hc i2 tb nb its2.toArray
  rw [List.size_toArray, ← rv1.length] at D1
  rw [List.size_toArray, ← rv2.length] at D2
  obtain ⟨⟨old, h1⟩, h2, ⟨a1, a2, h3⟩, h4, h5, h6⟩ := S
  have hzo : ∃ o, s.heap.get? z = some o ∧ o.cls = .type "zip" := by
    cases g with
    | none => exact ⟨_, h6, rfl⟩
    | some T => obtain ⟨f, h6⟩ := h6; exact ⟨_, h6, rfl⟩
  refine enum_item_of (it := z) h1 (G := fun x g1 => ∃ T' u1 u2, x = Value.ref T' ∧ s.heap.objs.size ≤ T' ∧ T' < g1.objs.size ∧ its1[i]? = some u1 ∧ its2[i]? = some u2 ∧ IsTupOf2 g1 T' u1 u2 ∧ (∃ f, PySem.IsZipHeld g1 z TI TO (g.getD T') f) ∧ IsTupOf2 g1 TI (.ref i1) (.ref i2) ∧
    (∃ a1 a2, IsTupOf2 g1 TO a1 a2) ∧ g1.IsTupleIter i1 ta (i + 1) ∧ g1.IsTupleIter i2 tb (i + 1) ∧ ∀ c o, c ≠ z → c ≠ TO → c ≠ i1 → c ≠ i2 → s.heap.get? c = some o → g1.get? c = some o) (fun R E' hR => nextOf_zip hzo ?_) fun x g1 tk g2 hG eo ht k => ⟨_, rfl, wpAny_letOwnedTupleGo_enum eo fun g3 eo3 ss => ?_⟩
  · cases g with
    | none =>
      refine zipD2_next_item Z D1 D2 h6 h2 h3 ⟨h4, ht1⟩ ⟨h5, ht2⟩ hi1 hi2 fun x1 x2 h' tk p1 p2 z' to' s1 s2 t' sz k => ?_
      exact hR _ h' tk ⟨_, x1, x2, rfl, Nat.le_refl _, by rw [sz]; exact Nat.lt_succ_self _, by simpa using p1, by simpa using p2, t', ⟨false, z'⟩, k _ _ Z.TIz Z.TITO Z.TIi1 Z.TIi2 h2, ⟨_, _, to'⟩, s1.1, s2.1, k⟩ ((k _ _ nz nT n1 n2 h1).trans h1.symm)
    | some T =>
      obtain ⟨f, h6⟩ := h6
      obtain ⟨zs, hT⟩ := hg T rfl
      have hTo : ObjOk X.prog X.w H s.heap T (.tup zs) := I.hok T _ hT
      obtain ⟨_, _, _, ⟨oT, hoT, _⟩⟩ := hTo
      refine zip_item_held Z D1 D2 h6 hoT h2 ⟨h4, ht1⟩ ⟨h5, ht2⟩ hi1 hi2 fun x1 x2 h' tk p1 p2 z' s1 s2 t' sz k => ?_
      exact hR _ h' tk ⟨_, x1, x2, rfl, Nat.le_refl _, by rw [sz]; exact Nat.lt_succ_self _, by simpa using p1, by simpa using p2, t', ⟨true, z'⟩, k _ _ Z.TIz Z.TIi1 Z.TIi2 h2, ⟨_, _, k _ _ Z.TOz Z.Ti1 Z.Ti2 h3⟩, s1.1, s2.1, fun c o q1 _ q3 q4 q => k c o q1 q3 q4 q⟩ ((k _ _ nz n1 n2 h1).trans h1.symm)
  · obtain ⟨T', u1, u2, rfl, hT', hTs, e1, e2, t', ⟨f, z'⟩, i', ⟨b1, b2, o'⟩, j1', j2', kk'⟩ := hG
    have hlt1 : i < its1.length := by rw [← rv1.length]; exact hi1
    obtain ⟨x, hx⟩ : ∃ x, xs[i]? = some x := ⟨_, List.getElem?_eq_getElem hi1⟩
    obtain ⟨y, hy⟩ : ∃ y, ys[i]? = some y := ⟨_, List.getElem?_eq_getElem hi2⟩
    obtain ⟨v1, q1, r1⟩ := rv1.get hx
    obtain ⟨v2, q2, r2⟩ := rv2.get hy
    rw [e1] at q1
    rw [e2] at q2
    cases q1
    cases q2
    have nT' : H T' = none := I.hok.fresh hT'
    have nTn : H g1.objs.size = none := I.hok.fresh (Nat.le_of_lt (Nat.lt_of_le_of_lt hT' hTs))
    have neT : g1.objs.size ≠ T' := Nat.ne_of_gt hTs
    have hlt : ∀ b ∈ ezFp e z TI TO i1 i2, b < s.heap.objs.size := fun b hb => by
      obtain ⟨o, q, _⟩ := EzAt.obj (ta := ta) (tb := tb) (g := g) (i := i) (h := s.heap) ⟨⟨old, h1⟩, h2, ⟨a1, a2, h3⟩, h4, h5, h6⟩ b hb
      exact Heap.lt_size q
    have I1 : L2.Inv X pins σ (upd H T' (.tup [x, y])) { s with heap := g1, toks := tk } := I.turnedNew (ch := [z, TO, i1, i2]) (fun b o hb q => kk' b o (fun y => hb (by simp [y])) (fun y => hb (by simp [y])) (fun y => hb (by simp [y])) (fun y => hb (by simp [y])) q)
      (fun b hb => hf b (by have e' : b = z ∨ b = TO ∨ b = i1 ∨ b = i2 := by simpa using hb
                            rcases e' with y | y | y | y <;> rw [y] <;> simp)) hT' ⟨by show 2 ≤ sizeLine; decide, [u1, u2], .cons r1 (.cons r2 .nil), ⟨_, t', rfl, _, rfl⟩⟩
    have fpn : ∀ b ∈ ezFp e z TI TO i1 i2, upd H T' (.tup [x, y]) b = none := fun b hb => by
      rw [upd_ne (Nat.ne_of_lt (Nat.lt_of_lt_of_le (hlt b hb) hT'))]
      exact (hf b hb).1
    have hTe : g1.objs.size ≠ e := Nat.ne_of_gt (Nat.lt_of_lt_of_le (hlt e (by simp)) (Nat.le_of_lt (Nat.lt_of_le_of_lt hT' hTs)))
    have I2 : L2.Inv X pins σ (upd (upd H T' (.tup [x, y])) g1.objs.size (.tup [.int (i : Nat), .ref T'])) { ({ s with heap := g1, toks := tk } : Shared) with heap := g3, toks := tk + 1 } :=
      I1.turnedNew (ch := [e]) (fun b o hb q => ss.extBut b o (fun y => hb (by simp [y])) (k b o (fun y => hb (by simp [y])) q)) (fun b hb => by
        have e' : b = e := by simpa using hb
        rw [e']
        exact ⟨fpn e (by simp), (hf e (by simp)).2⟩) (Nat.le_refl _)
        ⟨by show 2 ≤ sizeLine; decide, [.int (0 + (i : Int)) tk, .ref T'], .cons ⟨tk, by rw [Int.zero_add]⟩ (.cons rfl .nil), ⟨_, ss.extBut _ _ hTe ht, rfl, _, rfl⟩⟩
    have up : ∀ b o, b ≠ e → g1.get? b = some o → g3.get? b = some o := fun b o hb q => ss.extBut b o hb (k b o hb q)
    refine ⟨g1.objs.size, T', x, y, rfl, nT', nTn, neT, hx, hy, I2, ⟨⟨.ref T', ?_⟩, up _ _ (Ne.symm nI) i', ⟨_, _, up _ _ (Ne.symm nT) o'⟩, ?_, ?_, ⟨f, up _ _ (Ne.symm nz) z'⟩⟩, fun b hb => ?_⟩
    · rw [show (0 : Int) + ((i + 1 : Nat) : Int) = 0 + (i : Int) + 1 by omega]
      exact eo3
    · obtain ⟨o, q, r⟩ := j1'
      exact ⟨o, up _ _ (Ne.symm n1) q, r⟩
    · obtain ⟨o, q, r⟩ := j2'
      exact ⟨o, up _ _ (Ne.symm n2) q, r⟩
    · rw [upd_ne (Nat.ne_of_lt (Nat.lt_of_lt_of_le (hlt b hb) (Nat.le_of_lt (Nat.lt_of_le_of_lt hT' hTs))))]
      exact fpn b hb
theorem ez_done (I : L2.Inv X pins σ H s) (hc : X.A.handled = none) (nd : (ezFp e z TI TO i1 i2).Nodup) (hf : ∀ b ∈ ezFp e z TI TO i1 i2, FpOk X pins H b) (ha : Rd H ta (.tup xs)) (hb : Rd H tb (.tup ys)) (S : EzAt e z TI TO i1 i2 ta tb g i s.heap) (hg : ∀ T, g = some T → ∃ zs, H T = some (.tup zs))
    (hi : i = min xs.length ys.length) : wpAny (model X.prog X.w) X.A (pyNext (.ref e)) (fun r s1 => r = none ∧ L2.Inv X pins σ H s1) E s := by
  obtain ⟨its1, rv1, ht1, hz1⟩ := I.tuple (.inl ha)
  obtain ⟨its2, rv2, ht2, hz2⟩ := I.tuple (.inl hb)
  have some_of : ∀ {a : Addr} {u : HO}, Rd H a u → ∃ o, H a = some o := fun h => by
    rcases h with h | ⟨o, h⟩ <;> exact ⟨_, h⟩
  obtain ⟨Z, nz, nT, n1, n2, nI⟩ := ez_apart I nd hf (some_of ha) (some_of hb)
  have na : ta ≠ i1 := fun q => by obtain ⟨o, h⟩ := some_of ha; rw [q, (hf i1 (by simp)).1] at h; cases h
  have nb : tb ≠ i2 := fun q => by obtain ⟨o, h⟩ := some_of hb; rw [q, (hf i2 (by simp)).1] at h; cases h
  have D1 := Draws.tuple (prog := X.prog) (w := X.w) (A := X.A.in1.in1) hc i1 ta na its1.toArray
  have D2 := Draws.tuple (prog := X.prog) (w := X.w) (A := X.A.in1.in1) hc i2 tb nb its2.toArray
  rw [List.size_toArray, ← rv1.length] at D1
  rw [List.size_toArray, ← rv2.length] at D2
  have S0 := S
  obtain ⟨⟨old, h1⟩, h2, ⟨a1, a2, h3⟩, h4, h5, h6⟩ := S
  have hzo : ∃ o, s.heap.get? z = some o ∧ o.cls = .type "zip" := by
    cases g with
    | none => exact ⟨_, h6, rfl⟩
    | some T => obtain ⟨f, h6⟩ := h6; exact ⟨_, h6, rfl⟩
  have le1 : i ≤ xs.length := by omega
  have le2 : i ≤ ys.length := by omega
  have ed : i = xs.length ∨ i = ys.length := by omega
  have fin : ∀ (h' : Heap) (tk : Nat), (∀ c o, c ≠ z → c ≠ TO → c ≠ i1 → c ≠ i2 → s.heap.get? c = some o → h'.get? c = some o) → (none : Option Value) = none ∧ L2.Inv X pins σ H { s with heap := h', toks := tk } := fun h' tk k =>
    ⟨rfl, I.turnedL (ch := [z, TO, i1, i2]) (fun b o hb q => k b o (fun y => hb (by simp [y])) (fun y => hb (by simp [y])) (fun y => hb (by simp [y])) (fun y => hb (by simp [y])) q)
      (fun b hb => hf b (by have e' : b = z ∨ b = TO ∨ b = i1 ∨ b = i2 := by simpa using hb
                            rcases e' with y | y | y | y <;> rw [y] <;> simp))⟩
  refine enum_end_of (it := z) h1 fun R E' hE => nextOf_zip hzo ?_
  cases g with
  | none => exact zipD2_next_end Z D1 D2 h6 h2 h3 ⟨h4, ht1⟩ ⟨h5, ht2⟩ le1 le2 ed fun h' tk x k hx => hE h' tk x hx (fin h' tk k)
  | some T =>
    obtain ⟨f, h6⟩ := h6
    obtain ⟨zs, hT⟩ := hg T rfl
    have hTo : ObjOk X.prog X.w H s.heap T (.tup zs) := I.hok T _ hT
    obtain ⟨_, _, _, ⟨oT, hoT, _⟩⟩ := hTo
    exact zip_end_held Z D1 D2 h6 hoT h2 ⟨h4, ht1⟩ ⟨h5, ht2⟩ le1 le2 ed fun h' tk x k hx => hE h' tk x hx (fin h' tk fun c o q1 _ q3 q4 q => k c o q1 q3 q4 q)
end
end My
set_option Elab.async false
set_option pp.maxSteps 1500
set_option linter.all false
set_option maxRecDepth 100000
set_option maxHeartbeats 4000000
/-! U4: the loop over enumerate(zip(..)) as a rule -/
namespace My
open PySem PySem.Spec PyProof.Rows L2
theorem meets_enumZ {z TI TO : Addr} : Meets (Builtin.«enumerate.__new__» ⟨[.type "enumerate", .ref z], []⟩) (fun _ R s => IsZip s.heap z TI TO .none ∧
      R (.ok (.ret (.ref s.heap.objs.size))) { s with heap := s.heap.push { cls := .type "enumerate", data := .fields #[.none, .bool false, .ref z, rawInt 0, .none, .none] } }) :=
  .of_wp fun prog w A R s h => by
    obtain ⟨hp, g, d, tk, os⟩ := s
    obtain ⟨h1, h⟩ := h
    have hsub := sub_enumerate
    have q1 : ∀ {A' : Around} {E : Value → Shared → Prop} {Q : Value → Shared → Prop}, Q (.ref z) ⟨hp, g, d, tk, os⟩ → wpAny (model prog w) A' (pyIter (.ref z)) Q E ⟨hp, g, d, tk, os⟩ := fun q => wpAny_pyIter_zip h1 q
    wp_walk using q1
    refine wpAny_stack_any fun st => wpAny_pure ?_
    split
    · rename_i c _ _ _ _ _
      cases (c == Value.type "enumerate") <;> (wp_walk using q1; exact ⟨_, rfl, h⟩)
    · wp_walk using q1
      exact ⟨_, rfl, h⟩
theorem enum_of_zip {prog : Program} {w : World} {A : Around} {E : Value → Shared → Prop} {s : Shared} {z TI TO : Addr} {Q : Value → Shared → Prop} (hz : IsZip s.heap z TI TO .none)
    (h : ∀ h', IsEnum h' s.heap.objs.size z 0 .none → (∀ b u, s.heap.get? b = some u → h'.get? b = some u) → Q (.ref s.heap.objs.size) { s with heap := h' }) : wpAny (model prog w) A (call (.type "enumerate") [.ref z]) Q E s := by
  refine callType_new F.called_enumerate (by decide) (F.typeCall_enumerate_1 _) (F.newCall_enumerate_1 _) (fun obj => F.args_object_init_2 obj _) F.entry_enumerate_new meets_enumZ ⟨hz, ?_⟩
  have he : IsEnum (s.heap.push { cls := .type "enumerate", data := .fields #[.none, .bool false, .ref z, rawInt 0, .none, .none] }) s.heap.objs.size z 0 .none := Heap.get?_push_size _ rfl
  exact ⟨⟨_, he, rfl⟩, h _ he fun b u x => Heap.get?_push_of_some _ x⟩
theorem nd6 (n : Nat) : [n + 5, n + 4, n + 2, n + 3, n, n + 1].Nodup := by
  simp only [List.nodup_cons, List.mem_cons, List.not_mem_nil, or_false, not_or]
  refine ⟨⟨?_, ?_, ?_, ?_, ?_⟩, ⟨?_, ?_, ?_, ?_⟩, ⟨?_, ?_, ?_⟩, ⟨?_, ?_⟩, ?_, not_false, List.nodup_nil⟩ <;> omega
section
variable {X : Cx} {σ : L2.St} {H : Hy} {D : Ends} {a b : Expr} {elts : List Expr} {kk : Nat} {tpos p1 p2 q1 q2 pos : Pos} {body : List Stmt}
theorem rs_for_ez (hp : PassesOwn (model X.prog X.w) X.A X.env X.xe) (hE : X.mg "enumerate" = none) (hZ : X.mg "zip" = none)
    (h : RA X [a, b] σ H fun vs H1 => ∃ ta tb xs ys, vs = [.ref ta, .ref tb] ∧ Rd H1 ta (.tup xs) ∧ Rd H1 tb (.tup ys) ∧ ∃ W : Option Addr → Nat → L2.St → Hy → Prop, W none 0 σ H1 ∧
      (∀ g i σ H, W g i σ H → Rd H ta (.tup xs) ∧ Rd H tb (.tup ys) ∧ ∀ T, g = some T → ∃ zs, H T = some (.tup zs)) ∧
      (∀ g i σ H T T' x y, W g i σ H → H T' = none → H T = none → T ≠ T' → xs[i]? = some x → ys[i]? = some y → RG X (.Tuple elts kk tpos) (.ref T) σ (upd (upd H T' (.tup [x, y])) T (.tup [.int (i : Nat), .ref T'])) fun σ2 H2 =>
        RB X body { D with nx := W (some (g.getD T')) (i + 1), ct := W (some (g.getD T')) (i + 1), bk := D.nx } σ2 H2) ∧
      ∀ g σ H, W g (min xs.length ys.length) σ H → D.nx σ H)
    (hc : X.calm = true := by rfl) (hgE : Gl X "enumerate" := by rfl) (hgZ : Gl X "zip" := by rfl) (hs1 : starEach [a, b] X.env = (false, eval a X.env) :: starEach [b] X.env := by rfl) (hpl : (backTo q1 (starEach [b] X.env)).any (·.1) = false := by rfl) :
    RS X (.For (.Tuple elts kk tpos) (.Call (.Name "enumerate" p2) [.Call (.Name "zip" p1) [a, b] [] q1] [] q2) body [] pos) D σ H := by
  obtain ⟨t, ht, q⟩ := h
  refine ⟨fun D σ H => t σ H (fun vs H1 => ∃ ta tb xs ys, vs = [.ref ta, .ref tb] ∧ Rd H1 ta (.tup xs) ∧ Rd H1 tb (.tup ys) ∧ ∃ W : Option Addr → Nat → L2.St → Hy → Prop, W none 0 σ H1 ∧
      (∀ g i σ H, W g i σ H → Rd H ta (.tup xs) ∧ Rd H tb (.tup ys) ∧ ∀ T, g = some T → ∃ zs, H T = some (.tup zs)) ∧
      (∀ g i σ H T T' x y, W g i σ H → H T' = none → H T = none → T ≠ T' → xs[i]? = some x → ys[i]? = some y → RG X (.Tuple elts kk tpos) (.ref T) σ (upd (upd H T' (.tup [x, y])) T (.tup [.int (i : Nat), .ref T'])) fun σ2 H2 =>
        RB X body { D with nx := W (some (g.getD T')) (i + 1), ct := W (some (g.getD T')) (i + 1), bk := D.nx } σ2 H2) ∧
      ∀ g σ H, W g (min xs.length ys.length) σ H → D.nx σ H), ⟨fun pins s σ H D I h => ?_⟩, q⟩
  refine wpAny_For (Call_ (ld_blt I hgE hE boot_enumerate (PyProof.Rows.callWith_type1 ?_ rfl rfl))) (by intro _; rfl)
  refine Calls.spliced_cons (Call_ (ld_blt I hgZ hZ PyProof.Rows.boot_zip (PyProof.Rows.callWith_type1 (thn (ht.run q1 pins s σ H _ I h) fun us s1 ⟨vs, H1, I1, r1, q1'⟩ => ?_) hs1 hpl)))
  obtain ⟨ta, tb, xs, ys, rfl, ha, hb, W, w0, wr, ws, wd⟩ := q1'
  obtain ⟨v1, v2, rfl, r1, r2⟩ := vals2 r1
  obtain rfl : v1 = Value.ref ta := r1
  obtain rfl : v2 = Value.ref tb := r2
  obtain ⟨its1, rv1, ht1, hz1⟩ := I1.tuple (.inl ha)
  obtain ⟨its2, rv2, ht2, hz2⟩ := I1.tuple (.inl hb)
  refine zip_begins2 (begins_tuple ta its1.toArray) (begins_tuple tb its2.toArray) ht1 ht2 fun h1 hz hTI hTO o1 o2 hsz hk => ?_
  refine Calls.spliced_nil (enum_of_zip hz fun h2 he hk2 => wpAny_pyIter_enum he ?_)
  rw [hsz] at he ⊢
  have I2 : L2.Inv X pins σ H1 { s1 with heap := h2 } := I1.kept (t' := s1.toks) fun b u x => hk2 _ _ (hk _ _ x)
  have f1 : ∀ b ∈ ezFp (s1.heap.objs.size + 5) (s1.heap.objs.size + 4) (s1.heap.objs.size + 2) (s1.heap.objs.size + 3) s1.heap.objs.size (s1.heap.objs.size + 1), FpOk X pins H1 b := fun b hb => by
    have e' : b = s1.heap.objs.size + 5 ∨ b = s1.heap.objs.size + 4 ∨ b = s1.heap.objs.size + 2 ∨ b = s1.heap.objs.size + 3 ∨ b = s1.heap.objs.size ∨ b = s1.heap.objs.size + 1 := by simpa using hb
    have hle : s1.heap.objs.size ≤ b := by
      rcases e' with y | y | y | y | y | y <;> rw [y]
      · exact Nat.le_add_right _ _
      · exact Nat.le_add_right _ _
      · exact Nat.le_add_right _ _
      · exact Nat.le_add_right _ _
      · exact Nat.le_refl _
      · exact Nat.le_add_right _ _
    exact I1.fpOk hle (I1.hok.fresh hle)
  have nd : (ezFp (s1.heap.objs.size + 5) (s1.heap.objs.size + 4) (s1.heap.objs.size + 2) (s1.heap.objs.size + 3) s1.heap.objs.size (s1.heap.objs.size + 1)).Nodup := nd6 _
  have S0 : EzAt (s1.heap.objs.size + 5) (s1.heap.objs.size + 4) (s1.heap.objs.size + 2) (s1.heap.objs.size + 3) s1.heap.objs.size (s1.heap.objs.size + 1) ta tb none 0 h2 :=
    ⟨⟨.none, he⟩, hk2 _ _ hTI, ⟨_, _, hk2 _ _ hTO⟩, ⟨_, hk2 _ _ o1, rfl, rfl⟩, ⟨_, hk2 _ _ o2, rfl, rfl⟩, hk2 _ _ hz⟩
  generalize s1.heap.objs.size + 5 = e at f1 nd S0 ⊢
  generalize s1.heap.objs.size + 4 = z at f1 nd S0
  generalize s1.heap.objs.size + 2 = TI at f1 nd S0
  generalize s1.heap.objs.size + 3 = TO at f1 nd S0
  generalize s1.heap.objs.size + 1 = i2 at f1 nd S0
  generalize s1.heap.objs.size = i1 at f1 nd S0
  have hh := I1.ok.hd hc
  have stat : ∀ {H' : Hy}, (∀ b ∈ ezFp e z TI TO i1 i2, H' b = none) → ∀ b ∈ ezFp e z TI TO i1 i2, FpOk X pins H' b := fun hn b hb => ⟨hn b hb, (f1 b hb).2⟩
  refine codeAny_forLoop_any (fun n s' => ∃ g i σ' H', n = min xs.length ys.length - i ∧ i ≤ min xs.length ys.length ∧ L2.Inv X pins σ' H' s' ∧ EzAt e z TI TO i1 i2 ta tb g i s'.heap ∧ (∀ b ∈ ezFp e z TI TO i1 i2, H' b = none) ∧ W g i σ' H') ?_ _ ⟨none, 0, σ, H1, rfl, Nat.zero_le _, I2, S0, fun b hb => (f1 b hb).1, w0⟩
  rintro n s3 ⟨g, i, σ3, H3, rfl, hi, I3, S3, fr3, w3⟩
  obtain ⟨ka, kb, kg⟩ := wr g i σ3 H3 w3
  by_cases hlt : i < min xs.length ys.length
  · have l1 : i < xs.length := by omega
    have l2 : i < ys.length := by omega
    refine wpAny_passesOwn hp (thn (ez_item (elts := elts) (kk := kk) (tpos := tpos) (E := X.xe) I3 hh nd (stat fr3) ka kb S3 kg l1 l2) fun r s4 ⟨u, hr, h4⟩ => ?_)
    subst hr
    refine wpAny_passesOwn hp (thn h4 fun _ s5 ⟨T, T', x, y, hu, nT', nT, neT, hx, hy, I5, S5, fr5⟩ => ?_)
    subst hu
    have I5' := I5.pinned (stat fr5) S5.obj
    refine wpAny_passesOwn hp (thn (pRG.run _ s5 σ3 _ (.ref T) (.ref T) _ I5' rfl (ws g i σ3 H3 T T' x y w3 nT' nT neT hx hy)) fun _ s6 ⟨σ6, H6, I6, q6⟩ => ?_)
    refine wpAny_passesOwn hp (thn (pRB.run _ s6 σ6 H6 _ I6 q6) fun f s7 q7 => ?_)
    have again : ∀ {σ7 : L2.St} {H7 : Hy}, L2.Inv X (pins ++ pinsAt (ezFp e z TI TO i1 i2) s5.heap) σ7 H7 s7 → W (some (g.getD T')) (i + 1) σ7 H7 → ∃ m, m < min xs.length ys.length - i ∧ ∃ g i σ' H', m = min xs.length ys.length - i ∧ i ≤ min xs.length ys.length ∧ L2.Inv X pins σ' H' s7 ∧ EzAt e z TI TO i1 i2 ta tb g i s7.heap ∧ (∀ b ∈ ezFp e z TI TO i1 i2, H' b = none) ∧ W g i σ' H' := fun {σ7 H7} I7 w7 => by
      refine ⟨min xs.length ys.length - (i + 1), by omega, _, i + 1, σ7, H7, rfl, hlt, I7.unpinned, S5.keep fun b hb o q => (I7.pin (b, o) (List.mem_append_right _ (List.mem_append_right _ (mem_pinsAt hb q)))).1, fun b hb => ?_, w7⟩
      obtain ⟨o, q, _⟩ := S5.obj b hb
      exact (I7.pin (b, o) (List.mem_append_right _ (List.mem_append_right _ (mem_pinsAt hb q)))).2.1
    cases f with
    | next => obtain ⟨σ7, H7, I7, n7⟩ := q7; exact again I7 n7
    | cont => obtain ⟨σ7, H7, I7, n7⟩ := q7; exact again I7 n7
    | brk => obtain ⟨σ7, H7, I7, q7⟩ := q7; exact ⟨σ7, H7, I7.unpinned, q7⟩
    | ret v => obtain ⟨x7, σ7, H7, I7, r7, q7⟩ := q7; exact ⟨x7, σ7, H7, I7.unpinned, r7, q7⟩
  · have hi' : i = min xs.length ys.length := Nat.le_antisymm hi (Nat.le_of_not_lt hlt)
    refine wpAny_passesOwn hp (thn (ez_done (E := X.xe) I3 hh nd (stat fr3) ka kb S3 kg hi') fun r s4 ⟨hr, I4⟩ => ?_)
    subst hr
    exact wpAny_execs_nil ⟨σ3, H3, I4, wd g σ3 H3 (hi' ▸ w3)⟩
end
end My
set_option Elab.async false
set_option pp.maxSteps 1500
set_option linter.all false
set_option maxRecDepth 100000
set_option maxHeartbeats 4000000
/-! A4: a comprehension with two fors over lists; a filtered one -/
namespace My
open PySem PySem.Spec PyProof.Rows L2
theorem ttB.mono {X : Cx} {scope : Scope} {ifs : List Expr} {σ : L2.St} {H : Hy} {Q1 Q2 : Bool → Hy → Prop} (h : ttB X scope ifs σ H Q1) (i : ∀ b H', Q1 b H' → Q2 b H') : ttB X scope ifs σ H Q2 := by
  intro s0 H0 C cl fp
  obtain ⟨t, ht, q⟩ := h s0 H0 C cl fp
  refine ⟨fun σ' H' Q' => t σ' H' Q1 ∧ ∀ b H', Q1 b H' → Q' b H', ⟨fun pins s σ' H' Q' I z => ?_⟩, q, i⟩
  exact thn (ht.run pins s σ' H' _ I z.1) fun u s1 ⟨H1, I1, q3⟩ => ⟨H1, I1, z.2 u H1 q3⟩
theorem teB.mono {X : Cx} {scope : Scope} {e : Expr} {σ : L2.St} {H : Hy} {Q1 Q2 : VK} (h : teB X scope e σ H Q1) (i : ∀ b H', Q1 b H' → Q2 b H') : teB X scope e σ H Q2 := fun s0 H0 C cl fp => (h s0 H0 C cl fp).mono i
theorem tiB.mono {X : Cx} {scope : Scope} {tg it : Expr} {σ : L2.St} {H : Hy} {R1 R2 : It → Hy → Prop} (h : tiB X scope tg it σ H R1) (i : ∀ b H', R1 b H' → R2 b H') : tiB X scope tg it σ H R2 := fun s0 H0 C cl fp => by
  obtain ⟨t, ht, q⟩ := h s0 H0 C cl fp
  refine ⟨fun σ' H' R' => t σ' H' R1 ∧ ∀ b H', R1 b H' → R' b H', ⟨fun pins s σ' H' R' I z => ?_⟩, q, i⟩
  refine thn (ht.run pins s σ' H' _ I z.1) fun u s1 q1 => thn q1 fun u2 s2 q2 => ?_
  obtain ⟨it, fp2, tn, J, H2, h1, h2, h3, h4, h5, h6⟩ := q2
  exact ⟨it, fp2, tn, J, H2, h1, h2, h3, h4, h5, z.2 _ _ h6⟩
section
variable {X : Cx} {σ : L2.St} {H1 : Hy} {D : Addr} {Qd : Hy → Prop} {elt iter1 : Expr} {ifs1 : List Expr} {scope : Scope} {x0 x1 : Str} {p0 p1 : Pos} {a b : Addr} {xs ys : List V}
theorem lc2_ll (j0 j1 : Nat) (hD : H1 D = none) (hS : SqL X.K H1 a xs) (hS1 : SqL X.K H1 b ys) (f : Nat → Nat → List V) (f0 : f 0 0 = []) (fn : ∀ i, i < xs.length → f (i + 1) 0 = f i ys.length) (fl : ∀ i j, i ≤ xs.length → j ≤ ys.length → (f i j).length < sizeLine)
    (inner : ∀ (i : Nat) (x : V) (H' : Hy), xs[i]? = some x → Same H1 H' → tiB X scope (.Name x1 p1) iter1 ((wipe σ [j0, j1]).set j0 (some x)) H' fun J1 H4 => J1 = Itl X.K b ∧ H4 = H')
    (turn : ∀ (i j : Nat) (x y : V) (H' : Hy), xs[i]? = some x → ys[j]? = some y → Same H1 H' → ttB X scope ifs1 ((wipe ((wipe σ [j0, j1]).set j0 (some x)) [j1]).set j1 (some y)) H' fun c H8 =>
      if c = true then teB X scope elt ((wipe ((wipe σ [j0, j1]).set j0 (some x)) [j1]).set j1 (some y)) H8 fun v H9 => Same H' H9 ∧ f i (j + 1) = f i j ++ [v] else Same H' H8 ∧ f i (j + 1) = f i j)
    (done : ∀ H', Same H1 H' → H' D = some (.lst (f xs.length 0)) → Qd H') (hN : X.N.Nodup) (h0 : X.N[j0]? = some x0 := by rfl) (h1 : X.N[j1]? = some x1 := by rfl)
    (hx : ∀ (s : Shared) (H0 : Hy) (C : Addr) (cl : List (Str × Addr)) (fp : List Addr), Loc (X.blk s H0 scope (compEnvC scope cl C X.env) fp).env.scope x0 := by first | exact fun _ _ _ _ _ => Or.inl rfl | exact fun _ _ _ _ _ => Or.inr rfl)
    (hf : ∀ (s : Shared) (H0 : Hy) (C : Addr) (cl : List (Str × Addr)) (fp : List Addr), (X.blk s H0 scope (compEnvC scope cl C X.env) fp).fn x0 = true ∨ (X.blk s H0 scope (compEnvC scope cl C X.env) fp).env.scope.names.lookup x0 = some .local := by first | exact fun _ _ _ _ _ => Or.inr rfl | exact fun _ _ _ _ _ => Or.inl rfl)
    (hx1 : ∀ (s : Shared) (H0 : Hy) (C : Addr) (cl : List (Str × Addr)) (fp : List Addr), Loc (X.blk s H0 scope (compEnvC scope cl C X.env) fp).env.scope x1 := by first | exact fun _ _ _ _ _ => Or.inl rfl | exact fun _ _ _ _ _ => Or.inr rfl)
    (hf1 : ∀ (s : Shared) (H0 : Hy) (C : Addr) (cl : List (Str × Addr)) (fp : List Addr), (X.blk s H0 scope (compEnvC scope cl C X.env) fp).fn x1 = true ∨ (X.blk s H0 scope (compEnvC scope cl C X.env) fp).env.scope.names.lookup x1 = some .local := by first | exact fun _ _ _ _ _ => Or.inr rfl | exact fun _ _ _ _ _ => Or.inl rfl) :
    ∃ W : Nat → Nat → Hy → Prop, (∃ m, W 0 m (upd H1 D (.lst []))) ∧ ∀ i m H, W i m H →
  ((Itl X.K a).stop i H ∧ Qd H) ∨ ((Itl X.K a).go i H ∧ ∃ Nx : Hy → Prop, (∀ H', Nx H' → ∃ m', m' < m ∧ W (i + 1) m' H') ∧ ∀ x H', (Itl X.K a).yld i H x H' → gB X scope (.Name x0 p0) x (wipe σ [j0, j1]) H' fun σ2 H2 => wipe σ2 [j0, j1] = wipe σ [j0, j1] ∧ ttB X scope [] σ2 H2 fun b H3 =>
    if b = true then tiB X scope (.Name x1 p1) iter1 σ2 H3 fun J1 H4 => ∃ W1 : Nat → Nat → Hy → Prop, (∃ m, W1 0 m H4) ∧ ∀ j k H, W1 j k H →
      (J1.stop j H ∧ Nx H) ∨ (J1.go j H ∧ ∃ Nx1 : Hy → Prop, (∀ H', Nx1 H' → ∃ k', k' < k ∧ W1 (j + 1) k' H') ∧ ∀ x H', J1.yld j H x H' → gB X scope (.Name x1 p1) x (wipe σ2 [j1]) H' fun σ3 H5 => wipe σ3 [j1] = wipe σ2 [j1] ∧ ttB X scope ifs1 σ3 H5 fun b H6 =>
        if b = true then teB X scope elt σ3 H6 fun y H7 => ∃ acc, H7 D = some (.lst acc) ∧ acc.length < sizeLine ∧ Nx1 (upd H7 D (.lst (acc ++ [y]))) else Nx1 H6)
    else Nx H3) := by
  have s1 : ∀ {H o}, Same H1 H → Same H1 (upd H D o) := fun {H o} s a u e => by
    rw [upd_ne (ne_of_none e hD)]
    exact s a u e
  refine ⟨fun i m H => m = xs.length - i ∧ i ≤ xs.length ∧ Same H1 H ∧ H D = some (.lst (f i 0)), ⟨xs.length, by simp, Nat.zero_le _, s1 (Same.refl _), by rw [f0]; exact upd_same⟩, ?_⟩
  rintro i m H ⟨rfl, hi, sa, hd⟩
  by_cases hlt : i < xs.length
  · refine .inr ⟨⟨xs, xs[i], sa.seq hS, by simp [hlt]⟩, fun H' => Same H1 H' ∧ H' D = some (.lst (f (i + 1) 0)), fun H' p' => ⟨xs.length - (i + 1), by omega, rfl, hlt, p'⟩, fun x H' y => ?_⟩
    obtain ⟨rfl, y⟩ := y
    have hx0 := y xs (sa.seq hS)
    intro s0 H0 C cl fp
    refine rg_name j0 hN ⟨?_, ?_⟩ h0 (hx s0 H0 C cl fp) (hf s0 H0 C cl fp)
    · by_cases hj : j0 = j1
      · subst hj
        simp [wipe]
      · simp only [wipe, List.set_set]
        rw [List.set_comm (some x) none hj, List.set_set, List.set_set]
    intro s0 H0 C cl fp
    refine rts_nil (iteT ?_)
    refine (inner i x _ hx0 sa).mono fun J1 H4 e => ?_
    obtain ⟨rfl, rfl⟩ := e
    refine ⟨fun j k H => k = ys.length - j ∧ j ≤ ys.length ∧ Same H1 H ∧ H D = some (.lst (f i j)), ⟨ys.length, by simp, Nat.zero_le _, sa, hd⟩, ?_⟩
    rintro j k H5 ⟨rfl, hj, sb, hd5⟩
    by_cases hlt1 : j < ys.length
    · refine .inr ⟨⟨ys, ys[j], sb.seq hS1, by simp [hlt1]⟩, fun H' => Same H1 H' ∧ H' D = some (.lst (f i (j + 1))), fun H' p' => ⟨ys.length - (j + 1), by omega, rfl, hlt1, p'⟩, fun x2 H6 y2 => ?_⟩
      obtain ⟨rfl, y2⟩ := y2
      have hx2 := y2 ys (sb.seq hS1)
      intro s0 H0 C cl fp
      refine rg_name j1 hN ⟨?_, ?_⟩ h1 (hx1 s0 H0 C cl fp) (hf1 s0 H0 C cl fp)
      · simp [wipe]
      refine (turn i j x x2 _ hx0 hx2 sb).mono fun c H8 q => ?_
      cases c with
      | true =>
        rw [if_pos rfl] at q ⊢
        refine teB.mono q fun v H9 q2 => ⟨f i j, q2.1 D _ hd5, fl i j hi hj, s1 (sb.trans q2.1), ?_⟩
        rw [q2.2]
        exact upd_same
      | false =>
        rw [if_neg Bool.false_ne_true] at q ⊢
        refine ⟨sb.trans q.1, ?_⟩
        rw [q.2]
        exact q.1 D _ hd5
    · have e : j = ys.length := by omega
      subst e
      exact .inl ⟨⟨ys, sb.seq hS1, Nat.le_refl _⟩, sb, by rw [fn i hlt]; exact hd5⟩
  · have e : i = xs.length := by omega
    subst e
    exact .inl ⟨⟨xs, sa.seq hS, Nat.le_refl _⟩, done H sa hd⟩
end
/-- the target a name, one test: f i stands in the new list ahead of turn i -/
theorem lc_if {X : Cx} {σ : L2.St} {H1 : Hy} {D : Addr} {Qd : Hy → Prop} {elt : Expr} {ifs : List Expr} {scope : Scope} {J : It} {n : Nat} {G : Hy → Prop} {Y : Nat → Hy → V → Hy → Prop} {x : Str} {px : Pos} (j : Nat) (w : Walk J n G Y) (hD : H1 D = none) (hG : ∀ H', Same H1 H' → G H') (hY : ∀ i H x H', Y i H x H' → Same H H')
    (f : Nat → List V) (f0 : f 0 = []) (fl : ∀ i, i ≤ n → (f i).length < sizeLine) (turn : ∀ i v H H', i < n → Same H1 H' → Y i H v H' → ttB X scope ifs ((wipe σ [j]).set j (some v)) H' fun c H3 => if c = true then teB X scope elt ((wipe σ [j]).set j (some v)) H3 fun y H4 => Same H' H4 ∧ f (i + 1) = f i ++ [y] else Same H' H3 ∧ f (i + 1) = f i)
    (done : ∀ H', Same H1 H' → H' D = some (.lst (f n)) → Qd H') (hN : X.N.Nodup) (hj : X.N[j]? = some x := by rfl) (hx : ∀ (s : Shared) (H0 : Hy) (C : Addr) (cl : List (Str × Addr)) (fp : List Addr), Loc (X.blk s H0 scope (compEnvC scope cl C X.env) fp).env.scope x := by first | exact fun _ _ _ _ _ => Or.inl rfl | exact fun _ _ _ _ _ => Or.inr rfl)
    (hf : ∀ (s : Shared) (H0 : Hy) (C : Addr) (cl : List (Str × Addr)) (fp : List Addr), (X.blk s H0 scope (compEnvC scope cl C X.env) fp).fn x = true ∨ (X.blk s H0 scope (compEnvC scope cl C X.env) fp).env.scope.names.lookup x = some .local := by first | exact fun _ _ _ _ _ => Or.inr rfl | exact fun _ _ _ _ _ => Or.inl rfl) :
    ∃ W : Nat → Nat → Hy → Prop, (∃ m, W 0 m (upd H1 D (.lst []))) ∧ ∀ i m H, W i m H →
      (J.stop i H ∧ Qd H) ∨ (J.go i H ∧ ∃ Nx : Hy → Prop, (∀ H', Nx H' → ∃ m', m' < m ∧ W (i + 1) m' H') ∧ ∀ v H', J.yld i H v H' → gB X scope (.Name x px) v (wipe σ [j]) H' fun σ2 H2 => wipe σ2 [j] = wipe σ [j] ∧ ttB X scope ifs σ2 H2 fun b H3 =>
        if b = true then teB X scope elt σ2 H3 fun y H4 => ∃ acc, H4 D = some (.lst acc) ∧ acc.length < sizeLine ∧ Nx (upd H4 D (.lst (acc ++ [y]))) else Nx H3) := by
  refine lc_f w hD hG hY f f0 fl (fun i v H H' hi s1 hd y => ?_) done
  intro s0 H0 C cl fp
  refine rg_name j hN ⟨?_, ?_⟩ hj (hx s0 H0 C cl fp) (hf s0 H0 C cl fp)
  · simp [wipe]
  have s2 : Same H H' := hY i H v H' y
  refine (turn i v H H' hi (s1.trans s2) y).mono fun c H3 q => ?_
  cases c with
  | true =>
    rw [if_pos rfl] at q ⊢
    exact teB.mono q fun y' H4 q2 => ⟨s2.trans q2.1, q2.2⟩
  | false =>
    rw [if_neg Bool.false_ne_true] at q ⊢
    exact ⟨s2.trans q.1, q.2⟩
end My
set_option Elab.async false
set_option pp.maxSteps 1500
set_option linter.all false
set_option maxRecDepth 100000
set_option maxHeartbeats 4000000
/-! A5: two fors over lists by tests and things of the two indexes; a filtered one by the index -/
namespace My
open PySem PySem.Spec PyProof.Rows L2
def fm2 (n2 : Nat) (P : Nat → Nat → Bool) (G : Nat → Nat → V) (i j : Nat) : List V := ((List.range i).flatMap fun a => ((List.range n2).filter (P a)).map (G a)) ++ ((List.range j).filter (P i)).map (G i)
theorem fm2_len {n2 : Nat} {P : Nat → Nat → Bool} {G : Nat → Nat → V} {i j n1 : Nat} (hi : i ≤ n1) (hj : j ≤ n2) : (fm2 n2 P G i j).length ≤ n1 * n2 + n2 := by
  unfold fm2
  rw [List.length_append]
  have h1 : (((List.range j).filter (P i)).map (G i)).length ≤ n2 := by
    rw [List.length_map]
    exact Nat.le_trans (List.length_filter_le _ _) (by rw [List.length_range]; exact hj)
  have h2 : ∀ k, ((List.range k).flatMap fun a => ((List.range n2).filter (P a)).map (G a)).length ≤ k * n2 := by
    intro k
    induction k with
    | zero => simp
    | succ k ih =>
      rw [List.range_succ, List.flatMap_append, List.length_append, Nat.succ_mul]
      refine Nat.add_le_add ih ?_
      simp only [List.flatMap_cons, List.flatMap_nil, List.append_nil, List.length_map]
      exact Nat.le_trans (List.length_filter_le _ _) (by rw [List.length_range]; exact Nat.le_refl _)
  exact Nat.add_le_add (Nat.le_trans (h2 i) (Nat.mul_le_mul_right _ hi)) h1
section
variable {X : Cx} {σ : L2.St} {H1 : Hy} {D : Addr} {Qd : Hy → Prop} {elt iter1 : Expr} {ifs1 : List Expr} {scope : Scope} {x0 x1 : Str} {p0 p1 : Pos} {a b : Addr} {xs ys : List V}
theorem lc2_g (j0 j1 : Nat) (hD : H1 D = none) (hS : SqL X.K H1 a xs) (hS1 : SqL X.K H1 b ys) (P : Nat → Nat → Bool) (G : Nat → Nat → V) (sz : xs.length * ys.length + ys.length < sizeLine)
    (inner : ∀ (i : Nat) (x : V) (H' : Hy), xs[i]? = some x → Same H1 H' → tiB X scope (.Name x1 p1) iter1 ((wipe σ [j0, j1]).set j0 (some x)) H' fun J1 H4 => J1 = Itl X.K b ∧ H4 = H')
    (turn : ∀ (i j : Nat) (x y : V) (H' : Hy), xs[i]? = some x → ys[j]? = some y → Same H1 H' → ttB X scope ifs1 ((wipe ((wipe σ [j0, j1]).set j0 (some x)) [j1]).set j1 (some y)) H' fun c H8 =>
      c = P i j ∧ if c = true then teB X scope elt ((wipe ((wipe σ [j0, j1]).set j0 (some x)) [j1]).set j1 (some y)) H8 fun v H9 => Same H' H9 ∧ v = G i j else Same H' H8)
    (done : ∀ H', Same H1 H' → H' D = some (.lst ((List.range xs.length).flatMap fun a => ((List.range ys.length).filter (P a)).map (G a))) → Qd H') (hN : X.N.Nodup) (h0 : X.N[j0]? = some x0 := by rfl) (h1 : X.N[j1]? = some x1 := by rfl)
    (hx : ∀ (s : Shared) (H0 : Hy) (C : Addr) (cl : List (Str × Addr)) (fp : List Addr), Loc (X.blk s H0 scope (compEnvC scope cl C X.env) fp).env.scope x0 := by first | exact fun _ _ _ _ _ => Or.inl rfl | exact fun _ _ _ _ _ => Or.inr rfl)
    (hf : ∀ (s : Shared) (H0 : Hy) (C : Addr) (cl : List (Str × Addr)) (fp : List Addr), (X.blk s H0 scope (compEnvC scope cl C X.env) fp).fn x0 = true ∨ (X.blk s H0 scope (compEnvC scope cl C X.env) fp).env.scope.names.lookup x0 = some .local := by first | exact fun _ _ _ _ _ => Or.inr rfl | exact fun _ _ _ _ _ => Or.inl rfl)
    (hx1 : ∀ (s : Shared) (H0 : Hy) (C : Addr) (cl : List (Str × Addr)) (fp : List Addr), Loc (X.blk s H0 scope (compEnvC scope cl C X.env) fp).env.scope x1 := by first | exact fun _ _ _ _ _ => Or.inl rfl | exact fun _ _ _ _ _ => Or.inr rfl)
    (hf1 : ∀ (s : Shared) (H0 : Hy) (C : Addr) (cl : List (Str × Addr)) (fp : List Addr), (X.blk s H0 scope (compEnvC scope cl C X.env) fp).fn x1 = true ∨ (X.blk s H0 scope (compEnvC scope cl C X.env) fp).env.scope.names.lookup x1 = some .local := by first | exact fun _ _ _ _ _ => Or.inr rfl | exact fun _ _ _ _ _ => Or.inl rfl) :
    ∃ W : Nat → Nat → Hy → Prop, (∃ m, W 0 m (upd H1 D (.lst []))) ∧ ∀ i m H, W i m H →
  ((Itl X.K a).stop i H ∧ Qd H) ∨ ((Itl X.K a).go i H ∧ ∃ Nx : Hy → Prop, (∀ H', Nx H' → ∃ m', m' < m ∧ W (i + 1) m' H') ∧ ∀ x H', (Itl X.K a).yld i H x H' → gB X scope (.Name x0 p0) x (wipe σ [j0, j1]) H' fun σ2 H2 => wipe σ2 [j0, j1] = wipe σ [j0, j1] ∧ ttB X scope [] σ2 H2 fun b H3 =>
    if b = true then tiB X scope (.Name x1 p1) iter1 σ2 H3 fun J1 H4 => ∃ W1 : Nat → Nat → Hy → Prop, (∃ m, W1 0 m H4) ∧ ∀ j k H, W1 j k H →
      (J1.stop j H ∧ Nx H) ∨ (J1.go j H ∧ ∃ Nx1 : Hy → Prop, (∀ H', Nx1 H' → ∃ k', k' < k ∧ W1 (j + 1) k' H') ∧ ∀ x H', J1.yld j H x H' → gB X scope (.Name x1 p1) x (wipe σ2 [j1]) H' fun σ3 H5 => wipe σ3 [j1] = wipe σ2 [j1] ∧ ttB X scope ifs1 σ3 H5 fun b H6 =>
        if b = true then teB X scope elt σ3 H6 fun y H7 => ∃ acc, H7 D = some (.lst acc) ∧ acc.length < sizeLine ∧ Nx1 (upd H7 D (.lst (acc ++ [y]))) else Nx1 H6)
    else Nx H3) := by
  refine lc2_ll j0 j1 hD hS hS1 (fm2 ys.length P G) rfl (fun i hi => ?_) (fun i j hi hj => Nat.lt_of_le_of_lt (fm2_len hi hj) sz) inner (fun i j x y H' h2 h3 s => ?_) (fun H' s hd => done H' s (by rw [hd]; unfold fm2; simp)) hN h0 h1 hx hf hx1 hf1
  · unfold fm2
    rw [List.range_succ, List.flatMap_append]
    simp
  · refine ttB.mono (turn i j x y H' h2 h3 s) fun c H8 q => ?_
    obtain ⟨e, q⟩ := q
    cases c with
    | true =>
      rw [if_pos rfl] at q ⊢
      refine teB.mono q fun v H9 q2 => ⟨q2.1, ?_⟩
      rw [q2.2]
      unfold fm2
      rw [List.range_succ, List.filter_append, List.map_append, ← List.append_assoc]
      simp [← e]
    | false =>
      rw [if_neg Bool.false_ne_true] at q ⊢
      refine ⟨q, ?_⟩
      unfold fm2
      rw [List.range_succ, List.filter_append, List.map_append, ← List.append_assoc]
      simp [← e]
end
/-- the target a name, one test; things of list as type α, from y i -/
theorem lc_p {X : Cx} {σ : L2.St} {H1 : Hy} {D : Addr} {Qd : Hy → Prop} {elt : Expr} {ifs : List Expr} {scope : Scope} {J : It} {n : Nat} {G : Hy → Prop} {Y : Nat → Hy → V → Hy → Prop} {x : Str} {px : Pos} (j : Nat) (w : Walk J n G Y) (hD : H1 D = none) (hG : ∀ H', Same H1 H' → G H') (hY : ∀ i H x H', Y i H x H' → Same H H')
    (P : Nat → Bool) (g : Nat → V) (hz : n < sizeLine) (turn : ∀ i v H H', i < n → Same H1 H' → Y i H v H' → ttB X scope ifs ((wipe σ [j]).set j (some v)) H' fun c H3 => c = P i ∧ if c = true then teB X scope elt ((wipe σ [j]).set j (some v)) H3 fun y H4 => Same H' H4 ∧ y = g i else Same H' H3)
    (done : ∀ H', Same H1 H' → H' D = some (.lst (((List.range n).filter P).map g)) → Qd H') (hN : X.N.Nodup) (hj : X.N[j]? = some x := by rfl) (hx : ∀ (s : Shared) (H0 : Hy) (C : Addr) (cl : List (Str × Addr)) (fp : List Addr), Loc (X.blk s H0 scope (compEnvC scope cl C X.env) fp).env.scope x := by first | exact fun _ _ _ _ _ => Or.inl rfl | exact fun _ _ _ _ _ => Or.inr rfl)
    (hf : ∀ (s : Shared) (H0 : Hy) (C : Addr) (cl : List (Str × Addr)) (fp : List Addr), (X.blk s H0 scope (compEnvC scope cl C X.env) fp).fn x = true ∨ (X.blk s H0 scope (compEnvC scope cl C X.env) fp).env.scope.names.lookup x = some .local := by first | exact fun _ _ _ _ _ => Or.inr rfl | exact fun _ _ _ _ _ => Or.inl rfl) :
    ∃ W : Nat → Nat → Hy → Prop, (∃ m, W 0 m (upd H1 D (.lst []))) ∧ ∀ i m H, W i m H →
      (J.stop i H ∧ Qd H) ∨ (J.go i H ∧ ∃ Nx : Hy → Prop, (∀ H', Nx H' → ∃ m', m' < m ∧ W (i + 1) m' H') ∧ ∀ v H', J.yld i H v H' → gB X scope (.Name x px) v (wipe σ [j]) H' fun σ2 H2 => wipe σ2 [j] = wipe σ [j] ∧ ttB X scope ifs σ2 H2 fun b H3 =>
        if b = true then teB X scope elt σ2 H3 fun y H4 => ∃ acc, H4 D = some (.lst acc) ∧ acc.length < sizeLine ∧ Nx (upd H4 D (.lst (acc ++ [y]))) else Nx H3) := by
  refine lc_if j w hD hG hY (fun i => ((List.range i).filter P).map g) rfl (fun i hi => ?_) (fun i v H H' hi s y => ?_) done hN hj hx hf
  · rw [List.length_map]
    exact Nat.lt_of_le_of_lt (Nat.le_trans (List.length_filter_le _ _) (by rw [List.length_range]; exact hi)) hz
  · refine ttB.mono (turn i v H H' hi s y) fun c H8 q => ?_
    obtain ⟨e, q⟩ := q
    cases c with
    | true =>
      rw [if_pos rfl] at q ⊢
      refine teB.mono q fun v H9 q2 => ⟨q2.1, ?_⟩
      rw [q2.2, List.range_succ, List.filter_append, List.map_append]
      simp [← e]
    | false =>
      rw [if_neg Bool.false_ne_true] at q ⊢
      refine ⟨q, ?_⟩
      rw [List.range_succ, List.filter_append, List.map_append]
      simp [← e]
section
variable {X : Cx} {σ : L2.St} {H1 : Hy} {D : Addr} {Qd : Hy → Prop} {elt iter1 : Expr} {ifs1 : List Expr} {scope : Scope} {x0 x1 : Str} {p0 p1 : Pos} {a : Addr} {xs : List V}
/-- over a list, then over whatever can be walked -/
theorem lc2_w (j0 j1 : Nat) (hD : H1 D = none) (hS : SqL X.K H1 a xs) (f : Nat → Nat → List V) (f0 : f 0 0 = [])
    (inner : ∀ (i : Nat) (x : V) (H' : Hy), xs[i]? = some x → Same H1 H' → tiB X scope (.Name x1 p1) iter1 ((wipe σ [j0, j1]).set j0 (some x)) H' fun J1 H4 => Same H' H4 ∧ ∃ (n : Nat) (G : Hy → Prop) (Y : Nat → Hy → V → Hy → Prop), Walk J1 n G Y ∧ (∀ H'', Same H1 H'' → G H'') ∧ (∀ j H x H', Y j H x H' → Same H H') ∧
      f (i + 1) 0 = f i n ∧ (∀ j, j ≤ n → (f i j).length < sizeLine) ∧ ∀ j y H5 H6, j < n → Same H1 H5 → Y j H5 y H6 → ttB X scope ifs1 ((wipe ((wipe σ [j0, j1]).set j0 (some x)) [j1]).set j1 (some y)) H6 fun c H8 =>
      if c = true then teB X scope elt ((wipe ((wipe σ [j0, j1]).set j0 (some x)) [j1]).set j1 (some y)) H8 fun v H9 => Same H6 H9 ∧ f i (j + 1) = f i j ++ [v] else Same H6 H8 ∧ f i (j + 1) = f i j)
    (done : ∀ H', Same H1 H' → H' D = some (.lst (f xs.length 0)) → Qd H') (hN : X.N.Nodup) (h0 : X.N[j0]? = some x0 := by rfl) (h1 : X.N[j1]? = some x1 := by rfl)
    (hx : ∀ (s : Shared) (H0 : Hy) (C : Addr) (cl : List (Str × Addr)) (fp : List Addr), Loc (X.blk s H0 scope (compEnvC scope cl C X.env) fp).env.scope x0 := by first | exact fun _ _ _ _ _ => Or.inl rfl | exact fun _ _ _ _ _ => Or.inr rfl)
    (hf : ∀ (s : Shared) (H0 : Hy) (C : Addr) (cl : List (Str × Addr)) (fp : List Addr), (X.blk s H0 scope (compEnvC scope cl C X.env) fp).fn x0 = true ∨ (X.blk s H0 scope (compEnvC scope cl C X.env) fp).env.scope.names.lookup x0 = some .local := by first | exact fun _ _ _ _ _ => Or.inr rfl | exact fun _ _ _ _ _ => Or.inl rfl)
    (hx1 : ∀ (s : Shared) (H0 : Hy) (C : Addr) (cl : List (Str × Addr)) (fp : List Addr), Loc (X.blk s H0 scope (compEnvC scope cl C X.env) fp).env.scope x1 := by first | exact fun _ _ _ _ _ => Or.inl rfl | exact fun _ _ _ _ _ => Or.inr rfl)
    (hf1 : ∀ (s : Shared) (H0 : Hy) (C : Addr) (cl : List (Str × Addr)) (fp : List Addr), (X.blk s H0 scope (compEnvC scope cl C X.env) fp).fn x1 = true ∨ (X.blk s H0 scope (compEnvC scope cl C X.env) fp).env.scope.names.lookup x1 = some .local := by first | exact fun _ _ _ _ _ => Or.inr rfl | exact fun _ _ _ _ _ => Or.inl rfl) :
    ∃ W : Nat → Nat → Hy → Prop, (∃ m, W 0 m (upd H1 D (.lst []))) ∧ ∀ i m H, W i m H →
  ((Itl X.K a).stop i H ∧ Qd H) ∨ ((Itl X.K a).go i H ∧ ∃ Nx : Hy → Prop, (∀ H', Nx H' → ∃ m', m' < m ∧ W (i + 1) m' H') ∧ ∀ x H', (Itl X.K a).yld i H x H' → gB X scope (.Name x0 p0) x (wipe σ [j0, j1]) H' fun σ2 H2 => wipe σ2 [j0, j1] = wipe σ [j0, j1] ∧ ttB X scope [] σ2 H2 fun b H3 =>
    if b = true then tiB X scope (.Name x1 p1) iter1 σ2 H3 fun J1 H4 => ∃ W1 : Nat → Nat → Hy → Prop, (∃ m, W1 0 m H4) ∧ ∀ j k H, W1 j k H →
      (J1.stop j H ∧ Nx H) ∨ (J1.go j H ∧ ∃ Nx1 : Hy → Prop, (∀ H', Nx1 H' → ∃ k', k' < k ∧ W1 (j + 1) k' H') ∧ ∀ x H', J1.yld j H x H' → gB X scope (.Name x1 p1) x (wipe σ2 [j1]) H' fun σ3 H5 => wipe σ3 [j1] = wipe σ2 [j1] ∧ ttB X scope ifs1 σ3 H5 fun b H6 =>
        if b = true then teB X scope elt σ3 H6 fun y H7 => ∃ acc, H7 D = some (.lst acc) ∧ acc.length < sizeLine ∧ Nx1 (upd H7 D (.lst (acc ++ [y]))) else Nx1 H6)
    else Nx H3) := by
  have s1 : ∀ {H o}, Same H1 H → Same H1 (upd H D o) := fun {H o} s a u e => by
    rw [upd_ne (ne_of_none e hD)]
    exact s a u e
  refine ⟨fun i m H => m = xs.length - i ∧ i ≤ xs.length ∧ Same H1 H ∧ H D = some (.lst (f i 0)), ⟨xs.length, by simp, Nat.zero_le _, s1 (Same.refl _), by rw [f0]; exact upd_same⟩, ?_⟩
  rintro i m H ⟨rfl, hi, sa, hd⟩
  by_cases hlt : i < xs.length
  · refine .inr ⟨⟨xs, xs[i], sa.seq hS, by simp [hlt]⟩, fun H' => Same H1 H' ∧ H' D = some (.lst (f (i + 1) 0)), fun H' p' => ⟨xs.length - (i + 1), by omega, rfl, hlt, p'⟩, fun x H' y => ?_⟩
    obtain ⟨rfl, y⟩ := y
    have hx0 := y xs (sa.seq hS)
    intro s0 H0 C cl fp
    refine rg_name j0 hN ⟨?_, ?_⟩ h0 (hx s0 H0 C cl fp) (hf s0 H0 C cl fp)
    · by_cases hj : j0 = j1
      · subst hj
        simp [wipe]
      · simp only [wipe, List.set_set]
        rw [List.set_comm (some x) none hj, List.set_set, List.set_set]
    intro s0 H0 C cl fp
    refine rts_nil (iteT ?_)
    refine (inner i x _ hx0 sa).mono fun J1 H4 e => ?_
    obtain ⟨s4, n, G, Y, wk, hG, hY, fn, fl, turn⟩ := e
    have hd4 := s4 _ _ hd
    have sa4 := sa.trans s4
    refine ⟨fun j k H => k = n - j ∧ j ≤ n ∧ Same H1 H ∧ H D = some (.lst (f i j)), ⟨n, by simp, Nat.zero_le _, sa4, hd4⟩, ?_⟩
    rintro j k H5 ⟨rfl, hj, sb, hd5⟩
    by_cases hlt1 : j < n
    · refine .inr ⟨wk.goes j H5 hlt1 (hG _ sb), fun H' => Same H1 H' ∧ H' D = some (.lst (f i (j + 1))), fun H' p' => ⟨n - (j + 1), by omega, rfl, hlt1, p'⟩, fun x2 H6 y2 => ?_⟩
      have y3 := wk.yields j H5 x2 H6 hlt1 (hG _ sb) y2
      have s6 := hY _ _ _ _ y3
      intro s0 H0 C cl fp
      refine rg_name j1 hN ⟨?_, ?_⟩ h1 (hx1 s0 H0 C cl fp) (hf1 s0 H0 C cl fp)
      · simp [wipe]
      refine (turn j x2 H5 H6 hlt1 sb y3).mono fun c H8 q => ?_
      cases c with
      | true =>
        rw [if_pos rfl] at q ⊢
        refine teB.mono q fun v H9 q2 => ⟨f i j, q2.1 D _ (s6 D _ hd5), fl j hj, s1 (sb.trans (s6.trans q2.1)), ?_⟩
        rw [q2.2]
        exact upd_same
      | false =>
        rw [if_neg Bool.false_ne_true] at q ⊢
        refine ⟨sb.trans (s6.trans q.1), ?_⟩
        rw [q.2]
        exact q.1 D _ (s6 D _ hd5)
    · have e : j = n := by omega
      subst e
      exact .inl ⟨wk.stops H5 (hG _ sb), sb, by rw [fn]; exact hd5⟩
  · have e : i = xs.length := by omega
    subst e
    exact .inl ⟨⟨xs, sa.seq hS, Nat.le_refl _⟩, done H sa hd⟩
end
end My
set_option Elab.async false
set_option pp.maxSteps 1500
set_option linter.all false
set_option maxRecDepth 100000
set_option maxHeartbeats 4000000
/-! A6: methods, classes made, attributes as targets -/
namespace My
open PySem PySem.Spec PyProof.Rows L2
/-- the promise of a method's def -/
structure HasM (P : Program) (w : World) (K : PySem.W.Frag) (mg : Str → Option Value) (base : Heap) (k : Nat) (f : Addr) (ps : List Str) (sp : Sp) : Prop where
  ex : ∃ fd, Binds K fd ps [] ∧ FnOk P w K mg base CX0 k f fd ps sp
section
variable {P : Program} {w : World} {K : PySem.W.Frag} {mg : Str → Option Value} {base : Heap}
theorem mk_hasM {d : He.DefD} {N ps : List Str} {sp : Sp} {k : Nat} (F : ∃ fd, FD K d fd) (S : FnScope N ps d.scope)
    (hb : ∀ (kV doc pm : Value) (an : Option Addr) (cdv ct : Value) (us : List Value), us.length = ps.length → bindArgs (PySem.W.fnOf d.name d.qual d.params d.body d.scope .none kV doc pm an cdv ct) ⟨us, []⟩ = pure (ps.zip us)) (len : ∀ vs H Q E, sp vs H Q E → vs.length = ps.length)
    (body : ∀ (cdv : Value) (A : Around) (outer : List Env) (s : Shared) (H : Hy) (vs : List V) (Q : VK) (E : XK), Room k (A.deeper (envOfC d.qual d.scope s.heap.objs.size (He.fAd K d.at_) cdv)) → sp vs H Q E →
      RB (cxOf CX0 P w K mg base N d.qual d.scope (He.fAd K d.at_) cdv A outer s H E).nox d.body { nx := fun _ H' => Q .non H', rt := Q } (start N vs) H) : HasM P w K mg base (k + 1) (He.fAd K d.at_) ps sp := by
  obtain ⟨fd, F⟩ := F
  exact ⟨fd, F.bindsN hb, mk_ok F S len body⟩
theorem HasM.up {f : Addr} {ps : List Str} {sp : Sp} {j k : Nat} (h : HasM P w K mg base j f ps sp) (hj : j ≤ k) : HasM P w K mg base k f ps sp := let ⟨fd, b, F⟩ := h.ex; ⟨fd, b, F.mono hj⟩
end
section
variable {X : Cx} {σ : L2.St} {H : Hy} {Q : VK} {pos p p2 apos : Pos} {e o : Expr} {es : List Expr} {k : Nat} {x m : Str} {ps : List Str} {sp : Sp} {C f : Addr} {j : Nat}
theorem r_make (M : Mk X.K C f) (F : HasM X.prog X.w X.K X.mg X.base k f ps sp) (hr : Room j X.A) (hm : X.mg x = some (.ref C))
    (h : RA X (e :: es) σ H fun vs H1 => ∀ x dx, H1 x = none → H1 dx = none → dx ≠ x → sp (.ref x :: vs) (upd (upd H1 dx (.own x)) x (.ins C dx [])) (fun v H2 => v = .non ∧ Q (.ref x) H2) E0) (hg : Gl X x := by rfl) (hdb : (x == ("__debug__" : Str)) = false := by decide)
    (he : starEach (e :: es) X.env = (false, eval e X.env) :: starEach es X.env := by rfl) (hpl : (backTo pos (starEach es X.env)).any (·.1) = false := by rfl) (hj : k + 1 ≤ j := by decide) : RE X (.Call (.Name x p) (e :: es) [] pos) σ H Q := by
  obtain ⟨fd, b, F⟩ := F.ex
  exact ⟨_, pe_make M F (hr.mono hj) hg hm b .nil pass0 pRA hdb he hpl, h.mono fun vs H1 q x dx h1 h2 h3 => by rw [List.append_nil]; exact q x dx h1 h2 h3⟩
theorem r_meth (c : Cls X.K C) (hm : Meth X.K C m f) (F : HasM X.prog X.w X.K X.mg X.base k f ps sp) (hr : Room j X.A)
    (h : RE X o σ H fun x H1 => ∃ a dx fs, x = .ref a ∧ H1 a = some (.ins C dx fs) ∧ fs.lookup m = none ∧ RA X (e :: es) σ H1 fun vs H2 => sp (x :: vs) H2 Q E0)
    (hst : starEach (e :: es) X.env = (false, eval e X.env) :: starEach es X.env := by rfl) (hpl : (backTo pos (starEach es X.env)).any (·.1) = false := by rfl) {pl : Sem Bool}
    (ht : eval (.Call (.Attribute o m apos) (e :: es) [] pos) X.env = (do
      let ov ← eval o X.env
      standAt apos.atName
      let (f, first) ← holding [ov] (getMethod ov m pl)
      callWith pos f first (backTo pos (starEach (e :: es) X.env)) (backToKw pos (keywordEach [] X.env))) := by rfl) (hj : k ≤ j := by decide) : RE X (.Call (.Attribute o m apos) (e :: es) [] pos) σ H Q := by
  obtain ⟨fd, b, F⟩ := F.ex
  refine ⟨_, pe_meth pRE c hm F (hr.mono hj) b .nil pass0 pRA hst hpl ht, h.mono fun x H1 q => ?_⟩
  obtain ⟨a, dx, fs, h1, h2, h3, q⟩ := q
  exact ⟨a, dx, fs, h1, h2, h3, q.mono fun vs H2 q2 => by rw [List.append_nil]; exact q2⟩
theorem rg_attr {g : Str} {v : V} {QG : L2.St → Hy → Prop} (h : RE X o σ H fun x H1 => ∃ a C dx fs, x = .ref a ∧ H1 a = some (.ins C dx fs) ∧ Cls X.K C ∧ NoAttr X.K C g ∧ fs.length < 1000 ∧ QG σ (upd H1 a (.ins C dx (putF g v fs)))) : RG X (.Attribute o g p) v σ H QG := by
  refine ⟨fun v σ H QG => RE X o σ H fun x H1 => ∃ a C dx fs, x = .ref a ∧ H1 a = some (.ins C dx fs) ∧ Cls X.K C ∧ NoAttr X.K C g ∧ fs.length < 1000 ∧ QG σ (upd H1 a (.ins C dx (putF g v fs))), ⟨fun pins s σ H v u Q I r h => ?_⟩, h⟩
  refine PySem.W.kas_attr (thn (pRE.run pins s σ H _ I h) fun ov s1 q => ?_)
  obtain ⟨x, H1, I1, rx, a, C, dx, fs, rfl, h1, h2, h3, h4, q⟩ := q
  obtain rfl : ov = Value.ref a := rx
  exact setattr_ok I1 h1 h2 h3 h4 r fun s2 I2 => ⟨σ, _, I2, q⟩
end
end My
namespace My
open PySem PySem.Spec PyProof.Rows L2
/-- all but the thing at x is as it was -/
def Keep (x : Addr) (H H' : Hy) : Prop := ∀ a u, a ≠ x → H a = some u → H' a = some u
theorem Keep.refl (x : Addr) (H : Hy) : Keep x H H := fun _ _ _ h => h
theorem Keep.trans {x : Addr} {H H1 H2 : Hy} (a : Keep x H H1) (b : Keep x H1 H2) : Keep x H H2 := fun c u n h => b c u n (a c u n h)
theorem Keep.of {x : Addr} {H H' : Hy} (s : Same H H') : Keep x H H' := fun a u _ h => s a u h
theorem Keep.upd {x : Addr} {H : Hy} {o : HO} : Keep x H (upd H x o) := fun a u n h => by rw [upd_ne n]; exact h
theorem Keep.upd4 {x : Addr} {H : Hy} {o1 o2 o3 o4 : HO} : Keep x H (L2.upd (L2.upd (L2.upd (L2.upd H x o1) x o2) x o3) x o4) := Keep.upd.trans (Keep.upd.trans (Keep.upd.trans Keep.upd))
theorem Keep.tup {x : Addr} {H H' : Hy} {C dx : Addr} {fs : List (Str × V)} {a : Addr} {xs : List V} (k : Keep x H H') (hx : H x = some (.ins C dx fs)) (h : H a = some (.tup xs)) : H' a = some (.tup xs) :=
  k a _ (fun e => by rw [e, hx] at h; cases h) h
theorem Keep.lst {x : Addr} {H H' : Hy} {C dx : Addr} {fs : List (Str × V)} {a : Addr} {xs : List V} (k : Keep x H H') (hx : H x = some (.ins C dx fs)) (h : H a = some (.lst xs)) : H' a = some (.lst xs) :=
  k a _ (fun e => by rw [e, hx] at h; cases h) h
theorem Keep.sqt {K : PySem.W.Frag} {x : Addr} {H H' : Hy} {C dx : Addr} {fs : List (Str × V)} {a : Addr} {xs : List V} (k : Keep x H H') (hx : H x = some (.ins C dx fs)) (h : SqT K H a xs) : SqT K H' a xs := by
  rcases h with (h | ⟨o, h⟩) | h
  · exact .inl (.inl (k.tup hx h))
  · exact .inl (.inr ⟨o, k a _ (fun e => by rw [e, hx] at h; cases h) h⟩)
  · exact .inr h
theorem same_made {H : Hy} {x dx C : Addr} (h1 : H x = none) (h2 : H dx = none) : Same H (upd (upd H dx (.own x)) x (.ins C dx [])) := fun a u e => by
  rw [upd_ne (ne_of_none e h1), upd_ne (ne_of_none e h2)]
  exact e
/-- kept but for a thing that was not there: nothing that stood is touched -/
theorem Keep.same {x : Addr} {H H1 H2 : Hy} (h : H x = none) (s : Same H H1) (k : Keep x H1 H2) : Same H H2 := fun a u e => k a u (ne_of_none e h) (s a u e)
end My
set_option Elab.async false
set_option pp.maxSteps 1500
set_option linter.all false
set_option maxRecDepth 100000
set_option maxHeartbeats 4000000
/-! A7: comprehensions of new things; append, index, reversed -/
namespace My
open PySem PySem.Spec PyProof.Rows L2
section
variable {X : Cx} {σ : L2.St} {H1 : Hy} {D : Addr} {Qd : Hy → Prop} {elt iter1 : Expr} {ifs1 : List Expr} {scope : Scope} {x0 x1 : Str} {p0 p1 : Pos} {a b : Addr} {xs ys : List V}
theorem lc2_r (j0 j1 : Nat) (hD : H1 D = none) (hS : SqL X.K H1 a xs) (hS1 : SqL X.K H1 b ys) (R : Nat → Nat → List V → Hy → Prop) (r0 : R 0 0 [] (upd H1 D (.lst []))) (rn : ∀ i vs H, i < xs.length → R i ys.length vs H → R (i + 1) 0 vs H) (rl : ∀ i j vs H, i ≤ xs.length → j ≤ ys.length → R i j vs H → vs.length < sizeLine) (stab : ∀ i j vs H H', (∃ ws, H D = some (.lst ws)) → (∀ a u, a ≠ D → H a = some u → H' a = some u) → R i j vs H → R i j vs H')
    (inner : ∀ (i : Nat) (x : V) (H' : Hy), xs[i]? = some x → Same H1 H' → tiB X scope (.Name x1 p1) iter1 ((wipe σ [j0, j1]).set j0 (some x)) H' fun J1 H4 => J1 = Itl X.K b ∧ H4 = H')
    (turn : ∀ (i j : Nat) (x y : V) (vs : List V) (H' : Hy), xs[i]? = some x → ys[j]? = some y → Same H1 H' → H' D = some (.lst vs) → R i j vs H' → ttB X scope ifs1 ((wipe ((wipe σ [j0, j1]).set j0 (some x)) [j1]).set j1 (some y)) H' fun c H8 =>
      if c = true then teB X scope elt ((wipe ((wipe σ [j0, j1]).set j0 (some x)) [j1]).set j1 (some y)) H8 fun v H9 => Same H' H9 ∧ R i (j + 1) (vs ++ [v]) H9 else Same H' H8 ∧ R i (j + 1) vs H8)
    (done : ∀ H' vs, Same H1 H' → H' D = some (.lst vs) → R xs.length 0 vs H' → Qd H') (hN : X.N.Nodup) (h0 : X.N[j0]? = some x0 := by rfl) (h1 : X.N[j1]? = some x1 := by rfl)
    (hx : ∀ (s : Shared) (H0 : Hy) (C : Addr) (cl : List (Str × Addr)) (fp : List Addr), Loc (X.blk s H0 scope (compEnvC scope cl C X.env) fp).env.scope x0 := by first | exact fun _ _ _ _ _ => Or.inl rfl | exact fun _ _ _ _ _ => Or.inr rfl)
    (hf : ∀ (s : Shared) (H0 : Hy) (C : Addr) (cl : List (Str × Addr)) (fp : List Addr), (X.blk s H0 scope (compEnvC scope cl C X.env) fp).fn x0 = true ∨ (X.blk s H0 scope (compEnvC scope cl C X.env) fp).env.scope.names.lookup x0 = some .local := by first | exact fun _ _ _ _ _ => Or.inr rfl | exact fun _ _ _ _ _ => Or.inl rfl)
    (hx1 : ∀ (s : Shared) (H0 : Hy) (C : Addr) (cl : List (Str × Addr)) (fp : List Addr), Loc (X.blk s H0 scope (compEnvC scope cl C X.env) fp).env.scope x1 := by first | exact fun _ _ _ _ _ => Or.inl rfl | exact fun _ _ _ _ _ => Or.inr rfl)
    (hf1 : ∀ (s : Shared) (H0 : Hy) (C : Addr) (cl : List (Str × Addr)) (fp : List Addr), (X.blk s H0 scope (compEnvC scope cl C X.env) fp).fn x1 = true ∨ (X.blk s H0 scope (compEnvC scope cl C X.env) fp).env.scope.names.lookup x1 = some .local := by first | exact fun _ _ _ _ _ => Or.inr rfl | exact fun _ _ _ _ _ => Or.inl rfl) :
    ∃ W : Nat → Nat → Hy → Prop, (∃ m, W 0 m (upd H1 D (.lst []))) ∧ ∀ i m H, W i m H →
  ((Itl X.K a).stop i H ∧ Qd H) ∨ ((Itl X.K a).go i H ∧ ∃ Nx : Hy → Prop, (∀ H', Nx H' → ∃ m', m' < m ∧ W (i + 1) m' H') ∧ ∀ x H', (Itl X.K a).yld i H x H' → gB X scope (.Name x0 p0) x (wipe σ [j0, j1]) H' fun σ2 H2 => wipe σ2 [j0, j1] = wipe σ [j0, j1] ∧ ttB X scope [] σ2 H2 fun b H3 =>
    if b = true then tiB X scope (.Name x1 p1) iter1 σ2 H3 fun J1 H4 => ∃ W1 : Nat → Nat → Hy → Prop, (∃ m, W1 0 m H4) ∧ ∀ j k H, W1 j k H →
      (J1.stop j H ∧ Nx H) ∨ (J1.go j H ∧ ∃ Nx1 : Hy → Prop, (∀ H', Nx1 H' → ∃ k', k' < k ∧ W1 (j + 1) k' H') ∧ ∀ x H', J1.yld j H x H' → gB X scope (.Name x1 p1) x (wipe σ2 [j1]) H' fun σ3 H5 => wipe σ3 [j1] = wipe σ2 [j1] ∧ ttB X scope ifs1 σ3 H5 fun b H6 =>
        if b = true then teB X scope elt σ3 H6 fun y H7 => ∃ acc, H7 D = some (.lst acc) ∧ acc.length < sizeLine ∧ Nx1 (upd H7 D (.lst (acc ++ [y]))) else Nx1 H6)
    else Nx H3) := by
  have s1 : ∀ {H o}, Same H1 H → Same H1 (upd H D o) := fun {H o} s a u e => by
    rw [upd_ne (ne_of_none e hD)]
    exact s a u e
  refine ⟨fun i m H => m = xs.length - i ∧ i ≤ xs.length ∧ Same H1 H ∧ ∃ vs, H D = some (.lst vs) ∧ R i 0 vs H, ⟨xs.length, by simp, Nat.zero_le _, s1 (Same.refl _), [], upd_same, r0⟩, ?_⟩
  rintro i m H ⟨rfl, hi, sa, vs, hd, hr⟩
  by_cases hlt : i < xs.length
  · refine .inr ⟨⟨xs, xs[i], sa.seq hS, by simp [hlt]⟩, fun H' => Same H1 H' ∧ ∃ vs, H' D = some (.lst vs) ∧ R (i + 1) 0 vs H', fun H' p' => ⟨xs.length - (i + 1), by omega, rfl, hlt, p'⟩, fun x H' y => ?_⟩
    obtain ⟨rfl, y⟩ := y
    have hx0 := y xs (sa.seq hS)
    intro s0 H0 C cl fp
    refine rg_name j0 hN ⟨?_, ?_⟩ h0 (hx s0 H0 C cl fp) (hf s0 H0 C cl fp)
    · by_cases hj : j0 = j1
      · subst hj
        simp [wipe]
      · simp only [wipe, List.set_set]
        rw [List.set_comm (some x) none hj, List.set_set, List.set_set]
    intro s0 H0 C cl fp
    refine rts_nil (iteT ?_)
    refine (inner i x _ hx0 sa).mono fun J1 H4 e => ?_
    obtain ⟨rfl, rfl⟩ := e
    refine ⟨fun j k H => k = ys.length - j ∧ j ≤ ys.length ∧ Same H1 H ∧ ∃ vs, H D = some (.lst vs) ∧ R i j vs H, ⟨ys.length, by simp, Nat.zero_le _, sa, vs, hd, hr⟩, ?_⟩
    rintro j k H5 ⟨rfl, hj, sb, vs5, hd5, hr5⟩
    by_cases hlt1 : j < ys.length
    · refine .inr ⟨⟨ys, ys[j], sb.seq hS1, by simp [hlt1]⟩, fun H' => Same H1 H' ∧ ∃ vs, H' D = some (.lst vs) ∧ R i (j + 1) vs H', fun H' p' => ⟨ys.length - (j + 1), by omega, rfl, hlt1, p'⟩, fun x2 H6 y2 => ?_⟩
      obtain ⟨rfl, y2⟩ := y2
      have hx2 := y2 ys (sb.seq hS1)
      intro s0 H0 C cl fp
      refine rg_name j1 hN ⟨?_, ?_⟩ h1 (hx1 s0 H0 C cl fp) (hf1 s0 H0 C cl fp)
      · simp [wipe]
      refine (turn i j x x2 vs5 _ hx0 hx2 sb hd5 hr5).mono fun c H8 q => ?_
      cases c with
      | true =>
        rw [if_pos rfl] at q ⊢
        exact teB.mono q fun v H9 q2 => ⟨vs5, q2.1 D _ hd5, rl i j vs5 _ hi hj hr5, s1 (sb.trans q2.1), _, upd_same, stab _ _ _ _ _ ⟨_, q2.1 D _ hd5⟩ (fun a u n h => by rw [upd_ne n]; exact h) q2.2⟩
      | false =>
        rw [if_neg Bool.false_ne_true] at q ⊢
        exact ⟨sb.trans q.1, vs5, q.1 D _ hd5, q.2⟩
    · have e : j = ys.length := by omega
      subst e
      exact .inl ⟨⟨ys, sb.seq hS1, Nat.le_refl _⟩, sb, vs5, hd5, rn i vs5 _ hlt hr5⟩
  · have e : i = xs.length := by omega
    subst e
    exact .inl ⟨⟨xs, sa.seq hS, Nat.le_refl _⟩, done H vs sa hd hr⟩
end
section
variable {X : Cx} {σ : L2.St} {H1 : Hy} {D : Addr} {Qd : Hy → Prop} {tg elt : Expr} {ifs : List Expr} {scope : Scope} {J : It} {n : Nat} {G : Hy → Prop} {Y : Nat → Hy → V → Hy → Prop} {vs : List Nat}
/-- R i: what is true of the new list ahead of turn i -/
theorem lc_r (w : Walk J n G Y) (hD : H1 D = none) (hG : ∀ H', Same H1 H' → G H') (hY : ∀ i H x H', Y i H x H' → Same H H') (R : Nat → List V → Hy → Prop) (r0 : R 0 [] (upd H1 D (.lst []))) (rl : ∀ i vs H, i ≤ n → R i vs H → vs.length < sizeLine) (stab : ∀ i vs H H', (∃ ws, H D = some (.lst ws)) → (∀ a u, a ≠ D → H a = some u → H' a = some u) → R i vs H → R i vs H')
    (turn : ∀ i x ws H H', i < n → Same H1 H → H D = some (.lst ws) → R i ws H → Y i H x H' → gB X scope tg x (wipe σ vs) H' fun σ2 H2 => wipe σ2 vs = wipe σ vs ∧ ttB X scope ifs σ2 H2 fun b H3 =>
      if b = true then teB X scope elt σ2 H3 fun y H4 => Same H H4 ∧ R (i + 1) (ws ++ [y]) H4 else Same H H3 ∧ R (i + 1) ws H3)
    (done : ∀ H' ws, Same H1 H' → H' D = some (.lst ws) → R n ws H' → Qd H') :
    ∃ W : Nat → Nat → Hy → Prop, (∃ m, W 0 m (upd H1 D (.lst []))) ∧ ∀ i m H, W i m H →
      (J.stop i H ∧ Qd H) ∨ (J.go i H ∧ ∃ Nx : Hy → Prop, (∀ H', Nx H' → ∃ m', m' < m ∧ W (i + 1) m' H') ∧ ∀ x H', J.yld i H x H' → gB X scope tg x (wipe σ vs) H' fun σ2 H2 => wipe σ2 vs = wipe σ vs ∧ ttB X scope ifs σ2 H2 fun b H3 =>
        if b = true then teB X scope elt σ2 H3 fun y H4 => ∃ acc, H4 D = some (.lst acc) ∧ acc.length < sizeLine ∧ Nx (upd H4 D (.lst (acc ++ [y]))) else Nx H3) := by
  have s1 : ∀ {H o}, Same H1 H → Same H1 (upd H D o) := fun {H o} s a u e => by
    rw [upd_ne (ne_of_none e hD)]
    exact s a u e
  refine lc_it w (fun i H => Same H1 H ∧ ∃ ws, H D = some (.lst ws) ∧ R i ws H) ⟨same_new hD, [], upd_same, r0⟩ (fun i H _ p => hG H p.1) (fun i x H H' hi p y => ?_) fun H p => let ⟨s, ws, hd, hr⟩ := p; done H ws s hd hr
  obtain ⟨p1, ws, hd, hr⟩ := p
  have t := turn i x ws H H' hi p1 hd hr y
  intro s0 H0 C cl fp
  refine (t s0 H0 C cl fp).mono fun σ2 H2 q => ⟨q.1, ?_⟩
  intro s0 H0 C cl fp
  obtain ⟨t2, ht2, q2⟩ := q.2 s0 H0 C cl fp
  refine ⟨fun σ' H' Q' => t2 σ' H' (fun b H3 => if b = true then teB X scope elt σ' H3 fun y H4 => Same H H4 ∧ R (i + 1) (ws ++ [y]) H4 else Same H H3 ∧ R (i + 1) ws H3) ∧ ∀ b H3, (if b = true then teB X scope elt σ' H3 fun y H4 => Same H H4 ∧ R (i + 1) (ws ++ [y]) H4 else Same H H3 ∧ R (i + 1) ws H3) → Q' b H3,
    ⟨fun pins s σ' H' Q' I z => ?_⟩, q2, fun b H3 z => ?_⟩
  · exact thn (ht2.run pins s σ' H' _ I z.1) fun u s1 ⟨H1, I1, q3⟩ => ⟨H1, I1, z.2 u H1 q3⟩
  · cases b with
    | true =>
      rw [if_pos rfl] at z ⊢
      intro s0 H0 C cl fp
      exact (z s0 H0 C cl fp).mono fun y H4 z2 => ⟨ws, z2.1 D _ hd, rl i ws _ (Nat.le_of_lt hi) hr, s1 (fun a u e => z2.1 a u (p1 a u e)), _, upd_same, stab _ _ _ _ ⟨_, z2.1 D _ hd⟩ (fun a u n h => by rw [upd_ne n]; exact h) z2.2⟩
    | false =>
      rw [if_neg Bool.false_ne_true] at z ⊢
      exact ⟨fun a u e => z.1 a u (p1 a u e), ws, z.1 D _ hd, z.2⟩
end
section
variable {X : Cx} {σ : L2.St} {H : Hy} {Q : VK} {pos p p2 p3 apos : Pos} {e a : Expr} {k : Nat}
theorem r_revL (h : RE X e σ H fun x H1 => ∃ a xs, x = .ref a ∧ SqL X.K H1 a xs ∧ ∀ p, H1 p = none → Q (.ref p) (upd H1 p (.lst xs.reverse))) : RE X (.Subscript e (.Slice none none (some (.UnaryOp .USub (.Constant (.int 1) k p) p2)) p3) pos) σ H Q := ⟨_, pe_revL pRE, h⟩
/-- l.append(a) -/
theorem r_append (h : RE X e σ H fun x H1 => ∃ l, x = .ref l ∧ (∃ xs, H1 l = some (.lst xs)) ∧ RA X [a] σ H1 fun vs H2 => ∃ xs y, vs = [y] ∧ H2 l = some (.lst xs) ∧ xs.length < sizeLine ∧ Q .non (upd H2 l (.lst (xs ++ [y]))))
    (hbase : attributeBase e "append" X.env (eval e X.env) = eval e X.env := by rfl)
    (hfew : ((backTo pos (starEach [a] X.env)).all (fun x => !x.1) && (backToKw pos (keywordEach [] X.env)).all (fun x => x.1.isSome)
      && decide ([a].length + ([] : List Keyword).length + (if ([] : List Keyword).isEmpty then 0 else 1) < 30)) = true := by rfl)
    (hline : (apos.endLine == pos.line) = true := by rfl) (hs : starEach [a] X.env = (false, eval a X.env) :: starEach [] X.env := by rfl) (hplain : (backTo pos (starEach [] X.env)).any (·.1) = false := by rfl) : RE X (.Call (.Attribute e "append" apos) [a] [] pos) σ H Q := by
  refine r_bm PySem.F.plainAttrs_list PySem.F.slot_list_append PySem.F.type_list_append mt_append (h.mono fun x H1 q => ?_) hbase hfew hline hs hplain
  obtain ⟨l, rfl, h1, q⟩ := q
  refine ⟨?_, q.mono fun vs H2 q2 => ?_⟩
  · obtain ⟨xs, h1⟩ := h1
    exact .inl ⟨rfl, xs, SqL.of h1⟩
  · obtain ⟨xs, y, rfl, h2, h3, q3⟩ := q2
    exact ⟨l, xs, y, rfl, rfl, h2, h3, q3⟩
/-- l.index(a), flat things -/
theorem r_lindex (h : RE X e σ H fun x H1 => ∃ l, x = .ref l ∧ (∃ xs, H1 l = some (.lst xs)) ∧ RA X [a] σ H1 fun vs H2 => rIndex X.K (.ref l) vs H2 Q)
    (hbase : attributeBase e "index" X.env (eval e X.env) = eval e X.env := by rfl)
    (hfew : ((backTo pos (starEach [a] X.env)).all (fun x => !x.1) && (backToKw pos (keywordEach [] X.env)).all (fun x => x.1.isSome)
      && decide ([a].length + ([] : List Keyword).length + (if ([] : List Keyword).isEmpty then 0 else 1) < 30)) = true := by rfl)
    (hline : (apos.endLine == pos.line) = true := by rfl) (hs : starEach [a] X.env = (false, eval a X.env) :: starEach [] X.env := by rfl) (hplain : (backTo pos (starEach [] X.env)).any (·.1) = false := by rfl) : RE X (.Call (.Attribute e "index" apos) [a] [] pos) σ H Q := by
  refine r_bm PySem.F.plainAttrs_list PySem.F.slot_list_index PySem.F.type_list_index mt_index (h.mono fun x H1 q => ?_) hbase hfew hline hs hplain
  obtain ⟨l, rfl, h1, q⟩ := q
  refine ⟨?_, q⟩
  obtain ⟨xs, h1⟩ := h1
  exact .inl ⟨rfl, xs, SqL.of h1⟩
end
end My
set_option Elab.async false
set_option pp.maxSteps 1500
set_option linter.all false
set_option maxRecDepth 100000
set_option maxHeartbeats 4000000
/-! A8: rows of tuples in the heap -/
namespace My
open PySem PySem.Spec PyProof.Rows L2
section
variable {α β : Type} {F : α → β → Prop}
theorem pd_len {l : List α} {m : List β} (h : Paired F l m) : l.length = m.length := by
  induction h with
  | nil => rfl
  | cons _ _ ih => exact congrArg Nat.succ ih
theorem pd_get {l : List α} {m : List β} {i : Nat} {v : α} (h : Paired F l m) (e : l[i]? = some v) : ∃ p, m[i]? = some p ∧ F v p := by
  induction h generalizing i with
  | nil => simp at e
  | cons a _ ih =>
    cases i with
    | zero =>
      obtain rfl := Option.some.inj e
      exact ⟨_, rfl, a⟩
    | succ i => exact ih (i := i) (by simpa using e)
theorem pd_get' {l : List α} {m : List β} {i : Nat} {p : β} (h : Paired F l m) (e : m[i]? = some p) : ∃ v, l[i]? = some v ∧ F v p := by
  induction h generalizing i with
  | nil => simp at e
  | cons a _ ih =>
    cases i with
    | zero =>
      obtain rfl := Option.some.inj e
      exact ⟨_, rfl, a⟩
    | succ i => exact ih (i := i) (by simpa using e)
theorem pd_append {l l2 : List α} {m m2 : List β} (h : Paired F l m) (h2 : Paired F l2 m2) : Paired F (l ++ l2) (m ++ m2) := by
  induction h with
  | nil => exact h2
  | cons a _ ih => exact .cons a ih
theorem pd_reverse {l : List α} {m : List β} (h : Paired F l m) : Paired F l.reverse m.reverse := by
  induction h with
  | nil => exact .nil
  | cons a _ ih =>
    rw [List.reverse_cons, List.reverse_cons]
    exact pd_append ih (.cons a .nil)
end
/-- vs are references to tuples, of what g tells of ps -/
def Tu {α : Type} (g : α → List V) (H : Hy) (vs : List V) (ps : List α) : Prop := Paired (fun v p => ∃ t, v = .ref t ∧ H t = some (.tup (g p))) vs ps
section
variable {α : Type} {g : α → List V} {H H' : Hy} {vs us : List V} {ps qs : List α}
theorem Tu.keep {D : Addr} (h : Tu g H vs ps) (k : ∀ a u, a ≠ D → H a = some u → H' a = some u) (hD : ∃ ws, H D = some (.lst ws)) : Tu g H' vs ps := Paired.mapP h fun v p q => by
  obtain ⟨t, rfl, q⟩ := q
  obtain ⟨ws, hD⟩ := hD
  exact ⟨t, rfl, k t _ (fun e => by rw [e, hD] at q; cases q) q⟩
theorem Tu.ext (h : Tu g H vs ps) (s : Same H H') : Tu g H' vs ps := Paired.mapP h fun v p q => let ⟨t, e, q⟩ := q; ⟨t, e, s _ _ q⟩
theorem Tu.nil : Tu g H [] [] := Paired.nil
theorem Tu.snoc {t : Addr} {p : α} (h : Tu g H vs ps) (q : H t = some (.tup (g p))) : Tu g H (vs ++ [.ref t]) (ps ++ [p]) := Paired.snoc h ⟨t, rfl, q⟩
theorem Tu.length (h : Tu g H vs ps) : vs.length = ps.length := pd_len h
theorem Tu.get {i : Nat} {v : V} (h : Tu g H vs ps) (e : vs[i]? = some v) : ∃ p t, ps[i]? = some p ∧ v = .ref t ∧ H t = some (.tup (g p)) := let ⟨p, e, t, q⟩ := pd_get h e; ⟨p, t, e, q⟩
theorem Tu.get' {i : Nat} {p : α} (h : Tu g H vs ps) (e : ps[i]? = some p) : ∃ t, vs[i]? = some (.ref t) ∧ H t = some (.tup (g p)) := by
  obtain ⟨v, e, t, rfl, q⟩ := pd_get' h e
  exact ⟨t, e, q⟩
theorem Tu.append (h : Tu g H vs ps) (h2 : Tu g H us qs) : Tu g H (vs ++ us) (ps ++ qs) := pd_append h h2
theorem Tu.reverse (h : Tu g H vs ps) : Tu g H vs.reverse ps.reverse := pd_reverse h
end
/-- what two fors give, by the indexes -/
def fmg {α : Type} (n2 : Nat) (P : Nat → Nat → Bool) (G : Nat → Nat → α) (i j : Nat) : List α := ((List.range i).flatMap fun a => ((List.range n2).filter (P a)).map (G a)) ++ ((List.range j).filter (P i)).map (G i)
section
variable {α : Type} {n2 : Nat} {P : Nat → Nat → Bool} {G : Nat → Nat → α} {i j : Nat}
theorem fmg_len {n1 : Nat} (hi : i ≤ n1) (hj : j ≤ n2) : (fmg n2 P G i j).length ≤ n1 * n2 + n2 := by
  have h := fm2_len (n2 := n2) (P := P) (G := fun _ _ => V.non) hi hj
  have e : (fmg n2 P G i j).length = (fm2 n2 P (fun _ _ => V.non) i j).length := by
    unfold fmg fm2
    simp only [List.length_append, List.length_map, List.length_flatMap]
  rw [e]
  exact h
theorem fmg_row : fmg n2 P G (i + 1) 0 = fmg n2 P G i n2 := by
  unfold fmg
  rw [List.range_succ, List.flatMap_append]
  simp
theorem fmg_in (h : P i j = true) : fmg n2 P G i (j + 1) = fmg n2 P G i j ++ [G i j] := by
  unfold fmg
  rw [List.range_succ, List.filter_append, List.map_append, ← List.append_assoc]
  simp [h]
theorem fmg_out (h : P i j = false) : fmg n2 P G i (j + 1) = fmg n2 P G i j := by
  unfold fmg
  rw [List.range_succ, List.filter_append, List.map_append, ← List.append_assoc]
  simp [h]
theorem fmg_end : fmg n2 P G i 0 = (List.range i).flatMap fun a => ((List.range n2).filter (P a)).map (G a) := by
  unfold fmg
  simp
end
end My
set_option Elab.async false
set_option pp.maxSteps 1500
set_option linter.all false
set_option maxRecDepth 100000
set_option maxHeartbeats 4000000
/-! S1: sorted(d.items()), keys texts, values ints -/
namespace My
open PySem PySem.W PySem.Calls PyProof.Rows PyProof.V PySem.Spec
section
variable {prog : Program} {w : World} {A : Around} {E : Value → Shared → Prop} {s : Shared}
/-- v is a pair of the text and the int -/
def PSI (h : Heap) (v : Value) (y : Str) (i : Int) : Prop := ∃ (a : Addr) (t u : Tok), v = .ref a ∧ IsTup h a #[.str y t, .int i u]
def txSI (h : Heap) (v : Value) : Str := DT.txOf (DT.seqAt0 h (DT.refOf (some v)))
theorem PSI.tx {h : Heap} {v : Value} {y : Str} {i : Int} (x : PSI h v y i) : txSI h v = y := by
  obtain ⟨a, t, u, rfl, h1⟩ := x
  show DT.txOf (DT.seqAt0 h a) = y
  rw [DT.seqAt0_of h1]
  rfl
theorem firstsSI {h : Heap} {M : Str → Int} : ∀ vs : List Value, (∀ v ∈ vs, ∃ y, PSI h v y (M y)) → ∃ fs : List Value, KatTups h vs fs ∧ fs.length = vs.length ∧ ∀ f ∈ fs, ∃ (q : Str) (t : Tok), f = Value.str q t
  | [], _ => ⟨[], KatTups.nil, rfl, fun f hf => by simp at hf⟩
  | v :: vs, x => by
    obtain ⟨fs, k, hl, hi⟩ := firstsSI vs fun u hu => x u (List.mem_cons_of_mem _ hu)
    obtain ⟨y, a, t, u, rfl, ⟨o, ho, hc, n, hd⟩⟩ := x v (List.mem_cons_self ..)
    refine ⟨.str y t :: fs, KatTups.cons ho hc hd rfl k, by rw [List.length_cons, List.length_cons, hl], fun f hf => ?_⟩
    rcases List.mem_cons.mp hf with rfl | hf
    · exact ⟨y, t, rfl⟩
    · exact hi f hf
theorem kindSI {vs : List Value} {ρ : Str → Int} {M : Str → Int} (h2 : 2 ≤ vs.length) (x : ∀ v ∈ vs, ∃ y, PSI s.heap v y (M y))
    (hρ : ∀ v ∈ vs, ∀ u ∈ vs, decide ((txSI s.heap v).cps.toList < (txSI s.heap u).cps.toList) = decide (ρ (txSI s.heap v) < ρ (txSI s.heap u))) (Q : SortKind → Shared → Prop)
    (h : ∀ κ, TS.Cmp prog w A s κ (pairsOf vs) (fun v => ρ (txSI s.heap v)) → Q κ s) : wpAny (model prog w) A (keyKind' vs.toArray) Q E s := by
  obtain ⟨fs, k, hl, hi⟩ := firstsSI vs x
  refine kat_kind (T := Value.type "str") k (by omega) (fun f hf => ?_) rfl (h _ ?_)
  · obtain ⟨q, t, rfl⟩ := hi f hf
    exact PySem.W.Looks.now
  · intro p q hp hq Q' E' hQ
    rw [pairsOf_toList] at hp hq
    have mp := (mem_zip_self hp).2
    have mq := (mem_zip_self hq).2
    obtain ⟨y, py⟩ := x _ mp
    obtain ⟨z, pz⟩ := x _ mq
    have hr := hρ _ mp _ mq
    have hQ2 : Q' (decide (ρ (txSI s.heap p.1) < ρ (txSI s.heap q.1))) s := hQ
    rw [← hr, py.tx, pz.tx] at hQ2
    obtain ⟨a, t, u, e1, ⟨o, ho, hc, n, hd⟩⟩ := py
    obtain ⟨a', t', u', e2, ⟨o', ho', hc', n', hd'⟩⟩ := pz
    rw [e1, e2]
    refine kat_lt ho hd ho' hd' ?_
    refine kat_cons (wpAny_eqBool_str ?_)
    by_cases e : y = z
    · have irr : decide (y.cps.toList < z.cps.toList) = false := by
        rw [e]
        exact decide_eq_false (List.lt_irrefl _)
      rw [irr] at hQ2
      refine kat_go (fun _ => ?_) (fun e0 => absurd e (of_decide_eq_false e0))
      refine kat_yes (kat_cons (wpAny_eqBool_int ?_))
      refine kat_go (fun _ => ?_) (fun e0 => absurd (by rw [e]) (beq_eq_false_iff_ne.mp e0))
      exact kat_yes (kat_nil hQ2)
    · refine kat_go (fun e0 => absurd (of_decide_eq_true e0) e) (fun _ => ?_)
      exact kat_no (oneLt_any_str hQ2)
end
end My
set_option Elab.async false
set_option pp.maxSteps 1500
set_option linter.all false
set_option maxRecDepth 100000
set_option maxHeartbeats 4000000
/-! S2: d.items() and sorted of it, by values -/
namespace My
open PySem PySem.Spec PyProof.Rows L2
section
variable {X : Cx}
def rItemsK : V → List V → Hy → VK → Prop := fun x xs H Q => ∃ (a : Addr) (kvs : List (L2.Key × V)), x = .ref a ∧ xs = [] ∧ H a = some (.dK kvs) ∧ ∀ p, H p = none → Q (.ref p) (upd H p (L2.DX.itemsO p a))
theorem mt_itemsK : MtR X "dict.items" rItemsK := by
  intro pins s σ H x xs v us Q I rx rxs h
  obtain ⟨a, kvs, rfl, rfl, ha, q⟩ := h
  cases rx
  cases rxs
  obtain ⟨z, hd, vs, rel, o, es, ep, ho, hx, hdat, _⟩ := dk_of I.hok ha
  refine DT.callItems (es := es) (ep := ep) hd ⟨o, ho, hx, hdat⟩ ?_
  have hf : H s.heap.objs.size = none := I.hok.fresh (Nat.le_refl _)
  exact ⟨.ref s.heap.objs.size, upd H s.heap.objs.size (L2.DX.itemsO s.heap.objs.size a), I.laid (t' := s.toks) (fun b u e => Heap.get?_push_of_some _ e) (Nat.le_refl _) (L2.DX.itemsO_ok (Heap.get?_push_size _ rfl)), rfl, q _ hf⟩
abbrev entSI (e : Str × Int) : L2.Key × V := (Sum.inr e.1, V.int e.2)
abbrev ltS (a b : Str) : Prop := a.cps.toList < b.cps.toList
def rankS (ks : List (Str × Int)) (y : Str) : Int := ((ks.filter fun g => decide (ltS g.1 y)).length : Nat)
theorem ltS_irrefl (a : Str) : ¬ ltS a a := List.lt_irrefl _
theorem ltS_trans {a b c : Str} (h : ltS a b) (h2 : ltS b c) : ltS a c := List.lt_trans h h2
theorem ltS_tri {a b : Str} (h : a ≠ b) : ltS a b ∨ ltS b a := by
  by_cases h1 : ltS a b
  · exact .inl h1
  · by_cases h2 : ltS b a
    · exact .inr h2
    · exfalso
      have e : a.cps.toList = b.cps.toList := List.le_antisymm (List.not_lt.mp h2) (List.not_lt.mp h1)
      exact h (by rw [← S_eta a, ← S_eta b, e])
theorem filter_le {α : Type} {p q : α → Bool} (l : List α) (h : ∀ x ∈ l, p x = true → q x = true) : (l.filter p).length ≤ (l.filter q).length := by
  induction l with
  | nil => simp
  | cons a l ih =>
    have i := ih fun x hx => h x (List.mem_cons_of_mem _ hx)
    have h0 := h a (List.mem_cons_self ..)
    rw [List.filter_cons, List.filter_cons]
    cases hp : p a
    · cases hq : q a
      · simpa using i
      · simp only [if_true, Bool.false_eq_true, if_false, List.length_cons]
        omega
    · rw [h0 hp]
      simpa using i
theorem filter_lt {α : Type} {p q : α → Bool} (l : List α) (h : ∀ x ∈ l, p x = true → q x = true) (h2 : ∃ x ∈ l, p x = false ∧ q x = true) : (l.filter p).length < (l.filter q).length := by
  induction l with
  | nil => obtain ⟨x, hx, _⟩ := h2; cases hx
  | cons a l ih =>
    have i := filter_le l fun x hx => h x (List.mem_cons_of_mem _ hx)
    have h0 := h a (List.mem_cons_self ..)
    rw [List.filter_cons, List.filter_cons]
    obtain ⟨x, hx, h3, h4⟩ := h2
    rcases List.mem_cons.mp hx with rfl | hx
    · rw [h3, h4]
      simp only [if_true, Bool.false_eq_true, if_false, List.length_cons]
      omega
    · have i2 := ih (fun x hx => h x (List.mem_cons_of_mem _ hx)) ⟨x, hx, h3, h4⟩
      cases hp : p a
      · cases hq : q a
        · simpa using i2
        · simp only [if_true, Bool.false_eq_true, if_false, List.length_cons]
          omega
      · rw [h0 hp]
        simpa using i2
theorem rank_lt {ks : List (Str × Int)} {e f : Str × Int} (he : e ∈ ks) : decide (ltS e.1 f.1) = decide (rankS ks e.1 < rankS ks f.1) := by
  by_cases h : ltS e.1 f.1
  · rw [decide_eq_true h]
    refine (decide_eq_true ?_).symm
    have := filter_lt (p := fun g : Str × Int => decide (ltS g.1 e.1)) (q := fun g => decide (ltS g.1 f.1)) ks (fun x _ hx => decide_eq_true (ltS_trans (of_decide_eq_true hx) h)) ⟨e, he, decide_eq_false (ltS_irrefl _), decide_eq_true h⟩
    unfold rankS
    omega
  · rw [decide_eq_false h]
    refine (decide_eq_false ?_).symm
    have := filter_le (p := fun g : Str × Int => decide (ltS g.1 f.1)) (q := fun g => decide (ltS g.1 e.1)) ks (fun x _ hx => by
      have hx' := of_decide_eq_true hx
      refine decide_eq_true ?_
      by_cases hef : e.1 = f.1
      · rw [hef]
        exact hx'
      · exact ltS_trans hx' ((ltS_tri hef).resolve_left h))
    unfold rankS
    omega
theorem entsSI {P : Program} {w : World} : ∀ {es : List DictEntry} {vs : List (L2.Key × Value)} {ks : List (Str × Int)}, Pairs (mixKind P w) es vs → KV (ks.map entSI) vs → ∀ (j : Nat) (en : DictEntry), es[j]? = some en → ∃ e t u, ks[j]? = some e ∧ en.key = .str e.1 t ∧ en.val = .int e.2 u := by
  intro es vs ks h
  induction h generalizing ks with
  | nil => intro _ j en hj; simp at hj
  | @cons en kv es vs h1 h2 _ ih =>
    intro r j en' hj
    cases ks with
    | nil => cases r
    | cons e ks =>
      cases r with
      | cons r1 r2 =>
        cases j with
        | zero =>
          obtain rfl := Option.some.inj hj
          obtain ⟨k1, rv⟩ := r1
          rw [← k1] at h1
          obtain ⟨u, hu⟩ := (show ∃ u, kv.2 = Value.int e.2 u from rv)
          rcases keyIs_shape (k := Sum.inr e.1) (v := en.key) h1 with ⟨i, t, q, _⟩ | ⟨x, t, q, hk⟩
          · cases q
          · have q' : e.1 = x := Sum.inr.inj q
            exact ⟨e, t, u, rfl, by rw [hk, q'], by rw [h2, hu]⟩
        | succ j => exact ih r2 j en' (by simpa using hj)
theorem lookup_nd : ∀ {ks : List (Str × Int)} {e : Str × Int}, (ks.map (·.1)).Nodup → e ∈ ks → (ks.lookup e.1).getD 0 = e.2
  | [], _, _, h => by cases h
  | (a, b) :: ks, e, hn, h => by
    rw [List.map_cons, List.nodup_cons] at hn
    rcases List.mem_cons.mp h with rfl | h
    · simp
    · have ne : (e.1 == a) = false := beq_eq_false_iff_ne.mpr fun q => hn.1 (by rw [← q]; exact List.mem_map.mpr ⟨e, h, rfl⟩)
      rw [List.lookup_cons, ne]
      exact lookup_nd hn.2 h
/-- sorted(d.items()): fewer than 64, keys texts, values ints -/
def rSortSI : List V → Hy → VK → Prop := fun vs H Q => ∃ (p a : Addr) (ks : List (Str × Int)), vs = [.ref p] ∧ H p = some (L2.DX.itemsO p a) ∧ H a = some (.dK (ks.map entSI)) ∧ ks.length < 64 ∧
  ∀ (H' : Hy) (l : Addr) (us : List V) (ps : List (Str × Int)), Same H H' → ps.Perm ks → ps.Pairwise (fun e f => ltS e.1 f.1) → H' l = some (.lst us) → Tu (fun e : Str × Int => [.str e.1, .int e.2]) H' us ps → Q (.ref l) H'
theorem cr_sortedSI (hc : X.calm = true) : CallR X (.builtin "sorted") rSortSI := by
  intro pins s σ H xs us Q I r h
  obtain ⟨p, a, ks, rfl, hp, ha, h64, q⟩ := h
  obtain rfl := Vals.ref1 r
  have view : s.heap.IsItemsView p a := (show ObjOk X.prog X.w H s.heap p (L2.DX.itemsO p a) from I.hok p _ hp).1
  obtain ⟨z, hd, vs, rel, o, es, ep, ho, hx, hdat, hks, hps, hn⟩ := dk_of I.hok ha
  have l1 : (ks.map entSI).length = vs.length := KV.length rel
  rw [List.length_map] at l1
  have l2 : es.size = vs.length := by rw [← Array.length_toList]; exact hps.length
  have hh : X.A.handled = none := I.ok.hd hc
  have nk : (ks.map (·.1)).Nodup := by
    have e1 := KV.keys rel
    rw [← e1, List.map_map] at hn
    have e2 : ks.map ((fun x : L2.Key × V => x.1) ∘ entSI) = (ks.map (·.1)).map Sum.inr := by
      rw [List.map_map]
      rfl
    rw [e2] at hn
    exact List.Pairwise.imp (fun h e => h (congrArg Sum.inr e)) (List.pairwise_map.mp hn)
  refine DT.sortedI (es := es) (ep := ep) hh view ⟨o, ho, hx, hdat⟩ (by rw [sizeLine_eq]; omega) fun h' tk as hk hlt hl hG => ?_
  have lak : as.length = ks.length := by omega
  have nd : as.Nodup := List.Pairwise.imp (fun h => Nat.ne_of_lt h) hG.rise
  have pr : ∀ (j : Nat) (b : Addr), as[j]? = some b → ∃ e t u, ks[j]? = some e ∧ h'.get? b = some { cls := .type "tuple", data := .seq #[Value.str e.1 t, Value.int e.2 u] } := by
    intro j b hj
    obtain ⟨en, he, hg⟩ := hG.pairs j b hj
    obtain ⟨e, t, u, h1, h2, h3⟩ := entsSI hps rel j en (by rw [Array.getElem?_toList]; exact he)
    exact ⟨e, t, u, h1, by rw [hg, h2, h3]⟩
  have hob : (h'.push { cls := .type "list", data := .seq (as.map Value.ref).toArray }).get? h'.objs.size = some (seqObj "list" (as.map Value.ref).toArray 0) := Heap.get?_push_size _ rfl
  have kb : ∀ b o, s.heap.get? b = some o → (h'.push { cls := .type "list", data := .seq (as.map Value.ref).toArray }).get? b = some o := fun b o e => Heap.get?_push_of_some _ (hk b o e)
  have ne0 : ∀ b o, h'.get? b = some o → b ≠ h'.objs.size := fun b o e => Nat.ne_of_lt (Heap.lt_size e)
  generalize hh2 : h'.push { cls := .type "list", data := .seq (as.map Value.ref).toArray } = h2 at hob kb ⊢
  have ka : ∀ b o, h'.get? b = some o → h2.get? b = some o := fun b o e => by rw [← hh2]; exact Heap.get?_push_of_some _ e
  have pin : ∀ (j : Nat) (b : Addr) (e : Str × Int), as[j]? = some b → ks[j]? = some e → PSI (TS.midHeap h2 h'.objs.size (as.map Value.ref)) (.ref b) e.1 e.2 := by
    intro j b e hj he
    obtain ⟨e', t, u, he', hg⟩ := pr j b hj
    obtain rfl : e' = e := Option.some.inj (he'.symm.trans he)
    exact ⟨b, t, u, rfl, _, TS.midHeap_old (ne0 _ _ hg) (ka _ _ hg), rfl, 0, rfl⟩
  have at_ : ∀ v ∈ as.map Value.ref, ∃ (j : Nat) (b : Addr) (e : Str × Int), v = .ref b ∧ as[j]? = some b ∧ ks[j]? = some e := by
    intro v hv'
    obtain ⟨b, hb, rfl⟩ := List.mem_map.mp hv'
    obtain ⟨j, hj⟩ := List.mem_iff_getElem?.mp hb
    obtain ⟨e, _, _, he, _⟩ := pr j b hj
    exact ⟨j, b, e, rfl, hj, he⟩
  refine wpAny_call_entry PyProof.Rows.slot_list_sort ⟨_, hob, rfl⟩ PyProof.Rows.entry_list_sort
    (SK.plain_sort (s := { s with heap := h2, toks := tk }) (r := fun v => rankS ks (txSI (TS.midHeap h2 h'.objs.size (as.map Value.ref)) v)) hob (by rw [List.length_map]; omega) (fun h2' Qk hQk => ?_) fun ps out o1 o2 o3 => ⟨.none, rfl, ?_⟩) (PyProof.Rows.args_list_sort _)
  · refine kindSI (s := { s with heap := TS.midHeap h2 h'.objs.size (as.map Value.ref), toks := tk }) (ρ := rankS ks) (M := fun y => (ks.lookup y).getD 0) h2' (fun v hv' => ?_) (fun v hv' u hu' => ?_) Qk hQk
    · obtain ⟨j, b, e, rfl, hj, he⟩ := at_ v hv'
      refine ⟨e.1, ?_⟩
      show PSI _ _ _ ((ks.lookup e.1).getD 0)
      rw [lookup_nd nk (List.mem_of_getElem? he)]
      exact pin j b e hj he
    · obtain ⟨j, b, e, rfl, hj, he⟩ := at_ v hv'
      obtain ⟨j2, b2, e2, rfl, hj2, he2⟩ := at_ u hu'
      show decide (ltS (txSI (TS.midHeap h2 h'.objs.size (as.map Value.ref)) (.ref b)) (txSI (TS.midHeap h2 h'.objs.size (as.map Value.ref)) (.ref b2))) = decide (rankS ks (txSI (TS.midHeap h2 h'.objs.size (as.map Value.ref)) (.ref b)) < rankS ks (txSI (TS.midHeap h2 h'.objs.size (as.map Value.ref)) (.ref b2)))
      rw [(pin j b e hj he).tx, (pin j2 b2 e2 hj2 he2).tx]
      exact rank_lt (List.mem_of_getElem? he)
  · show EP X pins σ Q (.ref h'.objs.size) { s with heap := sortedHeap h2 h'.objs.size (as.map Value.ref) out, toks := tk }
    obtain ⟨zs, pz, ez⟩ := perm_lift (fun z : Addr × Str × Int => (Value.ref z.1, Value.ref z.1)) o2 (as.zip ks) (L2.DX.zip_self Value.ref as ks lak)
    have idx : ∀ z ∈ zs, ∃ j : Nat, as[j]? = some z.1 ∧ ks[j]? = some z.2 := fun z' hz' => by
      obtain ⟨j, hj⟩ := List.mem_iff_getElem?.mp (pz.mem_iff.mp hz')
      exact ⟨j, List.getElem?_zip_eq_some.mp hj⟩
    have hout : out.toList = zs.map fun z => Value.ref z.1 := by
      rw [o1, ← ez, List.map_map]
      rfl
    have hperm : (zs.map (·.2)).Perm ks := by
      have e := pz.map (·.2)
      have m2 : (as.zip ks).map (·.2) = ks := List.map_snd_zip (by rw [lak]; exact Nat.le_refl _)
      rw [m2] at e
      exact e
    have ndz : (zs.map (·.2)).Pairwise (fun e f => e.1 ≠ f.1) := by
      have e1 : ((zs.map (·.2)).map (·.1)).Nodup := (hperm.map (·.1)).nodup_iff.mpr nk
      exact List.pairwise_map.mp e1
    have hsort : (zs.map (·.2)).Pairwise (fun e f => ltS e.1 f.1) := by
      have h0 : (zs.map (·.2)).Pairwise (fun e f => rankS ks e.1 ≤ rankS ks f.1) := by
        rw [← ez, List.pairwise_map] at o3
        rw [List.pairwise_map]
        refine List.Pairwise.imp_of_mem (fun {x y} hx hy h => ?_) o3
        obtain ⟨j, j1, j2⟩ := idx x hx
        obtain ⟨i, i1, i2⟩ := idx y hy
        have h' : rankS ks (txSI (TS.midHeap h2 h'.objs.size (as.map Value.ref)) (.ref x.1)) ≤ rankS ks (txSI (TS.midHeap h2 h'.objs.size (as.map Value.ref)) (.ref y.1)) := h
        rw [(pin j _ _ j1 j2).tx, (pin i _ _ i1 i2).tx] at h'
        exact h'
      refine (h0.and ndz).imp_of_mem fun {x y} hx hy h => ?_
      rcases ltS_tri h.2 with g | g
      · exact g
      · have := rank_lt (ks := ks) (e := y) (f := x) (hperm.mem_iff.mp hy)
        rw [decide_eq_true g] at this
        have := of_decide_eq_true this.symm
        omega
    have kF : ∀ b o, b ≠ h'.objs.size → h2.get? b = some o → (sortedHeap h2 h'.objs.size (as.map Value.ref) out).get? b = some o := fun b o hb e => (PyProof.Rows.sortedHeap_old hb (Heap.lt_size e)).trans e
    have kS : ∀ b o, s.heap.get? b = some o → (sortedHeap h2 h'.objs.size (as.map Value.ref) out).get? b = some o := fun b o e => kF b o (ne0 _ _ (hk b o e)) (kb b o e)
    obtain ⟨eF, heF⟩ := PyProof.Rows.sortedHeap_at (vs := as.map Value.ref) (out := out) hob
    have I1 : Inv X pins σ H { s with heap := sortedHeap h2 h'.objs.size (as.map Value.ref) out, toks := tk } := I.kept (t' := tk) kS
    have hn0 : H h'.objs.size = none := I.hok.fresh (Nat.le_of_lt hlt)
    have hlen : (zs.map fun z => V.ref z.1).length ≤ sizeLine := by
      have e := hperm.length_eq
      rw [List.length_map] at e
      rw [List.length_map, sizeLine_eq]
      omega
    have rv : Vals (zs.map fun z => V.ref z.1) out.toList := by
      rw [hout]
      exact vals_maps (fun z : Addr × Str × Int => V.ref z.1) (fun z => Value.ref z.1) zs fun _ _ => rfl
    have I2 : Inv X pins σ (upd H h'.objs.size (.lst (zs.map fun z => V.ref z.1))) { s with heap := sortedHeap h2 h'.objs.size (as.map Value.ref) out, toks := tk } :=
      I1.take (h' := sortedHeap h2 h'.objs.size (as.map Value.ref) out) (t' := tk) (fun b ob _ e => e) (I.fpOk (Nat.le_of_lt hlt) hn0) ⟨hlen, out.toList, eF, rv, heF⟩
    obtain ⟨H2, I3, g, qt⟩ := L2.DX.takeT (P := fun b vs => ∃ (j : Nat) (e : Str × Int), as[j]? = some b ∧ ks[j]? = some e ∧ vs = [.str e.1, .int e.2]) I as _ I2 nd fun b hb => by
      obtain ⟨j, hj⟩ := List.mem_iff_getElem?.mp hb
      obtain ⟨e, t, u, he, hg⟩ := pr j b hj
      have hbl : s.heap.objs.size ≤ b := Nat.le_of_lt (hG.above b hb)
      refine ⟨hbl, ?_, [.str e.1, .int e.2], ⟨j, e, hj, he, rfl⟩, fun H3 => ⟨(by rw [sizeLine_eq]; show 2 ≤ 16777216; omega), [Value.str e.1 t, Value.int e.2 u], .cons ⟨t, rfl⟩ (.cons ⟨u, rfl⟩ .nil), ⟨_, kF _ _ (ne0 _ _ hg) (ka _ _ hg), rfl, 0, rfl⟩⟩⟩
      rw [upd_ne (ne0 _ _ hg)]
      exact I.hok.fresh hbl
    have gr : Same H H2 := fun b o e => g b o (by rw [upd_ne (ne_of_none e hn0)]; exact e)
    refine ⟨.ref h'.objs.size, H2, I3, rfl, q H2 h'.objs.size _ (zs.map (·.2)) gr hperm hsort (g _ _ upd_same) ?_⟩
    have key : ∀ l : List (Addr × Str × Int), (∀ z ∈ l, z ∈ zs) → Tu (fun e : Str × Int => [.str e.1, .int e.2]) H2 (l.map fun z => V.ref z.1) (l.map (·.2)) := by
      intro l
      induction l with
      | nil => intro _; exact Paired.nil
      | cons z l ih =>
        intro hh
        refine Paired.cons ⟨z.1, rfl, ?_⟩ (ih fun x hx => hh x (List.mem_cons_of_mem _ hx))
        obtain ⟨i, i1, i2⟩ := idx z (hh z (List.mem_cons_self ..))
        obtain ⟨vs, ⟨j, e, j1, j2, ev⟩, hH⟩ := qt z.1 (List.mem_of_getElem? i1)
        have eij : i = j := (List.getElem?_inj (List.getElem?_eq_some_iff.mp i1).1 nd).mp (i1.trans j1.symm)
        subst eij
        have ee : e = z.2 := Option.some.inj (j2.symm.trans i2)
        rw [hH, ev, ee]
    exact key zs fun _ h => h
end
end My
set_option Elab.async false
set_option pp.maxSteps 1500
set_option linter.all false
set_option maxRecDepth 100000
set_option maxHeartbeats 4000000
/-! A9: dicts with texts for keys and ints for values -/
namespace My
open PySem PySem.Spec PyProof.Rows L2
abbrev LN := List Nat
abbrev CT := List Nat × Int
def putN (d : List CT) (k : LN) (v : Int) : List CT := if (d.any fun e => decide (e.1 = k)) = true then d.map (fun e => if e.1 = k then (e.1, v) else e) else d ++ [(k, v)]
def getN (d : List CT) (k : LN) : Option Int := (d.find? fun e => decide (e.1 = k)).map (·.2)
def entN (e : CT) : L2.Key × V := (Sum.inr (S e.1), V.int e.2)
theorem keyN (a b : LN) : decide ((Sum.inr (S a) : L2.Key) = Sum.inr (S b)) = decide (a = b) := by
  by_cases h : a = b
  · rw [h, decide_eq_true rfl, decide_eq_true rfl]
  · rw [decide_eq_false h, decide_eq_false fun q => h (S_inj (Sum.inr.inj q))]
theorem putK_N (d : List CT) (k : LN) (v : Int) : putK (d.map entN) (Sum.inr (S k)) (.int v) = (putN d k v).map entN := by
  unfold putK putN
  have e1 : ((d.map entN).any fun kv => decide (kv.1 = Sum.inr (S k))) = (d.any fun e => decide (e.1 = k)) := by
    rw [List.any_map]
    congr 1
    funext e
    exact keyN e.1 k
  rw [e1]
  split
  · rw [List.map_map, List.map_map]
    congr 1
    funext e
    by_cases h : e.1 = k
    · simp [entN, h]
    · have h2 : ¬ (Sum.inr (S e.1) : L2.Key) = Sum.inr (S k) := fun q => h (S_inj (Sum.inr.inj q))
      simp [entN, h, h2]
  · rw [List.map_append]
    rfl
theorem valV_N (d : List CT) (k : LN) : valV (d.map entN) (Sum.inr (S k)) = (getN d k).map V.int := by
  unfold valV getN
  rw [List.find?_map]
  have e1 : ((fun kv : L2.Key × V => decide (kv.1 = Sum.inr (S k))) ∘ entN) = fun e : CT => decide (e.1 = k) := by
    funext e
    exact keyN e.1 k
  rw [e1]
  cases d.find? fun e => decide (e.1 = k) <;> rfl
theorem putN_len (d : List CT) (k : LN) (v : Int) : (putN d k v).length ≤ d.length + 1 := by
  unfold putN
  split
  · rw [List.length_map]
    omega
  · rw [List.length_append]
    exact Nat.le_refl _
section
variable {X : Cx} {σ : L2.St} {H : Hy} {Q : VK} {D : Ends} {pos p p2 p3 apos : Pos} {o i e f value : Expr}
theorem units1 {X : Cx} (hu : X.A.units + 64 < cLine) : X.A.units + 1 < cLine := Nat.lt_of_le_of_lt (by omega) hu
theorem r_dnew (h : ∀ p, H p = none → Q (.ref p) (upd H p (.dK []))) : RE X (.Dict [] [] pos) σ H Q := ⟨_, pe_dnewK, h⟩
/-- d[i] -/
theorem r_dix (hu : X.A.units + 64 < cLine) (h : RE X o σ H fun x H1 => RE X i σ H1 fun y H2 => ∃ a kvs k v, x = .ref a ∧ H2 a = some (.dK kvs) ∧ y = kV k ∧ valV kvs k = some v ∧ Q v H2) (hs : NoSl i := by exact fun _ _ => rfl) : RE X (.Subscript o i pos) σ H Q :=
  ⟨_, pe_dget (units1 hu) pRE pRE hs, h.mono fun x H1 q => q.mono fun y H2 q2 => by
    obtain ⟨a, kvs, k, v, rfl, ha, rfl, hv, q3⟩ := q2
    exact ⟨a, v, rfl, by rw [← hv]; exact DGet.k ha, q3⟩⟩
/-- d[i] = value -/
theorem rs_dput (hu : X.A.units + 64 < cLine) (h : RE X value σ H fun v H1 => RE X o σ H1 fun x H2 => RE X i σ H2 fun y H3 => ∃ a kvs k, x = .ref a ∧ H3 a = some (.dK kvs) ∧ y = kV k ∧ kvs.length < sizeLine ∧ D.nx σ (upd H3 a (.dK (putK kvs k v))))
    (hs : swapsWith value (some (.Subscript o i p)) pos.line X.env = pure false := by rfl) : RS X (.Assign [.Subscript o i p] value pos) D σ H :=
  ⟨_, ps_dput (units1 hu) pRE pRE pRE hs, h.mono fun v H1 q => q.mono fun x H2 q2 => q2.mono fun y H3 q3 => by
    obtain ⟨a, kvs, k, rfl, ha, rfl, hl, q4⟩ := q3
    exact ⟨a, _, rfl, .inl ⟨kvs, k, ha, rfl, hl, rfl⟩, q4⟩⟩
/-- d.get(e, f) -/
theorem r_dget2 (hu : X.A.units + 64 < cLine) (h : RE X o σ H fun x H1 => ∃ a kvs, x = .ref a ∧ H1 a = some (.dK kvs) ∧ RE X e σ H1 fun y H2 => RE X f σ H2 fun z H3 => ∃ kvs k, H3 a = some (.dK kvs) ∧ y = kV k ∧ Q ((valV kvs k).getD z) H3)
    (base : attributeBase o "get" X.env (eval o X.env) = eval o X.env := by rfl)
    (few : ((backTo pos (starEach [e, f] X.env)).all (fun x => !x.1) && (backToKw pos (keywordEach [] X.env)).all (fun x => x.1.isSome)
    && decide (([e, f] : List Expr).length + ([] : List Keyword).length + (if ([] : List Keyword).isEmpty then 0 else 1) < 30)) = true := by rfl)
    (line : (apos.endLine == pos.line) = true := by rfl) (trees : backTo pos (starEach [e, f] X.env) = [(false, eval e X.env), (false, eval f X.env)] := by rfl) : RE X (.Call (.Attribute o "get" apos) [e, f] [] pos) σ H Q :=
  ⟨_, pe_dget2 (units1 hu) pRE pRE pRE ⟨base, few, line, trees⟩, h.mono fun x H1 q => by
    obtain ⟨a, kvs, rfl, ha, q⟩ := q
    exact ⟨a, rfl, .inl ⟨kvs, .inl ha⟩, q.mono fun y H2 q2 => q2.mono fun z H3 q3 => by
      obtain ⟨kvs, k, ha, rfl, q4⟩ := q3
      exact ⟨_, DGet.k ha, q4⟩⟩⟩
/-- tuple(sorted(d.items())) -/
theorem r_sitems (hz : X.mg "sorted" = none) (h : RE X o σ H fun x H1 => ∃ a d, x = .ref a ∧ H1 a = some (.dK (d.map entN)) ∧ d.length < 64 ∧ ∀ (H' : Hy) (l : Addr) (us : List V) (ps : List CT), Same H1 H' → ps.Perm d → ps.Pairwise (fun e f => e.1 < f.1) → H' l = some (.lst us) → Tu (fun e : CT => [.str (S e.1), .int e.2]) H' us ps → Q (.ref l) H')
    (hg : Gl X "sorted" := by rfl) (hc : X.calm = true := by rfl)
    (hbase : attributeBase o "items" X.env (eval o X.env) = eval o X.env := by rfl) (hline : (apos.endLine == p2.line) = true := by rfl)
    (he : starEach [.Call (.Attribute o "items" apos) [] [] p2] X.env = (false, eval (.Call (.Attribute o "items" apos) [] [] p2) X.env) :: starEach [] X.env := by rfl) (hpl : (backTo pos (starEach [] X.env)).any (·.1) = false := by rfl) : RE X (.Call (.Name "sorted" p) [.Call (.Attribute o "items" apos) [] [] p2] [] pos) σ H Q := by
  refine r_callB (cr_sortedSI hc) hz (by decide +kernel) (ra_cons (r_bm0 PySem.F.plainAttrs_dict PySem.F.slot_dict_items PySem.F.type_dict_items mt_itemsK (h.mono fun x H1 q => ?_) hbase hline) he) hg (by decide) (by decide) he hpl
  obtain ⟨a, d, rfl, ha, h64, q⟩ := q
  refine ⟨.inr (.inr (.inl ⟨rfl, .inl ⟨_, ha⟩⟩)), a, _, rfl, rfl, ha, fun v hv => ra_nil ⟨v, a, d.map fun e => (S e.1, e.2), rfl, upd_same, ?_, by rw [List.length_map]; exact h64, fun H' l us ps s hp hs hl ht => ?_⟩⟩
  · rw [upd_ne (ne_of_none ha hv), ha, List.map_map]
    rfl
  · obtain ⟨qs, hq, hqs⟩ := perm_lift (fun e : CT => (S e.1, e.2)) hp d rfl
    refine q H' l us qs ((same_new hv).trans s) hq ?_ hl ?_
    · rw [← hqs, List.pairwise_map] at hs
      exact hs
    · rw [← hqs] at ht
      clear hq hs hp hl
      induction qs generalizing us ps with
      | nil =>
        cases ht
        exact Paired.nil
      | cons e qs ih =>
        cases ht with
        | cons a b => exact Paired.cons a (ih _ _ b rfl)
end
end My
set_option Elab.async false
set_option pp.maxSteps 1500
set_option linter.all false
set_option maxRecDepth 100000
set_option maxHeartbeats 4000000
/-! A10: a part of a slice that is None; whole slices of tuples -/
namespace My
open PySem PySem.Spec PyProof.Rows L2
theorem gv {σ : L2.St} {i : Nat} {v : V} {k : V → Prop} (h : σ[i]? = some (some v)) (q : k v) : getV σ i k := by
  unfold getV
  rw [h]
  exact q
theorem ro_non {X : Cx} {e : Expr} {σ : L2.St} {H : Hy} {QO : Option Int → Hy → Prop} (h : RE X e σ H fun x H1 => x = .non ∧ QO none H1) : RO X (some e) σ H QO := by
  refine ⟨fun σ H QO => RE X e σ H fun x H1 => x = .non ∧ QO none H1, ⟨fun pins s σ H Q I hw => ?_⟩, h⟩
  rw [evalPart_some]
  refine thn (pRE.run pins s σ H _ I hw) fun u s1 q => ?_
  obtain ⟨x, H1, I1, r1, rfl, q⟩ := q
  obtain rfl : u = Value.none := r1
  exact ⟨none, H1, I1, .none, q⟩
theorem r_slA {X : Cx} {e : Expr} {σ : L2.St} {H : Hy} {Q : VK} {pos p2 : Pos} {lo hi : Option Expr} (h : RE X e σ H fun x H1 => RO X lo σ H1 fun l H2 => RO X hi σ H2 fun u H3 => rSlA X.K x l u H3 Q) : RE X (.Subscript e (.Slice lo hi none p2) pos) σ H Q := r_slice sl_tupA h
end My
set_option Elab.async false
set_option pp.maxSteps 1500
set_option linter.all false
set_option maxRecDepth 100000
set_option maxHeartbeats 4000000
/-! A11: a written dict asked by get; strip -/
namespace My
open PySem PySem.Spec PyProof.Rows L2
section
variable {X : Cx} {σ : L2.St} {H : Hy} {Q : VK} {pos p p2 p3 apos : Pos} {o a b : Expr}
/-- T.get(a, b), T a written dict, the key there -/
theorem r_kget2 {d : Addr} {es : Array DictEntry} {n : Nat} (D : KDict X.K X.w d es n) (h : RE X o σ H fun x H1 => x = .ref d ∧ RE X a σ H1 fun y H2 => RE X b σ H2 fun y2 H3 => ∃ z u0 v0, y = .str z ∧ PySem.W.nsIn X.K d z = some (some u0) ∧ L2.RelV v0 u0 ∧ Q v0 H3)
    (hbase : attributeBase o "get" X.env (eval o X.env) = eval o X.env := by rfl)
    (hfew : ((backTo pos (starEach [a, b] X.env)).all (fun x => !x.1) && (backToKw pos (keywordEach [] X.env)).all (fun x => x.1.isSome)
      && decide ([a, b].length + ([] : List Keyword).length + (if ([] : List Keyword).isEmpty then 0 else 1) < 30)) = true := by rfl)
    (hline : (apos.endLine == pos.line) = true := by rfl) (trees : backTo pos (starEach [a, b] X.env) = [(false, eval a X.env), (false, eval b X.env)] := by rfl) : RE X (.Call (.Attribute o "get" apos) [a, b] [] pos) σ H Q := by
  refine ⟨fun σ H Q => RE X o σ H fun x H1 => x = .ref d ∧ RE X a σ H1 fun y H2 => RE X b σ H2 fun y2 H3 => ∃ z u0 v0, y = .str z ∧ PySem.W.nsIn X.K d z = some (some u0) ∧ L2.RelV v0 u0 ∧ Q v0 H3, ⟨fun pins s σ H Q I h => ?_⟩, h⟩
  refine wpAny_Call_method hbase hfew hline PySem.F.plainAttrs_dict PySem.F.slot_dict_get PySem.F.type_dict_get (thn (pRE.run pins s σ H _ I h) fun u s1 q1 => ?_)
  obtain ⟨x, H1, I1, rx, rfl, q1⟩ := q1
  obtain rfl : u = Value.ref d := rx
  have hm := PySem.W.mapOf_K (prog := X.prog) (w := X.w) I1.kIn D.at_ D.lit
  refine ⟨hm.typeIs, fun c hc => ?_, ?_⟩
  · cases hc
    exact ⟨_, I1.kIn _ _ D.at_, rfl⟩
  · rw [trees]
    refine Calls.callWith_builtin rfl (Calls.evalArgs_plain (Calls.spliced_cons (thn (pRE.run pins s1 σ H1 _ I1 q1) fun w1 s2 q2 => ?_)))
    obtain ⟨y, H2, I2, r3, q2⟩ := q2
    refine Calls.spliced_cons (thn (pRE.run pins s2 σ H2 _ I2 q2) fun w2 s3 q3 => Calls.spliced_nil ?_)
    obtain ⟨y2, H3, I3, r4, z, u0, v0, rfl, hn, rv, q⟩ := q3
    obtain ⟨t, rfl⟩ := r3
    have hm2 := PySem.W.mapOf_K (prog := X.prog) (w := X.w) I3.kIn D.at_ D.lit
    refine call_meetsIn PySem.F.slot_dict_get hm2.typeIs PySem.F.entry_dict_get (PySem.F.args_dict_get_3 _ _ _) (meets_dict_get_default (PySem.strKind X.prog X.w) d (PySem.strKind_is X.prog X.w z t) D.low w2) ⟨_, hm2, ?_⟩
    rw [PySem.W.find_K D.at_ hn]
    exact ⟨v0, H3, I3.tok _, rv, q⟩
/-- x.strip(y) -/
theorem r_strip (h : RE X o σ H fun x H1 => ∃ z, x = .str z ∧ RE X a σ H1 fun y H2 => ∃ c, y = .str c ∧ z.length ≤ sizeLine ∧ Q (.str (Txt.stripChars z c)) H2)
    (hbase : attributeBase o "strip" X.env (eval o X.env) = eval o X.env := by rfl)
    (hfew : ((backTo pos (starEach [a] X.env)).all (fun x => !x.1) && (backToKw pos (keywordEach [] X.env)).all (fun x => x.1.isSome)
      && decide ([a].length + ([] : List Keyword).length + (if ([] : List Keyword).isEmpty then 0 else 1) < 30)) = true := by rfl)
    (hline : (apos.endLine == pos.line) = true := by rfl) (hs : starEach [a] X.env = (false, eval a X.env) :: starEach [] X.env := by rfl) (hplain : (backTo pos (starEach [] X.env)).any (·.1) = false := by rfl) : RE X (.Call (.Attribute o "strip" apos) [a] [] pos) σ H Q := by
  refine r_bm PySem.F.plainAttrs_str PySem.F.slot_str_strip PySem.F.type_str_strip mt_stripChars (h.mono fun x H1 q => ?_) hbase hfew hline hs hplain
  obtain ⟨z, rfl, q⟩ := q
  exact ⟨rfl, ra_cons (q.mono fun y H2 q2 => by
    obtain ⟨c, rfl, h1, q3⟩ := q2
    exact ra_nil ⟨_, _, rfl, rfl, h1, q3⟩) hs⟩
end
end My
set_option Elab.async false
set_option pp.maxSteps 1500
set_option linter.all false
set_option maxRecDepth 100000
set_option maxHeartbeats 4000000
/-! A12: an own __eq__ under !=, an own __contains__, an own __setitem__ -/
namespace My
open PySem PySem.Spec PyProof.Rows L2
section
variable {X : Cx} {n : Nat} {C f : Addr} {fd : FuncData} {ps : List Str} {sp : Sp}
/-- the method of an own class called by the machine -/
theorem run_own {A : Around} {pins : List (Addr × Obj)} {σ : L2.St} {H : Hy} {s : Shared} {us : List Value} {vs : List V} {Q : VK} (F : FnOk X.prog X.w X.K X.mg X.base CX0 n f fd ps sp) (hb : Binds X.K fd ps []) (sb : Sub X n A) (I : L2.Inv X pins σ H s) (r : L2.Vals vs us) (h : sp vs H Q E0) :
    wpAny (model X.prog X.w) A (call (.ref f) us) (EP X pins σ Q) X.xe s := by
  have e0 : Env0 X.prog X.w X.K X.mg X.base A X.stack s H := by
    have e := I.env0
    exact ⟨by rw [sb.fr]; exact e.frames, e.mod, e.bs, e.bsz, e.funs, e.frf, e.hok, e.bare⟩
  have hl := F.len _ _ _ _ h
  refine wpAny_call (codeAny_mono (F.run A X.stack s H ⟨us, []⟩ us vs Q E0 sb.room e0 (by
    have := hb s us I.kIn (by rw [List.append_nil, ← r.length]; exact hl)
    rw [List.append_nil] at this
    exact this) r h) fun r s' hq => ?_)
  cases r with
  | error e => exact (hq : False).elim
  | ok fl =>
    cases fl with
    | ret w =>
      obtain ⟨z, H', I', rz, q⟩ := I.after hq
      exact ⟨z, H', I', rz, q⟩
    | next => exact False.elim hq
    | brk => exact False.elim hq
    | cont => exact False.elim hq
theorem relR (a : Addr) : L2.RelV (V.ref a) (Value.ref a) := rfl
theorem op_notinOwn (F : FnOk X.prog X.w X.K X.mg X.base CX0 n f fd ps sp) (hb : Binds X.K fd ps []) (hr : Room n X.A) (hs : PySem.W.findIn X.K (.ref C) "__contains__" = some (some (.ref f))) (hf : PySem.W.isFn X.K (.ref f) = true) :
    OpR X (compareOp .NotIn) (fun x y H Q => ∃ a dx fs, y = .ref a ∧ H a = some (.ins C dx fs) ∧ sp [.ref a, x] H (fun v H' => ∃ c, v = .bl c ∧ Q (.bl (!c)) H') E0) := by
  intro pins s σ H x y v u Q I rx ry h
  obtain ⟨a, dx, fs, rfl, ha, q⟩ := h
  cases ry
  obtain ⟨mA, J, _⟩ := ins_get I.hok ha
  obtain ⟨od, J, _⟩ := J.look
  obtain ⟨m, hF⟩ := I.fr
  refine PySem.W.notIn_K hF I.ok.mod.kin J hs hf (thn (run_own F hb ⟨hr, rfl⟩ I (.cons (relR a) (.cons rx .nil)) q) fun r s' z => ?_)
  obtain ⟨z, H', I', rz, c, rfl, q⟩ := z
  cases rz
  exact wpAny_truthy_bool ⟨.bl (!c), H', I', rfl, q⟩
theorem set_own (F : FnOk X.prog X.w X.K X.mg X.base CX0 n f fd ps sp) (hb : Binds X.K fd ps []) (hr : Room n X.A) (hq : PySem.W.noSeq X.K C = true) (hs : PySem.W.findIn X.K (.ref C) "__setitem__" = some (some (.ref f))) (hf : PySem.W.isFn X.K (.ref f) = true) :
    PSet X (fun o i v H Q => ∃ a dx fs, o = .ref a ∧ H a = some (.ins C dx fs) ∧ sp [.ref a, i, v] H (fun _ H' => Q H') E0) := by
  intro pins s σ H o i v ov iv u Q I ro ri rv h
  obtain ⟨a, dx, fs, rfl, ha, q⟩ := h
  cases ro
  obtain ⟨mA, J, _⟩ := ins_get I.hok ha
  obtain ⟨od, J, _⟩ := J.look
  obtain ⟨m, hF⟩ := I.fr
  refine PySem.W.ksp_setItem hF I.ok.mod.kin J hq hs hf (thn (run_own F hb ⟨hr, rfl⟩ I (.cons (relR a) (.cons ri (.cons rv .nil))) q) fun r s' z => ?_)
  obtain ⟨z, H', I', rz, q⟩ := z
  exact ⟨H', I', q⟩
end
section
open PySem.W
variable {prog : Program} {w : World} {A : Around} {E : Value → Shared → Prop} {s : Shared} {K : Frag} {x C : Addr} {ox : Obj} {od : Option Obj} {f : Addr} {b tb : Value}
theorem ifBound_ne {M : Model} {args : List Value} {Q : Option Value → Shared → Prop} (X : K.In s.heap) (I : InstAt s.heap x ox C od) (hs : findIn K (.ref C) "__ne__" = some (some (.builtin "object.__ne__")))
    (h : wpAny M A (call (.builtin "object.__ne__") (.ref x :: args)) (fun v => Q (some v)) E s) : wpAny M A (callSpecialIfBound? (.ref x) "__ne__" args) Q E s := by
  simp only [callSpecialIfBound?, bindSpecialIfBound?]
  refine wpAny_holding (wpAny_bind (wpAny_bind (wpAny_bind (I.type.here ((looks_findIn X hs).here ?_)))))
  refine wpAny_bind (wpAny_askSetting (wpAny_ite ?_))
  have fin : wpAny M A (call (.builtin "object.__ne__") ([.ref x] ++ args) >>= fun v => pure (some v)) Q E s := wpAny_bind (wpAny_mono h (fun v s' h' => wpAny_pure h') fun _ _ h' => h')
  split
  · exact wpAny_bind (wpAny_of_eq (F.cmp_object.ne.bind _) (wpAny_pure (by exact fin)))
  · exact wpAny_tryCatch (wpAny_bind (wpAny_of_eq (F.cmp_object.ne.bind _) (wpAny_pure (by exact fin))))
theorem objNe_K {Q : Fin → Shared → Prop} (hu : A.units < cLine) (X : K.In s.heap) (I : InstAt s.heap x ox C od) (hs : findIn K (.ref C) "__eq__" = some (some (.ref f))) (hf : isFn K (.ref f) = true)
    (hcall : wpAny (model prog w) A (call (.ref f) [.ref x, b]) (fun v s' => ∃ c, v = .bool c ∧ Q (.done (.ret (.bool (!c)))) s') E s) :
    wpAny (model prog w) A (Builtin.«object.__ne__» ⟨[.ref x, b], []⟩) Q E s := by
  unfold Builtin.«object.__ne__»
  repeat (first
    | with_reducible refine wpAny_cRoomFor hu ?_
    | (refine wpAny_bind (m := callSpecialIfBound? (.ref x) (Str.ofString "__eq__") [b])
        (ifBound_K X I hs hf (wpAny_mono hcall (fun r s' hr => by
          obtain ⟨c, rfl, hq⟩ := hr
          repeat (first | exact hq | exact wpAny_pure hq | exact wpAny_truthy_bool hq | (refine wpAny_bind (m := truthy (.bool _)) (wpAny_truthy_bool ?_)) | wp_step)) fun _ _ e => e)))
    | wp_step)
theorem ne_K {Q : Value → Shared → Prop} (hu : A.units + 1 < cLine) (X : K.In s.heap) (I : InstAt s.heap x ox C od) (hb : Looks (model prog w) s.heap (typeOf b) (.ref C)) (hm : mroIn K C (.type "object") = some true)
    (hne : findIn K (.ref C) "__ne__" = some (some (.builtin "object.__ne__"))) (hs : findIn K (.ref C) "__eq__" = some (some (.ref f))) (hf : isFn K (.ref f) = true)
    (hcall : wpAny (model prog w) A.in1 (call (.ref f) [.ref x, b]) (fun v s' => ∃ c, v = .bool c ∧ Q (.bool (!c)) s') E s) :
    wpAny (model prog w) A (richCompare .NotEq (.ref x) b) Q E s := by
  have one : wpAny (model prog w) A (tryCompare (.ref x) "__ne__" b) (fun r s' => ∃ v, r = some v ∧ Q v s') E s := by
    unfold tryCompare
    refine wpAny_bind (ifBound_ne X I hne (wpAny_call (codeAny_call_builtin F.cmp_object.ne.plain F.cmpEntry_ne (check_slot F.cmpKind_ne F.cmpSplit_ne (I.type.andThen (looks_mroIn X hm)) (F.cmpArgs_ne _ _)
      (objNe_K (A := A.in1) hu X I hs hf (wpAny_mono hcall (fun v s' hv => ?_) fun _ _ e => e))))))
    obtain ⟨c, rfl, hq⟩ := hv
    exact ⟨c, rfl, wpAny_pure ⟨_, rfl, hq⟩⟩
  unfold richCompare
  simp only [oneThing_ref]
  refine wpAny_holding (wpAny_bind (wpAny_cRoomFor (Nat.lt_of_succ_lt hu) ?_))
  rw [cmpInfo_NotEq]
  refine wpAny_bind (I.type.here (wpAny_bind (hb.here ?_)))
  have e : (Value.ref C != Value.ref C) = false := by simp
  simp only [e, Bool.false_eq_true, if_false]
  refine wpAny_bind (wpAny_pure ?_)
  simp only [Bool.false_eq_true, if_false]
  refine wpAny_bind (wpAny_mono one (fun r s' z => ?_) fun _ _ e => e)
  obtain ⟨v, rfl, hq⟩ := z
  exact wpAny_pure hq
end
section
variable {X : Cx} {n : Nat} {C f : Addr} {fd : FuncData} {ps : List Str} {sp : Sp}
theorem op_neOwn (F : FnOk X.prog X.w X.K X.mg X.base CX0 n f fd ps sp) (hb : Binds X.K fd ps []) (hr : Room (n + 1) X.A) (hu : X.A.units + 64 < cLine) (hm : PySem.W.mroIn X.K C (.type "object") = some true) (hne : PySem.W.findIn X.K (.ref C) "__ne__" = some (some (.builtin "object.__ne__")))
    (hs : PySem.W.findIn X.K (.ref C) "__eq__" = some (some (.ref f))) (hf : PySem.W.isFn X.K (.ref f) = true) :
    OpR X (compareOp .NotEq) (fun x y H Q => ∃ a b dx fs dy gs, x = .ref a ∧ y = .ref b ∧ H a = some (.ins C dx fs) ∧ H b = some (.ins C dy gs) ∧ sp [.ref a, .ref b] H (fun v H' => ∃ c, v = .bl c ∧ Q (.bl (!c)) H') E0) := by
  intro pins s σ H x y v u Q I rx ry h
  obtain ⟨a, b, dx, fs, dy, gs, rfl, rfl, ha, hbb, q⟩ := h
  cases rx
  cases ry
  obtain ⟨mA, J, _⟩ := ins_get I.hok ha
  obtain ⟨od, J, _⟩ := J.look
  obtain ⟨mB, J', _⟩ := ins_get I.hok hbb
  obtain ⟨od', J', _⟩ := J'.look
  show wpAny (model X.prog X.w) X.A (richCompare .NotEq (.ref a) (.ref b)) (EP X pins σ Q) X.xe s
  refine ne_K (units1 hu) I.kIn J J'.type hm hne hs hf (thn (run_own F hb ⟨hr.in1, rfl⟩ I (.cons (relR a) (.cons (relR b) .nil)) q) fun r s' z => ?_)
  obtain ⟨z, H', I', rz, c, rfl, q⟩ := z
  cases rz
  exact ⟨c, rfl, .bl (!c), H', I', rfl, q⟩
end
end My
set_option Elab.async false
set_option linter.all false
set_option maxRecDepth 100000
set_option maxHeartbeats 4000000
/-! B1: values.py -/
namespace My
open PySem PySem.Spec PyProof.Rows L2
def sp_is_integer : Sp := fun vs H Q _ => ∃ i, vs = [.int i] ∧ Q (.bl true) H
def sp_is_between : Sp := fun vs H Q _ => ∃ i a b, vs = [.int i, .int a, .int b] ∧ Q (.bl (decide (a ≤ i) && decide (i ≤ b))) H
section
variable {P : Program} {w : World} {K : PySem.W.Frag} {mg : Str → Option Value} {base : Heap}
theorem h_is_integer (e : EV w K mg base) : Has P w K mg base 1 "is_integer" ["value"] sp_is_integer := by
  refine mk_has (d := d_is_integer) (N := ["value"]) e.g_is_integer e.f_is_integer ⟨rfl, rfl, rfl, by decide +kernel, rfl, by decide +kernel, by decide +kernel⟩ (fun _ _ _ _ _ _ us hl => match us, hl with | [_], _ => rfl)
    (fun vs H Q E h => by obtain ⟨i, rfl, _⟩ := h; rfl) (fun cdv A outer s H vs Q E hr h => ?_)
  obtain ⟨i, rfl, k⟩ := h
  refine rb_one (rs_ret (r_and (r_isT "int" e.z_isinstance e.z_int (by decide +kernel) (r_var 0 ?_))))
  refine ⟨"int", true, .base (.int i), by decide +kernel, ?_⟩
  refine b_t (r_one (r_not (r_isT "bool" e.z_isinstance e.z_bool (by decide +kernel) (r_var 0 ?_))))
  refine ⟨"int", false, .base (.int i), by decide +kernel, ?_⟩
  exact k
theorem h_is_between (e : EV w K mg base) : Has P w K mg base 2 "is_between" ["value", "least", "most"] sp_is_between := by
  refine mk_has (d := d_is_between) (N := ["value", "least", "most"]) e.g_is_between e.f_is_between ⟨rfl, rfl, rfl, by decide +kernel, rfl, by decide +kernel, by decide +kernel⟩ (fun _ _ _ _ _ _ us hl => match us, hl with | [_, _, _], _ => rfl)
    (fun vs H Q E h => by obtain ⟨i, a, b, rfl, _⟩ := h; rfl) (fun cdv A outer s H vs Q E hr h => ?_)
  obtain ⟨i, a, b, rfl, k⟩ := h
  refine rb_one (rs_ret (r_and (r_call (h_is_integer e) hr (ra_cons (r_var 0 (ra_nil ⟨i, rfl, ?_⟩))))))
  refine b_t (r_one (r_chain oLe oLe (r_var 1 (r_var 0 ?_))))
  refine b_d (fun c => r_var 2 ?_) (fun c => ?_)
  · rw [show decide (a ≤ i) = true by simpa using c] at k
    exact k
  · rw [show decide (a ≤ i) = false by simpa using c] at k
    exact k
end
end My
set_option Elab.async false
set_option linter.all false
set_option maxRecDepth 100000
set_option maxHeartbeats 4000000
/-! T1: texts: join, split, index, signs -/
namespace My
open PySem PySem.Spec PyProof.Rows L2 TL
theorem tl_S (l : List Nat) : tl (S l) = l := rfl
theorem S_of_tl {x : Str} {l : List Nat} (h : tl x = l) : x = S l := by rw [← h]; exact (S_eta x).symm
theorem map_tl_S (ls : List (List Nat)) : (ls.map S).map tl = ls := by
  rw [List.map_map]
  exact List.map_id _
theorem join_S (s : List Nat) (ls : List (List Nat)) : Txt.join (S s) (ls.map S) = S (joinL s ls) := by
  refine S_of_tl ?_
  rw [join_eq, tl_join, map_tl_S, tl_S]
theorem split_S {s : Nat} {ls : List (List Nat)} (h0 : ls ≠ []) (h1 : ∀ p ∈ ls, s ∉ p) (h2 : s < 256) : Txt.split (S (joinL [s] ls)) (S [s]) = ls.map S := by
  rw [← join_S]
  refine split_join (s := s) (S := []) rfl (by simp [S, h2]) (fun e => h0 (List.map_eq_nil_iff.mp e)) fun p hp => ?_
  obtain ⟨q, hq, rfl⟩ := List.mem_map.mp hp
  exact h1 q hq
theorem joinL_nil : ∀ ls : List (List Nat), joinL [] ls = ls.flatten
  | [] => rfl
  | [p] => by simp [joinL]
  | p :: q :: r => by
    show p ++ ([] ++ joinL [] (q :: r)) = p ++ (q :: r).flatten
    rw [joinL_nil (q :: r), List.nil_append]
theorem joinL_cons (s p : List Nat) {ls : List (List Nat)} (h : ls ≠ []) : joinL s (p :: ls) = p ++ s ++ joinL s ls := by
  cases ls with
  | nil => exact absurd rfl h
  | cons q r => show p ++ (s ++ joinL s (q :: r)) = _; rw [List.append_assoc]
theorem idxOf_le {c : Nat} : ∀ {l : List Nat} {i : Nat}, l[i]? = some c → l.idxOf c ≤ i
  | [], i, h => by simp at h
  | a :: l, 0, h => by
    have e : a = c := by simpa using h
    rw [List.idxOf_cons, e, beq_self_eq_true]
    exact Nat.le_refl _
  | a :: l, i + 1, h => by
    have q := idxOf_le (l := l) (i := i) (by simpa using h)
    rw [List.idxOf_cons]
    cases hh : (a == c)
    · show l.idxOf c + 1 ≤ i + 1
      omega
    · show 0 ≤ i + 1
      omega
theorem idx_S {l : List Nat} {c : Nat} (h : c ∈ l) : ∃ rest, Builtin.Str.occurrences (S l) (S [c]) 0 (S l).length 1 = l.idxOf c :: rest := by
  have key : ∀ i, StrLaws.At (S l) (S [c]) (S l).length i ↔ l[i]? = some c := fun i => by
    rw [at_iff (by simp [tl_S])]
    show pre [c] (l.drop i) = true ↔ _
    cases hd : l.drop i with
    | nil =>
      have : l.length ≤ i := List.drop_eq_nil_iff.mp hd
      simp [pre, List.getElem?_eq_none this]
    | cons d r =>
      have e : l[i]? = some d := by
        have q : (l.drop i)[0]? = l[i + 0]? := List.getElem?_drop
        rw [hd] at q
        exact q.symm
      rw [e]
      rw [show pre [c] (d :: r) = (d == c) by simp [pre]]
      constructor
      · intro q
        have : d = c := by simpa using q
        rw [this]
      · intro q
        have : d = c := Option.some.inj q
        simp [this]
  rcases StrLaws.occ_head (S l) (S [c]) 1 (Nat.le_refl _) with ⟨_, h2⟩ | ⟨i, r, h1, h2, h3⟩
  · obtain ⟨i, hi⟩ := List.mem_iff_getElem?.mp h
    exact absurd ((key i).mpr hi) (h2 i)
  · refine ⟨r, ?_⟩
    rw [h1]
    have hi := (key i).mp h2
    have e : l.idxOf c = i := by
      obtain ⟨hlt, he⟩ := List.getElem?_eq_some_iff.mp hi
      have h5 : l.idxOf c ≤ i := idxOf_le hi
      have h6 : ¬ l.idxOf c < i := fun hh => h3 _ hh ((key _).mpr (by
        have hm : l.idxOf c < l.length := List.idxOf_lt_length_of_mem h
        rw [List.getElem?_eq_getElem hm, List.getElem_idxOf hm]))
      omega
    rw [e]
section
variable {X : Cx} {σ : L2.St} {H : Hy} {Q : VK} {pos p : Pos} {e a : Expr} {apos : Pos}
/-- sep.join(xs) -/
theorem r_join (h : RE X e σ H fun x H1 => ∃ s, x = .str (S s) ∧ RA X [a] σ H1 fun vs H2 => ∃ p ls, vs = [.ref p] ∧ (SqL X.K H2 p ((ls.map S).map V.str) ∨ SqT X.K H2 p ((ls.map S).map V.str)) ∧ (ls.map (·.length)).sum + ls.length * s.length ≤ 100000 ∧ Q (.str (S (joinL s ls))) H2)
    (hbase : attributeBase e "join" X.env (eval e X.env) = eval e X.env := by rfl)
    (hfew : ((backTo pos (starEach [a] X.env)).all (fun x => !x.1) && (backToKw pos (keywordEach [] X.env)).all (fun x => x.1.isSome)
      && decide ([a].length + ([] : List Keyword).length + (if ([] : List Keyword).isEmpty then 0 else 1) < 30)) = true := by rfl)
    (hline : (apos.endLine == pos.line) = true := by rfl) (hs : starEach [a] X.env = (false, eval a X.env) :: starEach [] X.env := by rfl) (hplain : (backTo pos (starEach [] X.env)).any (·.1) = false := by rfl) : RE X (.Call (.Attribute e "join" apos) [a] [] pos) σ H Q := by
  refine r_bm PySem.F.plainAttrs_str PySem.F.slot_str_join PySem.F.type_str_join mt_join (h.mono fun x H1 q => ?_) hbase hfew hline hs hplain
  obtain ⟨s, rfl, q⟩ := q
  refine ⟨rfl, q.mono fun vs H2 q2 => ?_⟩
  obtain ⟨p, ls, rfl, h1, h2, q3⟩ := q2
  refine ⟨_, p, ls.map S, rfl, rfl, h1, ?_, by rw [join_S]; exact q3⟩
  rw [List.map_map, List.length_map]
  exact Nat.le_trans h2 (by decide)
theorem r_split (h : RE X e σ H fun x H1 => ∃ z, x = .str z ∧ RE X a σ H1 fun y H2 => ∃ (c : Nat) (ls : List (List Nat)), z = S (joinL [c] ls) ∧ y = .str (S [c]) ∧ ls ≠ [] ∧ (∀ p ∈ ls, c ∉ p) ∧ c < 256 ∧ (joinL [c] ls).length ≤ 100000 ∧ ∀ p, H2 p = none → Q (.ref p) (upd H2 p (.lst ((ls.map S).map V.str))))
    (hbase : attributeBase e "split" X.env (eval e X.env) = eval e X.env := by rfl)
    (hfew : ((backTo pos (starEach [a] X.env)).all (fun x => !x.1) && (backToKw pos (keywordEach [] X.env)).all (fun x => x.1.isSome)
      && decide ([a].length + ([] : List Keyword).length + (if ([] : List Keyword).isEmpty then 0 else 1) < 30)) = true := by rfl)
    (hline : (apos.endLine == pos.line) = true := by rfl) (hs : starEach [a] X.env = (false, eval a X.env) :: starEach [] X.env := by rfl) (hplain : (backTo pos (starEach [] X.env)).any (·.1) = false := by rfl) : RE X (.Call (.Attribute e "split" apos) [a] [] pos) σ H Q := by
  refine r_bm PySem.F.plainAttrs_str PySem.F.slot_str_split PySem.F.type_str_split mt_split (h.mono fun x H1 q => ?_) hbase hfew hline hs hplain
  obtain ⟨z, rfl, q⟩ := q
  refine ⟨rfl, ra_cons (q.mono fun y H2 q2 => ?_) hs⟩
  obtain ⟨c, ls, rfl, rfl, h1, h2, h3, h4, q3⟩ := q2
  refine ra_nil ⟨_, _, rfl, rfl, rfl, ?_, ?_⟩
  · show (joinL [c] ls).length + 2 ≤ sizeLine
    exact Nat.le_trans (Nat.add_le_add_right h4 2) (by decide)
  · rw [split_S h1 h2 h3]
    exact q3
/-- x.index(one sign) -/
theorem r_sindex (h : RE X e σ H fun x H1 => ∃ l, x = .str (S l) ∧ RE X a σ H1 fun y H2 => ∃ c, y = .str (S [c]) ∧ c ∈ l ∧ Q (.int (l.idxOf c : Nat)) H2)
    (hbase : attributeBase e "index" X.env (eval e X.env) = eval e X.env := by rfl)
    (hfew : ((backTo pos (starEach [a] X.env)).all (fun x => !x.1) && (backToKw pos (keywordEach [] X.env)).all (fun x => x.1.isSome)
      && decide ([a].length + ([] : List Keyword).length + (if ([] : List Keyword).isEmpty then 0 else 1) < 30)) = true := by rfl)
    (hline : (apos.endLine == pos.line) = true := by rfl) (hs : starEach [a] X.env = (false, eval a X.env) :: starEach [] X.env := by rfl) (hplain : (backTo pos (starEach [] X.env)).any (·.1) = false := by rfl) : RE X (.Call (.Attribute e "index" apos) [a] [] pos) σ H Q := by
  refine r_bm PySem.F.plainAttrs_str PySem.F.slot_str_index PySem.F.type_str_index mt_sindex (h.mono fun x H1 q => ?_) hbase hfew hline hs hplain
  obtain ⟨l, rfl, q⟩ := q
  refine ⟨rfl, ra_cons (q.mono fun y H2 q2 => ?_) hs⟩
  obtain ⟨c, rfl, h1, q3⟩ := q2
  obtain ⟨rest, h2⟩ := idx_S h1
  exact ra_nil ⟨_, _, _, rest, rfl, rfl, h2, q3⟩
end
end My
set_option Elab.async false
set_option linter.all false
set_option maxRecDepth 100000
set_option maxHeartbeats 4000000
/-! B2: is_rising, models.py -/
namespace My
open PySem PySem.Spec PyProof.Rows L2 TL
abbrev strsV (ls : List (List Nat)) : List V := (ls.map S).map V.str
/-- each less than the next -/
def Asc {α : Type} (r : α → α → Prop) (l : List α) : Prop := ∀ (i : Nat) (a b : α), l[i]? = some a → l[i + 1]? = some b → r a b
theorem cut1 (l : List Nat) : (cutS (S l) (some 1) none) = S (l.drop 1) := by
  unfold cutS
  rw [S_cps, S_length, HT.sIx_none, show (some (1 : Int)) = some ((1 : Nat) : Int) from rfl, HT.sIx_nat]
  show S _ = S _
  congr 1
  cases l with
  | nil => rfl
  | cons a r => simp
theorem cutV1 (l : List V) : cutV l (some 1) none = l.drop 1 := by
  unfold cutV
  rw [HT.sIx_none, show (some (1 : Int)) = some ((1 : Nat) : Int) from rfl, HT.sIx_nat]
  cases l with
  | nil => rfl
  | cons a r => simp
def sp_is_rising (K : PySem.W.Frag) : Sp := fun vs H Q _ =>
  (∃ l : List Nat, vs = [.str (S l)] ∧ l.length ≤ 1000 ∧ Asc (· < ·) l ∧ ∀ H', Same H H' → Q (.bl true) H') ∨
  ∃ p ls, vs = [.ref p] ∧ SqL K H p (strsV ls) ∧ ls.length ≤ 1000 ∧ Asc (· < ·) ls ∧ ∀ H', Same H H' → Q (.bl true) H'
section
variable {P : Program} {w : World} {K : PySem.W.Frag} {mg : Str → Option Value} {base : Heap}
theorem sc_is_rising : FnScope ["things", "one", "other"] ["things"] (defScope s_is_rising) := ⟨rfl, rfl, rfl, by decide +kernel, rfl, by decide +kernel, by decide +kernel⟩
theorem h_is_rising (e : EV w K mg base) : Has P w K mg base 1 "is_rising" ["things"] (sp_is_rising K) := by
  refine mk_has (d := d_is_rising) e.g_is_rising e.f_is_rising sc_is_rising (fun _ _ _ _ _ _ us hl => match us, hl with | [_], _ => rfl) (fun vs H Q E h => by rcases h with ⟨l, rfl, _⟩ | ⟨p, ls, rfl, _⟩ <;> rfl) (fun cdv A outer s H vs Q E hr h => ?_)
  refine rb_one (rs_ret (r_callB (cr_all rfl) e.z_all (by decide +kernel) (ra_cons (r_lc [("one", 1), ("other", 2)] sc_is_rising.nd (blkOk_by (N := ["things", "one", "other"]) (sc := defScope s_is_rising) (by decide +kernel)) ?_))))
  rcases h with ⟨l, rfl, hl, ha, k⟩ | ⟨p, ls, rfl, hp, hl, ha, k⟩
  · refine ri_zip e.z_zip (ra_cons (r_var 0 (ra_cons (r_slice sl_str (r_var 0 (ro_some (r_int ⟨1, rfl, ro_none ⟨_, rfl, small _ (by rw [S_length]; omega), ra_nil ⟨_, _, _, _, rfl, srcV_text, srcV_text, fun u1 u2 D hD => ?_⟩⟩⟩)))))))
    rw [cut1]
    refine lc_f (walk_Z _ _) hD (fun H' _ => ⟨trivial, trivial⟩) (fun i H x H' y => ?_) (fun i => List.replicate i (V.bl true)) rfl (fun i hi => ?_) (fun i x H2 H3 hi s1 hd y => ?_) (fun H' s1 hd => ?_)
    · obtain ⟨T, _, _, _, hT, rfl, _⟩ := y
      exact same_new hT
    · rw [List.length_replicate]
      have : i ≤ l.length := Nat.le_trans hi (Nat.min_le_left _ _)
      exact Nat.lt_of_le_of_lt (Nat.le_trans this hl) (by decide)
    · obtain ⟨T, _, _, rfl, hT, rfl, ⟨c, hc, rfl⟩, ⟨d, hd2, rfl⟩⟩ := y
      intro s0 H0 C cl fp
      refine rg_tup ⟨T, _, rfl, SqT.of upd_same, rfl, rgs_cons (rg_name 1 sc_is_rising.nd (rgs_cons (rg_name 2 sc_is_rising.nd (rgs_nil ⟨rfl, ?_⟩))))⟩
      intro s0 H0 C cl fp
      refine rts_nil (iteT ?_)
      intro s0 H0 C cl fp
      refine r_lt (r_var 1 (r_var 2 ⟨same_new hT, ?_⟩))
      have h1 : l[i]? = some c := by simpa [S] using hc
      have h2 : l[i + 1]? = some d := by
        have q : (l.drop 1)[i]? = some d := by simpa [S] using hd2
        rw [List.getElem?_drop, Nat.add_comm] at q
        exact q
      have h3 : decide (([c] : List Nat) < [d]) = true := decide_eq_true (List.cons_lt_cons_iff.mpr (Or.inl (ha i c d h1 h2)))
      show List.replicate (i + 1) (V.bl true) = List.replicate i (V.bl true) ++ [V.bl (decide (([c] : List Nat) < [d]))]
      rw [h3, List.replicate_succ']
    · refine ra_nil ⟨D, List.replicate _ true, rfl, SqL.of (by rw [hd, List.map_replicate]), ?_⟩
      rw [show ∀ n, (List.replicate n true).all id = true by simp]
      exact k H' s1
  · refine ri_zipL e.z_zip (ra_cons (r_var 0 (ra_cons (r_slL (r_var 0 (ro_some (r_int ⟨1, rfl, ro_none ⟨_, _, rfl, hp, fun q hq => ra_nil ⟨p, q, _, _, rfl, (same_new hq).seq hp, SqL.of upd_same, fun D hD => ?_⟩⟩⟩)))))))
    rw [cutV1] at hD ⊢
    have sq : Same H (upd H q (.lst (List.drop 1 (strsV ls)))) := same_new hq
    refine lc_f (walk_zip rfl) hD (fun H' s1 => ⟨(sq.trans s1).seq hp, SqL.of (s1 _ _ upd_same)⟩) (fun i H x H' y => ?_) (fun i => List.replicate i (V.bl true)) rfl (fun i hi => ?_) (fun i x H2 H3 hi s1 hd y => ?_) (fun H' s1 hd => ?_)
    · obtain ⟨T, _, _, _, hT, rfl, _⟩ := y
      exact same_new hT
    · rw [List.length_replicate]
      have : i ≤ ls.length := by
        have q2 := Nat.le_trans hi (Nat.min_le_left _ _)
        simpa using q2
      exact Nat.lt_of_le_of_lt (Nat.le_trans this hl) (by decide)
    · obtain ⟨T, a, b, rfl, hT, rfl, hc, hd2⟩ := y
      replace hc : (strsV ls)[i]? = some a := hc
      replace hd2 : ((strsV ls).drop 1)[i]? = some b := hd2
      have e1 : ∃ c, ls[i]? = some c ∧ a = .str (S c) := by
        rw [List.getElem?_map, List.getElem?_map] at hc
        cases q : ls[i]? with
        | none => rw [q] at hc; cases hc
        | some c => rw [q] at hc; exact ⟨c, rfl, (Option.some.inj hc).symm⟩
      have e2 : ∃ c, ls[i + 1]? = some c ∧ b = .str (S c) := by
        rw [List.getElem?_drop, List.getElem?_map, List.getElem?_map, Nat.add_comm] at hd2
        cases q : ls[i + 1]? with
        | none => rw [q] at hd2; cases hd2
        | some c => rw [q] at hd2; exact ⟨c, rfl, (Option.some.inj hd2).symm⟩
      obtain ⟨c, h1, rfl⟩ := e1
      obtain ⟨d, h2, rfl⟩ := e2
      intro s0 H0 C cl fp
      refine rg_tup ⟨T, _, rfl, SqT.of upd_same, rfl, rgs_cons (rg_name 1 sc_is_rising.nd (rgs_cons (rg_name 2 sc_is_rising.nd (rgs_nil ⟨rfl, ?_⟩))))⟩
      intro s0 H0 C cl fp
      refine rts_nil (iteT ?_)
      intro s0 H0 C cl fp
      refine r_lt (r_var 1 (r_var 2 ⟨same_new hT, ?_⟩))
      show List.replicate (i + 1) (V.bl true) = List.replicate i (V.bl true) ++ [V.bl (decide (c < d))]
      rw [decide_eq_true (ha i c d h1 h2), List.replicate_succ']
    · refine ra_nil ⟨D, List.replicate _ true, rfl, SqL.of (by rw [hd, List.map_replicate]), ?_⟩
      rw [show ∀ n, (List.replicate n true).all id = true by simp]
      exact k H' (sq.trans s1)
end
end My

set_option Elab.async false
set_option linter.all false
set_option maxRecDepth 100000
set_option maxHeartbeats 4000000
/-! B3: models.py, the text of a model -/
namespace My
open PySem PySem.Spec PyProof.Rows L2 TL
theorem s_sp : (" " : Str) = S [32] := by decide +kernel
theorem s_nl : ("\n" : Str) = S [10] := by decide +kernel
theorem s_no : ("" : Str) = S [] := by decide +kernel
theorem s_letters : ("abcdefghijklmnopqrstuvwxyz" : Str) = S (List.range' 97 26) := by decide +kernel
theorem s_digits : ("0123456789" : Str) = S (List.range' 48 10) := by decide +kernel
def colW : List Nat := [99, 111, 108, 117, 109, 110, 115]
def lotW : List Nat := [108, 111, 116, 115]
theorem s_col : ("columns" : Str) = S colW := by decide +kernel
theorem s_lot : ("lots" : Str) = S lotW := by decide +kernel
def sp_words_of (K : PySem.W.Frag) : Sp := fun vs H Q _ => ∃ (hd : List Nat) (ws : List (List Nat)), vs = [.str (S (joinL [32] (hd :: ws))), .str (S hd)] ∧ (∀ p ∈ hd :: ws, 32 ∉ p) ∧ (joinL [32] (hd :: ws)).length ≤ 1000 ∧
  ∀ p H', Same H H' → H' p = some (.lst (strsV ws)) → Q (.ref p) H'
def sp_is_column : Sp := fun vs H Q _ => ∃ c d : Nat, vs = [.str (S [c, d])] ∧ 97 ≤ c ∧ c ≤ 122 ∧ 50 ≤ d ∧ d ≤ 52 ∧ Q (.bl true) H
def prodI (l : List Int) : Int := l.foldl (· * ·) 1
def sp_product_of (K : PySem.W.Frag) : Sp := fun vs H Q _ => ∃ a ns, vs = [.ref a] ∧ SqT K H a (ns.map V.int) ∧ (∀ n ∈ ns, 0 ≤ n ∧ n ≤ 100) ∧ Q (.int (prodI ns)) H
def sp_is_part : Sp := fun vs H Q _ => ∃ a b : List Nat, vs = [.str (S a), .str (S b)] ∧ a.length ≤ 1000 ∧ ∀ H', Same H H' → Q (.bl (a.all fun c => decide (c ∈ b))) H'
section
variable {P : Program} {w : World} {K : PySem.W.Frag} {mg : Str → Option Value} {base : Heap}
theorem sc_words_of : FnScope ["line", "head", "words"] ["line", "head"] (defScope s_words_of) := ⟨rfl, rfl, rfl, by decide +kernel, rfl, by decide +kernel, by decide +kernel⟩
theorem h_words_of (e : EV w K mg base) : Has P w K mg base 1 "words_of" ["line", "head"] (sp_words_of K) := by
  refine mk_has (d := d_words_of) e.g_words_of e.f_words_of sc_words_of (fun _ _ _ _ _ _ us hl => match us, hl with | [_, _], _ => rfl) (fun vs H Q E h => by obtain ⟨hd, ws, rfl, _⟩ := h; rfl) (fun cdv A outer s H vs Q E hr h => ?_)
  obtain ⟨hd, ws, rfl, h1, h2, k⟩ := h
  refine rb_cons (rs_set 2 sc_words_of.nd (r_split (r_var 0 ⟨_, rfl, r_str ⟨32, hd :: ws, rfl, congrArg V.str s_sp, by simp, h1, by decide, by omega, fun p hp => ?_⟩⟩)))
  refine rb_one (rs_ret (r_if (rt_eq hr.units (r_ix (r_var 2 (r_int ⟨_, V.str (S hd), .inl (SqL.of upd_same), at0, r_var 1 ⟨rfl, ?_⟩⟩))))))
  refine b_yes (decide_eq_true rfl) ?_
  refine r_slL (r_var 2 (ro_some (r_int ⟨1, rfl, ro_none ⟨p, _, rfl, SqL.of upd_same, fun q hq => ?_⟩⟩)))
  rw [cutV1]
  exact k q _ ((same_new hp).trans (same_new hq)) upd_same
theorem sc_is_column : FnScope ["word"] ["word"] (defScope s_is_column) := ⟨rfl, rfl, rfl, by decide +kernel, rfl, by decide +kernel, by decide +kernel⟩
theorem h_is_column (e : EV w K mg base) : Has P w K mg base 1 "is_column" ["word"] (sp_is_column) := by
  refine mk_has (d := d_is_column) e.g_is_column e.f_is_column sc_is_column (fun _ _ _ _ _ _ us hl => match us, hl with | [_], _ => rfl) (fun vs H Q E h => by obtain ⟨c, d, rfl, _⟩ := h; rfl) (fun cdv A outer s H vs Q E hr h => ?_)
  obtain ⟨c, d, rfl, h1, h2, h3, h4, k⟩ := h
  have hz : (S [c, d]).length ≤ sizeLine := S_small (by simp)
  refine rb_one (rs_ret (r_and (r_eq hr.units (r_callB call_len_str e.z_len boot_len (ra_cons (r_var 0 (ra_nil ⟨_, rfl, hz, r_int ⟨rfl, ?_⟩⟩)))))))
  refine b_yes (decide_eq_true rfl) (r_and (r_in (r_ix (r_var 0 (r_int ⟨hz, c, at0, r_gstr e.t_LETTERS ⟨c, rfl, ?_⟩⟩)))))
  refine b_yes ?_ (r_one (r_in (r_ix (r_var 0 (r_int ⟨hz, d, at1, ?_⟩)))))
  · rw [s_letters, S_cps, decide_eq_true_eq, List.mem_range'_1]
    omega
  refine r_slice sl_str (r_gstr e.t_DIGITS (ro_some (r_gint e.i_LEAST_LEVELS ⟨2, rfl, ro_some (r_add (r_gint e.i_MOST_LEVELS (r_int ⟨5, rfl, _, rfl, by decide +kernel, d, rfl, ?_⟩)))⟩)))
  rw [show cutS ("0123456789" : Str) (some 2) (some 5) = S [50, 51, 52] by decide +kernel, S_cps]
  have : decide (d ∈ [50, 51, 52]) = true := by
    rw [decide_eq_true_eq]
    simp
    omega
  rw [this]
  exact k
theorem sc_product_of : FnScope ["numbers", "found", "number"] ["numbers"] (defScope s_product_of) := ⟨rfl, rfl, rfl, by decide +kernel, rfl, by decide +kernel, by decide +kernel⟩
theorem h_product_of (e : EV w K mg base) : Has P w K mg base 1 "product_of" ["numbers"] (sp_product_of K) := by
  refine mk_has (d := d_product_of) e.g_product_of e.f_product_of sc_product_of (fun _ _ _ _ _ _ us hl => match us, hl with | [_], _ => rfl) (fun vs H Q E h => by obtain ⟨a, ns, rfl, _⟩ := h; rfl) (fun cdv A outer s H vs Q E hr h => ?_)
  obtain ⟨a, ns, rfl, h1, h2, k⟩ := h
  refine rb_cons (rs_set 1 sc_product_of.nd (r_int ?_))
  refine rb_cons (rs_for PassesOwn.never (ri_tup (r_var 0 ⟨a, rfl, ⟨_, h1⟩, rfor_it walk_tup (fun i σ' H' => H' = H ∧ ∃ v, σ' = [some (.ref a), some (.int (prodI (ns.take i))), v]) ⟨rfl, none, rfl⟩ (fun i σ' H' _ p => by rw [p.1]; exact h1) ?_ ?_⟩)))
  · rintro i x σ' H' H'' hi ⟨rfl, v, rfl⟩ ⟨rfl, hx⟩
    rw [List.getElem?_map] at hx
    cases q : ns[i]? with
    | none => rw [q] at hx; cases hx
    | some n =>
      rw [q] at hx
      obtain rfl : V.int n = x := Option.some.inj hx
      have hb := h2 n (List.mem_of_getElem? q)
      refine rg_name 2 sc_product_of.nd (rb_one (rs_set 1 sc_product_of.nd (r_mul (r_var 1 (r_var 2 ⟨.inr ⟨by omega, by omega⟩, rfl, some (V.int n), ?_⟩)))))
      have e1 : prodI (ns.take (i + 1)) = prodI (ns.take i) * n := by
        unfold prodI
        rw [List.take_succ, q, List.foldl_append]
        rfl
      rw [e1]
      rfl
  · rintro σ' H' ⟨rfl, v, rfl⟩
    refine rb_one (rs_ret (r_var 1 ?_))
    rw [List.length_map, List.take_length]
    exact k
theorem sc_is_part : FnScope ["small", "great", "column"] ["small", "great"] (defScope s_is_part) := ⟨rfl, rfl, rfl, by decide +kernel, rfl, by decide +kernel, by decide +kernel⟩
theorem h_is_part (e : EV w K mg base) : Has P w K mg base 1 "is_part" ["small", "great"] (sp_is_part) := by
  refine mk_has (d := d_is_part) e.g_is_part e.f_is_part sc_is_part (fun _ _ _ _ _ _ us hl => match us, hl with | [_, _], _ => rfl) (fun vs H Q E h => by obtain ⟨a, b, rfl, _⟩ := h; rfl) (fun cdv A outer s H vs Q E hr h => ?_)
  obtain ⟨a, b, rfl, h1, k⟩ := h
  refine rb_one (rs_ret (r_callB (cr_all rfl) e.z_all (by decide +kernel) (ra_cons (r_lc [("column", 2)] sc_is_part.nd (blkOk_by (N := ["small", "great", "column"]) (sc := defScope s_is_part) (by decide +kernel)) ?_))))
  refine ri_str (r_var 0 ⟨_, rfl, fun D hD => ?_⟩)
  refine lc_n 2 walk_str hD (fun _ _ => trivial) (fun i H x H' y => by rw [y.1]; exact Same.refl _) ((a.map fun c => decide (c ∈ b)).map V.bl) (by simp [S]) (Nat.lt_of_le_of_lt h1 (by decide)) (fun i v H2 H3 hi s1 y => ?_) (fun H' s1 hd => ?_) sc_is_part.nd
  · obtain ⟨rfl, c, hc, rfl⟩ := y
    intro s0 H0 C cl fp
    refine r_in (r_var 2 (r_var 1 ⟨c, rfl, Same.refl _, ?_⟩))
    have hc' : a[i]? = some c := by simpa [S] using hc
    rw [List.getElem?_map, List.getElem?_map, hc']
    rfl
  · refine ra_nil ⟨D, _, rfl, SqL.of hd, ?_⟩
    rw [show (a.map fun c => decide (c ∈ b)).all id = a.all fun c => decide (c ∈ b) by rw [List.all_map]; rfl]
    exact k H' s1
end
end My

set_option Elab.async false
set_option pp.maxSteps 1500
set_option linter.all false
set_option maxRecDepth 100000
set_option maxHeartbeats 4000000
/-! B4: models.py, a model read -/
namespace My
open PySem PySem.Spec PyProof.Rows L2 TL
structure MD where
  cols : List Nat
  lev : List Nat
  lots : List (List Nat)
structure MOk (m : MD) : Prop where
  n2 : 2 ≤ m.cols.length
  n6 : m.cols.length ≤ 6
  ll : m.lev.length = m.cols.length
  asc : Asc (· < ·) m.cols
  letter : ∀ c ∈ m.cols, 97 ≤ c ∧ c ≤ 122
  lv : ∀ d ∈ m.lev, 2 ≤ d ∧ d ≤ 4
  pr : prodI (m.lev.map fun d : Nat => (d : Int)) ≤ 256
  k1 : 1 ≤ m.lots.length
  k10 : m.lots.length ≤ 10
  lot : ∀ l ∈ m.lots, l ≠ [] ∧ Asc (· < ·) l ∧ (∀ c ∈ l, c ∈ m.cols) ∧ l.length ≤ 6
  lasc : Asc (· < ·) m.lots
  cover : ∀ c ∈ m.cols, ∃ l ∈ m.lots, c ∈ l
  nopart : ∀ l ∈ m.lots, ∀ l' ∈ m.lots, l ≠ l' → ∃ c ∈ l, c ∉ l'
def MD.levI (m : MD) : List Int := m.lev.map fun d : Nat => (d : Int)
def MD.words (m : MD) : List (List Nat) := List.zipWith (fun c d => [c, 48 + d]) m.cols m.lev
def MD.line0 (m : MD) : List Nat := joinL [32] (colW :: m.words)
def MD.line1 (m : MD) : List Nat := joinL [32] (lotW :: m.lots)
def MD.text (m : MD) : List Nat := joinL [10] [m.line0, m.line1]
theorem int_dig (d : Nat) (h : 2 ≤ d ∧ d ≤ 4) : PySem.intText? (S [48 + d]) = some (d : Int) := by
  have : d = 2 ∨ d = 3 ∨ d = 4 := by omega
  rcases this with rfl | rfl | rfl <;> decide +kernel
theorem words_get {m : MD} (h : MOk m) {i : Nat} {x : List Nat} (hx : m.words[i]? = some x) : ∃ c d, m.cols[i]? = some c ∧ m.lev[i]? = some d ∧ x = [c, 48 + d] := by
  unfold MD.words at hx
  rw [List.getElem?_zipWith] at hx
  cases q : m.cols[i]? with
  | none => rw [q] at hx; cases hx
  | some c =>
    cases q2 : m.lev[i]? with
    | none => rw [q, q2] at hx; cases hx
    | some d =>
      rw [q, q2] at hx
      exact ⟨c, d, rfl, rfl, (Option.some.inj hx).symm⟩
theorem words_length {m : MD} (h : MOk m) : m.words.length = m.cols.length := by
  unfold MD.words
  rw [List.length_zipWith, h.ll, Nat.min_self]
theorem words_no {m : MD} (h : MOk m) : ∀ p ∈ colW :: m.words, 32 ∉ p := by
  intro p hp
  rcases List.mem_cons.mp hp with rfl | hp
  · decide
  · obtain ⟨i, hi⟩ := List.mem_iff_getElem?.mp hp
    obtain ⟨c, d, h1, h2, rfl⟩ := words_get h hi
    have := h.letter c (List.mem_of_getElem? h1)
    have := h.lv d (List.mem_of_getElem? h2)
    simp
    omega
theorem joinL_len (s : List Nat) (hs : s.length ≤ 1) : ∀ ls : List (List Nat), (joinL s ls).length ≤ (ls.map (·.length)).sum + ls.length
  | [] => by simp [joinL]
  | [p] => by simp [joinL]
  | p :: q :: r => by
    have := joinL_len s hs (q :: r)
    show (p ++ (s ++ joinL s (q :: r))).length ≤ _
    rw [List.length_append, List.length_append]
    simp only [List.map_cons, List.sum_cons, List.length_cons] at this ⊢
    omega
theorem sum_le {n : Nat} : ∀ {ls : List (List Nat)}, (∀ l ∈ ls, l.length ≤ n) → (ls.map (·.length)).sum ≤ ls.length * n
  | [], _ => by simp
  | a :: r, h => by
    have h1 := h a (List.mem_cons_self ..)
    have h2 := sum_le (ls := r) fun l hl => h l (List.mem_cons_of_mem _ hl)
    simp only [List.map_cons, List.sum_cons, List.length_cons]
    rw [Nat.add_mul]
    omega
theorem words_len {m : MD} (h : MOk m) : m.line0.length ≤ 100 := by
  have h1 := joinL_len [32] (by simp) (colW :: m.words)
  have h2 : (m.words.map (·.length)).sum ≤ m.words.length * 2 := sum_le fun l hl => by
    obtain ⟨i, hi⟩ := List.mem_iff_getElem?.mp hl
    obtain ⟨c, d, _, _, rfl⟩ := words_get h hi
    simp
  have h3 := words_length h
  have h4 := h.n6
  unfold MD.line0
  simp only [List.map_cons, List.sum_cons, List.length_cons] at h1
  have : colW.length = 7 := rfl
  omega
theorem lots_no {m : MD} (h : MOk m) : ∀ p ∈ lotW :: m.lots, 32 ∉ p := by
  intro p hp
  rcases List.mem_cons.mp hp with rfl | hp
  · decide
  · intro q
    have := h.letter 32 ((h.lot p hp).2.2.1 32 q)
    omega
theorem lots_len {m : MD} (h : MOk m) : m.line1.length ≤ 100 := by
  have h1 := joinL_len [32] (by simp) (lotW :: m.lots)
  have h2 : (m.lots.map (·.length)).sum ≤ m.lots.length * 6 := sum_le fun l hl => (h.lot l hl).2.2.2
  have h3 := h.k10
  unfold MD.line1
  simp only [List.map_cons, List.sum_cons, List.length_cons] at h1
  have : lotW.length = 4 := rfl
  omega
theorem sum_one : ∀ l : List Nat, ((l.map fun c => [c]).map (·.length)).sum = l.length
  | [] => rfl
  | a :: r => by
    have := sum_one r
    simp only [List.map_cons, List.sum_cons, List.length_cons, List.length_nil] at this ⊢
    omega
theorem flat_one : ∀ l : List Nat, (l.map fun c => [c]).flatten = l
  | [] => rfl
  | a :: r => by
    simp only [List.map_cons, List.flatten_cons, flat_one r]
    rfl
def sp_read_columns (K : PySem.W.Frag) : Sp := fun vs H Q _ => ∃ m : MD, MOk m ∧ vs = [.str (S m.line0)] ∧ ∀ t a H', Same H H' → H' t = some (.tup [.str (S m.cols), .ref a]) → H' a = some (.tup (m.levI.map V.int)) → Q (.ref t) H'
theorem strsV_get {ls : List (List Nat)} {i : Nat} {x : V} (h : (strsV ls)[i]? = some x) : ∃ l, ls[i]? = some l ∧ x = .str (S l) := by
  rw [List.getElem?_map, List.getElem?_map] at h
  cases q : ls[i]? with
  | none => rw [q] at h; cases h
  | some c => rw [q] at h; exact ⟨c, rfl, (Option.some.inj h).symm⟩
section
variable {P : Program} {w : World} {K : PySem.W.Frag} {mg : Str → Option Value} {base : Heap}
theorem sc_read_columns : FnScope ["line", "words", "columns", "levels", "word"] ["line"] (defScope s_read_columns) := ⟨rfl, rfl, rfl, by decide +kernel, rfl, by decide +kernel, by decide +kernel⟩
theorem h_read_columns (e : EV w K mg base) : Has P w K mg base 2 "read_columns" ["line"] (sp_read_columns K) := by
  refine mk_has (d := d_read_columns) e.g_read_columns e.f_read_columns sc_read_columns (fun _ _ _ _ _ _ us hl => match us, hl with | [_], _ => rfl) (fun vs H Q E h => by obtain ⟨m, _, rfl, _⟩ := h; rfl) (fun cdv A outer s H vs Q E hr h => ?_)
  obtain ⟨m, hm, rfl, k⟩ := h
  have hw := words_length hm
  refine rb_cons (rs_set 1 sc_read_columns.nd (r_call (h_words_of e) hr (ra_cons (r_var 0 (ra_cons (r_str (ra_nil ⟨colW, m.words, ?_, words_no hm, ?_, fun p H1 s1 hp => ?_⟩)))))))
  · rw [s_col]; rfl
  · exact Nat.le_trans (words_len hm) (by decide)
  refine rb_cons (rs_if (rt_bool (rw_or (rt_isN0 (r_var 1 ⟨rfl, ?_⟩)))))
  refine rw_or (rt_not (rt_chain oLe oLe (r_gint e.i_LEAST_COLUMNS (r_callB call_len_seq e.z_len boot_len (ra_cons (r_var 1 (ra_nil ⟨p, _, rfl, .inl (SqL.of hp), le_ii (b_yes ?_ (r_gint e.i_MOST_COLUMNS (le_ii (b_no ?_ ?_))))⟩)))))))
  · rw [decide_eq_true_eq]
    have := hm.n2
    simp only [List.length_map]
    omega
  · have := hm.n6
    simp only [List.length_map]
    rw [Bool.not_eq_false', decide_eq_true_eq]
    omega
  refine rw_or1 (rt_not (rt_val (r_callB (cr_all rfl) e.z_all (by decide +kernel) (ra_cons (r_lc [("word", 4)] sc_read_columns.nd (blkOk_by (N := ["line", "words", "columns", "levels", "word"]) (sc := defScope s_read_columns) (by decide +kernel)) (ri_list (r_var 1 ⟨p, rfl, ⟨_, SqL.of hp⟩, fun D hD => ?_⟩)))))))
  refine lc_n 4 walk_list hD (fun H' s => s.seq (SqL.of hp)) (fun i H x H' y => by rw [y.1]; exact Same.refl _) (List.replicate m.words.length (.bl true)) (by simp) (by simp only [List.length_map]; rw [hw]; exact Nat.lt_of_le_of_lt hm.n6 (by decide)) (fun i v H2 H3 hi s2 y => ?_) (fun H2 s2 hd => ?_) sc_read_columns.nd
  · obtain ⟨rfl, hx⟩ := y
    obtain ⟨x, hx1, rfl⟩ := strsV_get hx
    obtain ⟨c, d, h1, h2, rfl⟩ := words_get hm hx1
    have a1 := hm.letter c (List.mem_of_getElem? h1)
    have a2 := hm.lv d (List.mem_of_getElem? h2)
    intro s0 H0 C cl fp
    refine r_call (h_is_column e) hr (ra_cons (r_var 4 (ra_nil ⟨c, 48 + d, rfl, a1.1, a1.2, by omega, by omega, Same.refl _, ?_⟩)))
    simp only [List.length_map] at hi
    rw [List.getElem?_replicate, if_pos hi]
  refine ra_nil ⟨D, List.replicate m.words.length true, rfl, SqL.of (by rw [hd, List.map_replicate]), ?_⟩
  rw [show ∀ n, (List.replicate n true).all id = true by simp]
  refine b_no rfl (rb_nil ?_)
  have hp2 := s2 _ _ hp
  refine rb_cons (rs_par 2 3 sc_read_columns.nd (ra_cons (r_join (r_str ⟨[], s_no ▸ rfl, ra_cons (r_lc [("word", 4)] sc_read_columns.nd (blkOk_by (N := ["line", "words", "columns", "levels", "word"]) (sc := defScope s_read_columns) (by decide +kernel)) (ri_list (r_var 1 ⟨p, rfl, ⟨_, SqL.of hp2⟩, fun D2 hD2 => ?_⟩)))⟩))))
  refine lc_n 4 walk_list hD2 (fun H' s => s.seq (SqL.of hp2)) (fun i H x H' y => by rw [y.1]; exact Same.refl _) (strsV (m.cols.map fun c => [c])) (by simp [hw]) (by simp only [List.length_map]; rw [hw]; exact Nat.lt_of_le_of_lt hm.n6 (by decide)) (fun i v H4 H5 hi s3 y => ?_) (fun H3 s3 hd3 => ?_) sc_read_columns.nd
  · obtain ⟨rfl, hx⟩ := y
    obtain ⟨x, hx1, rfl⟩ := strsV_get hx
    obtain ⟨c, d, h1, h2, rfl⟩ := words_get hm hx1
    intro s0 H0 C cl fp
    refine r_ix (r_var 4 (r_int ⟨S_small (by simp), c, at0, Same.refl _, ?_⟩))
    rw [List.getElem?_map, List.getElem?_map, List.getElem?_map, h1]
    rfl
  refine ra_nil ⟨D2, m.cols.map fun c => [c], rfl, .inl (SqL.of hd3), ?_, ?_⟩
  · rw [sum_one]
    have := hm.n6
    simp
    omega
  rw [joinL_nil, flat_one]
  have hp3 := s3 _ _ hp2
  refine ra_cons (r_callTy call_tuple_of e.z_tuple (by decide +kernel) (ra_cons (r_lc [("word", 4)] sc_read_columns.nd (blkOk_by (N := ["line", "words", "columns", "levels", "word"]) (sc := defScope s_read_columns) (by decide +kernel)) (ri_list (r_var 1 ⟨p, rfl, ⟨_, SqL.of hp3⟩, fun D3 hD3 => ?_⟩)))))
  refine lc_n 4 walk_list hD3 (fun H' s => s.seq (SqL.of hp3)) (fun i H x H' y => by rw [y.1]; exact Same.refl _) (m.levI.map V.int) (by simp [hw, MD.levI, hm.ll]) (by simp only [List.length_map]; rw [hw]; exact Nat.lt_of_le_of_lt hm.n6 (by decide)) (fun i v H4 H5 hi s4 y => ?_) (fun H4 s4 hd4 => ?_) sc_read_columns.nd
  · obtain ⟨rfl, hx⟩ := y
    obtain ⟨x, hx1, rfl⟩ := strsV_get hx
    obtain ⟨c, d, h1, h2, rfl⟩ := words_get hm hx1
    intro s0 H0 C cl fp
    refine r_callTy call_int_str e.z_int (by decide +kernel) (ra_cons (r_ix (r_var 4 (r_int ⟨S_small (by simp), 48 + d, at1, ra_nil ⟨_, (d : Int), rfl, int_dig d (hm.lv d (List.mem_of_getElem? h2)), ?_, Same.refl _, ?_⟩⟩))))
    · show (1 : Nat) ≤ 640
      decide
    · rw [List.getElem?_map, MD.levI, List.getElem?_map, h2]
      rfl
  refine ra_nil ⟨D3, _, rfl, .inl ⟨SqL.of hd4, fun a ha => ra_nil ⟨_, _, rfl, ?_⟩⟩⟩
  have s5 := same_new (o := .tup (m.levI.map V.int)) ha
  refine rb_one (rs_ret (r_if (rt_bool (rw_and (rt_val (r_call (h_is_rising e) hr (ra_cons (r_var 2 (ra_nil (.inl ⟨m.cols, rfl, ?_, hm.asc, fun H6 s6 => ?_⟩))))))))))
  · have := hm.n6
    omega
  refine b_yes rfl (rw_and1 (rt_le (r_call (h_product_of e) hr (ra_cons (r_var 3 (ra_nil ⟨a, m.levI, rfl, ?_, ?_, r_gint e.i_MOST_CELLS (le_ii (b_yes ?_ ?_))⟩))))))
  · exact Same.t s6 (SqT.of upd_same)
  · intro n hn
    obtain ⟨d, hd, rfl⟩ := List.mem_map.mp hn
    have := hm.lv d hd
    omega
  · exact decide_eq_true hm.pr
  refine r_tup (ra_cons (r_var 2 (ra_cons (r_var 3 (ra_nil ⟨by show 2 ≤ sizeLine; decide, fun b hb => ?_⟩)))))
  exact k _ _ _ (((((s1.trans s2).trans s3).trans s4).trans s5).trans (s6.trans (same_new hb))) upd_same (same_new hb _ _ (s6 _ _ upd_same))
end
end My

set_option Elab.async false
set_option pp.maxSteps 1500
set_option linter.all false
set_option maxRecDepth 100000
set_option maxHeartbeats 4000000
/-! B5: models.py, lots and models read -/
namespace My
open PySem PySem.Spec PyProof.Rows L2 TL
def sp_is_set_of : Sp := fun vs H Q _ => ∃ cs v : List Nat, vs = [.str (S cs), .str (S v)] ∧ v.length ≤ 1000 ∧ Asc (· < ·) v ∧ (∀ c ∈ v, c ∈ cs) ∧ ∀ H', Same H H' → Q (.bl true) H'
def sp_read_lots (K : PySem.W.Frag) : Sp := fun vs H Q _ => ∃ m : MD, MOk m ∧ vs = [.str (S m.line1), .str (S m.cols)] ∧ ∀ p H', Same H H' → H' p = some (.tup (strsV m.lots)) → Q (.ref p) H'
theorem flat_strs (ls : List (List Nat)) : (strsV ls).all flatV = true := by
  rw [List.all_eq_true]
  intro x hx
  obtain ⟨y, _, rfl⟩ := List.mem_map.mp hx
  rfl
theorem inV_strs (l : List Nat) (ls : List (List Nat)) : inV (.str (S l)) (strsV ls) = decide (l ∈ ls) := by
  unfold inV
  rw [List.any_map, List.any_map]
  rw [Bool.eq_iff_iff, List.any_eq_true, decide_eq_true_eq]
  constructor
  · rintro ⟨x, hx, e⟩
    have e' : (S x == S l) = true := e
    rw [← S_inj (eq_of_beq e')]
    exact hx
  · intro h
    exact ⟨l, h, by show (S l == S l) = true; exact beq_self_eq_true _⟩
section
variable {P : Program} {w : World} {K : PySem.W.Frag} {mg : Str → Option Value} {base : Heap}
theorem sc_is_set_of : FnScope ["columns", "value"] ["columns", "value"] (defScope s_is_set_of) := ⟨rfl, rfl, rfl, by decide +kernel, rfl, by decide +kernel, by decide +kernel⟩
theorem h_is_set_of (e : EV w K mg base) : Has P w K mg base 2 "is_set_of" ["columns", "value"] (sp_is_set_of) := by
  refine mk_has (d := d_is_set_of) e.g_is_set_of e.f_is_set_of sc_is_set_of (fun _ _ _ _ _ _ us hl => match us, hl with | [_, _], _ => rfl) (fun vs H Q E h => by obtain ⟨_, _, rfl, _⟩ := h; rfl) (fun cdv A outer s H vs Q E hr h => ?_)
  obtain ⟨cs, v, rfl, h1, h2, h3, k⟩ := h
  refine rb_one (rs_ret (r_and (r_isT "str" e.z_isinstance e.z_str (by decide +kernel) (r_var 1 ⟨"str", true, .base (.str _), by decide +kernel, b_t (r_and (r_call (h_is_rising e) hr (ra_cons (r_var 1 (ra_nil (.inl ⟨v, rfl, h1, h2, fun H1 s1 => ?_⟩))))))⟩))))
  refine b_t (r_one (r_call (h_is_part e) hr (ra_cons (r_var 1 (ra_cons (r_var 0 (ra_nil ⟨v, cs, rfl, h1, fun H2 s2 => ?_⟩)))))))
  rw [show (v.all fun c => decide (c ∈ cs)) = true by rw [List.all_eq_true]; exact fun c hc => decide_eq_true (h3 c hc)]
  exact k _ (s1.trans s2)
theorem sc_read_lots : FnScope ["line", "columns", "lots", "lot", "mate"] ["line", "columns"] (defScope s_read_lots) := ⟨rfl, rfl, rfl, by decide +kernel, rfl, by decide +kernel, by decide +kernel⟩
theorem h_read_lots (e : EV w K mg base) : Has P w K mg base 3 "read_lots" ["line", "columns"] ((sp_read_lots K)) := by
  refine mk_has (d := d_read_lots) e.g_read_lots e.f_read_lots sc_read_lots (fun _ _ _ _ _ _ us hl => match us, hl with | [_, _], _ => rfl) (fun vs H Q E h => by obtain ⟨_, _, rfl, _⟩ := h; rfl) (fun cdv A outer s H vs Q E hr h => ?_)
  obtain ⟨m, hm, rfl, k⟩ := h
  have hk := hm.k10
  refine rb_cons (rs_set 2 sc_read_lots.nd (r_call (h_words_of e) hr (ra_cons (r_var 0 (ra_cons (r_str (ra_nil ⟨lotW, m.lots, ?_, lots_no hm, ?_, fun p H1 s1 hp => ?_⟩)))))))
  · rw [s_lot]; rfl
  · exact Nat.le_trans (lots_len hm) (by decide)
  refine rb_cons (rs_if (rt_bool (rw_or (rt_isN0 (r_var 2 ⟨rfl, ?_⟩)))))
  refine rw_or (rt_not (rt_chain oLe oLe (r_int (r_callB call_len_seq e.z_len boot_len (ra_cons (r_var 2 (ra_nil ⟨p, _, rfl, .inl (SqL.of hp), le_ii (b_yes ?_ (r_gint e.i_MOST_LOTS (le_ii (b_no ?_ ?_))))⟩)))))))
  · rw [decide_eq_true_eq]
    have := hm.k1
    simp only [List.length_map]
    omega
  · simp only [List.length_map]
    rw [Bool.not_eq_false', decide_eq_true_eq]
    omega
  refine rw_or1 (rt_not (rt_val (r_callB (cr_all rfl) e.z_all (by decide +kernel) (ra_cons (r_lc [("lot", 3)] sc_read_lots.nd (blkOk_by (N := ["line", "columns", "lots", "lot", "mate"]) (sc := defScope s_read_lots) (by decide +kernel)) (ri_list (r_var 2 ⟨p, rfl, ⟨_, SqL.of hp⟩, fun D hD => ?_⟩)))))))
  refine lc_n 3 walk_list hD (fun H' s => s.seq (SqL.of hp)) (fun i H x H' y => by rw [y.1]; exact Same.refl _) (List.replicate m.lots.length (.bl true)) (by simp) (by simp only [List.length_map]; exact Nat.lt_of_le_of_lt hk (by decide)) (fun i v H2 H3 hi s2 y => ?_) (fun H2 s2 hd => ?_) sc_read_lots.nd
  · obtain ⟨rfl, hx⟩ := y
    obtain ⟨x, hx1, rfl⟩ := strsV_get hx
    have hl := hm.lot x (List.mem_of_getElem? hx1)
    intro s0 H0 C cl fp
    refine r_call (h_is_set_of e) hr (ra_cons (r_var 1 (ra_cons (r_var 3 (ra_nil ⟨m.cols, x, rfl, Nat.le_trans hl.2.2.2 (by decide), hl.2.1, hl.2.2.1, fun H4 s4 => ⟨s4, ?_⟩⟩)))))
    simp only [List.length_map] at hi
    rw [List.getElem?_replicate, if_pos hi]
  refine ra_nil ⟨D, List.replicate m.lots.length true, rfl, SqL.of (by rw [hd, List.map_replicate]), ?_⟩
  rw [show ∀ n, (List.replicate n true).all id = true by simp]
  refine b_no rfl (rb_nil ?_)
  have hp2 := s2 _ _ hp
  refine rb_cons (rs_if (rt_bool (rw_or (rt_in (r_str (r_var 2 ⟨_, .inl (SqL.of hp2), rfl, flat_strs _, ?_⟩))))))
  rw [s_no, inV_strs]
  refine b_no (decide_eq_false fun q => (hm.lot _ q).1 rfl) ?_
  refine rw_or (rt_not (rt_val (r_call (h_is_rising e) hr (ra_cons (r_var 2 (ra_nil (.inr ⟨p, m.lots, rfl, SqL.of hp2, by omega, hm.lasc, fun H3 s3 => ?_⟩)))))))
  refine b_no rfl ?_
  have hp3 := s3 _ _ hp2
  refine rw_or1 (rt_not (rt_val (r_call (h_is_part e) hr (ra_cons (r_var 1 (ra_cons (r_join (r_str ⟨[], s_no ▸ rfl, ra_cons (r_var 2 (ra_nil ⟨p, m.lots, rfl, .inl (SqL.of hp3), ?_, ra_nil ⟨m.cols, m.lots.flatten, ?_, ?_, fun H4 s4 => ?_⟩⟩))⟩))))))))
  · have := sum_le fun l hl => (hm.lot l hl).2.2.2
    simp only [List.length_nil]
    omega
  · rw [joinL_nil]
  · have := hm.n6
    omega
  rw [show (m.cols.all fun c => decide (c ∈ m.lots.flatten)) = true by
    rw [List.all_eq_true]
    intro c hc
    obtain ⟨l, h1, h2⟩ := hm.cover c hc
    exact decide_eq_true (List.mem_flatten.mpr ⟨l, h1, h2⟩)]
  refine b_no rfl (rb_nil ?_)
  have hp4 := s4 _ _ hp3
  refine rb_cons (rs_if (rt_val (r_callB (cr_any rfl) e.z_any (by decide +kernel) (ra_cons (r_lc2 [("lot", 3), ("mate", 4)] [4] sc_read_lots.nd (blkOk_by (N := ["line", "columns", "lots", "lot", "mate"]) (sc := defScope s_read_lots) (own := [("lot", 3), ("mate", 4)]) (by decide +kernel)) (by decide) (ri_list (r_var 2 ⟨p, rfl, ⟨_, SqL.of hp4⟩, fun D2 hD2 => ?_⟩)))))))
  refine lc2_g 3 4 hD2 (SqL.of hp4) (SqL.of hp4) (fun i j => !decide (m.lots[i]? = m.lots[j]?)) (fun _ _ => V.bl false) ?_ (fun i x H5 hx s5 => ?_) (fun i j x y H5 hx hy s5 => ?_) (fun H5 s5 hd5 => ?_) sc_read_lots.nd
  · simp only [List.length_map]
    exact Nat.lt_of_le_of_lt (Nat.add_le_add (Nat.mul_le_mul hk hk) hk) (by decide)
  · intro s0 H0 C cl fp
    exact ri_list (r_var 2 ⟨p, rfl, ⟨_, SqL.of (s5 _ _ hp4)⟩, rfl, rfl⟩)
  · obtain ⟨a, ha, rfl⟩ := strsV_get hx
    obtain ⟨b, hb, rfl⟩ := strsV_get hy
    have la := hm.lot a (List.mem_of_getElem? ha)
    have lb := hm.lot b (List.mem_of_getElem? hb)
    intro s0 H0 C cl fp
    refine rts_one (rt_ne hr.units (r_var 3 (r_var 4 ⟨rfl, ?_, ?_⟩)))
    · rw [ha, hb]
      by_cases h : a = b
      · rw [h, decide_eq_true rfl, decide_eq_true rfl]
      · rw [decide_eq_false fun q => h (S_inj (V.str.inj q)), decide_eq_false fun q => h (Option.some.inj q)]
    by_cases h : a = b
    · rw [h, decide_eq_true rfl]
      exact Same.refl _
    rw [decide_eq_false fun q => h (S_inj (V.str.inj q))]
    refine iteT ?_
    intro s0 H0 C cl fp
    refine r_call (h_is_part e) hr (ra_cons (r_var 3 (ra_cons (r_var 4 (ra_nil ⟨a, b, rfl, Nat.le_trans la.2.2.2 (by decide), fun H6 s6 => ⟨s6, ?_⟩⟩)))))
    obtain ⟨c, h1, h2⟩ := hm.nopart a (List.mem_of_getElem? ha) b (List.mem_of_getElem? hb) h
    rw [Bool.eq_false_iff.mpr fun q => h2 (of_decide_eq_true (List.all_eq_true.mp q c h1))]
  refine ra_nil ⟨D2, (List.range (strsV m.lots).length).flatMap fun a => ((List.range (strsV m.lots).length).filter fun j => !decide (m.lots[a]? = m.lots[j]?)).map fun _ => false, rfl, SqL.of (by rw [hd5, List.map_flatMap]; simp only [List.map_map]; rfl), ?_⟩
  refine b_no (Bool.eq_false_iff.mpr fun q => ?_) (rb_nil ?_)
  · obtain ⟨x, h1, h2⟩ := List.any_eq_true.mp q
    obtain ⟨a, _, h3⟩ := List.mem_flatMap.mp h1
    obtain ⟨_, _, rfl⟩ := List.mem_map.mp h3
    cases h2
  have hp5 := s5 _ _ hp4
  refine rb_one (rs_ret (r_callTy call_tuple_of e.z_tuple (by decide +kernel) (ra_cons (r_var 2 (ra_nil ⟨p, _, rfl, .inl ⟨SqL.of hp5, fun a ha => ?_⟩⟩)))))
  exact k _ _ ((((s1.trans s2).trans s3).trans (s4.trans s5)).trans (same_new ha)) upd_same
end
end My

set_option Elab.async false
set_option pp.maxSteps 1500
set_option linter.all false
set_option maxRecDepth 100000
set_option maxHeartbeats 4000000
/-! B6: models.py, a model read and made -/
namespace My
open PySem PySem.Spec PyProof.Rows L2 TL
def sp_read_model (K : PySem.W.Frag) : Sp := fun vs H Q _ => ∃ m : MD, MOk m ∧ vs = [.str (S m.text)] ∧ ∀ t a b H', Same H H' → H' t = some (.tup [.str (S m.cols), .ref a, .ref b]) → H' a = some (.tup (m.levI.map V.int)) → H' b = some (.tup (strsV m.lots)) → Q (.ref t) H'
/-- all rows, as texts -/
def rowsOf : List Nat → List (List Nat)
  | ls => ls.foldl (fun rs n => rs.flatMap fun r => (List.range n).map fun d => r ++ [48 + d]) [[]]
def sp_all_rows (K : PySem.W.Frag) : Sp := fun vs H Q _ => ∃ (a : Addr) (ls : List Nat), vs = [.ref a] ∧ SqT K H a (ls.map fun d : Nat => V.int d) ∧ (∀ d ∈ ls, 2 ≤ d ∧ d ≤ 4) ∧ ls.length ≤ 6 ∧ ∀ p H', Same H H' → H' p = some (.lst (strsV (rowsOf ls))) → Q (.ref p) H'
theorem text_no {m : MD} (h : MOk m) : ∀ p ∈ [m.line0, m.line1], 10 ∉ p := by
  have key : ∀ (ls : List (List Nat)), (∀ l ∈ ls, 10 ∉ l) → 10 ∉ joinL [32] ls := by
    intro ls
    induction ls with
    | nil => intro _ h; cases h
    | cons p r ih =>
      intro hh
      cases r with
      | nil => exact hh p (List.mem_cons_self ..)
      | cons q r =>
        rw [joinL_cons _ _ (by simp)]
        intro hm
        rcases List.mem_append.mp hm with hm | hm
        · rcases List.mem_append.mp hm with hm | hm
          · exact hh p (List.mem_cons_self ..) hm
          · simp at hm
        · exact ih (fun l hl => hh l (List.mem_cons_of_mem _ hl)) hm
  intro p hp
  rcases List.mem_cons.mp hp with rfl | hp
  · refine key _ fun l hl => ?_
    rcases List.mem_cons.mp hl with rfl | hl
    · decide
    · obtain ⟨i, hi⟩ := List.mem_iff_getElem?.mp hl
      obtain ⟨c, d, h1, h2, rfl⟩ := words_get h hi
      have := h.letter c (List.mem_of_getElem? h1)
      have := h.lv d (List.mem_of_getElem? h2)
      simp
      omega
  · obtain rfl : p = m.line1 := by simpa using hp
    refine key _ fun l hl => ?_
    rcases List.mem_cons.mp hl with rfl | hl
    · decide
    · intro q
      have := h.letter 10 ((h.lot l hl).2.2.1 10 q)
      omega
theorem rows_len : ∀ (ls : List Nat), (∀ d ∈ ls, 2 ≤ d ∧ d ≤ 4) → (rowsOf ls).length ≤ 4 ^ ls.length := by
  have key : ∀ (ls : List Nat) (rs : List (List Nat)), (∀ d ∈ ls, 2 ≤ d ∧ d ≤ 4) → (ls.foldl (fun rs n => rs.flatMap fun r => (List.range n).map fun d => r ++ [48 + d]) rs).length ≤ rs.length * 4 ^ ls.length := by
    intro ls
    induction ls with
    | nil => intro rs _; simp
    | cons n ls ih =>
      intro rs h
      refine Nat.le_trans (ih _ fun d hd => h d (List.mem_cons_of_mem _ hd)) ?_
      have h1 : (rs.flatMap fun r => (List.range n).map fun d => r ++ [48 + d]).length ≤ rs.length * 4 := by
        have := (h n (List.mem_cons_self ..)).2
        induction rs with
        | nil => simp
        | cons r rs ih2 =>
          simp only [List.flatMap_cons, List.length_append, List.length_map, List.length_range, List.length_cons] at ih2 ⊢
          omega
      rw [List.length_cons, Nat.pow_succ, Nat.mul_comm (4 ^ ls.length) 4, ← Nat.mul_assoc]
      exact Nat.mul_le_mul_right _ h1
  intro ls h
  have := key ls [[]] h
  simpa [rowsOf] using this
theorem cut_dig (n : Nat) (h : n ≤ 10) : cutS ("0123456789" : Str) none (some (n : Int)) = S (List.range' 48 n) := by
  have : n = 0 ∨ n = 1 ∨ n = 2 ∨ n = 3 ∨ n = 4 ∨ n = 5 ∨ n = 6 ∨ n = 7 ∨ n = 8 ∨ n = 9 ∨ n = 10 := by omega
  rcases this with rfl | rfl | rfl | rfl | rfl | rfl | rfl | rfl | rfl | rfl | rfl <;> decide +kernel
theorem rows_mem_len : ∀ (ls : List Nat), ∀ r ∈ rowsOf ls, r.length = ls.length := by
  have key : ∀ (ls : List Nat) (rs : List (List Nat)) (k : Nat), (∀ r ∈ rs, r.length = k) → ∀ r ∈ ls.foldl (fun rs n => rs.flatMap fun r => (List.range n).map fun d => r ++ [48 + d]) rs, r.length = k + ls.length := by
    intro ls
    induction ls with
    | nil => intro rs k h; exact h
    | cons n ls ih =>
      intro rs k h r hr
      have := ih _ (k + 1) (fun r hr => by
        obtain ⟨q, h1, h2⟩ := List.mem_flatMap.mp hr
        obtain ⟨d, _, rfl⟩ := List.mem_map.mp h2
        rw [List.length_append, h q h1]
        rfl) r hr
      rw [this, List.length_cons]
      omega
  intro ls r hr
  have := key ls [[]] 0 (by simp) r hr
  omega
theorem range_flat {α β : Type} (l : List α) (d : α) (h : α → List β) : ((List.range l.length).flatMap fun a => h (l.getD a d)) = l.flatMap h := by
  have e : (List.range l.length).map (fun a => l.getD a d) = l := by
    refine List.ext_getElem (by simp) fun i h1 h2 => ?_
    simp [List.getElem?_eq_getElem h2]
  conv => rhs; rw [← e]
  rw [List.flatMap_map]
section
variable {P : Program} {w : World} {K : PySem.W.Frag} {mg : Str → Option Value} {base : Heap}
theorem sc_read_model : FnScope ["text", "lines", "told", "lots"] ["text"] (defScope s_read_model) := ⟨rfl, rfl, rfl, by decide +kernel, rfl, by decide +kernel, by decide +kernel⟩
theorem h_read_model (e : EV w K mg base) : Has P w K mg base 4 "read_model" ["text"] ((sp_read_model K)) := by
  refine mk_has (d := d_read_model) e.g_read_model e.f_read_model sc_read_model (fun _ _ _ _ _ _ us hl => match us, hl with | [_], _ => rfl) (fun vs H Q E h => by obtain ⟨_, _, rfl, _⟩ := h; rfl) (fun cdv A outer s H vs Q E hr h => ?_)
  obtain ⟨m, hm, rfl, k⟩ := h
  refine rb_cons (rs_if (rt_not (rt_val (r_isT "str" e.z_isinstance e.z_str (by decide +kernel) (r_var 0 ⟨"str", true, .base (.str _), by decide +kernel, b_no rfl (rb_nil ?_)⟩)))))
  refine rb_cons (rs_set 1 sc_read_model.nd (r_split (r_var 0 ⟨_, rfl, r_str ⟨10, [m.line0, m.line1], rfl, congrArg V.str s_nl, by simp, text_no hm, by decide, ?_, fun p hp => ?_⟩⟩)))
  · have h1 := joinL_len [10] (by simp) [m.line0, m.line1]
    have h2 := words_len hm
    have h3 := lots_len hm
    simp only [List.map_cons, List.map_nil, List.sum_cons, List.sum_nil, List.length_cons, List.length_nil] at h1
    omega
  have hl : SqL K (upd H p (.lst (strsV [m.line0, m.line1]))) p (strsV [m.line0, m.line1]) := SqL.of upd_same
  refine rb_cons (rs_set 2 sc_read_model.nd (r_call (h_read_columns e) hr (ra_cons (r_ix (r_var 1 (r_int ⟨_, V.str (S m.line0), .inl hl, at0, ra_nil ⟨m, hm, rfl, fun t a H1 s1 ht1 ha1 => ?_⟩⟩))))))
  have ht : SqT K H1 t [.str (S m.cols), .ref a] := SqT.of ht1
  refine rb_cons (rs_if (rt_bool (rw_or (rt_ne hr.units (r_callB call_len_seq e.z_len boot_len (ra_cons (r_var 1 (ra_nil ⟨p, _, rfl, .inl (s1.seq hl), r_int ⟨rfl, b_no rfl ?_⟩⟩))))))))
  refine rw_or1 (rt_isN0 (r_var 2 ⟨rfl, rb_nil ?_⟩))
  refine rb_cons (rs_set 3 sc_read_model.nd (r_call (h_read_lots e) hr (ra_cons (r_ix (r_var 1 (r_int ⟨_, V.str (S m.line1), .inl (s1.seq hl), at1, ra_cons (r_ix (r_var 2 (r_int ⟨_, V.str (S m.cols), .inr ht, at0, ra_nil ⟨m, hm, rfl, fun q H2 s2 hq => ?_⟩⟩)))⟩))))))
  refine rb_one (rs_ret (r_if (rt_isN0 (r_var 3 ⟨rfl, ?_⟩))))
  refine r_tup (ra_star (r_var 2 ⟨t, _, rfl, .inl (Same.t s2 ht), ra_cons (r_var 3 (ra_nil ⟨by show 3 ≤ sizeLine; decide, fun b hb => ?_⟩))⟩))
  have s3 := fun o => same_new (o := o) hb
  exact k _ _ _ _ ((same_new hp).trans (s1.trans (s2.trans (s3 _)))) upd_same (s3 _ _ _ (s2 _ _ ha1)) (s3 _ _ _ hq)
theorem sc_all_rows : FnScope ["levels", "rows", "number", "row", "digit"] ["levels"] (defScope s_all_rows) := ⟨rfl, rfl, rfl, by decide +kernel, rfl, by decide +kernel, by decide +kernel⟩
theorem h_all_rows (e : EV w K mg base) : Has P w K mg base 1 "all_rows" ["levels"] ((sp_all_rows K)) := by
  refine mk_has (d := d_all_rows) e.g_all_rows e.f_all_rows sc_all_rows (fun _ _ _ _ _ _ us hl => match us, hl with | [_], _ => rfl) (fun vs H Q E h => by obtain ⟨_, _, rfl, _⟩ := h; rfl) (fun cdv A outer s H vs Q E hr h => ?_)
  obtain ⟨a, ls, rfl, ha, h4, h6, k⟩ := h
  refine rb_cons (rs_set 1 sc_all_rows.nd (r_lst (ra_cons (r_str (ra_nil ⟨by show 1 ≤ sizeLine; decide, fun p hp => ?_⟩)))))
  have s0 := same_new (o := .lst [.str (S [])]) hp
  refine rb_cons (rs_for PassesOwn.never (ri_tup (r_var 0 ⟨a, rfl, ⟨_, Same.t s0 ha⟩, rfor_it walk_tup (fun i σ' H' => Same H H' ∧ ∃ q v, σ' = [some (.ref a), some (.ref q), v, none, none] ∧ H' q = some (.lst (strsV (rowsOf (ls.take i))))) ⟨s0, p, none, rfl, upd_same⟩ (fun i σ' H' _ p => Same.t p.1 ha) ?_ ?_⟩)))
  · rintro i x σ' H' H'' hi ⟨s1, q, v, rfl, hq⟩ ⟨rfl, hx⟩
    rw [List.getElem?_map] at hx
    cases hl : ls[i]? with
    | none => rw [hl] at hx; cases hx
    | some n =>
      rw [hl] at hx
      obtain rfl : V.int n = x := Option.some.inj hx
      have hb := h4 n (List.mem_of_getElem? hl)
      have hz : (rowsOf (ls.take i)).length ≤ 4096 := Nat.le_trans (rows_len _ fun d hd => h4 d (List.mem_of_mem_take hd)) (Nat.le_trans (Nat.pow_le_pow_right (by decide) (Nat.le_trans (List.length_take_le _ _) (by simp at hi; omega))) (show 4 ^ 6 ≤ 4096 by decide))
      refine rg_name 2 sc_all_rows.nd (rb_one (rs_lc2 1 [("row", 3), ("digit", 4)] [4] sc_all_rows.nd (blkOk_by (N := ["levels", "rows", "number", "row", "digit"]) (sc := defScope s_all_rows) (own := [("row", 3), ("digit", 4)]) (by decide +kernel)) (by decide) (by rfl) (ri_list (r_var 1 ⟨q, rfl, ⟨_, SqL.of hq⟩, fun D hD => ?_⟩))))
      refine lc2_w 3 4 hD (SqL.of hq) (fm2 n (fun _ _ => true) fun i' j => V.str (S ((rowsOf (ls.take i)).getD i' [] ++ [48 + j]))) rfl (fun i' x H1 hx s2 => ?_) (fun H1 s2 hd => ?_) sc_all_rows.nd
      · obtain ⟨r, hr, rfl⟩ := strsV_get hx
        intro s0 H0 C cl fp
        refine ri_str (r_slice sl_str (r_gstr e.t_DIGITS (ro_none (ro_some (r_var 2 ⟨n, rfl, _, rfl, by decide +kernel, _, rfl, ?_⟩)))))
        rw [cut_dig n (by omega)]
        have hi' := (List.getElem?_eq_some_iff.mp hx).1
        refine ⟨Same.refl _, _, _, _, walk_str, fun _ _ => trivial, fun j H x H' y => by rw [y.1]; exact Same.refl _, ?_, ?_, ?_⟩
        · rw [List.length_map, List.length_map] at hi'
          simp only [fm2, S, List.size_toArray, List.length_range', List.range_zero, List.filter_nil, List.map_nil, List.append_nil]
          rw [List.range_succ, List.flatMap_append]
          simp
        · intro j hj
          refine Nat.lt_of_le_of_lt (fm2_len (n1 := 4096) (Nat.le_of_lt (Nat.lt_of_lt_of_le (List.getElem?_eq_some_iff.mp hr).1 hz)) ?_) (Nat.lt_of_le_of_lt (Nat.add_le_add (Nat.mul_le_mul (Nat.le_refl _) hb.2) hb.2) (by decide))
          simpa [S] using hj
        · rintro j y H5 H6 hj s5 ⟨rfl, c, hc, rfl⟩
          have hc2 : c = 48 + j := by
            have : j < n := by simpa [S] using hj
            simp [S, this] at hc
            omega
          subst hc2
          intro s0 H0 C cl fp
          refine rts_nil (iteT ?_)
          intro s0 H0 C cl fp
          refine r_add (r_var 3 (r_var 4 ⟨?_, Same.refl _, ?_⟩))
          · have h7 := rows_mem_len _ _ (List.mem_of_getElem? hr)
            rw [List.length_take] at h7
            rw [S_length]
            exact small _ (by show r.length + 1 ≤ 100000; omega)
          · simp only [fm2]
            rw [List.range_succ, List.filter_append, List.map_append, ← List.append_assoc]
            have : (rowsOf (ls.take i)).getD i' [] = r := by
              rw [List.getD_eq_getElem?_getD, hr]
              rfl
            simp only [List.filter_cons, List.filter_nil, if_true, List.map_cons, List.map_nil, this]
            rw [S_sign, S_append]
      · refine ⟨s1.trans s2, D, _, rfl, ?_⟩
        rw [hd]
        have e1 : rowsOf (ls.take (i + 1)) = (rowsOf (ls.take i)).flatMap fun r => (List.range n).map fun d => r ++ [48 + d] := by
          unfold rowsOf
          rw [List.take_succ, hl, List.foldl_append]
          rfl
        rw [e1, ← range_flat (rowsOf (ls.take i)) []]
        simp only [strsV, List.map_flatMap, List.map_map, List.length_map]
        congr 2
        unfold fm2
        rw [List.range_zero, List.filter_nil, List.map_nil, List.append_nil]
        congr 1
        funext a
        rw [List.filter_eq_self.mpr (fun _ _ => rfl)]
        rfl
  · rintro σ' H' ⟨s1, q, v, rfl, hq⟩
    refine rb_one (rs_ret (r_var 1 ?_))
    rw [List.length_map, List.take_length] at hq
    exact k _ _ s1 hq
end
end My

set_option Elab.async false
set_option pp.maxSteps 1500
set_option linter.all false
set_option maxRecDepth 100000
set_option maxHeartbeats 4000000
/-! B7: models.py, the class -/
namespace My
open PySem PySem.Spec PyProof.Rows L2 TL
/-- a model made -/
structure ModAt (K : PySem.W.Frag) (H : Hy) (p : Addr) (m : MD) : Prop where
  ok : MOk m
  at_ : ∃ dx fs a b c, H p = some (.ins (He.ga K "Model") dx fs) ∧ fs.lookup ("text" : Str) = some (.str (S m.text)) ∧ fs.lookup ("columns" : Str) = some (.str (S m.cols)) ∧ fs.lookup ("levels" : Str) = some (.ref a) ∧ H a = some (.tup (m.levI.map V.int)) ∧
    fs.lookup ("lots" : Str) = some (.ref b) ∧ H b = some (.tup (strsV m.lots)) ∧ fs.lookup ("rows" : Str) = some (.ref c) ∧ H c = some (.tup (strsV (rowsOf m.lev)))
theorem ModAt.ext {K : PySem.W.Frag} {H H' : Hy} {p : Addr} {m : MD} (s : Same H H') (h : ModAt K H p m) : ModAt K H' p m := by
  obtain ⟨dx, fs, a, b, c, h1, h2, h3, h4, h5, h6, h7, h8, h9⟩ := h.at_
  exact ⟨h.ok, dx, fs, a, b, c, s _ _ h1, h2, h3, h4, s _ _ h5, h6, s _ _ h7, h8, s _ _ h9⟩
def sp_Model_init (K : PySem.W.Frag) : Sp := fun vs H Q _ => ∃ (m : MD) (x dx : Addr), MOk m ∧ vs = [.ref x, .str (S m.text)] ∧ H x = some (.ins (He.ga K "Model") dx []) ∧ ∀ H', Keep x H H' → ModAt K H' x m → Q .non H'
def sp_Model_eq (K : PySem.W.Frag) : Sp := fun vs H Q _ => ∃ (m : MD) (x y : Addr), vs = [.ref x, .ref y] ∧ ModAt K H x m ∧ ModAt K H y m ∧ Q (.bl true) H
def sp_check_model (K : PySem.W.Frag) : Sp := fun vs H Q _ => ∃ (m : MD) (x : Addr), vs = [.ref x] ∧ ModAt K H x m ∧ Q .non H
section
variable {P : Program} {w : World} {K : PySem.W.Frag} {mg : Str → Option Value} {base : Heap}
theorem sc_Model_init : FnScope ["self", "text", "told"] ["self", "text"] (defScope s_Model_init) := ⟨rfl, rfl, rfl, by decide +kernel, rfl, by decide +kernel, by decide +kernel⟩
theorem h_Model_init (e : EV w K mg base) : HasM P w K mg base 5 (He.fAd K d_Model_init.at_) ["self", "text"] (sp_Model_init K) := by
  refine mk_hasM (d := d_Model_init) e.f_Model_init sc_Model_init (fun _ _ _ _ _ _ us hl => match us, hl with | [_, _], _ => rfl) (fun vs H Q E h => by obtain ⟨_, _, _, _, rfl, _⟩ := h; rfl) (fun cdv A outer s H vs Q E hr h => ?_)
  obtain ⟨m, x, dx, hm, rfl, hx, k⟩ := h
  refine rb_cons (rs_set 2 sc_Model_init.nd (r_call (h_read_model e) hr (ra_cons (r_var 1 (ra_nil ⟨m, hm, rfl, fun t a b H1 s1 ht ha hb => ?_⟩)))))
  refine rb_cons (rs_if (rt_isN0 (r_var 2 ⟨rfl, rb_nil ?_⟩)))
  refine rb_cons (rs_fld (r_var 1 (r_var 0 ⟨x, _, dx, _, rfl, s1 _ _ hx, e.c_Model, e.n_Model_text, by decide, ?_⟩)))
  refine rb_cons (rs_asg (r_var 2 (rg_tup ⟨t, _, rfl, SqT.of (Keep.upd.tup (s1 _ _ hx) ht), rfl, rgs_cons (rg_attr (r_var 0 ⟨x, _, dx, _, rfl, upd_same, e.c_Model, e.n_Model_columns, (by show (1 : Nat) < 1000; decide), ?_⟩))⟩)))
  refine rgs_cons (rg_attr (r_var 0 ⟨x, _, dx, _, rfl, upd_same, e.c_Model, e.n_Model_levels, (by show (2 : Nat) < 1000; decide), ?_⟩))
  refine rgs_cons (rg_attr (r_var 0 ⟨x, _, dx, _, rfl, upd_same, e.c_Model, e.n_Model_lots, (by show (3 : Nat) < 1000; decide), rgs_nil ?_⟩))
  refine rb_one (rs_fld (r_callTy call_tuple_of e.z_tuple (by decide +kernel) (ra_cons (r_call (h_all_rows e) hr (ra_cons (r_fld (r_var 0 ⟨x, _, dx, _, _, rfl, upd_same, e.c_Model, e.n_Model_levels, rfl, ra_nil ⟨a, m.lev, rfl, SqT.of ?_, hm.lv, hm.ll ▸ hm.n6, fun q H2 s2 hq => ra_nil ⟨q, _, rfl, .inl ⟨SqL.of hq, fun c hc => ?_⟩⟩⟩⟩)))))))
  · rw [show (m.lev.map fun d : Nat => V.int d) = m.levI.map V.int by rw [MD.levI, List.map_map]; rfl]
    exact Keep.upd4.tup (s1 _ _ hx) ha
  refine r_var 0 ⟨x, _, dx, _, rfl, same_new hc _ _ (s2 _ _ upd_same), e.c_Model, e.n_Model_rows, (by show (4 : Nat) < 1000; decide), ?_⟩
  have k2 := fun (o1 o : HO) => (Keep.upd4.trans (Keep.of s2)).trans ((Keep.of (same_new (o := o1) hc)).trans (Keep.upd (x := x) (o := o)))
  refine k _ ((Keep.of s1).trans (k2 _ _)) ⟨hm, dx, _, a, b, c, upd_same, rfl, rfl, rfl, (k2 _ _).tup (s1 _ _ hx) ha, rfl, (k2 _ _).tup (s1 _ _ hx) hb, rfl, ?_⟩
  exact Keep.upd.tup (same_new hc _ _ (s2 _ _ upd_same)) upd_same
theorem sc_check_model : FnScope ["value"] ["value"] (defScope s_check_model) := ⟨rfl, rfl, rfl, by decide +kernel, rfl, by decide +kernel, by decide +kernel⟩
theorem h_check_model (e : EV w K mg base) : Has P w K mg base 1 "check_model" ["value"] (sp_check_model K) := by
  refine mk_has (d := d_check_model) e.g_check_model e.f_check_model sc_check_model (fun _ _ _ _ _ _ us hl => match us, hl with | [_], _ => rfl) (fun vs H Q E h => by obtain ⟨_, _, rfl, _⟩ := h; rfl) (fun cdv A outer s H vs Q E hr h => ?_)
  obtain ⟨m, x, rfl, hx, k⟩ := h
  obtain ⟨dx, fs, a, b, c, h1, _⟩ := hx.at_
  refine rb_one (rs_if (rt_not (rt_val (r_callB (C8.call_isC e.o_Model) e.z_isinstance (by decide +kernel) (ra_cons (r_var 0 (ra_cons (r_gref e.g_Model (ra_nil ⟨x, dx, fs, rfl, h1, b_no rfl (rb_nil k)⟩)))))))))
theorem sc_Model_eq : FnScope ["self", "other"] ["self", "other"] (defScope s_Model_eq) := ⟨rfl, rfl, rfl, by decide +kernel, rfl, by decide +kernel, by decide +kernel⟩
theorem h_Model_eq (e : EV w K mg base) : HasM P w K mg base 1 (He.fAd K d_Model_eq.at_) ["self", "other"] (sp_Model_eq K) := by
  refine mk_hasM (d := d_Model_eq) e.f_Model_eq sc_Model_eq (fun _ _ _ _ _ _ us hl => match us, hl with | [_, _], _ => rfl) (fun vs H Q E h => by obtain ⟨_, _, _, rfl, _⟩ := h; rfl) (fun cdv A outer s H vs Q E hr h => ?_)
  obtain ⟨m, x, y, rfl, hx, hy, k⟩ := h
  obtain ⟨dx, fs, _, _, _, h1, h2, _⟩ := hx.at_
  obtain ⟨dy, gs, _, _, _, h3, h4, _⟩ := hy.at_
  refine rb_one (rs_ret (r_and (r_callB (C8.call_isC e.o_Model) e.z_isinstance (by decide +kernel) (ra_cons (r_var 1 (ra_cons (r_gref e.g_Model (ra_nil ⟨y, dy, gs, rfl, h3, b_yes rfl ?_⟩))))))))
  refine r_one (r_eq hr.units (r_fld (r_var 0 ⟨x, _, dx, _, _, rfl, h1, e.c_Model, e.n_Model_text, h2, r_fld (r_var 1 ⟨y, _, dy, _, _, rfl, h3, e.c_Model, e.n_Model_text, h4, rfl, ?_⟩)⟩)))
  rw [decide_eq_true rfl]
  exact k
end
end My

set_option Elab.async false
set_option pp.maxSteps 1500
set_option linter.all false
set_option maxRecDepth 100000
set_option maxHeartbeats 4000000
/-! B8: models.py, rows and values on columns -/
namespace My
open PySem PySem.Spec PyProof.Rows L2 TL
structure RowOk (m : MD) (r : List Nat) : Prop where
  len : r.length = m.cols.length
  dig : ∀ (i c d : Nat), r[i]? = some c → m.lev[i]? = some d → 48 ≤ c ∧ c < 48 + d
/-- the values on columns -/
def pick (m : MD) (r cs : List Nat) : List Nat := cs.map fun c => r.getD (m.cols.idxOf c) 0
theorem pick_len (m : MD) (r cs : List Nat) : (pick m r cs).length = cs.length := by
  unfold pick
  rw [List.length_map]
def sp_places (K : PySem.W.Frag) : Sp := fun vs H Q _ => ∃ (m : MD) (p : Addr) (cs : List Nat), vs = [.ref p, .str (S cs)] ∧ ModAt K H p m ∧ (∀ c ∈ cs, c ∈ m.cols) ∧ cs.length ≤ 100 ∧ ∀ q H', Same H H' → H' q = some (.lst (cs.map fun c => V.int (m.cols.idxOf c : Nat))) → Q (.ref q) H'
def sp_values_on (K : PySem.W.Frag) : Sp := fun vs H Q _ => ∃ (m : MD) (p : Addr) (r cs : List Nat), vs = [.ref p, .str (S r), .str (S cs)] ∧ ModAt K H p m ∧ r.length = m.cols.length ∧ (∀ c ∈ cs, c ∈ m.cols) ∧ cs.length ≤ 100 ∧ ∀ H', Same H H' → Q (.str (S (pick m r cs))) H'
def sp_is_row (K : PySem.W.Frag) : Sp := fun vs H Q _ => ∃ (m : MD) (p : Addr) (r : List Nat), vs = [.ref p, .str (S r)] ∧ ModAt K H p m ∧ RowOk m r ∧ ∀ H', Same H H' → Q (.bl true) H'
def sp_check_row (K : PySem.W.Frag) : Sp := fun vs H Q _ => ∃ (m : MD) (p : Addr) (r : List Nat), vs = [.ref p, .str (S r)] ∧ ModAt K H p m ∧ RowOk m r ∧ ∀ H', Same H H' → Q .non H'
section
variable {P : Program} {w : World} {K : PySem.W.Frag} {mg : Str → Option Value} {base : Heap}
theorem sc_places : FnScope ["model", "columns", "column"] ["model", "columns"] (defScope s_places) := ⟨rfl, rfl, rfl, by decide +kernel, rfl, by decide +kernel, by decide +kernel⟩
theorem h_places (e : EV w K mg base) : Has P w K mg base 1 "places" ["model", "columns"] (sp_places K) := by
  refine mk_has (d := d_places) e.g_places e.f_places sc_places (fun _ _ _ _ _ _ us hl => match us, hl with | [_, _], _ => rfl) (fun vs H Q E h => by obtain ⟨_, _, _, rfl, _⟩ := h; rfl) (fun cdv A outer s H vs Q E hr h => ?_)
  obtain ⟨m, p, cs, rfl, hm, hc, hl, k⟩ := h
  obtain ⟨dx, fs, _, _, _, h1, h2, h3, _⟩ := hm.at_
  refine rb_one (rs_ret (r_lc [("column", 2)] sc_places.nd (blkOk_by (N := ["model", "columns", "column"]) (sc := defScope s_places) (by decide +kernel)) (ri_str (r_var 1 ⟨_, rfl, fun D hD => ?_⟩))))
  refine lc_n 2 walk_str hD (fun _ _ => trivial) (fun i H x H' y => by rw [y.1]; exact Same.refl _) (cs.map fun c => V.int (m.cols.idxOf c : Nat)) (by simp [S]) (Nat.lt_of_le_of_lt hl (by decide)) (fun i v H2 H3 hi s1 y => ?_) (fun H' s1 hd => k D H' s1 hd) sc_places.nd
  obtain ⟨rfl, c, hcc, rfl⟩ := y
  have hc' : cs[i]? = some c := by simpa [S] using hcc
  intro s0 H0 C cl fp
  refine r_sindex (r_fld (r_var 0 ⟨p, _, dx, _, _, rfl, s1 _ _ h1, e.c_Model, e.n_Model_columns, h3, m.cols, rfl, r_var 2 ⟨c, rfl, hc c (List.mem_of_getElem? hc'), Same.refl _, ?_⟩⟩))
  rw [List.getElem?_map, hc']
  rfl
theorem sc_values_on : FnScope ["model", "row", "columns", "place"] ["model", "row", "columns"] (defScope s_values_on) := ⟨rfl, rfl, rfl, by decide +kernel, rfl, by decide +kernel, by decide +kernel⟩
theorem h_values_on (e : EV w K mg base) : Has P w K mg base 2 "values_on" ["model", "row", "columns"] (sp_values_on K) := by
  refine mk_has (d := d_values_on) e.g_values_on e.f_values_on sc_values_on (fun _ _ _ _ _ _ us hl => match us, hl with | [_, _, _], _ => rfl) (fun vs H Q E h => by obtain ⟨_, _, _, _, rfl, _⟩ := h; rfl) (fun cdv A outer s H vs Q E hr h => ?_)
  obtain ⟨m, p, r, cs, rfl, hm, hr', hc, hl, k⟩ := h
  have h6 := hm.ok.n6
  refine rb_one (rs_ret (r_join (r_str ⟨[], s_no ▸ rfl, ra_cons (r_lc [("place", 3)] sc_values_on.nd (blkOk_by (N := ["model", "row", "columns", "place"]) (sc := defScope s_values_on) (by decide +kernel)) (ri_list (r_call (h_places e) hr (ra_cons (r_var 0 (ra_cons (r_var 2 (ra_nil ⟨m, p, cs, rfl, hm, hc, hl, fun q H1 s1 hq => ⟨q, rfl, ⟨_, SqL.of hq⟩, fun D hD => ?_⟩⟩))))))))⟩)))
  refine lc_n 3 walk_list hD (fun H' s => s.seq (SqL.of hq)) (fun i H x H' y => by rw [y.1]; exact Same.refl _) (strsV (cs.map fun c => [r.getD (m.cols.idxOf c) 0])) (by simp) (by rw [List.length_map]; exact Nat.lt_of_le_of_lt hl (by decide)) (fun i v H2 H3 hi s2 y => ?_) (fun H2 s2 hd => ?_) sc_values_on.nd
  · obtain ⟨rfl, hx⟩ := y
    rw [List.getElem?_map] at hx
    cases hcc : cs[i]? with
    | none => rw [hcc] at hx; cases hx
    | some c =>
      rw [hcc] at hx
      obtain rfl : V.int (m.cols.idxOf c : Nat) = v := Option.some.inj hx
      have hlt : m.cols.idxOf c < r.length := by
        rw [hr']
        exact List.idxOf_lt_length_of_mem (hc c (List.mem_of_getElem? hcc))
      intro s0 H0 C cl fp
      refine r_ix (r_var 1 (r_var 3 ⟨S_small (by omega), r.getD (m.cols.idxOf c) 0, atI_nat ?_, Same.refl _, ?_⟩))
      · rw [S_cps, List.getD_eq_getElem?_getD, List.getElem?_eq_getElem hlt]
        rfl
      · rw [List.getElem?_map, List.getElem?_map, List.getElem?_map, hcc]
        rfl
  refine ra_nil ⟨D, cs.map fun c => [r.getD (m.cols.idxOf c) 0], rfl, .inl (SqL.of hd), ?_, ?_⟩
  · rw [show (cs.map fun c => [r.getD (m.cols.idxOf c) 0]) = (pick m r cs).map fun c => [c] by unfold pick; rw [List.map_map]; rfl, sum_one, pick_len]
    simp only [List.length_nil, List.length_map, pick_len]
    omega
  rw [joinL_nil, show (cs.map fun c => [r.getD (m.cols.idxOf c) 0]) = (pick m r cs).map fun c => [c] by unfold pick; rw [List.map_map]; rfl, flat_one]
  exact k _ (s1.trans s2)
theorem sc_is_row : FnScope ["model", "value", "digit", "number"] ["model", "value"] (defScope s_is_row) := ⟨rfl, rfl, rfl, by decide +kernel, rfl, by decide +kernel, by decide +kernel⟩
theorem h_is_row (e : EV w K mg base) : Has P w K mg base 1 "is_row" ["model", "value"] (sp_is_row K) := by
  refine mk_has (d := d_is_row) e.g_is_row e.f_is_row sc_is_row (fun _ _ _ _ _ _ us hl => match us, hl with | [_, _], _ => rfl) (fun vs H Q E h => by obtain ⟨_, _, _, rfl, _⟩ := h; rfl) (fun cdv A outer s H vs Q E hr h => ?_)
  obtain ⟨m, p, r, rfl, hm, ho, k⟩ := h
  obtain ⟨dx, fs, a, _, _, h1, h2, h3, h4, h5, _⟩ := hm.at_
  have h6 := hm.ok.n6
  have hr6 := ho.len
  refine rb_cons (rs_if (rt_bool (rw_or (rt_not (rt_val (r_isT "str" e.z_isinstance e.z_str (by decide +kernel) (r_var 1 ⟨"str", true, .base (.str _), by decide +kernel, b_no rfl ?_⟩)))))))
  refine rw_or1 (rt_ne hr.units (r_callB call_len_str e.z_len boot_len (ra_cons (r_var 1 (ra_nil ⟨_, rfl, S_small (by omega), r_callB call_len_str e.z_len boot_len (ra_cons (r_fld (r_var 0 ⟨p, _, dx, _, _, rfl, h1, e.c_Model, e.n_Model_columns, h3, ra_nil ⟨_, rfl, S_small (by omega), rfl, b_no ?_ (rb_nil ?_)⟩⟩)))⟩)))))
  · rw [S_length, S_length, ho.len, decide_eq_true rfl]
    rfl
  refine rb_one (rs_ret (r_callB (cr_all rfl) e.z_all (by decide +kernel) (ra_cons (r_lc [("digit", 2), ("number", 3)] sc_is_row.nd (blkOk_by (N := ["model", "value", "digit", "number"]) (sc := defScope s_is_row) (by decide +kernel)) (ri_zip e.z_zip (ra_cons (r_var 1 (ra_cons (r_fld (r_var 0 ⟨p, _, dx, _, _, rfl, h1, e.c_Model, e.n_Model_levels, h4, ra_nil ⟨_, _, _, _, rfl, srcV_text, srcV_tup (.inl h5), fun u1 u2 D hD => ?_⟩⟩))))))))))
  refine lc_f (walk_Z _ _) hD (fun H' s1 => ⟨trivial, .inl (s1 _ _ h5)⟩) (fun i H x H' y => ?_) (fun i => List.replicate i (V.bl true)) rfl (fun i hi => ?_) (fun i x H2 H3 hi s1 hd y => ?_) (fun H' s1 hd => ?_)
  · obtain ⟨T, _, _, _, hT, rfl, _⟩ := y
    exact same_new hT
  · rw [List.length_replicate]
    have : i ≤ r.length := Nat.le_trans hi (Nat.min_le_left _ _)
    exact Nat.lt_of_le_of_lt (Nat.le_trans this (by omega)) (show 6 < sizeLine by decide)
  · obtain ⟨T, _, y, rfl, hT, rfl, ⟨c, hcc, rfl⟩, hd2⟩ := y
    replace hd2 : (m.levI.map V.int)[i]? = some y := hd2
    have hc' : r[i]? = some c := by simpa [S] using hcc
    rw [MD.levI, List.map_map, List.getElem?_map] at hd2
    cases hq : m.lev[i]? with
    | none => rw [hq] at hd2; cases hd2
    | some d =>
      rw [hq] at hd2
      obtain rfl : V.int d = y := Option.some.inj hd2
      have hb := ho.dig i c d hc' hq
      have hlv := hm.ok.lv d (List.mem_of_getElem? hq)
      intro s0 H0 C cl fp
      refine rg_tup ⟨T, _, rfl, SqT.of upd_same, rfl, rgs_cons (rg_name 2 sc_is_row.nd (rgs_cons (rg_name 3 sc_is_row.nd (rgs_nil ⟨rfl, ?_⟩))))⟩
      intro s0 H0 C cl fp
      refine rts_nil (iteT ?_)
      intro s0 H0 C cl fp
      refine r_in (r_var 2 (r_slice sl_str (r_gstr e.t_DIGITS (ro_none (ro_some (r_var 3 ⟨d, rfl, _, rfl, by decide +kernel, ?_⟩))))))
      rw [cut_dig d (by omega)]
      refine ⟨c, rfl, same_new hT, ?_⟩
      rw [S_cps, decide_eq_true (List.mem_range'_1.mpr hb), List.replicate_succ']
  · refine ra_nil ⟨D, List.replicate _ true, rfl, SqL.of (by rw [hd, List.map_replicate]), ?_⟩
    rw [show ∀ n, (List.replicate n true).all id = true by simp]
    exact k H' s1
theorem sc_check_row : FnScope ["model", "value"] ["model", "value"] (defScope s_check_row) := ⟨rfl, rfl, rfl, by decide +kernel, rfl, by decide +kernel, by decide +kernel⟩
theorem h_check_row (e : EV w K mg base) : Has P w K mg base 2 "check_row" ["model", "value"] (sp_check_row K) := by
  refine mk_has (d := d_check_row) e.g_check_row e.f_check_row sc_check_row (fun _ _ _ _ _ _ us hl => match us, hl with | [_, _], _ => rfl) (fun vs H Q E h => by obtain ⟨_, _, _, rfl, _⟩ := h; rfl) (fun cdv A outer s H vs Q E hr h => ?_)
  obtain ⟨m, p, r, rfl, hm, ho, k⟩ := h
  exact rb_one (rs_if (rt_not (rt_val (r_call (h_is_row e) hr (ra_cons (r_var 0 (ra_cons (r_var 1 (ra_nil ⟨m, p, r, rfl, hm, ho, fun H' s => b_no rfl (rb_nil (k H' s))⟩)))))))))
end
end My

set_option Elab.async false
set_option pp.maxSteps 1500
set_option linter.all false
set_option maxRecDepth 100000
set_option maxHeartbeats 4000000
/-! C1: webs.py, sets -/
namespace My
open PySem PySem.Spec PyProof.Rows L2 TL
def both (a b : List Nat) : List Nat := a.filter fun c => decide (c ∈ b)
def inAll (a b : List Nat) : Bool := a.all fun c => decide (c ∈ b)
/-- whether a mate holds all columns of a lot that other lots have -/
def earB (lot mate : List Nat) (left : List (List Nat)) : Bool := inAll (both lot (left.filter fun o => !decide (o = lot)).flatten) mate
def sp_shared (K : PySem.W.Frag) : Sp := fun vs H Q _ => ∃ a b : List Nat, vs = [.str (S a), .str (S b)] ∧ a.length ≤ 1000 ∧ ∀ H', Same H H' → Q (.str (S (both a b))) H'
def sp_within (K : PySem.W.Frag) : Sp := fun vs H Q _ => ∃ a b : List Nat, vs = [.str (S a), .str (S b)] ∧ a.length ≤ 1000 ∧ ∀ H', Same H H' → Q (.bl (inAll a b)) H'
def sp_is_ear (K : PySem.W.Frag) : Sp := fun vs H Q _ => ∃ (a b : List Nat) (p : Addr) (ls : List (List Nat)), vs = [.str (S a), .str (S b), .ref p] ∧ H p = some (.lst (strsV ls)) ∧ a.length ≤ 6 ∧ (∀ l ∈ ls, l.length ≤ 6) ∧ ls.length ≤ 10 ∧ ∀ H', Same H H' → Q (.bl (earB a b ls)) H'
theorem filter_range {α : Type} (l : List α) (d : α) (p : α → Bool) : ((List.range l.length).filter fun i => p (l.getD i d)).map (fun i => l.getD i d) = l.filter p := by
  have e : (List.range l.length).map (fun a => l.getD a d) = l := by
    refine List.ext_getElem (by simp) fun i h1 h2 => ?_
    simp [List.getElem?_eq_getElem h2]
  conv => rhs; rw [← e]
  rw [List.filter_map]
  rfl
theorem getD_of {α : Type} {l : List α} {i : Nat} {x d : α} (h : l[i]? = some x) : l.getD i d = x := by
  rw [List.getD_eq_getElem?_getD, h]
  rfl
section
variable {P : Program} {w : World} {K : PySem.W.Frag} {mg : Str → Option Value} {base : Heap}
theorem sc_shared : FnScope ["one", "other", "column"] ["one", "other"] (defScope s_shared) := ⟨rfl, rfl, rfl, by decide +kernel, rfl, by decide +kernel, by decide +kernel⟩
theorem h_shared (e : EV w K mg base) : Has P w K mg base 1 "shared" ["one", "other"] (sp_shared K) := by
  refine mk_has (d := d_shared) e.g_shared e.f_shared sc_shared (fun _ _ _ _ _ _ us hl => match us, hl with | [_, _], _ => rfl) (fun vs H Q E h => by obtain ⟨_, _, rfl, _⟩ := h; rfl) (fun cdv A outer s H vs Q E hr h => ?_)
  obtain ⟨a, b, rfl, h1, k⟩ := h
  refine rb_one (rs_ret (r_join (r_str ⟨[], s_no ▸ rfl, ra_cons (r_lc [("column", 2)] sc_shared.nd (blkOk_by (N := ["one", "other", "column"]) (sc := defScope s_shared) (by decide +kernel)) (ri_str (r_var 0 ⟨_, rfl, fun D hD => ?_⟩)))⟩)))
  refine lc_p 2 walk_str hD (fun _ _ => trivial) (fun i H x H' y => by rw [y.1]; exact Same.refl _) (fun i => decide (a.getD i 0 ∈ b)) (fun i => .str (S [a.getD i 0])) (Nat.lt_of_le_of_lt h1 (by decide)) (fun i v H2 H3 hi s1 y => ?_) (fun H' s1 hd => ?_) sc_shared.nd
  · obtain ⟨rfl, c, hcc, rfl⟩ := y
    have hc' : a[i]? = some c := by simpa [S] using hcc
    intro s0 H0 C cl fp
    refine rts_one (rt_in (r_var 2 (r_var 1 ⟨c, rfl, ?_, ?_⟩)))
    · rw [getD_of hc']
      rfl
    cases decide (c ∈ (S b).cps.toList) with
    | false => exact Same.refl _
    | true =>
      refine iteT ?_
      intro s0 H0 C cl fp
      refine r_var 2 ⟨Same.refl _, ?_⟩
      rw [getD_of hc']
      rfl
  have e1 : ((List.range (S a).cps.size).filter fun i => decide (a.getD i 0 ∈ b)).map (fun i => V.str (S [a.getD i 0])) = strsV ((both a b).map fun c => [c]) := by
    unfold both
    rw [← filter_range a 0 fun c => decide (c ∈ b), strsV, List.map_map, List.map_map, List.map_map]
    rfl
  rw [e1] at hd
  refine ra_nil ⟨D, (both a b).map fun c => [c], rfl, .inl (SqL.of hd), ?_, ?_⟩
  · rw [sum_one]
    have : (both a b).length ≤ a.length := List.length_filter_le _ _
    simp only [List.length_nil]
    omega
  rw [joinL_nil, flat_one]
  exact k _ s1
theorem sc_within : FnScope ["small", "great", "column"] ["small", "great"] (defScope s_within) := ⟨rfl, rfl, rfl, by decide +kernel, rfl, by decide +kernel, by decide +kernel⟩
theorem h_within (e : EV w K mg base) : Has P w K mg base 1 "within" ["small", "great"] (sp_within K) := by
  refine mk_has (d := d_within) e.g_within e.f_within sc_within (fun _ _ _ _ _ _ us hl => match us, hl with | [_, _], _ => rfl) (fun vs H Q E h => by obtain ⟨_, _, rfl, _⟩ := h; rfl) (fun cdv A outer s H vs Q E hr h => ?_)
  obtain ⟨a, b, rfl, h1, k⟩ := h
  refine rb_one (rs_ret (r_callB (cr_all rfl) e.z_all (by decide +kernel) (ra_cons (r_lc [("column", 2)] sc_within.nd (blkOk_by (N := ["small", "great", "column"]) (sc := defScope s_within) (by decide +kernel)) ?_))))
  refine ri_str (r_var 0 ⟨_, rfl, fun D hD => ?_⟩)
  refine lc_n 2 walk_str hD (fun _ _ => trivial) (fun i H x H' y => by rw [y.1]; exact Same.refl _) ((a.map fun c => decide (c ∈ b)).map V.bl) (by simp [S]) (Nat.lt_of_le_of_lt h1 (by decide)) (fun i v H2 H3 hi s1 y => ?_) (fun H' s1 hd => ?_) sc_within.nd
  · obtain ⟨rfl, c, hc, rfl⟩ := y
    intro s0 H0 C cl fp
    refine r_in (r_var 2 (r_var 1 ⟨c, rfl, Same.refl _, ?_⟩))
    have hc' : a[i]? = some c := by simpa [S] using hc
    rw [List.getElem?_map, List.getElem?_map, hc']
    rfl
  · refine ra_nil ⟨D, _, rfl, SqL.of hd, ?_⟩
    rw [show (a.map fun c => decide (c ∈ b)).all id = inAll a b by rw [List.all_map]; rfl]
    exact k H' s1
theorem sc_is_ear : FnScope ["lot", "mate", "left", "others", "other"] ["lot", "mate", "left"] (defScope s_is_ear) := ⟨rfl, rfl, rfl, by decide +kernel, rfl, by decide +kernel, by decide +kernel⟩
theorem h_is_ear (e : EV w K mg base) : Has P w K mg base 2 "is_ear" ["lot", "mate", "left"] (sp_is_ear K) := by
  refine mk_has (d := d_is_ear) e.g_is_ear e.f_is_ear sc_is_ear (fun _ _ _ _ _ _ us hl => match us, hl with | [_, _, _], _ => rfl) (fun vs H Q E h => by obtain ⟨_, _, _, _, rfl, _⟩ := h; rfl) (fun cdv A outer s H vs Q E hr h => ?_)
  obtain ⟨a, b, p, ls, rfl, hp, ha, hl, hn, k⟩ := h
  refine rb_cons (rs_set 3 sc_is_ear.nd (r_join (r_str ⟨[], s_no ▸ rfl, ra_cons (r_lc [("other", 4)] sc_is_ear.nd (blkOk_by (N := ["lot", "mate", "left", "others", "other"]) (sc := defScope s_is_ear) (by decide +kernel)) (ri_list (r_var 2 ⟨p, rfl, ⟨_, SqL.of hp⟩, fun D hD => ?_⟩)))⟩)))
  refine lc_p 4 walk_list hD (fun H' s => s.seq (SqL.of hp)) (fun i H x H' y => by rw [y.1]; exact Same.refl _) (fun i => !decide (ls.getD i [] = a)) (fun i => .str (S (ls.getD i []))) (by rw [List.length_map, List.length_map]; exact Nat.lt_of_le_of_lt hn (by decide)) (fun i v H2 H3 hi s1 y => ?_) (fun H1 s1 hd => ?_) sc_is_ear.nd
  · obtain ⟨rfl, hx⟩ := y
    obtain ⟨l, hx1, rfl⟩ := strsV_get hx
    have hq : decide (V.str (S l) = V.str (S a)) = decide (l = a) := by
      by_cases h : l = a
      · rw [h, decide_eq_true rfl, decide_eq_true rfl]
      · rw [decide_eq_false h, decide_eq_false fun q => h (S_inj (V.str.inj q))]
    intro s0 H0 C cl fp
    refine rts_one (rt_ne hr.units (r_var 4 (r_var 0 ⟨rfl, ?_, ?_⟩)))
    · rw [getD_of hx1, hq]
    cases decide (V.str (S l) = V.str (S a)) with
    | true => exact Same.refl _
    | false =>
      refine iteT ?_
      intro s0 H0 C cl fp
      refine r_var 4 ⟨Same.refl _, ?_⟩
      rw [getD_of hx1]
  have e1 : ((List.range (strsV ls).length).filter fun i => !decide (ls.getD i [] = a)).map (fun i => V.str (S (ls.getD i []))) = strsV (ls.filter fun o => !decide (o = a)) := by
    rw [← filter_range ls [] fun o => !decide (o = a)]
    simp only [strsV, List.map_map, List.length_map]
    rfl
  rw [e1] at hd
  refine ra_nil ⟨D, _, rfl, .inl (SqL.of hd), ?_, ?_⟩
  · have h3 := sum_le (ls := ls.filter fun o => !decide (o = a)) fun l h => hl l (List.mem_filter.mp h).1
    have : (ls.filter fun o => !decide (o = a)).length ≤ ls.length := List.length_filter_le _ _
    simp only [List.length_nil]
    omega
  rw [joinL_nil]
  refine rb_one (rs_ret (r_call (h_within e) hr (ra_cons (r_call (h_shared e) hr (ra_cons (r_var 0 (ra_cons (r_var 3 (ra_nil ⟨a, _, rfl, by omega, fun H2 s2 => ra_cons (r_var 1 (ra_nil ⟨_, b, rfl, ?_, fun H3 s3 => k _ (s1.trans (s2.trans s3))⟩))⟩)))))))))
  have : (both a (ls.filter fun o => !decide (o = a)).flatten).length ≤ a.length := List.length_filter_le _ _
  omega
end
end My

set_option Elab.async false
set_option pp.maxSteps 1500
set_option linter.all false
set_option maxRecDepth 100000
set_option maxHeartbeats 4000000
/-! C2: webs.py, ears and orders -/
namespace My
open PySem PySem.Spec PyProof.Rows L2 TL
abbrev Pr := List Nat × List Nat
def pairsOf (ls : List (List Nat)) : List Pr := ls.flatMap fun a => (ls.filter fun b => !decide (a = b) && earB a b ls).map fun b => (a, b)
/-- the lots taken away with their parents, and the last one -/
def earsF : Nat → List (List Nat) → Option (List Pr × List Nat)
  | 0, _ => none
  | n + 1, ls => if 1 < ls.length then match (pairsOf ls).head? with
      | none => none
      | some p => (earsF n (ls.filter fun o => !decide (o = p.1))).map fun r => (p :: r.1, r.2)
    else ls.head?.map fun z => ([], z)
def gPr (p : Pr) : List V := [.str (S p.1), .str (S p.2)]
structure LotsOk (ls : List (List Nat)) : Prop where
  six : ∀ l ∈ ls, l.length ≤ 6
  ten : ls.length ≤ 10
def sp_ears_of (K : PySem.W.Frag) : Sp := fun vs H Q _ => ∃ (p : Addr) (ls : List (List Nat)) (n : Nat) (fs : List Pr) (z : List Nat), vs = [.ref p] ∧ SqT K H p (strsV ls) ∧ LotsOk ls ∧ earsF n ls = some (fs, z) ∧ fs.length ≤ 10 ∧
  ∀ q H' us tz, Same H H' → H' q = some (.lst (us ++ [.ref tz])) → Tu gPr H' us fs → H' tz = some (.tup [.str (S z), .non]) → Q (.ref q) H'
theorem pairs_range (ls : List (List Nat)) : fmg ls.length (fun i j => !decide (ls.getD i [] = ls.getD j []) && earB (ls.getD i []) (ls.getD j []) ls) (fun i j => (ls.getD i [], ls.getD j [])) ls.length 0 = pairsOf ls := by
  rw [fmg_end]
  unfold pairsOf
  rw [← range_flat ls []]
  congr 1
  funext a
  rw [← filter_range ls [] fun b => !decide (ls.getD a [] = b) && earB (ls.getD a []) b ls, List.map_map]
  rfl
def earW (H : Hy) (p : Addr) (n : Nat) (fs : List Pr) (z : List Nat) : Nat → L2.St → Hy → Prop := fun m σ' H' => ∃ (c : List (List Nat)) (l f : Addr) (us : List V) (g1 g2 : List Pr) (v : Option V), m = n - g1.length ∧ g1.length ≤ n ∧ fs = g1 ++ g2 ∧ earsF (n - g1.length) c = some (g2, z) ∧ LotsOk c ∧ σ' = [some (.ref p), some (.ref l), some (.ref f), v, none, none] ∧
    Same H H' ∧ H' l = some (.lst (strsV c)) ∧ H' f = some (.lst us) ∧ Tu gPr H' us g1 ∧ H f = none ∧ l ≠ f
theorem ears_step {k : Nat} {c : List (List Nat)} {g : List Pr} {z : List Nat} (h : earsF k c = some (g, z)) (hl : 1 < c.length) : ∃ q g3 k', g = q :: g3 ∧ (pairsOf c).head? = some q ∧ k = k' + 1 ∧ earsF k' (c.filter fun o => !decide (o = q.1)) = some (g3, z) := by
  cases k with
  | zero => cases h
  | succ k =>
    rw [earsF, if_pos hl] at h
    cases hq : (pairsOf c).head? with
    | none => rw [hq] at h; cases h
    | some q =>
      rw [hq] at h
      cases hr : earsF k (c.filter fun o => !decide (o = q.1)) with
      | none =>
        simp only [hr] at h
        cases h
      | some r =>
        simp only [hr] at h
        obtain ⟨g3, z3⟩ := r
        cases h
        exact ⟨q, g3, k, rfl, rfl, rfl, hr⟩
theorem ears_end {k : Nat} {c : List (List Nat)} {g : List Pr} {z : List Nat} (h : earsF k c = some (g, z)) (hl : ¬ 1 < c.length) : g = [] ∧ c[0]? = some z := by
  cases k with
  | zero => cases h
  | succ k =>
    rw [earsF, if_neg hl] at h
    cases c with
    | nil => cases h
    | cons a r =>
      cases h
      exact ⟨rfl, rfl⟩
section
variable {P : Program} {w : World} {K : PySem.W.Frag} {mg : Str → Option Value} {base : Heap}
theorem sc_ears_of : FnScope ["lots", "left", "found", "pairs", "lot", "mate"] ["lots"] (defScope s_ears_of) := ⟨rfl, rfl, rfl, by decide +kernel, rfl, by decide +kernel, by decide +kernel⟩
theorem h_ears_of (e : EV w K mg base) : Has P w K mg base 3 "ears_of" ["lots"] (sp_ears_of K) := by
  refine mk_has (d := d_ears_of) e.g_ears_of e.f_ears_of sc_ears_of (fun _ _ _ _ _ _ us hl => match us, hl with | [_], _ => rfl) (fun vs H Q E h => by obtain ⟨_, _, _, _, _, rfl, _⟩ := h; rfl) (fun cdv A outer s H vs Q E hr h => ?_)
  obtain ⟨p, ls, n, fs, z, rfl, hp, hl, hn, hf, k⟩ := h
  refine rb_cons (rs_asg (r_tup (ra_cons (r_callTy call_list_of e.z_list (by decide +kernel) (ra_cons (r_var 0 (ra_nil ⟨p, _, rfl, .inr hp, fun l hl0 => ra_cons (r_lst (ra_nil ⟨by show 0 ≤ sizeLine; decide, fun f hf0 => ra_nil ⟨by show 2 ≤ sizeLine; decide, fun t ht0 => rg_tup ⟨t, _, rfl, SqT.of upd_same, rfl, rgs_cons (rg_name 1 sc_ears_of.nd (rgs_cons (rg_name 2 sc_ears_of.nd (rgs_nil ?_))))⟩⟩⟩))⟩)))))))
  have hlf : l ≠ f := fun e => by rw [e, ← e, upd_same] at hf0; cases hf0
  have s0 : ∀ o : HO, Same _ _ := fun o => same_new (o := o) ht0
  refine rb_cons (rs_while PassesOwn.never ⟨earW H p n fs z, ⟨_, ls, l, f, [], [], fs, none, rfl, Nat.zero_le _, rfl, hn, hl, rfl, ?_, ?_, s0 _ _ _ upd_same, Tu.nil, ?_⟩, ?_⟩)
  · exact ((same_new hl0).trans (same_new hf0)).trans (s0 _)
  · refine s0 _ _ _ ?_
    rw [upd_ne hlf]
    exact upd_same
  · rw [upd_ne (Ne.symm hlf)] at hf0
    exact ⟨hf0, hlf⟩
  rintro m σ' H1 ⟨c, l, f, us, g1, g2, v, rfl, h1, rfl, h2, h3, rfl, s1, hc, hfu, ht, hfn, hlf⟩
  refine rt_gt (r_callB call_len_seq e.z_len boot_len (ra_cons (r_var 1 (ra_nil ⟨l, _, rfl, .inl (SqL.of hc), r_int (gt_ii ?_)⟩))))
  simp only [List.length_map]
  have hus := ht.length
  rw [List.length_append] at hf
  refine b_d (fun hlt => ?_) (fun hlt => ?_)
  · have hlt' : 1 < c.length := by omega
    obtain ⟨q, g3, k', rfl, hq, hk', hk⟩ := ears_step h2 hlt'
    have h10 := h3.ten
    refine ⟨fun σ' H' => ∃ m', m' < n - g1.length ∧ earW H p n (g1 ++ q :: g3) z m' σ' H', fun _ _ h => h, ?_⟩
    refine rb_cons (rs_set 3 sc_ears_of.nd (r_lc2 [("lot", 4), ("mate", 5)] [5] sc_ears_of.nd (blkOk_by (N := ["lots", "left", "found", "pairs", "lot", "mate"]) (sc := defScope s_ears_of) (own := [("lot", 4), ("mate", 5)]) (by decide +kernel)) (by decide) (ri_list (r_var 1 ⟨l, rfl, ⟨_, SqL.of hc⟩, fun D hD => ?_⟩))))
    refine lc2_r 4 5 hD (SqL.of hc) (SqL.of hc) (fun i j vs H' => Tu gPr H' vs (fmg c.length (fun i j => !decide (c.getD i [] = c.getD j []) && earB (c.getD i []) (c.getD j []) c) (fun i j => (c.getD i [], c.getD j [])) i j)) Tu.nil (fun i vs H' hi r => ?_) (fun i j vs H' hi hj r => ?_) (fun i j vs H' H'' hD kp r => r.keep kp hD) (fun i x H' hx s2 => ?_) (fun i j x y vs H' hx hy s2 hd r => ?_) (fun H2 vs s2 hd r => ?_) sc_ears_of.nd
    · rw [fmg_row]
      simpa using r
    · rw [r.length]
      simp only [List.length_map] at hi hj
      exact Nat.lt_of_le_of_lt (fmg_len hi hj) (Nat.lt_of_le_of_lt (Nat.add_le_add (Nat.mul_le_mul h10 h10) h10) (by decide))
    · intro s0 H0 C cl fp
      exact ri_list (r_var 1 ⟨l, rfl, ⟨_, SqL.of (s2 _ _ hc)⟩, rfl, rfl⟩)
    · obtain ⟨a, ha, rfl⟩ := strsV_get hx
      obtain ⟨b, hb, rfl⟩ := strsV_get hy
      intro s0 H0 C cl fp
      refine rts_one (rt_bool (rw_and (rt_ne hr.units (r_var 4 (r_var 5 ⟨rfl, ?_⟩)))))
      by_cases hab : a = b
      · refine b_no (b := !decide (V.str (S a) = V.str (S b))) (by rw [hab, decide_eq_true rfl]; rfl) ⟨Same.refl _, ?_⟩
        rw [fmg_out (by rw [getD_of ha, getD_of hb, hab, decide_eq_true rfl]; rfl)]
        exact r
      refine b_yes (b := !decide (V.str (S a) = V.str (S b))) (by rw [decide_eq_false fun q => hab (S_inj (V.str.inj q))]; rfl) ?_
      refine rw_and1 (rt_val (r_call (h_is_ear e) hr (ra_cons (r_var 4 (ra_cons (r_var 5 (ra_cons (r_var 1 (ra_nil ⟨a, b, l, c, rfl, s2 _ _ hc, h3.six a (List.mem_of_getElem? ha), h3.six, h10, fun H3 s3 => ?_⟩)))))))))
      have hP : (!decide (c.getD i [] = c.getD j []) && earB (c.getD i []) (c.getD j []) c) = earB a b c := by
        rw [getD_of ha, getD_of hb, decide_eq_false hab]
        rfl
      cases hear : earB a b c with
      | false =>
        refine ⟨s3, ?_⟩
        rw [fmg_out (by rw [hP, hear])]
        exact r.ext s3
      | true =>
        refine b_yes rfl ?_
        intro s0 H0 C cl fp
        refine r_tup (ra_cons (r_var 4 (ra_cons (r_var 5 (ra_nil ⟨by show 2 ≤ sizeLine; decide, fun t ht0 => ⟨s3.trans (same_new ht0), ?_⟩⟩)))))
        rw [fmg_in (by rw [hP, hear]), getD_of ha, getD_of hb]
        exact ((r.ext s3).ext (same_new ht0)).snoc upd_same
    have r2 : Tu gPr H2 vs (pairsOf c) := by
      rw [← pairs_range c]
      simpa using r
    have hq0 : (pairsOf c)[0]? = some q := by rw [← List.head?_eq_getElem?]; exact hq
    obtain ⟨t, hv0, hqt⟩ := r2.get' hq0
    have hne : vs.isEmpty = false := by
      cases vs with
      | nil => simp at hv0
      | cons a r => rfl
    refine rb_cons (rs_if (rt_not (rt_truth (r_var 3 ⟨true, .inl ⟨vs, SqL.of hd, by rw [hne]; rfl⟩, rb_nil ?_⟩))))
    have hat : atI vs 0 = some (.ref t) := atI_nat (j := 0) hv0
    refine rb_cons (rs_expr (r_append (r_var 2 ⟨f, rfl, ⟨_, s2 _ _ hfu⟩, ra_cons (r_ix (r_var 3 (r_int ⟨_, .ref t, .inl (SqL.of hd), hat, ra_nil ⟨us, _, rfl, s2 _ _ hfu, ?_, ?_⟩⟩)))⟩)))
    · rw [hus]
      exact Nat.lt_of_le_of_lt (show g1.length ≤ 10 by omega) (by decide)
    have kf : ∀ {a u}, a ≠ f → H1 a = some u → upd H2 f (.lst (us ++ [.ref t])) a = some u := fun {a u} n h => by rw [upd_ne n]; exact s2 _ _ h
    have hDf : D ≠ f := fun e => by
      rw [e, hfu] at hD
      cases hD
    refine rb_one (rs_set 1 sc_ears_of.nd (r_lc [("lot", 4)] sc_ears_of.nd (blkOk_by (N := ["lots", "left", "found", "pairs", "lot", "mate"]) (sc := defScope s_ears_of) (by decide +kernel)) (ri_list (r_var 1 ⟨l, rfl, ⟨_, SqL.of (kf hlf hc)⟩, fun D2 hD2 => ?_⟩))))
    have hDD : (upd H2 f (.lst (us ++ [.ref t]))) D = some (.lst vs) := by rw [upd_ne hDf]; exact hd
    have hqt3 : (upd H2 f (.lst (us ++ [.ref t]))) t = some (.tup (gPr q)) := by
      rw [upd_ne fun e => by rw [e, s2 _ _ hfu] at hqt; cases hqt]
      exact hqt
    refine lc_p 4 walk_list hD2 (fun H' s => s.seq (SqL.of (kf hlf hc))) (fun i H x H' y => by rw [y.1]; exact Same.refl _) (fun i => !decide (c.getD i [] = q.1)) (fun i => .str (S (c.getD i []))) (by rw [List.length_map, List.length_map]; exact Nat.lt_of_le_of_lt h10 (by decide)) (fun i v H3 H4 hi s3 y => ?_) (fun H3 s3 hd3 => ?_) sc_ears_of.nd
    · obtain ⟨rfl, hx⟩ := y
      obtain ⟨l, hx1, rfl⟩ := strsV_get hx
      have hq : decide (V.str (S l) = V.str (S q.1)) = decide (l = q.1) := by
        by_cases h : l = q.1
        · rw [h, decide_eq_true rfl, decide_eq_true rfl]
        · rw [decide_eq_false h, decide_eq_false fun q => h (S_inj (V.str.inj q))]
      intro s0 H0 C cl fp
      refine rts_one (rt_ne hr.units (r_var 4 (r_ix (r_ix (r_var 3 (r_int ⟨_, .ref t, .inl (SqL.of (s3 _ _ hDD)), hat, r_int ⟨_, .str (S q.1), .inr (SqT.of (s3 _ _ hqt3)), at0, rfl, ?_, ?_⟩⟩))))))
      · rw [getD_of hx1, hq]
      cases decide (V.str (S l) = V.str (S q.1)) with
      | true => exact Same.refl _
      | false =>
        refine iteT ?_
        intro s0 H0 C cl fp
        refine r_var 4 ⟨Same.refl _, ?_⟩
        rw [getD_of hx1]
    have e1 : ((List.range (strsV c).length).filter fun i => !decide (c.getD i [] = q.1)).map (fun i => V.str (S (c.getD i []))) = strsV (c.filter fun o => !decide (o = q.1)) := by
      rw [← filter_range c [] fun o => !decide (o = q.1)]
      simp only [strsV, List.map_map, List.length_map]
      rfl
    rw [e1] at hd3
    have sH2 : Same H1 H2 := s2
    have s13 : Same H H3 := fun a u h => s3 _ _ (kf (fun e => by rw [e, hfn] at h; cases h) (s1 _ _ h))
    refine ⟨n - (g1 ++ [q]).length, by rw [List.length_append]; show n - (g1.length + 1) < _; omega, _, D2, f, _, g1 ++ [q], g3, _, rfl, ?_, by rw [List.append_assoc]; rfl, ?_, ⟨fun l h => h3.six l (List.mem_filter.mp h).1, Nat.le_trans (List.length_filter_le _ _) h10⟩, rfl, s13, hd3, s3 _ _ upd_same, ?_, hfn, ?_⟩
    · rw [List.length_append]
      show g1.length + 1 ≤ n
      omega
    · rw [List.length_append, show n - (g1.length + [q].length) = k' by show n - (g1.length + 1) = k'; omega]
      exact hk
    · exact (((ht.ext s2).keep (fun a u n h => by rw [upd_ne n]; exact h) ⟨_, s2 _ _ hfu⟩).ext s3).snoc (s3 _ _ hqt3)
    · intro e
      rw [e, upd_same] at hD2
      cases hD2
  · obtain ⟨rfl, hz⟩ := ears_end h2 (by omega)
    refine rb_one (rs_ret (r_lst (ra_star (r_var 2 ⟨f, us, rfl, .inr (SqL.of hfu), ra_cons (r_tup (ra_cons (r_ix (r_var 1 (r_int ⟨_, .str (S z), .inl (SqL.of hc), atI_nat (j := 0) (by rw [List.getElem?_map, List.getElem?_map, hz]; rfl), ra_cons (r_non (ra_nil ⟨by show 2 ≤ sizeLine; decide, fun t ht0 => ra_nil ⟨?_, fun q hq0 => ?_⟩⟩))⟩)))))⟩))))
    · rw [List.length_append, hus]
      simp only [List.length_append, List.length_nil, Nat.add_zero] at hf
      exact small _ (by show g1.length + 1 ≤ 100000; omega)
    rw [List.append_nil] at k
    have st := fun o => same_new (o := o) ht0
    have sq := fun o => same_new (o := o) hq0
    exact k q _ us t (s1.trans ((st _).trans (sq _))) upd_same ((ht.ext (st _)).ext (sq _)) (sq _ _ _ upd_same)
end
end My

set_option Elab.async false
set_option pp.maxSteps 1500
set_option linter.all false
set_option maxRecDepth 100000
set_option maxHeartbeats 4000000
/-! C3: webs.py, orders -/
namespace My
open PySem PySem.Spec PyProof.Rows L2 TL
theorem Tu.conv {α β : Type} {g : α → List V} {g' : β → List V} {H : Hy} (f : α → β) (e : ∀ p, g p = g' (f p)) {vs : List V} {ps : List α} (h : Tu g H vs ps) : Tu g' H vs (ps.map f) := by
  induction h with
  | nil => exact Paired.nil
  | cons a _ ih =>
    obtain ⟨t, rfl, q⟩ := a
    exact Paired.cons ⟨t, rfl, by rw [← e]; exact q⟩ ih
def oStr : Option (List Nat) → V
  | none => .non
  | some m => .str (S m)
def gEar (p : List Nat × Option (List Nat)) : List V := [.str (S p.1), oStr p.2]
def earList (fs : List Pr) (z : List Nat) : List (List Nat × Option (List Nat)) := (z, none) :: (fs.map fun p => (p.1, some p.2)).reverse
/-- lots with their separators -/
def sepOf (p : List Nat × Option (List Nat)) : List Nat := match p.2 with
  | none => []
  | some m => both p.1 m
def ordOf (fs : List Pr) (z : List Nat) : List Pr := (earList fs z).map fun p => (p.1, sepOf p)
def gOrd (p : List Nat × V × List Nat) : List V := [.str (S p.1), p.2.1, .str (S p.2.2)]
def sp_order_of (K : PySem.W.Frag) : Sp := fun vs H Q _ => ∃ (p : Addr) (ls : List (List Nat)) (n : Nat) (fs : List Pr) (z : List Nat), vs = [.ref p] ∧ SqT K H p (strsV ls) ∧ LotsOk ls ∧ earsF n ls = some (fs, z) ∧ fs.length ≤ 10 ∧ (∀ f ∈ fs, f.2 ∈ (earList fs z).map (·.1)) ∧ (∀ f ∈ fs, f.1.length ≤ 6) ∧
  ∀ q H' us its, Same H H' → H' q = some (.lst us) → Tu gOrd H' us its → (its.map fun i => (i.1, i.2.2)) = ordOf fs z → Q (.ref q) H'
theorem first_ix {l : List (List Nat)} {m : List Nat} (h : m ∈ l) : ∃ j : Nat, l[j]? = some m ∧ ∀ (i : Nat) (x : List Nat), i < j → l[i]? = some x → x ≠ m := by
  induction l with
  | nil => cases h
  | cons a l ih =>
    by_cases e : a = m
    · exact ⟨0, by rw [e]; rfl, fun i x hi => absurd hi (Nat.not_lt_zero _)⟩
    · obtain ⟨j, h1, h2⟩ := ih ((List.mem_cons.mp h).resolve_left fun q => e q.symm)
      refine ⟨j + 1, h1, fun i x hi hx => ?_⟩
      cases i with
      | zero =>
        obtain rfl := Option.some.inj hx
        exact e
      | succ i => exact h2 i x (by omega) (by simpa using hx)
def ordW (H : Hy) (p q D f r : Addr) (rs : List V) (es : List (List Nat × Option (List Nat))) : Nat → L2.St → Hy → Prop := fun i σ' H' => ∃ (us2 : List V) (its : List (List Nat × V × List Nat)) (v1 v2 : Option V), σ' = [some (.ref p), some (.ref q), some (.ref D), some (.ref f), v1, v2] ∧ Same H H' ∧ H' f = some (.lst us2) ∧ Tu gOrd H' us2 its ∧
    H' D = some (.lst (strsV (es.map (·.1)))) ∧ H' r = some (.lst rs) ∧ Tu gEar H' rs es ∧ (its.map fun i => (i.1, i.2.2)) = (es.map fun p => (p.1, sepOf p)).take i
section
variable {P : Program} {w : World} {K : PySem.W.Frag} {mg : Str → Option Value} {base : Heap}
theorem sc_order_of : FnScope ["lots", "ears", "names", "found", "lot", "mate"] ["lots"] (defScope s_order_of) := ⟨rfl, rfl, rfl, by decide +kernel, rfl, by decide +kernel, by decide +kernel⟩
theorem h_order_of (e : EV w K mg base) : Has P w K mg base 4 "order_of" ["lots"] (sp_order_of K) := by
  refine mk_has (d := d_order_of) e.g_order_of e.f_order_of sc_order_of (fun _ _ _ _ _ _ us hl => match us, hl with | [_], _ => rfl) (fun vs H Q E h => by obtain ⟨_, _, _, _, _, rfl, _⟩ := h; rfl) (fun cdv A outer s H vs Q E hr h => ?_)
  obtain ⟨p, ls, n, fs, z, rfl, hp, hl, hn, hf, hM, h6, k⟩ := h
  refine rb_cons (rs_set 1 sc_order_of.nd (r_call (h_ears_of e) hr (ra_cons (r_var 0 (ra_nil ⟨p, ls, n, fs, z, rfl, hp, hl, hn, hf, fun q H1 us tz s1 hq ht htz => ?_⟩)))))
  refine rb_cons (rs_if (rt_isN0 (r_var 1 ⟨rfl, rb_nil ?_⟩)))
  have hE : Tu gEar H1 (us ++ [V.ref tz]).reverse (earList fs z) := by
    have h1 : Tu gEar H1 (us ++ [V.ref tz]) ((fs.map fun p : Pr => (p.1, some p.2)) ++ [(z, none)]) := (ht.conv (g' := gEar) (fun p : Pr => (p.1, some p.2)) fun _ => rfl).snoc htz
    have e1 : earList fs z = ((fs.map fun p : Pr => (p.1, some p.2)) ++ [(z, none)]).reverse := by
      rw [List.reverse_append]
      rfl
    rw [e1]
    exact h1.reverse
  have hEl : (earList fs z).length ≤ 11 := by
    unfold earList
    rw [List.length_cons, List.length_reverse, List.length_map]
    omega
  have hEn : ∀ x ∈ earList fs z, x.2 ≠ none → x.1.length ≤ 6 := by
    intro x hx hne
    rcases List.mem_cons.mp hx with rfl | hx
    · exact absurd rfl hne
    · obtain ⟨f, hf1, rfl⟩ := List.mem_map.mp (List.mem_reverse.mp hx)
      exact h6 f hf1
  have hMn : ∀ x ∈ earList fs z, ∀ m, x.2 = some m → m ∈ (earList fs z).map (·.1) := by
    intro x hx m hm
    rcases List.mem_cons.mp hx with rfl | hx
    · cases hm
    · obtain ⟨f, hf1, rfl⟩ := List.mem_map.mp (List.mem_reverse.mp hx)
      obtain rfl := Option.some.inj hm
      exact hM f hf1
  refine rb_cons (rs_par 2 3 sc_order_of.nd (ra_cons (r_lc [("lot", 4), ("mate", 5)] sc_order_of.nd (blkOk_by (N := ["lots", "ears", "names", "found", "lot", "mate"]) (sc := defScope s_order_of) (by decide +kernel)) (ri_list (r_revL (r_var 1 ⟨q, _, rfl, SqL.of hq, fun r hr0 => ⟨r, rfl, ⟨_, SqL.of upd_same⟩, fun D hD => ?_⟩⟩))))))
  unfold ordOf at k
  generalize earList fs z = es at hE hEl hEn hMn k
  have sr := fun o => same_new (o := o) hr0
  have hE2 := hE.ext (sr (.lst (us ++ [V.ref tz]).reverse))
  refine lc_f walk_list hD (fun H' s => s.seq (SqL.of upd_same)) (fun i H x H' y => by rw [y.1]; exact Same.refl _) (fun i => (strsV (es.map (·.1))).take i) rfl (fun i hi => ?_) (fun i x H2 H3 hi s2 hd y => ?_) (fun H2 s2 hd => ?_)
  · rw [hE.length] at hi
    refine Nat.lt_of_le_of_lt (List.length_take_le _ _) (Nat.lt_of_le_of_lt (Nat.le_trans hi hEl) (by decide))
  · obtain ⟨rfl, hx⟩ := y
    obtain ⟨x, t, hx1, rfl, hx2⟩ := hE2.get hx
    intro s0 H0 C cl fp
    refine rg_tup ⟨t, _, rfl, SqT.of (s2 _ _ hx2), rfl, rgs_cons (rg_name 4 sc_order_of.nd (rgs_cons (rg_name 5 sc_order_of.nd (rgs_nil ⟨rfl, ?_⟩))))⟩
    intro s0 H0 C cl fp
    refine rts_nil (iteT ?_)
    intro s0 H0 C cl fp
    refine r_var 4 ⟨Same.refl _, ?_⟩
    rw [List.take_succ, List.getElem?_map, List.getElem?_map, List.getElem?_map, hx1]
    rfl
  rw [hE.length, show es.length = (strsV (es.map (·.1))).length by simp, List.take_length] at hd
  refine ra_cons (r_lst (ra_nil ⟨by show 0 ≤ sizeLine; decide, fun f hf0 => ra_nil ⟨_, _, rfl, ?_⟩⟩))
  have hE3 := (hE2.ext s2).ext (same_new (o := .lst []) hf0)
  have sA : Same H (upd H2 f (.lst [])) := s1.trans ((sr _).trans (s2.trans (same_new hf0)))
  have hq3 : (upd H2 f (.lst [])) q = some (.lst (us ++ [.ref tz])) := same_new hf0 _ _ (s2 _ _ (sr _ _ _ hq))
  have hn3 : (upd H2 f (.lst [])) D = some (.lst (strsV (es.map (·.1)))) := same_new hf0 _ _ hd
  have hfH : H f = none := (s1.trans ((sr _).trans s2)).free hf0
  refine rb_cons (rs_for PassesOwn.never (ri_list (r_revL (r_var 1 ⟨q, _, rfl, SqL.of hq3, fun r2 hr2 => ⟨r2, rfl, ⟨_, SqL.of upd_same⟩, ?_⟩⟩))))
  have sr2 := fun o => same_new (o := o) hr2
  have hrf : r2 ≠ f := fun e => by rw [e, upd_same] at hr2; cases hr2
  have hDf : D ≠ f := fun e => by rw [← e, hd] at hf0; cases hf0
  refine rfor_it (walk_list (xs := (us ++ [V.ref tz]).reverse)) (ordW H p q D f r2 (us ++ [V.ref tz]).reverse es) ⟨[], [], _, _, rfl, sA.trans (sr2 _), sr2 _ _ _ upd_same, Tu.nil, sr2 _ _ _ hn3, upd_same, hE3.ext (sr2 _), rfl⟩ (fun i σ' H' _ p => ?_) ?_ ?_
  · obtain ⟨_, _, _, _, _, _, _, _, _, h, _⟩ := p
    exact SqL.of h
  · rintro i x σ' H3 H3' hi ⟨us2, its, v1, v2, rfl, s3, hf3, ht3, hD3, hr3, hE4, hits⟩ ⟨rfl, hx⟩
    obtain ⟨x, t, hx1, rfl, hx2⟩ := hE4.get hx
    have hx3 := List.mem_of_getElem? hx1
    have hilen : its.length ≤ 11 := by
      have := congrArg List.length hits
      rw [List.length_map, List.length_take, List.length_map] at this
      omega
    refine rg_tup ⟨t, _, rfl, SqT.of hx2, rfl, rgs_cons (rg_name 4 sc_order_of.nd (rgs_cons (rg_name 5 sc_order_of.nd (rgs_nil ?_))))⟩
    refine rb_one (rs_expr (r_append (r_var 3 ⟨f, rfl, ⟨_, hf3⟩, ra_cons (r_if ?_)⟩)))
    obtain ⟨l, o⟩ := x
    have key : ∀ (H4 : Hy) (t4 : Addr) (v : V) (sp : List Nat), Same H3' H4 → H4 t4 = none → sepOf (l, o) = sp → ∃ xs y, [V.ref t4] = [y] ∧ upd H4 t4 (.tup [.str (S l), v, .str (S sp)]) f = some (.lst xs) ∧ xs.length < sizeLine ∧
        ordW H p q D f r2 (us ++ [V.ref tz]).reverse es (i + 1) [some (.ref p), some (.ref q), some (.ref D), some (.ref f), some (.str (S l)), some (oStr o)] (upd (upd H4 t4 (.tup [.str (S l), v, .str (S sp)])) f (.lst (xs ++ [y]))) := by
      intro H4 t4 v sp s4 h4 esp
      have s5 := fun o => same_new (o := o) h4
      have kf : ∀ {H5 : Hy} {o : HO}, ∀ a u, a ≠ f → H5 a = some u → upd H5 f o a = some u := fun {H5 o} a u n h => by rw [upd_ne n]; exact h
      have hf5 := s5 (.tup [.str (S l), v, .str (S sp)]) _ _ (s4 _ _ hf3)
      have htf : t4 ≠ f := fun e => by rw [e, s4 _ _ hf3] at h4; cases h4
      refine ⟨us2, _, rfl, hf5, ?_, us2 ++ [.ref t4], its ++ [(l, v, sp)], _, _, rfl, ?_, upd_same, ?_, kf _ _ hDf (s5 _ _ _ (s4 _ _ hD3)), kf _ _ hrf (s5 _ _ _ (s4 _ _ hr3)), ((hE4.ext s4).ext (s5 _)).keep kf ⟨_, hf5⟩, ?_⟩
      · rw [ht3.length]
        exact Nat.lt_of_le_of_lt hilen (by decide)
      · exact fun a u h => kf a u (fun e => by rw [e, hfH] at h; cases h) (s5 _ _ _ (s4 _ _ (s3 _ _ h)))
      · refine (((ht3.ext s4).ext (s5 _)).keep kf ⟨_, hf5⟩).snoc ?_
        rw [upd_ne htf]
        exact upd_same
      · rw [List.map_append, hits, List.take_succ, List.getElem?_map, hx1]
        show _ ++ [(l, sp)] = _ ++ [(l, sepOf (l, o))]
        rw [esp]
    cases o with
    | none =>
      refine rt_isN1 (r_var 5 ⟨rfl, iteT (r_tup (ra_cons (r_var 4 (ra_cons (r_non (ra_cons (r_str (ra_nil ⟨by show 3 ≤ sizeLine; decide, fun t4 h4 => ra_nil ?_⟩))))))))⟩)
      rw [s_no]
      exact key _ t4 .non [] (Same.refl _) h4 rfl
    | some m =>
      have hm1 := hMn _ hx3 m rfl
      have hl6 := hEn _ hx3 (by simp)
      obtain ⟨j, hj1, hj2⟩ := first_ix hm1
      refine rt_isN0 (r_var 5 ⟨rfl, iteF (r_tup (ra_cons (r_var 4 (ra_cons (r_lindex (r_var 2 ⟨D, rfl, ⟨_, hD3⟩, ra_cons (r_var 5 (ra_nil ⟨D, strsV (es.map (·.1)), .str (S m), j, .str (S m), rfl, rfl, SqL.of hD3, rfl, flat_strs _, ?_, ?_, ?_, ?_⟩))⟩))))))⟩)
      · rw [List.getElem?_map, List.getElem?_map, hj1]
        rfl
      · show (S m == S m) = true
        exact beq_self_eq_true _
      · intro i' z' hi' hz'
        obtain ⟨y, hy, rfl⟩ := strsV_get hz'
        show (S y == S m) = false
        exact beq_eq_false_iff_ne.mpr fun q => hj2 i' y hi' hy (S_inj q)
      · refine ra_cons (r_call (h_shared e) hr (ra_cons (r_var 4 (ra_cons (r_var 5 (ra_nil ⟨l, m, rfl, Nat.le_trans hl6 (by decide), fun H4 s4 => ra_nil ⟨by show 3 ≤ sizeLine; decide, fun t4 h4 => ra_nil ?_⟩⟩))))))
        exact key H4 t4 (.int (j : Nat)) (both l m) s4 h4 rfl
  · rintro σ' H3 ⟨us2, its, v1, v2, rfl, s3, hf3, ht3, hD3, hr3, hE4, hits⟩
    refine rb_one (rs_ret (r_var 3 (k f H3 us2 its s3 hf3 ht3 ?_)))
    rw [hits, List.take_of_length_le]
    rw [List.length_map, hE.length]
    exact Nat.le_refl _
end
end My

set_option Elab.async false
set_option pp.maxSteps 1500
set_option linter.all false
set_option maxRecDepth 100000
set_option maxHeartbeats 4000000
/-! D1: tables.py, counts checked -/
namespace My
open PySem PySem.Spec PyProof.Rows L2 TL
def gCnt (e : CT) : List V := [.str (S e.1), .int e.2]
structure CsOk (m : MD) (cs : List CT) : Prop where
  row : ∀ e ∈ cs, RowOk m e.1
  pos : ∀ e ∈ cs, 1 ≤ e.2
  asc : cs.Pairwise fun e f => e.1 < f.1
  many : (cs.map (·.2)).sum ≤ 10 ^ 30
  len : cs.length ≤ 16
def sp_is_pair (K : PySem.W.Frag) : Sp := fun vs H Q _ => ∃ (m : MD) (p t : Addr) (e : CT), vs = [.ref p, .ref t] ∧ ModAt K H p m ∧ H t = some (.tup (gCnt e)) ∧ RowOk m e.1 ∧ 1 ≤ e.2 ∧ ∀ H', Same H H' → Q (.bl true) H'
def sp_wrong_index (K : PySem.W.Frag) : Sp := fun vs H Q _ => ∃ (m : MD) (p a : Addr) (us : List V) (cs : List CT), vs = [.ref p, .ref a] ∧ ModAt K H p m ∧ H a = some (.tup us) ∧ Tu gCnt H us cs ∧ CsOk m cs ∧ ∀ H', Same H H' → Q .non H'
theorem nil_lt {r : LN} (h : 1 ≤ r.length) : ([] : LN) < r := by
  cases r with
  | nil => simp at h
  | cons a r => exact List.nil_lt_cons a r
section
variable {P : Program} {w : World} {K : PySem.W.Frag} {mg : Str → Option Value} {base : Heap}
theorem sc_is_pair : FnScope ["model", "value"] ["model", "value"] (defScope s_is_pair) := ⟨rfl, rfl, rfl, by decide +kernel, rfl, by decide +kernel, by decide +kernel⟩
theorem h_is_pair (e : EV w K mg base) : Has P w K mg base 2 "is_pair" ["model", "value"] (sp_is_pair K) := by
  refine mk_has (d := d_is_pair) e.g_is_pair e.f_is_pair sc_is_pair (fun _ _ _ _ _ _ us hl => match us, hl with | [_, _], _ => rfl) (fun vs H Q E h => by obtain ⟨_, _, _, _, rfl, _⟩ := h; rfl) (fun cdv A outer s H vs Q E hr h => ?_)
  obtain ⟨m, p, t, x, rfl, hm, ht, hrow, hpos, k⟩ := h
  refine rb_cons (rs_if (rt_bool (rw_or (rt_not (rt_val (r_isT "tuple" e.z_isinstance e.z_tuple (by decide +kernel) (r_var 1 ⟨"tuple", true, .base (.tup ht), by decide +kernel, b_no rfl ?_⟩)))))))
  refine rw_or1 (rt_ne hr.units (r_callB call_len_seq e.z_len boot_len (ra_cons (r_var 1 (ra_nil ⟨t, _, rfl, .inr (SqT.of ht), r_int ⟨rfl, b_no rfl (rb_nil ?_)⟩⟩)))))
  refine rb_one (rs_ret (r_and (r_call (h_is_row e) hr (ra_cons (r_var 0 (ra_cons (r_ix (r_var 1 (r_int ⟨_, .str (S x.1), .inr (SqT.of ht), at0, ra_nil ⟨m, p, x.1, rfl, hm, hrow, fun H1 s1 => b_yes rfl ?_⟩⟩)))))))))
  have ht1 := s1 _ _ ht
  refine r_and (r_call (h_is_integer e) hr (ra_cons (r_ix (r_var 1 (r_int ⟨_, .int x.2, .inr (SqT.of ht1), at1, ra_nil ⟨x.2, rfl, b_yes rfl ?_⟩⟩)))))
  refine r_one (r_gt (r_ix (r_var 1 (r_int ⟨_, .int x.2, .inr (SqT.of ht1), at1, r_int (gt_ii ?_)⟩))))
  rw [decide_eq_true (by omega : (0 : Int) < x.2)]
  exact k _ s1
theorem sc_wrong_index : FnScope ["model", "counts", "last", "index", "pair"] ["model", "counts"] (defScope s_wrong_index) := ⟨rfl, rfl, rfl, by decide +kernel, rfl, by decide +kernel, by decide +kernel⟩
theorem h_wrong_index (e : EV w K mg base) : Has P w K mg base 3 "wrong_index" ["model", "counts"] (sp_wrong_index K) := by
  refine mk_has (d := d_wrong_index) e.g_wrong_index e.f_wrong_index sc_wrong_index (fun _ _ _ _ _ _ us hl => match us, hl with | [_, _], _ => rfl) (fun vs H Q E h => by obtain ⟨_, _, _, _, _, rfl, _⟩ := h; rfl) (fun cdv A outer s H vs Q E hr h => ?_)
  obtain ⟨m, p, a, us, cs, rfl, hm, ha, ht, hc, k⟩ := h
  refine rb_cons (rs_set 2 sc_wrong_index.nd (r_str ?_))
  refine rb_cons (rs_for PassesOwn.never (ri_enum e.z_enumerate (ra_cons (r_var 1 (ra_nil ⟨_, _, rfl, srcV_tup (.inl ha), fun u => ?_⟩)))))
  have hul := ht.length
  refine rfor_it (walk_E _) (fun i σ' H' => Same H H' ∧ ∃ (l : LN) (v1 v2 : Option V), σ' = [some (.ref p), some (.ref a), some (.str (S l)), v1, v2] ∧ ∀ x : CT, cs[i]? = some x → l < x.1) ⟨Same.refl _, [], _, _, by rw [s_no]; rfl, fun x hx => nil_lt ?_⟩ (fun i σ' H' _ q => .inl (q.1 _ _ ha)) ?_ ?_
  · have := (hc.row x (List.mem_of_getElem? hx)).len
    have := hm.ok.n2
    omega
  · rintro i x σ' H1 H2 hi ⟨s1, l, v1, v2, rfl, hl⟩ ⟨T, y, rfl, hT, rfl, hy⟩
    replace hy : us[i]? = some y := hy
    obtain ⟨z, t, hz, rfl, hzt⟩ := ht.get hy
    have hzc := List.mem_of_getElem? hz
    have s2 := fun o => s1.trans (same_new (o := o) hT)
    refine rg_tup ⟨T, _, rfl, SqT.of upd_same, rfl, rgs_cons (rg_name 3 sc_wrong_index.nd (rgs_cons (rg_name 4 sc_wrong_index.nd (rgs_nil ?_))))⟩
    refine rb_cons (rs_if (rt_bool (rw_or (rt_not (rt_val (r_call (h_is_pair e) hr (ra_cons (r_var 0 (ra_cons (r_var 4 (ra_nil ⟨m, p, t, z, rfl, hm.ext (s2 _), s2 _ _ _ hzt, hc.row z hzc, hc.pos z hzc, fun H3 s3 => b_no rfl ?_⟩)))))))))))
    have hzt3 := s3 _ _ (s2 _ _ _ hzt)
    refine rw_or1 (rt_le (r_ix (r_var 4 (r_int ⟨_, .str (S z.1), .inr (SqT.of hzt3), at0, r_var 2 (gv rfl (le_ss (b_no ?_ (rb_nil ?_))))⟩))))
    · rw [S_cps, S_cps, decide_eq_true (hl z hz)]
      rfl
    refine rb_one (rs_set 2 sc_wrong_index.nd (r_ix (r_var 4 (r_int ⟨_, .str (S z.1), .inr (SqT.of hzt3), at0, (s2 _).trans s3, z.1, _, _, rfl, fun x hx => ?_⟩))))
    obtain ⟨h1, h2⟩ := List.getElem?_eq_some_iff.mp hz
    obtain ⟨h3, h4⟩ := List.getElem?_eq_some_iff.mp hx
    have := List.pairwise_iff_getElem.mp hc.asc i (i + 1) h1 h3 (Nat.lt_succ_self i)
    rw [h2, h4] at this
    exact this
  · rintro σ' H1 ⟨s1, l, v1, v2, rfl, hl⟩
    exact rb_one (rs_ret (r_non (k _ s1)))
end
end My

set_option Elab.async false
set_option pp.maxSteps 1500
set_option linter.all false
set_option maxRecDepth 100000
set_option maxHeartbeats 4000000
/-! D2: tables.py, sums -/
namespace My
open PySem PySem.Spec PyProof.Rows L2 TL
theorem Tu.keep' {α : Type} {g : α → List V} {H H' : Hy} {vs : List V} {ps : List α} {D : Addr} (h : Tu g H vs ps) (k : ∀ a u, a ≠ D → H a = some u → H' a = some u) (hD : ∀ xs, H D ≠ some (.tup xs)) : Tu g H' vs ps := Paired.mapP h fun v p q => by
  obtain ⟨t, rfl, q⟩ := q
  exact ⟨t, rfl, k t _ (fun e => hD _ (by rw [← e]; exact q)) q⟩
def SumAt (H : Hy) (vs : List V) (ss : List (List CT)) : Prop := Paired (fun v ps => ∃ t us, v = V.ref t ∧ H t = some (.tup us) ∧ Tu gCnt H us ps) vs ss
theorem SumAt.ext {H H' : Hy} {vs : List V} {ss : List (List CT)} (h : SumAt H vs ss) (s : Same H H') : SumAt H' vs ss := Paired.mapP h fun v p q => let ⟨t, us, e, q, r⟩ := q; ⟨t, us, e, s _ _ q, r.ext s⟩
theorem SumAt.keep {H H' : Hy} {vs : List V} {ss : List (List CT)} {D : Addr} (h : SumAt H vs ss) (k : ∀ a u, a ≠ D → H a = some u → H' a = some u) (hD : ∀ xs, H D ≠ some (.tup xs)) : SumAt H' vs ss := Paired.mapP h fun v p q => by
  obtain ⟨t, us, rfl, q, r⟩ := q
  exact ⟨t, us, rfl, k t _ (fun e => hD _ (by rw [← e]; exact q)) q, r.keep' k hD⟩
/-- what stands of each value on a lot -/
def tally (m : MD) (cs : List CT) (lot : LN) : List CT := cs.foldl (fun d e => putN d (pick m e.1 lot) ((getN d (pick m e.1 lot)).getD 0 + e.2)) []
def SumsOf (m : MD) (cs : List CT) (ss : List (List CT)) (lots : List LN) : Prop := Paired (fun ps lot => ps.Perm (tally m cs lot) ∧ ps.Pairwise (fun e f : CT => e.1 < f.1)) ss lots
theorem tally_len (m : MD) (lot : LN) (cs : List CT) : (tally m cs lot).length ≤ cs.length := by
  have key : ∀ (cs d : List CT), (cs.foldl (fun d e => putN d (pick m e.1 lot) ((getN d (pick m e.1 lot)).getD 0 + e.2)) d).length ≤ d.length + cs.length := by
    intro cs
    induction cs with
    | nil => intro d; exact Nat.le_refl _
    | cons e cs ih =>
      intro d
      have h1 := ih (putN d (pick m e.1 lot) ((getN d (pick m e.1 lot)).getD 0 + e.2))
      have h2 := putN_len d (pick m e.1 lot) ((getN d (pick m e.1 lot)).getD 0 + e.2)
      rw [List.foldl_cons, List.length_cons]
      omega
  have := key cs []
  simpa [tally] using this
def sp_check_counts (K : PySem.W.Frag) : Sp := sp_wrong_index K
def sp_sums_of (K : PySem.W.Frag) : Sp := fun vs H Q _ => ∃ (m : MD) (p a : Addr) (us : List V) (cs : List CT), vs = [.ref p, .ref a] ∧ ModAt K H p m ∧ H a = some (.tup us) ∧ Tu gCnt H us cs ∧ (∀ e ∈ cs, e.1.length = m.cols.length) ∧ cs.length ≤ 16 ∧
  ∀ b H' vs ss, Same H H' → H' b = some (.tup vs) → SumAt H' vs ss → SumsOf m cs ss m.lots → Q (.ref b) H'
theorem sum_take_le : ∀ (cs : List CT) (i : Nat), (∀ e ∈ cs, 1 ≤ e.2) → ((cs.take i).map (·.2)).sum ≤ (cs.map (·.2)).sum
  | [], i, _ => by simp
  | e :: cs, 0, h => by
    have h1 := sum_take_le cs 0 fun x hx => h x (List.mem_cons_of_mem _ hx)
    have h2 := h e (List.mem_cons_self ..)
    simp only [List.take_zero, List.map_nil, List.sum_nil, List.map_cons, List.sum_cons] at h1 ⊢
    omega
  | e :: cs, i + 1, h => by
    have h1 := sum_take_le cs i fun x hx => h x (List.mem_cons_of_mem _ hx)
    simp only [List.take_succ_cons, List.map_cons, List.sum_cons]
    omega
section
variable {P : Program} {w : World} {K : PySem.W.Frag} {mg : Str → Option Value} {base : Heap}
theorem sc_check_counts : FnScope ["model", "counts", "wrong", "many", "index", "pair"] ["model", "counts"] (defScope s_check_counts) := ⟨rfl, rfl, rfl, by decide +kernel, rfl, by decide +kernel, by decide +kernel⟩
theorem h_check_counts (e : EV w K mg base) : Has P w K mg base 4 "check_counts" ["model", "counts"] (sp_check_counts K) := by
  refine mk_has (d := d_check_counts) e.g_check_counts e.f_check_counts sc_check_counts (fun _ _ _ _ _ _ us hl => match us, hl with | [_, _], _ => rfl) (fun vs H Q E h => by obtain ⟨_, _, _, _, _, rfl, _⟩ := h; rfl) (fun cdv A outer s H vs Q E hr h => ?_)
  obtain ⟨m, p, a, us, cs, rfl, hm, ha, ht, hc, k⟩ := h
  refine rb_cons (rs_if (rt_not (rt_val (r_isT "tuple" e.z_isinstance e.z_tuple (by decide +kernel) (r_var 1 ⟨"tuple", true, .base (.tup ha), by decide +kernel, b_no rfl (rb_nil ?_)⟩)))))
  refine rb_cons (rs_par 2 3 sc_check_counts.nd (ra_cons (r_call (h_wrong_index e) hr (ra_cons (r_var 0 (ra_cons (r_var 1 (ra_nil ⟨m, p, a, us, cs, rfl, hm, ha, ht, hc, fun H1 s1 => ra_cons (r_int (ra_nil ⟨_, _, rfl, ?_⟩))⟩))))))))
  have hul := ht.length
  refine rb_cons (rs_for PassesOwn.never (ri_enum e.z_enumerate (ra_cons (r_slA (r_var 1 (ro_none (ro_non (r_var 2 ⟨rfl, a, us, rfl, SqT.of (s1 _ _ ha), fun _ => ra_nil ⟨_, _, rfl, srcV_tup (.inl (s1 _ _ ha)), fun u => ?_⟩, fun hn => absurd ⟨?_, ?_⟩ hn⟩))))))))
  · refine rfor_it (walk_E _) (fun i σ' H' => Same H H' ∧ ∃ (v1 v2 : Option V), σ' = [some (.ref p), some (.ref a), some .non, some (.int ((cs.take i).map (·.2)).sum), v1, v2]) ⟨s1, _, _, rfl⟩ (fun i σ' H' _ q => .inl (q.1 _ _ ha)) ?_ ?_
    · rintro i x σ' H1 H2 hi ⟨s1, v1, v2, rfl⟩ ⟨T, y, rfl, hT, rfl, hy⟩
      replace hy : us[i]? = some y := hy
      obtain ⟨z, t, hz, rfl, hzt⟩ := ht.get hy
      have s2 := fun o => s1.trans (same_new (o := o) hT)
      have hs : ((cs.take (i + 1)).map (·.2)).sum = ((cs.take i).map (·.2)).sum + z.2 := by
        rw [List.take_succ, hz, List.map_append, List.sum_append]
        simp
      refine rg_tup ⟨T, _, rfl, SqT.of upd_same, rfl, rgs_cons (rg_name 4 sc_check_counts.nd (rgs_cons (rg_name 5 sc_check_counts.nd (rgs_nil ?_))))⟩
      refine rb_cons (rs_set 3 sc_check_counts.nd (r_add (r_var 3 (r_ix (r_var 5 (r_int ⟨_, .int z.2, .inr (SqT.of (s2 _ _ _ hzt)), at1, add_ii ?_⟩))))))
      rw [← hs]
      refine rb_one (rs_if (rt_gt (r_var 3 (gv rfl (r_gint e.i_MOST_COUNT (gt_ii (b_no ?_ (rb_nil ⟨s2 _, _, _, rfl⟩))))))))
      have h1 := sum_take_le cs (i + 1) hc.pos
      have h2 := hc.many
      exact decide_eq_false (by omega)
    · rintro σ' H1 ⟨s1, v1, v2, rfl⟩
      exact rb_one (rs_if (rt_notN0 (r_var 2 ⟨rfl, rb_nil (k _ s1)⟩)))
  · rw [HT.sIx_none]
  · rw [HT.sIx_none]
end
end My

set_option Elab.async false
set_option pp.maxSteps 1500
set_option linter.all false
set_option maxRecDepth 100000
set_option maxHeartbeats 4000000
/-! D3: tables.py, sums_of -/
namespace My
open PySem PySem.Spec PyProof.Rows L2 TL
theorem SumAt.snoc {H : Hy} {vs : List V} {ss : List (List CT)} {t : Addr} {us : List V} {ps : List CT} (h : SumAt H vs ss) (q : H t = some (.tup us)) (r : Tu gCnt H us ps) : SumAt H (vs ++ [.ref t]) (ss ++ [ps]) := Paired.snoc h ⟨t, us, rfl, q, r⟩
theorem pd_snoc_take {α β : Type} {F : α → β → Prop} {l : List α} {ms : List β} {i : Nat} {a : α} {b : β} (h : Paired F l (ms.take i)) (hb : ms[i]? = some b) (q : F a b) : Paired F (l ++ [a]) (ms.take (i + 1)) := by
  rw [List.take_succ, hb]
  exact Paired.snoc h q
theorem tally_take {m : MD} {lot : LN} {cs : List CT} {i : Nat} {e : CT} (h : cs[i]? = some e) : tally m (cs.take (i + 1)) lot = putN (tally m (cs.take i) lot) (pick m e.1 lot) ((getN (tally m (cs.take i) lot) (pick m e.1 lot)).getD 0 + e.2) := by
  unfold tally
  rw [List.take_succ, h, List.foldl_append]
  rfl
section
variable {P : Program} {w : World} {K : PySem.W.Frag} {mg : Str → Option Value} {base : Heap}
theorem sc_sums_of : FnScope ["model", "counts", "found", "lot", "indexes", "told", "row", "count", "values", "index"] ["model", "counts"] (defScope s_sums_of) := ⟨rfl, rfl, rfl, by decide +kernel, rfl, by decide +kernel, by decide +kernel⟩
theorem h_sums_of (e : EV w K mg base) : Has P w K mg base 2 "sums_of" ["model", "counts"] (sp_sums_of K) := by
  refine mk_has (d := d_sums_of) e.g_sums_of e.f_sums_of sc_sums_of (fun _ _ _ _ _ _ us hl => match us, hl with | [_, _], _ => rfl) (fun vs H Q E h => by obtain ⟨_, _, _, _, _, rfl, _⟩ := h; rfl) (fun cdv A outer s H vs Q E hr h => ?_)
  obtain ⟨m, p, a, us, cs, rfl, hm, ha, ht, hrow, h16, k⟩ := h
  obtain ⟨dx, fs, _, b, _, h1, h2, h3, h4, h5, h6, h7, _⟩ := hm.at_
  have hk10 := hm.ok.k10
  refine rb_cons (rs_set 2 sc_sums_of.nd (r_lst (ra_nil ⟨by show 0 ≤ sizeLine; decide, fun f hf0 => ?_⟩)))
  refine rb_cons (rs_for PassesOwn.never (ri_tup (r_fld (r_var 0 ⟨p, _, dx, _, _, rfl, same_new hf0 _ _ h1, e.c_Model, e.n_Model_lots, h6, b, rfl, ⟨_, SqT.of (same_new hf0 _ _ h7)⟩, ?_⟩))))
  refine rfor_it (walk_tup (xs := strsV m.lots)) (fun i σ' H' => Same H H' ∧ ∃ (vs : List V) (ss : List (List CT)) (v3 v4 v5 v6 v7 v8 : Option V), σ' = [some (.ref p), some (.ref a), some (.ref f), v3, v4, v5, v6, v7, v8, none] ∧ H' f = some (.lst vs) ∧ SumAt H' vs ss ∧ SumsOf m cs ss (m.lots.take i)) ⟨same_new hf0, [], [], _, _, _, _, _, _, rfl, upd_same, .nil, .nil⟩ (fun i σ' H' _ q => SqT.of (q.1 _ _ h7)) ?_ ?_
  · rintro i x σ' H1 H1' hi ⟨s1, vs, ss, v3, v4, v5, v6, v7, v8, rfl, hf1, hs1, hss⟩ ⟨rfl, hx⟩
    obtain ⟨lot, hlot, rfl⟩ := strsV_get hx
    have hl := hm.ok.lot lot (List.mem_of_getElem? hlot)
    refine rg_name 3 sc_sums_of.nd (rb_cons (rs_par 4 5 sc_sums_of.nd (ra_cons (r_call (h_places e) hr (ra_cons (r_var 0 (ra_cons (r_var 3 (ra_nil ⟨m, p, lot, rfl, hm.ext s1, hl.2.2.1, Nat.le_trans hl.2.2.2 (by decide), fun q H2 s2 hq => ra_cons (r_dnew fun td htd => ra_nil ⟨_, _, rfl, ?_⟩)⟩)))))))))
    have sA := s1.trans (s2.trans (same_new (o := .dK []) htd))
    have hff : f ≠ td := fun z => by rw [← z, s2 _ _ hf1] at htd; cases htd
    have hqd : q ≠ td := fun z => by rw [← z, hq] at htd; cases htd
    have hHd : H td = none := (s1.trans s2).free htd
    refine rb_cons (rs_for PassesOwn.never (ri_tup (r_var 1 ⟨a, rfl, ⟨_, SqT.of (sA _ _ ha)⟩, ?_⟩)))
    refine rfor_it (walk_tup (xs := us)) (fun j σ' H' => Same H H' ∧ ∃ (v6 v7 v8 : Option V), σ' = [some (.ref p), some (.ref a), some (.ref f), some (.str (S lot)), some (.ref q), some (.ref td), v6, v7, v8, none] ∧ H' f = some (.lst vs) ∧ SumAt H' vs ss ∧ H' q = some (.lst (lot.map fun c => V.int (m.cols.idxOf c : Nat))) ∧ H' td = some (.dK ((tally m (cs.take j) lot).map entN)))
      ⟨sA, _, _, _, rfl, same_new htd _ _ (s2 _ _ hf1), (hs1.ext s2).ext (same_new htd), same_new htd _ _ hq, upd_same⟩ (fun j σ' H' _ q => SqT.of (q.1 _ _ ha)) ?_ ?_
    · rintro j x σ' H3 H3' hj ⟨s3, v6, v7, v8, rfl, hf3, hs3, hq3, ht3⟩ ⟨rfl, hx⟩
      obtain ⟨z, t, hz, rfl, hzt⟩ := ht.get hx
      have hzr := hrow z (List.mem_of_getElem? hz)
      have h6c := hm.ok.n6
      refine rg_tup ⟨t, _, rfl, SqT.of (s3 _ _ hzt), rfl, rgs_cons (rg_name 6 sc_sums_of.nd (rgs_cons (rg_name 7 sc_sums_of.nd (rgs_nil ?_))))⟩
      refine rb_cons (rs_set 8 sc_sums_of.nd (r_join (r_str ⟨[], s_no ▸ rfl, ra_cons (r_lc [("index", 9)] sc_sums_of.nd (blkOk_by (N := ["model", "counts", "found", "lot", "indexes", "told", "row", "count", "values", "index"]) (sc := defScope s_sums_of) (by decide +kernel)) (ri_list (r_var 4 ⟨q, rfl, ⟨_, SqL.of hq3⟩, fun D hD => ?_⟩)))⟩)))
      refine lc_n 9 walk_list hD (fun H' s => s.seq (SqL.of hq3)) (fun i H x H' y => by rw [y.1]; exact Same.refl _) (strsV (lot.map fun c => [z.1.getD (m.cols.idxOf c) 0])) (by simp) (by rw [List.length_map]; exact Nat.lt_of_le_of_lt hl.2.2.2 (by decide)) (fun i v H4 H5 hi s4 y => ?_) (fun H4 s4 hd => ?_) sc_sums_of.nd
      · obtain ⟨rfl, hx⟩ := y
        rw [List.getElem?_map] at hx
        cases hcc : lot[i]? with
        | none => rw [hcc] at hx; cases hx
        | some c =>
          rw [hcc] at hx
          obtain rfl : V.int (m.cols.idxOf c : Nat) = v := Option.some.inj hx
          have hlt : m.cols.idxOf c < z.1.length := by
            rw [hzr]
            exact List.idxOf_lt_length_of_mem (hl.2.2.1 c (List.mem_of_getElem? hcc))
          intro s0 H0 C cl fp
          refine r_ix (r_var 6 (r_var 9 ⟨S_small (by omega), z.1.getD (m.cols.idxOf c) 0, atI_nat ?_, Same.refl _, ?_⟩))
          · rw [S_cps, List.getD_eq_getElem?_getD, List.getElem?_eq_getElem hlt]
            rfl
          · rw [List.getElem?_map, List.getElem?_map, List.getElem?_map, hcc]
            rfl
      have ep : (lot.map fun c => [z.1.getD (m.cols.idxOf c) 0]) = (pick m z.1 lot).map fun c => [c] := by unfold pick; rw [List.map_map]; rfl
      refine ra_nil ⟨D, lot.map fun c => [z.1.getD (m.cols.idxOf c) 0], rfl, .inl (SqL.of hd), ?_, ?_⟩
      · rw [ep, sum_one, pick_len]
        simp only [List.length_nil, List.length_map, pick_len]
        have := hl.2.2.2
        omega
      rw [joinL_nil, ep, flat_one]
      have hl64 := tally_len m lot (cs.take j)
      rw [List.length_take] at hl64
      refine rb_one (rs_dput hr.units (r_add (r_dget2 hr.units (r_var 5 ⟨td, _, rfl, s4 _ _ ht3, r_var 8 (r_int ⟨_, Sum.inr (S (pick m z.1 lot)), s4 _ _ ht3, rfl, ?_⟩)⟩))))
      rw [valV_N]
      have e3 : (Option.map V.int (getN (tally m (cs.take j) lot) (pick m z.1 lot))).getD (V.int 0) = V.int ((getN (tally m (cs.take j) lot) (pick m z.1 lot)).getD 0) := by
        cases getN (tally m (cs.take j) lot) (pick m z.1 lot) <;> rfl
      rw [e3]
      refine r_var 7 (gv rfl (add_ii (r_var 5 (r_var 8 ⟨td, _, Sum.inr (S (pick m z.1 lot)), rfl, s4 _ _ ht3, rfl, ?_, ?_⟩))))
      · rw [List.length_map]
        exact Nat.lt_of_le_of_lt (show _ ≤ 16 by omega) (by decide)
      rw [putK_N, ← tally_take hz]
      have kd : ∀ {o : HO}, ∀ a u, a ≠ td → H4 a = some u → upd H4 td o a = some u := fun {o} a u n h => by rw [upd_ne n]; exact h
      have hnt : ∀ xs, H4 td ≠ some (.tup xs) := fun xs h => by rw [s4 _ _ ht3] at h; cases h
      exact ⟨fun a u h => kd a u (fun e => by rw [e, hHd] at h; cases h) (s4 _ _ (s3 _ _ h)), _, _, _, rfl, kd _ _ hff (s4 _ _ hf3), (hs3.ext s4).keep kd hnt, kd _ _ hqd (s4 _ _ hq3), upd_same⟩
    · rintro σ' H3 ⟨s3, v6, v7, v8, rfl, hf3, hs3, hq3, ht3⟩
      rw [List.take_of_length_le (by rw [ht.length]; exact Nat.le_refl _)] at ht3
      have hl64 := tally_len m lot cs
      refine rb_one (rs_expr (r_append (r_var 2 ⟨f, rfl, ⟨_, hf3⟩, ra_cons (r_callTy call_tuple_of e.z_tuple (by decide +kernel) (ra_cons (r_sitems e.z_sorted (r_var 5 ⟨td, _, rfl, ht3, by omega, fun H4 l us4 ps s4 hp hps hl4 ht4 => ra_nil ⟨l, _, rfl, .inl ⟨SqL.of hl4, fun t ht0 => ra_nil ⟨vs, _, rfl, same_new ht0 _ _ (s4 _ _ hf3), ?_, ?_⟩⟩⟩⟩))))⟩)))
      · have e1 := pd_len hs3
        have e2 := pd_len hss
        rw [List.length_take] at e2
        exact Nat.lt_of_le_of_lt (show _ ≤ 10 by omega) (by decide)
      · have st := fun o => same_new (o := o) ht0
        have kf : ∀ {H5 : Hy} {o : HO}, ∀ a u, a ≠ f → H5 a = some u → upd H5 f o a = some u := fun {H5 o} a u n h => by rw [upd_ne n]; exact h
        have hf5 := fun o => st o _ _ (s4 _ _ hf3)
        have htf : t ≠ f := fun e => by rw [e, s4 _ _ hf3] at ht0; cases ht0
        have hnf : ∀ o xs, upd H4 t o f ≠ some (.tup xs) := fun o xs h => by rw [hf5 o] at h; cases h
        have hfH : H f = none := hf0
        refine ⟨fun a u h => kf a u (fun e => by rw [e, hfH] at h; cases h) (st _ _ _ (s4 _ _ (s3 _ _ h))), _, ss ++ [ps], _, _, _, _, _, _, rfl, upd_same, ?_, pd_snoc_take hss hlot ⟨hp, hps⟩⟩
        refine SumAt.snoc (((hs3.ext s4).ext (st _)).keep kf (hnf _)) (us := us4) ?_ ((ht4.ext (st _)).keep' kf (hnf _))
        rw [upd_ne htf]
        exact upd_same
  · rintro σ' H1 ⟨s1, vs, ss, v3, v4, v5, v6, v7, v8, rfl, hf1, hs1, hss⟩
    refine rb_one (rs_ret (r_callTy call_tuple_of e.z_tuple (by decide +kernel) (ra_cons (r_var 2 (ra_nil ⟨f, _, rfl, .inl ⟨SqL.of hf1, fun t ht0 => k t _ vs ss (s1.trans (same_new ht0)) upd_same (hs1.ext (same_new ht0)) ?_⟩⟩)))))
    simpa using hss
end
end My

set_option Elab.async false
set_option pp.maxSteps 1500
set_option linter.all false
set_option maxRecDepth 100000
set_option maxHeartbeats 4000000
/-! D4: tables.py, the class -/
namespace My
open PySem PySem.Spec PyProof.Rows L2 TL
/-- a table made, of the model at p -/
structure TabAt (K : PySem.W.Frag) (H : Hy) (t p : Addr) (m : MD) (cs : List CT) : Prop where
  ok : CsOk m cs
  mod : ModAt K H p m
  at_ : ∃ dx fs a b us vs ss, H t = some (.ins (He.ga K "Table") dx fs) ∧ fs.lookup ("model" : Str) = some (.ref p) ∧ fs.lookup ("counts" : Str) = some (.ref a) ∧ H a = some (.tup us) ∧ Tu gCnt H us cs ∧
    fs.lookup ("sums" : Str) = some (.ref b) ∧ H b = some (.tup vs) ∧ SumAt H vs ss ∧ SumsOf m cs ss m.lots
theorem TabAt.ext {K : PySem.W.Frag} {H H' : Hy} {t p : Addr} {m : MD} {cs : List CT} (s : Same H H') (h : TabAt K H t p m cs) : TabAt K H' t p m cs := by
  obtain ⟨dx, fs, a, b, us, vs, ss, h1, h2, h3, h4, h5, h6, h7, h8, h9⟩ := h.at_
  exact ⟨h.ok, h.mod.ext s, dx, fs, a, b, us, vs, ss, s _ _ h1, h2, h3, s _ _ h4, h5.ext s, h6, s _ _ h7, h8.ext s, h9⟩
theorem ModAt.keep {K : PySem.W.Frag} {H H' : Hy} {p x : Addr} {m : MD} {C dx : Addr} {fs : List (Str × V)} (h : ModAt K H p m) (k : Keep x H H') (hx : H x = some (.ins C dx fs)) (hp : p ≠ x) : ModAt K H' p m := by
  obtain ⟨dx, fs, a, b, c, h1, h2, h3, h4, h5, h6, h7, h8, h9⟩ := h.at_
  exact ⟨h.ok, dx, fs, a, b, c, k _ _ hp h1, h2, h3, h4, k.tup hx h5, h6, k.tup hx h7, h8, k.tup hx h9⟩
def sp_Table_init (K : PySem.W.Frag) : Sp := fun vs H Q _ => ∃ (m : MD) (x dx p a : Addr) (us : List V) (cs : List CT), vs = [.ref x, .ref p, .ref a] ∧ ModAt K H p m ∧ p ≠ x ∧ H a = some (.tup us) ∧ Tu gCnt H us cs ∧ CsOk m cs ∧ H x = some (.ins (He.ga K "Table") dx []) ∧ ∀ H', Keep x H H' → TabAt K H' x p m cs → Q .non H'
def sp_check_table (K : PySem.W.Frag) : Sp := fun vs H Q _ => ∃ (m : MD) (x p : Addr) (cs : List CT), vs = [.ref x] ∧ TabAt K H x p m cs ∧ Q .non H
section
variable {P : Program} {w : World} {K : PySem.W.Frag} {mg : Str → Option Value} {base : Heap}
theorem sc_Table_init : FnScope ["self", "model", "counts", "row", "count"] ["self", "model", "counts"] (defScope s_Table_init) := ⟨rfl, rfl, rfl, by decide +kernel, rfl, by decide +kernel, by decide +kernel⟩
theorem h_Table_init (e : EV w K mg base) : HasM P w K mg base 5 (He.fAd K d_Table_init.at_) ["self", "model", "counts"] (sp_Table_init K) := by
  refine mk_hasM (d := d_Table_init) e.f_Table_init sc_Table_init (fun _ _ _ _ _ _ us hl => match us, hl with | [_, _, _], _ => rfl) (fun vs H Q E h => by obtain ⟨_, _, _, _, _, _, _, rfl, _⟩ := h; rfl) (fun cdv A outer s H vs Q E hr h => ?_)
  obtain ⟨m, x, dx, p, a, us, cs, rfl, hm, hpx, ha, ht, hc, hx, k⟩ := h
  refine rb_cons (rs_expr (r_call (h_check_model e) hr (ra_cons (r_var 1 (ra_nil ⟨m, p, rfl, hm, ?_⟩)))))
  refine rb_cons (rs_expr (r_call (h_check_counts e) hr (ra_cons (r_var 1 (ra_cons (r_var 2 (ra_nil ⟨m, p, a, us, cs, rfl, hm, ha, ht, hc, fun H1 s1 => ?_⟩)))))))
  refine rb_cons (rs_asg (r_tup (ra_cons (r_var 1 (ra_cons (r_var 2 (ra_cons (r_call (h_sums_of e) hr (ra_cons (r_var 1 (ra_cons (r_var 2 (ra_nil ⟨m, p, a, us, cs, rfl, hm.ext s1, s1 _ _ ha, ht.ext s1, fun e he => (hc.row e he).len, hc.len, fun b H2 vs ss s2 hb hs hss => ra_nil ⟨by show 3 ≤ sizeLine; decide, fun t ht0 => ?_⟩⟩)))))))))))))
  have st := fun o => same_new (o := o) ht0
  have s3 := fun o => s1.trans (s2.trans (st o))
  refine rg_tup ⟨t, _, rfl, SqT.of upd_same, rfl, rgs_cons (rg_attr (r_var 0 ⟨x, _, dx, _, rfl, s3 _ _ _ hx, e.c_Table, e.n_Table_model, by decide, ?_⟩))⟩
  refine rgs_cons (rg_attr (r_var 0 ⟨x, _, dx, _, rfl, upd_same, e.c_Table, e.n_Table_counts, (by show (1 : Nat) < 1000; decide), ?_⟩))
  refine rgs_cons (rg_attr (r_var 0 ⟨x, _, dx, _, rfl, upd_same, e.c_Table, e.n_Table_sums, (by show (2 : Nat) < 1000; decide), rgs_nil ?_⟩))
  have k1 : ∀ {H : Hy} {o1 o2 o3 : HO}, Keep x H (upd (upd (upd H x o1) x o2) x o3) := Keep.upd.trans (Keep.upd.trans Keep.upd)
  have k2 : ∀ {o o1 o2 o3 : HO}, Keep x H (upd (upd (upd (upd H2 t o) x o1) x o2) x o3) := fun {o o1 o2 o3} => (Keep.of (s3 o)).trans k1
  have hxx : ∀ xs, H x ≠ some (.tup xs) := fun xs h => by rw [hx] at h; cases h
  refine rb_one (rs_fld (r_callB (cr_sum rfl) e.z_sum (by decide +kernel) (ra_cons (r_lc [("row", 3), ("count", 4)] sc_Table_init.nd (blkOk_by (N := ["self", "model", "counts", "row", "count"]) (sc := defScope s_Table_init) (by decide +kernel)) (ri_tup (r_var 2 ⟨a, rfl, ⟨_, SqT.of (k2.tup hx ha)⟩, fun D hD => ?_⟩))))))
  have ht2 := fun (o o1 o2 o3 : HO) => ht.keep' (k2 (o := o) (o1 := o1) (o2 := o2) (o3 := o3)) hxx
  refine lc_f (walk_tup (xs := us)) hD (fun H' s => SqT.of (s _ _ (k2.tup hx ha))) (fun i H x H' y => by rw [y.1]; exact Same.refl _) (fun i => ((cs.map (·.2)).take i).map V.int) rfl (fun i hi => ?_) (fun i x H4 H5 hi s4 hd y => ?_) (fun H4 s4 hd => ?_)
  · rw [List.length_map]
    refine Nat.lt_of_le_of_lt (List.length_take_le _ _) ?_
    rw [ht.length] at hi
    exact Nat.lt_of_le_of_lt (Nat.le_trans hi hc.len) (by decide)
  · obtain ⟨rfl, hx⟩ := y
    obtain ⟨z, t, hz, rfl, hzt⟩ := (ht2 _ _ _ _).get hx
    intro s0 H0 C cl fp
    refine rg_tup ⟨t, _, rfl, SqT.of (s4 _ _ hzt), rfl, rgs_cons (rg_name 3 sc_Table_init.nd (rgs_cons (rg_name 4 sc_Table_init.nd (rgs_nil ⟨rfl, ?_⟩))))⟩
    intro s0 H0 C cl fp
    refine rts_nil (iteT ?_)
    intro s0 H0 C cl fp
    refine r_var 4 ⟨Same.refl _, ?_⟩
    rw [List.take_succ, List.getElem?_map, hz, List.map_append]
    rfl
  refine ra_nil ⟨D, (cs.map (·.2)).take us.length, rfl, SqL.of hd, ?_⟩
  refine r_var 0 ⟨x, _, dx, _, rfl, s4 _ _ upd_same, e.c_Table, e.n_Table_many, (by show (3 : Nat) < 1000; decide), ?_⟩
  have k3 : ∀ {o : HO}, Keep x H (upd H4 x o) := fun {o} => k2.trans ((Keep.of s4).trans Keep.upd)
  refine k _ k3 ⟨hc, hm.keep k3 hx hpx, dx, _, a, b, us, vs, ss, upd_same, rfl, rfl, k3.tup hx ha, ht.keep' k3 hxx, rfl, ?_, ?_, hss⟩
  · have k4 : ∀ {o o1 o2 o3 : HO}, Keep x H2 (upd (upd (upd (upd H2 t o) x o1) x o2) x o3) := fun {o o1 o2 o3} => (Keep.of (st o)).trans k1
    exact Keep.upd.tup (s4 _ _ upd_same) (s4 _ _ (k4.tup (s2 _ _ (s1 _ _ hx)) hb))
  · have k4 : ∀ {o o1 o2 o3 : HO}, Keep x H2 (upd (upd (upd (upd H2 t o) x o1) x o2) x o3) := fun {o o1 o2 o3} => (Keep.of (st o)).trans k1
    have hx2 : ∀ xs, H2 x ≠ some (.tup xs) := fun xs h => by rw [s2 _ _ (s1 _ _ hx)] at h; cases h
    refine ((hs.keep k4 hx2).ext s4).keep Keep.upd fun xs h => ?_
    rw [s4 _ _ upd_same] at h
    cases h
theorem sc_check_table : FnScope ["value"] ["value"] (defScope s_check_table) := ⟨rfl, rfl, rfl, by decide +kernel, rfl, by decide +kernel, by decide +kernel⟩
theorem h_check_table (e : EV w K mg base) : Has P w K mg base 1 "check_table" ["value"] (sp_check_table K) := by
  refine mk_has (d := d_check_table) e.g_check_table e.f_check_table sc_check_table (fun _ _ _ _ _ _ us hl => match us, hl with | [_], _ => rfl) (fun vs H Q E h => by obtain ⟨_, _, _, _, rfl, _⟩ := h; rfl) (fun cdv A outer s H vs Q E hr h => ?_)
  obtain ⟨m, x, p, cs, rfl, hx, k⟩ := h
  obtain ⟨dx, fs, _, _, _, _, _, h1, _⟩ := hx.at_
  refine rb_one (rs_if (rt_not (rt_val (r_callB (C8.call_isC e.o_Table) e.z_isinstance (by decide +kernel) (ra_cons (r_var 0 (ra_cons (r_gref e.g_Table (ra_nil ⟨x, dx, fs, rfl, h1, b_no rfl (rb_nil k)⟩)))))))))
end
end My

set_option Elab.async false
set_option pp.maxSteps 1500
set_option linter.all false
set_option maxRecDepth 100000
set_option maxHeartbeats 4000000
/-! E1: ranges.py: held, ends_by -/
namespace My
open PySem PySem.Spec PyProof.Rows L2 TL
def heldF (m : MD) (cs : List CT) (r cols : LN) : Int := ((cs.filter fun e => decide (pick m e.1 cols = pick m r cols)).map (·.2)).sum
def minL : List Int → Int
  | [] => 0
  | [a] => a
  | a :: b :: r => if minL (b :: r) < a then minL (b :: r) else a
theorem minL_mem : ∀ {l : List Int}, l ≠ [] → minL l ∈ l
  | [], h => absurd rfl h
  | [a], _ => List.mem_singleton.mpr rfl
  | a :: b :: r, _ => by
    have ih := minL_mem (l := b :: r) (by simp)
    unfold minL
    split
    · exact List.mem_cons_of_mem _ ih
    · exact List.mem_cons_self ..
theorem minL_le : ∀ {l : List Int}, ∀ y ∈ l, minL l ≤ y
  | [], y, h => by cases h
  | [a], y, h => by
    obtain rfl := List.mem_singleton.mp h
    exact Int.le_refl _
  | a :: b :: r, y, h => by
    have ih := minL_le (l := b :: r)
    unfold minL
    rcases List.mem_cons.mp h with rfl | h
    · split <;> omega
    · have := ih y h
      split <;> omega
def lowF (m : MD) (cs : List CT) (r : LN) (ol : List Pr) : Int := let x := (ol.map fun o => heldF m cs r o.1).sum - ((ol.drop 1).map fun o => heldF m cs r o.2).sum; if x > 0 then x else 0
def topF (m : MD) (cs : List CT) (r : LN) (ol : List Pr) : Int := minL (ol.map fun o => heldF m cs r o.1)
/-- counts in the heap -/
structure CntAt (H : Hy) (a : Addr) (m : MD) (cs : List CT) : Prop where
  at_ : ∃ us, H a = some (.tup us) ∧ Tu gCnt H us cs
  len : ∀ e ∈ cs, e.1.length = m.cols.length
  few : cs.length ≤ 16
theorem CntAt.ext {H H' : Hy} {a : Addr} {m : MD} {cs : List CT} (h : CntAt H a m cs) (s : Same H H') : CntAt H' a m cs := let ⟨us, h1, h2⟩ := h.at_; ⟨⟨us, s _ _ h1, h2.ext s⟩, h.len, h.few⟩
def sp_held (K : PySem.W.Frag) : Sp := fun vs H Q _ => ∃ (m : MD) (p a : Addr) (cs : List CT) (r cols : LN), vs = [.ref p, .ref a, .str (S r), .str (S cols)] ∧ ModAt K H p m ∧ CntAt H a m cs ∧ r.length = m.cols.length ∧ (∀ c ∈ cols, c ∈ m.cols) ∧ cols.length ≤ 100 ∧ ∀ H', Same H H' → Q (.int (heldF m cs r cols)) H'
structure OlOk (m : MD) (ol : List Pr) : Prop where
  ne : 1 ≤ ol.length
  few : ol.length ≤ 11
  lot : ∀ o ∈ ol, (∀ c ∈ o.1, c ∈ m.cols) ∧ o.1.length ≤ 100
  sep : ∀ o ∈ ol, (∀ c ∈ o.2, c ∈ m.cols) ∧ o.2.length ≤ 100
def sp_ends_by (K : PySem.W.Frag) : Sp := fun vs H Q _ => ∃ (m : MD) (p q a : Addr) (cs : List CT) (r : LN) (us : List V) (its : List (LN × V × LN)) (ol : List Pr), vs = [.ref p, .ref q, .ref a, .str (S r)] ∧ ModAt K H p m ∧ CntAt H a m cs ∧ r.length = m.cols.length ∧
  H q = some (.lst us) ∧ Tu gOrd H us its ∧ (its.map fun i => (i.1, i.2.2)) = ol ∧ OlOk m ol ∧ ∀ t H', Same H H' → H' t = some (.tup [.int (lowF m cs r ol), .int (topF m cs r ol)]) → Q (.ref t) H'
theorem filter_take {α : Type} {p : α → Bool} {l : List α} {i : Nat} {x : α} (h : l[i]? = some x) : (l.take (i + 1)).filter p = (l.take i).filter p ++ if p x = true then [x] else [] := by
  rw [List.take_succ, h, List.filter_append]
  cases hp : p x <;> simp [hp]
section
variable {P : Program} {w : World} {K : PySem.W.Frag} {mg : Str → Option Value} {base : Heap}
theorem sc_held : FnScope ["model", "counts", "row", "columns", "wanted", "other", "many"] ["model", "counts", "row", "columns"] (defScope s_held) := ⟨rfl, rfl, rfl, by decide +kernel, rfl, by decide +kernel, by decide +kernel⟩
theorem h_held (e : EV w K mg base) : Has P w K mg base 3 "held" ["model", "counts", "row", "columns"] (sp_held K) := by
  refine mk_has (d := d_held) e.g_held e.f_held sc_held (fun _ _ _ _ _ _ us hl => match us, hl with | [_, _, _, _], _ => rfl) (fun vs H Q E h => by obtain ⟨_, _, _, _, _, _, rfl, _⟩ := h; rfl) (fun cdv A outer s H vs Q E hr h => ?_)
  obtain ⟨m, p, a, cs, r, cols, rfl, hm, hc, hr1, hcol, hl, k⟩ := h
  obtain ⟨us, ha, ht⟩ := hc.at_
  refine rb_cons (rs_set 4 sc_held.nd (r_call (h_values_on e) hr (ra_cons (r_var 0 (ra_cons (r_var 2 (ra_cons (r_var 3 (ra_nil ⟨m, p, r, cols, rfl, hm, hr1, hcol, hl, fun H1 s1 => ?_⟩)))))))))
  refine rb_one (rs_ret (r_callB (cr_sum rfl) e.z_sum (by decide +kernel) (ra_cons (r_lc [("other", 5), ("many", 6)] sc_held.nd (blkOk_by (N := ["model", "counts", "row", "columns", "wanted", "other", "many"]) (sc := defScope s_held) (by decide +kernel)) (ri_tup (r_var 1 ⟨a, rfl, ⟨_, SqT.of (s1 _ _ ha)⟩, fun D hD => ?_⟩))))))
  refine lc_f (walk_tup (xs := us)) hD (fun H' s => SqT.of (s _ _ (s1 _ _ ha))) (fun i H x H' y => by rw [y.1]; exact Same.refl _) (fun i => (((cs.take i).filter fun e => decide (pick m e.1 cols = pick m r cols)).map (·.2)).map V.int) rfl (fun i hi => ?_) (fun i x H4 H5 hi s4 hd y => ?_) (fun H4 s4 hd => ?_)
  · rw [List.length_map, List.length_map]
    have h1 : ((cs.take i).filter fun e => decide (pick m e.1 cols = pick m r cols)).length ≤ (cs.take i).length := List.length_filter_le _ _
    have h2 := List.length_take_le i cs
    have h3 := hc.few
    have := List.length_take_le' i cs
    exact Nat.lt_of_le_of_lt (show _ ≤ 16 by omega) (by decide)
  · obtain ⟨rfl, hx⟩ := y
    obtain ⟨z, t, hz, rfl, hzt⟩ := (ht.ext (s1.trans s4)).get hx
    have hzl := hc.len z (List.mem_of_getElem? hz)
    intro s0 H0 C cl fp
    refine rg_tup ⟨t, _, rfl, SqT.of hzt, rfl, rgs_cons (rg_name 5 sc_held.nd (rgs_cons (rg_name 6 sc_held.nd (rgs_nil ⟨rfl, ?_⟩))))⟩
    intro s0 H0 C cl fp
    refine rts_one (rt_eq hr.units (r_call (h_values_on e) hr (ra_cons (r_var 0 (ra_cons (r_var 5 (ra_cons (r_var 3 (ra_nil ⟨m, p, z.1, cols, rfl, hm.ext (s1.trans s4), hzl, hcol, hl, fun H6 s6 => r_var 4 (gv rfl (eq_ss ?_))⟩)))))))))
    rw [filter_take hz]
    by_cases h : pick m z.1 cols = pick m r cols
    · refine b_yes (b := decide (V.str (S (pick m z.1 cols)) = V.str (S (pick m r cols)))) (by rw [h, decide_eq_true rfl]) ?_
      intro s0 H0 C cl fp
      refine r_var 6 ⟨s6, ?_⟩
      rw [if_pos (decide_eq_true h), List.map_append, List.map_append]
      rfl
    · refine b_no (b := decide (V.str (S (pick m z.1 cols)) = V.str (S (pick m r cols)))) (decide_eq_false fun q => h (S_inj (V.str.inj q))) ⟨s6, ?_⟩
      rw [if_neg (by rw [decide_eq_false h]; exact Bool.false_ne_true), List.append_nil]
  rw [ht.length, List.take_length] at hd
  exact ra_nil ⟨D, _, rfl, SqL.of hd, k _ (s1.trans s4)⟩
theorem sc_ends_by : FnScope ["model", "order", "counts", "row", "lots", "lot", "parent", "separator", "between"] ["model", "order", "counts", "row"] (defScope s_ends_by) := ⟨rfl, rfl, rfl, by decide +kernel, rfl, by decide +kernel, by decide +kernel⟩
theorem h_ends_by (e : EV w K mg base) : Has P w K mg base 4 "ends_by" ["model", "order", "counts", "row"] (sp_ends_by K) := by
  refine mk_has (d := d_ends_by) e.g_ends_by e.f_ends_by sc_ends_by (fun _ _ _ _ _ _ us hl => match us, hl with | [_, _, _, _], _ => rfl) (fun vs H Q E h => by obtain ⟨_, _, _, _, _, _, _, _, _, rfl, _⟩ := h; rfl) (fun cdv A outer s H vs Q E hr h => ?_)
  obtain ⟨m, p, q, a, cs, r, us, its, ol, rfl, hm, hc, hr1, hq, ht, hits, ho, k⟩ := h
  have hlen : its.length = ol.length := by rw [← hits, List.length_map]
  have hget : ∀ {i : Nat} {z : LN × V × LN}, its[i]? = some z → ol[i]? = some (z.1, z.2.2) := fun {i z} hz => by rw [← hits, List.getElem?_map, hz]; rfl
  refine rb_cons (rs_lc 4 [("lot", 5), ("parent", 6), ("separator", 7)] sc_ends_by.nd (blkOk_by (N := ["model", "order", "counts", "row", "lots", "lot", "parent", "separator", "between"]) (sc := defScope s_ends_by) (by decide +kernel)) (by rfl) (ri_list (r_var 1 ⟨q, rfl, ⟨_, SqL.of hq⟩, fun D hD => ?_⟩)))
  refine lc_f (walk_list (xs := us)) hD (fun H' s => SqL.of (s _ _ hq)) (fun i H x H' y => by rw [y.1]; exact Same.refl _) (fun i => ((ol.take i).map fun o => heldF m cs r o.1).map V.int) rfl (fun i hi => ?_) (fun i x H4 H5 hi s4 hd y => ?_) (fun H1 s1 hd => ?_)
  · rw [List.length_map, List.length_map]
    have := List.length_take_le' i ol
    exact Nat.lt_of_le_of_lt (show _ ≤ 11 from Nat.le_trans this ho.few) (by decide)
  · obtain ⟨rfl, hx⟩ := y
    obtain ⟨z, t, hz, rfl, hzt⟩ := (ht.ext s4).get hx
    have hol := hget hz
    have hlo := ho.lot _ (List.mem_of_getElem? hol)
    intro s0 H0 C cl fp
    refine rg_tup ⟨t, _, rfl, SqT.of hzt, rfl, rgs_cons (rg_name 5 sc_ends_by.nd (rgs_cons (rg_name 6 sc_ends_by.nd (rgs_cons (rg_name 7 sc_ends_by.nd (rgs_nil ⟨rfl, ?_⟩))))))⟩
    intro s0 H0 C cl fp
    refine rts_nil (iteT ?_)
    intro s0 H0 C cl fp
    refine r_call (h_held e) hr (ra_cons (r_var 0 (ra_cons (r_var 2 (ra_cons (r_var 3 (ra_cons (r_var 5 (ra_nil ⟨m, p, a, cs, r, z.1, rfl, hm.ext s4, hc.ext s4, hr1, hlo.1, hlo.2, fun H6 s6 => ⟨s6, ?_⟩⟩)))))))))
    rw [List.take_succ, hol, List.map_append, List.map_append]
    rfl
  rw [ht.length, hlen, List.take_length] at hd
  refine rb_cons (rs_lc 8 [("lot", 5), ("parent", 6), ("separator", 7)] sc_ends_by.nd (blkOk_by (N := ["model", "order", "counts", "row", "lots", "lot", "parent", "separator", "between"]) (sc := defScope s_ends_by) (by decide +kernel)) (by rfl) (ri_list (r_slL (r_var 1 (ro_some (r_int ⟨1, rfl, ro_none ⟨q, us, rfl, SqL.of (s1 _ _ hq), fun q2 hq2 => ⟨q2, rfl, ⟨_, SqL.of upd_same⟩, fun D2 hD2 => ?_⟩⟩⟩))))))
  rw [cutV1] at hD2 ⊢
  have sq := fun o => same_new (o := o) hq2
  have ht1 : Tu gOrd (upd H1 q2 (.lst (us.drop 1))) (us.drop 1) (its.drop 1) := by
    have h0 := (ht.ext s1).ext (sq (.lst (us.drop 1)))
    cases h0 with
    | nil => exact Paired.nil
    | cons _ h => exact h
  have hget1 : ∀ {i : Nat} {z : LN × V × LN}, (its.drop 1)[i]? = some z → (ol.drop 1)[i]? = some (z.1, z.2.2) := fun {i z} hz => by
    rw [List.getElem?_drop] at hz ⊢
    exact hget hz
  refine lc_f (walk_list (xs := us.drop 1)) hD2 (fun H' s => SqL.of (s _ _ upd_same)) (fun i H x H' y => by rw [y.1]; exact Same.refl _) (fun i => (((ol.drop 1).take i).map fun o => heldF m cs r o.2).map V.int) rfl (fun i hi => ?_) (fun i x H4 H5 hi s4 hd y => ?_) (fun H2 s2 hd2 => ?_)
  · rw [List.length_map, List.length_map]
    have := List.length_take_le' i (ol.drop 1)
    rw [List.length_drop] at this
    have := ho.few
    exact Nat.lt_of_le_of_lt (show _ ≤ 11 by omega) (by decide)
  · obtain ⟨rfl, hx⟩ := y
    obtain ⟨z, t, hz, rfl, hzt⟩ := (ht1.ext s4).get hx
    have hol := hget1 hz
    have hlo := ho.sep _ (List.mem_of_mem_drop (List.mem_of_getElem? hol))
    have s5 := s1.trans ((sq _).trans s4)
    intro s0 H0 C cl fp
    refine rg_tup ⟨t, _, rfl, SqT.of hzt, rfl, rgs_cons (rg_name 5 sc_ends_by.nd (rgs_cons (rg_name 6 sc_ends_by.nd (rgs_cons (rg_name 7 sc_ends_by.nd (rgs_nil ⟨rfl, ?_⟩))))))⟩
    intro s0 H0 C cl fp
    refine rts_nil (iteT ?_)
    intro s0 H0 C cl fp
    refine r_call (h_held e) hr (ra_cons (r_var 0 (ra_cons (r_var 2 (ra_cons (r_var 3 (ra_cons (r_var 7 (ra_nil ⟨m, p, a, cs, r, z.2.2, rfl, hm.ext s5, hc.ext s5, hr1, hlo.1, hlo.2, fun H6 s6 => ⟨s6, ?_⟩⟩)))))))))
    rw [List.take_succ, hol, List.map_append, List.map_append]
    rfl
  have h3 : (us.drop 1).length = (ol.drop 1).length := by rw [List.length_drop, List.length_drop, ht.length, hlen]
  rw [h3, List.take_length] at hd2
  have hd1 : H2 D = some (.lst ((ol.map fun o => heldF m cs r o.1).map V.int)) := s2 _ _ (sq _ _ _ hd)
  refine rb_one (rs_ret (r_tup (ra_cons (r_callB (call_max2 rfl) e.z_max (by decide +kernel) (ra_cons (r_int (ra_cons (r_sub (r_callB (cr_sum rfl) e.z_sum (by decide +kernel) (ra_cons (r_var 4 (ra_nil ⟨D, _, rfl, SqL.of hd1, r_callB (cr_sum rfl) e.z_sum (by decide +kernel) (ra_cons (r_var 8 (ra_nil ⟨D2, _, rfl, SqL.of hd2, sub_ii (ra_nil ⟨0, _, rfl, ?_⟩)⟩)))⟩))))))))))))
  refine ra_cons (r_callB (cr_min rfl) e.z_min (by decide +kernel) (ra_cons (r_var 4 (ra_nil ⟨D, _, rfl, SqL.of hd1, by rw [List.length_map]; exact ho.ne, fun x hx1 hx2 => ra_nil ⟨by show 2 ≤ sizeLine; decide, fun t ht0 => k t _ (s1.trans ((sq _).trans (s2.trans (same_new ht0)))) ?_⟩⟩))))
  rw [upd_same]
  have ex : x = topF m cs r ol := by
    unfold topF
    have hne : (ol.map fun o => heldF m cs r o.1) ≠ [] := fun z => by rw [z] at hx1; cases hx1
    have h1 := hx2 _ (minL_mem hne)
    have h2 := minL_le x hx1
    omega
  rw [ex]
  rfl
end
end My

set_option Elab.async false
set_option pp.maxSteps 1500
set_option linter.all false
set_option maxRecDepth 100000
set_option maxHeartbeats 4000000
/-! E2: ranges.py: span, leaks -/
namespace My
open PySem PySem.Spec PyProof.Rows L2 TL
/-- the lots hang as a tree, in this order -/
structure Tree (m : MD) (ol : List Pr) : Prop where
  ok : OlOk m ol
  ex : ∃ (n : Nat) (fs : List Pr) (z : LN), earsF n m.lots = some (fs, z) ∧ fs.length ≤ 10 ∧ (∀ f ∈ fs, f.2 ∈ (earList fs z).map (·.1)) ∧ (∀ f ∈ fs, f.1.length ≤ 6) ∧ ordOf fs z = ol
theorem MOk.lots_ok {m : MD} (h : MOk m) : LotsOk m.lots := ⟨fun l hl => (h.lot l hl).2.2.2, h.k10⟩
def leakB (m : MD) (cs : List CT) (ol : List Pr) (most : Int) (r : LN) : Bool := decide (lowF m cs r ol = topF m cs r ol) && (decide (1 ≤ lowF m cs r ol) && decide (lowF m cs r ol ≤ most))
def leakF (m : MD) (cs : List CT) (ol : List Pr) (most : Int) : List LN := (rowsOf m.lev).filter (leakB m cs ol most)
theorem TabAt.cnt {K : PySem.W.Frag} {H : Hy} {t p : Addr} {m : MD} {cs : List CT} (h : TabAt K H t p m cs) : ∃ dx fs a, H t = some (.ins (He.ga K "Table") dx fs) ∧ fs.lookup ("model" : Str) = some (.ref p) ∧ fs.lookup ("counts" : Str) = some (.ref a) ∧ CntAt H a m cs := by
  obtain ⟨dx, fs, a, b, us, vs, ss, h1, h2, h3, h4, h5, _⟩ := h.at_
  exact ⟨dx, fs, a, h1, h2, h3, ⟨us, h4, h5⟩, fun e he => (h.ok.row e he).len, h.ok.len⟩
def sp_span (K : PySem.W.Frag) : Sp := fun vs H Q _ => ∃ (m : MD) (t p : Addr) (cs : List CT) (r : LN) (ol : List Pr), vs = [.ref t, .str (S r)] ∧ TabAt K H t p m cs ∧ RowOk m r ∧ Tree m ol ∧ ∀ q H', Same H H' → H' q = some (.tup [.int (lowF m cs r ol), .int (topF m cs r ol)]) → Q (.ref q) H'
def sp_leaking (K : PySem.W.Frag) : Sp := fun vs H Q _ => ∃ (m : MD) (p a : Addr) (cs : List CT) (most : Int) (ol : List Pr), vs = [.ref p, .ref a, .int most] ∧ ModAt K H p m ∧ CntAt H a m cs ∧ Tree m ol ∧ ∀ q H', Same H H' → H' q = some (.lst (strsV (leakF m cs ol most))) → Q (.ref q) H'
def sp_check_most (K : PySem.W.Frag) : Sp := fun vs H Q _ => ∃ (m : MD) (t p : Addr) (cs : List CT) (most : Int), vs = [.ref t, .int most] ∧ TabAt K H t p m cs ∧ 1 ≤ most ∧ most ≤ 1000 ∧ Q .non H
def sp_leaks (K : PySem.W.Frag) : Sp := fun vs H Q _ => ∃ (m : MD) (t p : Addr) (cs : List CT) (most : Int) (ol : List Pr), vs = [.ref t, .int most] ∧ TabAt K H t p m cs ∧ 1 ≤ most ∧ most ≤ 1000 ∧ Tree m ol ∧ ∀ q H', Same H H' → H' q = some (.tup (strsV (leakF m cs ol most))) → Q (.ref q) H'
section
variable {P : Program} {w : World} {K : PySem.W.Frag} {mg : Str → Option Value} {base : Heap}
theorem sc_span : FnScope ["table", "row", "order"] ["table", "row"] (defScope s_span) := ⟨rfl, rfl, rfl, by decide +kernel, rfl, by decide +kernel, by decide +kernel⟩
theorem h_span (e : EV w K mg base) : Has P w K mg base 5 "span" ["table", "row"] (sp_span K) := by
  refine mk_has (d := d_span) e.g_span e.f_span sc_span (fun _ _ _ _ _ _ us hl => match us, hl with | [_, _], _ => rfl) (fun vs H Q E h => by obtain ⟨_, _, _, _, _, _, rfl, _⟩ := h; rfl) (fun cdv A outer s H vs Q E hr h => ?_)
  obtain ⟨m, t, p, cs, r, ol, rfl, ht, hrow, tr, k⟩ := h
  obtain ⟨n, fs, z, hn, hf, hM, h6, hord⟩ := tr.ex
  obtain ⟨dx, gs, a, h1, h2, h3, hcnt⟩ := ht.cnt
  obtain ⟨mdx, ms, _, b, _, m1, m2, m3, m4, m5, m6, m7, _⟩ := ht.mod.at_
  refine rb_cons (rs_expr (r_call (h_check_table e) hr (ra_cons (r_var 0 (ra_nil ⟨m, t, p, cs, rfl, ht, ?_⟩)))))
  refine rb_cons (rs_expr (r_call (h_check_row e) hr (ra_cons (r_fld (r_var 0 ⟨t, _, dx, _, _, rfl, h1, e.c_Table, e.n_Table_model, h2, ra_cons (r_var 1 (ra_nil ⟨m, p, r, rfl, ht.mod, hrow, fun H1 s1 => ?_⟩))⟩)))))
  refine rb_cons (rs_set 2 sc_span.nd (r_call (h_order_of e) hr (ra_cons (r_fld (r_fld (r_var 0 ⟨t, _, dx, _, _, rfl, s1 _ _ h1, e.c_Table, e.n_Table_model, h2, p, _, mdx, _, _, rfl, s1 _ _ m1, e.c_Model, e.n_Model_lots, m6, ra_nil ⟨b, m.lots, n, fs, z, rfl, SqT.of (s1 _ _ m7), ht.mod.ok.lots_ok, hn, hf, hM, h6, fun q H2 us its s2 hq hus hits => ?_⟩⟩))))))
  refine rb_cons (rs_if (rt_isN0 (r_var 2 ⟨rfl, rb_nil ?_⟩)))
  have s12 := s1.trans s2
  refine rb_one (rs_ret (r_call (h_ends_by e) hr (ra_cons (r_fld (r_var 0 ⟨t, _, dx, _, _, rfl, s12 _ _ h1, e.c_Table, e.n_Table_model, h2, ra_cons (r_var 2 (ra_cons (r_fld (r_var 0 ⟨t, _, dx, _, _, rfl, s12 _ _ h1, e.c_Table, e.n_Table_counts, h3, ra_cons (r_var 1 (ra_nil ⟨m, p, q, a, cs, r, us, its, ol, rfl, ht.mod.ext s12, hcnt.ext s12, hrow.len, hq, hus, hits.trans hord, tr.ok, fun q2 H3 s3 hq2 => k q2 H3 (s12.trans s3) hq2⟩))⟩))))⟩)))))
theorem sc_leaking : FnScope ["model", "counts", "most", "order", "found", "tables", "row", "low", "high"] ["model", "counts", "most"] (defScope s_leaking) := ⟨rfl, rfl, rfl, by decide +kernel, rfl, by decide +kernel, by decide +kernel⟩
theorem h_leaking (e : EV w K mg base) : Has P w K mg base 5 "leaking" ["model", "counts", "most"] (sp_leaking K) := by
  refine mk_has (d := d_leaking) e.g_leaking e.f_leaking sc_leaking (fun _ _ _ _ _ _ us hl => match us, hl with | [_, _, _], _ => rfl) (fun vs H Q E h => by obtain ⟨_, _, _, _, _, _, rfl, _⟩ := h; rfl) (fun cdv A outer s H vs Q E hr h => ?_)
  obtain ⟨m, p, a, cs, most, ol, rfl, hm, hc, tr, k⟩ := h
  obtain ⟨n, fs, z, hn, hf, hM, h6, hord⟩ := tr.ex
  obtain ⟨mdx, ms, _, b, c, m1, m2, m3, m4, m5, m6, m7, m8, m9⟩ := hm.at_
  refine rb_cons (rs_par 3 4 sc_leaking.nd (ra_cons (r_call (h_order_of e) hr (ra_cons (r_fld (r_var 0 ⟨p, _, mdx, _, _, rfl, m1, e.c_Model, e.n_Model_lots, m6, ra_nil ⟨b, m.lots, n, fs, z, rfl, SqT.of m7, hm.ok.lots_ok, hn, hf, hM, h6, fun q H2 us its s2 hq hus hits => ra_cons (r_lst (ra_nil ⟨by show 0 ≤ sizeLine; decide, fun f hf0 => ra_nil ⟨_, _, rfl, ?_⟩⟩))⟩⟩))))))
  have sf := fun o => same_new (o := o) hf0
  have hqf : q ≠ f := fun e => by rw [← e, hq] at hf0; cases hf0
  have hfH : H f = none := s2.free hf0
  refine rb_cons (rs_set 5 sc_leaking.nd (r_if (rt_isN0 (r_var 3 ⟨rfl, iteF (r_non ?_)⟩))))
  refine rb_cons (rs_for PassesOwn.never (ri_tup (r_fld (r_var 0 ⟨p, _, mdx, _, _, rfl, sf _ _ _ (s2 _ _ m1), e.c_Model, e.n_Model_rows, m8, c, rfl, ⟨_, SqT.of (sf _ _ _ (s2 _ _ m9))⟩, ?_⟩))))
  have hz : (rowsOf m.lev).length ≤ 4096 := Nat.le_trans (rows_len _ hm.ok.lv) (Nat.le_trans (Nat.pow_le_pow_right (by decide) (hm.ok.ll ▸ hm.ok.n6)) (show 4 ^ 6 ≤ 4096 by decide))
  refine rfor_it (walk_tup (xs := strsV (rowsOf m.lev))) (fun i σ' H' => Same H H' ∧ ∃ (v6 v7 v8 : Option V), σ' = [some (.ref p), some (.ref a), some (.int most), some (.ref q), some (.ref f), some .non, v6, v7, v8] ∧ H' f = some (.lst (strsV (((rowsOf m.lev).take i).filter (leakB m cs ol most)))) ∧ H' q = some (.lst us) ∧ Tu gOrd H' us its)
    ⟨s2.trans (sf _), _, _, _, rfl, upd_same, sf _ _ _ hq, hus.ext (sf _)⟩ (fun i σ' H' _ q => SqT.of (q.1 _ _ m9)) ?_ ?_
  · rintro i x σ' H3 H3' hi ⟨s3, v6, v7, v8, rfl, hf3, hq3, hu3⟩ ⟨rfl, hx⟩
    obtain ⟨r, hrr, rfl⟩ := strsV_get hx
    have hrl : r.length = m.cols.length := (rows_mem_len _ _ (List.mem_of_getElem? hrr)).trans hm.ok.ll
    refine rg_name 6 sc_leaking.nd (rb_cons (rs_asg (r_if (rt_isN0 (r_var 3 ⟨rfl, iteF (r_call (h_ends_by e) hr (ra_cons (r_var 0 (ra_cons (r_var 3 (ra_cons (r_var 1 (ra_cons (r_var 6 (ra_nil ⟨m, p, q, a, cs, r, us, its, ol, rfl, hm.ext s3, hc.ext s3, hrl, hq3, hu3, hits.trans hord, tr.ok, fun t H4 s4 ht => ?_⟩))))))))))⟩)))))
    refine rg_tup ⟨t, _, rfl, SqT.of ht, rfl, rgs_cons (rg_name 7 sc_leaking.nd (rgs_cons (rg_name 8 sc_leaking.nd (rgs_nil ?_))))⟩
    have hft := filter_take (p := leakB m cs ol most) hrr
    have out : leakB m cs ol most r = false → H4 f = some (.lst (strsV (((rowsOf m.lev).take (i + 1)).filter (leakB m cs ol most)))) := fun hB => by
      rw [hft, hB, if_neg Bool.false_ne_true, List.append_nil]
      exact s4 _ _ hf3
    refine rb_one (rs_if (rt_bool (rw_and (rt_eq hr.units (r_var 7 (r_var 8 (gv rfl (eq_ii ?_))))))))
    by_cases h : lowF m cs r ol = topF m cs r ol
    · refine b_yes (b := decide (V.int (lowF m cs r ol) = V.int (topF m cs r ol))) (by rw [h, decide_eq_true rfl]) ?_
      refine rw_and1 (rt_chain oLe oLe (r_int (r_var 7 (gv rfl (le_ii ?_)))))
      refine b_d (fun h1 => ?_) (fun h1 => rb_nil ⟨s3.trans s4, _, _, _, rfl, out ?_, s4 _ _ hq3, hu3.ext s4⟩)
      · refine r_var 2 (gv rfl (le_ii ?_))
        refine b_d (fun h2 => ?_) (fun h2 => rb_nil ⟨s3.trans s4, _, _, _, rfl, out ?_, s4 _ _ hq3, hu3.ext s4⟩)
        · have hB : leakB m cs ol most r = true := by
            unfold leakB
            rw [decide_eq_true h, decide_eq_true h1, decide_eq_true h2]
            rfl
          refine rb_one (rs_expr (r_append (r_var 4 ⟨f, rfl, ⟨_, s4 _ _ hf3⟩, ra_cons (r_var 6 (ra_nil ⟨_, _, rfl, s4 _ _ hf3, ?_, ?_⟩))⟩)))
          · rw [List.length_map, List.length_map]
            have g1 : (((rowsOf m.lev).take i).filter (leakB m cs ol most)).length ≤ ((rowsOf m.lev).take i).length := List.length_filter_le _ _
            have g2 := List.length_take_le' i (rowsOf m.lev)
            exact Nat.lt_of_le_of_lt (show _ ≤ 4096 by omega) (by decide)
          · have kf : ∀ {H5 : Hy} {o : HO}, ∀ a u, a ≠ f → H5 a = some u → upd H5 f o a = some u := fun {H5 o} a u n h => by rw [upd_ne n]; exact h
            refine ⟨fun a u h => kf a u (fun e => by rw [e, hfH] at h; cases h) (s4 _ _ (s3 _ _ h)), _, _, _, rfl, ?_, kf _ _ hqf (s4 _ _ hq3), (hu3.ext s4).keep kf ⟨_, s4 _ _ hf3⟩⟩
            rw [hft, hB, if_pos rfl, show ∀ l : List LN, strsV (l ++ [r]) = strsV l ++ [V.str (S r)] from fun l => by simp]
            exact upd_same
        · unfold leakB
          rw [decide_eq_false h2, Bool.and_false, Bool.and_false]
      · unfold leakB
        rw [decide_eq_false h1, Bool.false_and, Bool.and_false]
    · refine b_no (b := decide (V.int (lowF m cs r ol) = V.int (topF m cs r ol))) (decide_eq_false fun q => h (V.int.inj q)) (rb_nil ⟨s3.trans s4, _, _, _, rfl, out ?_, s4 _ _ hq3, hu3.ext s4⟩)
      unfold leakB
      rw [decide_eq_false h, Bool.false_and]
  · rintro σ' H3 ⟨s3, v6, v7, v8, rfl, hf3, hq3, hu3⟩
    rw [show (strsV (rowsOf m.lev)).length = (rowsOf m.lev).length by simp, List.take_length] at hf3
    exact rb_one (rs_ret (r_var 4 (k f H3 s3 hf3)))
theorem sc_check_most : FnScope ["table", "most"] ["table", "most"] (defScope s_check_most) := ⟨rfl, rfl, rfl, by decide +kernel, rfl, by decide +kernel, by decide +kernel⟩
theorem h_check_most (e : EV w K mg base) : Has P w K mg base 3 "check_most" ["table", "most"] (sp_check_most K) := by
  refine mk_has (d := d_check_most) e.g_check_most e.f_check_most sc_check_most (fun _ _ _ _ _ _ us hl => match us, hl with | [_, _], _ => rfl) (fun vs H Q E h => by obtain ⟨_, _, _, _, _, rfl, _⟩ := h; rfl) (fun cdv A outer s H vs Q E hr h => ?_)
  obtain ⟨m, t, p, cs, most, rfl, ht, h1, h2, k⟩ := h
  refine rb_cons (rs_expr (r_call (h_check_table e) hr (ra_cons (r_var 0 (ra_nil ⟨m, t, p, cs, rfl, ht, ?_⟩)))))
  refine rb_one (rs_if (rt_not (rt_val (r_call (h_is_between e) hr (ra_cons (r_var 1 (ra_cons (r_int (ra_cons (r_gint e.i_MOST_LEAK (ra_nil ⟨most, 1, 1000, rfl, ?_⟩)))))))))))
  rw [decide_eq_true h1, decide_eq_true h2]
  refine b_no rfl (rb_nil ?_)
  exact k
theorem sc_leaks : FnScope ["table", "most"] ["table", "most"] (defScope s_leaks) := ⟨rfl, rfl, rfl, by decide +kernel, rfl, by decide +kernel, by decide +kernel⟩
theorem h_leaks (e : EV w K mg base) : Has P w K mg base 6 "leaks" ["table", "most"] (sp_leaks K) := by
  refine mk_has (d := d_leaks) e.g_leaks e.f_leaks sc_leaks (fun _ _ _ _ _ _ us hl => match us, hl with | [_, _], _ => rfl) (fun vs H Q E h => by obtain ⟨_, _, _, _, _, _, rfl, _⟩ := h; rfl) (fun cdv A outer s H vs Q E hr h => ?_)
  obtain ⟨m, t, p, cs, most, ol, rfl, ht, h1, h2, tr, k⟩ := h
  obtain ⟨dx, gs, a, g1, g2, g3, hcnt⟩ := ht.cnt
  refine rb_cons (rs_expr (r_call (h_check_most e) hr (ra_cons (r_var 0 (ra_cons (r_var 1 (ra_nil ⟨m, t, p, cs, most, rfl, ht, h1, h2, ?_⟩)))))))
  refine rb_one (rs_ret (r_callTy call_tuple_of e.z_tuple (by decide +kernel) (ra_cons (r_call (h_leaking e) hr (ra_cons (r_fld (r_var 0 ⟨t, _, dx, _, _, rfl, g1, e.c_Table, e.n_Table_model, g2, ra_cons (r_fld (r_var 0 ⟨t, _, dx, _, _, rfl, g1, e.c_Table, e.n_Table_counts, g3, ra_cons (r_var 1 (ra_nil ⟨m, p, a, cs, most, ol, rfl, ht.mod, hcnt, tr, fun q H1 s1 hq => ra_nil ⟨q, _, rfl, .inl ⟨SqL.of hq, fun l hl => k l _ (s1.trans (same_new hl)) upd_same⟩⟩⟩))⟩))⟩)))))))
end
end My

set_option Elab.async false
set_option pp.maxSteps 1500
set_option linter.all false
set_option maxRecDepth 100000
set_option maxHeartbeats 4000000
/-! F1: desks.py: claims, layers -/
namespace My
open PySem PySem.Spec PyProof.Rows L2 TL
/-- a claim -/
inductive Clm where
  | least (x : Str) (r : LN) (b : Int)
  | kept (x : Str) (n : Int)
  | alike (x y : Str)
def Clm.v : Clm → List V
  | .least x r b => [.str "at least", .str x, .str (S r), .int b]
  | .kept x n => [.str "kept", .str x, .int n]
  | .alike x y => [.str "alike", .str x, .str y]
def Clm.names : Clm → List Str
  | .least x _ _ => [x]
  | .kept x _ => [x]
  | .alike x y => [x, y]
def Clm.ok (m : MD) : Clm → Prop
  | .least _ r b => RowOk m r ∧ 0 ≤ b ∧ b ≤ 10 ^ 30
  | .kept _ n => 1 ≤ n ∧ n ≤ 1000
  | .alike _ _ => True
def sp_is_word : Sp := fun vs H Q _ => ∃ x : Str, vs = [.str x] ∧ (x = "mine" ∨ x = "other") ∧ Q (.bl true) H
def sp_is_claim (K : PySem.W.Frag) : Sp := fun vs H Q _ => ∃ (m : MD) (p t : Addr) (c : Clm), vs = [.ref p, .ref t] ∧ ModAt K H p m ∧ H t = some (.tup c.v) ∧ c.ok m ∧ ∀ H', Same H H' → Q (.bl true) H'
def sp_names_of (K : PySem.W.Frag) : Sp := fun vs H Q _ => ∃ (t : Addr) (c : Clm), vs = [.ref t] ∧ H t = some (.tup c.v) ∧ ∀ q H', Same H H' → H' q = some (.tup (c.names.map V.str)) → Q (.ref q) H'
/-- a layer made -/
structure LayAt (K : PySem.W.Frag) (H : Hy) (l d t : Addr) : Prop where
  at_ : ∃ dx fs n, H l = some (.ins (He.ga K "Layer") dx fs) ∧ fs.lookup ("shelf" : Str) = some (.ref d) ∧ fs.lookup ("told" : Str) = some (.ref t) ∧ fs.lookup ("height" : Str) = some (.int n)
theorem LayAt.ext {K : PySem.W.Frag} {H H' : Hy} {l d t : Addr} (h : LayAt K H l d t) (s : Same H H') : LayAt K H' l d t := let ⟨dx, fs, n, h1, h2⟩ := h.at_; ⟨dx, fs, n, s _ _ h1, h2⟩
def sp_Layer_init (K : PySem.W.Frag) : Sp := fun vs H Q _ => ∃ (x dx d t : Addr) (b : V), vs = [.ref x, .ref d, .ref t, b] ∧ H x = some (.ins (He.ga K "Layer") dx []) ∧ (b = .non ∨ ∃ l d' t', b = .ref l ∧ LayAt K H l d' t' ∧ l ≠ x) ∧ ∀ H', Keep x H H' → LayAt K H' x d t → Q .non H'
section
variable {P : Program} {w : World} {K : PySem.W.Frag} {mg : Str → Option Value} {base : Heap}
theorem sc_is_word : FnScope ["value"] ["value"] (defScope s_is_word) := ⟨rfl, rfl, rfl, by decide +kernel, rfl, by decide +kernel, by decide +kernel⟩
theorem h_is_word (e : EV w K mg base) : Has P w K mg base 1 "is_word" ["value"] (sp_is_word) := by
  refine mk_has (d := d_is_word) e.g_is_word e.f_is_word sc_is_word (fun _ _ _ _ _ _ us hl => match us, hl with | [_], _ => rfl) (fun vs H Q E h => by obtain ⟨_, rfl, _⟩ := h; rfl) (fun cdv A outer s H vs Q E hr h => ?_)
  obtain ⟨x, rfl, hx, k⟩ := h
  have hl : 0 < x.length ∧ x.length ≤ 8 ∧ Txt.stripChars x "abcdefghijklmnopqrstuvwxyz" = "" := by
    rcases hx with rfl | rfl <;> decide +kernel
  have hz : x.length ≤ sizeLine := Nat.le_trans hl.2.1 (by decide)
  refine rb_one (rs_ret (r_and (r_isT "str" e.z_isinstance e.z_str (by decide +kernel) (r_var 0 ⟨"str", true, .base (.str _), by decide +kernel, b_yes rfl ?_⟩))))
  refine r_and (r_chain oLt oLe (r_int (r_callB call_len_str e.z_len boot_len (ra_cons (r_var 0 (ra_nil ⟨x, rfl, hz, lt_ii (b_yes ?_ (r_gint e.i_LONGEST_WORD (le_ii (b_yes ?_ ?_))))⟩))))))
  · exact decide_eq_true (by omega)
  · exact decide_eq_true (by omega)
  refine r_one (r_eq hr.units (r_strip (r_var 0 ⟨x, rfl, r_gstr e.t_LETTERS ⟨_, rfl, hz, r_str ⟨rfl, ?_⟩⟩⟩)))
  rw [hl.2.2, decide_eq_true rfl]
  exact k
theorem sc_is_claim : FnScope ["model", "value"] ["model", "value"] (defScope s_is_claim) := ⟨rfl, rfl, rfl, by decide +kernel, rfl, by decide +kernel, by decide +kernel⟩
theorem h_is_claim (e : EV w K mg base) : Has P w K mg base 3 "is_claim" ["model", "value"] (sp_is_claim K) := by
  refine mk_has (d := d_is_claim) e.g_is_claim e.f_is_claim sc_is_claim (fun _ _ _ _ _ _ us hl => match us, hl with | [_, _], _ => rfl) (fun vs H Q E h => by obtain ⟨_, _, _, _, rfl, _⟩ := h; rfl) (fun cdv A outer s H vs Q E hr h => ?_)
  obtain ⟨m, p, t, c, rfl, hm, ht, hc, k⟩ := h
  obtain ⟨es, n, D⟩ := e.lens
  have h0 : ∃ z l, c.v = .str z :: l ∧ l.length + 1 ≤ 4 := by cases c <;> exact ⟨_, _, rfl, by simp⟩
  obtain ⟨z, l, hz, h4⟩ := h0
  have hat : atI c.v 0 = some (.str z) := by rw [hz]; exact at0
  have hlen : ∃ tk, PySem.W.nsIn K (He.ga K "LENGTHS") z = some (some (.int c.v.length tk)) := by
    cases c <;> cases hz
    · exact e.l_least
    · exact e.l_kept
    · exact e.l_alike
  obtain ⟨tk, hlen⟩ := hlen
  refine rb_cons (rs_if (rt_bool (rw_or (rt_not (rt_val (r_isT "tuple" e.z_isinstance e.z_tuple (by decide +kernel) (r_var 1 ⟨"tuple", true, .base (.tup ht), by decide +kernel, b_no rfl ?_⟩)))))))
  refine rw_or (rt_eq hr.units (r_callB call_len_seq e.z_len boot_len (ra_cons (r_var 1 (ra_nil ⟨t, _, rfl, .inr (SqT.of ht), r_int ⟨rfl, b_no ?_ ?_⟩⟩)))))
  · rw [hz]
    exact decide_eq_false fun q => by
      have q' := V.int.inj q
      simp at q'
      omega
  refine rw_or1 (rt_not (rt_val (r_isT "str" e.z_isinstance e.z_str (by decide +kernel) (r_ix (r_var 1 (r_int ⟨_, .str z, .inr (SqT.of ht), hat, "str", true, .base (.str _), by decide +kernel, b_no rfl (rb_nil ?_)⟩))))))
  refine rb_cons (rs_if (rt_ne hr.units (r_kget2 D (r_gref e.g_LENGTHS ⟨rfl, r_ix (r_var 1 (r_int ⟨_, .str z, .inr (SqT.of ht), hat, r_int ⟨z, _, .int c.v.length, rfl, hlen, ⟨tk, rfl⟩, r_callB call_len_seq e.z_len boot_len (ra_cons (r_var 1 (ra_nil ⟨t, _, rfl, .inr (SqT.of ht), rfl, b_no ?_ (rb_nil ?_)⟩)))⟩⟩))⟩))))
  · rw [decide_eq_true rfl]
    rfl
  refine rb_cons (rs_if (rt_eq hr.units (r_ix (r_var 1 (r_int ⟨_, .str z, .inr (SqT.of ht), hat, r_str ⟨rfl, ?_⟩⟩)))))
  cases c with
  | least x r b =>
    cases hz
    obtain ⟨h1, h2, h3⟩ := hc
    refine b_no (b := decide (V.str "at least" = V.str "kept")) (by decide +kernel) (rb_nil ?_)
    refine rb_one (rs_ret (r_or (r_in (r_ix (r_var 1 (r_int ⟨_, .str "at least", .inr (SqT.of ht), at0, r_gref e.g_PAIRED ⟨_, .inr (e.paired _), rfl, rfl, b_no (b := inV (.str "at least") [.str "alike", .str "joined"]) (by decide +kernel) ?_⟩⟩))))))
    refine r_one (r_and (r_call (h_is_row e) hr (ra_cons (r_var 0 (ra_cons (r_ix (r_var 1 (r_int ⟨_, .str (S r), .inr (SqT.of ht), at2, ra_nil ⟨m, p, r, rfl, hm, h1, fun H1 s1 => b_yes rfl ?_⟩⟩))))))))
    refine r_one (r_call (h_is_between e) hr (ra_cons (r_ix (r_var 1 (r_int ⟨_, .int b, .inr (SqT.of (s1 _ _ ht)), at3, ra_cons (r_int (ra_cons (r_gint e.i_MOST_COUNT (ra_nil ⟨b, 0, _, rfl, ?_⟩))))⟩)))))
    rw [decide_eq_true h2, decide_eq_true (show b ≤ 1000000000000000000000000000000 from h3)]
    exact k _ s1
  | kept x n =>
    cases hz
    obtain ⟨h1, h2⟩ := hc
    refine b_yes (b := decide (V.str "kept" = V.str "kept")) (by decide +kernel) (rb_one (rs_ret (r_call (h_is_between e) hr (ra_cons (r_ix (r_var 1 (r_int ⟨_, .int n, .inr (SqT.of ht), at2, ra_cons (r_int (ra_cons (r_gint e.i_MOST_LEAK (ra_nil ⟨n, 1, _, rfl, ?_⟩))))⟩)))))))
    rw [decide_eq_true h1, decide_eq_true h2]
    exact k _ (Same.refl _)
  | alike x y =>
    cases hz
    refine b_no (b := decide (V.str "alike" = V.str "kept")) (by decide +kernel) (rb_nil ?_)
    refine rb_one (rs_ret (r_or (r_in (r_ix (r_var 1 (r_int ⟨_, .str "alike", .inr (SqT.of ht), at0, r_gref e.g_PAIRED ⟨_, .inr (e.paired _), rfl, rfl, b_yes (b := inV (.str "alike") [.str "alike", .str "joined"]) (by decide +kernel) (k _ (Same.refl _))⟩⟩))))))
theorem sc_names_of : FnScope ["claim"] ["claim"] (defScope s_names_of) := ⟨rfl, rfl, rfl, by decide +kernel, rfl, by decide +kernel, by decide +kernel⟩
theorem h_names_of (e : EV w K mg base) : Has P w K mg base 1 "names_of" ["claim"] (sp_names_of K) := by
  refine mk_has (d := d_names_of) e.g_names_of e.f_names_of sc_names_of (fun _ _ _ _ _ _ us hl => match us, hl with | [_], _ => rfl) (fun vs H Q E h => by obtain ⟨_, _, rfl, _⟩ := h; rfl) (fun cdv A outer s H vs Q E hr h => ?_)
  obtain ⟨t, c, rfl, ht, k⟩ := h
  cases c with
  | least x r b =>
    refine rb_one (rs_ret (r_if (rt_in (r_ix (r_var 0 (r_int ⟨_, .str "at least", .inr (SqT.of ht), at0, r_gref e.g_PAIRED ⟨_, .inr (e.paired _), rfl, rfl, b_no (b := inV (.str "at least") [.str "alike", .str "joined"]) (by decide +kernel) ?_⟩⟩))))))
    exact r_slT (r_var 0 (ro_some (r_int ⟨1, rfl, ro_some (r_int ⟨2, rfl, t, _, rfl, SqT.of ht, (by show ¬ (HT.sIx 4 0 (some 1) = 0 ∧ HT.sIx 4 4 (some 2) = 4); decide), fun q hq => k q _ (same_new hq) upd_same⟩)⟩)))
  | kept x n =>
    refine rb_one (rs_ret (r_if (rt_in (r_ix (r_var 0 (r_int ⟨_, .str "kept", .inr (SqT.of ht), at0, r_gref e.g_PAIRED ⟨_, .inr (e.paired _), rfl, rfl, b_no (b := inV (.str "kept") [.str "alike", .str "joined"]) (by decide +kernel) ?_⟩⟩))))))
    exact r_slT (r_var 0 (ro_some (r_int ⟨1, rfl, ro_some (r_int ⟨2, rfl, t, _, rfl, SqT.of ht, (by show ¬ (HT.sIx 3 0 (some 1) = 0 ∧ HT.sIx 3 3 (some 2) = 3); decide), fun q hq => k q _ (same_new hq) upd_same⟩)⟩)))
  | alike x y =>
    refine rb_one (rs_ret (r_if (rt_in (r_ix (r_var 0 (r_int ⟨_, .str "alike", .inr (SqT.of ht), at0, r_gref e.g_PAIRED ⟨_, .inr (e.paired _), rfl, rfl, b_yes (b := inV (.str "alike") [.str "alike", .str "joined"]) (by decide +kernel) ?_⟩⟩))))))
    exact r_slT (r_var 0 (ro_some (r_int ⟨1, rfl, ro_none ⟨t, _, rfl, SqT.of ht, (by show ¬ (HT.sIx 3 0 (some 1) = 0 ∧ HT.sIx 3 3 none = 3); decide), fun q hq => k q _ (same_new hq) upd_same⟩⟩)))
theorem sc_Layer_init : FnScope ["self", "shelf", "told", "below"] ["self", "shelf", "told", "below"] (defScope s_Layer_init) := ⟨rfl, rfl, rfl, by decide +kernel, rfl, by decide +kernel, by decide +kernel⟩
theorem h_Layer_init (e : EV w K mg base) : HasM P w K mg base 1 (He.fAd K d_Layer_init.at_) ["self", "shelf", "told", "below"] (sp_Layer_init K) := by
  refine mk_hasM (d := d_Layer_init) e.f_Layer_init sc_Layer_init (fun _ _ _ _ _ _ us hl => match us, hl with | [_, _, _, _], _ => rfl) (fun vs H Q E h => by obtain ⟨_, _, _, _, _, rfl, _⟩ := h; rfl) (fun cdv A outer s H vs Q E hr h => ?_)
  obtain ⟨x, dx, d, t, b, rfl, hx, hb, k⟩ := h
  refine rb_cons (rs_asg (r_tup (ra_cons (r_var 1 (ra_cons (r_var 2 (ra_cons (r_var 3 (ra_nil ⟨by show 3 ≤ sizeLine; decide, fun q hq0 => ?_⟩)))))))))
  have sq := fun o => same_new (o := o) hq0
  refine rg_tup ⟨q, _, rfl, SqT.of upd_same, rfl, rgs_cons (rg_attr (r_var 0 ⟨x, _, dx, _, rfl, sq _ _ _ hx, e.c_Layer, e.n_Layer_shelf, by decide, ?_⟩))⟩
  refine rgs_cons (rg_attr (r_var 0 ⟨x, _, dx, _, rfl, upd_same, e.c_Layer, e.n_Layer_told, (by show (1 : Nat) < 1000; decide), ?_⟩))
  refine rgs_cons (rg_attr (r_var 0 ⟨x, _, dx, _, rfl, upd_same, e.c_Layer, e.n_Layer_below, (by show (2 : Nat) < 1000; decide), rgs_nil ?_⟩))
  have k1 : ∀ {H : Hy} {o1 o2 o3 : HO}, Keep x H (upd (upd (upd H x o1) x o2) x o3) := Keep.upd.trans (Keep.upd.trans Keep.upd)
  refine rb_one (rs_fld (r_if ?_))
  rcases hb with rfl | ⟨l, d', t', rfl, hl, hne⟩
  · refine rt_isN1 (r_var 3 ⟨rfl, iteT (r_int (r_var 0 ⟨x, _, dx, _, rfl, upd_same, e.c_Layer, e.n_Layer_height, (by show (3 : Nat) < 1000; decide), ?_⟩))⟩)
    exact k _ ((Keep.of (sq _)).trans (k1.trans Keep.upd)) ⟨dx, _, _, upd_same, rfl, rfl, rfl⟩
  · obtain ⟨ldx, lfs, n, l1, l2, l3, l4⟩ := hl.at_
    refine rt_isN0 (r_var 3 ⟨rfl, iteF (r_add (r_fld (r_var 3 ⟨l, _, ldx, _, _, rfl, k1 _ _ hne (sq _ _ _ l1), e.c_Layer, e.n_Layer_height, l4, r_int (add_ii (r_var 0 ⟨x, _, dx, _, rfl, upd_same, e.c_Layer, e.n_Layer_height, (by show (3 : Nat) < 1000; decide), ?_⟩))⟩)))⟩)
    exact k _ ((Keep.of (sq _)).trans (k1.trans Keep.upd)) ⟨dx, _, _, upd_same, rfl, rfl, rfl⟩
end
end My

set_option Elab.async false
set_option pp.maxSteps 1500
set_option linter.all false
set_option maxRecDepth 100000
set_option maxHeartbeats 4000000
/-! F2: desks.py: a desk made, asked for a name -/
namespace My
open PySem PySem.Spec PyProof.Rows L2 TL
abbrev ShE := Str × Addr
def shV (e : ShE) : L2.Key × V := (Sum.inr e.1, V.ref e.2)
def shGet (sh : List ShE) (x : Str) : Option Addr := (sh.find? fun e => decide (e.1 = x)).map (·.2)
theorem valV_sh (sh : List ShE) (x : Str) : valV (sh.map shV) (Sum.inr x) = (shGet sh x).map V.ref := by
  unfold valV shGet
  rw [List.find?_map]
  have e1 : ((fun kv : L2.Key × V => decide (kv.1 = Sum.inr x)) ∘ shV) = fun e : ShE => decide (e.1 = x) := by
    funext e
    show decide ((Sum.inr e.1 : L2.Key) = Sum.inr x) = _
    by_cases h : e.1 = x
    · rw [h, decide_eq_true rfl, decide_eq_true rfl]
    · rw [decide_eq_false h, decide_eq_false fun q => h (Sum.inr.inj q)]
  rw [e1]
  cases sh.find? fun e => decide (e.1 = x) <;> rfl
/-- a desk: its model at p, its shelf, its claims -/
structure DeskAt (K : PySem.W.Frag) (H : Hy) (k p : Addr) (sh : List ShE) (cl : List V) : Prop where
  at_ : ∃ dx fs l d t, H k = some (.ins (He.ga K "Desk") dx fs) ∧ fs.lookup ("model" : Str) = some (.ref p) ∧ fs.lookup ("layer" : Str) = some (.ref l) ∧ fs = [(("model" : Str), V.ref p), (("layer" : Str), V.ref l)] ∧ LayAt K H l d t ∧ H d = some (.dK (sh.map shV)) ∧ H t = some (.tup cl)
theorem DeskAt.ext {K : PySem.W.Frag} {H H' : Hy} {k p : Addr} {sh : List ShE} {cl : List V} (h : DeskAt K H k p sh cl) (s : Same H H') : DeskAt K H' k p sh cl := by
  obtain ⟨dx, fs, l, d, t, h1, h2, h3, hfs, h4, h5, h6⟩ := h.at_
  exact ⟨dx, fs, l, d, t, s _ _ h1, h2, h3, hfs, h4.ext s, s _ _ h5, s _ _ h6⟩
theorem op_inD {X : Cx} (hu : X.A.units + 64 < cLine) : OpR X (compareOp .In) (fun x y H Q => ∃ a kvs k, y = .ref a ∧ H a = some (.dK kvs) ∧ x = kV k ∧ Q (.bl (valV kvs k).isSome) H) := by
  intro pins s σ H x y v u Q I rx ry h
  obtain ⟨a, kvs, k, rfl, ha, rfl, q⟩ := h
  cases ry
  exact d_in (units1 hu) I (DGet.k ha) rx fun s' I' => ⟨.bl (valV kvs k).isSome, H, I', rfl, q⟩
def sp_Desk_contains (K : PySem.W.Frag) : Sp := fun vs H Q _ => ∃ (k p : Addr) (x : Str) (sh : List ShE) (cl : List V), vs = [.ref k, .str x] ∧ DeskAt K H k p sh cl ∧ Q (.bl (shGet sh x).isSome) H
def sp_Desk_need (K : PySem.W.Frag) : Sp := fun vs H Q _ => ∃ (k p : Addr) (x : Str) (sh : List ShE) (cl : List V), vs = [.ref k, .str x] ∧ DeskAt K H k p sh cl ∧ (shGet sh x).isSome = true ∧ Q .non H
def sp_Desk_init (K : PySem.W.Frag) : Sp := fun vs H Q _ => ∃ (m : MD) (k dx p : Addr), vs = [.ref k, .ref p] ∧ ModAt K H p m ∧ H k = some (.ins (He.ga K "Desk") dx []) ∧ ∀ H', Keep k H H' → DeskAt K H' k p [] [] → Q .non H'
section
variable {P : Program} {w : World} {K : PySem.W.Frag} {mg : Str → Option Value} {base : Heap}
theorem sc_Desk_contains : FnScope ["self", "value"] ["self", "value"] (defScope s_Desk_contains) := ⟨rfl, rfl, rfl, by decide +kernel, rfl, by decide +kernel, by decide +kernel⟩
theorem h_Desk_contains (e : EV w K mg base) : HasM P w K mg base 1 (He.fAd K d_Desk_contains.at_) ["self", "value"] (sp_Desk_contains K) := by
  refine mk_hasM (d := d_Desk_contains) e.f_Desk_contains sc_Desk_contains (fun _ _ _ _ _ _ us hl => match us, hl with | [_, _], _ => rfl) (fun vs H Q E h => by obtain ⟨_, _, _, _, _, rfl, _⟩ := h; rfl) (fun cdv A outer s H vs Q E hr h => ?_)
  obtain ⟨k0, p, x, sh, cl, rfl, hk, k⟩ := h
  obtain ⟨dx, fs, l, d, t, h1, h2, h3, hfs, h4, h5, h6⟩ := hk.at_
  obtain ⟨ldx, lfs, n, l1, l2, l3, l4⟩ := h4.at_
  refine rb_one (rs_ret (r_and (r_isT "str" e.z_isinstance e.z_str (by decide +kernel) (r_var 1 ⟨"str", true, .base (.str _), by decide +kernel, b_yes rfl ?_⟩))))
  refine r_one (r_cmp (op_inD hr.units) (r_var 1 (gv rfl (r_fld (r_fld (r_var 0 ⟨k0, _, dx, _, _, rfl, h1, e.c_Desk, e.n_Desk_layer, h3, l, _, ldx, _, _, rfl, l1, e.c_Layer, e.n_Layer_shelf, l2, d, _, Sum.inr x, rfl, h5, rfl, ?_⟩))))) (by rfl))
  rw [valV_sh, Option.isSome_map]
  exact k
theorem sc_Desk_need : FnScope ["self", "name"] ["self", "name"] (defScope s_Desk_need) := ⟨rfl, rfl, rfl, by decide +kernel, rfl, by decide +kernel, by decide +kernel⟩
theorem h_Desk_need (e : EV w K mg base) : HasM P w K mg base 2 (He.fAd K d_Desk_need.at_) ["self", "name"] (sp_Desk_need K) := by
  refine mk_hasM (d := d_Desk_need) e.f_Desk_need sc_Desk_need (fun _ _ _ _ _ _ us hl => match us, hl with | [_, _], _ => rfl) (fun vs H Q E h => by obtain ⟨_, _, _, _, _, rfl, _⟩ := h; rfl) (fun cdv A outer s H vs Q E hr h => ?_)
  obtain ⟨k0, p, x, sh, cl, rfl, hk, hs, k⟩ := h
  obtain ⟨fd, b, F⟩ := (h_Desk_contains (P := P) e).ex
  obtain ⟨dx, fs, l, d, t, h1, _⟩ := hk.at_
  refine rb_one (rs_if (rt_cmp (op_notinOwn F b hr e.m_Desk_contains.at_ e.m_Desk_contains.fn) (r_var 1 (gv rfl (r_var 0 ⟨k0, dx, fs, rfl, h1, k0, p, x, sh, cl, rfl, hk, _, rfl, ?_⟩))) (by rfl)))
  rw [hs]
  exact b_no rfl (rb_nil k)
theorem sc_Desk_init : FnScope ["self", "model"] ["self", "model"] (defScope s_Desk_init) := ⟨rfl, rfl, rfl, by decide +kernel, rfl, by decide +kernel, by decide +kernel⟩
theorem h_Desk_init (e : EV w K mg base) : HasM P w K mg base 3 (He.fAd K d_Desk_init.at_) ["self", "model"] (sp_Desk_init K) := by
  refine mk_hasM (d := d_Desk_init) e.f_Desk_init sc_Desk_init (fun _ _ _ _ _ _ us hl => match us, hl with | [_, _], _ => rfl) (fun vs H Q E h => by obtain ⟨_, _, _, _, rfl, _⟩ := h; rfl) (fun cdv A outer s H vs Q E hr h => ?_)
  obtain ⟨m, k0, dx, p, rfl, hm, hk, k⟩ := h
  refine rb_cons (rs_expr (r_call (h_check_model e) hr (ra_cons (r_var 1 (ra_nil ⟨m, p, rfl, hm, ?_⟩)))))
  refine rb_one (rs_asg (r_tup (ra_cons (r_var 1 (ra_cons (r_make e.k_Layer (h_Layer_init e) hr e.g_Layer (ra_cons (r_dnew fun d hd => ra_cons (r_tup (ra_nil ⟨by show 0 ≤ sizeLine; decide, fun t ht => ra_cons (r_non (ra_nil fun l lx hl hlx hne => ?_))⟩))))))))))
  have sd := fun o => same_new (o := o) hd
  have st := fun o => same_new (o := o) ht
  refine ⟨l, lx, d, t, .non, rfl, upd_same, .inl rfl, fun H1 k1 hlay => ⟨rfl, ra_nil ⟨by show 2 ≤ sizeLine; decide, fun q hq => ?_⟩⟩⟩
  have sq := fun o => same_new (o := o) hq
  have s1 : Same H H1 := Keep.same (x := l) (by exact ((sd _).trans (st _)).free hl) (((sd _).trans (st _)).trans (same_made hl hlx)) k1
  have hd0 := st (.tup []) d _ (upd_same (H := H) (o := .dK []))
  have ht0 := upd_same (H := upd H d (.dK [])) (a := t) (o := .tup [])
  have hdl : d ≠ l := ne_of_none hd0 hl
  have htl : t ≠ l := ne_of_none ht0 hl
  have hd1 := k1 d _ hdl (same_made hl hlx _ _ hd0)
  have ht1 := k1 t _ htl (same_made hl hlx _ _ ht0)
  have hkl : l ≠ k0 := (ne_of_none (((sd (.dK [])).trans (st (.tup []))) _ _ hk) hl).symm
  refine rg_tup ⟨q, _, rfl, SqT.of upd_same, rfl, rgs_cons (rg_attr (r_var 0 ⟨k0, _, dx, _, rfl, sq _ _ _ (s1 _ _ hk), e.c_Desk, e.n_Desk_model, by decide, ?_⟩))⟩
  refine rgs_cons (rg_attr (r_var 0 ⟨k0, _, dx, _, rfl, upd_same, e.c_Desk, e.n_Desk_layer, (by show (1 : Nat) < 1000; decide), rgs_nil ?_⟩))
  have k2 : ∀ {H : Hy} {o1 o2 : HO}, Keep k0 H (upd (upd H k0 o1) k0 o2) := Keep.upd.trans Keep.upd
  obtain ⟨ldx, lfs, n, g1, g2, g3, g4⟩ := hlay.at_
  have hdk : d ≠ k0 := fun z => by rw [z] at hd1; rw [s1 _ _ hk] at hd1; cases hd1
  have htk : t ≠ k0 := fun z => by rw [z] at ht1; rw [s1 _ _ hk] at ht1; cases ht1
  exact k _ ((Keep.of s1).trans ((Keep.of (sq _)).trans k2)) ⟨dx, _, l, d, t, upd_same, rfl, rfl, rfl, ⟨ldx, lfs, n, k2 _ _ hkl (sq _ _ _ g1), g2, g3, g4⟩, k2 _ _ hdk (sq _ _ _ hd1), k2 _ _ htk (sq _ _ _ ht1)⟩
end
end My

set_option Elab.async false
set_option pp.maxSteps 1500
set_option linter.all false
set_option maxRecDepth 100000
set_option maxHeartbeats 4000000
/-! F3: desks.py: claims lifted -/
namespace My
open PySem PySem.Spec PyProof.Rows L2 TL
def sp_Desk_claims (K : PySem.W.Frag) : Sp := fun vs H Q _ => ∃ (k p : Addr) (sh : List ShE) (cl : List V), vs = [.ref k] ∧ DeskAt K H k p sh cl ∧ ∀ t, H t = some (.tup cl) → Q (.ref t) H
def sp_Desk_lift (K : PySem.W.Frag) : Sp := fun vs H Q _ => ∃ (k p : Addr) (sh : List ShE) (c : V), vs = [.ref k, .int 0] ∧ DeskAt K H k p sh [c] ∧ ∀ H', Keep k H H' → DeskAt K H' k p sh [] → Q .non H'
section
variable {P : Program} {w : World} {K : PySem.W.Frag} {mg : Str → Option Value} {base : Heap}
theorem sc_Desk_claims : FnScope ["self"] ["self"] (defScope s_Desk_claims) := ⟨rfl, rfl, rfl, by decide +kernel, rfl, by decide +kernel, by decide +kernel⟩
theorem h_Desk_claims {gt : Addr} (e : EV w K mg base) (F : ∃ fd, FunD K "claims" "Desk.claims" (defArgs s_Desk_claims) (defBody s_Desk_claims) (defScope s_Desk_claims) [] [] gt fd) : HasM P w K mg base 1 gt ["self"] (sp_Desk_claims K) := by
  obtain ⟨fd, F⟩ := F
  refine ⟨fd, F.bindsN (ps := ["self"]) (fun _ _ _ _ _ _ us hl => match us, hl with | [_], _ => rfl), F.ok sc_Desk_claims (fun vs H Q E h => by obtain ⟨_, _, _, _, rfl, _⟩ := h; rfl) fun cdv A outer s H vs Q E hr h => ?_⟩
  suffices RB (cxOf CX0 P w K mg base ["self"] "Desk.claims" (defScope s_Desk_claims) gt cdv A outer s H E).nox (defBody s_Desk_claims) { nx := fun _ H' => Q .non H', rt := Q } (start ["self"] vs) H by
    obtain ⟨t, ht, q⟩ := this
    exact ⟨t, ht.nox, q⟩
  obtain ⟨k0, p, sh, cl, rfl, hk, k⟩ := h
  obtain ⟨dx, fs, l, d, t, h1, h2, h3, hfs, h4, h5, h6⟩ := hk.at_
  obtain ⟨ldx, lfs, n, l1, l2, l3, l4⟩ := h4.at_
  exact rb_one (rs_ret (r_fld (r_fld (r_var 0 ⟨k0, _, dx, _, _, rfl, h1, e.c_Desk, e.n_Desk_layer, h3, l, _, ldx, _, _, rfl, l1, e.c_Layer, e.n_Layer_told, l3, k t h6⟩))))
theorem sc_Desk_lift : FnScope ["self", "index", "told"] ["self", "index"] (defScope s_Desk_lift) := ⟨rfl, rfl, rfl, by decide +kernel, rfl, by decide +kernel, by decide +kernel⟩
theorem h_Desk_lift (e : EV w K mg base) : HasM P w K mg base 3 (He.fAd K d_Desk_lift.at_) ["self", "index"] (sp_Desk_lift K) := by
  refine mk_hasM (d := d_Desk_lift) e.f_Desk_lift sc_Desk_lift (fun _ _ _ _ _ _ us hl => match us, hl with | [_, _], _ => rfl) (fun vs H Q E h => by obtain ⟨_, _, _, _, rfl, _⟩ := h; rfl) (fun cdv A outer s H vs Q E hr h => ?_)
  obtain ⟨k0, p, sh, c, rfl, hk, k⟩ := h
  obtain ⟨dx, fs, l, d, t, h1, h2, h3, hfs, h4, h5, h6⟩ := hk.at_
  obtain ⟨ldx, lfs, n, l1, l2, l3, l4⟩ := h4.at_
  refine rb_cons (rs_set 2 sc_Desk_lift.nd (r_fld (r_fld (r_var 0 ⟨k0, _, dx, _, _, rfl, h1, e.c_Desk, e.n_Desk_layer, h3, l, _, ldx, _, _, rfl, l1, e.c_Layer, e.n_Layer_told, l3, ?_⟩))))
  refine rb_cons (rs_if (rt_not (rt_val (r_call (h_is_between e) hr (ra_cons (r_var 1 (ra_cons (r_int (ra_cons (r_sub (r_callB call_len_seq e.z_len boot_len (ra_cons (r_var 2 (ra_nil ⟨t, _, rfl, .inr (SqT.of h6), r_int (sub_ii (ra_nil ⟨0, 0, _, rfl, b_no (b := !(decide ((0 : Int) ≤ 0) && decide ((0 : Int) ≤ ((1 : Nat) : Int) - 1))) (by decide) (rb_nil ?_)⟩))⟩))))))))))))))
  refine rb_one (rs_fld (r_make e.k_Layer (h_Layer_init e) hr e.g_Layer (ra_cons (r_fld (r_fld (r_var 0 ⟨k0, _, dx, _, _, rfl, h1, e.c_Desk, e.n_Desk_layer, h3, l, _, ldx, _, _, rfl, l1, e.c_Layer, e.n_Layer_shelf, l2, ?_⟩))))))
  refine ra_cons (r_bin op_catA (r_slA (r_var 2 (ro_none (ro_some (r_var 1 ⟨0, rfl, t, _, rfl, SqT.of h6, fun hw => absurd hw.2 (by show ¬ (0 = 1); decide), fun _ t1 ht1 => r_slA (r_var 2 (ro_some (r_add (r_var 1 (gv rfl (r_int (add_ii ⟨0 + 1, rfl, ro_none ⟨t, _, rfl, SqT.of (same_new ht1 _ _ h6), fun hw => absurd hw.1 (by show ¬ (1 = 0); decide), fun _ t2 ht2 => ⟨t1, t2, [], [], rfl, rfl, SqT.of ?_, SqT.of ?_, by show 0 + 0 ≤ sizeLine; decide, fun _ => ?_, fun h => absurd rfl h, fun h => absurd rfl h⟩⟩⟩)))))))⟩))))))
  · exact same_new ht2 _ _ upd_same
  · exact upd_same
  have s1 := fun o => same_new (o := o) ht1
  have s2 := fun o => same_new (o := o) ht2
  have s12 := (s1 _).trans (s2 (.tup (cutV [c] (some (0 + 1)) none)))
  refine ra_cons (r_fld (r_var 0 ⟨k0, _, dx, _, _, rfl, s12 _ _ h1, e.c_Desk, e.n_Desk_layer, h3, ra_nil fun y yx hy hyx hne => ⟨y, yx, d, t2, .ref l, rfl, upd_same, .inr ⟨l, d, t, rfl, ?_, ?_⟩, fun H1 k1 hlay => ⟨rfl, ?_⟩⟩⟩))
  · exact (h4.ext s12).ext (same_made hy hyx)
  · exact ne_of_none (s12 _ _ l1) hy
  have s3 : Same H H1 := Keep.same (s12.free hy) (s12.trans (same_made hy hyx)) k1
  subst hfs
  refine r_var 0 ⟨k0, _, dx, _, rfl, s3 _ _ h1, e.c_Desk, e.n_Desk_layer, (by show (2 : Nat) < 1000; decide), ?_⟩
  obtain ⟨ydx, yfs, yn, y1, y2, y3, y4⟩ := hlay.at_
  have hyk : y ≠ k0 := (ne_of_none (s12 _ _ h1) hy).symm
  have hd1 := s3 _ _ h5
  have ht2y := k1 t2 _ (ne_of_none upd_same hy) (same_made hy hyx _ _ upd_same)
  have hdk : d ≠ k0 := fun z => by rw [z, s3 _ _ h1] at hd1; cases hd1
  have htk : t2 ≠ k0 := fun z => by rw [z, s3 _ _ h1] at ht2y; cases ht2y
  exact k _ ((Keep.of s3).trans Keep.upd) ⟨dx, _, y, d, t2, upd_same, rfl, rfl, rfl, ⟨ydx, yfs, yn, Keep.upd _ _ hyk y1, y2, y3, y4⟩, Keep.upd _ _ hdk hd1, Keep.upd _ _ htk ht2y⟩
end
end My

set_option Elab.async false
set_option pp.maxSteps 1500
set_option linter.all false
set_option maxRecDepth 100000
set_option maxHeartbeats 4000000
/-! X1: an own exception class over ArithmeticError with an __init__ of its own: its fields stored -/
namespace My
open PySem PySem.Spec PyProof.Rows L2
/-- what the written part says of such a class -/
structure OexA (K : PySem.W.Frag) (C : Addr) : Prop where
  ini : PySem.W.excInitIn K C aeMro "ArithmeticError.__new__" = true
  ovr : PySem.W.excOver K C aeMro = true
  hd : PySem.W.hasDictIn K C = true
  sa : PySem.W.findIn K (.ref C) "__setattr__" = some (some (.builtin "object.__setattr__"))
  exC : PySem.W.subIn K (.ref C) (.type "BaseException") = some true
  tyC : PySem.W.typeIn K (.ref C) = some (.type "type")
  kC : PySem.W.keepIn K (.ref C) = true
section
open PySem.W Builtin.ObjectAttr
variable {prog : Program} {w : World} {A : Around} {E : Value → Shared → Prop} {R : Result → Shared → Prop} {hp : Heap} {g : Array GenState} {d : Drawn} {t : Nat} {os : OsState} {K : Frag} {name : Str} {tk : Tok} {v : Value} {x C dx : Addr} {fv : Array Value}
theorem first_field (T : OexA K C) (X : K.In hp) (hx : hp.get? x = some { cls := .ref C, data := .fields fv }) (hf : ∀ vs : Array Value, fv = vs → notCls { cls := .ref C, data := .fields fv } = true) (ha : takerIn K C name = some none)
    (hq : ∀ h' tk' dx, (∀ b o, b ≠ x → hp.get? b = some o → h'.get? b = some o) → hp.objs.size ≤ dx → dx ≠ x → h'.get? x = some { cls := .ref C, dict := some dx, data := .fields fv } →
      h'.Ns1 dx (fun y => if y = name then some v else none) → R (.ok (.ret .none)) ⟨h', g, d, tk', os⟩) :
    codeAny (model prog w) A (.call (.builtin "object.__setattr__") ⟨[.ref x, .str name tk, v], []⟩) R ⟨hp, g, d, t, os⟩ := by
  have hxs : x ≠ hp.objs.size := Nat.ne_of_lt (Heap.lt_size hx)
  refine osa_openX (od := none) PySem.F.store_ArithmeticError X ⟨hx, rfl, hf fv rfl, trivial⟩ T.ovr ha fun b => ?_
  obtain ⟨cd, hcd, hh⟩ := any_some T.hd
  have hcls : Looks (model prog w) hp (classData C) cd := looks_clsIn X hcd
  obtain ⟨nm, bs, mro, ns, qn, hd, sn, sb, ab, col, del⟩ := cd
  dsimp only at hh
  subst hh
  show wpAny _ _ (storeInOwnDict (.ref x) (.ref C) (.str name tk) name v b) _ _ _
  unfold storeInOwnDict ownDictForStores
  repeat (first | with_reducible refine PySem.HandSPX.store_in_new ?_ ?_ | with_reducible refine wpAny_loadPart_at hx ?_ | with_reducible refine hcls.at ?_ | wp_step)
  · exact ⟨_, #[], _, (Heap.get?_update_ne _ _ _ _ hxs.symm).trans (Heap.get?_push_at rfl rfl), rfl, fun e he => absurd he (by simp), fun _ => rfl⟩
  · intro h' tk' hn' hs
    have hx1 : (hp.push { cls := .type "dict", data := .dict #[] }).get? x = some { cls := .ref C, data := .fields fv } := Heap.get?_push_of_some _ hx
    refine hq h' tk' hp.objs.size (fun b o hb ho => ?_) (Nat.le_refl _) hxs.symm ?_ hn'
    · exact (hs.2 b (Nat.ne_of_lt (Heap.lt_size ho))).trans ((Heap.get?_update_ne _ _ _ _ hb).trans (Heap.get?_push_of_some _ ho))
    · exact (hs.2 x hxs).trans (Heap.get?_update_self _ hx1 rfl)
theorem next_field {m0 : Str → Option Value} {nl : List Str} (T : OexA K C) (X : K.In hp) (hx : hp.get? x = some { cls := .ref C, dict := some dx, data := .fields fv }) (hf : ∀ vs : Array Value, fv = vs → notCls { cls := .ref C, dict := some dx, data := .fields fv } = true) (hns : hp.Ns1 dx m0) (hw : Within m0 nl) (hz : nl.length ≤ 1000) (ha : takerIn K C name = some none)
    (hq : ∀ h' tk', (∀ b o, b ≠ dx → hp.get? b = some o → h'.get? b = some o) → h'.Ns1 dx (fun y => if y = name then some v else m0 y) → R (.ok (.ret .none)) ⟨h', g, d, tk', os⟩) :
    codeAny (model prog w) A (.call (.builtin "object.__setattr__") ⟨[.ref x, .str name tk, v], []⟩) R ⟨hp, g, d, t, os⟩ := by
  obtain ⟨oD, esD, epD, hoD, hdD, _⟩ := hns.count hw
  refine osa_openX (od := some oD) PySem.F.store_ArithmeticError X ⟨hx, rfl, hf fv rfl, hoD⟩ T.ovr ha fun b => ?_
  obtain ⟨cd, hcd, hh⟩ := any_some T.hd
  have hcls : Looks (model prog w) hp (classData C) cd := looks_clsIn X hcd
  obtain ⟨nm, bs, mro, ns, qn, hd, sn, sb, ab, col, del⟩ := cd
  dsimp only at hh
  subst hh
  show wpAny _ _ (storeInOwnDict (.ref x) (.ref C) (.str name tk) name v b) _ _ _
  unfold storeInOwnDict ownDictForStores
  repeat (first | with_reducible refine PySem.OEX.store_in_old hns hw hz ?_ | with_reducible refine wpAny_loadPart_at hx ?_ | with_reducible refine hcls.at ?_ | wp_step)
  intro h' tk' hn' hs
  exact hq h' tk' (fun b o hb ho => (hs.2 b hb).trans ho) hn'
end
end My
set_option Elab.async false
set_option pp.maxSteps 1500
set_option linter.all false
set_option maxRecDepth 100000
set_option maxHeartbeats 4000000
/-! X2: Broken made and raised; its context is None -/
namespace My
open PySem PySem.Spec PyProof.Rows L2
section
variable {X : Cx} {pins : List (Addr × Obj)} {σ : L2.St} {H : Hy} {s : Shared} {a C dx : Addr} {f : Str} {y : V} {u : Value} {fs : List (Str × V)} {Q : Unit → Shared → Prop} {E : Value → Shared → Prop} {A : Around}
/-- self.f = y, the first one -/
theorem fld_first (T : OexA X.K C) (I : L2.Inv X pins σ H s) (e : H a = some (exo a C none)) (hno : PySem.W.findIn X.K (.ref C) f = some none) (hno2 : PySem.W.takerIn X.K C f = some none) (ry : L2.RelV y u)
    (h : ∀ dx s', H dx = none → dx ≠ a → L2.Inv X pins σ (upd (upd H dx (exd dx [(f, y)])) a (exo a C (some dx))) s' → Q () s') : wpAny (model X.prog X.w) A (setAttr (.ref a) f u) Q E s := by
  obtain ⟨t1, ho⟩ := exo_at I.hok e
  obtain ⟨hp, g, d, t, os⟩ := s
  refine PySem.W.set_plain I.kIn (od := none) ⟨ho, rfl, rfl, trivial⟩ T.sa ?_
  refine first_field T I.kIn ho (fun _ _ => rfl) hno2 (fun h' tk' dx k dn dne hx hn => ?_)
  have nx : H dx = none := I.hok.fresh dn
  have ne_dx : ∀ {b : Addr} {o : Obj}, hp.get? b = some o → b ≠ dx := fun {b o} q => Nat.ne_of_lt (Nat.lt_of_lt_of_le (Heap.lt_size q) dn)
  have ne_a : ∀ {b : Addr}, H b = none → b ≠ a := fun {b} n z => by rw [z, e] at n; cases n
  have U : Un X.fs [] H (upd (upd H dx (exd dx [(f, y)])) a (exo a C (some dx))) hp h' :=
    ⟨fun b o q n _ _ => k b o (ne_a n) q, fun b o q n _ _ => ⟨o.slots, k b o (ne_a n) q⟩, fun b o q n _ => by rw [upd_ne (ne_a n), upd_ne (ne_dx q)]; exact n,
      fun b o q _ => by
        by_cases hb : b = a
        · exact ⟨_, by rw [hb]; exact hx⟩
        · exact ⟨o, k b o hb q⟩,
      fun b xs q => by rw [upd_ne (at_ne e q exo_tup), upd_ne (ne_of_none q nx)]; exact q, fun b o v q => by rw [upd_ne (at_ne e q exo_frz), upd_ne (ne_of_none q nx)]; exact q,
      fun b ps q => ⟨#[], by rw [upd_ne (at_ne e q exo_tbl), upd_ne (ne_of_none q nx), q]; simp⟩⟩
  refine h dx _ nx dne (I.un (t' := tk') U fun b o q => ?_)
  by_cases hb : b = a
  · subst hb
    rw [upd_same] at q
    cases q
    exact exo_ok hx
  rw [upd_ne hb] at q
  by_cases hd : b = dx
  · subst hd
    rw [upd_same] at q
    cases q
    exact exd_ok hn (relO_put (fs := []) ry fun g => True.intro)
  rw [upd_ne hd] at q
  refine (I.hok b o q).stay (fun c v hc z => k c v (hc.elim (fun hc => by rw [hc]; exact hb) fun hc => at_ne e hc exo_own) z) (fun c hc => ?_) fun c xs hc => ?_
  · rw [upd_ne (at_ne e hc exo_own), upd_ne (ne_of_none hc nx)]; exact hc
  · rw [upd_ne (at_ne e hc exo_tup), upd_ne (ne_of_none hc nx)]; exact hc
/-- self.f = y, a further one -/
theorem fld_next (T : OexA X.K C) (I : L2.Inv X pins σ H s) (e : H a = some (exo a C (some dx))) (ed : H dx = some (exd dx fs)) (hl : fs.length ≤ 900) (hno2 : PySem.W.takerIn X.K C f = some none) (ry : L2.RelV y u)
    (h : ∀ s', L2.Inv X pins σ (upd H dx (exd dx ((f, y) :: fs))) s' → Q () s') : wpAny (model X.prog X.w) A (setAttr (.ref a) f u) Q E s := by
  obtain ⟨t1, ho⟩ := exo_at I.hok e
  obtain ⟨mA, hns, rel⟩ := exd_at I.hok ed
  have hw := within_of rel
  obtain ⟨hp, g, d, t, os⟩ := s
  obtain ⟨oD, _, _, hoD, _, _⟩ := hns.count hw
  refine PySem.W.set_plain I.kIn (od := some oD) ⟨ho, rfl, rfl, hoD⟩ T.sa ?_
  refine next_field T I.kIn ho (fun _ _ => rfl) hns hw (by rw [List.length_map]; omega) hno2 (fun h' tk' k hn => ?_)
  have hd : ∃ o, h'.get? dx = some o := let ⟨o, _, _, e', _⟩ := hn; ⟨o, e'⟩
  exact h _ (I.write (t' := tk') (x := dx) (e := dx) (o := exd dx ((f, y) :: fs)) (by rw [ed]; exact True.intro) (.inl rfl) k hd (exd_ok hn (relO_put ry rel)))
end
section
variable {X : Cx} {σ : L2.St} {H : Hy} {D : Ends} {pos p p' : Pos} {o e e1 e2 : Expr} {f : Str}
theorem rs_xfld (h : RE X e σ H fun y H1 => RE X o σ H1 fun x H2 => ∃ a C : Addr, x = .ref a ∧ OexA X.K C ∧ PySem.W.findIn X.K (.ref C) f = some none ∧ PySem.W.takerIn X.K C f = some none ∧
    ((H2 a = some (exo a C none) ∧ ∀ dx, H2 dx = none → dx ≠ a → D.nx σ (upd (upd H2 dx (exd dx [(f, y)])) a (exo a C (some dx)))) ∨
      ∃ (dx : Addr) (fs : List (Str × V)), H2 a = some (exo a C (some dx)) ∧ H2 dx = some (exd dx fs) ∧ fs.length ≤ 900 ∧ D.nx σ (upd H2 dx (exd dx ((f, y) :: fs)))))
    (hs : swapsWith e (some (.Attribute o f p')) pos.line X.env = pure false := by rfl) : RS X (.Assign [.Attribute o f p'] e pos) D σ H := by
  refine ⟨fun D σ H => RE X e σ H fun y H1 => RE X o σ H1 fun x H2 => ∃ a C : Addr, x = .ref a ∧ OexA X.K C ∧ PySem.W.findIn X.K (.ref C) f = some none ∧ PySem.W.takerIn X.K C f = some none ∧
    ((H2 a = some (exo a C none) ∧ ∀ dx, H2 dx = none → dx ≠ a → D.nx σ (upd (upd H2 dx (exd dx [(f, y)])) a (exo a C (some dx)))) ∨
      ∃ (dx : Addr) (fs : List (Str × V)), H2 a = some (exo a C (some dx)) ∧ H2 dx = some (exd dx fs) ∧ fs.length ≤ 900 ∧ D.nx σ (upd H2 dx (exd dx ((f, y) :: fs)))), ⟨fun pins s σ H D I h => ?_⟩, h⟩
  refine plainObj_wpAny_Assign_Attribute (thn (pRE.run pins s σ H _ I h) fun v s1 ⟨y, H1, I1, r1, q1⟩ => thn (pRE.run pins s1 σ H1 _ I1 q1) fun u s2 ⟨x, H2, I2, r2, a, C, ex, T, hno, hno2, q⟩ => ?_) hs
  subst ex
  obtain rfl : u = Value.ref a := r2
  rcases q with ⟨ea, q⟩ | ⟨dx, fs, ea, ed, hl, q⟩
  · exact fld_first T I2 ea hno hno2 r1 fun dx s' n ne J => ⟨σ, _, J, q dx n ne⟩
  · exact fld_next T I2 ea ed hl hno2 r1 fun s' J => ⟨σ, _, J, q⟩
end
/-- all that is wanted of Broken -/
structure BrkC (K : PySem.W.Frag) (C : Addr) : Prop where
  o : OexA K C
  fI : PySem.W.findIn K (.ref C) "__init__" = some (some (.ref (He.fAd K d_Broken_init.at_)))
  tI : PySem.W.typeIn K (.ref (He.fAd K d_Broken_init.at_)) = some (.type "function")
  n1 : PySem.W.findIn K (.ref C) "index" = some none
  n2 : PySem.W.findIn K (.ref C) "shown" = some none
  k1 : PySem.W.takerIn K C "index" = some none
  k2 : PySem.W.takerIn K C "shown" = some none
def sp_Broken_init (K : PySem.W.Frag) : Sp := fun vs H Q _ => ∃ (a : Addr) (v1 v2 : V), vs = [.ref a, v1, v2] ∧ H a = some (exo a (He.ga K "Broken") none) ∧ ∀ dx, H dx = none → dx ≠ a → Q .non (upd (upd (upd H dx (exd dx [("index", v1)])) a (exo a (He.ga K "Broken") (some dx))) dx (exd dx [("shown", v2), ("index", v1)]))
section
variable {P : Program} {w : World} {K : PySem.W.Frag} {mg : Str → Option Value} {base : Heap}
theorem sc_Broken_init : FnScope ["self", "index", "shown"] ["self", "index", "shown"] (defScope s_Broken_init) := ⟨rfl, rfl, rfl, by decide +kernel, rfl, by decide +kernel, by decide +kernel⟩
theorem h_Broken_init (e : EV w K mg base) (B : BrkC K (He.ga K "Broken")) : HasM P w K mg base 1 (He.fAd K d_Broken_init.at_) ["self", "index", "shown"] (sp_Broken_init K) := by
  refine mk_hasM (d := d_Broken_init) e.f_Broken_init sc_Broken_init (fun _ _ _ _ _ _ us hl => match us, hl with | [_, _, _], _ => rfl) (fun vs H Q E h => by obtain ⟨_, _, _, rfl, _⟩ := h; rfl) (fun cdv A outer s H vs Q E hr h => ?_)
  obtain ⟨a, v1, v2, rfl, ha, k⟩ := h
  refine rb_cons (rs_xfld (r_var 1 (gv rfl (r_var 0 ⟨a, _, rfl, B.o, B.n1, B.k1, .inl ⟨ha, fun dx hdx hne => ?_⟩⟩))))
  exact rb_one (rs_xfld (r_var 2 (gv rfl (r_var 0 ⟨a, _, rfl, B.o, B.n2, B.k2, .inr ⟨dx, _, upd_same, (by rw [upd_ne hne]; exact upd_same), (by show (1 : Nat) ≤ 900; decide), k dx hdx hne⟩⟩))))
end
/-- Broken(e1, e2) -/
theorem pmk_broken {X : Cx} {p pos : Pos} {e1 e2 : Expr} {ta : TA} (e : EV X.w X.K X.mg X.base) (B : BrkC X.K (He.ga X.K "Broken")) (hr : Room 2 X.A) (hg : Gl X "Broken") (ha : PA X [e1, e2] ta)
    (he : starEach [e1, e2] X.env = (false, eval e1 X.env) :: starEach [e2] X.env := by rfl) (hpl : (backTo pos (starEach [e2] X.env)).any (·.1) = false := by rfl) :
    L2N.PMk X (.Call (.Name "Broken" p) [e1, e2] [] pos) (fun σ H Q => ta σ H fun vs H1 => ∃ v1 v2, vs = [v1, v2] ∧ ∀ d H', Same H1 H' → H1 d = none → H' d = some (.xd [("shown", v2), ("index", v1)]) → Q (.ref (He.ga X.K "Broken")) (some d) H') := by
  intro pins s σ H Q I h
  have gB := e.g_Broken
  generalize hC : He.ga X.K "Broken" = C at B h gB
  refine wpAny_Call_Name_kw (ld_glob I hg gB ?_ (by decide))
  refine PySem.W.callWith_K (h₀ := X.base) I.ok.mod.kin B.o.kC (thn (ha.run pos pins s σ H _ I h) fun us s1 ⟨vs, H1, I1, r1, v1, v2, ev, q1⟩ => ⟨I1.kIn, ?_⟩) he hpl
  subst ev
  show wpAny _ _ (call (.ref C) us) _ _ _
  have hCo1 := PySem.W.excInit_of I1.kIn B.o.ini
  obtain ⟨nm, N, q, bs, bm, hdct, sn, sub, ab, col, dd, k0, k1, k2, k3, k5, hCo, hT⟩ := hCo1
  obtain ⟨hp, g, dr, tk, os⟩ := s1
  have hsz : hp.objs.size ≤ hp.objs.size + 1 := Nat.le_succ _
  have hn : H1 (hp.objs.size + 1) = none := I1.hok.fresh hsz
  have kk : ∀ b o, hp.get? b = some o → ((hp.push (PySem.W.kdv_tup us)).push (PySem.HandSPX.excO C hp.objs.size)).get? b = some o := fun b o e => Heap.get?_push_of_some _ (Heap.get?_push_of_some _ e)
  have hget : ((hp.push (PySem.W.kdv_tup us)).push (PySem.HandSPX.excO C hp.objs.size)).get? (hp.objs.size + 1) = some (PySem.HandSPX.excO C hp.objs.size) := by heap_get
  have I2 : L2.Inv X pins σ (upd H1 (hp.objs.size + 1) (exo (hp.objs.size + 1) C none)) ⟨(hp.push (PySem.W.kdv_tup us)).push (PySem.HandSPX.excO C hp.objs.size), g, dr, tk, os⟩ :=
    I1.laid (t' := tk) (a := hp.objs.size + 1) (o := exo (hp.objs.size + 1) C none) (h' := (hp.push (PySem.W.kdv_tup us)).push (PySem.HandSPX.excO C hp.objs.size)) kk hsz (exo_ok hget)
  have r2 : Vals [V.ref (hp.objs.size + 1), v1, v2] (Value.ref (hp.objs.size + 1) :: us) := .cons rfl r1
  have hus : us.length = 2 := by
    have := r1.length
    simpa using this.symm
  subst hC
  obtain ⟨fd, b, F⟩ := (h_Broken_init (P := X.prog) e B).ex
  have hb := b ⟨(hp.push (PySem.W.kdv_tup us)).push (PySem.HandSPX.excO (He.ga X.K "Broken") hp.objs.size), g, dr, tk, os⟩ (Value.ref (hp.objs.size + 1) :: us) I2.kIn (by rw [List.append_nil, List.length_cons, hus]; rfl)
  rw [List.append_nil] at hb
  refine wpAny_call (PySem.HandSPX.call_own PySem.F.excBase_ArithmeticError hT hCo (PySem.W.looks_findIn I1.kIn B.fI) (fun self => PySem.W.bind_fn I1.kIn self B.tI) (by rw [hus]; decide)
    (codeAny_mono (F.run _ X.stack _ (upd H1 (hp.objs.size + 1) (exo (hp.objs.size + 1) (He.ga X.K "Broken") none)) ⟨Value.ref (hp.objs.size + 1) :: us, []⟩ (Value.ref (hp.objs.size + 1) :: us) [V.ref (hp.objs.size + 1), v1, v2]
      (fun v H2 => v = .non ∧ ∃ d, H1 d = none ∧ d ≠ hp.objs.size + 1 ∧ H2 = upd (upd (upd (upd H1 (hp.objs.size + 1) (exo (hp.objs.size + 1) (He.ga X.K "Broken") none)) d (exd d [("index", v1)])) (hp.objs.size + 1) (exo (hp.objs.size + 1) (He.ga X.K "Broken") (some d))) d (exd d [("shown", v2), ("index", v1)])) E0
      (hr.make (He.ga X.K "Broken") us []) (I2.env0.make (He.ga X.K "Broken") us []) hb r2 ⟨_, v1, v2, rfl, upd_same, fun dx hdx hne => ⟨rfl, dx, by rw [upd_ne hne] at hdx; exact hdx, hne, rfl⟩⟩) fun r s' hq' => ?_))
  cases r with
  | error er => exact False.elim hq'
  | ok fl =>
    cases fl with
    | ret u =>
      obtain ⟨v, H2, os2, bare2, un2, hok2, rv, ev, d, hd1, hda, eH2⟩ := hq'
      subst ev
      obtain ⟨h2, g2, d2, t2, os'⟩ := s'
      have ea : H2 (hp.objs.size + 1) = some (exo (hp.objs.size + 1) (He.ga X.K "Broken") (some d)) := by rw [eH2, upd_ne (Ne.symm hda)]; exact upd_same
      have ed : H2 d = some (exd d [("shown", v2), ("index", v1)]) := by rw [eH2]; exact upd_same
      obtain ⟨t0, G, J, kG, ge, hoe, na⟩ := mk_end0 (d2 := d2) (t2 := t2) I1 hsz kk un2 hok2 os2 bare2 ea ed hd1
      refine ⟨rv, _, _, _, ⟨G, g2, d2, t2, os'⟩, _, .ref (He.ga X.K "Broken"), some d, rfl, J, kG, ge, hoe, ⟨rfl, rfl, fun vs e => by cases e; rfl⟩, rfl, rfl, na, rfl, bare2, raises_own B.o.exC B.o.tyC, q1 d _ (fun b o z => ?_) hd1 upd_same⟩
      rw [upd_ne (ne_of_none z hd1), del_ne (ne_of_none z hn), eH2, upd_ne (ne_of_none z hd1), upd_ne (ne_of_none z hn), upd_ne (ne_of_none z hd1), upd_ne (ne_of_none z hn)]
      exact z
    | next => exact False.elim hq'
    | brk => exact False.elim hq'
    | cont => exact False.elim hq'
/-- raise Broken(e1, e2) -/
theorem rs_broken {X : Cx} {σ : L2.St} {H : Hy} {D : Ends} {W : WX} {p pos pos' : Pos} {e1 e2 : Expr} (e : EV X.w X.K X.mg X.base) (B : BrkC X.K (He.ga X.K "Broken")) (hc : X.calm = true) (tk : L2N.Takes X W) (hr : Room 2 X.A)
    (h : RA X [e1, e2] σ H fun vs H1 => ∃ v1 v2, vs = [v1, v2] ∧ ∀ d H', Same H1 H' → H1 d = none → H' d = some (.xd [("shown", v2), ("index", v1)]) → W (.ref (He.ga X.K "Broken")) (some d) σ H')
    (hg : Gl X "Broken" := by rfl) (he : starEach [e1, e2] X.env = (false, eval e1 X.env) :: starEach [e2] X.env := by rfl) (hpl : (backTo pos (starEach [e2] X.env)).any (·.1) = false := by rfl) :
    RS X (.Raise (some (.Call (.Name "Broken" p) [e1, e2] [] pos)) none pos') D σ H := ⟨_, L2N.ps_raise hc tk (pmk_broken e B hr hg pRA he hpl), h⟩
end My

set_option Elab.async false
set_option pp.maxSteps 1500
set_option linter.all false
set_option maxRecDepth 100000
set_option maxHeartbeats 4000000
/-! L1: the law's jar -/
namespace My
open PySem PySem.Spec PyProof.Rows L2 TL
/-- the jar: three ints in a list -/
def JarAt (H : Hy) (j : Addr) : Prop := ∃ a b c : Int, H j = some (.lst [.int a, .int b, .int c])
theorem JarAt.ext {H H' : Hy} {j : Addr} (h : JarAt H j) (s : Same H H') : JarAt H' j := let ⟨a, b, c, h⟩ := h; ⟨a, b, c, s _ _ h⟩
theorem JarAt.tup {H H' : Hy} {j a : Addr} {xs : List V} (h : JarAt H j) (k : Keep j H H') (q : H a = some (.tup xs)) : H' a = some (.tup xs) := k a _ (fun e => by
  obtain ⟨_, _, _, h⟩ := h
  rw [e, h] at q
  cases q) q
theorem JarAt.sqt {K : PySem.W.Frag} {H H' : Hy} {j a : Addr} {xs : List V} (h : JarAt H j) (k : Keep j H H') (q : SqT K H a xs) : SqT K H' a xs := by
  obtain ⟨x, y, z, h⟩ := h
  rcases q with (q | ⟨o, q⟩) | q
  · exact .inl (.inl (k a _ (fun e => by rw [e, h] at q; cases q) q))
  · exact .inl (.inr ⟨o, k a _ (fun e => by rw [e, h] at q; cases q) q⟩)
  · exact .inr q
def sp_w_jar (K : PySem.W.Frag) : Sp := fun vs H Q _ => ∃ (c : Addr) (i : Int) (ns : List Int), vs = [.ref c, .int i] ∧ SqL K H c (ns.map V.int) ∧ 0 ≤ i ∧ i ≤ 3 ∧ ns.length < 2 ^ 62 ∧ ∀ p H', Same H H' → JarAt H' p → Q (.ref p) H'
def sp_w_dip (K : PySem.W.Frag) : Sp := fun vs H Q _ => ∃ (j : Addr) (n : Int), vs = [.ref j, .int n] ∧ JarAt H j ∧ 1 ≤ n ∧ n ≤ 10 ^ 29 ∧ ∀ i H', Keep j H H' → JarAt H' j → 0 ≤ i → i < n → Q (.int i) H'
section
variable {P : Program} {w : World} {K : PySem.W.Frag} {mg : Str → Option Value} {base : Heap}
theorem sc_w_dip : FnScope ["_law_jar_here", "_law_many_here", "_law_figure"] ["_law_jar_here", "_law_many_here"] (defScope s_w_dip) := ⟨rfl, rfl, rfl, by decide +kernel, rfl, by decide +kernel, by decide +kernel⟩
theorem h_w_dip (e : EV w K mg base) : Has P w K mg base 1 "_law_dip" ["_law_jar_here", "_law_many_here"] (sp_w_dip K) := by
  refine mk_has (d := d_w_dip) e.g_w_dip e.f_w_dip sc_w_dip (fun _ _ _ _ _ _ us hl => match us, hl with | [_, _], _ => rfl) (fun vs H Q E h => by obtain ⟨_, _, rfl, _⟩ := h; rfl) (fun cdv A outer s H vs Q E hr h => ?_)
  obtain ⟨j, n, rfl, ⟨a, b, c, hj⟩, h1, h2, k⟩ := h
  refine rb_cons (rs_if (rt_gt (r_ix (r_var 0 (r_int ⟨_, .int a, .inl (SqL.of hj), at0, r_int (gt_ii ?_)⟩)))))
  refine b_d (fun ha => ?_) (fun ha => ?_)
  · refine rb_cons (rs_asg (r_callB call_divmodW e.z_divmod (by decide +kernel) (ra_cons (r_ix (r_var 0 (r_int ⟨_, .int a, .inl (SqL.of hj), at0, ra_cons (r_var 1 (ra_nil ⟨a, n, rfl, ⟨by omega, PyProof.noPylong_of_log2 ?_⟩, fun t ht0 => ?_⟩))⟩))))))
    · have : n.natAbs ≤ 10 ^ 29 := by omega
      have h3 := (Nat.log2_lt (n := n.natAbs) (k := 9000) (by omega)).mpr (Nat.lt_of_le_of_lt this (by decide +kernel))
      exact h3
    have hj2 := same_new (o := .tup [.int (a / n), .int (a % n)]) ht0 _ _ hj
    refine rg_tup ⟨t, _, rfl, SqT.of upd_same, rfl, rgs_cons (rg_sub set_list (r_var 0 (r_int ⟨j, _, 0, 0, rfl, rfl, hj2, rfl, rgs_cons (rg_name 2 sc_w_dip.nd (rgs_nil ?_))⟩)))⟩
    refine rb_one (rs_ret (r_var 2 ?_))
    exact k _ _ ((Keep.of (same_new ht0)).trans Keep.upd) ⟨_, _, _, upd_same⟩ (Int.emod_nonneg _ (by omega)) (Int.emod_lt_of_pos _ (by omega))
  · refine rb_nil ?_
    refine rb_cons (rs_asg (r_mod (r_callTy call_int1 e.z_int (by decide +kernel) (ra_cons (r_add (r_add (r_mul (r_ix (r_var 0 (r_int ⟨_, .int b, .inl (SqL.of hj), at1, r_add (r_mod (r_callTy call_int1 e.z_int (by decide +kernel) (ra_cons (r_fdiv (r_ix (r_var 0 (r_int ⟨_, .int b, .inl (SqL.of hj), at1, r_int ⟨⟨by decide, by decide⟩, ra_nil (.inl ⟨_, rfl, r_int ⟨by decide, r_int (add_ii ⟨.inr ⟨?_, ?_⟩, r_mul (r_int (r_ix (r_var 0 (r_int ⟨_, .int c, .inl (SqL.of hj), at2, ⟨.inl ⟨by decide, by decide⟩, add_ii (r_int (add_ii (ra_nil (.inl ⟨_, rfl, r_int ⟨by decide, ?_⟩⟩))))⟩⟩))))⟩)⟩⟩)⟩⟩)))))))⟩))))))))))
    · have := Int.emod_nonneg (b / 64) (show (40009 : Int) ≠ 0 by decide)
      omega
    · have := Int.emod_lt_of_pos (b / 64) (show (0 : Int) < 40009 by decide)
      omega
    refine rg_sub set_list (r_var 0 (r_int ⟨j, _, 1, 1, rfl, rfl, hj, rfl, ?_⟩))
    refine rb_cons (rs_asg (r_add (r_ix (r_var 0 (r_int ⟨_, .int c, .inl (SqL.of upd_same), at2, r_int (add_ii (rg_sub set_list (r_var 0 (r_int ⟨j, _, 2, 2, rfl, rfl, upd_same, rfl, ?_⟩))))⟩)))))
    refine rb_one (rs_ret (r_mod (r_callTy call_int1 e.z_int (by decide +kernel) (ra_cons (r_fdiv (r_ix (r_var 0 (r_int ⟨_, _, .inl (SqL.of upd_same), at1, r_int ⟨⟨by decide, by decide⟩, ra_nil (.inl ⟨_, rfl, r_var 1 ⟨by omega, ?_⟩⟩)⟩⟩))))))))
    exact k _ _ (Keep.upd.trans Keep.upd) ⟨_, _, _, upd_same⟩ (Int.emod_nonneg _ (by omega)) (Int.emod_lt_of_pos _ (by omega))
theorem sc_w_jar : FnScope ["_law_cells", "_law_at", "_law_own", "_law_mixed", "_law_k"] ["_law_cells", "_law_at"] (defScope s_w_jar) := ⟨rfl, rfl, rfl, by decide +kernel, rfl, by decide +kernel, by decide +kernel⟩
theorem h_w_jar (e : EV w K mg base) : Has P w K mg base 1 "_law_jar" ["_law_cells", "_law_at"] (sp_w_jar K) := by
  refine mk_has (d := d_w_jar) e.g_w_jar e.f_w_jar sc_w_jar (fun _ _ _ _ _ _ us hl => match us, hl with | [_, _], _ => rfl) (fun vs H Q E h => by obtain ⟨_, _, _, rfl, _⟩ := h; rfl) (fun cdv A outer s H vs Q E hr h => ?_)
  obtain ⟨c, i0, ns, rfl, hc, h0, h3, h62, k⟩ := h
  obtain ⟨i, rfl⟩ : ∃ i : Nat, i0 = (i : Int) := ⟨i0.toNat, by omega⟩
  refine rb_cons (rs_par 2 3 sc_w_jar.nd (ra_cons (RE.mono (Q1 := fun v H1 => (∃ o : Int, v = .int o) ∧ H = H1) (r_if (rt_lt (r_var 1 (r_callB call_len_seq e.z_len boot_len (ra_cons (r_var 0 (ra_nil ⟨c, _, rfl, .inl hc, ?_⟩))))))) fun v H1 q => ?_)))
  · refine lt_ii (b_d (fun hlt => ?_) (fun hlt => ?_))
    · rw [List.length_map] at hlt
      have hj : i < ns.length := by omega
      exact r_ix (r_var 0 (r_var 1 ⟨_, .int ns[i], .inl hc, atI_nat (by simp [hj]), ⟨_, rfl⟩, rfl⟩))
    · exact r_int ⟨⟨0, rfl⟩, rfl⟩
  obtain ⟨⟨own, rfl⟩, rfl⟩ := q
  refine ra_cons (r_add (r_int (r_mul (r_int (r_var 1 ⟨.inl ⟨by decide, by decide⟩, add_ii (ra_nil ⟨_, _, rfl, ?_⟩)⟩)))))
  refine rb_cons (rs_for PassesOwn.never (ri_range1 e.z_range (ra_cons (r_callB (call_min2 rfl) e.z_min (by decide +kernel) (ra_cons (r_callB call_len_seq e.z_len boot_len (ra_cons (r_var 0 (ra_nil ⟨c, _, rfl, .inl hc, ra_cons (r_int (ra_nil ⟨_, _, rfl, ra_nil ⟨_, rfl, ?_, ?_, ?_⟩⟩))⟩)))))))))
  · rw [List.length_map]; split <;> omega
  · rw [List.length_map]; split <;> omega
  rw [List.length_map]
  have hle : (if (7 : Int) < (ns.length : Int) then (7 : Int) else (ns.length : Int)).toNat ≤ ns.length := by split <;> omega
  refine rfor_it walk_range (fun _ σ' H' => H = H' ∧ ∃ (x : Int) (v : Option V), σ' = [some (.ref c), some (.int (i : Int)), some (.int own), some (.int x), v] ∧ -(2 ^ 64) < x ∧ x < 2 ^ 64) ⟨rfl, _, _, rfl, by omega, by omega⟩ (fun _ _ _ _ _ => trivial) ?_ ?_
  · rintro j x σ' H' H'' hi ⟨rfl, x, v, rfl, hx1, hx2⟩ ⟨rfl, rfl⟩
    have hj : j < ns.length := Nat.lt_of_lt_of_le hi hle
    refine rg_name 4 sc_w_jar.nd (rb_one (rs_set 3 sc_w_jar.nd (r_mod (r_callTy call_int1 e.z_int (by decide +kernel) (ra_cons (r_add (r_add (r_mul (r_var 3 (gv rfl (r_add (r_int (r_mul (r_int (r_var 4 ⟨.inl ⟨by decide, by decide⟩, add_ii ⟨.inl ⟨hx1, hx2⟩, r_mul (r_ix (r_var 0 (r_var 4 ⟨_, .int ns[j], .inl hc, ?_, r_int ⟨.inr ⟨by decide, by decide⟩, add_ii (r_int (add_ii (ra_nil (.inl ⟨_, rfl, r_int ⟨by decide, rfl, _, _, rfl, ?_, ?_⟩⟩))))⟩⟩)))⟩⟩)))))))))))))))
    · have : (0 : Int) + (j : Int) = ((j : Nat) : Int) := by omega
      rw [this]
      exact atI_nat (by simp [hj])
    · have := Int.emod_nonneg (x * (45127 + 4 * (0 + (j : Int))) + ns[j] * 13 + 8191) (show (2147483477 : Int) ≠ 0 by decide)
      omega
    · have := Int.emod_lt_of_pos (x * (45127 + 4 * (0 + (j : Int))) + ns[j] * 13 + 8191) (show (0 : Int) < 2147483477 by decide)
      omega
  · rintro σ' H' ⟨rfl, x, v, rfl, hx1, hx2⟩
    refine rb_one (rs_ret (r_lst (ra_cons (RE.mono (Q1 := fun v H1 => (∃ o : Int, v = .int o) ∧ H = H1) (r_if (rt_bool (rw_or (rt_lt (r_var 2 (gv rfl (r_int (lt_ii ?_)))))))) fun v H1 q => ?_))))
    · refine b_d (fun hlt => ?_) (fun hlt => ?_)
      · exact r_callB call_abs e.z_abs (by decide +kernel) (ra_cons (r_var 2 (ra_nil ⟨own, rfl, ⟨_, rfl⟩, rfl⟩)))
      · refine rw_or1 (rt_ge (r_var 2 (gv rfl (r_pow (r_int (r_int ⟨⟨by decide, by decide, by decide⟩, ge_ii ?_⟩))))))
        refine b_d (fun hlt => ?_) (fun hlt => ?_)
        · exact r_callB call_abs e.z_abs (by decide +kernel) (ra_cons (r_var 2 (ra_nil ⟨own, rfl, ⟨_, rfl⟩, rfl⟩)))
        · exact r_int ⟨⟨0, rfl⟩, rfl⟩
    obtain ⟨⟨o, rfl⟩, rfl⟩ := q
    refine ra_cons (r_mod (r_callTy call_int1 e.z_int (by decide +kernel) (ra_cons (r_add (r_var 3 (gv rfl (r_mul (r_var 2 (r_int ⟨.inr ⟨by decide, by decide⟩, add_ii (ra_nil (.inl ⟨_, rfl, r_int ⟨by decide, ra_cons (r_int (ra_nil ⟨by show 3 ≤ sizeLine; decide, fun p hp => k p _ (same_new hp) ⟨_, _, _, upd_same⟩⟩))⟩⟩))⟩)))))))))
end
end My

set_option Elab.async false
set_option pp.maxSteps 1500
set_option linter.all false
set_option maxRecDepth 100000
set_option maxHeartbeats 4000000
/-! L2: the law's rows -/
namespace My
open PySem PySem.Spec PyProof.Rows L2 TL
theorem str_dig (i : Int) (h0 : 0 ≤ i) (h1 : i < 10) : (toString i : Str) = S [48 + i.toNat] := by
  have : i = 0 ∨ i = 1 ∨ i = 2 ∨ i = 3 ∨ i = 4 ∨ i = 5 ∨ i = 6 ∨ i = 7 ∨ i = 8 ∨ i = 9 := by omega
  rcases this with rfl | rfl | rfl | rfl | rfl | rfl | rfl | rfl | rfl | rfl <;> decide +kernel
structure Digs (ns : List Nat) (r : LN) : Prop where
  len : r.length = ns.length
  dig : ∀ (i c d : Nat), r[i]? = some c → ns[i]? = some d → 48 ≤ c ∧ c < 48 + d
def sp_w_row (K : PySem.W.Frag) : Sp := fun vs H Q _ => ∃ (j a : Addr) (ns : List Nat), vs = [.ref j, .ref a] ∧ JarAt H j ∧ SqT K H a (ns.map fun d : Nat => V.int d) ∧ (∀ d ∈ ns, 2 ≤ d ∧ d ≤ 4) ∧ ns.length ≤ 6 ∧ ∀ r H', Keep j H H' → JarAt H' j → Digs ns r → Q (.str (S r)) H'
section
variable {P : Program} {w : World} {K : PySem.W.Frag} {mg : Str → Option Value} {base : Heap}
theorem sc_w_row : FnScope ["_law_jar_here", "_law_numbers", "_law_number"] ["_law_jar_here", "_law_numbers"] (defScope s_w_row) := ⟨rfl, rfl, rfl, by decide +kernel, rfl, by decide +kernel, by decide +kernel⟩
theorem h_w_row (e : EV w K mg base) : Has P w K mg base 2 "_law_row" ["_law_jar_here", "_law_numbers"] (sp_w_row K) := by
  refine mk_has (d := d_w_row) e.g_w_row e.f_w_row sc_w_row (fun _ _ _ _ _ _ us hl => match us, hl with | [_, _], _ => rfl) (fun vs H Q E h => by obtain ⟨_, _, _, rfl, _⟩ := h; rfl) (fun cdv A outer s H vs Q E hr h => ?_)
  obtain ⟨j, a, ns, rfl, hj, ha, h4, h6, k⟩ := h
  refine rb_one (rs_ret (r_join (r_str ⟨[], s_no ▸ rfl, ra_cons (r_lc [("_law_number", 2)] sc_w_row.nd (blkOk_by (N := ["_law_jar_here", "_law_numbers", "_law_number"]) (sc := defScope s_w_row) (by decide +kernel)) (ri_tup (r_var 1 ⟨a, rfl, ⟨_, ha⟩, fun D hD => ?_⟩)))⟩)))
  have hjD : j ≠ D := fun e => by obtain ⟨_, _, _, q⟩ := hj; rw [e, hD] at q; cases q
  refine lc_it (walk_tup (xs := ns.map fun d : Nat => V.int d)) (fun i H' => Keep j H H' ∧ JarAt H' j ∧ ∃ r, H' D = some (.lst (strsV (r.map fun c => [c]))) ∧ Digs (ns.take i) r) ⟨Keep.of (same_new hD), hj.ext (same_new hD), [], upd_same, rfl, fun i c d h => by simp at h⟩ (fun i H' _ p => hj.sqt p.1 ha) (fun i x H2 H3 hi p y => ?_) (fun H' p => ?_)
  · obtain ⟨k1, hj2, r, hr2, hd⟩ := p
    obtain ⟨rfl, hx⟩ := y
    rw [List.getElem?_map] at hx
    cases hn : ns[i]? with
    | none => rw [hn] at hx; cases hx
    | some n =>
      rw [hn] at hx
      obtain rfl : V.int n = x := Option.some.inj hx
      have hb := h4 n (List.mem_of_getElem? hn)
      intro s0 H0 C cl fp
      refine rg_name 2 sc_w_row.nd ⟨rfl, ?_⟩
      intro s0 H0 C cl fp
      refine rts_nil (iteT ?_)
      intro s0 H0 C cl fp
      refine r_callTy call_str_int e.z_str (by decide +kernel) (ra_cons (r_call (h_w_dip e) hr (ra_cons (r_var 0 (ra_cons (r_var 2 (ra_nil ⟨j, n, rfl, hj2, by omega, by omega, fun v H4 k4 hj4 h0 h1 => ra_nil ⟨v, rfl, ?_, ?_⟩⟩)))))))
      · have : v.natAbs ≤ 4 := by omega
        rcases (show v.natAbs = 0 ∨ v.natAbs = 1 ∨ v.natAbs = 2 ∨ v.natAbs = 3 ∨ v.natAbs = 4 by omega) with q | q | q | q | q <;> rw [q] <;> decide
      rw [str_dig v h0 (by omega)]
      have hD4 := k4 D _ (Ne.symm hjD) hr2
      have hrl : r.length = i := by
        rw [hd.len, List.length_take]
        have := (List.getElem?_eq_some_iff.mp hn).1
        omega
      have hni := (List.getElem?_eq_some_iff.mp hn).1
      refine ⟨_, hD4, ?_, fun b u hne hb => ?_, ?_, r ++ [48 + v.toNat], ?_, ?_, ?_⟩
      · rw [List.length_map, List.length_map, List.length_map, hrl]
        exact Nat.lt_of_lt_of_le hni (Nat.le_trans h6 (by decide))
      · rw [upd_ne (ne_of_none hb hD)]
        exact k4 _ _ hne (k1 _ _ hne hb)
      · obtain ⟨x, y, z, q⟩ := hj4
        exact ⟨x, y, z, by rw [upd_ne hjD]; exact q⟩
      · rw [show ∀ l : List Nat, strsV ((l ++ [48 + v.toNat]).map fun c => [c]) = strsV (l.map fun c => [c]) ++ [.str (S [48 + v.toNat])] from fun l => by simp]
        exact upd_same
      · rw [List.length_append, List.length_take, hrl]
        show i + 1 = _
        omega
      · intro i' c d hc hd'
        by_cases hlt : i' < i
        · rw [List.getElem?_append_left (by omega)] at hc
          refine hd.dig i' c d hc ?_
          rw [List.getElem?_take] at hd' ⊢
          rw [if_pos (by omega)] at hd'
          rw [if_pos hlt]
          exact hd'
        · by_cases he : i' = i
          · subst he
            rw [List.getElem?_append_right (by omega), hrl, Nat.sub_self] at hc
            obtain rfl := Option.some.inj hc
            rw [List.getElem?_take, if_pos (by omega), hn] at hd'
            obtain rfl := Option.some.inj hd'
            omega
          · rw [List.getElem?_append_right (by omega)] at hc
            have : 1 ≤ i' - r.length := by omega
            rw [List.getElem?_eq_none (by simp; omega)] at hc
            cases hc
  · obtain ⟨k1, hj2, r, hr2, hd⟩ := p
    rw [List.length_map, List.take_length] at hd
    refine ra_nil ⟨D, r.map fun c => [c], rfl, .inl (SqL.of hr2), ?_, ?_⟩
    · rw [sum_one]
      have := hd.len
      simp only [List.length_nil]
      omega
    rw [joinL_nil, flat_one]
    exact k r H' k1 hj2 hd
end
end My

set_option Elab.async false
set_option pp.maxSteps 1500
set_option linter.all false
set_option maxRecDepth 100000
set_option maxHeartbeats 4000000
/-! J3: the law's letters -/
namespace My
open PySem PySem.Spec PyProof.Rows L2 TL
theorem pd_of_get {α β : Type} {F : α → β → Prop} : ∀ {l : List α} {m : List β}, l.length = m.length → (∀ (i : Nat) (a : α) (b : β), l[i]? = some a → m[i]? = some b → F a b) → Paired F l m
  | [], [], _, _ => .nil
  | [], _ :: _, h, _ => by simp at h
  | _ :: _, [], h, _ => by simp at h
  | a :: l, b :: m, h, k => .cons (k 0 a b rfl rfl) (pd_of_get (by simpa using h) fun i x y hx hy => k (i + 1) x y (by simpa using hx) (by simpa using hy))
theorem call_listS {X : Cx} (hc : X.calm = true) : CallR X (.type "list") (fun xs H Q => ∃ l : List Nat, xs = [.str (S l)] ∧ l.length ≤ 1000 ∧ ∀ p, H p = none → Q (.ref p) (upd H p (.lst (strsV (l.map fun c => [c]))))) := by
  intro pins s σ H xs us Q I r h
  obtain ⟨l, rfl, hl, q⟩ := h
  obtain ⟨u, rfl, rx⟩ := vals1 r
  obtain ⟨t, rfl⟩ := rx
  have hz : l.length ≤ sizeLine := Nat.le_trans hl (by decide)
  refine call_list_str (I.ok.hd hc) (S l) t (hn := hz) fun h' tk acc' c' hk hS' hacc => ?_
  have hsz : acc'.size = l.length := hacc.1
  have rv : L2.Vals (strsV (l.map fun c => [c])) acc'.toList := pd_of_get (by simp [hsz]) fun i a b ha hb => by
    obtain ⟨c, u, hc', rfl⟩ := hacc.2 i b (by simpa using hb)
    have hc2 : l[i]? = some c := by simpa [S] using hc'
    rw [List.getElem?_map, List.getElem?_map, List.getElem?_map, hc2] at ha
    obtain rfl := Option.some.inj ha
    exact ⟨u, rfl⟩
  exact ⟨.ref s.heap.objs.size, _, I.laid (t' := tk) hk (Nat.le_refl _) (show ObjOk X.prog X.w _ h' _ (.lst (strsV (l.map fun c => [c]))) from ⟨by simp only [List.length_map]; exact hz, acc'.toList, c', rv, by simpa using hS'⟩), rfl, q _ (I.hok.fresh (Nat.le_refl _))⟩
theorem get_erase_perm {α : Type} : ∀ (L : List α) (d : Nat) (h : d < L.length), (L[d] :: L.eraseIdx d).Perm L
  | [], d, h => by simp at h
  | a :: r, 0, _ => List.Perm.refl _
  | a :: r, d + 1, h => by
    have hd : d < r.length := by simpa using h
    have ih := get_erase_perm r d hd
    show (r[d] :: a :: r.eraseIdx d).Perm (a :: r)
    exact (List.Perm.swap _ _ _).trans (ih.cons a)
/-- sorted texts of one sign each, all unlike -/
theorem asc_of_sorted {l : List Nat} (nd : l.Nodup) (h : sortedS (l.map fun c => S [c]) = true) : Asc (· < ·) l := by
  have key : ∀ (l : List Nat) (p : Nat), risingS (S [p]) (l.map fun c => S [c]) = true → (p :: l).Nodup → Asc (· < ·) (p :: l) := by
    intro l
    induction l with
    | nil => intro p _ _ i a b h1 h2; simp at h2
    | cons x r ih =>
      intro p h nd i a b h1 h2
      have h' : (!ltCps [x] [p] && risingS (S [x]) (r.map fun c => S [c])) = true := h
      rw [Bool.and_eq_true] at h'
      rw [List.nodup_cons] at nd
      cases i with
      | zero =>
        obtain rfl := Option.some.inj h1
        obtain rfl := Option.some.inj h2
        have h3 := h'.1
        rw [ltCps_eq] at h3
        have h4 : ¬ ([x] : List Nat) < [p] := by simpa using h3
        have h5 : ¬ x < p := fun q => h4 (List.cons_lt_cons_iff.mpr (Or.inl q))
        have h6 : p ≠ x := fun q => nd.1 (by rw [q]; exact List.mem_cons_self ..)
        omega
      | succ i => exact ih x h'.2 nd.2 i a b (by simpa using h1) (by simpa using h2)
  cases l with
  | nil => intro i a b h1; simp at h1
  | cons p r => exact key r p h nd
section
variable {X : Cx} {σ : L2.St} {H : Hy} {Q : VK} {pos apos : Pos} {e a : Expr}
/-- l.pop(a) -/
theorem r_popAt (h : RE X e σ H fun x H1 => ∃ l, x = .ref l ∧ (∃ xs, H1 l = some (.lst xs)) ∧ RE X a σ H1 fun y H2 => ∃ (xs : List V) (k : Nat) (v : V), y = .int (k : Nat) ∧ H2 l = some (.lst xs) ∧ k < 1000 ∧ xs[k]? = some v ∧ Q v (upd H2 l (.lst (xs.eraseIdx k))))
    (hbase : attributeBase e "pop" X.env (eval e X.env) = eval e X.env := by rfl)
    (hfew : ((backTo pos (starEach [a] X.env)).all (fun x => !x.1) && (backToKw pos (keywordEach [] X.env)).all (fun x => x.1.isSome)
      && decide ([a].length + ([] : List Keyword).length + (if ([] : List Keyword).isEmpty then 0 else 1) < 30)) = true := by rfl)
    (hline : (apos.endLine == pos.line) = true := by rfl) (hs : starEach [a] X.env = (false, eval a X.env) :: starEach [] X.env := by rfl) (hplain : (backTo pos (starEach [] X.env)).any (·.1) = false := by rfl) : RE X (.Call (.Attribute e "pop" apos) [a] [] pos) σ H Q := by
  refine r_bm PySem.F.plainAttrs_list PySem.F.slot_list_pop PySem.F.type_list_pop mt_popAt (h.mono fun x H1 q => ?_) hbase hfew hline hs hplain
  obtain ⟨l, rfl, ⟨xs, h1⟩, q⟩ := q
  refine ⟨.inl ⟨rfl, xs, SqL.of h1⟩, ra_cons (q.mono fun y H2 q2 => ?_) hs⟩
  obtain ⟨xs, k, v, rfl, h2, h3, h4, q3⟩ := q2
  have hk := (List.getElem?_eq_some_iff.mp h4).1
  refine ra_nil ⟨l, xs, (k : Int), k, v, rfl, rfl, h2, by omega, by omega, ?_, h4, q3⟩
  have := PySem.seqIndex_of (k := (k : Int)) (n := xs.length) (by omega) (by omega)
  simpa using this
end
def sp_w_letters (K : PySem.W.Frag) : Sp := fun vs H Q _ => ∃ (j : Addr) (n : Nat), vs = [.ref j, .int n] ∧ JarAt H j ∧ n ≤ 6 ∧ ∀ l H', Keep j H H' → JarAt H' j → l.length = n → Asc (· < ·) l → (∀ c ∈ l, 97 ≤ c ∧ c ≤ 122) → Q (.str (S l)) H'
section
variable {P : Program} {w : World} {K : PySem.W.Frag} {mg : Str → Option Value} {base : Heap}
theorem sc_w_letters : FnScope ["_law_jar_here", "_law_many_here", "_law_left", "_law_found", "_law_k"] ["_law_jar_here", "_law_many_here"] (defScope s_w_letters) := ⟨rfl, rfl, rfl, by decide +kernel, rfl, by decide +kernel, by decide +kernel⟩
theorem h_w_letters (e : EV w K mg base) : Has P w K mg base 2 "_law_letters" ["_law_jar_here", "_law_many_here"] (sp_w_letters K) := by
  refine mk_has (d := d_w_letters) e.g_w_letters e.f_w_letters sc_w_letters (fun _ _ _ _ _ _ us hl => match us, hl with | [_, _], _ => rfl) (fun vs H Q E h => by obtain ⟨_, _, rfl, _⟩ := h; rfl) (fun cdv A outer s H vs Q E hr h => ?_)
  obtain ⟨j, n, rfl, hj, hn, k⟩ := h
  have h26 : (List.range' 97 26).length = 26 := List.length_range'
  refine rb_cons (rs_par 2 3 sc_w_letters.nd (ra_cons (r_callTy (call_listS rfl) e.z_list (by decide +kernel) (ra_cons (r_str (ra_nil ⟨List.range' 97 26, congrArg (fun x => [V.str x]) s_letters, by decide, fun l hl0 => ra_cons (r_lst (ra_nil ⟨by show 0 ≤ sizeLine; decide, fun f hf0 => ra_nil ⟨_, _, rfl, ?_⟩⟩))⟩))))))
  have hlf : l ≠ f := fun z => by rw [← z, upd_same] at hf0; cases hf0
  have sl := fun o => same_new (o := o) hl0
  have sf := fun o => same_new (o := o) hf0
  have hjl : j ≠ l := fun z => by obtain ⟨_, _, _, q⟩ := hj; rw [z, hl0] at q; cases q
  have hjf : j ≠ f := fun z => by obtain ⟨_, _, _, q⟩ := hj; rw [z] at q; rw [sl (.lst _) _ _ q] at hf0; cases hf0
  have hHl : H l = none := hl0
  have hHf : H f = none := by rw [upd_ne (Ne.symm hlf)] at hf0; exact hf0
  refine rb_cons (rs_for PassesOwn.never (ri_range1 e.z_range (ra_cons (r_var 1 (ra_nil ⟨_, rfl, by omega, by omega, ?_⟩)))))
  rw [Int.toNat_natCast]
  refine rfor_it walk_range (fun i σ' H' => Keep j H H' ∧ JarAt H' j ∧ ∃ (L F : List Nat) (v : Option V), σ' = [some (.ref j), some (.int n), some (.ref l), some (.ref f), v] ∧ H' l = some (.lst (strsV (L.map fun c => [c]))) ∧ H' f = some (.lst (strsV (F.map fun c => [c]))) ∧ (L ++ F).Perm (List.range' 97 26) ∧ F.length = i) ⟨Keep.of ((sl _).trans (sf _)), (hj.ext (sl _)).ext (sf _), List.range' 97 26, [], none, rfl, sf _ _ _ upd_same, upd_same, by rw [List.append_nil], rfl⟩ (fun _ _ _ _ _ => trivial) ?_ ?_
  · rintro i x σ' H1 H1' hi ⟨k1, hj1, L, F, v, rfl, hL, hF, hp, hFl⟩ ⟨rfl, rfl⟩
    have hlen := hp.length_eq
    rw [List.length_append, h26] at hlen
    refine rg_name 4 sc_w_letters.nd (rb_one (rs_expr (r_append (r_var 3 ⟨f, rfl, ⟨_, hF⟩, ra_cons (r_popAt (r_var 2 ⟨l, rfl, ⟨_, hL⟩, r_call (h_w_dip e) hr (ra_cons (r_var 0 (ra_cons (r_callB call_len_seq e.z_len boot_len (ra_cons (r_var 2 (ra_nil ⟨l, _, rfl, .inl (SqL.of hL), ra_nil ⟨j, _, rfl, hj1, ?_, ?_, fun d H2 k2 hj2 h0 h1 => ?_⟩⟩)))))))⟩))⟩))))
    · simp only [List.length_map]
      omega
    · simp only [List.length_map]
      omega
    simp only [List.length_map] at h1
    obtain ⟨d, rfl⟩ : ∃ d' : Nat, d = (d' : Int) := ⟨d.toNat, by omega⟩
    have hd : d < L.length := by omega
    have hL2 := k2 _ _ (Ne.symm hjl) hL
    have hF2 := k2 _ _ (Ne.symm hjf) hF
    refine ⟨_, d, .str (S [L[d]]), rfl, hL2, by omega, ?_, ra_nil ⟨strsV (F.map fun c => [c]), _, rfl, ?_, ?_, ?_⟩⟩
    · rw [List.getElem?_map, List.getElem?_map, List.getElem?_map, List.getElem?_eq_getElem hd]
      rfl
    · rw [upd_ne (Ne.symm hlf)]
      exact hF2
    · simp only [List.length_map, hFl]
      exact Nat.lt_of_lt_of_le (show i < 6 by omega) (by decide)
    · refine ⟨fun b u hb h => ?_, ?_, L.eraseIdx d, F ++ [L[d]], _, rfl, ?_, ?_, ?_, ?_⟩
      · rw [upd_ne (show b ≠ f from fun z => by rw [z, hHf] at h; cases h), upd_ne (show b ≠ l from fun z => by rw [z, hHl] at h; cases h)]
        exact k2 _ _ hb (k1 _ _ hb h)
      · obtain ⟨x, y, z, q⟩ := hj2
        exact ⟨x, y, z, by rw [upd_ne hjf, upd_ne hjl]; exact q⟩
      · rw [upd_ne hlf, upd_same]
        simp only [strsV, DT.map_erase]
      · rw [upd_same]
        simp
      · have h3 := get_erase_perm L d hd
        refine List.Perm.trans ?_ hp
        refine List.Perm.trans ?_ (List.Perm.append_right F h3)
        rw [← List.append_assoc]
        exact List.perm_append_singleton _ _
      · rw [List.length_append, hFl]
        rfl
  · rintro σ' H1 ⟨k1, hj1, L, F, v, rfl, hL, hF, hp, hFl⟩
    have nd : F.Nodup := (List.nodup_append.mp (hp.nodup_iff.mpr List.nodup_range')).2.1
    have e1 : strsV (F.map fun c => [c]) = (F.map fun c => S [c]).map V.str := by simp only [strsV, List.map_map]; rfl
    refine rb_one (rs_ret (r_join (r_str ⟨[], s_no ▸ rfl, ra_cons (r_callB cr_sortedS e.z_sorted (by decide +kernel) (ra_cons (r_var 3 (ra_nil ⟨f, F.map fun c => S [c], rfl, SqL.of (by rw [hF, e1]), ?_, fun ys q hys hs hq0 => ra_nil ?_⟩)))) ⟩)))
    · rw [List.length_map, hFl]
      omega
    obtain ⟨G, hG, rfl⟩ := perm_lift (fun c : Nat => S [c]) hys F rfl
    have e2 : (G.map fun c => S [c]).map V.str = strsV (G.map fun c => [c]) := by simp only [strsV, List.map_map]; rfl
    refine ⟨q, G.map fun c => [c], rfl, .inl (SqL.of (by rw [upd_same, e2])), ?_, ?_⟩
    · rw [sum_one]
      have := hG.length_eq
      simp only [List.length_nil]
      omega
    rw [joinL_nil, flat_one]
    have sq := fun o => same_new (o := o) hq0
    refine k G _ (fun b u hb h => sq _ _ _ (k1 _ _ hb h)) (hj1.ext (sq _)) (hG.length_eq.trans hFl) (asc_of_sorted (hG.nodup_iff.mpr nd) hs) fun c hc => ?_
    have := (hp.mem_iff (a := c)).mp (List.mem_append.mpr (.inr (hG.mem_iff.mp hc)))
    rw [List.mem_range'_1] at this
    omega
end
end My

set_option Elab.async false
set_option pp.maxSteps 1500
set_option linter.all false
set_option maxRecDepth 100000
set_option maxHeartbeats 4000000
/-! J4: the law's texts and rows -/
namespace My
open PySem PySem.Spec PyProof.Rows L2 TL
/-- a shape: columns, numbers, lots, whether it is a tree -/
structure ShAt (H : Hy) (s : Addr) (m : MD) (so : Bool) : Prop where
  at_ : ∃ a b, H s = some (.tup [.str (S m.cols), .ref a, .ref b, .bl so]) ∧ H a = some (.tup (m.levI.map V.int)) ∧ H b = some (.tup (strsV m.lots))
theorem ShAt.ext {H H' : Hy} {s : Addr} {m : MD} {so : Bool} (h : ShAt H s m so) (q : Same H H') : ShAt H' s m so := let ⟨a, b, h1, h2, h3⟩ := h.at_; ⟨a, b, q _ _ h1, q _ _ h2, q _ _ h3⟩
theorem ShAt.keep {H H' : Hy} {s j : Addr} {m : MD} {so : Bool} (h : ShAt H s m so) (hj : JarAt H j) (q : Keep j H H') : ShAt H' s m so := let ⟨a, b, h1, h2, h3⟩ := h.at_; ⟨a, b, hj.tup q h1, hj.tup q h2, hj.tup q h3⟩
def sp_w_text (K : PySem.W.Frag) : Sp := fun vs H Q _ => ∃ (m : MD) (s : Addr) (so : Bool), vs = [.ref s] ∧ ShAt H s m so ∧ MOk m ∧ ∀ H', Same H H' → Q (.str (S m.text)) H'
def sp_w_rows (K : PySem.W.Frag) : Sp := sp_all_rows K
theorem s_cols_ : ("columns " : Str) = S (colW ++ [32]) := by decide +kernel
theorem s_lots_ : ("lots " : Str) = S (lotW ++ [32]) := by decide +kernel
section
variable {P : Program} {w : World} {K : PySem.W.Frag} {mg : Str → Option Value} {base : Heap}
theorem sc_w_text : FnScope ["_law_shape", "_law_words", "_law_k"] ["_law_shape"] (defScope s_w_text) := ⟨rfl, rfl, rfl, by decide +kernel, rfl, by decide +kernel, by decide +kernel⟩
theorem h_w_text (e : EV w K mg base) : Has P w K mg base 1 "_law_text" ["_law_shape"] (sp_w_text K) := by
  refine mk_has (d := d_w_text) e.g_w_text e.f_w_text sc_w_text (fun _ _ _ _ _ _ us hl => match us, hl with | [_], _ => rfl) (fun vs H Q E h => by obtain ⟨_, _, _, rfl, _⟩ := h; rfl) (fun cdv A outer s H vs Q E hr h => ?_)
  obtain ⟨m, s0, so, rfl, hs, hm, k⟩ := h
  obtain ⟨a, b, h1, h2, h3⟩ := hs.at_
  have h6 := hm.n6
  have h22 := hm.n2
  have hw := words_length hm
  refine rb_cons (rs_lc 1 [("_law_k", 2)] sc_w_text.nd (blkOk_by (N := ["_law_shape", "_law_words", "_law_k"]) (sc := defScope s_w_text) (by decide +kernel)) (by rfl) (ri_range1 e.z_range (ra_cons (r_callB call_len_str e.z_len boot_len (ra_cons (r_ix (r_var 0 (r_int ⟨_, .str (S m.cols), .inr (SqT.of h1), at0, ra_nil ⟨_, rfl, S_small (by omega), ra_nil ⟨_, rfl, ?_, ?_, fun D hD => ?_⟩⟩⟩))))))))
  · rw [S_length]; omega
  · rw [S_length]; omega
  rw [S_length, Int.toNat_natCast]
  refine lc_n 2 walk_range hD (fun _ _ => trivial) (fun i H x H' y => by rw [y.1]; exact Same.refl _) (strsV m.words) (by simp [hw]) (Nat.lt_of_le_of_lt h6 (by decide)) (fun i v H2 H3 hi s1 y => ?_) (fun H1 s1 hd => ?_) sc_w_text.nd
  · obtain ⟨rfl, hv⟩ := y
    replace hv : v = V.int (0 + (i : Int)) := hv
    rw [Int.zero_add] at hv
    subst hv
    have hi2 : i < m.words.length := by rw [hw]; exact hi
    obtain ⟨c, d, hc, hd, hcd⟩ := words_get hm (List.getElem?_eq_getElem hi2)
    have hlv := hm.lv d (List.mem_of_getElem? hd)
    intro s0' H0 C cl fp
    refine r_add (r_ix (r_ix (r_var 0 (r_int ⟨_, .str (S m.cols), .inr (SqT.of (s1 _ _ h1)), at0, r_var 2 ⟨S_small (by omega), c, atI_nat hc, r_callTy call_str_int e.z_str (by decide +kernel) (ra_cons (r_ix (r_ix (r_var 0 (r_int ⟨_, .ref a, .inr (SqT.of (s1 _ _ h1)), at1, r_var 2 ⟨_, .int d, .inr (SqT.of (s1 _ _ h2)), atI_nat (by rw [MD.levI, List.getElem?_map, List.getElem?_map, hd]; rfl), ra_nil ⟨d, rfl, ?_, ?_⟩⟩⟩)))))⟩⟩))))
    · rcases (show d = 2 ∨ d = 3 ∨ d = 4 by omega) with rfl | rfl | rfl <;> decide
    · rw [str_dig _ (by omega) (by omega), Int.toNat_natCast]
      refine ⟨by show (1 : Nat) + 1 ≤ sizeLine; decide, Same.refl _, ?_⟩
      rw [List.getElem?_map, List.getElem?_map, List.getElem?_eq_getElem hi2, hcd]
      rfl
  have hl0 := words_len hm
  have hl1 := lots_len hm
  have hne : m.words ≠ [] := fun q => by rw [q] at hw; simp at hw; omega
  have hne2 : m.lots ≠ [] := fun q => by have := hm.k1; rw [q] at this; simp at this
  have e0 : m.line0 = colW ++ [32] ++ joinL [32] m.words := joinL_cons _ _ hne
  have e1 : m.line1 = lotW ++ [32] ++ joinL [32] m.lots := joinL_cons _ _ hne2
  have g0 := congrArg List.length e0
  have g1 := congrArg List.length e1
  simp only [List.length_append] at g0 g1
  have sw : (m.words.map (·.length)).sum ≤ m.words.length * 2 := sum_le fun l hl => by
    obtain ⟨i, hi⟩ := List.mem_iff_getElem?.mp hl
    obtain ⟨c, d, _, _, rfl⟩ := words_get hm hi
    simp
  have sl : (m.lots.map (·.length)).sum ≤ m.lots.length * 6 := sum_le fun l hl => (hm.lot l hl).2.2.2
  have hk := hm.k10
  have c7 : colW.length = 7 := rfl
  have c4 : lotW.length = 4 := rfl
  have big : ∀ n, n ≤ 1000 → n ≤ sizeLine := fun n h => Nat.le_trans h (by decide)
  refine rb_one (rs_ret (r_add (r_add (r_add (r_add (r_str (r_join (r_str ⟨[32], congrArg V.str s_sp, ra_cons (r_var 1 (ra_nil ⟨D, m.words, rfl, .inl (SqL.of hd), ?_, ?_⟩))⟩))))))))
  · show _ + m.words.length * 1 ≤ _
    omega
  rw [s_cols_]
  refine ⟨?_, ?_⟩
  · rw [S_length, S_length, List.length_append]
    exact big _ (by show _ + 1 + _ ≤ 1000; omega)
  rw [S_append]
  refine r_str ?_
  rw [s_nl]
  refine ⟨?_, ?_⟩
  · rw [S_length, S_length, List.length_append, List.length_append]
    exact big _ (by show _ + 1 + _ + 1 ≤ 1000; omega)
  rw [S_append]
  refine r_str ?_
  rw [s_lots_]
  refine ⟨?_, ?_⟩
  · rw [S_length, S_length]
    simp only [List.length_append, List.length_cons, List.length_nil]
    exact big _ (by omega)
  rw [S_append]
  refine r_join (r_str ⟨[32], congrArg V.str s_sp, ra_cons (r_ix (r_var 0 (r_int ⟨_, .ref b, .inr (SqT.of (s1 _ _ h1)), at2, ra_nil ⟨b, m.lots, rfl, .inr (SqT.of (s1 _ _ h3)), ?_, ?_, ?_⟩⟩)))⟩)
  · show _ + m.lots.length * 1 ≤ _
    omega
  · rw [S_length, S_length]
    simp only [List.length_append, List.length_cons, List.length_nil]
    exact big _ (by simp only [List.length_cons, List.length_nil] at g0 g1; omega)
  · rw [S_append]
    have et : colW ++ [32] ++ joinL [32] m.words ++ [10] ++ (lotW ++ [32]) ++ joinL [32] m.lots = m.text := by
      show _ = joinL [10] [m.line0, m.line1]
      rw [joinL_cons [10] m.line0 (by simp), e0, e1]
      simp [joinL]
    rw [et]
    exact k _ s1
end
end My

set_option Elab.async false
set_option pp.maxSteps 1500
set_option linter.all false
set_option maxRecDepth 100000
set_option maxHeartbeats 4000000
/-! J5: the law's rows -/
namespace My
open PySem PySem.Spec PyProof.Rows L2 TL
def longer (n : Nat) (rs : List LN) : List LN := rs.flatMap fun r => (List.range n).map fun d => r ++ [48 + d]
theorem longer_snoc (n : Nat) {rs : List LN} {i : Nat} {r : LN} (h : rs[i]? = some r) : longer n (rs.take (i + 1)) = longer n (rs.take i) ++ (List.range n).map fun d => r ++ [48 + d] := by
  unfold longer
  rw [List.take_succ, h, List.flatMap_append]
  simp
theorem longer_len (n : Nat) (h : n ≤ 4) (rs : List LN) : (longer n rs).length ≤ rs.length * 4 := by
  unfold longer
  induction rs with
  | nil => simp
  | cons r rs ih =>
    simp only [List.flatMap_cons, List.length_append, List.length_map, List.length_range, List.length_cons] at ih ⊢
    omega
section
variable {P : Program} {w : World} {K : PySem.W.Frag} {mg : Str → Option Value} {base : Heap}
theorem sc_w_rows : FnScope ["_law_numbers", "_law_found", "_law_number", "_law_longer", "_law_row_here", "_law_k"] ["_law_numbers"] (defScope s_w_rows) := ⟨rfl, rfl, rfl, by decide +kernel, rfl, by decide +kernel, by decide +kernel⟩
theorem h_w_rows (e : EV w K mg base) : Has P w K mg base 1 "_law_rows" ["_law_numbers"] (sp_w_rows K) := by
  refine mk_has (d := d_w_rows) e.g_w_rows e.f_w_rows sc_w_rows (fun _ _ _ _ _ _ us hl => match us, hl with | [_], _ => rfl) (fun vs H Q E h => by obtain ⟨_, _, rfl, _⟩ := h; rfl) (fun cdv A outer s H vs Q E hr h => ?_)
  obtain ⟨a, ls, rfl, ha, h4, h6, k⟩ := h
  refine rb_cons (rs_set 1 sc_w_rows.nd (r_lst (ra_cons (r_str (ra_nil ⟨by show 1 ≤ sizeLine; decide, fun p hp => ?_⟩)))))
  have s0 := same_new (o := .lst [.str (S [])]) hp
  refine rb_cons (rs_for PassesOwn.never (ri_tup (r_var 0 ⟨a, rfl, ⟨_, Same.t s0 ha⟩, rfor_it walk_tup (fun i σ' H' => Same H H' ∧ ∃ (q : Addr) (v2 v3 v4 : Option V), σ' = [some (.ref a), some (.ref q), v2, v3, v4, none] ∧ H' q = some (.lst (strsV (rowsOf (ls.take i))))) ⟨s0, p, _, _, _, rfl, upd_same⟩ (fun i σ' H' _ p => Same.t p.1 ha) ?_ ?_⟩)))
  · rintro i x σ' H' H'' hi ⟨s1, q, v2, v3, v4, rfl, hq⟩ ⟨rfl, hx⟩
    rw [List.getElem?_map] at hx
    cases hl : ls[i]? with
    | none => rw [hl] at hx; cases hx
    | some n =>
      rw [hl] at hx
      obtain rfl : V.int n = x := Option.some.inj hx
      have hb := h4 n (List.mem_of_getElem? hl)
      have hz : (rowsOf (ls.take i)).length ≤ 4096 := Nat.le_trans (rows_len _ fun d hd => h4 d (List.mem_of_mem_take hd)) (Nat.le_trans (Nat.pow_le_pow_right (by decide) (Nat.le_trans (List.length_take_le _ _) (by simp at hi; omega))) (show 4 ^ 6 ≤ 4096 by decide))
      have hml := fun r (hr : r ∈ rowsOf (ls.take i)) => rows_mem_len _ r hr
      have e1 : rowsOf (ls.take (i + 1)) = longer n (rowsOf (ls.take i)) := by
        unfold rowsOf longer
        rw [List.take_succ, hl, List.foldl_append]
        rfl
      have hti : (ls.take i).length ≤ 6 := Nat.le_trans (List.length_take_le' _ _) h6
      rw [e1]
      generalize rowsOf (ls.take i) = rs at hq hz hml
      refine rg_name 2 sc_w_rows.nd (rb_cons (rs_set 3 sc_w_rows.nd (r_lst (ra_nil ⟨by show 0 ≤ sizeLine; decide, fun g hg => ?_⟩))))
      have sg := fun o => same_new (o := o) hg
      refine rb_cons (rs_for PassesOwn.never (ri_list (r_var 1 ⟨q, rfl, ⟨_, SqL.of (sg _ _ _ hq)⟩, rfor_it (walk_list (xs := strsV rs)) (fun i' σ' H' => Same H H' ∧ ∃ (g : Addr) (v4 : Option V), σ' = [some (.ref a), some (.ref q), some (.int (n : Int)), some (.ref g), v4, none] ∧ H' q = some (.lst (strsV rs)) ∧ H' g = some (.lst (strsV (longer n (rs.take i'))))) ⟨s1.trans (sg _), g, _, rfl, sg _ _ _ hq, upd_same⟩ (fun i σ' H' _ p => ?_) ?_ ?_⟩)))
      · obtain ⟨_, _, _, _, p, _⟩ := p
        exact SqL.of p
      · rintro i' x σ' H2 H2' hi' ⟨s2, g, v4, rfl, hq2, hg2⟩ ⟨rfl, hx⟩
        obtain ⟨r, hr, rfl⟩ := strsV_get hx
        have hrl := hml r (List.mem_of_getElem? hr)
        refine rg_name 4 sc_w_rows.nd (rb_one (rs_set 3 sc_w_rows.nd (r_add (r_var 3 (gv rfl (r_lc [("_law_k", 5)] sc_w_rows.nd (blkOk_by (N := ["_law_numbers", "_law_found", "_law_number", "_law_longer", "_law_row_here", "_law_k"]) (sc := defScope s_w_rows) (by decide +kernel)) (ri_range1 e.z_range (ra_cons (r_var 2 (ra_nil ⟨_, rfl, by omega, by omega, fun D hD => ?_⟩))))))))))
        rw [Int.toNat_natCast]
        refine lc_n 5 walk_range hD (fun _ _ => trivial) (fun i H x H' y => by rw [y.1]; exact Same.refl _) (strsV ((List.range n).map fun d => r ++ [48 + d])) (by simp) (Nat.lt_of_le_of_lt hb.2 (by decide)) (fun d v H3 H4 hd s3 y => ?_) (fun H3 s3 hD3 => ?_) sc_w_rows.nd
        · obtain ⟨rfl, hv⟩ := y
          replace hv : v = V.int (0 + (d : Int)) := hv
          rw [Int.zero_add] at hv
          subst hv
          intro s0 H0 C cl fp
          refine r_add (r_var 4 (r_callTy call_str_int e.z_str (by decide +kernel) (ra_cons (r_var 5 (ra_nil ⟨d, rfl, ?_, ?_⟩)))))
          · rcases (show d = 0 ∨ d = 1 ∨ d = 2 ∨ d = 3 by omega) with rfl | rfl | rfl | rfl <;> decide
          · rw [str_dig _ (by omega) (by omega), Int.toNat_natCast]
            refine ⟨?_, Same.refl _, ?_⟩
            · rw [S_length]
              exact small _ (by show r.length + 1 ≤ 100000; omega)
            · rw [S_append, List.getElem?_map, List.getElem?_map, List.getElem?_map, List.getElem?_range hd]
              rfl
        · have hgl := longer_len n hb.2 (rs.take i')
          have hgt := List.length_take_le' i' rs
          refine ⟨_, _, s3 _ _ hg2, hD3, ?_, fun p hp => ⟨s2.trans (s3.trans (same_new hp)), p, _, rfl, same_new hp _ _ (s3 _ _ hq2), ?_⟩⟩
          · simp only [List.length_map, List.length_range]
            exact small _ (by omega)
          · rw [longer_snoc n hr, upd_same]
            simp [strsV]
      · rintro σ' H2 ⟨s2, g, v4, rfl, hq2, hg2⟩
        rw [show (strsV rs).length = rs.length by simp, List.take_length] at hg2
        exact rb_one (rs_set 1 sc_w_rows.nd (r_var 3 ⟨s2, g, _, _, _, rfl, hg2⟩))
  · rintro σ' H' ⟨s1, q, v2, v3, v4, rfl, hq⟩
    refine rb_one (rs_ret (r_var 1 ?_))
    rw [List.length_map, List.take_length] at hq
    exact k _ _ s1 hq
end
end My

set_option Elab.async false
set_option pp.maxSteps 1500
set_option linter.all false
set_option maxRecDepth 100000
set_option maxHeartbeats 4000000
/-! J6: how many rows the law counts -/
namespace My
open PySem PySem.Spec PyProof.Rows L2 TL
def retArg : Stmt → Expr
  | .Return (some (.Call _ [a] _ _)) _ => a
  | _ => .Constant .none 0 ⟨0, 0, 0, 0⟩
def lcSc (d : Scope) : Expr → Scope
  | .ListComp _ _ sc _ => sc
  | _ => d
/-- a comprehension's scope within an outer one -/
def relab (sc o : Scope) : Scope := { sc with names := sc.names.map fun (n, k) => if (k == NameKind.free && o.kind == .function && o.names.lookup n == some .cell) then (n, NameKind.cell) else (n, k) }
def many_sc : Scope := relab (lcSc d_w_many.scope (retArg (d_w_many.body.getD 1 (.Pass ⟨0, 0, 0, 0⟩)))) d_w_many.scope
/-- columns, as a text or as a list of signs -/
def ColsAt (K : PySem.W.Frag) (H : Hy) (v : V) (cols : LN) : Prop := v = .str (S cols) ∨ ∃ p, v = .ref p ∧ SqL K H p (strsV (cols.map fun c => [c]))
theorem ColsAt.ext {K : PySem.W.Frag} {H H' : Hy} {v : V} {cols : LN} (h : ColsAt K H v cols) (s : Same H H') : ColsAt K H' v cols := h.elim .inl fun ⟨p, e, q⟩ => .inr ⟨p, e, s.seq q⟩
def sp_w_many (K : PySem.W.Frag) : Sp := fun vs H Q _ => ∃ (m : MD) (s a : Addr) (so : Bool) (cs : List CT) (r cols : LN) (v : V), vs = [.ref s, .ref a, .str (S r), v] ∧ ShAt H s m so ∧ MOk m ∧ CntAt H a m cs ∧ r.length = m.cols.length ∧ ColsAt K H v cols ∧ (∀ c ∈ cols, c ∈ m.cols) ∧ ∀ H', Same H H' → Q (.int (heldF m cs r cols)) H'
/-- the indexes of some columns -/
def idxs (m : MD) (cols : LN) : List Nat := (List.range m.cols.length).filter fun k => decide (m.cols.getD k 0 ∈ cols)
theorem asc_pw : ∀ {l : List Nat}, Asc (· < ·) l → l.Pairwise (· < ·)
  | [], _ => .nil
  | [a], _ => List.pairwise_singleton _ _
  | a :: b :: r, h => by
    have h2 : Asc (· < ·) (b :: r) := fun i x y hx hy => h (i + 1) x y hx hy
    have h3 := asc_pw h2
    have hab : a < b := h 0 a b rfl rfl
    refine List.Pairwise.cons (fun c hc => ?_) h3
    rcases List.mem_cons.mp hc with rfl | hc
    · exact hab
    · exact Nat.lt_trans hab (List.rel_of_pairwise_cons h3 hc)
theorem asc_nd {l : List Nat} (h : Asc (· < ·) l) : l.Nodup := List.Pairwise.imp (fun h => Nat.ne_of_lt h) (asc_pw h)
theorem pick_eq {m : MD} (hm : MOk m) {z r cols : LN} (hsub : ∀ c ∈ cols, c ∈ m.cols) : ((idxs m cols).filter fun k => !decide (z.getD k 0 = r.getD k 0)) = [] ↔ pick m z cols = pick m r cols := by
  have nd := asc_nd hm.asc
  constructor
  · intro h
    unfold pick
    refine List.map_congr_left fun c hc => ?_
    have hlt := List.idxOf_lt_length_of_mem (hsub c hc)
    have hk : m.cols.idxOf c ∈ idxs m cols := List.mem_filter.mpr ⟨List.mem_range.mpr hlt, decide_eq_true (by
      rw [List.getD_eq_getElem?_getD, List.getElem?_eq_getElem hlt, Option.getD_some, List.getElem_idxOf hlt]
      exact hc)⟩
    have h2 := List.filter_eq_nil_iff.mp h _ hk
    simpa using h2
  · intro h
    refine List.filter_eq_nil_iff.mpr fun k hk => ?_
    obtain ⟨h1, h2⟩ := List.mem_filter.mp hk
    have hlt := List.mem_range.mp h1
    have hc := of_decide_eq_true h2
    have e1 : m.cols.idxOf (m.cols.getD k 0) = k := by
      rw [List.getD_eq_getElem?_getD, List.getElem?_eq_getElem hlt, Option.getD_some]
      exact nd.idxOf_getElem k hlt
    have h3 : z.getD (m.cols.idxOf (m.cols.getD k 0)) 0 = r.getD (m.cols.idxOf (m.cols.getD k 0)) 0 := by
      unfold pick at h
      exact List.map_inj_left.mp h _ hc
    rw [e1] at h3
    simpa using h3
theorem lay_ints : ∀ ks : List Nat, PyData.canLayAll0 (ks.map fun k => PyData.int (k : Nat)) = true
  | [] => by simp [PyData.canLayAll0]
  | k :: ks => by simp [PyData.canLayAll0, PyData.canLay0, lay_ints ks]
theorem depth_ints : ∀ ks : List Nat, PyData.depthAll (ks.map fun k => PyData.int (k : Nat)) ≤ 1
  | [] => by simp [PyData.depthAll]
  | k :: ks => by
    have h1 := depth_ints ks
    simp only [List.map_cons, PyData.depthAll, PyData.depth]
    omega
theorem shaped_ints (ks : List Nat) : SeqAt.shaped (.list (ks.map fun k => PyData.int (k : Nat))) = true := by
  have h1 := depth_ints ks
  have h2 : PyData.depth (.list (ks.map fun k => PyData.int (k : Nat))) ≤ 64 := by
    simp only [PyData.depth]
    omega
  show (PyData.canLay0 (.list (ks.map fun k => PyData.int (k : Nat))) && decide (PyData.depth (.list (ks.map fun k => PyData.int (k : Nat))) ≤ 64)) = true
  rw [Bool.and_eq_true]
  exact ⟨by simp only [PyData.canLay0]; exact lay_ints ks, decide_eq_true h2⟩
theorem eqv_nil (ks : List PyData) : PyData.eqv (.list ks) (.list []) = ks.isEmpty := by
  cases ks <;> rfl
section
variable {P : Program} {w : World} {K : PySem.W.Frag} {mg : Str → Option Value} {base : Heap}
theorem sc_w_many : FnScope ["_law_shape", "_law_pairs", "_law_row_here", "_law_columns_here", "_law_indexes_here", "_law_k", "_law_mate_here", "_law_many_here"] ["_law_shape", "_law_pairs", "_law_row_here", "_law_columns_here"] (defScope s_w_many) := ⟨rfl, rfl, rfl, by decide +kernel, rfl, by decide +kernel, by decide +kernel⟩
theorem h_w_many (e : EV w K mg base) : Has P w K mg base 1 "_law_many" ["_law_shape", "_law_pairs", "_law_row_here", "_law_columns_here"] (sp_w_many K) := by
  refine mk_has (d := d_w_many) e.g_w_many e.f_w_many sc_w_many (fun _ _ _ _ _ _ us hl => match us, hl with | [_, _, _, _], _ => rfl) (fun vs H Q E h => by obtain ⟨_, _, _, _, _, _, _, _, rfl, _⟩ := h; rfl) (fun cdv A outer s H vs Q E hr h => ?_)
  obtain ⟨m, s0, a, so, cs, r, cols, v, rfl, hs, hm, hc, hr1, hv, hsub, k⟩ := h
  obtain ⟨a1, b1, h1, h2, h3⟩ := hs.at_
  obtain ⟨us, ha, ht⟩ := hc.at_
  have h6 := hm.n6
  refine rb_cons (rs_set 4 sc_w_many.nd (r_lc [("_law_k", 5)] sc_w_many.nd (blkOk_by (N := ["_law_shape", "_law_pairs", "_law_row_here", "_law_columns_here", "_law_indexes_here", "_law_k", "_law_mate_here", "_law_many_here"]) (sc := defScope s_w_many) (by decide +kernel)) (ri_range1 e.z_range (ra_cons (r_callB call_len_str e.z_len boot_len (ra_cons (r_var 2 (ra_nil ⟨_, rfl, S_small (by omega), ra_nil ⟨_, rfl, ?_, ?_, fun D hD => ?_⟩⟩))))))))
  · rw [S_length]; omega
  · rw [S_length]; omega
  rw [S_length, Int.toNat_natCast, hr1]
  refine lc_p 5 walk_range hD (fun _ _ => trivial) (fun i H x H' y => by rw [y.1]; exact Same.refl _) (fun i => decide (m.cols.getD i 0 ∈ cols)) (fun i => .int (i : Nat)) (Nat.lt_of_le_of_lt h6 (by decide)) (fun i v' H2 H3 hi s1 y => ?_) (fun H1 s1 hd => ?_) sc_w_many.nd
  · obtain ⟨rfl, hv'⟩ := y
    replace hv' : v' = V.int (0 + (i : Int)) := hv'
    rw [Int.zero_add] at hv'
    subst hv'
    have hci : m.cols[i]? = some (m.cols.getD i 0) := by
      rw [List.getD_eq_getElem?_getD, List.getElem?_eq_getElem hi]
      rfl
    intro s0' H0 C cl fp
    refine rts_one (rt_in (r_ix (r_ix (r_var 0 (r_int ⟨_, .str (S m.cols), .inr (SqT.of (s1 _ _ h1)), at0, r_var 5 ⟨S_small (by omega), m.cols.getD i 0, atI_nat hci, r_var 3 (gv rfl ?_)⟩⟩)))))
    rcases hv with rfl | ⟨p, rfl, hp⟩
    · refine ⟨m.cols.getD i 0, rfl, rfl, ?_⟩
      rw [S_cps]
      cases decide (m.cols.getD i 0 ∈ cols) with
      | false => exact Same.refl _
      | true =>
        refine iteT ?_
        intro s0 H0 C cl fp
        exact r_var 5 ⟨Same.refl _, rfl⟩
    · refine ⟨_, .inl (s1.seq hp), rfl, flat_strs _, ?_⟩
      rw [S_sign, inV_strs]
      have e1 : decide ([m.cols.getD i 0] ∈ cols.map fun c => [c]) = decide (m.cols.getD i 0 ∈ cols) := by
        by_cases hin : m.cols.getD i 0 ∈ cols
        · rw [decide_eq_true hin]
          exact decide_eq_true (List.mem_map.mpr ⟨_, hin, rfl⟩)
        · rw [decide_eq_false hin]
          refine decide_eq_false fun q => hin ?_
          obtain ⟨c, hc1, hc2⟩ := List.mem_map.mp q
          cases hc2
          exact hc1
      rw [e1]
      refine ⟨rfl, ?_⟩
      cases decide (m.cols.getD i 0 ∈ cols) with
      | false => exact Same.refl _
      | true =>
        refine iteT ?_
        intro s0 H0 C cl fp
        exact r_var 5 ⟨Same.refl _, rfl⟩
  have hd1 : H1 D = some (.lst ((idxs m cols).map fun k => V.int (k : Nat))) := hd
  have hil : (idxs m cols).length ≤ 6 := by
    have : (idxs m cols).length ≤ (List.range m.cols.length).length := List.length_filter_le _ _
    rw [List.length_range] at this
    omega
  refine rb_one (rs_ret (r_callB (cr_sum rfl) e.z_sum (by decide +kernel) (ra_cons (r_lc [("_law_mate_here", 6), ("_law_many_here", 7)] sc_w_many.nd (blkOk_by (N := ["_law_shape", "_law_pairs", "_law_row_here", "_law_columns_here", "_law_indexes_here", "_law_k", "_law_mate_here", "_law_many_here"]) (sc := defScope s_w_many) (by decide +kernel)) (ri_tup (r_var 1 ⟨a, rfl, ⟨_, SqT.of (s1 _ _ ha)⟩, fun D2 hD2 => ?_⟩))))))
  refine lc_f (walk_tup (xs := us)) hD2 (fun H' s => SqT.of (s _ _ (s1 _ _ ha))) (fun i H x H' y => by rw [y.1]; exact Same.refl _) (fun i => (((cs.take i).filter fun e => decide (pick m e.1 cols = pick m r cols)).map (·.2)).map V.int) rfl (fun i hi => ?_) (fun i x H4 H5 hi s4 hd4 y => ?_) (fun H4 s4 hd4 => ?_)
  · rw [List.length_map, List.length_map]
    have h1 : ((cs.take i).filter fun e => decide (pick m e.1 cols = pick m r cols)).length ≤ (cs.take i).length := List.length_filter_le _ _
    have h3 := hc.few
    have := List.length_take_le' i cs
    exact Nat.lt_of_le_of_lt (show _ ≤ 16 by omega) (by decide)
  · obtain ⟨rfl, hx⟩ := y
    obtain ⟨z, t, hz, rfl, hzt⟩ := (ht.ext (s1.trans s4)).get hx
    have hzl := hc.len z (List.mem_of_getElem? hz)
    intro s0 H0 C cl fp
    refine rg_tup ⟨t, _, rfl, SqT.of hzt, rfl, rgs_cons (rg_name 6 sc_w_many.nd (rgs_cons (rg_name 7 sc_w_many.nd (rgs_nil ⟨rfl, ?_⟩))))⟩
    intro s0 H0 C cl fp
    refine rts_one (rt_eq hr.units (r_lc [("_law_k", 5)] sc_w_many.nd (blkOk_by (N := ["_law_shape", "_law_pairs", "_law_row_here", "_law_columns_here", "_law_indexes_here", "_law_k", "_law_mate_here", "_law_many_here"]) (sc := many_sc) (own := [("_law_k", 5)]) (by decide +kernel)) (ri_list (r_var 4 ⟨D, rfl, ⟨_, SqL.of (s4 _ _ hd1)⟩, fun D3 hD3 => ?_⟩))))
    refine lc_p 5 (walk_list (xs := (idxs m cols).map fun k => V.int (k : Nat))) hD3 (fun H' s => SqL.of (s _ _ (s4 _ _ hd1))) (fun i H x H' y => by rw [y.1]; exact Same.refl _) (fun i => !decide (z.1.getD ((idxs m cols).getD i 0) 0 = r.getD ((idxs m cols).getD i 0) 0)) (fun i => .int (((idxs m cols).getD i 0 : Nat) : Int)) (by rw [List.length_map]; exact Nat.lt_of_le_of_lt hil (by decide)) (fun i' v' H6 H7 hi' s6 y => ?_) (fun H6 s6 hd6 => ?_) sc_w_many.nd
    · obtain ⟨rfl, hx'⟩ := y
      rw [List.getElem?_map] at hx'
      cases hq : (idxs m cols)[i']? with
      | none => rw [hq] at hx'; cases hx'
      | some k0 =>
        rw [hq] at hx'
        obtain rfl : V.int (k0 : Nat) = v' := Option.some.inj hx'
        have hk0 := List.mem_range.mp (List.mem_filter.mp (List.mem_of_getElem? hq)).1
        have hz0 : z.1[k0]? = some (z.1.getD k0 0) := by
          rw [List.getD_eq_getElem?_getD, List.getElem?_eq_getElem (by omega)]
          rfl
        have hr0 : r[k0]? = some (r.getD k0 0) := by
          rw [List.getD_eq_getElem?_getD, List.getElem?_eq_getElem (by omega)]
          rfl
        have hdd : decide (V.str (S [z.1.getD k0 0]) = V.str (S [r.getD k0 0])) = decide (z.1.getD k0 0 = r.getD k0 0) := by
          by_cases h : z.1.getD k0 0 = r.getD k0 0
          · rw [h, decide_eq_true rfl, decide_eq_true rfl]
          · rw [decide_eq_false h]
            refine decide_eq_false fun q => h ?_
            have := S_inj (V.str.inj q)
            simpa using this
        intro s0 H0 C cl fp
        refine rts_one (rt_ne hr.units (r_ix (r_var 6 (r_var 5 ⟨S_small (by omega), z.1.getD k0 0, atI_nat hz0, r_ix (r_var 2 (r_var 5 ⟨S_small (by omega), r.getD k0 0, atI_nat hr0, rfl, ?_, ?_⟩))⟩))))
        · rw [getD_of hq, S_sign, S_sign, hdd]
        rw [S_sign, S_sign, hdd]
        cases decide (z.1.getD k0 0 = r.getD k0 0) with
        | true => exact Same.refl _
        | false =>
          refine iteT ?_
          intro s0 H0 C cl fp
          refine r_var 5 ⟨Same.refl _, ?_⟩
          rw [getD_of hq]
    have e6 : ((List.range ((idxs m cols).map fun k => V.int (k : Nat)).length).filter fun i => !decide (z.1.getD ((idxs m cols).getD i 0) 0 = r.getD ((idxs m cols).getD i 0) 0)).map (fun i => V.int (((idxs m cols).getD i 0 : Nat) : Int)) = ((idxs m cols).filter fun k => !decide (z.1.getD k 0 = r.getD k 0)).map fun k => V.int (k : Nat) := by
      rw [← filter_range (idxs m cols) 0 fun k => !decide (z.1.getD k 0 = r.getD k 0), List.map_map, List.length_map]
      rfl
    rw [e6] at hd6
    refine r_lst (ra_nil ⟨by show 0 ≤ sizeLine; decide, fun g hg0 => ?_⟩)
    have s7 := s6.trans (same_new (o := .lst []) hg0)
    refine ⟨.list (((idxs m cols).filter fun k => !decide (z.1.getD k 0 = r.getD k 0)).map fun k => PyData.int (k : Nat)), .list [], .lst (SqL.of (same_new hg0 _ _ hd6)) ?_, .lst (SqL.of upd_same) .nil, ?_, rfl, ?_⟩
    · have := DpAll.ints (K := K) (H := upd H6 g (.lst [])) (((idxs m cols).filter fun k => !decide (z.1.getD k 0 = r.getD k 0)).map fun k : Nat => (k : Int))
      rw [List.map_map, List.map_map] at this
      exact this
    · exact shaped_ints _
    rw [eqv_nil, filter_take hz]
    have hpe := pick_eq hm (z := z.1) (r := r) hsub
    by_cases h : pick m z.1 cols = pick m r cols
    · rw [hpe.mpr h]
      refine b_yes rfl ?_
      intro s0 H0 C cl fp
      refine r_var 7 ⟨s7, ?_⟩
      rw [if_pos (decide_eq_true h), List.map_append, List.map_append]
      rfl
    · have hne : (((idxs m cols).filter fun k => !decide (z.1.getD k 0 = r.getD k 0)).map fun k => PyData.int (k : Nat)).isEmpty = false := by
        cases hf : (idxs m cols).filter fun k => !decide (z.1.getD k 0 = r.getD k 0) with
        | nil => exact absurd (hpe.mp hf) h
        | cons _ _ => rfl
      rw [hne]
      refine b_no rfl ⟨s7, ?_⟩
      rw [if_neg (by rw [decide_eq_false h]; exact Bool.false_ne_true), List.append_nil]
  rw [ht.length, List.take_length] at hd4
  exact ra_nil ⟨D2, _, rfl, SqL.of hd4, k _ (s1.trans s4)⟩
end
end My

set_option Elab.async false
set_option pp.maxSteps 1500
set_option linter.all false
set_option maxRecDepth 100000
set_option maxHeartbeats 4000000
/-! J7: the range that the law expects -/
namespace My
open PySem PySem.Spec PyProof.Rows L2 TL
def lawPart (m : MD) (cs : List CT) (r : LN) (i : Nat) : Int := if 0 < i then heldF m cs r (both (m.lots.getD i []) (m.lots.take i).flatten) else 0
def lawSum (m : MD) (cs : List CT) (r : LN) : Nat → Int
  | 0 => 0
  | k + 1 => lawSum m cs r k + heldF m cs r (m.lots.getD k []) - lawPart m cs r k
def lawLow (m : MD) (cs : List CT) (r : LN) : Int := let x := lawSum m cs r m.lots.length; if x > 0 then x else 0
def lawTop (m : MD) (cs : List CT) (r : LN) : Int := minL (m.lots.map (heldF m cs r))
def sp_w_range (K : PySem.W.Frag) : Sp := fun vs H Q _ => ∃ (m : MD) (s a : Addr) (so : Bool) (cs : List CT) (r : LN), vs = [.ref s, .ref a, .str (S r)] ∧ ShAt H s m so ∧ MOk m ∧ CntAt H a m cs ∧ r.length = m.cols.length ∧ ∀ t H', Same H H' → H' t = some (.tup [.int (lawLow m cs r), .int (lawTop m cs r)]) → Q (.ref t) H'
theorem cut_take (xs : List V) (k : Nat) (h : k ≤ xs.length) : cutV xs none (some (k : Int)) = xs.take k := by
  unfold cutV
  rw [HT.sIx_none, HT.sIx_nat]
  simp [h]
section
variable {P : Program} {w : World} {K : PySem.W.Frag} {mg : Str → Option Value} {base : Heap}
theorem sc_w_range : FnScope ["_law_shape", "_law_pairs", "_law_row_here", "_law_lows", "_law_tops", "_law_k", "_law_lot", "_law_ahead", "_law_both", "_law_each"] ["_law_shape", "_law_pairs", "_law_row_here"] (defScope s_w_range) := ⟨rfl, rfl, rfl, by decide +kernel, rfl, by decide +kernel, by decide +kernel⟩
theorem h_w_range (e : EV w K mg base) : Has P w K mg base 2 "_law_range" ["_law_shape", "_law_pairs", "_law_row_here"] (sp_w_range K) := by
  refine mk_has (d := d_w_range) e.g_w_range e.f_w_range sc_w_range (fun _ _ _ _ _ _ us hl => match us, hl with | [_, _, _], _ => rfl) (fun vs H Q E h => by obtain ⟨_, _, _, _, _, _, rfl, _⟩ := h; rfl) (fun cdv A outer s H vs Q E hr h => ?_)
  obtain ⟨m, s0, a, so, cs, r, rfl, hs, hm, hc, hr1, k⟩ := h
  obtain ⟨a1, b1, h1, h2, h3⟩ := hs.at_
  have hk10 := hm.k10
  have hk1 := hm.k1
  refine rb_cons (rs_par 3 4 sc_w_range.nd (ra_cons (r_int (ra_cons (r_lst (ra_nil ⟨by show 0 ≤ sizeLine; decide, fun f hf0 => ra_nil ⟨_, _, rfl, ?_⟩⟩))))))
  have sf := fun o => same_new (o := o) hf0
  have hfH : H f = none := hf0
  refine rb_cons (rs_for PassesOwn.never (ri_range1 e.z_range (ra_cons (r_callB call_len_seq e.z_len boot_len (ra_cons (r_ix (r_var 0 (r_int ⟨_, .ref b1, .inr (SqT.of (sf _ _ _ h1)), at2, ra_nil ⟨b1, _, rfl, .inr (SqT.of (sf _ _ _ h3)), ra_nil ⟨_, rfl, ?_, ?_, ?_⟩⟩⟩))))))))
  · simp only [List.length_map]; omega
  · simp only [List.length_map]; omega
  rw [Int.toNat_natCast, List.length_map, List.length_map]
  refine rfor_it walk_range (fun i σ' H' => Same H H' ∧ ∃ (v5 v6 v7 v8 : Option V), σ' = [some (.ref s0), some (.ref a), some (.str (S r)), some (.int (lawSum m cs r i)), some (.ref f), v5, v6, v7, v8, none] ∧ H' f = some (.lst (((m.lots.map (heldF m cs r)).take i).map V.int))) ⟨sf _, _, _, _, _, rfl, upd_same⟩ (fun _ _ _ _ _ => trivial) ?_ ?_
  · rintro i x σ' H1 H1' hi ⟨s1, v5, v6, v7, v8, rfl, hf1⟩ ⟨rfl, hx⟩
    replace hx : x = V.int (0 + (i : Int)) := hx
    rw [Int.zero_add] at hx
    subst hx
    have hli : m.lots[i]? = some (m.lots.getD i []) := by
      rw [List.getD_eq_getElem?_getD, List.getElem?_eq_getElem hi]
      rfl
    have hl := hm.lot _ (List.mem_of_getElem? hli)
    generalize hlot : m.lots.getD i [] = lot at hli hl
    have hsi : (strsV m.lots)[i]? = some (.str (S lot)) := by rw [List.getElem?_map, List.getElem?_map, hli]; rfl
    refine rg_name 5 sc_w_range.nd (rb_cons (rs_asg (r_tup (ra_cons (r_ix (r_ix (r_var 0 (r_int ⟨_, .ref b1, .inr (SqT.of (s1 _ _ h1)), at2, r_var 5 ⟨_, .str (S lot), .inr (SqT.of (s1 _ _ h3)), atI_nat hsi, ra_cons (r_join (r_str ⟨[], s_no ▸ rfl, ra_cons (r_slT (r_ix (r_var 0 (r_int ⟨_, .ref b1, .inr (SqT.of (s1 _ _ h1)), at2, ro_none (ro_some (r_var 5 ⟨i, rfl, b1, _, rfl, SqT.of (s1 _ _ h3), ?_, fun t1 ht1 => ?_⟩))⟩))))⟩))⟩⟩))))))))
    · rw [HT.sIx_nat]
      simp only [List.length_map]
      omega
    rw [cut_take _ _ (by simp only [List.length_map]; omega)]
    have hst := sum_le (ls := m.lots.take i) fun l hl => (hm.lot l (List.mem_of_mem_take hl)).2.2.2
    have hti := List.length_take_le' i m.lots
    refine ra_nil ⟨t1, m.lots.take i, rfl, .inr (SqT.of (by rw [upd_same]; simp [strsV])), ?_, ra_nil ⟨by show 2 ≤ sizeLine; decide, fun t2 ht2 => ?_⟩⟩
    · simp only [List.length_nil, Nat.mul_zero, Nat.add_zero]
      omega
    rw [joinL_nil]
    have s2 := fun o2 => (same_new ht1).trans (same_new (o := o2) ht2)
    refine rg_tup ⟨t2, _, rfl, SqT.of upd_same, rfl, rgs_cons (rg_name 6 sc_w_range.nd (rgs_cons (rg_name 7 sc_w_range.nd (rgs_nil ?_))))⟩
    generalize hH2 : upd (upd H1' t1 (.tup (List.take i (strsV m.lots)))) t2 (.tup [.str (S lot), .str (S (m.lots.take i).flatten)]) = H2
    have s3 : Same H1' H2 := by rw [← hH2]; exact s2 _
    refine rb_cons (rs_lc 8 [("_law_each", 9)] sc_w_range.nd (blkOk_by (N := ["_law_shape", "_law_pairs", "_law_row_here", "_law_lows", "_law_tops", "_law_k", "_law_lot", "_law_ahead", "_law_both", "_law_each"]) (sc := defScope s_w_range) (by decide +kernel)) (by rfl) (ri_str (r_var 6 ⟨_, rfl, fun D hD => ?_⟩)))
    refine lc_p 9 walk_str hD (fun _ _ => trivial) (fun i H x H' y => by rw [y.1]; exact Same.refl _) (fun j => decide (lot.getD j 0 ∈ (m.lots.take i).flatten)) (fun j => .str (S [lot.getD j 0])) (Nat.lt_of_le_of_lt hl.2.2.2 (by decide)) (fun j v H3 H4 hj s4 y => ?_) (fun H3 s4 hd => ?_) sc_w_range.nd
    · obtain ⟨rfl, c, hcc, rfl⟩ := y
      have hc' : lot[j]? = some c := by simpa [S] using hcc
      intro s0 H0 C cl fp
      refine rts_one (rt_in (r_var 9 (r_var 7 ⟨c, rfl, ?_, ?_⟩)))
      · rw [getD_of hc']
        rfl
      cases decide (c ∈ (S (m.lots.take i).flatten).cps.toList) with
      | false => exact Same.refl _
      | true =>
        refine iteT ?_
        intro s0 H0 C cl fp
        refine r_var 9 ⟨Same.refl _, ?_⟩
        rw [getD_of hc']
        rfl
    have e1 : ((List.range (S lot).cps.size).filter fun j => decide (lot.getD j 0 ∈ (m.lots.take i).flatten)).map (fun j => V.str (S [lot.getD j 0])) = strsV ((both lot (m.lots.take i).flatten).map fun c => [c]) := by
      unfold both
      rw [← filter_range lot 0 fun c => decide (c ∈ (m.lots.take i).flatten), strsV, List.map_map, List.map_map, List.map_map]
      rfl
    rw [e1] at hd
    have s5 := s1.trans (s3.trans s4)
    have hf5 := s4 _ _ (s3 _ _ hf1)
    refine rb_cons (rs_expr (r_append (r_var 4 ⟨f, rfl, ⟨_, hf5⟩, ra_cons (r_call (h_w_many e) hr (ra_cons (r_var 0 (ra_cons (r_var 1 (ra_cons (r_var 2 (ra_cons (r_var 6 (ra_nil ⟨m, s0, a, so, cs, r, lot, _, rfl, hs.ext s5, hm, hc.ext s5, hr1, .inl rfl, hl.2.2.1, fun H5 s6 => ra_nil ⟨_, _, rfl, s6 _ _ hf5, ?_, ?_⟩⟩))))))))))⟩)))
    · rw [List.length_map]
      have := List.length_take_le' i (m.lots.map (heldF m cs r))
      rw [List.length_map] at this
      exact Nat.lt_of_le_of_lt (Nat.le_trans this hk10) (by decide)
    have kf : ∀ {o : HO}, ∀ b u, b ≠ f → H5 b = some u → upd H5 f o b = some u := fun {o} b u n h => by rw [upd_ne n]; exact h
    have hDf : D ≠ f := fun z => by rw [z, s3 _ _ hf1] at hD; cases hD
    have et : ((m.lots.map (heldF m cs r)).take i).map V.int ++ [V.int (heldF m cs r lot)] = ((m.lots.map (heldF m cs r)).take (i + 1)).map V.int := by
      rw [List.take_succ, List.getElem?_map, hli, List.map_append]
      rfl
    rw [et]
    have s7 : Same H (upd H5 f (.lst (((m.lots.map (heldF m cs r)).take (i + 1)).map V.int))) := fun b u h => kf b u (fun z => by rw [z, hfH] at h; cases h) (s6 _ _ (s5 _ _ h))
    have hD7 := kf (o := .lst (((m.lots.map (heldF m cs r)).take (i + 1)).map V.int)) D _ hDf (s6 _ _ hd)
    generalize hH7 : upd H5 f (.lst (((m.lots.map (heldF m cs r)).take (i + 1)).map V.int)) = H7 at s7 hD7
    have hf7 : H7 f = some (.lst (((m.lots.map (heldF m cs r)).take (i + 1)).map V.int)) := by rw [← hH7]; exact upd_same
    have hat : (((m.lots.map (heldF m cs r)).take (i + 1)).map V.int)[i]? = some (.int (heldF m cs r lot)) := by
      rw [List.getElem?_map, List.getElem?_take, if_pos (Nat.lt_succ_self i), List.getElem?_map, hli]
      rfl
    refine rb_one (rs_set 3 sc_w_range.nd (r_sub (r_add (r_var 3 (gv rfl (r_ix (r_var 4 (r_var 5 ⟨_, _, .inl (SqL.of hf7), atI_nat hat, add_ii ?_⟩))))))))
    refine RE.mono (Q1 := fun v H8 => v = .int (lawPart m cs r i) ∧ Same H7 H8) (r_if (rt_gt (r_var 5 (gv rfl (r_int (gt_ii ?_)))))) (fun v H8 q => ?_)
    · refine b_d (fun h0 => ?_) (fun h0 => ?_)
      · refine r_call (h_w_many e) hr (ra_cons (r_var 0 (ra_cons (r_var 1 (ra_cons (r_var 2 (ra_cons (r_var 8 (ra_nil ⟨m, s0, a, so, cs, r, both lot (m.lots.take i).flatten, _, rfl, hs.ext s7, hm, hc.ext s7, hr1, .inr ⟨D, rfl, SqL.of hD7⟩, fun c hc2 => hl.2.2.1 c (List.mem_filter.mp hc2).1, fun H8 s8 => ⟨?_, s8⟩⟩)))))))))
        unfold lawPart
        rw [if_pos (by omega), hlot]
      · refine r_int ⟨?_, Same.refl _⟩
        unfold lawPart
        rw [if_neg (by omega)]
    obtain ⟨rfl, s8⟩ := q
    have es : lawSum m cs r (i + 1) = lawSum m cs r i + heldF m cs r lot - lawPart m cs r i := by rw [← hlot]; rfl
    rw [es]
    exact sub_ii ⟨s7.trans s8, _, _, _, _, rfl, s8 _ _ hf7⟩
  · rintro σ' H1 ⟨s1, v5, v6, v7, v8, rfl, hf1⟩
    rw [List.take_of_length_le (by rw [List.length_map]; exact Nat.le_refl _)] at hf1
    refine rb_one (rs_ret (r_tup (ra_cons (r_callB (call_max2 rfl) e.z_max (by decide +kernel) (ra_cons (r_int (ra_cons (r_var 3 (ra_nil ⟨0, _, rfl, ?_⟩)))))))))
    refine ra_cons (r_callB (cr_min rfl) e.z_min (by decide +kernel) (ra_cons (r_var 4 (ra_nil ⟨f, _, rfl, SqL.of hf1, by rw [List.length_map]; omega, fun x hx1 hx2 => ra_nil ⟨by show 2 ≤ sizeLine; decide, fun t ht0 => k t _ (s1.trans (same_new ht0)) ?_⟩⟩))))
    rw [upd_same]
    have ex : x = lawTop m cs r := by
      unfold lawTop
      have hne : (m.lots.map (heldF m cs r)) ≠ [] := fun z => by rw [z] at hx1; cases hx1
      have h1 := hx2 _ (minL_mem hne)
      have h2 := minL_le x hx1
      omega
    rw [ex]
    rfl
end
end My

set_option Elab.async false
set_option pp.maxSteps 1500
set_option linter.all false
set_option maxRecDepth 100000
set_option maxHeartbeats 4000000
/-! J8: the sums that the law expects -/
namespace My
open PySem PySem.Spec PyProof.Rows L2 TL
theorem pw_ext {α : Type} {r : α → α → Prop} (ir : ∀ a, ¬ r a a) (tr : ∀ a b c, r a b → r b c → r a c) : ∀ {l m : List α}, l.Pairwise r → m.Pairwise r → (∀ x, x ∈ l ↔ x ∈ m) → l = m
  | [], [], _, _, _ => rfl
  | [], b :: m, _, _, h => absurd ((h b).mpr (List.mem_cons_self ..)) (by simp)
  | a :: l, [], _, _, h => absurd ((h a).mp (List.mem_cons_self ..)) (by simp)
  | a :: l, b :: m, hl, hm, h => by
    have e : a = b := by
      rcases List.mem_cons.mp ((h a).mp (List.mem_cons_self ..)) with e | h1
      · exact e
      · rcases List.mem_cons.mp ((h b).mpr (List.mem_cons_self ..)) with e | h2
        · exact e.symm
        · exact absurd (tr _ _ _ (List.rel_of_pairwise_cons hl h2) (List.rel_of_pairwise_cons hm h1)) (ir _)
    subst e
    congr 1
    refine pw_ext ir tr (List.pairwise_cons.mp hl).2 (List.pairwise_cons.mp hm).2 fun x => ⟨fun hx => ?_, fun hx => ?_⟩
    · rcases List.mem_cons.mp ((h x).mp (List.mem_cons_of_mem _ hx)) with e | h1
      · exact absurd (by have q := List.rel_of_pairwise_cons hl hx; rw [← e] at q; exact q) (ir x)
      · exact h1
    · rcases List.mem_cons.mp ((h x).mpr (List.mem_cons_of_mem _ hx)) with e | h1
      · exact absurd (by have q := List.rel_of_pairwise_cons hm hx; rw [← e] at q; exact q) (ir x)
      · exact h1
theorem idxs_pick {m : MD} (hm : MOk m) {z lot : LN} (hsub : ∀ c ∈ lot, c ∈ m.cols) (hasc : Asc (· < ·) lot) : ((idxs m lot).map fun k => z.getD k 0) = pick m z lot := by
  have e1 : (idxs m lot).map (fun k => m.cols.getD k 0) = m.cols.filter fun c => decide (c ∈ lot) := filter_range m.cols 0 fun c => decide (c ∈ lot)
  have e2 : (m.cols.filter fun c => decide (c ∈ lot)) = lot := by
    refine pw_ext (fun a => Nat.lt_irrefl a) (fun a b c => Nat.lt_trans) (List.Pairwise.filter _ (asc_pw hm.asc)) (asc_pw hasc) fun x => ?_
    rw [List.mem_filter, decide_eq_true_eq]
    exact ⟨fun h => h.2, fun h => ⟨hsub x h, h⟩⟩
  have nd := asc_nd hm.asc
  unfold pick
  conv => rhs; rw [← e2, ← e1]
  rw [List.map_map]
  refine List.map_congr_left fun k hk => ?_
  have hlt := List.mem_range.mp (List.mem_filter.mp hk).1
  show z.getD k 0 = z.getD (m.cols.idxOf (m.cols.getD k 0)) 0
  rw [show m.cols.getD k 0 = m.cols[k] by rw [List.getD_eq_getElem?_getD, List.getElem?_eq_getElem hlt]; rfl, nd.idxOf_getElem k hlt]
def sp_w_sums (K : PySem.W.Frag) : Sp := fun vs H Q _ => ∃ (m : MD) (s a : Addr) (so : Bool) (cs : List CT), vs = [.ref s, .ref a] ∧ ShAt H s m so ∧ MOk m ∧ CntAt H a m cs ∧ ∀ b H' vs ss, Same H H' → H' b = some (.tup vs) → SumAt H' vs ss → SumsOf m cs ss m.lots → Q (.ref b) H'
section
variable {P : Program} {w : World} {K : PySem.W.Frag} {mg : Str → Option Value} {base : Heap}
theorem sc_w_sums : FnScope ["_law_shape", "_law_pairs", "_law_found", "_law_lot", "_law_told", "_law_row_here", "_law_many_here", "_law_mine", "_law_k"] ["_law_shape", "_law_pairs"] (defScope s_w_sums) := ⟨rfl, rfl, rfl, by decide +kernel, rfl, by decide +kernel, by decide +kernel⟩
theorem h_w_sums (e : EV w K mg base) : Has P w K mg base 1 "_law_sums" ["_law_shape", "_law_pairs"] (sp_w_sums K) := by
  refine mk_has (d := d_w_sums) e.g_w_sums e.f_w_sums sc_w_sums (fun _ _ _ _ _ _ us hl => match us, hl with | [_, _], _ => rfl) (fun vs H Q E h => by obtain ⟨_, _, _, _, _, rfl, _⟩ := h; rfl) (fun cdv A outer s H vs Q E hr h => ?_)
  obtain ⟨m, s0, a, so, cs, rfl, hs, hm, hc, k⟩ := h
  obtain ⟨a1, b, h1, h2, h7⟩ := hs.at_
  obtain ⟨us, ha, ht⟩ := hc.at_
  have hk10 := hm.k10
  have h16 := hc.few
  refine rb_cons (rs_set 2 sc_w_sums.nd (r_lst (ra_nil ⟨by show 0 ≤ sizeLine; decide, fun f hf0 => ?_⟩)))
  refine rb_cons (rs_for PassesOwn.never (ri_tup (r_ix (r_var 0 (r_int ⟨_, .ref b, .inr (SqT.of (same_new hf0 _ _ h1)), at2, b, rfl, ⟨_, SqT.of (same_new hf0 _ _ h7)⟩, ?_⟩)))))
  refine rfor_it (walk_tup (xs := strsV m.lots)) (fun i σ' H' => Same H H' ∧ ∃ (vs : List V) (ss : List (List CT)) (v3 v4 v5 v6 v7 : Option V), σ' = [some (.ref s0), some (.ref a), some (.ref f), v3, v4, v5, v6, v7, none] ∧ H' f = some (.lst vs) ∧ SumAt H' vs ss ∧ SumsOf m cs ss (m.lots.take i)) ⟨same_new hf0, [], [], _, _, _, _, _, rfl, upd_same, .nil, .nil⟩ (fun i σ' H' _ q => SqT.of (q.1 _ _ h7)) ?_ ?_
  · rintro i x σ' H1 H1' hi ⟨s1, vs, ss, v3, v4, v5, v6, v7, rfl, hf1, hs1, hss⟩ ⟨rfl, hx⟩
    obtain ⟨lot, hlot, rfl⟩ := strsV_get hx
    have hl := hm.lot lot (List.mem_of_getElem? hlot)
    refine rg_name 3 sc_w_sums.nd (rb_cons (rs_set 4 sc_w_sums.nd (r_dnew fun td htd => ?_)))
    have sA := s1.trans (same_new (o := .dK []) htd)
    have hff : f ≠ td := fun z => by rw [← z, hf1] at htd; cases htd
    have hHd : H td = none := s1.free htd
    refine rb_cons (rs_for PassesOwn.never (ri_tup (r_var 1 ⟨a, rfl, ⟨_, SqT.of (sA _ _ ha)⟩, ?_⟩)))
    refine rfor_it (walk_tup (xs := us)) (fun j σ' H' => Same H H' ∧ ∃ (v5 v6 v7 : Option V), σ' = [some (.ref s0), some (.ref a), some (.ref f), some (.str (S lot)), some (.ref td), v5, v6, v7, none] ∧ H' f = some (.lst vs) ∧ SumAt H' vs ss ∧ H' td = some (.dK ((tally m (cs.take j) lot).map entN)))
      ⟨sA, _, _, _, rfl, same_new htd _ _ hf1, hs1.ext (same_new htd), upd_same⟩ (fun j σ' H' _ q => SqT.of (q.1 _ _ ha)) ?_ ?_
    · rintro j x σ' H3 H3' hj ⟨s3, v5, v6, v7, rfl, hf3, hs3, ht3⟩ ⟨rfl, hx⟩
      obtain ⟨z, t, hz, rfl, hzt⟩ := ht.get hx
      have hzr := hc.len z (List.mem_of_getElem? hz)
      have h6c := hm.n6
      refine rg_tup ⟨t, _, rfl, SqT.of (s3 _ _ hzt), rfl, rgs_cons (rg_name 5 sc_w_sums.nd (rgs_cons (rg_name 6 sc_w_sums.nd (rgs_nil ?_))))⟩
      refine rb_cons (rs_set 7 sc_w_sums.nd (r_join (r_str ⟨[], s_no ▸ rfl, ra_cons (r_lc [("_law_k", 8)] sc_w_sums.nd (blkOk_by (N := ["_law_shape", "_law_pairs", "_law_found", "_law_lot", "_law_told", "_law_row_here", "_law_many_here", "_law_mine", "_law_k"]) (sc := defScope s_w_sums) (by decide +kernel)) (ri_range1 e.z_range (ra_cons (r_callB call_len_str e.z_len boot_len (ra_cons (r_var 5 (ra_nil ⟨_, rfl, S_small (by omega), ra_nil ⟨_, rfl, ?_, ?_, fun D hD => ?_⟩⟩)))))))⟩)))
      · rw [S_length]; omega
      · rw [S_length]; omega
      rw [S_length, Int.toNat_natCast, hzr]
      refine lc_p 8 walk_range hD (fun _ _ => trivial) (fun i H x H' y => by rw [y.1]; exact Same.refl _) (fun i => decide (m.cols.getD i 0 ∈ lot)) (fun i => .str (S [z.1.getD i 0])) (Nat.lt_of_le_of_lt h6c (by decide)) (fun i v' H4 H5 hi s4 y => ?_) (fun H4 s4 hd => ?_) sc_w_sums.nd
      · obtain ⟨rfl, hv'⟩ := y
        replace hv' : v' = V.int (0 + (i : Int)) := hv'
        rw [Int.zero_add] at hv'
        subst hv'
        have hci : m.cols[i]? = some (m.cols.getD i 0) := by
          rw [List.getD_eq_getElem?_getD, List.getElem?_eq_getElem hi]
          rfl
        have hzi : z.1[i]? = some (z.1.getD i 0) := by
          rw [List.getD_eq_getElem?_getD, List.getElem?_eq_getElem (by omega)]
          rfl
        intro s0' H0 C cl fp
        refine rts_one (rt_in (r_ix (r_ix (r_var 0 (r_int ⟨_, .str (S m.cols), .inr (SqT.of (s4 _ _ (s3 _ _ h1))), at0, r_var 8 ⟨S_small (by omega), m.cols.getD i 0, atI_nat hci, r_var 3 (gv rfl ⟨m.cols.getD i 0, rfl, rfl, ?_⟩)⟩⟩)))))
        rw [S_cps]
        cases decide (m.cols.getD i 0 ∈ lot) with
        | false => exact Same.refl _
        | true =>
          refine iteT ?_
          intro s0 H0 C cl fp
          exact r_ix (r_var 5 (r_var 8 ⟨S_small (by omega), z.1.getD i 0, atI_nat hzi, Same.refl _, rfl⟩))
      have ep : (((List.range m.cols.length).filter fun i => decide (m.cols.getD i 0 ∈ lot)).map fun i => V.str (S [z.1.getD i 0])) = strsV ((pick m z.1 lot).map fun c => [c]) := by
        rw [← idxs_pick hm hl.2.2.1 hl.2.1, strsV, List.map_map, List.map_map, List.map_map]
        rfl
      rw [ep] at hd
      refine ra_nil ⟨D, (pick m z.1 lot).map fun c => [c], rfl, .inl (SqL.of hd), ?_, ?_⟩
      · rw [sum_one, pick_len]
        simp only [List.length_nil, List.length_map, pick_len]
        have := hl.2.2.2
        omega
      rw [joinL_nil, flat_one]
      have hl64 := tally_len m lot (cs.take j)
      rw [List.length_take] at hl64
      refine rb_one (rs_dput hr.units (r_add (r_dget2 hr.units (r_var 4 ⟨td, _, rfl, s4 _ _ ht3, r_var 7 (r_int ⟨_, Sum.inr (S (pick m z.1 lot)), s4 _ _ ht3, rfl, ?_⟩)⟩))))
      rw [valV_N]
      have e3 : (Option.map V.int (getN (tally m (cs.take j) lot) (pick m z.1 lot))).getD (V.int 0) = V.int ((getN (tally m (cs.take j) lot) (pick m z.1 lot)).getD 0) := by
        cases getN (tally m (cs.take j) lot) (pick m z.1 lot) <;> rfl
      rw [e3]
      refine r_var 6 (gv rfl (add_ii (r_var 4 (r_var 7 ⟨td, _, Sum.inr (S (pick m z.1 lot)), rfl, s4 _ _ ht3, rfl, ?_, ?_⟩))))
      · rw [List.length_map]
        exact Nat.lt_of_le_of_lt (show _ ≤ 16 by omega) (by decide)
      rw [putK_N, ← tally_take hz]
      have kd : ∀ {o : HO}, ∀ a u, a ≠ td → H4 a = some u → upd H4 td o a = some u := fun {o} a u n h => by rw [upd_ne n]; exact h
      have hnt : ∀ xs, H4 td ≠ some (.tup xs) := fun xs h => by rw [s4 _ _ ht3] at h; cases h
      exact ⟨fun a u h => kd a u (fun e => by rw [e, hHd] at h; cases h) (s4 _ _ (s3 _ _ h)), _, _, _, rfl, kd _ _ hff (s4 _ _ hf3), (hs3.ext s4).keep kd hnt, upd_same⟩
    · rintro σ' H3 ⟨s3, v5, v6, v7, rfl, hf3, hs3, ht3⟩
      rw [List.take_of_length_le (by rw [ht.length]; exact Nat.le_refl _)] at ht3
      have hl64 := tally_len m lot cs
      refine rb_one (rs_expr (r_append (r_var 2 ⟨f, rfl, ⟨_, hf3⟩, ra_cons (r_callTy call_tuple_of e.z_tuple (by decide +kernel) (ra_cons (r_sitems e.z_sorted (r_var 4 ⟨td, _, rfl, ht3, by omega, fun H4 l us4 ps s4 hp hps hl4 ht4 => ra_nil ⟨l, _, rfl, .inl ⟨SqL.of hl4, fun t ht0 => ra_nil ⟨vs, _, rfl, same_new ht0 _ _ (s4 _ _ hf3), ?_, ?_⟩⟩⟩⟩))))⟩)))
      · have e1 := pd_len hs3
        have e2 := pd_len hss
        rw [List.length_take] at e2
        exact Nat.lt_of_le_of_lt (show _ ≤ 10 by omega) (by decide)
      · have st := fun o => same_new (o := o) ht0
        have kf : ∀ {H5 : Hy} {o : HO}, ∀ a u, a ≠ f → H5 a = some u → upd H5 f o a = some u := fun {H5 o} a u n h => by rw [upd_ne n]; exact h
        have hf5 := fun o => st o _ _ (s4 _ _ hf3)
        have htf : t ≠ f := fun e => by rw [e, s4 _ _ hf3] at ht0; cases ht0
        have hnf : ∀ o xs, upd H4 t o f ≠ some (.tup xs) := fun o xs h => by rw [hf5 o] at h; cases h
        have hfH : H f = none := hf0
        refine ⟨fun a u h => kf a u (fun e => by rw [e, hfH] at h; cases h) (st _ _ _ (s4 _ _ (s3 _ _ h))), _, ss ++ [ps], _, _, _, _, _, rfl, upd_same, ?_, pd_snoc_take hss hlot ⟨hp, hps⟩⟩
        refine SumAt.snoc (((hs3.ext s4).ext (st _)).keep kf (hnf _)) (us := us4) ?_ ((ht4.ext (st _)).keep' kf (hnf _))
        rw [upd_ne htf]
        exact upd_same
  · rintro σ' H1 ⟨s1, vs, ss, v3, v4, v5, v6, v7, rfl, hf1, hs1, hss⟩
    refine rb_one (rs_ret (r_callTy call_tuple_of e.z_tuple (by decide +kernel) (ra_cons (r_var 2 (ra_nil ⟨f, _, rfl, .inl ⟨SqL.of hf1, fun t ht0 => k t _ vs ss (s1.trans (same_new ht0)) upd_same (hs1.ext (same_new ht0)) ?_⟩⟩)))))
    simpa using hss
end
end My

set_option Elab.async false
set_option pp.maxSteps 1500
set_option linter.all false
set_option maxRecDepth 100000
set_option maxHeartbeats 4000000
/-! J9: the law's tables -/
namespace My
open PySem PySem.Spec PyProof.Rows L2 TL
theorem putN_mem {d : List CT} {k : LN} {v : Int} {e : CT} (h : e ∈ putN d k v) : e ∈ d ∨ e = (k, v) := by
  unfold putN at h
  split at h
  · obtain ⟨x, hx, rfl⟩ := List.mem_map.mp h
    by_cases hk : x.1 = k
    · rw [if_pos hk, hk]
      exact .inr rfl
    · rw [if_neg hk]
      exact .inl hx
  · rcases List.mem_append.mp h with h | h
    · exact .inl h
    · exact .inr (by simpa using h)
/-- counts drawn: rows of the model, bounded -/
structure CsB (m : MD) (b : Int) (n : Nat) (d : List CT) : Prop where
  row : ∀ e ∈ d, RowOk m e.1
  pos : ∀ e ∈ d, 1 ≤ e.2
  top : ∀ e ∈ d, e.2 ≤ b
  len : d.length ≤ n
theorem CsB.nil {m : MD} {b : Int} : CsB m b 0 [] := ⟨by simp, by simp, by simp, Nat.le_refl _⟩
theorem CsB.put {m : MD} {b : Int} {n : Nat} {d : List CT} {k : LN} {v : Int} (h : CsB m b n d) (hk : RowOk m k) (h1 : 1 ≤ v) (h2 : v ≤ b) : CsB m b (n + 1) (putN d k v) := by
  refine ⟨fun e he => ?_, fun e he => ?_, fun e he => ?_, Nat.le_trans (putN_len _ _ _) (Nat.succ_le_succ h.len)⟩ <;> rcases putN_mem he with q | rfl
  · exact h.row e q
  · exact hk
  · exact h.pos e q
  · exact h1
  · exact h.top e q
  · exact h2
theorem CsB.perm {m : MD} {b : Int} {n : Nat} {d ps : List CT} (h : CsB m b n d) (p : ps.Perm d) : CsB m b n ps := ⟨fun e he => h.row e (p.mem_iff.mp he), fun e he => h.pos e (p.mem_iff.mp he), fun e he => h.top e (p.mem_iff.mp he), by rw [p.length_eq]; exact h.len⟩
theorem CsB.mono {m : MD} {b b' : Int} {n n' : Nat} {d : List CT} (h : CsB m b n d) (hb : b ≤ b') (hn : n ≤ n') : CsB m b' n' d := ⟨h.row, h.pos, fun e he => Int.le_trans (h.top e he) hb, Nat.le_trans h.len hn⟩
theorem sum_b {b : Int} (hb : 0 ≤ b) : ∀ {d : List CT}, (∀ e ∈ d, e.2 ≤ b) → (d.map (·.2)).sum ≤ d.length * b
  | [], _ => by simp
  | e :: d, h => by
    have h1 := h e (List.mem_cons_self ..)
    have h2 := sum_b hb (d := d) fun x hx => h x (List.mem_cons_of_mem _ hx)
    simp only [List.map_cons, List.sum_cons, List.length_cons]
    have : ((d.length + 1 : Nat) : Int) * b = d.length * b + b := by
      rw [Int.natCast_add, Int.add_mul]
      simp
    omega
theorem CsB.ok {m : MD} {b : Int} {n : Nat} {cs : List CT} (h : CsB m b n cs) (ha : cs.Pairwise fun e f => e.1 < f.1) (hb : 0 ≤ b) (hn : n ≤ 16) (hnb : 16 * b ≤ 10 ^ 30) : CsOk m cs := by
  refine ⟨h.row, h.pos, ha, ?_, Nat.le_trans h.len hn⟩
  have h1 := sum_b hb h.top
  have h2 : (cs.length : Int) * b ≤ 16 * b := Int.mul_le_mul_of_nonneg_right (by have := h.len; omega) hb
  omega
theorem rowOk_of {m : MD} (hm : MOk m) {r : LN} (h : Digs m.lev r) : RowOk m r := ⟨h.len.trans hm.ll, h.dig⟩
/-- counts drawn, in the heap -/
def CntB (H : Hy) (a : Addr) (m : MD) (b : Int) (n : Nat) (cs : List CT) : Prop := (∃ us, H a = some (.tup us) ∧ Tu gCnt H us cs) ∧ CsB m b n cs ∧ cs.Pairwise fun e f => e.1 < f.1
def sp_w_table (K : PySem.W.Frag) : Sp := fun vs H Q _ => ∃ (m : MD) (j s : Addr) (so : Bool), vs = [.ref j, .ref s] ∧ JarAt H j ∧ ShAt H s m so ∧ MOk m ∧ ∀ a H' cs, Keep j H H' → JarAt H' j → CntB H' a m (10 ^ 28) 7 cs → Q (.ref a) H'
section
variable {P : Program} {w : World} {K : PySem.W.Frag} {mg : Str → Option Value} {base : Heap}
theorem sc_w_table : FnScope ["_law_jar_here", "_law_shape", "_law_found", "_law_turn", "_law_way"] ["_law_jar_here", "_law_shape"] (defScope s_w_table) := ⟨rfl, rfl, rfl, by decide +kernel, rfl, by decide +kernel, by decide +kernel⟩
theorem h_w_table (e : EV w K mg base) : Has P w K mg base 3 "_law_table" ["_law_jar_here", "_law_shape"] (sp_w_table K) := by
  refine mk_has (d := d_w_table) e.g_w_table e.f_w_table sc_w_table (fun _ _ _ _ _ _ us hl => match us, hl with | [_, _], _ => rfl) (fun vs H Q E h => by obtain ⟨_, _, _, _, rfl, _⟩ := h; rfl) (fun cdv A outer s H vs Q E hr h => ?_)
  obtain ⟨m, j, s0, so, rfl, hj, hs, hm, k⟩ := h
  have h6 := hm.n6
  have hll := hm.ll
  refine rb_cons (rs_set 2 sc_w_table.nd (r_dnew fun td htd => ?_))
  have sd := fun o => same_new (o := o) htd
  have hjd : j ≠ td := fun z => by obtain ⟨_, _, _, q⟩ := hj; rw [z, htd] at q; cases q
  have hHd : H td = none := htd
  refine rb_cons (rs_for PassesOwn.never (ri_range1 e.z_range (ra_cons (r_call (h_w_dip e) hr (ra_cons (r_var 0 (ra_cons (r_int (ra_nil ⟨j, 8, rfl, hj.ext (sd _), by decide, by decide, fun i0 H1 k1 hj1 g0 g1 => ra_nil ⟨i0, rfl, by omega, by omega, ?_⟩⟩)))))))))
  have hd1 := k1 td _ (Ne.symm hjd) upd_same
  refine rfor_it walk_range (fun i σ' H' => Keep j H H' ∧ JarAt H' j ∧ ∃ (d : List CT) (v3 v4 : Option V), σ' = [some (.ref j), some (.ref s0), some (.ref td), v3, v4] ∧ H' td = some (.dK (d.map entN)) ∧ CsB m (10 ^ 28) i d) ⟨(Keep.of (sd _)).trans k1, hj1, [], _, _, rfl, hd1, CsB.nil⟩ (fun _ _ _ _ _ => trivial) ?_ ?_
  · rintro i x σ' H2 H2' hi ⟨k2, hj2, d, v3, v4, rfl, hd2, hb⟩ ⟨rfl, rfl⟩
    refine rg_name 3 sc_w_table.nd (rb_cons (rs_set 4 sc_w_table.nd (r_call (h_w_dip e) hr (ra_cons (r_var 0 (ra_cons (r_int (ra_nil ⟨j, 3, rfl, hj2, by decide, by decide, fun way H3 k3 hj3 w0 w1 => ?_⟩))))))))
    obtain ⟨a1, b1, q1, q2, q3⟩ := ((hs.keep hj k2).keep hj2 k3).at_
    have hn : ∃ n : Int, atI [V.int 3, V.int 900, V.int (10 ^ 28)] way = some (.int n) ∧ 1 ≤ n ∧ n ≤ 10 ^ 28 := by
      rcases (show way = 0 ∨ way = 1 ∨ way = 2 by omega) with rfl | rfl | rfl
      · exact ⟨3, at0, by decide, by decide⟩
      · exact ⟨900, at1, by decide, by decide⟩
      · exact ⟨10 ^ 28, at2, by decide, by decide⟩
    obtain ⟨n, n1, n2, n3⟩ := hn
    refine rb_one (rs_dput hr.units (r_add (r_int (r_call (h_w_dip e) hr (ra_cons (r_var 0 (ra_cons (r_ix (r_lst (ra_cons (r_int (ra_cons (r_int (ra_cons (r_pow (r_int (r_int ⟨⟨by decide, by decide, by decide⟩, ra_nil ⟨by show 3 ≤ sizeLine; decide, fun g hg => ?_⟩⟩)))))))))))))))))
    refine r_var 4 ⟨_, .int n, .inl (SqL.of upd_same), n1, ra_nil ⟨j, n, rfl, hj3.ext (same_new hg), n2, by omega, fun v H4 k4 hj4 v0 v1 => add_ii ?_⟩⟩
    have sg := fun o => same_new (o := o) hg
    have hjg : j ≠ g := fun z => by obtain ⟨_, _, _, q⟩ := hj3; rw [z, hg] at q; cases q
    have k24 := (k3.trans (Keep.of (sg _))).trans k4
    refine r_var 2 (gv rfl (r_call (h_w_row e) hr (ra_cons (r_var 0 (ra_cons (r_ix (r_var 1 (r_int ⟨_, .ref a1, .inr (SqT.of (hj4.tup (Keep.refl _ _) (hj3.tup ((Keep.of (sg _)).trans k4) q1))), at1, ra_nil ⟨j, a1, m.lev, rfl, hj4, SqT.of ?_, hm.lv, by omega, fun r H5 k5 hj5 hr5 => ?_⟩⟩))))))))
    · rw [show (m.lev.map fun d : Nat => V.int d) = m.levI.map V.int by rw [MD.levI, List.map_map]; rfl]
      exact hj3.tup ((Keep.of (sg _)).trans k4) q2
    have hd5 := k5 td _ (Ne.symm hjd) (k24 td _ (Ne.symm hjd) hd2)
    refine ⟨td, _, Sum.inr (S r), rfl, hd5, rfl, ?_, ?_⟩
    · rw [List.length_map]
      have := hb.len
      exact Nat.lt_of_le_of_lt (show _ ≤ 8 by omega) (by decide)
    rw [putK_N]
    refine ⟨fun b u hb0 h => ?_, ?_, _, _, _, rfl, upd_same, hb.put (rowOk_of hm hr5) (by omega) (by omega)⟩
    · rw [upd_ne (show b ≠ td from fun z => by rw [z, hHd] at h; cases h)]
      exact k5 _ _ hb0 (k24 _ _ hb0 (k2 _ _ hb0 h))
    · obtain ⟨x, y, z, q⟩ := hj5
      exact ⟨x, y, z, by rw [upd_ne hjd]; exact q⟩
  · rintro σ' H2 ⟨k2, hj2, d, v3, v4, rfl, hd2, hb⟩
    have hb7 := hb.mono (Int.le_refl _) (show i0.toNat ≤ 7 by omega)
    have := hb7.len
    refine rb_one (rs_ret (r_callTy call_tuple_of e.z_tuple (by decide +kernel) (ra_cons (r_sitems e.z_sorted (r_var 2 ⟨td, d, rfl, hd2, by omega, fun H4 l us4 ps s4 hp hps hl4 ht4 => ra_nil ⟨l, _, rfl, .inl ⟨SqL.of hl4, fun t ht0 => ?_⟩⟩⟩)))))
    exact k t _ ps (k2.trans (Keep.of (s4.trans (same_new ht0)))) (hj2.ext (s4.trans (same_new ht0))) ⟨⟨us4, upd_same, ht4.ext (same_new ht0)⟩, hb7.perm hp, hps⟩
end
end My

set_option Elab.async false
set_option pp.maxSteps 1500
set_option linter.all false
set_option maxRecDepth 100000
set_option maxHeartbeats 4000000
/-! J10: rows exchanged -/
namespace My
open PySem PySem.Spec PyProof.Rows L2 TL
/-- far on the columns, near elsewhere -/
def swapR (m : MD) (near far cols : LN) : LN := (List.range m.cols.length).map fun k => if m.cols.getD k 0 ∈ cols then far.getD k 0 else near.getD k 0
theorem swapR_ok {m : MD} {near far cols : LN} (h1 : RowOk m near) (h2 : RowOk m far) : RowOk m (swapR m near far cols) := by
  refine ⟨by unfold swapR; rw [List.length_map, List.length_range], fun i c d hc hd => ?_⟩
  unfold swapR at hc
  rw [List.getElem?_map] at hc
  by_cases hi : i < m.cols.length
  · rw [List.getElem?_range hi] at hc
    have hc' := Option.some.inj hc
    have e1 : ∀ {r : LN}, RowOk m r → r[i]? = some (r.getD i 0) := fun {r} h => by
      rw [List.getD_eq_getElem?_getD, List.getElem?_eq_getElem (by rw [h.len]; exact hi)]
      rfl
    by_cases hin : m.cols.getD i 0 ∈ cols
    · have : far.getD i 0 = c := (if_pos (c := m.cols.getD i 0 ∈ cols) hin).symm.trans hc'
      rw [← this]
      exact h2.dig i _ d (e1 h2) hd
    · have : near.getD i 0 = c := (if_neg (c := m.cols.getD i 0 ∈ cols) hin).symm.trans hc'
      rw [← this]
      exact h1.dig i _ d (e1 h1) hd
  · rw [List.getElem?_eq_none (by rw [List.length_range]; omega)] at hc
    cases hc
def sp_w_exchanged (K : PySem.W.Frag) : Sp := fun vs H Q _ => ∃ (m : MD) (s : Addr) (so : Bool) (near far cols : LN), vs = [.ref s, .str (S near), .str (S far), .str (S cols)] ∧ ShAt H s m so ∧ MOk m ∧ RowOk m near ∧ RowOk m far ∧ ∀ t H' x y, Same H H' → H' t = some (.tup [.str (S x), .str (S y)]) → RowOk m x → RowOk m y → Q (.ref t) H'
section
variable {P : Program} {w : World} {K : PySem.W.Frag} {mg : Str → Option Value} {base : Heap}
theorem sc_w_exchanged : FnScope ["_law_shape", "_law_near", "_law_far", "_law_columns_here", "_law_mine", "_law_its", "_law_k"] ["_law_shape", "_law_near", "_law_far", "_law_columns_here"] (defScope s_w_exchanged) := ⟨rfl, rfl, rfl, by decide +kernel, rfl, by decide +kernel, by decide +kernel⟩
theorem h_w_exchanged (e : EV w K mg base) : Has P w K mg base 1 "_law_exchanged" ["_law_shape", "_law_near", "_law_far", "_law_columns_here"] (sp_w_exchanged K) := by
  refine mk_has (d := d_w_exchanged) e.g_w_exchanged e.f_w_exchanged sc_w_exchanged (fun _ _ _ _ _ _ us hl => match us, hl with | [_, _, _, _], _ => rfl) (fun vs H Q E h => by obtain ⟨_, _, _, _, _, _, rfl, _⟩ := h; rfl) (fun cdv A outer s H vs Q E hr h => ?_)
  obtain ⟨m, s0, so, near, far, cols, rfl, hs, hm, hn, hf, k⟩ := h
  obtain ⟨a1, b1, h1, h2, h3⟩ := hs.at_
  have h6 := hm.n6
  have hnl := hn.len
  have hfl := hf.len
  have e1 : ∀ {r : LN} {i : Nat}, r.length = m.cols.length → i < m.cols.length → r[i]? = some (r.getD i 0) := fun {r i} h hi => by
    rw [List.getD_eq_getElem?_getD, List.getElem?_eq_getElem (by omega)]
    rfl
  have esum : ∀ r : LN, r.length = m.cols.length → ((r.map fun c => [c]).map (·.length)).sum + (r.map fun c => [c]).length * ([] : LN).length ≤ 100000 := fun r h => by
    rw [sum_one]
    simp only [List.length_nil]
    omega
  refine rb_cons (rs_set 4 sc_w_exchanged.nd (r_join (r_str ⟨[], s_no ▸ rfl, ra_cons (r_lc [("_law_k", 6)] sc_w_exchanged.nd (blkOk_by (N := ["_law_shape", "_law_near", "_law_far", "_law_columns_here", "_law_mine", "_law_its", "_law_k"]) (sc := defScope s_w_exchanged) (by decide +kernel)) (ri_range1 e.z_range (ra_cons (r_callB call_len_str e.z_len boot_len (ra_cons (r_var 1 (ra_nil ⟨_, rfl, S_small (by omega), ra_nil ⟨_, rfl, ?_, ?_, fun D hD => ?_⟩⟩)))))))⟩)))
  · rw [S_length]; omega
  · rw [S_length]; omega
  rw [S_length, Int.toNat_natCast, hnl]
  refine lc_n 6 walk_range hD (fun _ _ => trivial) (fun i H x H' y => by rw [y.1]; exact Same.refl _) (strsV ((swapR m near far cols).map fun c => [c])) (by simp [swapR]) (Nat.lt_of_le_of_lt h6 (by decide)) (fun i v H2 H3 hi s1 y => ?_) (fun H1 s1 hd => ?_) sc_w_exchanged.nd
  · obtain ⟨rfl, hv⟩ := y
    replace hv : v = V.int (0 + (i : Int)) := hv
    rw [Int.zero_add] at hv
    subst hv
    have key : ∀ x : Nat, (if m.cols.getD i 0 ∈ cols then far.getD i 0 else near.getD i 0) = x → (strsV ((swapR m near far cols).map fun c => [c]))[i]? = some (.str (S [x])) := fun x hx => by
      unfold swapR
      rw [List.getElem?_map, List.getElem?_map, List.getElem?_map, List.getElem?_map, List.getElem?_range hi]
      show some (V.str (S [if m.cols.getD i 0 ∈ cols then far.getD i 0 else near.getD i 0])) = _
      rw [hx]
    intro s0' H0 C cl fp
    refine r_if (rt_in (r_ix (r_ix (r_var 0 (r_int ⟨_, .str (S m.cols), .inr (SqT.of (s1 _ _ h1)), at0, r_var 6 ⟨S_small (by omega), m.cols.getD i 0, atI_nat (e1 rfl hi), r_var 3 (gv rfl ⟨m.cols.getD i 0, rfl, ?_⟩)⟩⟩)))))
    refine b_d (fun hin => ?_) (fun hin => ?_)
    · exact r_ix (r_var 2 (r_var 6 ⟨S_small (by omega), far.getD i 0, atI_nat (e1 hfl hi), Same.refl _, key _ (if_pos hin)⟩))
    · exact r_ix (r_var 1 (r_var 6 ⟨S_small (by omega), near.getD i 0, atI_nat (e1 hnl hi), Same.refl _, key _ (if_neg hin)⟩))
  refine ra_nil ⟨D, (swapR m near far cols).map fun c => [c], rfl, .inl (SqL.of hd), esum _ (swapR_ok hn hf).len, ?_⟩
  rw [joinL_nil, flat_one]
  refine rb_cons (rs_set 5 sc_w_exchanged.nd (r_join (r_str ⟨[], s_no ▸ rfl, ra_cons (r_lc [("_law_k", 6)] sc_w_exchanged.nd (blkOk_by (N := ["_law_shape", "_law_near", "_law_far", "_law_columns_here", "_law_mine", "_law_its", "_law_k"]) (sc := defScope s_w_exchanged) (by decide +kernel)) (ri_range1 e.z_range (ra_cons (r_callB call_len_str e.z_len boot_len (ra_cons (r_var 1 (ra_nil ⟨_, rfl, S_small (by omega), ra_nil ⟨_, rfl, ?_, ?_, fun D2 hD2 => ?_⟩⟩)))))))⟩)))
  · rw [S_length]; omega
  · rw [S_length]; omega
  rw [S_length, Int.toNat_natCast, hnl]
  refine lc_n 6 walk_range hD2 (fun _ _ => trivial) (fun i H x H' y => by rw [y.1]; exact Same.refl _) (strsV ((swapR m far near cols).map fun c => [c])) (by simp [swapR]) (Nat.lt_of_le_of_lt h6 (by decide)) (fun i v H2 H3 hi s2 y => ?_) (fun H2 s2 hd2 => ?_) sc_w_exchanged.nd
  · obtain ⟨rfl, hv⟩ := y
    replace hv : v = V.int (0 + (i : Int)) := hv
    rw [Int.zero_add] at hv
    subst hv
    have key : ∀ x : Nat, (if m.cols.getD i 0 ∈ cols then near.getD i 0 else far.getD i 0) = x → (strsV ((swapR m far near cols).map fun c => [c]))[i]? = some (.str (S [x])) := fun x hx => by
      unfold swapR
      rw [List.getElem?_map, List.getElem?_map, List.getElem?_map, List.getElem?_map, List.getElem?_range hi]
      show some (V.str (S [if m.cols.getD i 0 ∈ cols then near.getD i 0 else far.getD i 0])) = _
      rw [hx]
    intro s0' H0 C cl fp
    refine r_if (rt_in (r_ix (r_ix (r_var 0 (r_int ⟨_, .str (S m.cols), .inr (SqT.of ((s1.trans s2) _ _ h1)), at0, r_var 6 ⟨S_small (by omega), m.cols.getD i 0, atI_nat (e1 rfl hi), r_var 3 (gv rfl ⟨m.cols.getD i 0, rfl, ?_⟩)⟩⟩)))))
    refine b_d (fun hin => ?_) (fun hin => ?_)
    · exact r_ix (r_var 1 (r_var 6 ⟨S_small (by omega), near.getD i 0, atI_nat (e1 hnl hi), Same.refl _, key _ (if_pos hin)⟩))
    · exact r_ix (r_var 2 (r_var 6 ⟨S_small (by omega), far.getD i 0, atI_nat (e1 hfl hi), Same.refl _, key _ (if_neg hin)⟩))
  refine ra_nil ⟨D2, (swapR m far near cols).map fun c => [c], rfl, .inl (SqL.of hd2), esum _ (swapR_ok hf hn).len, ?_⟩
  rw [joinL_nil, flat_one]
  exact rb_one (rs_ret (r_tup (ra_cons (r_var 4 (ra_cons (r_var 5 (ra_nil ⟨by show 2 ≤ sizeLine; decide, fun t ht => k t _ _ _ (s1.trans (s2.trans (same_new ht))) upd_same (swapR_ok hn hf) (swapR_ok hf hn)⟩)))))))
end
end My

set_option Elab.async false
set_option pp.maxSteps 1500
set_option linter.all false
set_option maxRecDepth 100000
set_option maxHeartbeats 4000000
/-! J13: the pieces of two rows -/
namespace My
open PySem PySem.Spec PyProof.Rows L2 TL
def asgVal : Stmt → Expr
  | .Assign _ e _ => e
  | _ => .Constant .none 0 ⟨0, 0, 0, 0⟩
def forBody : Stmt → List Stmt
  | .For _ _ b _ _ => b
  | _ => []
/-- the comprehension that a test `.. or [..] != []`, `.. and [..] != []` holds -/
def inTest : Expr → Expr
  | .ListComp _ [⟨_, _, [.BoolOp _ [_, .Compare e _ _ _] _], _⟩] _ _ => e
  | e => e
def p_no : Stmt := .Pass ⟨0, 0, 0, 0⟩
def pieceE : Expr := asgVal ((forBody ((forBody (d_w_pieces.body.getD 2 p_no)).getD 2 p_no)).getD 0 p_no)
def pc_sc1 : Scope := relab (lcSc d_w_pieces.scope pieceE) d_w_pieces.scope
def pc_sc2 : Scope := relab (lcSc d_w_pieces.scope (inTest pieceE)) pc_sc1
abbrev intsV (l : List Nat) : List V := l.map fun k => V.int (k : Nat)
def sp_w_pieces (K : PySem.W.Frag) : Sp := fun vs H Q _ => ∃ (m : MD) (s : Addr) (so : Bool) (near far : LN), vs = [.ref s, .str (S near), .str (S far)] ∧ ShAt H s m so ∧ MOk m ∧ RowOk m near ∧ RowOk m far ∧ near ≠ far ∧ ∀ q H' ps, Same H H' → H' q = some (.lst (strsV ps)) → ps ≠ [] → Q (.ref q) H'
theorem intsV_get {l : List Nat} {i : Nat} {x : V} (h : (intsV l)[i]? = some x) : ∃ k, l[i]? = some k ∧ x = .int (k : Nat) := by
  rw [List.getElem?_map] at h
  cases q : l[i]? with
  | none => rw [q] at h; cases h
  | some c => rw [q] at h; exact ⟨c, rfl, (Option.some.inj h).symm⟩
theorem unlike_at {m : MD} {x y : LN} (hx : x.length = m.cols.length) (hy : y.length = m.cols.length) (h : x ≠ y) : ((List.range m.cols.length).filter fun k => !decide (x.getD k 0 = y.getD k 0)) ≠ [] := by
  intro q
  refine h (List.ext_getElem (hx.trans hy.symm) fun i h1 h2 => ?_)
  have := List.filter_eq_nil_iff.mp q i (List.mem_range.mpr (by omega))
  simpa [List.getD_eq_getElem?_getD, List.getElem?_eq_getElem h1, List.getElem?_eq_getElem h2] using this
theorem lay_strs : ∀ ls : List LN, (∀ l ∈ ls, ∀ c ∈ l, c < 0x110000) → PyData.canLayAll0 ((ls.map S).map PyData.str) = true
  | [], _ => by simp [PyData.canLayAll0]
  | l :: ls, h => by
    have h1 := lay_strs ls fun x hx => h x (List.mem_cons_of_mem _ hx)
    have h2 : PyData.strOk (S l) = true := by
      show (S l).cps.all (· < 0x110000) = true
      simp only [S, List.all_toArray, List.all_eq_true, decide_eq_true_eq]
      exact h l (List.mem_cons_self ..)
    simp only [List.map_cons, PyData.canLayAll0, PyData.canLay0, h1, h2, Bool.and_true]
theorem depth_strs : ∀ ls : List LN, PyData.depthAll ((ls.map S).map PyData.str) ≤ 1
  | [] => by simp [PyData.depthAll]
  | l :: ls => by
    have h1 := depth_strs ls
    simp only [List.map_cons, PyData.depthAll, PyData.depth]
    omega
theorem shaped_strs {ls : List LN} (h : ∀ l ∈ ls, ∀ c ∈ l, c < 0x110000) : SeqAt.shaped (.list ((ls.map S).map PyData.str)) = true := by
  have h1 := depth_strs ls
  have h2 : PyData.depth (.list ((ls.map S).map PyData.str)) ≤ 64 := by
    simp only [PyData.depth]
    omega
  show (PyData.canLay0 (.list ((ls.map S).map PyData.str)) && decide (PyData.depth (.list ((ls.map S).map PyData.str)) ≤ 64)) = true
  rw [Bool.and_eq_true]
  exact ⟨by simp only [PyData.canLay0]; exact lay_strs ls h, decide_eq_true h2⟩
theorem flat_ints (l : List Nat) : (intsV l).all flatV = true := by
  rw [List.all_eq_true]
  intro x hx
  obtain ⟨y, _, rfl⟩ := List.mem_map.mp hx
  rfl
/-- the indexes of a piece in a lot -/
def inLot (m : MD) (piece : List Nat) (lot : LN) : List Nat := piece.filter fun j => decide (m.cols.getD j 0 ∈ lot)
def lotHit (m : MD) (piece : List Nat) (k : Nat) (lot : LN) : Bool := decide (m.cols.getD k 0 ∈ lot) && !(inLot m piece lot).isEmpty
def pHit (m : MD) (piece : List Nat) (k : Nat) : Bool := inV (.int (k : Nat)) (intsV piece) || !(m.lots.filter (lotHit m piece k)).isEmpty
theorem emp_map {α β : Type} (f : α → β) (l : List α) : (l.map f).isEmpty = l.isEmpty := by cases l <;> rfl
section
variable {P : Program} {w : World} {K : PySem.W.Frag} {mg : Str → Option Value} {base : Heap}
theorem sc_w_pieces : FnScope ["_law_shape", "_law_near", "_law_far", "_law_left", "_law_found", "_law_turn", "_law_piece", "_law_step", "_law_k", "_law_lot", "_law_j"] ["_law_shape", "_law_near", "_law_far"] (defScope s_w_pieces) := ⟨rfl, rfl, rfl, by decide +kernel, rfl, by decide +kernel, by decide +kernel⟩
theorem h_w_pieces (e : EV w K mg base) : Has P w K mg base 1 "_law_pieces" ["_law_shape", "_law_near", "_law_far"] (sp_w_pieces K) := by
  refine mk_has (d := d_w_pieces) e.g_w_pieces e.f_w_pieces sc_w_pieces (fun _ _ _ _ _ _ us hl => match us, hl with | [_, _, _], _ => rfl) (fun vs H Q E h => by obtain ⟨_, _, _, _, _, rfl, _⟩ := h; rfl) (fun cdv A outer s H vs Q E hr h => ?_)
  obtain ⟨m, s0, so, near, far, rfl, hs, hm, hn, hf, hne, k⟩ := h
  obtain ⟨a1, b1, h1, h2, h3⟩ := hs.at_
  have h6 := hm.n6
  have hnl := hn.len
  have hfl := hf.len
  refine rb_cons (rs_lc 3 [("_law_k", 8)] sc_w_pieces.nd (blkOk_by (N := ["_law_shape", "_law_near", "_law_far", "_law_left", "_law_found", "_law_turn", "_law_piece", "_law_step", "_law_k", "_law_lot", "_law_j"]) (sc := defScope s_w_pieces) (by decide +kernel)) (by rfl) (ri_range1 e.z_range (ra_cons (r_callB call_len_str e.z_len boot_len (ra_cons (r_var 1 (ra_nil ⟨_, rfl, S_small (by omega), ra_nil ⟨_, rfl, ?_, ?_, fun D hD => ?_⟩⟩)))))))
  · rw [S_length]; omega
  · rw [S_length]; omega
  rw [S_length, Int.toNat_natCast, hnl]
  refine lc_p 8 walk_range hD (fun _ _ => trivial) (fun i H x H' y => by rw [y.1]; exact Same.refl _) (fun i => !decide (near.getD i 0 = far.getD i 0)) (fun i => .int (i : Nat)) (Nat.lt_of_le_of_lt h6 (by decide)) (fun i v' H2 H3 hi s1 y => ?_) (fun H1 s1 hd => ?_) sc_w_pieces.nd
  · obtain ⟨rfl, hv'⟩ := y
    replace hv' : v' = V.int (0 + (i : Int)) := hv'
    rw [Int.zero_add] at hv'
    subst hv'
    have hni : near[i]? = some (near.getD i 0) := by
      rw [List.getD_eq_getElem?_getD, List.getElem?_eq_getElem (by omega)]
      rfl
    have hfi : far[i]? = some (far.getD i 0) := by
      rw [List.getD_eq_getElem?_getD, List.getElem?_eq_getElem (by omega)]
      rfl
    have hdd : decide (V.str (S [near.getD i 0]) = V.str (S [far.getD i 0])) = decide (near.getD i 0 = far.getD i 0) := by
      by_cases h : near.getD i 0 = far.getD i 0
      · rw [h, decide_eq_true rfl, decide_eq_true rfl]
      · rw [decide_eq_false h]
        refine decide_eq_false fun q => h ?_
        have := S_inj (V.str.inj q)
        simpa using this
    intro s0 H0 C cl fp
    refine rts_one (rt_ne hr.units (r_ix (r_var 1 (r_var 8 ⟨S_small (by omega), near.getD i 0, atI_nat hni, r_ix (r_var 2 (r_var 8 ⟨S_small (by omega), far.getD i 0, atI_nat hfi, rfl, ?_, ?_⟩))⟩))))
    · rw [S_sign, S_sign, hdd]
    rw [S_sign, S_sign, hdd]
    cases decide (near.getD i 0 = far.getD i 0) with
    | true => exact Same.refl _
    | false =>
      refine iteT ?_
      intro s0 H0 C cl fp
      exact r_var 8 ⟨Same.refl _, rfl⟩
  have hL0 := unlike_at hnl hfl hne
  have hlt0 : ∀ k ∈ ((List.range m.cols.length).filter fun k => !decide (near.getD k 0 = far.getD k 0)), k < m.cols.length := fun k hk => List.mem_range.mp (List.mem_filter.mp hk).1
  have hlen0 : ((List.range m.cols.length).filter fun k => !decide (near.getD k 0 = far.getD k 0)).length ≤ 6 := by
    have := List.length_filter_le (fun k => !decide (near.getD k 0 = far.getD k 0)) (List.range m.cols.length)
    rw [List.length_range] at this
    omega
  replace hd : H1 D = some (.lst (intsV ((List.range m.cols.length).filter fun k => !decide (near.getD k 0 = far.getD k 0)))) := hd
  generalize (List.range m.cols.length).filter (fun k => !decide (near.getD k 0 = far.getD k 0)) = L0 at hd hL0 hlt0 hlen0
  refine rb_cons (rs_set 4 sc_w_pieces.nd (r_lst (ra_nil ⟨by show 0 ≤ sizeLine; decide, fun f hf0 => ?_⟩)))
  have sf := fun o => same_new (o := o) hf0
  have hDf : D ≠ f := ne_of_none hd hf0
  have hfH : H f = none := s1.free hf0
  -- what the loop leaves
  have after : ∀ (σ' : L2.St) (H' : Hy), (∃ (v3 v5 v6 v7 : Option V) (ps : List LN), σ' = [some (.ref s0), some (.str (S near)), some (.str (S far)), v3, some (.ref f), v5, v6, v7, none, none, none] ∧ Same H H' ∧ H' f = some (.lst (strsV ps)) ∧ ps ≠ []) →
      RB (cxOf CX0 P w K mg base ["_law_shape", "_law_near", "_law_far", "_law_left", "_law_found", "_law_turn", "_law_piece", "_law_step", "_law_k", "_law_lot", "_law_j"] d_w_pieces.qual d_w_pieces.scope (He.fAd K d_w_pieces.at_) cdv A outer s H E).nox (d_w_pieces.body.drop 3) { nx := fun _ H' => Q .non H', rt := Q } σ' H' := by
    rintro σ' H' ⟨v3, v5, v6, v7, ps, rfl, s2, hps, hne⟩
    exact rb_one (rs_ret (r_var 4 (k f H' ps s2 hps hne)))
  refine rb_cons (rs_for PassesOwn.never (ri_range1 e.z_range (ra_cons (r_int (ra_nil ⟨6, rfl, by decide, by decide, ?_⟩)))))
  refine rfor_it walk_range (fun i σ' H' => Same H H' ∧ ∃ (l : Addr) (L : List Nat) (ps : List LN) (v5 v6 v7 : Option V), σ' = [some (.ref s0), some (.str (S near)), some (.str (S far)), some (.ref l), some (.ref f), v5, v6, v7, none, none, none] ∧ H' l = some (.lst (intsV L)) ∧ L.length ≤ 6 ∧ (∀ k ∈ L, k < m.cols.length) ∧ H' f = some (.lst (strsV ps)) ∧ ps.length ≤ i ∧ l ≠ f ∧ (ps = [] → L ≠ [] ∧ i = 0)) ⟨s1.trans (sf _), D, L0, [], _, _, _, rfl, sf _ _ _ hd, hlen0, hlt0, upd_same, Nat.le_refl _, hDf, fun _ => ⟨hL0, rfl⟩⟩ (fun _ _ _ _ _ => trivial) ?_ ?_
  · rintro i x σ' H2 H2' hi ⟨s2, l, L, ps, v5, v6, v7, rfl, hl, hL, hlt, hps, hpl, hlf, h0⟩ ⟨rfl, rfl⟩
    refine rg_name 5 sc_w_pieces.nd (rb_cons (rs_if (rt_eq hr.units (r_var 3 (gv rfl (r_lst (ra_nil ⟨by show 0 ≤ sizeLine; decide, fun g hg => ?_⟩)))))))
    have sg := fun o => same_new (o := o) hg
    refine ⟨.list (L.map fun k => PyData.int (k : Nat)), .list [], .lst (SqL.of (sg _ _ _ hl)) ?_, .lst (SqL.of upd_same) .nil, shaped_ints _, rfl, ?_⟩
    · have := DpAll.ints (K := K) (H := upd H2' g (.lst [])) (L.map fun k : Nat => (k : Int))
      rw [List.map_map, List.map_map] at this
      exact this
    rw [eqv_nil]
    by_cases hLn : L = []
    · subst hLn
      exact b_yes rfl (rb_one (rs_break (after _ _ ⟨_, _, _, _, ps, rfl, s2.trans (sg _), sg _ _ _ hps, fun q => (h0 q).1 rfl⟩)))
    have hie : (L.map fun k => PyData.int (k : Nat)).isEmpty = false := by
      cases L with
      | nil => exact absurd rfl hLn
      | cons _ _ => rfl
    refine b_no hie (rb_nil ?_)
    refine rb_cons (rs_set 6 sc_w_pieces.nd (r_slL (r_var 3 (ro_none (ro_some (r_int ⟨1, rfl, l, _, rfl, SqL.of (sg _ _ _ hl), fun p0 hp0 => ?_⟩))))))
    have ec : cutV (intsV L) none (some 1) = intsV (L.take 1) := by
      have h1L : 1 ≤ L.length := by
        cases L with
        | nil => exact absurd rfl hLn
        | cons _ _ => simp
      rw [show (some (1 : Int)) = some ((1 : Nat) : Int) from rfl, cut_take _ _ (by rw [List.length_map]; exact h1L)]
      simp [intsV, List.map_take]
    rw [ec]
    have sp := fun o => same_new (o := o) hp0
    have hpf0 : p0 ≠ f := fun q => by rw [q, sg _ _ _ hps] at hp0; cases hp0
    have sA : Same H _ := s2.trans ((sg (.lst [])).trans (sp (.lst (intsV (L.take 1)))))
    have hlA := sp (.lst (intsV (L.take 1))) _ _ (sg _ _ _ hl)
    have hfA := sp (.lst (intsV (L.take 1))) _ _ (sg _ _ _ hps)
    have hpA := upd_same (H := upd H2' g (.lst [])) (a := p0) (o := .lst (intsV (L.take 1)))
    generalize upd (upd H2' g (.lst [])) p0 (.lst (intsV (L.take 1))) = HA at sA hlA hfA hpA
    refine rb_cons (rs_for PassesOwn.never (ri_range1 e.z_range (ra_cons (r_int (ra_nil ⟨6, rfl, by decide, by decide, ?_⟩)))))
    refine rfor_it walk_range (fun i' σ' H' => Same H H' ∧ ∃ (p : Addr) (Pl : List Nat) (v7 : Option V), σ' = [some (.ref s0), some (.str (S near)), some (.str (S far)), some (.ref l), some (.ref f), some (.int (0 + (i : Int))), some (.ref p), v7, none, none, none] ∧ H' p = some (.lst (intsV Pl)) ∧ Pl.length ≤ 6 ∧ (∀ k ∈ Pl, k < m.cols.length) ∧ H' l = some (.lst (intsV L)) ∧ H' f = some (.lst (strsV ps)) ∧ p ≠ f) ⟨sA, p0, L.take 1, _, rfl, hpA, Nat.le_trans (List.length_take_le _ _) (by decide), fun k hk => hlt k (List.mem_of_mem_take hk), hlA, hfA, hpf0⟩ (fun _ _ _ _ _ => trivial) ?_ ?_
    · rintro i' x σ' H3 H3' hi' ⟨s3, p, Pl, v7, rfl, hp, hPl, hPlt, hl3, hf3, hpf⟩ ⟨rfl, rfl⟩
      refine rg_name 7 sc_w_pieces.nd (rb_one (rs_set 6 sc_w_pieces.nd (r_lc [("_law_k", 8)] sc_w_pieces.nd (blkOk_by (N := ["_law_shape", "_law_near", "_law_far", "_law_left", "_law_found", "_law_turn", "_law_piece", "_law_step", "_law_k", "_law_lot", "_law_j"]) (sc := defScope s_w_pieces) (by decide +kernel)) (ri_list (r_var 3 (gv rfl ⟨l, rfl, ⟨_, SqL.of hl3⟩, fun D1 hD1 => ?_⟩))))))
      have colAt : ∀ {q : Nat}, q < m.cols.length → m.cols[q]? = some (m.cols.getD q 0) := fun {q} h => by
        rw [List.getD_eq_getElem?_getD, List.getElem?_eq_getElem h]
        rfl
      refine lc_p 8 (walk_list (xs := intsV L)) hD1 (fun H' s => SqL.of (s _ _ hl3)) (fun i H x H' y => by rw [y.1]; exact Same.refl _) (fun i => pHit m Pl (L.getD i 0)) (fun i => .int (L.getD i 0 : Nat)) (by rw [List.length_map]; exact Nat.lt_of_le_of_lt hL (by decide)) (fun i1 v1 H4 H5 hi1 s4 y => ?_) (fun H4 s4 hd4 => ?_) sc_w_pieces.nd
      · obtain ⟨rfl, hx1⟩ := y
        obtain ⟨k1, hk1, rfl⟩ := intsV_get hx1
        rw [getD_of hk1]
        have hk1n := hlt k1 (List.mem_of_getElem? hk1)
        intro z0 H0 C cl fp
        refine rts_one (rt_bool (rw_or (rt_in (r_var 8 (r_var 6 (gv rfl ⟨_, .inl (SqL.of (s4 _ _ hp)), rfl, flat_ints _, ?_⟩))))))
        cases hin : inV (.int (k1 : Nat)) (intsV Pl) with
        | true =>
          refine b_yes rfl ⟨by unfold pHit; rw [hin]; rfl, ?_⟩
          refine iteT ?_
          intro z0 H0 C cl fp
          exact r_var 8 ⟨Same.refl _, rfl⟩
        | false =>
          refine b_no rfl (rw_or1 (rt_ne hr.units (r_lc [("_law_lot", 9)] sc_w_pieces.nd (blkOk_by (N := ["_law_shape", "_law_near", "_law_far", "_law_left", "_law_found", "_law_turn", "_law_piece", "_law_step", "_law_k", "_law_lot", "_law_j"]) (sc := pc_sc1) (own := [("_law_lot", 9)]) (by decide +kernel)) (ri_tup (r_ix (r_var 0 (r_int ⟨_, .ref b1, .inr (SqT.of (s4 _ _ (s3 _ _ h1))), at2, b1, rfl, ⟨_, SqT.of (s4 _ _ (s3 _ _ h3))⟩, fun D2 hD2 => ?_⟩)))))))
          have ds : ∀ {H : Hy} {ls : List LN} {d : Addr}, H d = some (.lst (strsV ls)) → Dp K H (.ref d) (.list ((ls.map S).map PyData.str)) := fun h => .lst (SqL.of h) (DpAll.strs _)
          have di : ∀ {H : Hy} {ks : List Nat} {d : Addr}, H d = some (.lst (intsV ks)) → Dp K H (.ref d) (.list (ks.map fun k => PyData.int (k : Nat))) := fun {H ks d} h => .lst (SqL.of h) (by
            have := DpAll.ints (K := K) (H := H) (ks.map fun k : Nat => (k : Int))
            rw [List.map_map, List.map_map] at this
            exact this)
          refine lc_p 9 (walk_tup (xs := strsV m.lots)) hD2 (fun H' s => SqT.of (s _ _ (s4 _ _ (s3 _ _ h3)))) (fun i H x H' y => by rw [y.1]; exact Same.refl _) (fun i => lotHit m Pl k1 (m.lots.getD i [])) (fun i => .str (S (m.lots.getD i []))) (by rw [List.length_map, List.length_map]; exact Nat.lt_of_le_of_lt hm.k10 (by decide)) (fun i2 v2 H5 H6 hi2 s5 y => ?_) (fun H5 s5 hd5 => ?_) sc_w_pieces.nd
          · obtain ⟨rfl, hx2⟩ := y
            obtain ⟨lot, hlot, rfl⟩ := strsV_get hx2
            rw [getD_of hlot]
            have s45 := s3.trans (s4.trans s5)
            intro z0 H0 C cl fp
            refine rts_one (rt_bool (rw_and (rt_in (r_ix (r_ix (r_var 0 (r_int ⟨_, .str (S m.cols), .inr (SqT.of (s45 _ _ h1)), at0, r_var 8 ⟨S_small (by omega), m.cols.getD k1 0, atI_nat (colAt hk1n), r_var 9 (gv rfl ⟨m.cols.getD k1 0, rfl, ?_⟩)⟩⟩)))))))
            rw [S_cps]
            cases hc1 : decide (m.cols.getD k1 0 ∈ lot) with
            | false =>
              refine b_no rfl ⟨by unfold lotHit; rw [hc1]; rfl, ?_⟩
              exact Same.refl _
            | true =>
              refine b_yes rfl (rw_and1 (rt_ne hr.units (r_lc [("_law_j", 10)] sc_w_pieces.nd (blkOk_by (N := ["_law_shape", "_law_near", "_law_far", "_law_left", "_law_found", "_law_turn", "_law_piece", "_law_step", "_law_k", "_law_lot", "_law_j"]) (sc := pc_sc2) (own := [("_law_j", 10)]) (by decide +kernel)) (ri_list (r_var 6 (gv rfl ⟨p, rfl, ⟨_, SqL.of (s5 _ _ (s4 _ _ hp))⟩, fun D3 hD3 => ?_⟩))))))
              refine lc_p 10 (walk_list (xs := intsV Pl)) hD3 (fun H' s => SqL.of (s _ _ (s5 _ _ (s4 _ _ hp)))) (fun i H x H' y => by rw [y.1]; exact Same.refl _) (fun i => decide (m.cols.getD (Pl.getD i 0) 0 ∈ lot)) (fun i => .int (Pl.getD i 0 : Nat)) (by rw [List.length_map]; exact Nat.lt_of_le_of_lt hPl (by decide)) (fun i3 v3' H7 H8 hi3 s6 y => ?_) (fun H7 s7 hd7 => ?_) sc_w_pieces.nd
              · obtain ⟨rfl, hx3⟩ := y
                obtain ⟨j0, hj0, rfl⟩ := intsV_get hx3
                rw [getD_of hj0]
                have hj0n := hPlt j0 (List.mem_of_getElem? hj0)
                intro z0 H0 C cl fp
                refine rts_one (rt_in (r_ix (r_ix (r_var 0 (r_int ⟨_, .str (S m.cols), .inr (SqT.of (s6 _ _ (s45 _ _ h1))), at0, r_var 10 ⟨S_small (by omega), m.cols.getD j0 0, atI_nat (colAt hj0n), r_var 9 (gv rfl ⟨m.cols.getD j0 0, rfl, rfl, ?_⟩)⟩⟩)))))
                rw [S_cps]
                cases decide (m.cols.getD j0 0 ∈ lot) with
                | false => exact Same.refl _
                | true =>
                  refine iteT ?_
                  intro z0 H0 C cl fp
                  exact r_var 10 ⟨Same.refl _, rfl⟩
              have e7 : ((List.range (intsV Pl).length).filter fun i => decide (m.cols.getD (Pl.getD i 0) 0 ∈ lot)).map (fun i => V.int (Pl.getD i 0 : Nat)) = intsV (inLot m Pl lot) := by
                unfold inLot
                rw [← filter_range Pl 0 fun j => decide (m.cols.getD j 0 ∈ lot)]
                simp only [intsV, List.map_map, List.length_map]
                rfl
              rw [e7] at hd7
              refine r_lst (ra_nil ⟨by show 0 ≤ sizeLine; decide, fun g2 hg2 => ?_⟩)
              refine ⟨_, .list [], di (same_new hg2 _ _ hd7), .lst (SqL.of upd_same) .nil, shaped_ints _, rfl, ?_⟩
              rw [eqv_nil, emp_map]
              have sl := s7.trans (same_new (o := .lst []) hg2)
              cases he : (inLot m Pl lot).isEmpty with
              | true =>
                exact ⟨by unfold lotHit; rw [hc1, he]; rfl, sl⟩
              | false =>
                refine ⟨by unfold lotHit; rw [hc1, he]; rfl, ?_⟩
                refine iteT ?_
                intro z0 H0 C cl fp
                exact r_var 9 ⟨sl, rfl⟩
          have e5 : ((List.range (strsV m.lots).length).filter fun i => lotHit m Pl k1 (m.lots.getD i [])).map (fun i => V.str (S (m.lots.getD i []))) = strsV (m.lots.filter (lotHit m Pl k1)) := by
            rw [← filter_range m.lots [] (lotHit m Pl k1)]
            simp only [strsV, List.map_map, List.length_map]
            rfl
          rw [e5] at hd5
          refine r_lst (ra_nil ⟨by show 0 ≤ sizeLine; decide, fun g2 hg2 => ?_⟩)
          refine ⟨_, .list [], ds (same_new hg2 _ _ hd5), .lst (SqL.of upd_same) .nil, shaped_strs fun l hl c hc => ?_, rfl, ?_⟩
          · have := hm.letter c ((hm.lot l (List.mem_filter.mp hl).1).2.2.1 c hc)
            omega
          rw [eqv_nil, emp_map, emp_map]
          have sl := s5.trans (same_new (o := .lst []) hg2)
          cases he : (m.lots.filter (lotHit m Pl k1)).isEmpty with
          | true => exact ⟨by unfold pHit; rw [hin, he]; rfl, sl⟩
          | false =>
            refine ⟨by unfold pHit; rw [hin, he]; rfl, ?_⟩
            refine iteT ?_
            intro z0 H0 C cl fp
            exact r_var 8 ⟨sl, rfl⟩
      · have e4 : ((List.range (intsV L).length).filter fun i => pHit m Pl (L.getD i 0)).map (fun i => V.int (L.getD i 0 : Nat)) = intsV (L.filter (pHit m Pl)) := by
          rw [← filter_range L 0 (pHit m Pl)]
          simp only [intsV, List.map_map, List.length_map]
          rfl
        rw [e4] at hd4
        exact ⟨s3.trans s4, D1, L.filter (pHit m Pl), _, rfl, hd4, Nat.le_trans (List.length_filter_le _ _) hL, fun q hq => hlt q (List.mem_filter.mp hq).1, s4 _ _ hl3, s4 _ _ hf3, fun q => by rw [q, hf3] at hD1; cases hD1⟩
    · rintro σ' H3 ⟨s3, p, Pl, v7, rfl, hp, hPl, hPlt, hl3, hf3, hpf⟩
      have colAt : ∀ {q : Nat}, q < m.cols.length → m.cols[q]? = some (m.cols.getD q 0) := fun {q} h => by
        rw [List.getD_eq_getElem?_getD, List.getElem?_eq_getElem h]
        rfl
      refine rb_cons (rs_expr (r_append (r_var 4 ⟨f, rfl, ⟨_, hf3⟩, ra_cons (r_join (r_str ⟨[], s_no ▸ rfl, ra_cons (r_lc [("_law_k", 8)] sc_w_pieces.nd (blkOk_by (N := ["_law_shape", "_law_near", "_law_far", "_law_left", "_law_found", "_law_turn", "_law_piece", "_law_step", "_law_k", "_law_lot", "_law_j"]) (sc := defScope s_w_pieces) (by decide +kernel)) (ri_list (r_var 6 (gv rfl ⟨p, rfl, ⟨_, SqL.of hp⟩, fun D1 hD1 => ?_⟩))))⟩))⟩)))
      refine lc_n 8 (walk_list (xs := intsV Pl)) hD1 (fun H' s => SqL.of (s _ _ hp)) (fun i H x H' y => by rw [y.1]; exact Same.refl _) (strsV (Pl.map fun k => [m.cols.getD k 0])) (by simp) (by rw [List.length_map]; exact Nat.lt_of_le_of_lt hPl (by decide)) (fun i1 v1 H4 H5 hi1 s4 y => ?_) (fun H4 s4 hd4 => ?_) sc_w_pieces.nd
      · obtain ⟨rfl, hx1⟩ := y
        obtain ⟨k1, hk1, rfl⟩ := intsV_get hx1
        have hk1n := hPlt k1 (List.mem_of_getElem? hk1)
        intro z0 H0 C cl fp
        refine r_ix (r_ix (r_var 0 (r_int ⟨_, .str (S m.cols), .inr (SqT.of (s4 _ _ (s3 _ _ h1))), at0, r_var 8 ⟨S_small (by omega), m.cols.getD k1 0, atI_nat (colAt hk1n), Same.refl _, ?_⟩⟩)))
        rw [List.getElem?_map, List.getElem?_map, List.getElem?_map, hk1]
        rfl
      refine ra_nil ⟨D1, Pl.map fun k => [m.cols.getD k 0], rfl, .inl (SqL.of hd4), ?_, ra_nil ⟨_, _, rfl, s4 _ _ hf3, ?_, ?_⟩⟩
      · rw [List.map_map]
        have g : ∀ l : List Nat, (l.map (List.length ∘ fun k => [m.cols.getD k 0])).sum = l.length := fun l => by
          induction l with
          | nil => rfl
          | cons a l ih => simp only [List.map_cons, List.sum_cons, ih, List.length_cons, Function.comp]; simp; omega
        rw [g]
        simp only [List.length_nil, List.length_map]
        omega
      · rw [List.length_map, List.length_map]
        exact Nat.lt_of_le_of_lt (show ps.length ≤ 6 by omega) (by decide)
      generalize joinL [] (Pl.map fun k => [m.cols.getD k 0]) = wd
      have kf : ∀ {H5 : Hy} {o : HO}, ∀ a u, a ≠ f → H5 a = some u → upd H5 f o a = some u := fun {H5 o} a u n h => by rw [upd_ne n]; exact h
      have ea : (strsV ps ++ [V.str (S wd)]) = strsV (ps ++ [wd]) := by simp only [strsV, List.map_append]; rfl
      rw [ea]
      have s5 : Same H (upd H4 f (.lst (strsV (ps ++ [wd])))) := fun a u h => kf a u (fun e => by rw [e, hfH] at h; cases h) (s4 _ _ (s3 _ _ h))
      have hl5 := kf (o := .lst (strsV (ps ++ [wd]))) _ _ hlf (s4 _ _ hl3)
      have hp5 := kf (o := .lst (strsV (ps ++ [wd]))) _ _ hpf (s4 _ _ hp)
      have hf5 := upd_same (H := H4) (a := f) (o := .lst (strsV (ps ++ [wd])))
      generalize upd H4 f (.lst (strsV (ps ++ [wd]))) = H5 at s5 hl5 hp5 hf5
      refine rb_one (rs_lc 3 [("_law_k", 8)] sc_w_pieces.nd (blkOk_by (N := ["_law_shape", "_law_near", "_law_far", "_law_left", "_law_found", "_law_turn", "_law_piece", "_law_step", "_law_k", "_law_lot", "_law_j"]) (sc := defScope s_w_pieces) (by decide +kernel)) (by rfl) (ri_list (r_var 3 (gv rfl ⟨l, rfl, ⟨_, SqL.of hl5⟩, fun D2 hD2 => ?_⟩))))
      refine lc_p 8 (walk_list (xs := intsV L)) hD2 (fun H' s => SqL.of (s _ _ hl5)) (fun i H x H' y => by rw [y.1]; exact Same.refl _) (fun i => !inV (.int (L.getD i 0 : Nat)) (intsV Pl)) (fun i => .int (L.getD i 0 : Nat)) (by rw [List.length_map]; exact Nat.lt_of_le_of_lt hL (by decide)) (fun i1 v1 H6 H7 hi1 s6 y => ?_) (fun H6 s6 hd6 => ?_) sc_w_pieces.nd
      · obtain ⟨rfl, hx1⟩ := y
        obtain ⟨k1, hk1, rfl⟩ := intsV_get hx1
        rw [getD_of hk1]
        intro z0 H0 C cl fp
        refine rts_one (rt_notin (r_var 8 (r_var 6 (gv rfl ⟨_, .inl (SqL.of (s6 _ _ hp5)), rfl, flat_ints _, ?_⟩))))
        cases inV (.int (k1 : Nat)) (intsV Pl) with
        | true => exact ⟨rfl, Same.refl _⟩
        | false =>
          refine ⟨rfl, ?_⟩
          refine iteT ?_
          intro z0 H0 C cl fp
          exact r_var 8 ⟨Same.refl _, rfl⟩
      have e6 : ((List.range (intsV L).length).filter fun i => !inV (.int (L.getD i 0 : Nat)) (intsV Pl)).map (fun i => V.int (L.getD i 0 : Nat)) = intsV (L.filter fun k => !inV (.int (k : Nat)) (intsV Pl)) := by
        rw [← filter_range L 0 fun k => !inV (.int (k : Nat)) (intsV Pl)]
        simp only [intsV, List.map_map, List.length_map]
        rfl
      rw [e6] at hd6
      exact ⟨s5.trans s6, D2, _, ps ++ [wd], _, _, _, rfl, hd6, Nat.le_trans (List.length_filter_le _ _) hL, fun q hq => hlt q (List.mem_filter.mp hq).1, s6 _ _ hf5, by rw [List.length_append, List.length_singleton]; omega, fun q => by (rw [q, hf5] at hD2; cases hD2), fun q => by simp at q⟩
  · rintro σ' H' ⟨s2, l, L, ps, v5, v6, v7, rfl, hl, hL, hlt, hps, hpl, hlf, h0⟩
    exact after _ _ ⟨_, v5, v6, v7, ps, rfl, s2, hps, fun q => by have := (h0 q).2; simp at this⟩
end
end My

set_option Elab.async false
set_option pp.maxSteps 1500
set_option linter.all false
set_option maxRecDepth 100000
set_option maxHeartbeats 4000000
/-! J14: plain matter for a mate of a table (the walk of _law_mate goes here) -/
namespace My
open PySem PySem.Spec PyProof.Rows L2 TL
theorem putN_new {d : List CT} {k : LN} {v : Int} (h : ∀ e ∈ d, e.1 ≠ k) : putN d k v = d ++ [(k, v)] := by
  unfold putN
  rw [if_neg]
  intro q
  obtain ⟨e, he, q⟩ := List.any_eq_true.mp q
  exact h e he (of_decide_eq_true q)
/-- dict(list(counts)) : the counts themselves, their rows being unlike -/
theorem mergeK_N : ∀ (cs d : List CT), (cs.Pairwise fun e f => e.1 < f.1) → (∀ e ∈ d, ∀ f ∈ cs, e.1 ≠ f.1) → mergeK (d.map entN) (cs.map entN) = (d ++ cs).map entN
  | [], d, _, _ => by simp [mergeK]
  | e :: cs, d, ha, hd => by
    have h1 : mergeK (d.map entN) ((e :: cs).map entN) = mergeK (putK (d.map entN) (Sum.inr (S e.1)) (.int e.2)) (cs.map entN) := rfl
    rw [h1, putK_N, putN_new fun x hx => hd x hx e (List.mem_cons_self ..), mergeK_N cs (d ++ [(e.1, e.2)]) (List.pairwise_cons.mp ha).2 ?_, List.append_assoc]
    · rfl
    · intro x hx f hf
      rcases List.mem_append.mp hx with hx | hx
      · exact hd x hx f (List.mem_cons_of_mem _ hf)
      · obtain rfl : x = (e.1, e.2) := by simpa using hx
        exact fun q => List.lt_irrefl _ (q ▸ (List.pairwise_cons.mp ha).1 f hf)
/-- counts under change: rows of the model, none below nothing -/
structure CsW (m : MD) (b : Int) (n : Nat) (d : List CT) : Prop where
  row : ∀ e ∈ d, RowOk m e.1
  pos : ∀ e ∈ d, 0 ≤ e.2
  top : ∀ e ∈ d, e.2 ≤ b
  len : d.length ≤ n
theorem CsB.w {m : MD} {b : Int} {n : Nat} {d : List CT} (h : CsB m b n d) : CsW m b n d := ⟨h.row, fun e he => by have := h.pos e he; omega, h.top, h.len⟩
theorem CsW.put {m : MD} {b b' : Int} {n : Nat} {d : List CT} {k : LN} {v : Int} (h : CsW m b n d) (hk : RowOk m k) (h1 : 0 ≤ v) (h2 : v ≤ b') (hb : b ≤ b') : CsW m b' (n + 1) (putN d k v) := by
  refine ⟨fun e he => ?_, fun e he => ?_, fun e he => ?_, Nat.le_trans (putN_len _ _ _) (Nat.succ_le_succ h.len)⟩ <;> rcases putN_mem he with q | rfl
  · exact h.row e q
  · exact hk
  · exact h.pos e q
  · exact h1
  · exact Int.le_trans (h.top e q) hb
  · exact h2
theorem CsW.mono {m : MD} {b b' : Int} {n n' : Nat} {d : List CT} (h : CsW m b n d) (hb : b ≤ b') (hn : n ≤ n') : CsW m b' n' d := ⟨h.row, h.pos, fun e he => Int.le_trans (h.top e he) hb, Nat.le_trans h.len hn⟩
theorem getN_mem {d : List CT} {k : LN} {v : Int} (h : getN d k = some v) : (k, v) ∈ d := by
  unfold getN at h
  obtain ⟨e, he, rfl⟩ := Option.map_eq_some_iff.mp h
  have h1 := List.mem_of_find?_eq_some he
  have h2 := List.find?_some he
  rw [← of_decide_eq_true h2]
  exact h1
/-- a count read, with 0 for a row that is not there -/
theorem CsW.get {m : MD} {b : Int} {n : Nat} {d : List CT} (h : CsW m b n d) (hb : 0 ≤ b) (k : LN) : 0 ≤ (getN d k).getD 0 ∧ (getN d k).getD 0 ≤ b := by
  cases q : getN d k with
  | none => exact ⟨Int.le_refl _, hb⟩
  | some v => exact ⟨h.pos _ (getN_mem q), h.top _ (getN_mem q)⟩
def sp_w_mate (K : PySem.W.Frag) : Sp := fun vs H Q _ => ∃ (m : MD) (j s a : Addr) (so : Bool) (cs : List CT), vs = [.ref j, .ref s, .ref a] ∧ JarAt H j ∧ ShAt H s m so ∧ MOk m ∧ CntB H a m (10 ^ 28) 7 cs ∧ ∀ a' H' cs', Keep j H H' → JarAt H' j → CntB H' a' m (10 ^ 28 + 3) 11 cs' → Q (.ref a') H'
theorem tu_paired {K : PySem.W.Frag} {H : Hy} : ∀ {us : List V} {cs : List CT}, Tu gCnt H us cs → ∃ ps : List Addr, us = ps.map V.ref ∧ Paired (fun p (kv : L2.Key × V) => SqT K H p [kV kv.1, kv.2]) ps (cs.map entN) := by
  intro us cs h
  unfold Tu at h
  induction h with
  | nil => exact ⟨[], rfl, .nil⟩
  | @cons v e vs es h t ih =>
    obtain ⟨q, rfl, hq⟩ := h
    obtain ⟨ps, rfl, hp⟩ := ih
    exact ⟨q :: ps, rfl, .cons (SqT.of hq) hp⟩
theorem atI_end {α : Type} {xs : List α} {v : α} (h : xs[xs.length - 1]? = some v) : atI xs (-1) = some v := by
  rw [← List.getLast?_eq_getElem?] at h
  obtain ⟨ys, rfl⟩ := List.getLast?_eq_some_iff.mp h
  exact atI_last ys v
theorem ends_of {cs : List CT} (ha : cs.Pairwise fun e f => e.1 < f.1) (h : 2 ≤ cs.length) : ∃ e f, cs[0]? = some e ∧ cs[cs.length - 1]? = some f ∧ e.1 ≠ f.1 := by
  refine ⟨cs[0], cs[cs.length - 1], List.getElem?_eq_getElem _, List.getElem?_eq_getElem _, fun q => ?_⟩
  have := List.pairwise_iff_getElem.mp ha 0 (cs.length - 1) (by omega) (by omega) (by omega)
  exact List.lt_irrefl _ (q ▸ this)
theorem getN_asc {cs : List CT} (ha : cs.Pairwise fun e f => e.1 < f.1) {e : CT} (he : e ∈ cs) : getN cs e.1 = some e.2 := by
  induction cs with
  | nil => cases he
  | cons x cs ih =>
    unfold getN
    rcases List.mem_cons.mp he with rfl | he
    · simp [List.find?_cons]
    · have hlt := (List.pairwise_cons.mp ha).1 e he
      have hne : ¬ x.1 = e.1 := fun q => List.lt_irrefl _ (q ▸ hlt)
      rw [List.find?_cons_of_neg (by simpa using hne)]
      exact ih (List.pairwise_cons.mp ha).2 he
theorem getN_put_ne {d : List CT} {k r : LN} {v : Int} (h : k ≠ r) : getN (putN d r v) k = getN d k := by
  have e1 := valV_N (putN d r v) k
  rw [← putK_N, valV_put, if_neg (fun q => h (S_inj (Sum.inr.inj q))), valV_N] at e1
  cases p : getN d k with
  | none =>
    rw [p] at e1
    cases q : getN (putN d r v) k with
    | none => rfl
    | some y => rw [q] at e1; cases e1
  | some x =>
    rw [p] at e1
    cases q : getN (putN d r v) k with
    | none => rw [q] at e1; cases e1
    | some y =>
      rw [q] at e1
      have := V.int.inj (Option.some.inj e1)
      rw [this]
theorem putN_nd {d : List CT} {k : LN} {v : Int} (h : (d.map (·.1)).Nodup) : ((putN d k v).map (·.1)).Nodup := by
  unfold putN
  split
  · rw [List.map_map]
    have e1 : ((fun e : CT => e.1) ∘ fun e : CT => if e.1 = k then (e.1, v) else e) = fun e => e.1 := by
      funext e
      show (if e.1 = k then (e.1, v) else e).1 = e.1
      split <;> rfl
    rw [e1]
    exact h
  · rename_i hn
    rw [List.map_append, List.nodup_append]
    refine ⟨h, by simp, fun x hx y hy q => ?_⟩
    obtain ⟨e, he, rfl⟩ := List.mem_map.mp hx
    have hy' : y = k := by simpa using hy
    exact hn (List.any_eq_true.mpr ⟨e, he, decide_eq_true (q.trans hy')⟩)
theorem getN_nd {d : List CT} (nd : (d.map (·.1)).Nodup) {e : CT} (he : e ∈ d) : getN d e.1 = some e.2 := by
  induction d with
  | nil => cases he
  | cons x d ih =>
    rw [List.map_cons, List.nodup_cons] at nd
    unfold getN
    rcases List.mem_cons.mp he with rfl | he
    · simp [List.find?_cons]
    · have hne : ¬ x.1 = e.1 := fun q => nd.1 (by rw [q]; exact List.mem_map_of_mem he)
      rw [List.find?_cons_of_neg (by simpa using hne)]
      exact ih nd.2 he
theorem nd_of_pw {d : List CT} (h : d.Pairwise fun e f => e.1 < f.1) : (d.map (·.1)).Nodup := by
  rw [List.nodup_iff_pairwise_ne, List.pairwise_map]
  refine h.imp ?_
  intro a b q z
  rw [z] at q
  exact List.lt_irrefl _ q
/-- sorted texts, all unlike -/
theorem pw_of_sorted {l : List LN} (nd : l.Nodup) (h : sortedS (l.map S) = true) : l.Pairwise (· < ·) := by
  have key : ∀ (l : List LN) (p : LN), risingS (S p) (l.map S) = true → (p :: l).Nodup → (p :: l).Pairwise (· < ·) := by
    intro l
    induction l with
    | nil => intro p _ _; simp
    | cons x r ih =>
      intro p h nd
      have h' : (!ltCps x p && risingS (S x) (r.map S)) = true := h
      rw [Bool.and_eq_true] at h'
      rw [List.nodup_cons] at nd
      have h3 := h'.1
      rw [ltCps_eq] at h3
      have h4 : ¬ x < p := by simpa using h3
      have h6 : p ≠ x := fun q => nd.1 (by rw [q]; exact List.mem_cons_self ..)
      have h7 : p < x := by
        by_cases q : p < x
        · exact q
        · exact absurd (List.le_antisymm (List.not_lt.mp h4) (List.not_lt.mp q)) h6
      have ih2 := ih x h'.2 nd.2
      refine List.pairwise_cons.mpr ⟨fun y hy => ?_, ih2⟩
      rcases List.mem_cons.mp hy with rfl | hy
      · exact h7
      · exact List.lt_trans h7 ((List.pairwise_cons.mp ih2).1 y hy)
  cases l with
  | nil => exact .nil
  | cons p r => exact key r p h nd
end My

set_option Elab.async false
set_option pp.maxSteps 1500
set_option linter.all false
set_option maxRecDepth 100000
set_option maxHeartbeats 4000000
/-! X3: desks.py: first_unlike -/
namespace My
open PySem PySem.Spec PyProof.Rows L2 TL
def cntE (e : CT) : PyData := .tuple [.str (S e.1), .int e.2]
def cntD (cs : List CT) : PyData := .tuple (cs.map cntE)
theorem eqv_cntE (e f : CT) : PyData.eqv (cntE e) (cntE f) = decide (e = f) := by
  obtain ⟨a, i⟩ := e
  obtain ⟨b, j⟩ := f
  have h1 : PyData.eqv (cntE (a, i)) (cntE (b, j)) = ((S a == S b) && ((i == j) && true)) := by
    simp only [cntE, PyData.eqv, PyData.eqvAll]
  rw [h1, Bool.and_true, Bool.eq_iff_iff, Bool.and_eq_true, beq_iff_eq, beq_iff_eq, decide_eq_true_iff]
  exact ⟨fun ⟨p, q⟩ => by rw [S_inj p, q], fun q => by cases q; exact ⟨rfl, rfl⟩⟩
theorem eqv_cntA : ∀ cs ds : List CT, PyData.eqvAll (cs.map cntE) (ds.map cntE) = decide (cs = ds)
  | [], [] => by simp [PyData.eqvAll]
  | [], _ :: _ => by simp [PyData.eqvAll]
  | _ :: _, [] => by simp [PyData.eqvAll]
  | e :: cs, f :: ds => by
    simp only [List.map_cons, PyData.eqvAll, eqv_cntE, eqv_cntA cs ds]
    rw [Bool.eq_iff_iff, Bool.and_eq_true, decide_eq_true_iff, decide_eq_true_iff, decide_eq_true_iff, List.cons.injEq]
theorem eqv_cnt (cs ds : List CT) : PyData.eqv (cntD cs) (cntD ds) = decide (cs = ds) := by
  unfold cntD
  simp only [PyData.eqv]
  exact eqv_cntA cs ds
theorem lay_cnt : ∀ cs : List CT, (∀ e ∈ cs, ∀ c ∈ e.1, c < 0x110000) → PyData.canLayAll0 (cs.map cntE) = true
  | [], _ => by simp [PyData.canLayAll0]
  | e :: cs, h => by
    have h1 := lay_cnt cs fun x hx => h x (List.mem_cons_of_mem _ hx)
    have h2 : PyData.strOk (S e.1) = true := by
      show (S e.1).cps.all (· < 0x110000) = true
      simp only [S, List.all_toArray, List.all_eq_true, decide_eq_true_eq]
      exact h e (List.mem_cons_self ..)
    simp only [List.map_cons, cntE, PyData.canLayAll0, PyData.canLay0, h1, h2, Bool.and_true]
theorem depth_cnt : ∀ cs : List CT, PyData.depthAll (cs.map cntE) ≤ 2
  | [] => by simp [PyData.depthAll]
  | e :: cs => by
    have h1 := depth_cnt cs
    simp only [List.map_cons, cntE, PyData.depthAll, PyData.depth]
    omega
theorem shaped_cnt {cs : List CT} (h : ∀ e ∈ cs, ∀ c ∈ e.1, c < 0x110000) : SeqAt.shaped (cntD cs) = true := by
  have h1 := depth_cnt cs
  have h2 : PyData.depth (cntD cs) ≤ 64 := by
    simp only [cntD, PyData.depth]
    omega
  show (PyData.canLay0 (cntD cs) && decide (PyData.depth (cntD cs) ≤ 64)) = true
  rw [Bool.and_eq_true]
  exact ⟨by simp only [cntD, PyData.canLay0]; exact lay_cnt cs h, decide_eq_true h2⟩
theorem dp_cnt {K : PySem.W.Frag} {H : Hy} {t : Addr} {us : List V} {cs : List CT} (h1 : H t = some (.tup us)) (h2 : Tu gCnt H us cs) : Dp K H (.ref t) (cntD cs) := by
  refine .tup (SqT.of h1) ?_
  unfold Tu at h2
  clear h1
  induction h2 with
  | nil => exact .nil
  | cons a _ ih =>
    obtain ⟨q, rfl, hq⟩ := a
    exact .cons (.tup (SqT.of hq) (.cons (.str _) (.cons (.int _) .nil))) ih
/-! the sums are told -/
theorem sums_one {ps qs : List CT} (h : ps.Perm qs) (h1 : ps.Pairwise fun e f : CT => e.1 < f.1) (h2 : qs.Pairwise fun e f : CT => e.1 < f.1) : ps = qs := by
  refine List.Perm.eq_of_pairwise (le := fun e f : CT => e.1 < f.1) ?_ h1 h2 h
  intro a b _ _ p q
  exact absurd (List.lt_trans p q) (List.lt_irrefl _)
theorem sumsOf_one {m : MD} {cs : List CT} : ∀ {lots : List LN} {ss tt : List (List CT)}, SumsOf m cs ss lots → SumsOf m cs tt lots → ss = tt := by
  intro lots ss tt h
  unfold SumsOf at h
  induction h generalizing tt with
  | nil => intro q; cases q; rfl
  | cons a _ ih =>
    intro q
    cases q with
    | cons b r => rw [sums_one (a.1.trans b.1.symm) a.2 b.2, ih r]
theorem tally_key {m : MD} {lot : LN} {e : CT} : ∀ {cs : List CT}, e ∈ tally m cs lot → ∃ f ∈ cs, e.1 = pick m f.1 lot := by
  intro cs
  have key : ∀ (cs d : List CT), e ∈ cs.foldl (fun d e => putN d (pick m e.1 lot) ((getN d (pick m e.1 lot)).getD 0 + e.2)) d → e ∈ d ∨ ∃ f ∈ cs, e.1 = pick m f.1 lot := by
    intro cs
    induction cs with
    | nil => intro d h; exact .inl h
    | cons c cs ih =>
      intro d h
      rw [List.foldl_cons] at h
      rcases ih _ h with h | ⟨f, hf, q⟩
      · rcases putN_mem h with h | h
        · exact .inl h
        · exact .inr ⟨c, List.mem_cons_self .., by rw [h]⟩
      · exact .inr ⟨f, List.mem_cons_of_mem _ hf, q⟩
  intro h
  rcases key cs [] h with h | h
  · cases h
  · exact h
theorem pick_code {m : MD} (hm : MOk m) {r lot : LN} (h : RowOk m r) : ∀ c ∈ pick m r lot, c < 0x110000 := by
  intro c hc
  obtain ⟨x, _, rfl⟩ := List.mem_map.mp hc
  rw [List.getD_eq_getElem?_getD]
  cases q : r[m.cols.idxOf x]? with
  | none => exact (by decide : (0 : Nat) < 0x110000)
  | some c =>
    have hl : m.cols.idxOf x < m.lev.length := by
      rw [hm.ll, ← h.len]
      exact (List.getElem?_eq_some_iff.mp q).1
    obtain ⟨h1, h2⟩ := h.dig _ c _ q (List.getElem?_eq_getElem hl)
    have := hm.lv _ (List.getElem_mem hl)
    show c < 0x110000
    omega
theorem sumsOf_code {m : MD} (hm : MOk m) {cs : List CT} (hc : ∀ e ∈ cs, RowOk m e.1) {lots : List LN} {ss : List (List CT)} (h : SumsOf m cs ss lots) {i : Nat} {ps : List CT} (hi : ss[i]? = some ps) : ∀ e ∈ ps, ∀ c ∈ e.1, c < 0x110000 := by
  obtain ⟨lot, _, hp, _⟩ := pd_get h hi
  intro e he
  obtain ⟨f, hf, q⟩ := tally_key (hp.mem_iff.mp he)
  rw [q]
  exact pick_code hm (hc f hf)
/-- the unlike ones -/
def unl (ss tt : List (List CT)) : List Nat := (List.range ss.length).filter fun i => !decide (ss.getD i [] = tt.getD i [])
def optV : Option Nat → V
  | none => .non
  | some i => .int (i : Nat)
def sp_first_unlike (K : PySem.W.Frag) : Sp := fun vs H Q _ => ∃ (m : MD) (t1 t2 p : Addr) (cs ds : List CT) (ss tt : List (List CT)), vs = [.ref t1, .ref t2] ∧ TabAt K H t1 p m cs ∧ TabAt K H t2 p m ds ∧ SumsOf m cs ss m.lots ∧ SumsOf m ds tt m.lots ∧ ∀ H', Same H H' → Q (optV (unl ss tt).head?) H'
theorem head_filter {p : Nat → Bool} {n : Nat} {i : Nat} (hi : i < n) (h : ∀ j < i, p j = false) (hp : p i = true) : ((List.range n).filter p).head? = some i := by
  have e1 : List.range n = List.range i ++ (List.range (n - i)).map (i + ·) := by
    rw [← List.range_add]
    congr 1
    omega
  obtain ⟨k, hk⟩ : ∃ k, n - i = k + 1 := ⟨n - i - 1, by omega⟩
  rw [e1, List.filter_append, List.filter_eq_nil_iff.mpr (fun j hj => by rw [h j (List.mem_range.mp hj)]; exact Bool.false_ne_true), List.nil_append, hk, List.range_succ_eq_map, List.map_cons, Nat.add_zero, List.filter_cons_of_pos hp]
  rfl
section
variable {P : Program} {w : World} {K : PySem.W.Frag} {mg : Str → Option Value} {base : Heap}
theorem sc_first_unlike : FnScope ["one", "other", "index", "mine", "others"] ["one", "other"] (defScope s_first_unlike) := ⟨rfl, rfl, rfl, by decide +kernel, rfl, by decide +kernel, by decide +kernel⟩
theorem h_first_unlike (e : EV w K mg base) : Has P w K mg base 1 "first_unlike" ["one", "other"] (sp_first_unlike K) := by
  refine mk_has (d := d_first_unlike) e.g_first_unlike e.f_first_unlike sc_first_unlike (fun _ _ _ _ _ _ us hl => match us, hl with | [_, _], _ => rfl) (fun vs H Q E h => by obtain ⟨_, _, _, _, _, _, _, _, rfl, _⟩ := h; rfl) (fun cdv A outer s H vs Q E hr h => ?_)
  obtain ⟨m, t1, t2, p, cs, ds, ss, tt, rfl, h1, h2, hs, ht, k⟩ := h
  obtain ⟨dx1, fs1, a1, b1, us1, vs1, ss', g1, g2, g3, g4, g5, g6, g7, g8, g9⟩ := h1.at_
  obtain ⟨dx2, fs2, a2, b2, us2, vs2, tt', i1, i2, i3, i4, i5, i6, i7, i8, i9⟩ := h2.at_
  obtain rfl := sumsOf_one hs g9
  obtain rfl := sumsOf_one ht i9
  have hm := h1.mod.ok
  have ls : vs1.length = ss.length := pd_len g8
  have lt : vs2.length = tt.length := pd_len i8
  have lst : ss.length = tt.length := (pd_len hs).trans (pd_len ht).symm
  refine rb_cons (rs_for_ez PassesOwn.never e.z_enumerate e.z_zip (ra_cons (r_fld (r_var 0 ⟨t1, _, dx1, _, _, rfl, g1, e.c_Table, e.n_Table_sums, g6, ra_cons (r_fld (r_var 1 ⟨t2, _, dx2, _, _, rfl, i1, e.c_Table, e.n_Table_sums, i6, ra_nil ⟨b1, b2, vs1, vs2, rfl, .inl g7, .inl i7, ?_⟩⟩))⟩))))
  refine ⟨fun g i σ' H' => Same H H' ∧ (∀ T, g = some T → ∃ zs, H' T = some (.tup zs)) ∧ (∀ j < i, ss.getD j [] = tt.getD j []) ∧ ∃ (v2 v3 v4 : Option V), σ' = [some (.ref t1), some (.ref t2), v2, v3, v4], ⟨Same.refl _, (fun T q => absurd q (fun z => nomatch z)), fun j hj => absurd hj (Nat.not_lt_zero _), _, _, _, rfl⟩, fun g i σ' H' q => ⟨.inl (q.1 _ _ g7), .inl (q.1 _ _ i7), q.2.1⟩, ?_, ?_⟩
  · rintro g i σ' H' T T' x y ⟨s1, hg, hj, v2, v3, v4, rfl⟩ nT' nT neT hx hy
    have s2 : Same H' (upd (upd H' T' (.tup [x, y])) T (.tup [.int (i : Nat), .ref T'])) := (same_new nT').trans (same_new (by rw [upd_ne neT]; exact nT))
    obtain ⟨ps, hps, t3, us3, rfl, hu3, htu3⟩ := pd_get g8 hx
    obtain ⟨qs, hqs, t4, us4, rfl, hu4, htu4⟩ := pd_get i8 hy
    have ep : ss.getD i [] = ps := by rw [List.getD_eq_getElem?_getD, hps]; rfl
    have eq : tt.getD i [] = qs := by rw [List.getD_eq_getElem?_getD, hqs]; rfl
    have c1 := sumsOf_code hm h1.ok.row hs hps
    have c2 := sumsOf_code hm h2.ok.row ht hqs
    have s12 := s1.trans s2
    refine rg_tup ⟨T, _, rfl, SqT.of upd_same, rfl, rgs_cons (rg_name 2 sc_first_unlike.nd (rgs_cons (rg_tup ⟨T', _, rfl, SqT.of (by rw [upd_ne (Ne.symm neT)]; exact upd_same), rfl, rgs_cons (rg_name 3 sc_first_unlike.nd (rgs_cons (rg_name 4 sc_first_unlike.nd (rgs_nil (rgs_nil ?_)))))⟩)))⟩
    refine rb_one (rs_if (rt_ne hr.units (r_var 3 (gv rfl (r_var 4 (gv rfl ⟨cntD ps, cntD qs, dp_cnt (s12 _ _ hu3) (htu3.ext s12), dp_cnt (s12 _ _ hu4) (htu4.ext s12), shaped_cnt c1, shaped_cnt c2, ?_⟩))))))
    rw [eqv_cnt]
    by_cases hd : ps = qs
    · refine b_no (b := !decide (ps = qs)) (by rw [decide_eq_true hd]; rfl) (rb_nil ⟨s12, fun T0 q => ?_, fun j hj' => ?_, _, _, _, rfl⟩)
      · cases g with
        | none => cases q; exact ⟨[.ref t3, .ref t4], by show upd _ T _ T' = _; rw [upd_ne (Ne.symm neT)]; exact upd_same⟩
        | some T1 => cases q; obtain ⟨zs, hz⟩ := hg T1 rfl; exact ⟨zs, s2 _ _ hz⟩
      · rcases Nat.lt_succ_iff_lt_or_eq.mp hj' with q | q
        · exact hj j q
        · rw [q, ep, eq, hd]
    · refine b_yes (b := !decide (ps = qs)) (by rw [decide_eq_false hd]; rfl) (rb_one (rs_ret (r_var 2 (gv rfl ?_))))
      have hk := k _ s12
      rw [show (unl ss tt).head? = some i from head_filter (List.getElem?_eq_some_iff.mp hps).1 (fun j hj' => by rw [hj j hj', decide_eq_true rfl]; rfl) (by rw [ep, eq, decide_eq_false hd]; rfl)] at hk
      exact hk
  · rintro g σ' H' ⟨s1, hg, hj, v2, v3, v4, rfl⟩
    refine rb_one (rs_ret (r_non ?_))
    have hk := k _ s1
    rw [show unl ss tt = [] from List.filter_eq_nil_iff.mpr fun j hj' => by rw [hj j (by have := List.mem_range.mp hj'; omega), decide_eq_true rfl]; exact Bool.false_ne_true] at hk
    exact hk
end
end My

set_option Elab.async false
set_option pp.maxSteps 1500
set_option linter.all false
set_option maxRecDepth 100000
set_option maxHeartbeats 4000000
/-! X4: desks.py: answer_to -/
namespace My
open PySem PySem.Spec PyProof.Rows L2 TL
def holdsB (m : MD) (ol : List Pr) (cf : Str → List CT) (sf : Str → List (List CT)) : Clm → Bool
  | .least x r b => decide (b ≤ lowF m (cf x) r ol)
  | .kept x n => (leakF m (cf x) ol n).isEmpty
  | .alike x y => (unl (sf x) (sf y)).isEmpty
def shownD (m : MD) (ol : List Pr) (cf : Str → List CT) (sf : Str → List (List CT)) : Clm → PyData
  | .least x r b => .tuple [.int (lowF m (cf x) r ol), .int (topF m (cf x) r ol)]
  | .kept x n => (match (leakF m (cf x) ol n).head? with
    | none => .none
    | some r => .str (S r))
  | .alike x y => (match (unl (sf x) (sf y)).head? with
    | none => .none
    | some i => .int (i : Nat))
/-- the tables on a shelf -/
def ShOk (K : PySem.W.Frag) (H : Hy) (p : Addr) (m : MD) (cf : Str → List CT) (sf : Str → List (List CT)) (sh : List ShE) (x : Str) : Prop := ∃ t, shGet sh x = some t ∧ TabAt K H t p m (cf x) ∧ SumsOf m (cf x) (sf x) m.lots
theorem ShOk.ext {K : PySem.W.Frag} {H H' : Hy} {p : Addr} {m : MD} {cf : Str → List CT} {sf : Str → List (List CT)} {sh : List ShE} {x : Str} (h : ShOk K H p m cf sf sh x) (s : Same H H') : ShOk K H' p m cf sf sh x := let ⟨t, h1, h2, h3⟩ := h; ⟨t, h1, TabAt.ext s h2, h3⟩
def sp_answer_to (K : PySem.W.Frag) : Sp := fun vs H Q _ => ∃ (m : MD) (p tc d : Addr) (c : Clm) (sh : List ShE) (ol : List Pr) (cf : Str → List CT) (sf : Str → List (List CT)), vs = [.ref tc, .ref d] ∧ H tc = some (.tup c.v) ∧ H d = some (.dK (sh.map shV)) ∧ Tree m ol ∧ c.ok m ∧ (∀ x ∈ c.names, ShOk K H p m cf sf sh x) ∧
  ∀ q H' sv, Same H H' → H' q = some (.tup [.bl (holdsB m ol cf sf c), sv]) → Dp K H' sv (shownD m ol cf sf c) → Q (.ref q) H'
theorem rows_code (ls : List Nat) (h : ∀ d ∈ ls, d ≤ 4) : ∀ r ∈ rowsOf ls, ∀ c ∈ r, c < 0x110000 := by
  have key : ∀ (ls : List Nat) (rs : List (List Nat)), (∀ d ∈ ls, d ≤ 4) → (∀ r ∈ rs, ∀ c ∈ r, c < 0x110000) → ∀ r ∈ ls.foldl (fun rs n => rs.flatMap fun r => (List.range n).map fun d => r ++ [48 + d]) rs, ∀ c ∈ r, c < 0x110000 := by
    intro ls
    induction ls with
    | nil => intro rs _ h; exact h
    | cons d ls ih =>
      intro rs hd hr
      rw [List.foldl_cons]
      refine ih _ (fun x hx => hd x (List.mem_cons_of_mem _ hx)) fun r hr' c hc => ?_
      obtain ⟨r0, h0, h1⟩ := List.mem_flatMap.mp hr'
      obtain ⟨x, hx, rfl⟩ := List.mem_map.mp h1
      have := List.mem_range.mp hx
      have := hd d (List.mem_cons_self ..)
      rcases List.mem_append.mp hc with q | q
      · exact hr r0 h0 c q
      · have : c = 48 + x := by simpa using q
        omega
  exact key ls [[]] h fun r hr c hc => by
    have : r = [] := by simpa using hr
    rw [this] at hc
    cases hc
theorem eqv_nilT (ks : List PyData) : PyData.eqv (.tuple ks) (.tuple []) = ks.isEmpty := by
  cases ks <;> rfl
theorem shaped_strsT {ls : List LN} (h : ∀ l ∈ ls, ∀ c ∈ l, c < 0x110000) : SeqAt.shaped (.tuple ((ls.map S).map PyData.str)) = true := by
  have h1 := depth_strs ls
  have h2 : PyData.depth (.tuple ((ls.map S).map PyData.str)) ≤ 64 := by
    simp only [PyData.depth]
    omega
  show (PyData.canLay0 (.tuple ((ls.map S).map PyData.str)) && decide (PyData.depth (.tuple ((ls.map S).map PyData.str)) ≤ 64)) = true
  rw [Bool.and_eq_true]
  exact ⟨by simp only [PyData.canLay0]; exact lay_strs ls h, decide_eq_true h2⟩
theorem dp_strsT {K : PySem.W.Frag} {H : Hy} {t : Addr} {ls : List LN} (h : SqT K H t (strsV ls)) : Dp K H (.ref t) (.tuple ((ls.map S).map PyData.str)) := .tup h (DpAll.strs (ls.map S))
section
variable {P : Program} {w : World} {K : PySem.W.Frag} {mg : Str → Option Value} {base : Heap}
theorem sc_answer_to : FnScope ["claim", "shelf", "table", "rows", "told", "index"] ["claim", "shelf"] (defScope s_answer_to) := ⟨rfl, rfl, rfl, by decide +kernel, rfl, by decide +kernel, by decide +kernel⟩
theorem h_answer_to (e : EV w K mg base) : Has P w K mg base 7 "answer_to" ["claim", "shelf"] (sp_answer_to K) := by
  refine mk_has (d := d_answer_to) e.g_answer_to e.f_answer_to sc_answer_to (fun _ _ _ _ _ _ us hl => match us, hl with | [_, _], _ => rfl) (fun vs H Q E h => by obtain ⟨_, _, _, _, _, _, _, _, _, rfl, _⟩ := h; rfl) (fun cdv A outer s H vs Q E hr h => ?_)
  obtain ⟨m, p, tc, d, c, sh, ol, cf, sf, rfl, htc, hd, tr, hc, hn, k⟩ := h
  have h0 : ∃ z x l, c.v = .str z :: .str x :: l ∧ x ∈ c.names := by cases c <;> exact ⟨_, _, _, rfl, by simp [Clm.names]⟩
  obtain ⟨z, x, l, hz, hx⟩ := h0
  have hat : atI c.v 0 = some (.str z) := by rw [hz]; exact at0
  have hat1 : atI c.v 1 = some (.str x) := by rw [hz]; exact at1
  obtain ⟨t, ht, hT, hS⟩ := hn x hx
  refine rb_cons (rs_set 2 sc_answer_to.nd (r_dix hr.units (r_var 1 (gv rfl (r_ix (r_var 0 (r_int ⟨_, .str x, .inr (SqT.of htc), hat1, d, _, Sum.inr x, .ref t, rfl, hd, rfl, by rw [valV_sh, ht]; rfl, ?_⟩)))))))
  refine rb_cons (rs_if (rt_eq hr.units (r_ix (r_var 0 (r_int ⟨_, .str z, .inr (SqT.of htc), hat, r_str ⟨rfl, ?_⟩⟩)))))
  cases c with
  | kept x' n =>
    cases hz
    obtain ⟨h1, h2⟩ := hc
    refine b_yes (b := decide (V.str "kept" = V.str "kept")) (by decide +kernel) ?_
    refine rb_cons (rs_set 3 sc_answer_to.nd (r_call (h_leaks e) hr (ra_cons (r_var 2 (ra_cons (r_ix (r_var 0 (r_int ⟨_, .int n, .inr (SqT.of htc), at2, ra_nil ⟨m, t, p, cf x, n, ol, rfl, hT, h1, h2, tr, fun q H1 s1 hq => ?_⟩⟩))))))))
    have hcode : ∀ l ∈ leakF m (cf x) ol n, ∀ c ∈ l, c < 0x110000 := fun l hl => rows_code _ (fun d hd => (hT.mod.ok.lv d hd).2) l (List.mem_filter.mp hl).1
    refine rb_one (rs_ret (r_tup (ra_cons (r_eq hr.units (r_var 3 (gv rfl (r_tup (ra_nil ⟨by show 0 ≤ sizeLine; decide, fun e0 he0 => ?_⟩))))))))
    have s2 := fun o => same_new (o := o) he0
    refine ⟨_, _, dp_strsT (SqT.of (s2 _ _ _ hq)), .tup (SqT.of upd_same) .nil, shaped_strsT hcode, by decide, ?_⟩
    rw [eqv_nilT, emp_map, emp_map]
    refine ra_cons (r_if (rt_truth (r_var 3 ⟨!(strsV (leakF m (cf x) ol n)).isEmpty, .inr (.inl ⟨_, SqT.of (s2 _ _ _ hq), rfl⟩), ?_⟩)))
    rw [emp_map, emp_map]
    have hk := k
    unfold holdsB shownD at hk
    dsimp only at hk
    cases hl : leakF m (cf x) ol n with
    | nil =>
      rw [hl] at hk
      exact iteF (r_non (ra_nil ⟨by show 2 ≤ sizeLine; decide, fun q5 hq5 => hk q5 _ _ (s1.trans ((s2 _).trans (same_new hq5))) upd_same .non⟩))
    | cons r0 rs =>
      rw [hl] at hk
      refine iteT (r_ix (r_var 3 (r_int ⟨_, .str (S r0), .inr (SqT.of (s2 _ _ _ hq)), by rw [hl]; exact at0, ra_nil ⟨by show 2 ≤ sizeLine; decide, fun q5 hq5 => hk q5 _ _ (s1.trans ((s2 _).trans (same_new hq5))) upd_same (.str _)⟩⟩)))
  | least x' r b =>
    cases hz
    obtain ⟨h1, h2, h3⟩ := hc
    refine b_no (b := decide (V.str "at least" = V.str "kept")) (by decide +kernel) (rb_nil ?_)
    refine rb_cons (rs_if (rt_eq hr.units (r_ix (r_var 0 (r_int ⟨_, .str "at least", .inr (SqT.of htc), at0, r_str ⟨rfl, ?_⟩⟩)))))
    refine b_yes (b := decide (V.str "at least" = V.str "at least")) (by decide +kernel) ?_
    refine rb_cons (rs_set 4 sc_answer_to.nd (r_call (h_span e) hr (ra_cons (r_var 2 (ra_cons (r_ix (r_var 0 (r_int ⟨_, .str (S r), .inr (SqT.of htc), at2, ra_nil ⟨m, t, p, cf x, r, ol, rfl, hT, h1, tr, fun q H1 s1 hq => ?_⟩⟩))))))))
    refine rb_one (rs_ret (r_tup (ra_cons (r_ge (r_ix (r_var 4 (r_int ⟨_, .int (lowF m (cf x) r ol), .inr (SqT.of hq), at0, r_ix (r_var 0 (r_int ⟨_, .int b, .inr (SqT.of (s1 _ _ htc)), at3, ge_ii (ra_cons (r_var 4 (ra_nil ⟨by show 2 ≤ sizeLine; decide, fun q5 hq5 => ?_⟩)))⟩))⟩)))))))
    exact k q5 _ _ (s1.trans (same_new hq5)) upd_same (.tup (SqT.of (same_new hq5 _ _ hq)) (.cons (.int _) (.cons (.int _) .nil)))
  | alike x' y =>
    cases hz
    refine b_no (b := decide (V.str "alike" = V.str "kept")) (by decide +kernel) (rb_nil ?_)
    refine rb_cons (rs_if (rt_eq hr.units (r_ix (r_var 0 (r_int ⟨_, .str "alike", .inr (SqT.of htc), at0, r_str ⟨rfl, ?_⟩⟩)))))
    refine b_no (b := decide (V.str "alike" = V.str "at least")) (by decide +kernel) (rb_nil ?_)
    obtain ⟨t2, ht2, hT2, hS2⟩ := hn y (by simp [Clm.names])
    refine rb_cons (rs_set 5 sc_answer_to.nd (r_call (h_first_unlike e) hr (ra_cons (r_var 2 (ra_cons (r_dix hr.units (r_var 1 (gv rfl (r_ix (r_var 0 (r_int ⟨_, .str y, .inr (SqT.of htc), at2, d, _, Sum.inr y, .ref t2, rfl, hd, rfl, by rw [valV_sh, ht2]; rfl, ra_nil ⟨m, t, t2, p, cf x, cf y, sf x, sf y, rfl, hT, hT2, hS, hS2, fun H1 s1 => ?_⟩⟩)))))))))))
    have hk := k
    unfold holdsB shownD at hk
    dsimp only at hk
    cases hl : unl (sf x) (sf y) with
    | nil =>
      rw [hl] at hk
      refine rb_cons (rs_if (rt_bool (rw_or (rt_notN0 (r_var 5 ⟨rfl, iteF (rw_or1 (rt_eq hr.units (r_ix (r_var 0 (r_int ⟨_, .str "alike", .inr (SqT.of (s1 _ _ htc)), at0, r_str ⟨rfl, ?_⟩⟩)))))⟩)))))
      refine b_yes (b := decide (V.str "alike" = V.str "alike")) (by decide +kernel) ?_
      exact rb_one (rs_ret (r_tup (ra_cons (r_isN (r_var 5 (gv rfl (ra_cons (r_var 5 (ra_nil ⟨by show 2 ≤ sizeLine; decide, fun q5 hq5 => hk q5 _ _ (s1.trans (same_new hq5)) upd_same .non⟩)))))))))
    | cons i0 is =>
      rw [hl] at hk
      refine rb_cons (rs_if (rt_bool (rw_or (rt_notN1 (r_var 5 ⟨rfl, iteT ?_⟩)))))
      exact rb_one (rs_ret (r_tup (ra_cons (r_isN (r_var 5 (gv rfl (ra_cons (r_var 5 (ra_nil ⟨by show 2 ≤ sizeLine; decide, fun q5 hq5 => hk q5 _ _ (s1.trans (same_new hq5)) upd_same (.int _)⟩)))))))))
end
end My

set_option Elab.async false
set_option pp.maxSteps 1500
set_option linter.all false
set_option maxRecDepth 100000
set_option maxHeartbeats 4000000
/-! S3: {**d, k: v} for a dict of one entry at most -/
namespace My
open PySem PySem.Spec PyProof.Rows L2
section
variable {prog : Program} {w : World} {A : Around} {E : Value → Shared → Prop} {s : Shared} {KT : Type} [DecidableEq KT] {knd : KeyKind prog w KT}
theorem dput_ok {d : Addr} {kvs : List (KT × Value)} {k : KT} {key v : Value} {Q : Unit → Shared → Prop} (hkey : knd.is k key = true) (hm : s.heap.DictOf knd d kvs) (hsz : kvs.length ≤ sizeLine)
    (hQ : ∀ h', h'.DictOf knd d (stored kvs k v) → Heap.SameBut d s.heap h' → Q () { s with heap := h' }) : wpAny (model prog w) A (dictPut d (knd.hash k) key v) Q E s := by
  obtain ⟨o, es, ep, ho, hc, hd, hk, hp, hn⟩ := hm
  have hes : es.size ≤ sizeLine := by
    have e1 := hp.length
    have e2 : es.toList.length = es.size := by simp
    omega
  have hix : (es.findIdx? fun e => knd.is k e.key) = kvs.findIdx? fun kv => decide (kv.1 = k) := by
    rw [← hp.findIdx k]
    obtain ⟨l⟩ := es
    simp
  unfold dictPut
  refine wpAny_bind (wpAny_dictFind_of hkey ho hd hk ?_)
  cases hi : es.findIdx? fun e => knd.is k e.key with
  | some i =>
    have hany := any_of_findIdx_some (hix ▸ hi)
    have hl : (es.toList.findIdx? fun e => knd.is k e.key) = some i := by
      rw [← hi]
      obtain ⟨l⟩ := es
      simp
    refine wpAny_updateDict ho hd (hQ _ ⟨_, _, ep, Heap.get?_update_self _ ho (Obj.isFreed_of_dict (Obj.data_mapDict hd _)), hc.mapDict _, Obj.data_mapDict hd _, hk.modify _ _, ?_, ?_⟩ (Heap.SameBut.update ..))
    · rw [stored, if_pos hany]
      have q := hp.modify hn hl v
      obtain ⟨l⟩ := es
      simpa using q
    · rw [stored, if_pos hany, keys_map_store]
      exact hn
  | none =>
    have hnot : k ∉ kvs.map (·.1) := not_mem_of_findIdx_none (hix ▸ hi)
    have hany : ¬ (kvs.any fun kv => decide (kv.1 = k)) = true := fun q => by
      obtain ⟨kv, hkv, he⟩ := List.any_eq_true.mp q
      exact hnot (List.mem_map.mpr ⟨kv, hkv, of_decide_eq_true he⟩)
    refine wpAny_updateDictKeys (hz := hes) ho hd (hQ _ ⟨_, _, ep + 1, Heap.get?_update_self _ ho (Obj.isFreed_of_dict (Obj.data_mapDictKeys hd _)), hc.mapDictKeys _, Obj.data_mapDictKeys hd _, hk.push hkey _, ?_, ?_⟩ (Heap.SameBut.update ..))
    · rw [stored, if_neg hany]
      have q := hp.append hkey (knd.hash k) v
      obtain ⟨l⟩ := es
      simpa using q
    · rw [stored, if_neg hany, List.map_append, List.nodup_append]
      refine ⟨hn, by simp, fun a ha b hb e => ?_⟩
      have hb' : b = k := by simpa using hb
      exact hnot (by rw [← hb', ← e]; exact ha)
/-- a dict of one entry at most, laid into another -/
theorem merge_ok {d a : Addr} {kvs src : List (KT × Value)} {Q : Unit → Shared → Prop} (hm : s.heap.DictOf knd d kvs) (ha : s.heap.DictOf knd a src) (hne : a ≠ d) (hs : (a == sysModules) = false) (h1 : src.length ≤ 1) (hsz : kvs.length ≤ sizeLine)
    (hQ : ∀ h', h'.DictOf knd d (merged kvs src) → Heap.SameBut d s.heap h' → Q () { s with heap := h' }) : wpAny (model prog w) A (mergeMapping d (.ref a) false) Q E s := by
  obtain ⟨o, es, ep, ho, hc, hd, hk, hp, hn⟩ := ha
  have hT : s.TypeIs (.ref a) "dict" := ⟨_, ho, hc.1⟩
  obtain ⟨o2, es2, ep2, ho2, hc2, hd2, hk2, hp2, hn2⟩ := id hm
  unfold mergeMapping
  refine wpAny_bind (wpAny_isInstance (T := "dict") (U := "dict") (b := true) hT (by rw [isSubtype_type]; kernel_rfl) ?_)
  dsimp only
  rw [if_pos rfl]
  refine wpAny_bind (wpAny_specialOf hT F.slot_dict_iter.lookup (wpAny_bind (wpAny_pure ?_)))
  rw [show ((some (Value.builtin "dict.__iter__") : Option Value) == some (.builtin "dict.__iter__")) = true from rfl]
  dsimp only
  rw [hs, if_neg Bool.false_ne_true]
  refine wpAny_bind (wpAny_dictEntries ho2 hd2 ?_)
  obtain ⟨l⟩ := es
  cases src with
  | nil =>
    obtain rfl : l = [] := by cases hp; rfl
    have fin : wpAny (model prog w) A (do
        let es ← dictEntries a
        let epoch ← dictEpoch a
        forIn (List.range es.size) PUnit.unit fun i __s => do
          let es ← dictEntries a
          match es[i]? with
          | some e => do
            holding [e.key, e.val] (dictPut d e.hash e.key e.val)
            let n ← dictEpoch a
            if (n != epoch) = true then do
              unsupported "dict.changed-during-merge"
              pure (ForInStep.yield PUnit.unit)
            else pure (ForInStep.yield PUnit.unit)
          | x => do
            unsupported "dict.changed-during-merge"
            pure (ForInStep.yield PUnit.unit)
        pure ()) Q E s := by
      refine wpAny_bind (wpAny_dictEntries ho hd (wpAny_bind (wpAny_dictEpoch ho hd (wpAny_bind (wpAny_pure (wpAny_pure ?_))))))
      exact hQ s.heap (by simpa [merged] using hm) (Heap.SameBut.refl _ _)
    simp only [Bool.false_eq_true, if_false]
    split
    · refine wpAny_bind (wpAny_dictEntries ho hd (wpAny_bind (wpAny_pure ?_)))
      exact fin
    · exact fin
  | cons kv src =>
    obtain rfl : src = [] := by cases src with | nil => rfl | cons _ _ => simp at h1
    obtain ⟨e, rfl, hk1, hv1⟩ : ∃ e, l = [e] ∧ knd.is kv.1 e.key = true ∧ e.val = kv.2 := by
      cases hp with
      | cons q1 q2 q3 =>
        cases q3
        exact ⟨_, rfl, q1, q2⟩
    have hh : e.hash = knd.hash kv.1 := by
      obtain ⟨k', q1, q2⟩ := hk e (by simp)
      rw [q2, knd.inj e.key k' kv.1 q1 hk1]
    have fin : wpAny (model prog w) A (do
        let es ← dictEntries a
        let epoch ← dictEpoch a
        forIn (List.range es.size) PUnit.unit fun i __s => do
          let es ← dictEntries a
          match es[i]? with
          | some e => do
            holding [e.key, e.val] (dictPut d e.hash e.key e.val)
            let n ← dictEpoch a
            if (n != epoch) = true then do
              unsupported "dict.changed-during-merge"
              pure (ForInStep.yield PUnit.unit)
            else pure (ForInStep.yield PUnit.unit)
          | x => do
            unsupported "dict.changed-during-merge"
            pure (ForInStep.yield PUnit.unit)
        pure ()) Q E s := by
      refine wpAny_bind (wpAny_dictEntries ho hd (wpAny_bind (wpAny_dictEpoch ho hd ?_)))
      rw [show List.range ((⟨[e]⟩ : Array DictEntry).size) = [0] from rfl, List.forIn_cons]
      refine wpAny_bind (wpAny_bind (wpAny_bind (wpAny_dictEntries ho hd ?_)))
      rw [show (⟨[e]⟩ : Array DictEntry)[0]? = some e from rfl]
      dsimp only
      rw [hh]
      refine wpAny_bind (wpAny_holding (dput_ok hk1 hm hsz fun h' hm' hs' => ?_))
      refine wpAny_bind (wpAny_dictEpoch ((hs'.2 a hne).trans ho) hd ?_)
      rw [if_neg (show ¬ ((ep != ep) = true) by simp)]
      refine wpAny_pure (wpAny_pure (wpAny_pure ?_))
      rw [hv1] at hm'
      exact hQ h' (by simpa [merged] using hm') hs'
    simp only [Bool.false_eq_true, if_false]
    split
    · refine wpAny_bind (wpAny_dictEntries ho hd (wpAny_bind ?_))
      have hb := knd.byValue _ _ hk1
      rw [← Array.forIn_toList, List.forIn_cons]
      obtain ⟨eh, ek, ev⟩ := e
      cases ek <;> first
        | (exact absurd hb Bool.false_ne_true)
        | exact wpAny_bind (wpAny_pure (wpAny_pure fin))
    · exact fin
end
end My
set_option Elab.async false
set_option pp.maxSteps 3000
set_option linter.all false
set_option maxRecDepth 100000
set_option maxHeartbeats 4000000
/-! S4: {**d, k: v} as a rule -/
namespace My
open PySem PySem.Spec PyProof.Rows L2
section
variable {X : Cx} {σ : L2.St} {H : Hy} {Q : VK} {pos : Pos} {e k v : Expr}
theorem r_dstar (h : ∀ p, H p = none → RE X e σ (upd H p (.dK [])) fun x H1 => ∃ a kvs, x = .ref a ∧ H1 a = some (.dK kvs) ∧ a ≠ p ∧ H1 p = some (.dK []) ∧ kvs.length ≤ 1 ∧ ∀ q, upd H1 p (.dK (mergeK [] kvs)) q = none → q ≠ p →
      RE X k σ (upd (upd H1 p (.dK (mergeK [] kvs))) q (.dK [])) fun y H3 => RE X v σ H3 fun z H4 => ∃ key, y = kV key ∧ H4 q = some (.dK []) ∧ H4 p = some (.dK (mergeK [] kvs)) ∧ Q (.ref p) (upd (upd H4 q (.dK (mergeK [] [(key, z)]))) p (.dK (putK (mergeK [] kvs) key z)))) :
    RE X (.Dict [none, some k] [e, v] pos) σ H Q := by
  refine ⟨fun σ H Q => ∀ p, H p = none → RE X e σ (upd H p (.dK [])) fun x H1 => ∃ a kvs, x = .ref a ∧ H1 a = some (.dK kvs) ∧ a ≠ p ∧ H1 p = some (.dK []) ∧ kvs.length ≤ 1 ∧ ∀ q, upd H1 p (.dK (mergeK [] kvs)) q = none → q ≠ p →
      RE X k σ (upd (upd H1 p (.dK (mergeK [] kvs))) q (.dK [])) fun y H3 => RE X v σ H3 fun z H4 => ∃ key, y = kV key ∧ H4 q = some (.dK []) ∧ H4 p = some (.dK (mergeK [] kvs)) ∧ Q (.ref p) (upd (upd H4 q (.dK (mergeK [] [(key, z)]))) p (.dK (putK (mergeK [] kvs) key z))), ⟨fun pins s σ H Q I h => ?_⟩, h⟩
  rw [arm_eval_Dict]
  refine wpAny_bind (wpAny_standAt ?_)
  show wpAny _ _ (dictDisplay [(none, do let x ← eval e X.env; standAt pos; pure x), (some (eval k X.env), do let x ← eval v X.env; standAt pos; pure x)]) _ _ _
  unfold dictDisplay
  dsimp only
  rw [List.forIn_cons]
  dsimp only
  refine wpAny_bind (wpAny_bind (wpAny_bind ?_))
  rw [if_pos (show ([] : List (Sem Value × Sem Value)).isEmpty = true from rfl)]
  refine wpAny_pure (wpAny_bind (wpAny_bind (wpAny_alloc (wpAny_pure ?_))))
  have hn := I.hok.fresh (Nat.le_refl s.heap.objs.size)
  have I1 := I.laid (a := s.heap.objs.size) (o := .dK []) (h' := s.heap.push { cls := .type "dict", data := .dict #[] }) (t' := s.toks) (fun _ _ q => Heap.get?_push_of_some _ q) (Nat.le_refl _) (dk_empty s.heap I.big)
  generalize s.heap.objs.size = p at hn I1 ⊢
  refine wpAny_bind (wpAny_holding (wpAny_bind (thn (pRE.run pins _ σ _ _ I1 (h p hn)) fun u s1 hq => ?_)))
  obtain ⟨x, H1, I2, rx, a, kvs, ex, ha, hap, hp, h1, hq⟩ := hq
  subst ex
  obtain rfl : u = Value.ref a := rx
  refine wpAny_bind (wpAny_standAt (wpAny_pure ?_))
  obtain ⟨z0, hd0, vs0, r0, dd0⟩ := dk_of I2.hok hp
  cases r0
  obtain ⟨za, hda, vsa, ra, dda⟩ := dk_of I2.hok ha
  refine wpAny_bind (wpAny_onRaise (wpAny_tryCatch (wpAny_onRaise (wpAny_holding (merge_ok dd0 dda hap hda (by rw [← ra.length]; exact h1) (Nat.zero_le _) fun h2 dd2 hs2 => wpAny_pure ?_)))))
  have hz1 : (mergeK [] kvs).length ≤ sizeLine := by
    have g1 := length_mergeK kvs []
    rw [List.length_nil] at g1
    rw [sizeLine_eq]; omega
  have I3 := d_write (t' := s1.toks) I2 (by rw [hp]; exact True.intro) hs2 (let ⟨q, _, _, hq, _⟩ := dd2; ⟨q, hq⟩) (dk_new hz1 hd0 (ra.merge .nil) dd2)
  dsimp only
  rw [List.forIn_cons]
  dsimp only
  refine wpAny_bind ?_
  show wpAny _ _ (pure (ForInStep.yield (some p, [] ++ [(eval k X.env, _)]))) _ _ _
  refine wpAny_pure ?_
  dsimp only
  rw [List.forIn_nil]
  refine wpAny_pure ?_
  dsimp only
  refine wpAny_bind ?_
  show wpAny _ _ (holding [.ref p] (subDict [(eval k X.env, _)]) >>= _) _ _ _
  have hnq := I3.hok.fresh (Nat.le_refl h2.objs.size)
  have I4 := I3.laid (a := h2.objs.size) (o := .dK []) (h' := h2.push { cls := .type "dict", data := .dict #[] }) (t' := s1.toks) (fun _ _ q => Heap.get?_push_of_some _ q) (Nat.le_refl _) (dk_empty h2 I3.big)
  have hqp : h2.objs.size ≠ p := fun z => by rw [z, upd_same] at hnq; cases hnq
  refine wpAny_bind (wpAny_holding (wpAny_subDict (knd := mixKind X.prog X.w) (by show (1 : Nat) ≤ 15; decide) ?_))
  show wpAny _ _ (evalPairs [(eval k X.env, do let x ← eval v X.env; standAt pos; pure x)]) _ _ { s1 with heap := h2.push { cls := .type "dict", data := .dict #[] } }
  show wpAny _ _ _ (fun vs s2 => ∃ kvs, Carries (mixKind X.prog X.w) vs kvs ∧ s2.heap.DictOf (mixKind X.prog X.w) h2.objs.size [] ∧ ∀ h', h'.DictOf (mixKind X.prog X.w) h2.objs.size (merged [] kvs) → Heap.SameBut h2.objs.size s2.heap h' → _) _ _
  generalize h2.objs.size = q at hnq I4 hqp ⊢
  refine evalPairs_cons (thn (pRE.run pins _ σ _ _ I4 (hq q hnq hqp)) fun uk s2 ⟨y, H3, I5, ry, hq2⟩ => ?_)
  refine wpAny_bind (thn (pRE.run pins _ σ _ _ I5 hq2) fun uv s3 ⟨z, H4, I6, rz, key, ey, e1, e2, fin⟩ => wpAny_bind (wpAny_standAt (wpAny_pure (evalPairs_nil ?_))))
  subst ey
  obtain ⟨rs, cr, kr⟩ := carries_of (P := X.prog) (w := X.w) (kvs := [(key, z)]) (ws := [(uk, uv)]) (.cons ⟨ry, rz⟩ .nil)
  obtain ⟨zq, hdq, vsq, rq, ddq⟩ := dk_of I6.hok e1
  cases rq
  refine ⟨rs, cr, ddq, fun h4 dd4 hs4 => ?_⟩
  have hz2 : (mergeK [] [(key, z)]).length ≤ sizeLine := by
    have g1 := length_mergeK [(key, z)] []
    rw [sizeLine_eq]
    simp only [List.length_nil, List.length_cons] at g1
    omega
  have I7 := d_write (t' := s3.toks + [(uk, uv)].length) I6 (by rw [e1]; exact True.intro) hs4 (let ⟨q, _, _, hq, _⟩ := dd4; ⟨q, hq⟩) (dk_new hz2 hdq (kr.merge .nil) dd4)
  have e3 : upd H4 q (.dK (mergeK [] [(key, z)])) p = some (.dK (mergeK [] kvs)) := by rw [upd_ne (Ne.symm hqp)]; exact e2
  obtain ⟨zp, hdp, vsp, rp, ddp⟩ := dk_of I7.hok e3
  have lrs : rs.length = 1 := by rw [← kr.length]; rfl
  have hkl := length_mergeK kvs []
  rw [List.length_nil] at hkl
  have ddq2 : h4.DictOf (mixKind X.prog X.w) q rs := by
    have := dd4
    cases rs with
    | nil => cases lrs
    | cons r rs =>
      obtain rfl : rs = [] := by cases rs with | nil => rfl | cons _ _ => simp at lrs
      exact this
  refine wpAny_bind (wpAny_onRaise (wpAny_holding (merge_ok ddp ddq2 hqp hdq (by omega) (by rw [← rp.length]; exact zp) fun h5 dd5 hs5 => wpAny_pure (wpAny_pure ?_))))
  have hz3 : (putK (mergeK [] kvs) key z).length ≤ sizeLine := by
    have g2 := length_putK (mergeK [] kvs) key z
    rw [sizeLine_eq]; omega
  exact ⟨.ref p, _, d_write (t' := s3.toks + [(uk, uv)].length) I7 (by rw [e3]; exact True.intro) hs5 (let ⟨q, _, _, hq, _⟩ := dd5; ⟨q, hq⟩) (dk_new hz3 hdp (kr.merge rp) dd5), rfl, fin⟩
end
end My
set_option Elab.async false
set_option pp.maxSteps 1500
set_option linter.all false
set_option maxRecDepth 100000
set_option maxHeartbeats 4000000
/-! X5: defs that may let Broken out; desks.py: check_claims -/
namespace My
open PySem PySem.Spec PyProof.Rows L2 TL
/-- a def that may raise: the exception's context is None -/
structure HasX (P : Program) (w : World) (K : PySem.W.Frag) (mg : Str → Option Value) (base : Heap) (k : Nat) (x : Str) (ps : List Str) (sp : Sp) : Prop where
  ex : ∃ f fd, mg x = some (.ref f) ∧ PySem.W.keepIn K (.ref f) = true ∧ Binds K fd ps [] ∧ FnOk P w K mg base (L2N.CX P w) k f fd ps sp
structure HasMX (P : Program) (w : World) (K : PySem.W.Frag) (mg : Str → Option Value) (base : Heap) (k : Nat) (f : Addr) (ps : List Str) (sp : Sp) : Prop where
  ex : ∃ fd, Binds K fd ps [] ∧ FnOk P w K mg base (L2N.CX P w) k f fd ps sp
abbrev cxX (P : Program) (w : World) (K : PySem.W.Frag) (mg : Str → Option Value) (base : Heap) (N : List Str) (d : He.DefD) (cdv : Value) (A : Around) (outer : List Env) (s : Shared) (H : Hy) (E : XK) : Cx := cxOf (L2N.CX P w) P w K mg base N d.qual d.scope (He.fAd K d.at_) cdv A outer s H E
section
variable {P : Program} {w : World} {K : PySem.W.Frag} {mg : Str → Option Value} {base : Heap}
theorem mk_okX {d : He.DefD} {fd : FuncData} {N ps : List Str} {sp : Sp} {k : Nat} (F : FD K d fd) (S : FnScope N ps d.scope) (len : ∀ vs H Q E, sp vs H Q E → vs.length = ps.length)
    (body : ∀ (cdv : Value) (A : Around) (outer : List Env) (s : Shared) (H : Hy) (vs : List V) (Q : VK) (E : XK), Room k (A.deeper (envOfC d.qual d.scope s.heap.objs.size (He.fAd K d.at_) cdv)) → Passes (L2N.CX P w) (cxX P w K mg base N d cdv A outer s H E) E →
      L2N.Takes (cxX P w K mg base N d cdv A outer s H E) (fun cls d _ H => E cls d H) → sp vs H Q E → RB (cxX P w K mg base N d cdv A outer s H E) d.body { nx := fun _ H' => Q .non H', rt := Q } (start N vs) H) : FnOk P w K mg base (L2N.CX P w) (k + 1) (He.fAd K d.at_) fd ps sp :=
  F.ok S len fun cdv A outer s H vs Q E hr h => body cdv A outer s H vs Q E hr (L2N.passes_call (L2N.takes_of rfl rfl rfl rfl) fun _ _ _ _ h => h) (L2N.takes_of rfl rfl rfl rfl) h
theorem mk_hasX {d : He.DefD} {N ps : List Str} {sp : Sp} {k : Nat} (g : mg d.name = some (.ref (He.fAd K d.at_))) (F : ∃ fd, FD K d fd) (S : FnScope N ps d.scope)
    (hb : ∀ (kV doc pm : Value) (an : Option Addr) (cdv ct : Value) (us : List Value), us.length = ps.length → bindArgs (PySem.W.fnOf d.name d.qual d.params d.body d.scope .none kV doc pm an cdv ct) ⟨us, []⟩ = pure (ps.zip us)) (len : ∀ vs H Q E, sp vs H Q E → vs.length = ps.length)
    (body : ∀ (cdv : Value) (A : Around) (outer : List Env) (s : Shared) (H : Hy) (vs : List V) (Q : VK) (E : XK), Room k (A.deeper (envOfC d.qual d.scope s.heap.objs.size (He.fAd K d.at_) cdv)) → Passes (L2N.CX P w) (cxX P w K mg base N d cdv A outer s H E) E →
      L2N.Takes (cxX P w K mg base N d cdv A outer s H E) (fun cls d _ H => E cls d H) → sp vs H Q E → RB (cxX P w K mg base N d cdv A outer s H E) d.body { nx := fun _ H' => Q .non H', rt := Q } (start N vs) H) : HasX P w K mg base (k + 1) d.name ps sp := by
  obtain ⟨fd, F⟩ := F
  exact ⟨_, fd, g, F.kp, F.bindsN hb, mk_okX F S len body⟩
theorem mk_hasMX {d : He.DefD} {N ps : List Str} {sp : Sp} {k : Nat} (F : ∃ fd, FD K d fd) (S : FnScope N ps d.scope)
    (hb : ∀ (kV doc pm : Value) (an : Option Addr) (cdv ct : Value) (us : List Value), us.length = ps.length → bindArgs (PySem.W.fnOf d.name d.qual d.params d.body d.scope .none kV doc pm an cdv ct) ⟨us, []⟩ = pure (ps.zip us)) (len : ∀ vs H Q E, sp vs H Q E → vs.length = ps.length)
    (body : ∀ (cdv : Value) (A : Around) (outer : List Env) (s : Shared) (H : Hy) (vs : List V) (Q : VK) (E : XK), Room k (A.deeper (envOfC d.qual d.scope s.heap.objs.size (He.fAd K d.at_) cdv)) → Passes (L2N.CX P w) (cxX P w K mg base N d cdv A outer s H E) E →
      L2N.Takes (cxX P w K mg base N d cdv A outer s H E) (fun cls d _ H => E cls d H) → sp vs H Q E → RB (cxX P w K mg base N d cdv A outer s H E) d.body { nx := fun _ H' => Q .non H', rt := Q } (start N vs) H) : HasMX P w K mg base (k + 1) (He.fAd K d.at_) ps sp := by
  obtain ⟨fd, F⟩ := F
  exact ⟨fd, F.bindsN hb, mk_okX F S len body⟩
theorem passN {X : Cx} : Passes (L2N.CX X.prog X.w) X E0 := fun _ _ _ _ _ _ _ h => by
  obtain ⟨_, _, _, _, _, _, _, _, _, _, _, _, q⟩ := h
  exact q.elim
end
section
variable {X : Cx} {σ : L2.St} {H : Hy} {Q : VK} {D : Ends} {pos p p2 apos : Pos} {e o : Expr} {es : List Expr} {k : Nat} {x m : Str} {ps : List Str} {sp : Sp} {C f : Addr} {E : XK}
theorem r_callX {j : Nat} (F : HasX X.prog X.w X.K X.mg X.base k x ps sp) (hr : Room j X.A) (hx : Passes (L2N.CX X.prog X.w) X E) (h : RA X (e :: es) σ H fun vs H1 => sp vs H1 Q E) (hg : Gl X x := by rfl) (hdb : (x == ("__debug__" : Str)) = false := by decide)
    (he : starEach (e :: es) X.env = (false, eval e X.env) :: starEach es X.env := by rfl) (hpl : (backTo pos (starEach es X.env)).any (·.1) = false := by rfl) (hj : k ≤ j := by decide) : RE X (.Call (.Name x p) (e :: es) [] pos) σ H Q := by
  obtain ⟨f, fd, g, kp, b, F⟩ := F.ex
  exact ⟨_, pe_call F (hr.mono hj) hg g kp b .nil hx pRA hdb he hpl, h.mono fun vs H' q => by rw [List.append_nil]; exact q⟩
theorem r_methX {j : Nat} (c : Cls X.K C) (hm : Meth X.K C m f) (F : HasMX X.prog X.w X.K X.mg X.base k f ps sp) (hr : Room j X.A) (hx : Passes (L2N.CX X.prog X.w) X E)
    (h : RE X o σ H fun x H1 => ∃ a dx fs, x = .ref a ∧ H1 a = some (.ins C dx fs) ∧ fs.lookup m = none ∧ RA X (e :: es) σ H1 fun vs H2 => sp (x :: vs) H2 Q E)
    (hst : starEach (e :: es) X.env = (false, eval e X.env) :: starEach es X.env := by rfl) (hpl : (backTo pos (starEach es X.env)).any (·.1) = false := by rfl) {pl : Sem Bool}
    (ht : eval (.Call (.Attribute o m apos) (e :: es) [] pos) X.env = (do
      let ov ← eval o X.env
      standAt apos.atName
      let (f, first) ← holding [ov] (getMethod ov m pl)
      callWith pos f first (backTo pos (starEach (e :: es) X.env)) (backToKw pos (keywordEach [] X.env))) := by rfl) (hj : k ≤ j := by decide) : RE X (.Call (.Attribute o m apos) (e :: es) [] pos) σ H Q := by
  obtain ⟨fd, b, F⟩ := F.ex
  refine ⟨_, pe_meth pRE c hm F (hr.mono hj) b .nil hx pRA hst hpl ht, h.mono fun x H1 q => ?_⟩
  obtain ⟨a, dx, fs, h1, h2, h3, q⟩ := q
  exact ⟨a, dx, fs, h1, h2, h3, q.mono fun vs H2 q2 => by rw [List.append_nil]; exact q2⟩
/-- try: body / except ..: the body raises nothing -/
theorem rs_try_thru {body : List Stmt} {h₀ : ExceptHandler} {hs : List ExceptHandler} (h : RB X.nox body D σ H) : RS X (.Try body (h₀ :: hs) [] [] pos) D σ H := ⟨_, ps_try_thru0 pRB, h⟩
end
/-- the claims of a desk: none, or one -/
def CkAt (K : PySem.W.Frag) (H : Hy) (p : Addr) (m : MD) (ol : List Pr) (cf : Str → List CT) (sf : Str → List (List CT)) (sh : List ShE) (cl : List V) : Option Clm → Prop
  | none => cl = []
  | some c => ∃ tc, cl = [.ref tc] ∧ H tc = some (.tup c.v) ∧ Tree m ol ∧ c.ok m ∧ ∀ x ∈ c.names, ShOk K H p m cf sf sh x
theorem CkAt.ext {K : PySem.W.Frag} {H H' : Hy} {p : Addr} {m : MD} {ol : List Pr} {cf : Str → List CT} {sf : Str → List (List CT)} {sh : List ShE} {cl : List V} {oc : Option Clm} (h : CkAt K H p m ol cf sf sh cl oc) (s : Same H H') : CkAt K H' p m ol cf sf sh cl oc := by
  cases oc with
  | none => exact h
  | some c =>
    obtain ⟨tc, h1, h2, h3, h4, h5⟩ := h
    exact ⟨tc, h1, s _ _ h2, h3, h4, fun x hx => (h5 x hx).ext s⟩
def ckB (m : MD) (ol : List Pr) (cf : Str → List CT) (sf : Str → List (List CT)) : Option Clm → Bool
  | none => true
  | some c => holdsB m ol cf sf c
def ckD (m : MD) (ol : List Pr) (cf : Str → List CT) (sf : Str → List (List CT)) : Option Clm → PyData
  | none => .none
  | some c => shownD m ol cf sf c
/-- what Broken keeps -/
def BrkAt (K : PySem.W.Frag) (H : Hy) (dd : Addr) (d : PyData) : Prop := ∃ sv, H dd = some (.xd [("shown", sv), ("index", .int 0)]) ∧ Dp K H sv d
def sp_check_claims (K : PySem.W.Frag) : Sp := fun vs H Q E => ∃ (m : MD) (p t d : Addr) (ol : List Pr) (cf : Str → List CT) (sf : Str → List (List CT)) (sh : List ShE) (cl : List V) (oc : Option Clm), vs = [.ref t, .ref d] ∧ H t = some (.tup cl) ∧ H d = some (.dK (sh.map shV)) ∧ CkAt K H p m ol cf sf sh cl oc ∧
  (ckB m ol cf sf oc = true → ∀ H', Same H H' → Q .non H') ∧ (ckB m ol cf sf oc = false → ∀ dd H', Same H H' → BrkAt K H' dd (ckD m ol cf sf oc) → E (.ref (He.ga K "Broken")) (some dd) H')
section
variable {P : Program} {w : World} {K : PySem.W.Frag} {mg : Str → Option Value} {base : Heap}
theorem sc_check_claims : FnScope ["claims", "shelf", "index", "claim", "is_so", "shown", "e"] ["claims", "shelf"] (defScope s_check_claims) := ⟨rfl, rfl, rfl, by decide +kernel, rfl, by decide +kernel, by decide +kernel⟩
theorem h_check_claims (e : EV w K mg base) (B : BrkC K (He.ga K "Broken")) : HasX P w K mg base 8 "check_claims" ["claims", "shelf"] (sp_check_claims K) := by
  refine mk_hasX (d := d_check_claims) e.g_check_claims e.f_check_claims sc_check_claims (fun _ _ _ _ _ _ us hl => match us, hl with | [_, _], _ => rfl) (fun vs H Q E h => by obtain ⟨_, _, _, _, _, _, _, _, _, _, rfl, _⟩ := h; rfl) (fun cdv A outer s H vs Q E hr hx tk h => ?_)
  obtain ⟨m, p, t, d, ol, cf, sf, sh, cl, oc, rfl, ht, hd, hc, kt, kf⟩ := h
  refine rb_one (rs_for (passes_of rfl) (ri_enum e.z_enumerate (ra_cons (r_var 0 (ra_nil ⟨_, _, rfl, srcV_tup (.inl ht), fun u => ?_⟩)))))
  cases oc with
  | none =>
    obtain rfl : cl = [] := hc
    refine rfor_it (walk_E (Src.tup t [])) (fun i σ' H' => Same H H') (Same.refl _) (fun i σ' H' _ q => .inl (q _ _ ht)) (fun i x σ' H' H'' hi _ _ => absurd hi (Nat.not_lt_zero _)) (fun σ' H' q => kt rfl _ q)
  | some c =>
    obtain ⟨tc, rfl, htc, tr, hok, hn⟩ := hc
    refine rfor_it (walk_E (Src.tup t [.ref tc])) (fun i σ' H' => Same H H' ∧ (0 < i → ckB m ol cf sf (some c) = true) ∧ ∃ (v2 v3 v4 v5 v6 : Option V), σ' = [some (.ref t), some (.ref d), v2, v3, v4, v5, v6]) ⟨Same.refl _, fun h => absurd h (Nat.lt_irrefl _), _, _, _, _, _, rfl⟩ (fun i σ' H' _ q => .inl (q.1 _ _ ht)) ?_ (fun σ' H' q => kt (q.2.1 Nat.one_pos) _ q.1)
    rintro i x σ' H2 H3 hi ⟨s2, _, v2, v3, v4, v5, v6, rfl⟩ ⟨T, y, rfl, hT, rfl, hy⟩
    obtain rfl : i = 0 := by
      have : i < 1 := hi
      omega
    obtain rfl : V.ref tc = y := Option.some.inj hy
    have sT := fun o => same_new (o := o) hT
    have s3 := s2.trans (sT (.tup [.int (0 : Nat), .ref tc]))
    refine rg_tup ⟨T, _, rfl, SqT.of upd_same, rfl, rgs_cons (rg_name 2 sc_check_claims.nd (rgs_cons (rg_name 3 sc_check_claims.nd (rgs_nil ?_))))⟩
    refine rb_cons (rs_try_thru (rb_one (rs_asg (r_call (h_answer_to e) hr (ra_cons (r_var 3 (ra_cons (r_var 1 (ra_nil ⟨m, p, tc, d, c, sh, ol, cf, sf, rfl, s3 _ _ htc, s3 _ _ hd, tr, hok, fun x hx => (hn x hx).ext s3, fun q H4 sv s4 hq hsv => ?_⟩)))))))))
    refine rg_tup ⟨q, _, rfl, SqT.of hq, rfl, rgs_cons (rg_name 4 sc_check_claims.nd (rgs_cons (rg_name 5 sc_check_claims.nd (rgs_nil ?_))))⟩
    refine rb_one (rs_if (rt_not (rt_val (r_var 4 (gv rfl ?_)))))
    cases hb : holdsB m ol cf sf c with
    | true =>
      refine b_no (b := !true) rfl ?_
      exact rb_nil ⟨s3.trans s4, fun _ => hb, _, _, _, _, _, rfl⟩
    | false =>
      refine b_yes (b := !false) rfl ?_
      refine rb_one (rs_broken e B rfl tk (hr.mono (by decide)) (ra_cons (r_var 2 (ra_cons (r_var 5 (ra_nil ⟨_, _, rfl, fun dd H5 s5 hdd hx5 => ?_⟩))))))
      exact kf hb dd H5 (s3.trans (s4.trans s5)) ⟨sv, hx5, My.Dp.ext s5 hsv⟩
end
end My

set_option Elab.async false
set_option pp.maxSteps 1500
set_option linter.all false
set_option maxRecDepth 100000
set_option maxHeartbeats 4000000
/-! X6: desks.py: cover, claim, __setitem__ -/
namespace My
open PySem PySem.Spec PyProof.Rows L2 TL
def sp_Desk_cover (K : PySem.W.Frag) : Sp := fun vs H Q E => ∃ (m : MD) (k p t d : Addr) (ol : List Pr) (cf : Str → List CT) (sf : Str → List (List CT)) (sh0 sh : List ShE) (cl0 cl : List V) (oc : Option Clm), vs = [.ref k, .ref d, .ref t] ∧ DeskAt K H k p sh0 cl0 ∧ H t = some (.tup cl) ∧ H d = some (.dK (sh.map shV)) ∧ CkAt K H p m ol cf sf sh cl oc ∧
  (ckB m ol cf sf oc = true → ∀ H', Keep k H H' → DeskAt K H' k p sh cl → Q .non H') ∧ (ckB m ol cf sf oc = false → ∀ dd H', Same H H' → BrkAt K H' dd (ckD m ol cf sf oc) → E (.ref (He.ga K "Broken")) (some dd) H')
def sp_Desk_claim (K : PySem.W.Frag) : Sp := fun vs H Q E => ∃ (m : MD) (k p tc : Addr) (c : Clm) (ol : List Pr) (cf : Str → List CT) (sf : Str → List (List CT)) (sh : List ShE), vs = [.ref k, .ref tc] ∧ DeskAt K H k p sh [] ∧ ModAt K H p m ∧ H tc = some (.tup c.v) ∧ Tree m ol ∧ c.ok m ∧ (∀ x ∈ c.names, ShOk K H p m cf sf sh x) ∧
  (holdsB m ol cf sf c = true → ∀ H' v, Keep k H H' → DeskAt K H' k p sh [v] → Q .non H') ∧ (holdsB m ol cf sf c = false → ∀ dd H', Same H H' → BrkAt K H' dd (shownD m ol cf sf c) → E (.ref (He.ga K "Broken")) (some dd) H')
def sp_Desk_setitem (K : PySem.W.Frag) : Sp := fun vs H Q _ => ∃ (m : MD) (k p tb : Addr) (x : Str) (cs : List CT) (sh : List ShE), vs = [.ref k, .str x, .ref tb] ∧ (x = "mine" ∨ x = "other") ∧ DeskAt K H k p sh [] ∧ TabAt K H tb p m cs ∧ sh.length ≤ 1 ∧ shGet sh x = none ∧
  ∀ H', Keep k H H' → DeskAt K H' k p (sh ++ [(x, tb)]) [] → Q .non H'
section
variable {P : Program} {w : World} {K : PySem.W.Frag} {mg : Str → Option Value} {base : Heap}
theorem sc_Desk_cover : FnScope ["self", "shelf", "told"] ["self", "shelf", "told"] (defScope s_Desk_cover) := ⟨rfl, rfl, rfl, by decide +kernel, rfl, by decide +kernel, by decide +kernel⟩
theorem h_Desk_cover (e : EV w K mg base) (B : BrkC K (He.ga K "Broken")) : HasMX P w K mg base 9 (He.fAd K d_Desk_cover.at_) ["self", "shelf", "told"] (sp_Desk_cover K) := by
  refine mk_hasMX (d := d_Desk_cover) e.f_Desk_cover sc_Desk_cover (fun _ _ _ _ _ _ us hl => match us, hl with | [_, _, _], _ => rfl) (fun vs H Q E h => by obtain ⟨_, _, _, _, _, _, _, _, _, _, _, _, _, rfl, _⟩ := h; rfl) (fun cdv A outer s H vs Q E hr hx tk h => ?_)
  obtain ⟨m, k0, p, t, d, ol, cf, sf, sh0, sh, cl0, cl, oc, rfl, hk, ht, hd, hc, kt, kf⟩ := h
  obtain ⟨dx, fs, l, d0, t0, h1, h2, h3, hfs, h4, h5, h6⟩ := hk.at_
  refine rb_cons (rs_expr (r_callX (h_check_claims e B) hr hx (ra_cons (r_var 2 (ra_cons (r_var 1 (ra_nil ⟨m, p, t, d, ol, cf, sf, sh, cl, oc, rfl, ht, hd, hc, fun hb H1 s1 => ?_, kf⟩)))))))
  refine rb_one (rs_fld (r_make e.k_Layer (h_Layer_init e) hr e.g_Layer (ra_cons (r_var 1 (ra_cons (r_var 2 (ra_cons (r_fld (r_var 0 ⟨k0, _, dx, _, _, rfl, s1 _ _ h1, e.c_Desk, e.n_Desk_layer, h3, ra_nil fun y yx hy hyx hne => ⟨y, yx, d, t, .ref l, rfl, upd_same, .inr ⟨l, d0, t0, rfl, ?_, ?_⟩, fun H2 k2 hlay => ⟨rfl, ?_⟩⟩⟩)))))))))
  · exact (h4.ext s1).ext (same_made hy hyx)
  · obtain ⟨ldx, lfs, n, l1, _⟩ := h4.at_
    exact ne_of_none (s1 _ _ l1) hy
  have s3 : Same H H2 := Keep.same (s1.free hy) (s1.trans (same_made hy hyx)) k2
  subst hfs
  refine r_var 0 ⟨k0, _, dx, _, rfl, s3 _ _ h1, e.c_Desk, e.n_Desk_layer, (by show (2 : Nat) < 1000; decide), ?_⟩
  obtain ⟨ydx, yfs, yn, y1, y2, y3, y4⟩ := hlay.at_
  have hyk : y ≠ k0 := (ne_of_none (s1 _ _ h1) hy).symm
  have hd1 := s3 _ _ hd
  have ht1 := s3 _ _ ht
  have hdk : d ≠ k0 := fun z => by rw [z, s3 _ _ h1] at hd1; cases hd1
  have htk : t ≠ k0 := fun z => by rw [z, s3 _ _ h1] at ht1; cases ht1
  exact kt hb _ ((Keep.of s3).trans Keep.upd) ⟨dx, _, y, d, t, upd_same, rfl, rfl, rfl, ⟨ydx, yfs, yn, Keep.upd _ _ hyk y1, y2, y3, y4⟩, Keep.upd _ _ hdk hd1, Keep.upd _ _ htk ht1⟩
theorem sc_Desk_claim : FnScope ["self", "claim", "name"] ["self", "claim"] (defScope s_Desk_claim) := ⟨rfl, rfl, rfl, by decide +kernel, rfl, by decide +kernel, by decide +kernel⟩
theorem h_Desk_claim (e : EV w K mg base) (B : BrkC K (He.ga K "Broken")) : HasMX P w K mg base 10 (He.fAd K d_Desk_claim.at_) ["self", "claim"] (sp_Desk_claim K) := by
  refine mk_hasMX (d := d_Desk_claim) e.f_Desk_claim sc_Desk_claim (fun _ _ _ _ _ _ us hl => match us, hl with | [_, _], _ => rfl) (fun vs H Q E h => by obtain ⟨_, _, _, _, _, _, _, _, _, rfl, _⟩ := h; rfl) (fun cdv A outer s H vs Q E hr hx tk h => ?_)
  obtain ⟨m, k0, p, tc, c, ol, cf, sf, sh, rfl, hk, hm, htc, tr, hok, hn, kt, kf⟩ := h
  obtain ⟨dx, fs, l, d0, t0, h1, h2, h3, hfs, h4, h5, h6⟩ := hk.at_
  obtain ⟨ldx, lfs, ln, l1, l2, l3, l4⟩ := h4.at_
  refine rb_cons (rs_if (rt_not (rt_val (r_call (h_is_claim e) hr (ra_cons (r_fld (r_var 0 ⟨k0, _, dx, _, _, rfl, h1, e.c_Desk, e.n_Desk_model, h2, ra_cons (r_var 1 (ra_nil ⟨m, p, tc, c, rfl, hm, htc, hok, fun H1 s1 => ?_⟩))⟩)))))))
  refine b_no (b := !true) rfl ?_
  refine rb_nil (rb_cons (rs_for (passes_of rfl) (ri_tup (r_call (h_names_of e) hr (ra_cons (r_var 1 (ra_nil ⟨tc, c, rfl, s1 _ _ htc, fun q H2 s2 hq => ⟨q, rfl, ⟨_, SqT.of hq⟩, ?_⟩⟩)))))))
  have s12 := s1.trans s2
  refine rfor_it (walk_tup (xs := c.names.map V.str)) (fun i σ' H' => H' = H2 ∧ ∃ (v2 : Option V), σ' = [some (.ref k0), some (.ref tc), v2]) ⟨rfl, _, rfl⟩ (fun i σ' H' _ z => by rw [z.1]; exact SqT.of hq) ?_ ?_
  · rintro i x σ' H3 H3' hi ⟨rfl, v2, rfl⟩ ⟨rfl, hx'⟩
    obtain ⟨y, hy, rfl⟩ : ∃ y ∈ c.names, x = V.str y := by
      rw [List.getElem?_map] at hx'
      cases q' : c.names[i]? with
      | none => rw [q'] at hx'; cases hx'
      | some y => rw [q'] at hx'; exact ⟨y, List.mem_of_getElem? q', (Option.some.inj hx').symm⟩
    obtain ⟨ty, hty, _⟩ := hn y hy
    exact rg_name 2 sc_Desk_claim.nd (rb_one (rs_expr (r_meth e.c_Desk e.m_Desk_need (h_Desk_need e) hr (r_var 0 (gv rfl ⟨k0, dx, _, rfl, s12 _ _ h1, (by rw [hfs]; rfl), ra_cons (r_var 2 (gv rfl (ra_nil ⟨k0, p, y, sh, [], rfl, hk.ext s12, by rw [hty]; rfl, rfl, _, rfl⟩)))⟩)))))
  · rintro σ' H3 ⟨rfl, v2, rfl⟩
    refine rb_one (rs_expr (r_methX e.c_Desk e.m_Desk_cover (h_Desk_cover e B) hr hx (r_var 0 (gv rfl ⟨k0, dx, _, rfl, s12 _ _ h1, (by rw [hfs]; rfl), ra_cons (r_fld (r_fld (r_var 0 (gv rfl ⟨k0, _, dx, _, _, rfl, s12 _ _ h1, e.c_Desk, e.n_Desk_layer, h3, l, _, ldx, _, _, rfl, s12 _ _ l1, e.c_Layer, e.n_Layer_shelf, l2, ?_⟩))))⟩))))
    refine ra_cons (r_tup (ra_star (r_fld (r_fld (r_var 0 (gv rfl ⟨k0, _, dx, _, _, rfl, s12 _ _ h1, e.c_Desk, e.n_Desk_layer, h3, l, _, ldx, _, _, rfl, s12 _ _ l1, e.c_Layer, e.n_Layer_told, l3, t0, [], rfl, .inl (SqT.of (s12 _ _ h6)), ra_cons (r_var 1 (gv rfl (ra_nil ⟨by show 1 ≤ sizeLine; decide, fun q5 hq5 => ra_nil ?_⟩)))⟩))))))
    have s5 := s12.trans (same_new (o := .tup [.ref tc]) hq5)
    exact ⟨m, k0, p, q5, d0, ol, cf, sf, sh, sh, [], [.ref tc], some c, rfl, hk.ext s5, upd_same, s5 _ _ h5, ⟨tc, rfl, s5 _ _ htc, tr, hok, fun x hx => (hn x hx).ext s5⟩, fun hb H6 k6 hd6 => kt hb H6 _ ((Keep.of s5).trans k6) hd6, fun hb dd H6 s6 hb6 => kf hb dd H6 (s5.trans s6) hb6⟩
end
end My

set_option Elab.async false
set_option pp.maxSteps 1500
set_option linter.all false
set_option maxRecDepth 100000
set_option maxHeartbeats 4000000
/-! X7: desks.py: __setitem__ -/
namespace My
open PySem PySem.Spec PyProof.Rows L2 TL
theorem merge_sh {sh : List ShE} (h : sh.length ≤ 1) : mergeK [] (sh.map shV) = sh.map shV := by
  cases sh with
  | nil => rfl
  | cons a sh =>
    cases sh with
    | nil => rfl
    | cons b sh => simp at h
theorem put_sh {sh : List ShE} {x : Str} {t : Addr} (h : shGet sh x = none) : putK (sh.map shV) (Sum.inr x) (.ref t) = (sh ++ [(x, t)]).map shV := by
  rw [putK_new _ (by rw [valV_sh, h]; rfl), List.map_append]
  rfl
section
variable {P : Program} {w : World} {K : PySem.W.Frag} {mg : Str → Option Value} {base : Heap}
theorem sc_Desk_setitem : FnScope ["self", "name", "table"] ["self", "name", "table"] (defScope s_Desk_setitem) := ⟨rfl, rfl, rfl, by decide +kernel, rfl, by decide +kernel, by decide +kernel⟩
theorem h_Desk_setitem (e : EV w K mg base) (B : BrkC K (He.ga K "Broken")) : HasM P w K mg base 10 (He.fAd K d_Desk_setitem.at_) ["self", "name", "table"] (sp_Desk_setitem K) := by
  refine mk_hasM (d := d_Desk_setitem) e.f_Desk_setitem sc_Desk_setitem (fun _ _ _ _ _ _ us hl => match us, hl with | [_, _, _], _ => rfl) (fun vs H Q E h => by obtain ⟨_, _, _, _, _, _, _, rfl, _⟩ := h; rfl) (fun cdv A outer s H vs Q E hr h => ?_)
  obtain ⟨m, k0, p, tb, x, cs, sh, rfl, hx, hk, hT, hl, hg, k⟩ := h
  obtain ⟨dx, fs, l, d0, t0, h1, h2, h3, hfs, h4, h5, h6⟩ := hk.at_
  obtain ⟨ldx, lfs, ln, l1, l2, l3, l4⟩ := h4.at_
  obtain ⟨tdx, tfs, a, b, us, vs, ss, g1, g2, g3⟩ := hT.at_
  obtain ⟨mdx, mfs, _, _, _, m1, _⟩ := hT.mod.at_
  refine rb_cons (rs_if (rt_not (rt_val (r_call (h_is_word e) hr (ra_cons (r_var 1 (ra_nil ⟨x, rfl, hx, ?_⟩)))))))
  refine b_no (b := !true) rfl ?_
  refine rb_nil (rb_cons (rs_expr (r_call (h_check_table e) hr (ra_cons (r_var 2 (ra_nil ⟨m, tb, p, cs, rfl, hT, ?_⟩))))))
  obtain ⟨fd, bE, F⟩ := (h_Model_eq (P := P) e).ex
  refine rb_cons (rs_if (rt_cmp (op_neOwn F bE (hr.mono (by decide)) hr.units e.o_Model.hm e.ne_Model e.m_Model_eq.at_ e.m_Model_eq.fn) (r_fld (r_var 2 ⟨tb, _, tdx, _, _, rfl, g1, e.c_Table, e.n_Table_model, g2, r_fld (r_var 0 ⟨k0, _, dx, _, _, rfl, h1, e.c_Desk, e.n_Desk_model, h2, p, p, mdx, mfs, mdx, mfs, rfl, rfl, m1, m1, m, p, p, rfl, hT.mod, hT.mod, true, rfl, ?_⟩)⟩))))
  refine b_no (b := !true) rfl ?_
  refine rb_nil (rb_one (rs_expr (r_methX e.c_Desk e.m_Desk_cover (h_Desk_cover e B) hr passN (r_var 0 (gv rfl ⟨k0, dx, _, rfl, h1, (by rw [hfs]; rfl), ra_cons (r_dstar fun q hq => ?_)⟩)))))
  have sq := fun o => same_new (o := o) hq
  refine r_fld (r_fld (r_var 0 (gv rfl ⟨k0, _, dx, _, _, rfl, sq _ _ _ h1, e.c_Desk, e.n_Desk_layer, h3, l, _, ldx, _, _, rfl, sq _ _ _ l1, e.c_Layer, e.n_Layer_shelf, l2, d0, sh.map shV, rfl, sq _ _ _ h5, ?_⟩)))
  refine ⟨ne_of_none h5 hq, upd_same, by rw [List.length_map]; exact hl, fun q2 hq2 hne => r_var 1 (gv rfl (r_var 2 (gv rfl ⟨Sum.inr x, rfl, upd_same, ?_, ?_⟩)))⟩
  · rw [upd_ne (Ne.symm hne)]
    exact upd_same
  rw [merge_sh hl, put_sh hg]
  have hq2H : H q2 = none := by
    rw [upd_ne hne, upd_ne hne] at hq2
    exact hq2
  have sA : ∀ {o1 o2 o3 o4 o5 : HO}, Same H (upd (upd (upd (upd (upd H q o1) q o2) q2 o3) q2 o4) q o5) := fun {o1 o2 o3 o4 o5} b u h => by
    have n1 := ne_of_none h hq
    have n2 := ne_of_none h hq2H
    rw [upd_ne n1, upd_ne n2, upd_ne n2, upd_ne n1, upd_ne n1]
    exact h
  refine ra_cons (r_fld (r_fld (r_var 0 (gv rfl ⟨k0, _, dx, _, _, rfl, sA _ _ h1, e.c_Desk, e.n_Desk_layer, h3, l, _, ldx, _, _, rfl, sA _ _ l1, e.c_Layer, e.n_Layer_told, l3, ra_nil ⟨m, k0, p, t0, q, [], fun _ => [], fun _ => [], sh, sh ++ [(x, tb)], [], [], none, rfl, hk.ext sA, sA _ _ h6, upd_same, rfl, fun _ H3 k3 hd3 => k H3 ((Keep.of sA).trans k3) hd3, fun hb => ?_⟩⟩))))
  cases hb
end
end My

set_option Elab.async false
set_option pp.maxSteps 1500
set_option linter.all false
set_option maxRecDepth 100000
set_option maxHeartbeats 4000000
/-! Y1: while an exception is handled: the end of a list's iterator, loops and comprehensions over lists -/
namespace My
open PySem PySem.Spec PyProof.Rows L2
section
variable {prog : Program} {w : World} {A : Around} {E : Value → Shared → Prop} {s : Shared}
theorem li_end_hot {it l x1 : Addr} {i : Nat} {items : Array Value} {Q : Option Value → Shared → Prop} (hot : HotX.HotAt A x1 s.heap) (hit : s.heap.IsListIter it l i) (hl : s.heap.IsList l items) (hx : items[i]? = none) (hne : x1 ≠ it)
    (hQ : ∀ h', Heap.ExtBut it s.heap h' → Q none { s with heap := h' }) : wpAny (model prog w) A (pyNext (.ref it)) Q E s := by
  have it0 := hit
  obtain ⟨oi, gi, ci, di⟩ := it0
  obtain ⟨ol, gl, _, nl, dl⟩ := hl
  obtain ⟨hh, o1, vs1, h1, d1, c1⟩ := hot
  unfold pyNext
  refine wpAny_bind (wpAny_attempt (wpAny_callSpecial?_slot (name := Str.ofString "__next__") hit.typeIs slot_listiter_next (wpAny_call_entry slot_listiter_next hit.typeIs entry_listiter_next ?_ (args_listiter_next _))))
  show wpAny _ _ (field (.ref it) 0 >>= _) _ _ s
  refine wpAny_bind (wpAny_field gi di (x := .ref l) rfl ?_)
  show wpAny _ _ (if (Value.ref l == Value.none) = true then _ else _) _ _ s
  rw [if_neg (show ¬ ((Value.ref l == Value.none) = true) from Bool.false_ne_true)]
  show wpAny _ _ (field (.ref it) 1 >>= _) _ _ s
  refine wpAny_bind (wpAny_field gi di (x := .int i 0) rfl ?_)
  show wpAny _ _ (seqItems? (.ref l) >>= _) _ _ s
  refine wpAny_bind (wpAny_seqItems gl dl ?_)
  simp only [Int.toNat_natCast, hx]
  refine wpAny_bind (wpAny_rule (wpAny_bind (wpAny_setField gi di (by simp) ?_)))
  show wpAny _ _ (newExc (.type "StopIteration") [] >>= _) _ _ _
  refine wpAny_bind ?_
  simp only [newExc, newTuple]
  refine wpAny_bind (wpAny_newObj_type ?_ (by size_fits))
  refine wpAny_bind (m := firstArgMember _ _) (wpAny_of_eq (a := Value.none) (by first | rfl | (simp only [firstArgMember]; rfl)) ?_)
  refine wpAny_newObj_type ?_ (by size_fits)
  have k1 : (s.heap.update it (Obj.mapFields (·.setIfInBounds 0 .none))).get? x1 = some o1 := by
    rw [Heap.get?_update_other _ _ (fun y => hne y.symm)]
    exact h1
  refine HotX.raiseNew_hot ⟨hh, o1, vs1, Heap.get?_push_of_some _ (Heap.get?_push_of_some _ k1), d1, c1⟩ (Nat.ne_of_lt (Heap.lt_size (Heap.get?_push_of_some _ k1))) (Heap.get?_push_size _ rfl) rfl (by first | (simp; done) | (simp; omega) | (simp only [Array.size_append]; simp; omega)) ?_
  refine wpAny_bind (wpAny_isInstance (T := "StopIteration") (b := true) ⟨_, Heap.get?_update_self _ (Heap.get?_push_size _ rfl) rfl, rfl⟩ isSubtype_stop ?_)
  refine wpAny_pure (hQ _ fun b o hb e => ?_)
  have k2 : (s.heap.update it (Obj.mapFields (·.setIfInBounds 0 .none))).get? b = some o := by
    rw [Heap.get?_update_other _ _ (fun y => hb y.symm)]
    exact e
  rw [Heap.get?_update_other _ _ (Nat.ne_of_gt (Heap.lt_size (Heap.get?_push_of_some _ k2)))]
  exact Heap.get?_push_of_some _ (Heap.get?_push_of_some _ k2)
end
def HotI (X : Cx) : Prop := ∀ (pins : List (Addr × Obj)) (σ : L2.St) (H : Hy) (s : Shared), L2.Inv X pins σ H s → ∃ (p : Addr × Obj) (vs : Array Value), X.A.handled = some (.ref p.1) ∧ s.heap.get? p.1 = some p.2 ∧ p.2.data = .fields vs ∧ vs[2]? = some .none
theorem HotI.at {X : Cx} (h : HotI X) {pins : List (Addr × Obj)} {σ : L2.St} {H : Hy} {s : Shared} (I : L2.Inv X pins σ H s) : ∃ x1, HotX.HotAt X.A x1 s.heap := by
  obtain ⟨p, vs, h1, h2, h3, h4⟩ := h pins σ H s I
  exact ⟨p.1, h1, p.2, vs, h2, h3, h4⟩
theorem hotI {X : Cx} (c : L2H.HotC X) : HotI X := fun pins σ H s I => by
  obtain ⟨p, ⟨hh, v1, e1, c1⟩, hp⟩ := c
  exact ⟨p, v1, hh, (I.pin p (List.mem_append_left _ hp)).1, e1, c1⟩
theorem hotI_blk {X : Cx} {pins : List (Addr × Obj)} {σ : L2.St} {H : Hy} {s : Shared} {scope : Scope} {ce : Env} {fp : List Addr} (c : L2H.HotC X) (I : L2.Inv X pins σ H s) (hf : ∀ b ∈ fp, FpOk X pins H b) : HotI (X.blk s H scope ce fp) := fun pins' σ' H' s' I' => by
  obtain ⟨p, ⟨hh, v1, e1, c1⟩, hp⟩ := c
  have P := I.pin p (List.mem_append_left _ hp)
  have n1 : p.1 ∉ frs X.stack := fun hm => by
    rcases List.mem_cons.mp (I.stkSub _ hm) with y | y
    · exact P.2.2.1 y
    · exact P.2.2.2.1 y
  have n2 : p.1 ∉ fp := fun hm => (hf _ hm).2.2.2.2.2 p (List.mem_append_left _ hp) rfl
  exact ⟨p, v1, hh, I'.base.keep p.1 p.2 P.1 P.2.1 n1 n2, e1, c1⟩
section
variable {X : Cx} {pins : List (Addr × Obj)} {σ : L2.St} {H : Hy} {s : Shared} {it a : Addr} {i : Nat} {xs : List V} {tg : Expr} {E : Value → Shared → Prop}
theorem li_ne {x1 : Addr} {o : Obj} {vs : Array Value} (h1 : s.heap.get? x1 = some o) (d1 : o.data = .fields vs) (c1 : vs[2]? = some .none) (st : s.heap.IsListIter it a i) : x1 ≠ it := fun y => by
  obtain ⟨oi, gi, ci, di⟩ := st
  rw [y, gi] at h1
  cases h1
  rw [di] at d1
  cases d1
  cases c1
theorem li_item (I : L2.Inv X pins σ H s) (hf : FpOk X pins H it) (st : s.heap.IsListIter it a i) (hq : SqL X.K H a xs) {x : V} (hx : xs[i]? = some x) :
    wpAny (model X.prog X.w) X.A (pyNext (.ref it)) (fun r s1 => ∃ u, r = some u ∧ wpAny (model X.prog X.w) X.A (letOwnedTupleGo tg (.ref it) u) (fun _ s2 => L2.Inv X pins σ H s2 ∧ RelV x u ∧ s2.heap.IsListIter it a (i + 1)) E s1) E s := by
  obtain ⟨its, rv, p, hz⟩ := I.list hq
  obtain ⟨u, hu, ru⟩ := rv.get hx
  obtain ⟨f0, f1, f2, f3, f4, f5⟩ := hf
  refine wpAny_pyNext_list_item st p.isList (x := u) (by simpa using hu) fun h' st' sb => ?_
  obtain ⟨o, e, c, d⟩ := id st'
  exact ⟨u, rfl, go_of (s := { s with heap := h' }) e c d (by decide) ⟨I.turned (t' := s.toks) (fun b o hb e => (sb.2 b hb).trans e) f0 f1 f3 f4 f5, ru, st'⟩⟩
theorem li_done (hh : HotI X) (I : L2.Inv X pins σ H s) (hf : FpOk X pins H it) (st : s.heap.IsListIter it a i) (hq : SqL X.K H a xs) (hx : xs.length ≤ i) :
    wpAny (model X.prog X.w) X.A (pyNext (.ref it)) (fun r s1 => r = none ∧ L2.Inv X pins σ H s1) E s := by
  obtain ⟨its, rv, p, hz⟩ := I.list hq
  have hl := rv.length
  obtain ⟨f0, f1, f2, f3, f4, f5⟩ := hf
  obtain ⟨x1, hot⟩ := hh.at I
  obtain ⟨_, o, vs, h1, d1, c1⟩ := id hot
  exact li_end_hot hot st p.isList (by simp; omega) (li_ne h1 d1 c1 st) fun h' eb => ⟨rfl, I.turned (t' := s.toks) (fun b o hb e => eb b o hb e) f0 f1 f3 f4 f5⟩
end
section
variable {X : Cx} {σ : L2.St} {H : Hy} {D : Ends} {Q : VK} {tg iter elt : Expr} {ifs : List Expr} {scope : Scope} {body : List Stmt} {pos : Pos}
theorem rs_forLH (hp : PassesOwn (model X.prog X.w) X.A X.env X.xe) (hc : L2H.HotC X)
    (h : RE X iter σ H fun v H1 => ∃ a xs, v = .ref a ∧ SqL X.K H1 a xs ∧ ∃ W : Nat → L2.St → Hy → Prop, W 0 σ H1 ∧ (∀ i σ H, W i σ H → SqL X.K H a xs) ∧
      (∀ i σ H x, W i σ H → xs[i]? = some x → RG X tg x σ H fun σ2 H2 => RB X body { D with nx := W (i + 1), ct := W (i + 1), bk := D.nx } σ2 H2) ∧ ∀ σ H, W xs.length σ H → D.nx σ H)
    (hs : ∀ x, foldedSetIterable iter X.env x = pure x := by intro _; rfl) : RS X (.For tg iter body [] pos) D σ H := by
  obtain ⟨t, ht, q⟩ := h
  refine ⟨fun D σ H => t σ H fun v H1 => ∃ a xs, v = .ref a ∧ SqL X.K H1 a xs ∧ ∃ W : Nat → L2.St → Hy → Prop, W 0 σ H1 ∧ (∀ i σ H, W i σ H → SqL X.K H a xs) ∧
      (∀ i σ H x, W i σ H → xs[i]? = some x → RG X tg x σ H fun σ2 H2 => RB X body { D with nx := W (i + 1), ct := W (i + 1), bk := D.nx } σ2 H2) ∧ ∀ σ H, W xs.length σ H → D.nx σ H, ⟨fun pins s σ H D I h => ?_⟩, q⟩
  refine wpAny_For (thn (ht.run pins s σ H _ I h) fun v s1 ⟨x0, H1, I1, r1, a, xs, e0, hq, W, w0, wr, ws, wd⟩ => ?_) hs
  subst e0
  obtain rfl : v = Value.ref a := r1
  obtain ⟨its, rv, p, hz⟩ := I1.list hq
  refine wpAny_pyIter_list p.isList ?_
  have f1 : FpOk X pins H1 s1.heap.objs.size := I1.fpOk (Nat.le_refl _) (I1.hok.fresh (Nat.le_refl _))
  refine codeAny_forLoop_any (fun n s' => ∃ i σ' H', n = xs.length - i ∧ i ≤ xs.length ∧ L2.Inv X pins σ' H' s' ∧ s'.heap.IsListIter s1.heap.objs.size a i ∧ H' s1.heap.objs.size = none ∧ W i σ' H') ?_ _ ⟨0, σ, H1, rfl, Nat.zero_le _, I1.kept (t' := s1.toks) fun b o e => Heap.get?_push_of_some _ e, ⟨_, Heap.get?_push_size _ rfl, rfl, rfl⟩, f1.1, w0⟩
  generalize s1.heap.objs.size = it at f1
  rintro n s3 ⟨i, σ3, H3, rfl, hi, I3, S3, fr3, w3⟩
  have f3 : FpOk X pins H3 it := ⟨fr3, f1.2⟩
  have q3 := wr i σ3 H3 w3
  by_cases hlt : i < xs.length
  · have hx : xs[i]? = some xs[i] := List.getElem?_eq_getElem hlt
    refine wpAny_passesOwn hp (thn (li_item (tg := tg) (E := X.xe) I3 f3 S3 q3 hx) fun r s4 ⟨u, hr, h4⟩ => ?_)
    subst hr
    refine wpAny_passesOwn hp (thn h4 fun _ s5 ⟨I5, r5, S5⟩ => ?_)
    have ob : ∀ b ∈ [it], ∃ o, s5.heap.get? b = some o ∧ ∀ v, o.data ≠ .cell v := fun b hb => by
      have e : b = it := by simpa using hb
      subst e
      obtain ⟨o, e, c, d⟩ := S5
      exact ⟨o, e, fun v z => by rw [d] at z; cases z⟩
    have I5' := I5.pinned (fp := [it]) (fun b hb => by
      have e : b = it := by simpa using hb
      subst e
      exact f3) ob
    refine wpAny_passesOwn hp (thn (pRG.run _ s5 σ3 _ _ u _ I5' r5 (ws i σ3 H3 _ w3 hx)) fun _ s6 ⟨σ6, H6, I6, q6⟩ => ?_)
    refine wpAny_passesOwn hp (thn (pRB.run _ s6 σ6 H6 _ I6 q6) fun f s7 q7 => ?_)
    have again : ∀ {σ7 : L2.St} {H7 : Hy}, L2.Inv X (pins ++ pinsAt [it] s5.heap) σ7 H7 s7 → W (i + 1) σ7 H7 → ∃ m, m < xs.length - i ∧ ∃ i σ' H', m = xs.length - i ∧ i ≤ xs.length ∧ L2.Inv X pins σ' H' s7 ∧ s7.heap.IsListIter it a i ∧ H' it = none ∧ W i σ' H' := fun {σ7 H7} I7 w7 => by
      obtain ⟨o, e, c, d⟩ := id S5
      have P := I7.pin (it, o) (List.mem_append_right _ (List.mem_append_right _ (mem_pinsAt (by simp) e)))
      exact ⟨xs.length - (i + 1), by omega, i + 1, σ7, H7, rfl, hlt, I7.unpinned, ⟨o, P.1, c, d⟩, P.2.1, w7⟩
    cases f with
    | next => obtain ⟨σ7, H7, I7, n7⟩ := q7; exact again I7 n7
    | cont => obtain ⟨σ7, H7, I7, n7⟩ := q7; exact again I7 n7
    | brk => obtain ⟨σ7, H7, I7, q7⟩ := q7; exact ⟨σ7, H7, I7.unpinned, q7⟩
    | ret v => obtain ⟨x7, σ7, H7, I7, r7, q7⟩ := q7; exact ⟨x7, σ7, H7, I7.unpinned, r7, q7⟩
  · have hi' : i = xs.length := Nat.le_antisymm hi (Nat.le_of_not_lt hlt)
    refine wpAny_passesOwn hp (thn (li_done (E := X.xe) (hotI hc) I3 f3 S3 q3 (Nat.le_of_eq hi'.symm)) fun r s4 ⟨hr, I4⟩ => ?_)
    subst hr
    exact wpAny_execs_nil ⟨σ3, H3, I4, wd σ3 H3 (hi' ▸ w3)⟩
/-- a list comprehension over a list while an exception is handled -/
theorem pe_lcH {own : List (Str × Nat)} {tl : TE} {g : TG} {tt : TT} {te : TE} (hc : L2H.HotC X) (hN : X.N.Nodup) (hl : PE X iter tl) (ok : BlkOk X.N X.env.scope scope own)
    (hg : ∀ (s : Shared) (H : Hp) (C : Addr) (cl : List (Str × Addr)) (fp : List Addr), PG (X.blk s H scope (compEnvC scope cl C X.env) fp) tg g) (ht : ∀ (s : Shared) (H : Hp) (C : Addr) (cl : List (Str × Addr)) (fp : List Addr), PTs (X.blk s H scope (compEnvC scope cl C X.env) fp) ifs tt)
    (he : ∀ (s : Shared) (H : Hp) (C : Addr) (cl : List (Str × Addr)) (fp : List Addr), PE (X.blk s H scope (compEnvC scope cl C X.env) fp) elt te) (hs : ∀ x, foldedSetIterable iter X.env x = pure x := by intro _; rfl) :
    PE X (.ListComp elt [⟨tg, iter, ifs, 0⟩] scope pos) (tLc (iList X.K tl) g tt te (own.map (·.2))) := by
  refine ⟨fun pins s σ H Q I h => ?_⟩
  rw [eval_ListComp]
  have free : ∀ y ∈ scope.names, y.2 = .free → ∃ c, X.env.cells.lookup y.1 = some c := fun y hy e => I.ok.has _ (ok.free y hy e)
  refine wpAny_comprehension_free rfl hs (closure_ok free) ok.kind (fun y hy e => by rw [ok.uniq y hy, e]) (thn (hl.run pins s σ H _ I h) fun v s1 ⟨x0, H1, I1, r1, a, e0, ⟨xs, hq⟩, q⟩ => ?_)
  subst e0
  obtain rfl : v = Value.ref a := r1
  obtain ⟨its, rv, p, hz⟩ := I1.list hq
  refine wpAny_pyIter_list p.isList (wpAny_newObj_type (newEnv_comp ?_) (by show 0 ≤ sizeLine; decide))
  generalize hit : s1.heap.objs.size = it
  have I2 : L2.Inv X pins σ H1 { s1 with heap := s1.heap.push { cls := .type "list_iterator", data := .fields #[.ref a, .int 0 0] } } := I1.kept (t' := s1.toks) fun b o e => Heap.get?_push_of_some _ e
  have fi : FpOk X pins H1 it := I1.fpOk (Nat.le_of_eq hit) (I1.hok.fresh (Nat.le_of_eq hit))
  have st2 : Heap.IsListIter (s1.heap.push { cls := .type "list_iterator", data := .fields #[.ref a, .int 0 0] }) it a 0 := by
    rw [← hit]
    exact ⟨_, Heap.get?_push_size _ rfl, rfl, rfl⟩
  have hlt2 : it < (s1.heap.push { cls := .type "list_iterator", data := .fields #[.ref a, .int 0 0] }).objs.size := by
    obtain ⟨o, e, _⟩ := st2
    exact Heap.lt_size e
  generalize hh2 : s1.heap.push { cls := .type "list_iterator", data := .fields #[.ref a, .int 0 0] } = h2 at I2 st2 hlt2 ⊢
  show codeAny _ _ (.compStart _ 0 (.ref it) (.ref h2.objs.size) _) (compPost _ _ _ none _ (.ref h2.objs.size) _) _
  generalize hD : h2.objs.size = D at hlt2 ⊢
  have nD : H1 D = none := I2.hok.fresh (Nat.le_of_eq hD)
  obtain ⟨W, ⟨m0, w0⟩, turn⟩ := q D nD
  have I3 : L2.Inv X pins σ (upd H1 D (.lst [])) { s1 with heap := h2.push { cls := .type "list", data := .seq ([] : List Value).toArray } } :=
    I2.laid (t' := s1.toks) (fun b o e => Heap.get?_push_of_some _ e) (Nat.le_of_eq hD) ⟨Nat.zero_le _, [], 0, .nil, by rw [← hD]; exact Heap.get?_push_size _ rfl⟩
  have f3 : ∀ b ∈ [it], FpOk X pins (upd H1 D (.lst [])) b ∧ b < (h2.push { cls := .type "list", data := .seq ([] : List Value).toArray }).objs.size := fun b hb => by
    obtain rfl : b = it := by simpa using hb
    refine ⟨⟨?_, fi.2⟩, by rw [Heap.size_push, hD]; exact Nat.lt_succ_of_lt hlt2⟩
    rw [upd_ne (Nat.ne_of_lt hlt2)]
    exact fi.1
  have st3 : Heap.IsListIter (h2.push { cls := .type "list", data := .seq ([] : List Value).toArray }) it a 0 := st2.at fun o e => Heap.get?_push_of_some _ e
  have I4 := block_start I3 ok hN f3
  have HB := fun ce => hotI_blk (scope := scope) (ce := ce) hc I3 fun b hb => (f3 b hb).1
  generalize hs3 : ({ s1 with heap := h2.push { cls := .type "list", data := .seq ([] : List Value).toArray } } : Shared) = s3 at I3 I4 HB
  have hh3 : h2.push { cls := .type "list", data := .seq ([] : List Value).toArray } = s3.heap := by rw [← hs3]
  rw [hh3] at f3 st3
  have pg := hg s3 (upd H1 D (.lst [])) s3.heap.objs.size (cellsFrom (s3.heap.objs.size + 1) scope.names (cloFrom X.env.cells scope.names [])) [it]
  have pt := ht s3 (upd H1 D (.lst [])) s3.heap.objs.size (cellsFrom (s3.heap.objs.size + 1) scope.names (cloFrom X.env.cells scope.names [])) [it]
  have pe := he s3 (upd H1 D (.lst [])) s3.heap.objs.size (cellsFrom (s3.heap.objs.size + 1) scope.names (cloFrom X.env.cells scope.names [])) [it]
  show codeAny _ _ (.compStart _ 0 (.ref it) (.ref D) (compEnvC scope (cellsFrom (s3.heap.objs.size + 1) scope.names (cloFrom X.env.cells scope.names [])) s3.heap.objs.size X.env)) (compPost (model X.prog X.w) X.A X.xe none _ (.ref D) s3.heap.objs.size) { s3 with heap := pushCells (s3.heap.push { cls := .type "dict", data := .dict #[] }) scope.names }
  have nC0 : (upd H1 D (.lst [])) it = none := (f3 it (by simp)).1.1
  generalize hce : compEnvC scope (cellsFrom (s3.heap.objs.size + 1) scope.names (cloFrom X.env.cells scope.names [])) s3.heap.objs.size X.env = ce at I4 pg pt pe ⊢
  have cL : ce.locals = s3.heap.objs.size := by subst hce; rfl
  have HB := HB ce
  have st4 : Heap.IsListIter (pushCells (s3.heap.push { cls := .type "dict", data := .dict #[] }) scope.names) it a 0 := st3.at fun o e => pushCells_keeps _ _ _ _ (Heap.get?_push_of_some _ e)
  generalize upd H1 D (.lst []) = H3 at I3 I4 HB pg pt pe w0 f3 nC0
  generalize hs4 : ({ s3 with heap := pushCells (s3.heap.push { cls := .type "dict", data := .dict #[] }) scope.names } : Shared) = s4 at I4
  have st4 : s4.heap.IsListIter it a 0 := by rw [← hs4]; exact st4
  have stat : ∀ {σ' : L2.St} {H' : Hy} {s' : Shared}, L2.Inv (X.blk s3 H3 scope ce [it]) [] σ' H' s' → H' it = none → FpOk (X.blk s3 H3 scope ce [it]) [] H' it := fun {σ' H' s'} I' hn =>
    ⟨hn, (I'.ok.exf it (by simp)).1, I'.ok.exfs it (by simp), .inl (by simp), fun x c e => (I'.ok.exf it (by simp)).2 x c e, fun p hp => absurd (show p ∈ ([] : List (Addr × Obj)) ++ [] from hp) (by simp)⟩
  refine (fun loop => codeAny_compStart_list loop (wpAny_pyIter_listiter st4 loop)) (compLoop_any (fun n s' => ∃ i H', L2.Inv (X.blk s3 H3 scope ce [it]) [] (wipe σ (own.map (·.2))) H' s' ∧ s'.heap.IsListIter it a i ∧ H' it = none ∧ W i n H') ?_ m0 ⟨0, H3, I4, st4, nC0, w0⟩)
  rintro n s5 ⟨i, H5, I5, st5, n5, w5⟩
  rcases turn i n H5 w5 with ⟨⟨ys, hy, hle⟩, qq⟩ | ⟨⟨ys, x, hy, hx⟩, Nx, hNx, step⟩
  · refine thnF (li_done (X := X.blk s3 H3 scope ce [it]) (E := fun _ _ => False) HB I5 (stat I5 n5) st5 hy hle) fun r s6 ⟨hr, I6⟩ => ?_
    subst hr
    have I7 : L2.Inv X pins σ H5 s6 := I3.call' (ch := [it]) I6.os I6.base I6.hok I6.bare fun b hb => ⟨(f3 b hb).1.2.2.2.1, (f3 b hb).1.2.1, (f3 b hb).1.2.2.2.2.1, (f3 b hb).1.2.2.2.2.2⟩
    have nC : H5 s3.heap.objs.size = none := by
      have z : H5 ce.locals = none := I6.free
      rwa [cL] at z
    obtain ⟨m, hn, _⟩ := I6.loc
    have hn : s6.heap.Ns ce.locals m := hn
    rw [cL] at hn
    obtain ⟨f0, f1, f2, f3, f4, f5⟩ := I3.fpOk (H' := H5) (Nat.le_refl _) nC
    exact ⟨m, hn, fun h'' sb => ⟨.ref D, H5, I7.turned (t' := s6.toks) (fun b o hb e => (sb.2 b hb).trans e) f0 f1 f3 f4 f5, rfl, qq⟩⟩
  · refine thnF (li_item (X := X.blk s3 H3 scope ce [it]) (tg := tg) (E := fun _ _ => False) I5 (stat I5 n5) st5 hy hx) fun r s6 ⟨u, hr, h6⟩ => ?_
    subst hr
    refine thnF h6 fun _ s7 ⟨I7, r7, st7⟩ => ?_
    obtain ⟨o7, e7, c7, d7⟩ := id st7
    have ob : ∀ b ∈ [it], ∃ o, s7.heap.get? b = some o ∧ ∀ v, o.data ≠ .cell v := fun b hb => by
      obtain rfl : b = it := by simpa using hb
      exact ⟨o7, e7, fun v z => by rw [d7] at z; cases z⟩
    have I7' := I7.pinned (fp := [it]) (fun b hb => by
      obtain rfl : b = it := by simpa using hb
      exact stat I7 n5) ob
    refine thnF (pg.run _ s7 _ H5 x u _ I7' r7 (step x H5 ⟨rfl, fun zs hz => by rw [I5.list_inj hz hy]; exact hx⟩)) fun _ s8 ⟨σ8, H8, I8, hw8, q8⟩ => ?_
    refine thnF (pt.run _ s8 σ8 H8 _ I8 q8) fun b s9 ⟨H9, I9, q9⟩ => ?_
    have fin : ∀ {s' : Shared} {H' : Hy}, L2.Inv (X.blk s3 H3 scope ce [it]) ([] ++ pinsAt [it] s7.heap) σ8 H' s' → Nx H' → ∃ m, m < n ∧ ∃ i H', L2.Inv (X.blk s3 H3 scope ce [it]) [] (wipe σ (own.map (·.2))) H' s' ∧ s'.heap.IsListIter it a i ∧ H' it = none ∧ W i m H' := fun {s' H'} I' nx => by
      obtain ⟨m', hm, w'⟩ := hNx H' nx
      have P := I'.pin (it, o7) (List.mem_append_right _ (List.mem_append_right _ (mem_pinsAt (by simp) e7)))
      refine ⟨m', hm, i + 1, H', (I'.unpinned (pins := [])).weak (by rw [← hw8, wipe_length]) (fun j v e => ?_), ⟨o7, P.1, c7, d7⟩, P.2.1, w'⟩
      rw [← hw8] at e
      exact (wipe_some e).1
    cases b with
    | false =>
      simp only [Bool.false_eq_true, if_false] at q9 ⊢
      exact fin I9 q9
    | true =>
      simp only [if_true] at q9 ⊢
      refine thnF (pe.run _ s9 σ8 H9 _ I9 q9) fun z s10 ⟨yv, H10, I10, r10, acc, hD10, hz10, nx⟩ => ?_
      exact app_ok (X := X.blk s3 H3 scope ce [it]) I10 hD10 hz10 r10 fun s11 I11 => fin I11 nx
theorem r_lcH (own : List (Str × Nat)) (hc : L2H.HotC X) (hN : X.N.Nodup) (ok : BlkOk X.N X.env.scope scope own) (h : tLc (iList X.K (RE X iter)) (gB X scope tg) (ttB X scope ifs) (teB X scope elt) (own.map (·.2)) σ H Q) (hs : ∀ x, foldedSetIterable iter X.env x = pure x := by intro _; rfl) :
    RE X (.ListComp elt [⟨tg, iter, ifs, 0⟩] scope pos) σ H Q := ⟨_, pe_lcH hc hN pRE ok pgB ptB peB hs, h⟩
end
end My
set_option Elab.async false
set_option pp.maxSteps 1500
set_option linter.all false
set_option maxRecDepth 100000
set_option maxHeartbeats 4000000
/-! Y2: defs called while an exception with fields is handled; isinstance of it, its fields -/
namespace My
open PySem PySem.Spec PyProof.Rows L2
/-- a def called in an except suite: what it promises may speak of the handled exception's object -/
structure FnT (P : Program) (w : World) (K : PySem.W.Frag) (mg : Str → Option Value) (base : Heap) (k : Nat) (f : Addr) (fd : FuncData) (ps : List Str) (sp : Addr × Obj → Sp) : Prop where
  len : ∀ p vs H Q E, sp p vs H Q E → vs.length = ps.length
  run : ∀ (A : Around) (outer : List Env) (s : Shared) (H : Hy) (args : Args) (us : List Value) (vs : List V) (Q : VK) (E : XK) (p : Addr × Obj), L2H.RoomH k A → L2H.Hot1 A p → L2H.PinOk outer H s p → Env0 P w K mg base A outer s H → BindsTo s fd args (ps.zip us) → Vals vs us → sp p vs H Q E →
    codeAny (model P w) A (.call (.ref f) args) (CR CX0 outer P w H s Q E) s
structure HasT (P : Program) (w : World) (K : PySem.W.Frag) (mg : Str → Option Value) (base : Heap) (k : Nat) (x : Str) (ps : List Str) (sp : Addr × Obj → Sp) : Prop where
  ex : ∃ f fd, mg x = some (.ref f) ∧ PySem.W.keepIn K (.ref f) = true ∧ Binds K fd ps [] ∧ FnT P w K mg base k f fd ps sp
abbrev cxT (P : Program) (w : World) (K : PySem.W.Frag) (mg : Str → Option Value) (base : Heap) (N : List Str) (d : He.DefD) (cdv : Value) (A : Around) (outer : List Env) (s : Shared) (H : Hy) (E : XK) (p : Addr × Obj) : Cx := L2H.cxH CX0 P w K mg base N d.qual d.scope (He.fAd K d.at_) cdv A outer s H E p
section
variable {P : Program} {w : World} {K : PySem.W.Frag} {mg : Str → Option Value} {base : Heap}
theorem mk_hasT {d : He.DefD} {N ps : List Str} {sp : Addr × Obj → Sp} {k : Nat} (g : mg d.name = some (.ref (He.fAd K d.at_))) (F : ∃ fd, FD K d fd) (S : FnScope N ps d.scope)
    (hb : ∀ (kV doc pm : Value) (an : Option Addr) (cdv ct : Value) (us : List Value), us.length = ps.length → bindArgs (PySem.W.fnOf d.name d.qual d.params d.body d.scope .none kV doc pm an cdv ct) ⟨us, []⟩ = pure (ps.zip us)) (len : ∀ p vs H Q E, sp p vs H Q E → vs.length = ps.length)
    (body : ∀ (cdv : Value) (A : Around) (outer : List Env) (s : Shared) (H : Hy) (vs : List V) (Q : VK) (E : XK) (p : Addr × Obj), L2H.Hot1 A p → L2H.RoomH k (A.deeper (envOfC d.qual d.scope s.heap.objs.size (He.fAd K d.at_) cdv)) → L2H.HotC (cxT P w K mg base N d cdv A outer s H E p).nox → sp p vs H Q E →
      RB (cxT P w K mg base N d cdv A outer s H E p).nox d.body { nx := fun _ H' => Q .non H', rt := Q } (start N vs) H) : HasT P w K mg base (k + 1) d.name ps sp := by
  obtain ⟨fd, F⟩ := F
  refine ⟨_, fd, g, F.kp, F.bindsN hb, len, fun A outer s H args us vs Q E p hr hot hpin e0 hbd hv hsp => ?_⟩
  have hl := len _ _ _ _ _ hsp
  obtain ⟨oc, od, dV, kV, doc, pm, an, cdv, ct, osl, rfl, lk, hcd, _, _⟩ := F.ex
  have KX : K.In s.heap := e0.mod.kin.keeps fun b o e => (e0.bs b o e).1
  have kinds : ∀ y ∈ ps.zip us, d.scope.names.lookup y.1 = some .local ∨ (d.scope.names.lookup y.1 = some .cell ∧ ((cellsFrom (s.heap.objs.size + 1) d.scope.names []).lookup y.1).isSome = true) := fun ⟨n, v⟩ hy =>
    (S.par n (List.of_mem_zip hy).1).imp id fun q => ⟨q, PySem.W.cellsFrom_some _ _ _ (.inl q)⟩
  refine codeAny_call_function hr.depth (KX _ _ lk) rfl S.co S.gen rfl (PySem.W.codeRec_of KX hcd) (hbd _ _ _ _ (wpAny_newFunctionEnv_cells S.kind kinds fun env he s1 x => ?_))
  subst he
  have lim : s1.heap.NoLimit := (e0.mod.nolimit.keeps fun b o e => (e0.bs b o e).1).keeps x.toInCall.keep
  refine ⟨lim, codeAny_func ?_⟩
  obtain ⟨t, ht, q⟩ := body cdv A outer s H vs Q E p hot (hr.deeper _) ⟨p, hot, by show p ∈ [p]; simp⟩ hsp
  have I : L2.Inv (cxT P w K mg base N d cdv A outer s H E p) [] (L2.start N vs) H s1 := L2H.inv_startH S hpin e0 hl hv x
  refine wpAny_mono (ht.nox.run [] s1 _ H _ I q) (fun fl s' hs => ?_) fun e s' hs => hs
  cases fl with
  | ret u =>
    obtain ⟨v, σ', H', J, rv, q⟩ := hs
    exact ⟨v, H', J.os, J.bare, J.base, J.hok, rv, q⟩
  | next =>
    obtain ⟨σ', H', J, q⟩ := hs
    exact ⟨V.non, H', J.os, J.bare, J.base, J.hok, rfl, q⟩
  | brk => exact hs.elim fun _ h => h.elim fun _ h => h.2.elim
  | cont => exact hs.elim fun _ h => h.elim fun _ h => h.2.elim
end
section
variable {X : Cx} {σ : L2.St} {H : Hy} {Q : VK} {pos p p2 apos : Pos} {e : Expr} {es : List Expr} {k : Nat} {x n : Str} {ps : List Str} {sp : Addr × Obj → Sp}
theorem r_callT {j : Nat} {po : Addr × Obj} (F : HasT X.prog X.w X.K X.mg X.base k x ps sp) (hr : L2H.RoomH j X.A) (hot : L2H.Hot1 X.A po) (hpo : po ∈ X.pn) (h : RA X (e :: es) σ H fun vs H1 => sp po vs H1 Q E0) (hg : Gl X x := by rfl) (hdb : (x == ("__debug__" : Str)) = false := by decide)
    (he : starEach (e :: es) X.env = (false, eval e X.env) :: starEach es X.env := by rfl) (hpl : (backTo pos (starEach es X.env)).any (·.1) = false := by rfl) (hj : k ≤ j := by decide) : RE X (.Call (.Name x p) (e :: es) [] pos) σ H Q := by
  obtain ⟨f, fd, g, kp, b, F⟩ := F.ex
  refine ⟨fun σ H Q => RA X (e :: es) σ H fun vs H1 => sp po vs H1 Q E0, ⟨fun pins s σ H Q I h => ?_⟩, h⟩
  refine wpAny_Call_Name_kw (ld_glob I hg g ?_ hdb)
  refine PySem.W.callWith_K (h₀ := X.base) I.ok.mod.kin kp (thn (pRA.run pos pins s σ H _ I h) fun us s1 ⟨vs, H1, I1, r, q⟩ => ⟨I1.kIn, ?_⟩) he hpl
  have hl : us.length = ps.length := by rw [← r.length]; exact F.len _ _ _ _ _ q
  have bb := b s1 us I1.kIn (by rw [List.append_nil]; exact hl)
  rw [List.append_nil] at bb
  have P1 := I1.pin po (List.mem_append_left _ hpo)
  have hpin : L2H.PinOk X.stack H1 s1 po := ⟨P1.1, P1.2.1, fun hm => (List.mem_cons.mp (I1.stkSub po.1 hm)).elim P1.2.2.1 P1.2.2.2.1, P1.2.2.2.2⟩
  refine wpAny_call (codeAny_mono (F.run X.A X.stack s1 H1 ⟨us, []⟩ us vs Q E0 po (hr.mono hj) hot hpin I1.env0 bb r q) fun r s' hq => ?_)
  cases r with
  | error e => exact False.elim hq
  | ok fl =>
    cases fl with
    | ret u => exact I1.after hq
    | next => exact False.elim hq
    | brk => exact False.elim hq
    | cont => exact False.elim hq
/-- isinstance(e, c), e the handled exception, which has a dict -/
def rIsP (K : PySem.W.Frag) (C a dd : Addr) : List V → Hy → VK → Prop := fun xs H Q => ∃ (c : V) (cv : Value) (b : Bool) (fs : List (Str × V)), xs = [.ref a, c] ∧ (∀ u, RelV c u → u = cv) ∧ PySem.W.kitOne K (.ref C) cv = some b ∧ H dd = some (.xd fs) ∧ Q (.bl b) H
theorem inst_p {pins : List (Addr × Obj)} {s : Shared} {po : Addr × Obj} {C dd : Addr} {fs : List (Str × V)} (I : L2.Inv X pins σ H s) (hpo : po ∈ X.pn) (hz : Zc (.ref C) (some dd) po.2) (hf : ∃ vs, po.2.data = .fields vs) (ed : H dd = some (.xd fs)) :
    ∃ (od : Obj) (mA : Str → Option Value), PySem.W.InstAt s.heap po.1 po.2 C (some od) ∧ (∀ y, PySem.W.lookIn y od = some (mA y)) ∧ ∀ y, L2.RelO (fs.lookup y) (mA y) := by
  obtain ⟨ha, _⟩ := I.pin po (List.mem_append_left _ hpo)
  obtain ⟨vs, hd⟩ := hf
  have hx : ObjOk X.prog X.w H s.heap dd (.xd fs) := I.hok dd _ ed
  obtain ⟨mA, hns, hr⟩ := hx
  obtain ⟨od, ho, hl⟩ := lookIn_ns hns
  exact ⟨od, mA, ⟨ha, hz.1, by unfold PySem.W.notCls; rw [hd] <;> rfl, by rw [hz.2]; exact ho⟩, hl, hr⟩
theorem call_isP {po : Addr × Obj} {C dd : Addr} (T : ExcC X.K C) (hpo : po ∈ X.pn) (hz : Zc (.ref C) (some dd) po.2) (hf : ∃ vs, po.2.data = .fields vs) : CallR X (.builtin "isinstance") (rIsP X.K C po.1 dd) := by
  intro pins s σ H xs us Q I r h
  obtain ⟨c, cv, b, fs, rfl, hcv, e, ed, q⟩ := h
  cases r with
  | cons rx rr =>
    cases rr with
    | cons rt rr =>
      cases rr
      cases rx
      have ec := hcv _ rt
      subst ec
      obtain ⟨od, _, J, _⟩ := inst_p I hpo hz hf ed
      have hcl : (PySem.W.clsIn X.K C).isSome = true := by
        obtain ⟨cd, hc, _⟩ := PySem.W.any_some T.hd
        rw [hc]
        rfl
      exact PySem.W.kia_one (PySem.W.kitx_exc hcl T.hg T.hk T.hs T.ha T.hn T.ht T.hm) I.kIn J e (fun z => nomatch z) fun tk => ⟨.bl b, H, I.kept (t' := tk) fun _ _ z => z, rfl, q⟩
/-- e.f, e the handled exception -/
theorem r_xf {po : Addr × Obj} {C dd : Addr} (T : XfC X.K C) (hno : PySem.W.findIn X.K (.ref C) n = some none) (hpo : po ∈ X.pn) (hz : Zc (.ref C) (some dd) po.2) (hf : ∃ vs, po.2.data = .fields vs)
    (h : RE X e σ H fun x H1 => x = .ref po.1 ∧ ∃ (fs : List (Str × V)) (v : V), H1 dd = some (.xd fs) ∧ fs.lookup n = some v ∧ Q v H1) (hb : attributeBase e n X.env (eval e X.env) = eval e X.env := by rfl) : RE X (.Attribute e n pos) σ H Q := by
  refine ⟨fun σ H Q => RE X e σ H fun x H1 => x = .ref po.1 ∧ ∃ (fs : List (Str × V)) (v : V), H1 dd = some (.xd fs) ∧ fs.lookup n = some v ∧ Q v H1, ⟨fun pins s σ H Q I h => ?_⟩, h⟩
  refine attr_of hb (thn (pRE.run pins s σ H _ I h) fun u s1 hh => ?_)
  obtain ⟨x, H1, I1, rx, ex, fs, v, ed, l, q⟩ := hh
  subst ex
  obtain rfl : u = Value.ref po.1 := rx
  obtain ⟨od, mA, J, hl, hr⟩ := inst_p I1 hpo hz hf ed
  obtain ⟨u, hu, ru⟩ := RelO.some_of (v := v) (o := mA n) (by rw [← l]; exact hr n)
  exact HandSPX.exc_get I1.kIn J T.ga T.gg T.exC (PySem.W.findObj_own T.hdC hno rfl (by rw [hl, hu])) (handed_of ru) ⟨v, H1, I1.tok _, ru, q⟩
end
end My
set_option Elab.async false
set_option pp.maxSteps 1500
set_option linter.all false
set_option maxRecDepth 100000
set_option maxHeartbeats 4000000
/-! Y3: _law_kin of Broken -/
namespace My
open PySem PySem.Spec PyProof.Rows L2 TL
/-- all that is wanted of Broken and of its kin -/
structure BrkF (K : PySem.W.Frag) : Prop where
  b : BrkC K (He.ga K "Broken")
  x : ExcC K (He.ga K "Broken")
  f : XfC K (He.ga K "Broken")
  kT : ∀ n b, (n, b) ∈ kinTy → PySem.W.kitOne K (.ref (He.ga K "Broken")) (.type n) = some b
  kO : ∀ n b, (n, b) ∈ kinOwn → PySem.W.kitOne K (.ref (He.ga K "Broken")) (.ref (He.ga K n)) = some b
  m : PySem.W.exmAny K (.ref (He.ga K "Broken")) [.ref (He.ga K "BadValue"), .ref (He.ga K "BadName"), .ref (He.ga K "NoAnswer")] = some true
/-- an entry of the list of kin: [isinstance(e, class), word] -/
structure Ent (X : Cx) (a dd : Addr) (e : Expr) (b : Bool) (z : Str) : Prop where
  run : ∀ {σ : L2.St} {H : Hy} {Q : VK} {fs : List (Str × V)}, σ[0]? = some (some (.ref a)) → H dd = some (.xd fs) → (∀ p H', Same H H' → H' p = some (.lst [.bl b, .str z]) → Q (.ref p) H') → RE X e σ H Q
section
variable {X : Cx} {po : Addr × Obj} {C dd : Addr} {b : Bool} {z n v : Str} {N : String} {p1 p2 p3 p4 p5 p6 : Pos} {j}
theorem ent_own (hi : X.mg "isinstance" = none) (g : X.mg n = some (.ref (He.ga X.K n))) (T : ExcC X.K C) (hk : PySem.W.kitOne X.K (.ref C) (.ref (He.ga X.K n)) = some b) (hpo : po ∈ X.pn) (hz : Zc (.ref C) (some dd) po.2) (hf : ∃ vs, po.2.data = .fields vs)
    (hN : X.N[0]? = some v := by rfl) (hv : Vis X.env.scope v := by first | exact Or.inl rfl | exact Or.inr (Or.inl rfl) | exact Or.inr (Or.inr rfl)) (hd : (v == ("__debug__" : Str)) = false := by decide) (hcd : (v == ("__classdict__" : Str)) = false := by decide)
    (hg : Gl X n := by rfl) (hdn : (n == ("__debug__" : Str)) = false := by decide) (hg1 : Gl X "isinstance" := by rfl) :
    Ent X po.1 dd (.List [.Call (.Name "isinstance" p1) [.Name v p2, .Name n p3] [] p4, .Constant (.str z) j p5] p6) b z := ⟨fun {σ H Q fs} hs ed h => by
  refine r_lst (ra_cons (r_callB (call_isP T hpo hz hf) hi (by decide +kernel) (ra_cons (r_var 0 (gv hs (ra_cons (r_gref g (ra_nil ⟨.ref (He.ga X.K n), .ref (He.ga X.K n), b, fs, rfl, fun u r => r, hk, ed, ?_⟩) hg hdn))) hN hv hd hcd)) hg1))
  exact ra_cons (r_str (ra_nil ⟨by show 2 ≤ sizeLine; decide, fun p hp => h p _ (same_new hp) upd_same⟩))⟩
theorem ent_ty (hi : X.mg "isinstance" = none) (g : X.mg n = none) (hv0 : bootBuiltins n = some (.type N)) (T : ExcC X.K C) (hk : PySem.W.kitOne X.K (.ref C) (.type N) = some b) (hpo : po ∈ X.pn) (hz : Zc (.ref C) (some dd) po.2) (hf : ∃ vs, po.2.data = .fields vs)
    (hN : X.N[0]? = some v := by rfl) (hv : Vis X.env.scope v := by first | exact Or.inl rfl | exact Or.inr (Or.inl rfl) | exact Or.inr (Or.inr rfl)) (hd : (v == ("__debug__" : Str)) = false := by decide) (hcd : (v == ("__classdict__" : Str)) = false := by decide)
    (hg : Gl X n := by rfl) (hn : n ≠ "__name__" := by decide) (hdn : (n == ("__debug__" : Str)) = false := by decide) (hg1 : Gl X "isinstance" := by rfl) :
    Ent X po.1 dd (.List [.Call (.Name "isinstance" p1) [.Name v p2, .Name n p3] [] p4, .Constant (.str z) j p5] p6) b z := ⟨fun {σ H Q fs} hs ed h => by
  refine r_lst (ra_cons (r_callB (call_isP T hpo hz hf) hi (by decide +kernel) (ra_cons (r_var 0 (gv hs (ra_cons (r_bltn (v := .ty N) g hv0 rfl (ra_nil ⟨.ty N, .type N, b, fs, rfl, fun u r => r, hk, ed, ?_⟩) hg hn hdn))) hN hv hd hcd)) hg1))
  exact ra_cons (r_str (ra_nil ⟨by show 2 ≤ sizeLine; decide, fun p hp => h p _ (same_new hp) upd_same⟩))⟩
end
/-- the list of kin stands -/
def Lk (H : Hy) : List V → List (Bool × Str) → Prop := Paired fun v bz => ∃ q, v = .ref q ∧ H q = some (.lst [.bl bz.1, .str bz.2])
theorem Lk.ext {H H' : Hy} {xs : List V} {l : List (Bool × Str)} (h : Lk H xs l) (s : Same H H') : Lk H' xs l := by
  induction h with
  | nil => exact .nil
  | cons h _ ih => exact .cons (let ⟨q, h1, h2⟩ := h; ⟨q, h1, s _ _ h2⟩) ih
theorem Lk.app {H : Hy} {xs ys : List V} {l m : List (Bool × Str)} (h : Lk H xs l) (h2 : Lk H ys m) : Lk H (xs ++ ys) (l ++ m) := by
  induction h with
  | nil => exact h2
  | cons h _ ih => exact .cons h ih
theorem Lk.get {H : Hy} {xs : List V} {l : List (Bool × Str)} (h : Lk H xs l) : ∀ {i : Nat} {v : V}, xs[i]? = some v → ∃ q bz, v = .ref q ∧ l[i]? = some bz ∧ H q = some (.lst [.bl bz.1, .str bz.2]) := by
  induction h with
  | nil => intro i v e; simp at e
  | cons h _ ih =>
    intro i v e
    cases i with
    | zero =>
      obtain ⟨q, h1, h2⟩ := h
      simp at e
      subst e
      exact ⟨q, _, h1, rfl, h2⟩
    | succ i => exact ih (by simpa using e)
def KinS (H0 : Hy) (a : Addr) (l : List (Bool × Str)) (σ : L2.St) (H : Hy) : Prop := ∃ L xs, σ = [some (.ref a), some (.ref L), none] ∧ H L = some (.lst xs) ∧ Lk H xs l ∧ l.length < 100 ∧ Same H0 H
section
variable {X : Cx} {H0 : Hy} {a dd : Addr} {e1 e2 : Expr} {b1 b2 : Bool} {z1 z2 x : Str} {l : List (Bool × Str)} {σ : L2.St} {H : Hy} {D : Ends} {p1 p2 p3 p4 p5 : Pos} {fs : List (Str × V)}
theorem kin_first (E1 : Ent X a dd e1 b1 z1) (E2 : Ent X a dd e2 b2 z2) (hN : X.N.Nodup) (hs : σ = [some (.ref a), none, none]) (ed : H dd = some (.xd fs)) (k : ∀ σ' H', KinS H a [(b1, z1), (b2, z2)] σ' H' → D.nx σ' H')
    (hx : X.N[1]? = some x := by rfl) (hfx : X.fn x = true ∨ X.env.scope.names.lookup x = some .local := by first | exact Or.inr rfl | exact Or.inl rfl) (hl : Loc X.env.scope x := by first | exact Or.inl rfl | exact Or.inr rfl) (hs1 : starEach [e1, e2] X.env = (false, eval e1 X.env) :: starEach [e2] X.env := by rfl) (hs2 : starEach [e2] X.env = (false, eval e2 X.env) :: starEach [] X.env := by rfl)
    (hsw : swapsWithSole [.Name x p1] (.List [e1, e2] p2) p3.line X.env = pure false := by rfl) (hw : swappedStores [.Name x p1] (.List [e1, e2] p2) X.env = pure none := by rfl) : RS X (.Assign [.Name x p1] (.List [e1, e2] p2) p3) D σ H := by
  subst hs
  refine rs_asg (r_lst (ra_cons (E1.run rfl ed fun q1 H1 s1 h1 => ra_cons (E2.run rfl (s1 _ _ ed) fun q2 H2 s2 h2 => ra_nil ⟨by show 2 ≤ sizeLine; decide, fun L hL => ?_⟩) hs2) hs1)) hsw hw
  have s3 := fun o => same_new (o := o) hL
  exact rg_name 1 hN (k _ _ ⟨L, [.ref q1, .ref q2], rfl, upd_same, .cons ⟨q1, rfl, s3 _ _ _ (s2 _ _ h1)⟩ (.cons ⟨q2, rfl, s3 _ _ _ h2⟩ .nil), by show 2 < 100; decide, s1.trans (s2.trans (s3 _))⟩) hx hl hfx
theorem kin_add2 (E1 : Ent X a dd e1 b1 z1) (E2 : Ent X a dd e2 b2 z2) (hN : X.N.Nodup) (h0 : KinS H0 a l σ H) (k : ∀ σ' H', KinS H0 a (l ++ [(b1, z1), (b2, z2)]) σ' H' → D.nx σ' H') (ed : H0 dd = some (.xd fs)) (hl2 : (l ++ [(b1, z1), (b2, z2)]).length < 100 := by decide)
    (hx : X.N[1]? = some x := by rfl) (hfx : X.fn x = true ∨ X.env.scope.names.lookup x = some .local := by first | exact Or.inr rfl | exact Or.inl rfl) (hl : Loc X.env.scope x := by first | exact Or.inl rfl | exact Or.inr rfl) (hv : Vis X.env.scope x := by first | exact Or.inl rfl | exact Or.inr (Or.inl rfl) | exact Or.inr (Or.inr rfl)) (hd : (x == ("__debug__" : Str)) = false := by decide) (hcd : (x == ("__classdict__" : Str)) = false := by decide)
    (hs1 : starEach [e1, e2] X.env = (false, eval e1 X.env) :: starEach [e2] X.env := by rfl) (hs2 : starEach [e2] X.env = (false, eval e2 X.env) :: starEach [] X.env := by rfl)
    (hsw : swapsWithSole [.Name x p1] (.BinOp (.Name x p4) .Add (.List [e1, e2] p2) p5) p3.line X.env = pure false := by rfl) (hw : swappedStores [.Name x p1] (.BinOp (.Name x p4) .Add (.List [e1, e2] p2) p5) X.env = pure none := by rfl) : RS X (.Assign [.Name x p1] (.BinOp (.Name x p4) .Add (.List [e1, e2] p2) p5) p3) D σ H := by
  obtain ⟨L, xs, rfl, hL, hk, hlen, s0⟩ := h0
  have hxl : xs.length = l.length := Paired.length hk
  refine rs_asg (r_add (r_var 1 (gv rfl (r_lst (ra_cons (E1.run rfl (s0 _ _ ed) fun q1 H1 s1 h1 => ra_cons (E2.run rfl (s1 _ _ (s0 _ _ ed)) fun q2 H2 s2 h2 => ra_nil ⟨by show 2 ≤ sizeLine; decide, fun M hM => ?_⟩) hs2) hs1))) hx hv hd hcd)) hsw hw
  have s3 := fun o => same_new (o := o) hM
  refine ⟨xs, [.ref q1, .ref q2], s3 _ _ _ (s2 _ _ (s1 _ _ hL)), upd_same, by show xs.length + 2 ≤ sizeLine; exact Nat.le_trans (show xs.length + 2 ≤ 102 by omega) (by decide), fun L' hL' => ?_⟩
  have s4 := fun o => same_new (o := o) hL'
  have sa := s1.trans (s2.trans ((s3 (.lst [.ref q1, .ref q2])).trans (s4 (.lst (xs ++ [.ref q1, .ref q2])))))
  exact rg_name 1 hN (k _ _ ⟨L', xs ++ [.ref q1, .ref q2], rfl, upd_same, (hk.ext sa).app (.cons ⟨q1, rfl, s4 _ _ _ (s3 _ _ _ (s2 _ _ h1))⟩ (.cons ⟨q2, rfl, s4 _ _ _ (s3 _ _ _ h2)⟩ .nil)), hl2, s0.trans sa⟩) hx hl hfx
theorem kin_add1 (E1 : Ent X a dd e1 b1 z1) (hN : X.N.Nodup) (h0 : KinS H0 a l σ H) (k : ∀ σ' H', KinS H0 a (l ++ [(b1, z1)]) σ' H' → D.nx σ' H') (ed : H0 dd = some (.xd fs)) (hl2 : (l ++ [(b1, z1)]).length < 100 := by decide)
    (hx : X.N[1]? = some x := by rfl) (hfx : X.fn x = true ∨ X.env.scope.names.lookup x = some .local := by first | exact Or.inr rfl | exact Or.inl rfl) (hl : Loc X.env.scope x := by first | exact Or.inl rfl | exact Or.inr rfl) (hv : Vis X.env.scope x := by first | exact Or.inl rfl | exact Or.inr (Or.inl rfl) | exact Or.inr (Or.inr rfl)) (hd : (x == ("__debug__" : Str)) = false := by decide) (hcd : (x == ("__classdict__" : Str)) = false := by decide)
    (hs1 : starEach [e1] X.env = (false, eval e1 X.env) :: starEach [] X.env := by rfl)
    (hsw : swapsWithSole [.Name x p1] (.BinOp (.Name x p4) .Add (.List [e1] p2) p5) p3.line X.env = pure false := by rfl) (hw : swappedStores [.Name x p1] (.BinOp (.Name x p4) .Add (.List [e1] p2) p5) X.env = pure none := by rfl) : RS X (.Assign [.Name x p1] (.BinOp (.Name x p4) .Add (.List [e1] p2) p5) p3) D σ H := by
  obtain ⟨L, xs, rfl, hL, hk, hlen, s0⟩ := h0
  have hxl : xs.length = l.length := Paired.length hk
  refine rs_asg (r_add (r_var 1 (gv rfl (r_lst (ra_cons (E1.run rfl (s0 _ _ ed) fun q1 H1 s1 h1 => ra_nil ⟨by show 1 ≤ sizeLine; decide, fun M hM => ?_⟩) hs1))) hx hv hd hcd)) hsw hw
  have s3 := fun o => same_new (o := o) hM
  refine ⟨xs, [.ref q1], s3 _ _ _ (s1 _ _ hL), upd_same, by show xs.length + 1 ≤ sizeLine; exact Nat.le_trans (show xs.length + 1 ≤ 102 by omega) (by decide), fun L' hL' => ?_⟩
  have s4 := fun o => same_new (o := o) hL'
  have sa := s1.trans ((s3 (.lst [.ref q1])).trans (s4 (.lst (xs ++ [.ref q1]))))
  exact rg_name 1 hN (k _ _ ⟨L', xs ++ [.ref q1], rfl, upd_same, (hk.ext sa).app (.cons ⟨q1, rfl, s4 _ _ _ (s3 _ _ _ h1)⟩ .nil), hl2, s0.trans sa⟩) hx hl hfx
end
def kP (l : List (Bool × Str)) (i : Nat) : Bool := ((l[i]?).map (·.1)).getD false
def kG (l : List (Bool × Str)) (i : Nat) : V := .str (((l[i]?).map (·.2)).getD "")
def sp_w_kin (K : PySem.W.Frag) : Addr × Obj → Sp := fun po vs H Q _ => ∃ (dd : Addr) (fs : List (Str × V)), vs = [.ref po.1] ∧ Zc (.ref (He.ga K "Broken")) (some dd) po.2 ∧ (∃ vs, po.2.data = .fields vs) ∧ H dd = some (.xd fs) ∧ ∀ H', Same H H' → Q (.str "A NoAnswer Broken") H'
section
variable {P : Program} {w : World} {K : PySem.W.Frag} {mg : Str → Option Value} {base : Heap}
theorem sc_w_kin : FnScope ["_law_e", "_law_found", "_law_entry"] ["_law_e"] (defScope s_w_kin) := ⟨rfl, rfl, rfl, by decide +kernel, rfl, by decide +kernel, by decide +kernel⟩
theorem h_w_kin (e : EV w K mg base) (B : BrkF K) : HasT P w K mg base 2 "_law_kin" ["_law_e"] (sp_w_kin K) := by
  refine mk_hasT (d := d_w_kin) e.g_w_kin e.f_w_kin sc_w_kin (fun _ _ _ _ _ _ us hl => match us, hl with | [_], _ => rfl) (fun p vs H Q E h => by obtain ⟨_, _, rfl, _⟩ := h; rfl) (fun cdv A outer s H vs Q E p hot hr hc h => ?_)
  obtain ⟨dd, fs, rfl, hz, hf, ed, k⟩ := h
  have hp : p ∈ (cxT P w K mg base ["_law_e", "_law_found", "_law_entry"] d_w_kin cdv A outer s H E p).nox.pn := by show p ∈ [p]; simp
  refine rb_cons (kin_first (ent_ty (n := "ValueError") (N := "ValueError") (z := "V") (b := false) e.z_isinstance e.z_ValueError (by decide +kernel) B.x (B.kT _ _ (by decide)) hp hz hf) (ent_ty (n := "LookupError") (N := "LookupError") (z := "L") (b := false) e.z_isinstance e.z_LookupError (by decide +kernel) B.x (B.kT _ _ (by decide)) hp hz hf) sc_w_kin.nd rfl ed fun σ0 H0 K0 => ?_)
  refine rb_cons (kin_add2 (ent_ty (n := "ArithmeticError") (N := "ArithmeticError") (z := "A") (b := true) e.z_isinstance e.z_ArithmeticError (by decide +kernel) B.x (B.kT _ _ (by decide)) hp hz hf) (ent_own (n := "BadValue") (z := "BadValue") (b := false) e.z_isinstance e.g_BadValue B.x (B.kO _ _ (by decide)) hp hz hf) sc_w_kin.nd K0 (fun σ1 H1 K1 => ?_) ed)
  refine rb_cons (kin_add1 (ent_own (n := "BadName") (z := "BadName") (b := false) e.z_isinstance e.g_BadName B.x (B.kO _ _ (by decide)) hp hz hf) sc_w_kin.nd K1 (fun σ2 H2 K2 => ?_) ed)
  refine rb_cons (kin_add2 (ent_own (n := "NoAnswer") (z := "NoAnswer") (b := true) e.z_isinstance e.g_NoAnswer B.x (B.kO _ _ (by decide)) hp hz hf) (ent_own (n := "InvalidText") (z := "InvalidText") (b := false) e.z_isinstance e.g_InvalidText B.x (B.kO _ _ (by decide)) hp hz hf) sc_w_kin.nd K2 (fun σ3 H3 K3 => ?_) ed)
  refine rb_cons (kin_add2 (ent_own (n := "InvalidRow") (z := "InvalidRow") (b := false) e.z_isinstance e.g_InvalidRow B.x (B.kO _ _ (by decide)) hp hz hf) (ent_own (n := "InvalidColumns") (z := "InvalidColumns") (b := false) e.z_isinstance e.g_InvalidColumns B.x (B.kO _ _ (by decide)) hp hz hf) sc_w_kin.nd K3 (fun σ4 H4 K4 => ?_) ed)
  refine rb_cons (kin_add2 (ent_own (n := "InvalidSwap") (z := "InvalidSwap") (b := false) e.z_isinstance e.g_InvalidSwap B.x (B.kO _ _ (by decide)) hp hz hf) (ent_own (n := "InvalidNumber") (z := "InvalidNumber") (b := false) e.z_isinstance e.g_InvalidNumber B.x (B.kO _ _ (by decide)) hp hz hf) sc_w_kin.nd K4 (fun σ5 H5 K5 => ?_) ed)
  refine rb_cons (kin_add2 (ent_own (n := "InvalidName") (z := "InvalidName") (b := false) e.z_isinstance e.g_InvalidName B.x (B.kO _ _ (by decide)) hp hz hf) (ent_own (n := "InvalidIndex") (z := "InvalidIndex") (b := false) e.z_isinstance e.g_InvalidIndex B.x (B.kO _ _ (by decide)) hp hz hf) sc_w_kin.nd K5 (fun σ6 H6 K6 => ?_) ed)
  refine rb_cons (kin_add2 (ent_own (n := "InvalidClaim") (z := "InvalidClaim") (b := false) e.z_isinstance e.g_InvalidClaim B.x (B.kO _ _ (by decide)) hp hz hf) (ent_own (n := "InvalidHole") (z := "InvalidHole") (b := false) e.z_isinstance e.g_InvalidHole B.x (B.kO _ _ (by decide)) hp hz hf) sc_w_kin.nd K6 (fun σ7 H7 K7 => ?_) ed)
  refine rb_cons (kin_add2 (ent_own (n := "NotAModel") (z := "NotAModel") (b := false) e.z_isinstance e.g_NotAModel B.x (B.kO _ _ (by decide)) hp hz hf) (ent_own (n := "NotATable") (z := "NotATable") (b := false) e.z_isinstance e.g_NotATable B.x (B.kO _ _ (by decide)) hp hz hf) sc_w_kin.nd K7 (fun σ8 H8 K8 => ?_) ed)
  refine rb_cons (kin_add2 (ent_own (n := "InvalidCounts") (z := "InvalidCounts") (b := false) e.z_isinstance e.g_InvalidCounts B.x (B.kO _ _ (by decide)) hp hz hf) (ent_own (n := "InvalidRows") (z := "InvalidRows") (b := false) e.z_isinstance e.g_InvalidRows B.x (B.kO _ _ (by decide)) hp hz hf) sc_w_kin.nd K8 (fun σ9 H9 K9 => ?_) ed)
  refine rb_cons (kin_add2 (ent_own (n := "InvalidSums") (z := "InvalidSums") (b := false) e.z_isinstance e.g_InvalidSums B.x (B.kO _ _ (by decide)) hp hz hf) (ent_own (n := "InvalidPairs") (z := "InvalidPairs") (b := false) e.z_isinstance e.g_InvalidPairs B.x (B.kO _ _ (by decide)) hp hz hf) sc_w_kin.nd K9 (fun σ10 H10 K10 => ?_) ed)
  refine rb_cons (kin_add2 (ent_own (n := "UnknownName") (z := "UnknownName") (b := false) e.z_isinstance e.g_UnknownName B.x (B.kO _ _ (by decide)) hp hz hf) (ent_own (n := "InUse") (z := "InUse") (b := false) e.z_isinstance e.g_InUse B.x (B.kO _ _ (by decide)) hp hz hf) sc_w_kin.nd K10 (fun σ11 H11 K11 => ?_) ed)
  refine rb_cons (kin_add2 (ent_own (n := "OtherModels") (z := "OtherModels") (b := false) e.z_isinstance e.g_OtherModels B.x (B.kO _ _ (by decide)) hp hz hf) (ent_own (n := "NotAlike") (z := "NotAlike") (b := false) e.z_isinstance e.g_NotAlike B.x (B.kO _ _ (by decide)) hp hz hf) sc_w_kin.nd K11 (fun σ12 H12 K12 => ?_) ed)
  refine rb_cons (kin_add2 (ent_own (n := "TooMany") (z := "TooMany") (b := false) e.z_isinstance e.g_TooMany B.x (B.kO _ _ (by decide)) hp hz hf) (ent_own (n := "NothingToUndo") (z := "NothingToUndo") (b := false) e.z_isinstance e.g_NothingToUndo B.x (B.kO _ _ (by decide)) hp hz hf) sc_w_kin.nd K12 (fun σ13 H13 K13 => ?_) ed)
  refine rb_cons (kin_add2 (ent_own (n := "NotAsked") (z := "NotAsked") (b := false) e.z_isinstance e.g_NotAsked B.x (B.kO _ _ (by decide)) hp hz hf) (ent_own (n := "Broken") (z := "Broken") (b := true) e.z_isinstance e.g_Broken B.x (B.kO _ _ (by decide)) hp hz hf) sc_w_kin.nd K13 (fun σ14 H14 K14 => ?_) ed)
  have K15 : ∃ l, KinS H p.1 l σ14 H14 ∧ ((List.range l.length).filter (kP l)).map (kG l) = [V.str (S [65]), V.str (S [78, 111, 65, 110, 115, 119, 101, 114]), V.str (S [66, 114, 111, 107, 101, 110])] := ⟨_, K14, by decide +kernel⟩
  clear K14
  obtain ⟨l, ⟨L, xs, rfl, hL, hk, hlen, s0⟩, hkey⟩ := K15
  have hxl : xs.length = l.length := Paired.length hk
  refine rb_one (rs_ret (r_join (r_str ⟨[32], rfl, ra_cons (r_lcH [("_law_entry", 2)] hc sc_w_kin.nd (blkOk_by (N := ["_law_e", "_law_found", "_law_entry"]) (sc := defScope s_w_kin) (own := [("_law_entry", 2)]) (by decide +kernel)) (r_var 1 ⟨L, rfl, ⟨xs, SqL.of hL⟩, fun D hD => ?_⟩))⟩)))
  refine lc_p 2 walk_list hD (fun H' s => SqL.of (s _ _ hL)) (fun i H x H' y => by rw [y.1]; exact Same.refl _) (kP l) (kG l) (by rw [hxl]; exact Nat.lt_trans hlen (by decide)) (fun i v H2 H3 hi s1 y => ?_) (fun H1 s1 hd => ?_) sc_w_kin.nd
  · obtain ⟨rfl, hy⟩ := y
    obtain ⟨q, ⟨b, z⟩, rfl, hb, hq⟩ := hk.get hy
    have hP : kP l i = b := by unfold kP; rw [hb]; rfl
    have hG : kG l i = .str z := by unfold kG; rw [hb]; rfl
    intro s0 H0 C cl fp
    refine rts_one (rt_val (r_ix (r_var 2 (r_int ⟨_, _, .inl (SqL.of (s1 _ _ hq)), at0, ?_⟩))))
    rw [hP, hG]
    cases b with
    | true =>
      refine ⟨rfl, iteT ?_⟩
      intro s0 H0 C cl fp
      exact r_ix (r_var 2 (r_int ⟨_, _, .inl (SqL.of (s1 _ _ hq)), at1, Same.refl _, rfl⟩))
    | false => exact ⟨rfl, Same.refl _⟩
  · rw [hxl, hkey] at hd
    refine ra_nil ⟨D, [[65], [78, 111, 65, 110, 115, 119, 101, 114], [66, 114, 111, 107, 101, 110]], rfl, .inl (SqL.of hd), by decide, ?_⟩
    exact k _ (s0.trans s1)
end
end My

set_option Elab.async false
set_option pp.maxSteps 1500
set_option linter.all false
set_option maxRecDepth 100000
set_option maxHeartbeats 4000000
/-! Y4: _law_tale of Broken -/
namespace My
open PySem PySem.Spec PyProof.Rows L2 TL
def sp_w_tale (K : PySem.W.Frag) : Addr × Obj → Sp := fun po vs H Q _ => ∃ (dd : Addr) (iv sv : V), vs = [.ref po.1] ∧ Zc (.ref (He.ga K "Broken")) (some dd) po.2 ∧ (∃ vs, po.2.data = .fields vs) ∧ H dd = some (.xd [("shown", sv), ("index", iv)]) ∧
  ∀ q t H', Same H H' → H' t = some (.tup [iv, sv]) → H' q = some (.tup [.str "Broken", .ref t]) → Q (.ref q) H'
/-- no word of the list makes the kin -/
def noKin (p : Str) (ws : List Str) : Bool := ws.all fun w => !decide (V.str "A NoAnswer Broken" = V.str (p ++ w)) && decide (p.length + w.length ≤ sizeLine)
theorem noKin_ok {p : Str} {ws : List Str} (h : noKin p ws = true) {i : Nat} {x : V} (hx : (ws.map V.str)[i]? = some x) : ∃ w, x = .str w ∧ decide (V.str "A NoAnswer Broken" = V.str (p ++ w)) = false ∧ p.length + w.length ≤ sizeLine := by
  obtain ⟨w, hw, rfl⟩ := List.mem_map.mp (List.mem_of_getElem? hx)
  have q := List.all_eq_true.mp h w hw
  simp only [Bool.and_eq_true, Bool.not_eq_true', decide_eq_true_eq] at q
  exact ⟨w, rfl, q.1, q.2⟩
section
variable {P : Program} {w : World} {K : PySem.W.Frag} {mg : Str → Option Value} {base : Heap}
theorem sc_w_tale : FnScope ["_law_e", "_law_kin_here", "_law_word"] ["_law_e"] (defScope s_w_tale) := ⟨rfl, rfl, rfl, by decide +kernel, rfl, by decide +kernel, by decide +kernel⟩
theorem h_w_tale (e : EV w K mg base) (B : BrkF K) : HasT P w K mg base 3 "_law_tale" ["_law_e"] (sp_w_tale K) := by
  refine mk_hasT (d := d_w_tale) e.g_w_tale e.f_w_tale sc_w_tale (fun _ _ _ _ _ _ us hl => match us, hl with | [_], _ => rfl) (fun p vs H Q E h => by obtain ⟨_, _, _, rfl, _⟩ := h; rfl) (fun cdv A outer s H vs Q E p hot hr hc h => ?_)
  obtain ⟨dd, iv, sv, rfl, hz, hf, ed, k⟩ := h
  have hp : p ∈ (cxT P w K mg base ["_law_e", "_law_kin_here", "_law_word"] d_w_tale cdv A outer s H E p).nox.pn := by show p ∈ [p]; simp
  have hot' : L2H.Hot1 (cxT P w K mg base ["_law_e", "_law_kin_here", "_law_word"] d_w_tale cdv A outer s H E p).nox.A p := hot
  have hu : (cxT P w K mg base ["_law_e", "_law_kin_here", "_law_word"] d_w_tale cdv A outer s H E p).nox.A.units + 64 < cLine := by have := hr.un; show (A.deeper _).units + 64 < cLine; omega
  refine rb_cons (rs_set 1 sc_w_tale.nd (r_callT (h_w_kin e B) hr hot' hp (ra_cons (r_var 0 (ra_nil ⟨dd, _, rfl, hz, hf, ed, fun H1 s1 => ?_⟩)))))
  refine rb_cons (rs_forLH PassesOwn.never hc (r_lst (ra_cons (r_str (ra_cons (r_str (ra_cons (r_str (ra_cons (r_str (ra_cons (r_str (ra_cons (r_str (ra_cons (r_str (ra_cons (r_str (ra_cons (r_str (ra_cons (r_str (ra_cons (r_str (ra_nil ⟨by show 11 ≤ sizeLine; decide, fun L1 hL1 => ?_⟩)))))))))))))))))))))))))
  refine ⟨L1, (["InvalidText", "InvalidRow", "InvalidColumns", "InvalidSwap", "InvalidNumber", "InvalidName", "InvalidIndex", "InvalidClaim", "InvalidHole", "NotAModel", "NotATable"] : List Str).map V.str, rfl, SqL.of upd_same, fun i σ' H' => Same (upd H1 L1 (.lst ((["InvalidText", "InvalidRow", "InvalidColumns", "InvalidSwap", "InvalidNumber", "InvalidName", "InvalidIndex", "InvalidClaim", "InvalidHole", "NotAModel", "NotATable"] : List Str).map V.str))) H' ∧ ∃ v2, σ' = [some (.ref p.1), some (.str "A NoAnswer Broken"), v2], ⟨Same.refl _, _, rfl⟩, fun i σ' H' h => SqL.of (h.1 _ _ upd_same), ?_, ?_⟩
  · rintro i σ' H' x ⟨s2, v2, rfl⟩ hx
    obtain ⟨z, rfl, h1, h2⟩ := noKin_ok (p := "V BadValue ") (by decide +kernel) hx
    refine rg_name 2 sc_w_tale.nd (rb_one (rs_if (rt_eq hu (r_var 1 (r_add (r_str (r_var 2 ⟨h2, eq_ss (b_no h1 (rb_nil ⟨s2, _, rfl⟩))⟩)))))))
  rintro σ2 H2 ⟨s2, v2, rfl⟩
  have sl2 := s1.trans ((same_new (o := .lst ((["InvalidText", "InvalidRow", "InvalidColumns", "InvalidSwap", "InvalidNumber", "InvalidName", "InvalidIndex", "InvalidClaim", "InvalidHole", "NotAModel", "NotATable"] : List Str).map V.str)) hL1).trans s2)
  refine rb_cons (rs_forLH PassesOwn.never hc (r_lst (ra_cons (r_str (ra_cons (r_str (ra_cons (r_str (ra_cons (r_str (ra_nil ⟨by show 4 ≤ sizeLine; decide, fun L2 hL2 => ?_⟩)))))))))))
  refine ⟨L2, (["InvalidCounts", "InvalidRows", "InvalidSums", "InvalidPairs"] : List Str).map V.str, rfl, SqL.of upd_same, fun i σ' H' => Same (upd H2 L2 (.lst ((["InvalidCounts", "InvalidRows", "InvalidSums", "InvalidPairs"] : List Str).map V.str))) H' ∧ ∃ v2, σ' = [some (.ref p.1), some (.str "A NoAnswer Broken"), v2], ⟨Same.refl _, _, rfl⟩, fun i σ' H' h => SqL.of (h.1 _ _ upd_same), ?_, ?_⟩
  · rintro i σ' H' x ⟨s2, v2, rfl⟩ hx
    obtain ⟨z, rfl, h1, h2⟩ := noKin_ok (p := "V BadValue ") (by decide +kernel) hx
    refine rg_name 2 sc_w_tale.nd (rb_one (rs_if (rt_eq hu (r_var 1 (r_add (r_str (r_var 2 ⟨h2, eq_ss (b_no h1 (rb_nil ⟨s2, _, rfl⟩))⟩)))))))
  rintro σ3 H3 ⟨s3, v3, rfl⟩
  have sl3 := sl2.trans ((same_new (o := .lst ((["InvalidCounts", "InvalidRows", "InvalidSums", "InvalidPairs"] : List Str).map V.str)) hL2).trans s3)
  refine rb_cons (rs_forLH PassesOwn.never hc (r_lst (ra_cons (r_str (ra_cons (r_str (ra_cons (r_str (ra_nil ⟨by show 3 ≤ sizeLine; decide, fun L3 hL3 => ?_⟩)))))))))
  refine ⟨L3, (["OtherModels", "NotAlike", "NothingToUndo"] : List Str).map V.str, rfl, SqL.of upd_same, fun i σ' H' => Same (upd H3 L3 (.lst ((["OtherModels", "NotAlike", "NothingToUndo"] : List Str).map V.str))) H' ∧ ∃ v2, σ' = [some (.ref p.1), some (.str "A NoAnswer Broken"), v2], ⟨Same.refl _, _, rfl⟩, fun i σ' H' h => SqL.of (h.1 _ _ upd_same), ?_, ?_⟩
  · rintro i σ' H' x ⟨s2, v2, rfl⟩ hx
    obtain ⟨z, rfl, h1, h2⟩ := noKin_ok (p := "A NoAnswer ") (by decide +kernel) hx
    refine rg_name 2 sc_w_tale.nd (rb_one (rs_if (rt_eq hu (r_var 1 (r_add (r_str (r_var 2 ⟨h2, eq_ss (b_no h1 (rb_nil ⟨s2, _, rfl⟩))⟩)))))))
  rintro σ4 H4 ⟨s4, v4, rfl⟩
  have sl4 := sl3.trans ((same_new (o := .lst ((["OtherModels", "NotAlike", "NothingToUndo"] : List Str).map V.str)) hL3).trans s4)
  refine rb_cons (rs_if (rt_eq hu (r_var 1 (r_str (eq_ss (b_no (b := decide (V.str "A NoAnswer Broken" = V.str "L BadName UnknownName")) (by decide +kernel) (rb_nil ?_)))))))
  refine rb_cons (rs_if (rt_in (r_var 1 (r_lst (ra_cons (r_str (ra_cons (r_str (ra_nil ⟨by show 2 ≤ sizeLine; decide, fun L4 hL4 => ⟨_, .inl (SqL.of upd_same), rfl, rfl, b_no (b := inV (V.str "A NoAnswer Broken") [V.str "L BadName InUse", V.str "A NoAnswer NotAsked"]) (by decide +kernel) (rb_nil ?_)⟩⟩)))))))))
  refine rb_cons (rs_if (rt_eq hu (r_var 1 (r_str (eq_ss (b_no (b := decide (V.str "A NoAnswer Broken" = V.str "A NoAnswer TooMany")) (by decide +kernel) (rb_nil ?_)))))))
  have sl5 := sl4.trans (same_new (o := .lst [V.str "L BadName InUse", V.str "A NoAnswer NotAsked"]) hL4)
  have ed5 := sl5 _ _ ed
  refine rb_one (rs_ret (r_if (rt_eq hu (r_var 1 (r_str (eq_ss (b_yes (b := decide (V.str "A NoAnswer Broken" = V.str "A NoAnswer Broken")) (by decide +kernel) ?_)))))))
  refine r_tup (ra_cons (r_str (ra_cons (r_tup (ra_cons (r_xf B.f B.b.n1 hp hz hf (r_var 0 ⟨rfl, _, iv, ed5, rfl, ra_cons (r_xf B.f B.b.n2 hp hz hf (r_var 0 ⟨rfl, _, sv, ed5, rfl, ra_nil ⟨by show 2 ≤ sizeLine; decide, fun t ht => ra_nil ⟨by show 2 ≤ sizeLine; decide, fun q hq => ?_⟩⟩⟩))⟩)))))))
  have st := same_new (o := .tup [iv, sv]) ht
  have sq := same_new (o := .tup [V.str "Broken", V.ref t]) hq
  exact k q t _ (sl5.trans (st.trans sq)) (sq _ _ upd_same) upd_same
end
end My

set_option Elab.async false
set_option pp.maxSteps 1500
set_option linter.all false
set_option maxRecDepth 100000
set_option maxHeartbeats 4000000
/-! Y5: a, b = tuple while an exception is handled; try: .. except (A, B, C) as e: .. -/
namespace My
open PySem PySem.Spec PyProof.Rows L2
section
variable {prog : Program} {w : World} {A : Around} {E : Value → Shared → Prop} {s : Shared}
theorem tu_end_hot {it t x1 : Addr} {i : Nat} {items : Array Value} {Q : Option Value → Shared → Prop} (hot : HotX.HotAt A x1 s.heap) (hit : IsTupIter s.heap it t i) (ht : IsTup s.heap t items) (hx : items[i]? = none) (hne : x1 ≠ it)
    (hQ : ∀ h', Heap.ExtBut it s.heap h' → Q none { s with heap := h' }) : wpAny (model prog w) A (pyNext (.ref it)) Q E s := by
  have it0 := hit
  obtain ⟨oi, gi, ci, di⟩ := it0
  obtain ⟨ol, gl, _, nl, dl⟩ := ht
  obtain ⟨hh, o1, vs1, h1, d1, c1⟩ := hot
  unfold pyNext
  refine wpAny_bind (wpAny_attempt (wpAny_callSpecial?_slot (name := Str.ofString "__next__") hit.typeIs slot_tupleiter_next (wpAny_call_entry slot_tupleiter_next hit.typeIs entry_tupleiter_next ?_ (args_tupleiter_next _))))
  show wpAny _ _ (field (.ref it) 0 >>= _) _ _ s
  refine wpAny_bind (wpAny_field gi di (x := .ref t) rfl ?_)
  show wpAny _ _ (if (Value.ref t == Value.none) = true then _ else _) _ _ s
  rw [if_neg (show ¬ ((Value.ref t == Value.none) = true) from Bool.false_ne_true)]
  show wpAny _ _ (field (.ref it) 1 >>= _) _ _ s
  refine wpAny_bind (wpAny_field gi di (x := .int i 0) rfl ?_)
  show wpAny _ _ (seqItems? (.ref t) >>= _) _ _ s
  refine wpAny_bind (wpAny_seqItems gl dl ?_)
  simp only [Int.toNat_natCast, hx]
  refine wpAny_bind (wpAny_rule (wpAny_bind (wpAny_setField gi di (by simp) ?_)))
  show wpAny _ _ (newExc (.type "StopIteration") [] >>= _) _ _ _
  refine wpAny_bind ?_
  simp only [newExc, newTuple]
  refine wpAny_bind (wpAny_newObj_type ?_ (by size_fits))
  refine wpAny_bind (m := firstArgMember _ _) (wpAny_of_eq (a := Value.none) (by first | rfl | (simp only [firstArgMember]; rfl)) ?_)
  refine wpAny_newObj_type ?_ (by size_fits)
  have k1 : (s.heap.update it (Obj.mapFields (·.setIfInBounds 0 .none))).get? x1 = some o1 := by
    rw [Heap.get?_update_other _ _ (fun y => hne y.symm)]
    exact h1
  refine HotX.raiseNew_hot ⟨hh, o1, vs1, Heap.get?_push_of_some _ (Heap.get?_push_of_some _ k1), d1, c1⟩ (Nat.ne_of_lt (Heap.lt_size (Heap.get?_push_of_some _ k1))) (Heap.get?_push_size _ rfl) rfl (by first | (simp; done) | (simp; omega) | (simp only [Array.size_append]; simp; omega)) ?_
  refine wpAny_bind (wpAny_isInstance (T := "StopIteration") (b := true) ⟨_, Heap.get?_update_self _ (Heap.get?_push_size _ rfl) rfl, rfl⟩ isSubtype_stop ?_)
  refine wpAny_pure (hQ _ fun b o hb e => ?_)
  have k2 : (s.heap.update it (Obj.mapFields (·.setIfInBounds 0 .none))).get? b = some o := by
    rw [Heap.get?_update_other _ _ (fun y => hb y.symm)]
    exact e
  rw [Heap.get?_update_other _ _ (Nat.ne_of_gt (Heap.lt_size (Heap.get?_push_of_some _ k2)))]
  exact Heap.get?_push_of_some _ (Heap.get?_push_of_some _ k2)
theorem unpack_hot {t x1 : Addr} {items : Array Value} {targets : List (Bool × (Value → Sem Unit))} {Q : Unit → Shared → Prop} (hot : HotX.HotAt A x1 s.heap) (ht : IsTup s.heap t items) (hn : targets.length = items.size) (hstar : targets.findIdx? (·.1) = none)
    (h : ∀ h', Heap.ExtBut s.heap.objs.size s.heap h' → wpAny (model prog w) A (assignInOrder (targets.map (·.2)) items.toList) Q E { s with heap := h' }) : wpAny (model prog w) A (unpack (.ref t) targets) Q E s := by
  have hlt : t ≠ s.heap.objs.size := by
    obtain ⟨o, ho, _⟩ := ht
    exact Nat.ne_of_lt (Heap.lt_size ho)
  obtain ⟨hh, o1, vs1, h1, d1, c1⟩ := hot
  have hx1 : x1 ≠ s.heap.objs.size := Nat.ne_of_lt (Heap.lt_size h1)
  have hall : List.take items.size (List.drop 0 items.toList) = items.toList := by
    rw [List.drop_zero]
    exact List.take_of_length_le (by simp)
  unfold unpack unpackItems notIterableAtAll
  rw [hn, hstar]
  refine wpAny_bind (wpAny_holding (wpAny_bind (wpAny_bind (wpAny_specialOf ht.typeIs slot_tuple_iter.lookup (wpAny_pure ?_)))))
  simp only [Bool.false_eq_true, if_false]
  refine wpAny_bind (wpAny_holding (iter_tuple ht ?_))
  refine wpAny_bind (wpAny_holding (draw_tuple hlt items.size 0 _ _ ⟨_, Heap.get?_push_size _ rfl, rfl, rfl⟩ (ht.push _) (by omega) fun h₁ hit₁ hs₁ => ?_))
  rw [hall, if_neg (by simp)]
  have hot1 : HotX.HotAt A x1 h₁ := ⟨hh, o1, vs1, hs₁.extBut x1 o1 hx1 (Heap.get?_push_of_some _ h1), d1, c1⟩
  refine wpAny_bind (wpAny_holding (tu_end_hot hot1 hit₁ ((ht.push _).extBut hs₁.extBut hlt) (by simp) hx1 fun h₂ he₂ => ?_))
  simp only [Option.isSome_none, Bool.false_eq_true, if_false]
  exact wpAny_pure (h h₂ fun b o hb e => he₂ b o hb (hs₁.extBut b o hb (Heap.get?_push_of_some _ e)))
end
section
variable {X : Cx} {σ : L2.St} {H : Hy} {D : Ends} {pos : Pos} {es : List Expr}
theorem rg_tupH {k : Nat} {kk} {v : V} {QG : L2.St → Hy → Prop} (hc : HotI X) (h : ∃ a xs, v = .ref a ∧ SqT X.K H a xs ∧ xs.length = k ∧ RGs X es xs σ H QG) (hn : (assignEach es X.env).length = k := by rfl) (hst : (assignEach es X.env).findIdx? (·.1) = none := by rfl) : RG X (.Tuple es kk pos) v σ H QG := by
  refine ⟨fun v σ H Q => ∃ a xs, v = .ref a ∧ SqT X.K H a xs ∧ xs.length = k ∧ RGs X es xs σ H Q, ⟨fun pins s σ H v u Q I r hw => ?_⟩, h⟩
  obtain ⟨a, xs, e1, hq, hl, hw⟩ := hw
  subst e1
  cases r
  obtain ⟨its, rv, ht, hz⟩ := I.tuple hq
  obtain ⟨x1, hot⟩ := hc.at I
  rw [assign_Tuple]
  refine wpAny_bind (wpAny_standAt (unpack_hot hot ht (by simp [hn, ← hl, rv.length]) hst fun h' hx => ?_))
  have I1 : L2.Inv X pins σ H { s with heap := h' } := I.kept (t' := s.toks) fun b o e => hx b o (Nat.ne_of_lt (Heap.lt_size e)) e
  exact pRGs.run pins _ σ H xs _ Q I1 (by simpa using rv) hw
end
theorem fly_keeps {B h h' : Heap} {l : List Env} {a : Addr} {Z : Obj → Prop} (x : HandSPX.FlyingZ B l a Z h) (k : ∀ b o, h.get? b = some o → h'.get? b = some o) : HandSPX.FlyingZ B l a Z h' := by
  obtain ⟨f1, f2, f3, oe, vs, T, oT, ts, he, hz, hd, h1, hn, hne, hT, hdT, h3⟩ := x
  exact ⟨fun b o q => k b o (f1 b o q), f2, f3.of_keeps fun b o q _ => ⟨o, k b o q, rfl⟩, oe, vs, T, oT, ts, k _ _ he, hz, hd, h1, hn, hne, k _ _ hT, hdT, h3⟩
/-- behind an except suite its name is gone -/
def asEnds (i : Nat) (D : Ends) : Ends := { nx := fun σ H => D.nx (σ.set i none) H, rt := D.rt, bk := fun σ H => D.bk (σ.set i none) H, ct := fun σ H => D.ct (σ.set i none) H }
/-- what is asked of an exception of the body: it is of one of the three classes, the suite goes well -/
def wAs3 (X : Cx) (cs : List Value) (i : Nat) (suite : List Stmt) (D : Ends) : WX := fun cls d σ H => PySem.W.exmAny X.K cls cs = some true ∧ ∀ (a : Addr) (oe : Obj) (pn : List (Addr × Obj)), L2N.Zn cls d oe → (∃ vs, oe.data = .fields vs) → H a = none →
  RB (X.suite a ((a, oe) :: pn)) suite (asEnds i D) (σ.set i (some (.ref a))) H
section
variable {X : Cx} {x1 x2 x3 n : Str} {c1 c2 c3 : Value} {i kk : Nat} {body suite : List Stmt} {b₀ : Stmt} {p1 p2 p3 np pos pos' : Pos} {tb : WX → TS}
theorem ps_try3 (hs : X.stack = X.env :: X.outer) (hf : X.env.frame = some X.env.locals) (hN : X.N.Nodup) (hi : X.N[i]? = some n) (hln : X.env.kindOf n = some .local) (g1 : Gl X x1) (g2 : Gl X x2) (g3 : Gl X x3)
    (m1 : X.mg x1 = some c1) (m2 : X.mg x2 = some c2) (m3 : X.mg x3 = some c3) (d1 : (x1 == ("__debug__" : Str)) = false) (d2 : (x2 == ("__debug__" : Str)) = false) (d3 : (x3 == ("__debug__" : Str)) = false)
    (hb : ∀ (W : WX) (pn : List (Addr × Obj)) (xe : Value → Shared → Prop), L2N.Takes (X.tr pn xe) W → PassesOwn (model X.prog X.w) X.A X.env xe → PSs (X.tr pn xe) body (tb W)) :
    PS X (.Try body [.ExceptHandler (some (.Tuple [.Name x1 p1, .Name x2 p2, .Name x3 p3] kk np)) (some n) (b₀ :: suite) pos'] [] [] pos) (fun D σ H => tb (wAs3 X [c1, c2, c3] i (b₀ :: suite) D) D σ H) := by
  refine ⟨fun pins s σ H D I h => ?_⟩
  have ok := I.ok
  have hfr : X.A.frames = some (X.env :: X.outer) := by rw [ok.frames, hs]
  refine wpAny_Try_except (wpAny_mono ((hb (wAs3 X [c1, c2, c3] i (b₀ :: suite) D) (X.pn ++ pins) (fun e s₁ => wpAny (model X.prog X.w) X.A (noteFrame e X.env) (fun _ s₂ => wpAny (model X.prog X.w) X.A (setFlight e none) (fun _ s₃ =>
    wpAny (model X.prog X.w) X.A (handleBy e X.env [.ExceptHandler (some (.Tuple [.Name x1 p1, .Name x2 p2, .Name x3 p3] kk np)) (some n) (b₀ :: suite) pos']) (SP X pins D) X.xe s₃) X.xe s₂) X.xe s₁) (fun u s' xx => ?_) PassesOwn.looking).run [] s σ H D (I.toTry _) h) (fun f s1 hsp => ?_) (fun e s1 he => he))
  · obtain ⟨a, B, sI, pins', σ', H', cls, d, rfl, J', nb, up, sky, na, os, ag, hex, hsu⟩ := xx
    have J : L2.Inv X pins σ' H' sI := J'.ofTry ok
    rw [show (X.tr (X.pn ++ pins) _).stack = X.env :: X.outer from hs] at sky
    show wpAny _ _ (noteFrame (.ref a) X.env) _ _ _
    refine L2N.Sky.land L2N.Zn.steady hfr hf sky fun h3 fl3 up3 => ?_
    have out : ∀ {h : Heap} {o : Obj} {vs : Array Value}, h.FunFrames B (X.env :: X.outer) → h.get? a = some o → o.data = .fields vs → a ∉ frs (X.env :: X.outer) := fun {h o vs} ff e dd hm => by
      obtain ⟨_, o', e', hnf⟩ := ff.mem hm
      rw [e] at e'
      cases e'
      exact hnf _ dd
    obtain ⟨oe3, vs3, he3, hz3, hd3⟩ := fl3.there
    have nfr := out fl3.2.2.1 he3 hd3
    have nL : a ≠ X.env.locals := fun z => nfr (List.mem_filterMap.mpr ⟨X.env, List.mem_cons_self, by rw [hf, z]⟩)
    have nF : a ∉ X.fs := fun hm => by
      obtain ⟨e, he, q⟩ := List.mem_filterMap.mp hm
      exact nfr (List.mem_filterMap.mpr ⟨e, List.mem_cons_of_mem _ he, q⟩)
    have S3 := (J.landed (s' := { s' with heap := h3 }) nb fl3.1 (up.trans up3) os ag).suite he3 hd3 na nL nF
    have kp : ∀ b o, h3.get? b = some o → (h3.push { cls := .type "tuple", data := .seq [c1, c2, c3].toArray }).get? b = some o := fun _ _ z => Heap.get?_push_of_some _ z
    have LT : PySem.W.Looks (model X.prog X.w) (h3.push { cls := .type "tuple", data := .seq [c1, c2, c3].toArray }) (typeOf (.ref a)) cls := fun A Q E s k q => wpAny_typeOf_ref (k _ _ (kp _ _ he3)) (by rw [hz3.1]; exact q)
    have LM := PySem.W.exm_tup3 (M := model X.prog X.w) (S3.kIn.keeps kp) LT (Heap.get?_push_size h3 rfl) hex
    refine wpAny_handleBy_cons (codeAny_handlers_test (wpAny_Tuple ?_)) (by intro q; cases q)
    refine wpAny_items_cons (ld_glob (X := X.suite a ((a, oe3) :: (X.pn ++ pins))) S3 g1 m1 ?_ d1)
    refine wpAny_items_cons (ld_glob (X := X.suite a ((a, oe3) :: (X.pn ++ pins))) S3 g2 m2 ?_ d2)
    refine wpAny_items_cons (ld_glob (X := X.suite a ((a, oe3) :: (X.pn ++ pins))) S3 g3 m3 ?_ d3)
    refine wpAny_items_nil ⟨by size_fits, LM.here (codeAny_handlers_suite_as ?_)⟩
    have fl3' := fly_keeps fl3 kp
    refine HandSPX.lands_againZ fl3' fun h4 fl4 up4 => ?_
    obtain ⟨oe4, vs4, he4, hz4, hd4⟩ := fl4.there
    have S4 := (J.landed (s' := { s' with heap := h4 }) nb fl4.1 (((up.trans up3).trans (Heap.UpToSlots.of_keeps kp)).trans up4) os ag).suite he4 hd4 na nL nF
    refine store_ok (X := X.suite a ((a, oe4) :: (X.pn ++ pins))) (v := .ref a) S4 hN hi (.inl hln) rfl (fun s5 S5 => ?_) (.inr hln)
    refine wpAny_mono ((pRB (X := X.suite a ((a, oe4) :: (X.pn ++ pins)))).run [] s5 _ H' _ S5 (hsu a oe4 (X.pn ++ pins) hz4 ⟨_, hd4⟩ na)) (fun f s6 hsp => ?_) (fun _ _ z => False.elim z)
    have fin : ∀ {σ6 : L2.St} {H6 : Hy} {Q : Shared → Prop}, L2.Inv (X.suite a ((a, oe4) :: (X.pn ++ pins))) [] σ6 H6 s6 → (∀ s7, L2.Inv X pins (σ6.set i none) H6 s7 → Q s7) →
        wpAny (model X.prog X.w) X.A (do bindName X.env n .none; unbindBehindTheSuite X.env n pos') (fun _ s7 => Q s7) X.xe s6 := fun {σ6 H6 Q} S6 hq => gone_ok (S6.unsuite ok) hN hi hln hq
    cases f with
    | ret u =>
      obtain ⟨v6, σ6, H6, S6, r6, q6⟩ := hsp
      exact fin S6 fun s7 J7 => ⟨_, _, _, J7, r6, q6⟩
    | next =>
      obtain ⟨σ6, H6, S6, q6⟩ := hsp
      exact fin S6 fun s7 J7 => ⟨_, _, J7, q6⟩
    | brk =>
      obtain ⟨σ6, H6, S6, q6⟩ := hsp
      exact fin S6 fun s7 J7 => ⟨_, _, J7, q6⟩
    | cont =>
      obtain ⟨σ6, H6, S6, q6⟩ := hsp
      exact fin S6 fun s7 J7 => ⟨_, _, J7, q6⟩
  · cases f with
    | ret u =>
      obtain ⟨v, σ', H', J', r, q⟩ := hsp
      exact ⟨v, σ', H', J'.ofTry ok, r, q⟩
    | next =>
      obtain ⟨σ', H', J', q⟩ := hsp
      exact wpAny_execs_nil ⟨σ', H', J'.ofTry ok, q⟩
    | brk =>
      obtain ⟨σ', H', J', q⟩ := hsp
      exact ⟨σ', H', J'.ofTry ok, q⟩
    | cont =>
      obtain ⟨σ', H', J', q⟩ := hsp
      exact ⟨σ', H', J'.ofTry ok, q⟩
end
end My
set_option Elab.async false
set_option pp.maxSteps 1500
set_option linter.all false
set_option maxRecDepth 100000
set_option maxHeartbeats 4000000
/-! Y6: _law_ask of a lambda that may raise Broken -/
namespace My
open PySem PySem.Spec PyProof.Rows L2 TL
/-- a lambda's body; what leaves it has no context -/
abbrev lamN (X : Cx) (A : Around) (outer : List Env) (s : Shared) (H : Hy) (E : XK) (scope : Scope) (f c' : Addr) : Cx := (LamX.lamCx X A outer s H E scope f c').wish fun e s' => wpAny (model X.prog X.w) (A.deeper (LamX.lamEnv X scope s.heap.objs.size f c')) (leaving (LamX.lamEnv X scope s.heap.objs.size f c') e) (fun _ s'' => L2N.CX X.prog X.w outer H s E e s'') (fun e' s'' => L2N.CX X.prog X.w outer H s E e' s'') s'
theorem lamN_tk {X : Cx} {A : Around} {outer : List Env} {s : Shared} {H : Hy} {E : XK} {scope : Scope} {f c' : Addr} : L2N.Takes (lamN X A outer s H E scope f c') (fun cls d _ H => E cls d H) := L2N.takes_of rfl rfl rfl rfl
theorem lamN_pass (X : Cx) (A : Around) (outer : List Env) (s : Shared) (H : Hy) (E : XK) (scope : Scope) (f c' : Addr) : Passes (L2N.CX X.prog X.w) (lamN X A outer s H E scope f c') E := L2N.passes_call (X := lamN X A outer s H E scope f c') lamN_tk fun _ _ _ _ h => h
section
variable {X : Cx} {pins : List (Addr × Obj)} {σ : L2.St} {H : Hy} {s : Shared}
/-- act() within the def that got the lambda -/
theorem pe_actN {Ng : List Str} {qg : Str} {sg : Scope} {g f c' : Addr} {cdg pm ctv : Value} {params : Arguments} {body : Expr} {scope : Scope} {k i : Nat} {a : Str} {pn : List (Addr × Obj)} {xe xg : Value → Shared → Prop} {W : WX} {E Eg : XK} {tb : TE} {p1 p2 : Pos} (I : L2.Inv X pins σ H s) (L : LamX.LamS X.env.scope scope)
    (hf : s.heap.get? f = some (PySem.W.kla_obj "<lambda>" (X.env.qual ++ "<lambda>") params body scope (cloFrom X.env.cells scope.names []) pm c' ctv)) (hfn : H f = none) (hfr : f ∉ frs X.stack)
    (hbind : bindArgs (PySem.W.kla_fn "<lambda>" (X.env.qual ++ "<lambda>") params body scope (cloFrom X.env.cells scope.names []) pm (.ref c') ctv) ⟨[], []⟩ = pure [])
    (tk : L2N.Takes (((cxOf CX0 X.prog X.w X.K X.mg X.base Ng qg sg g cdg X.A X.stack s H Eg).wish xg).tr pn xe) W) (hW : ∀ cls d σ' H', σ'.length = Ng.length → E cls d H' → W cls d σ' H') (hr : Room (k + 1) (X.A.deeper (envOfC qg sg s.heap.objs.size g cdg)))
    (hbody : ∀ (A : Around) (outer : List Env) (s : Shared) (H : Hy), Room k (A.deeper (LamX.lamEnv X scope s.heap.objs.size f c')) → PE (lamN X A outer s H E scope f c') body tb)
    (hN : Ng[i]? = some a) (hv : Vis sg a) (hd : (a == ("__debug__" : Str)) = false := by decide) (hcd : (a == ("__classdict__" : Str)) = false := by decide) :
    PE (((cxOf CX0 X.prog X.w X.K X.mg X.base Ng qg sg g cdg X.A X.stack s H Eg).wish xg).tr pn xe) (.Call (.Name a p1) [] [] p2) (fun σZ HZ Q => σZ[i]? = some (some (.ref f)) ∧ HZ c' = some (LamX.CodeO c' (X.env.qual ++ "<lambda>")) ∧ tb σ HZ Q) := by
  refine ⟨fun pinsZ sZ σZ HZ Q IZ ⟨hs, hc, ht⟩ => wpAny_Call_Name_kw (thn ((pe_var (pos := p1) (i := i) hN hv hd hcd).run pinsZ sZ σZ HZ (fun v H1 => v = .ref f ∧ H1 = HZ) IZ ⟨.ref f, hs, rfl, rfl⟩) fun u s1 ⟨v, H1, I1, r1, ev, eH⟩ => ?_)⟩
  subst ev
  rw [eH] at I1
  obtain rfl : u = Value.ref f := r1
  have of1 : s1.heap.get? f = some (PySem.W.kla_obj "<lambda>" (X.env.qual ++ "<lambda>") params body scope (cloFrom X.env.cells scope.names []) pm c' ctv) := I1.base.keep f _ hf hfn hfr (fun z => nomatch (show f ∈ ([] : List Addr) from z))
  refine PySem.W.callWith_F0 ⟨_, _, _, _, of1⟩ ?_
  obtain ⟨⟨oc, vs, t, hoc, hdc, hvc⟩, _, _⟩ := I1.hok c' _ hc
  have rc : codeAny (model X.prog X.w) (X.A.deeper (envOfC qg sg s.heap.objs.size g cdg)) (.call (.ref f) ⟨[], []⟩) (CR (L2N.CX X.prog X.w) (envOfC qg sg s.heap.objs.size g cdg :: X.stack) X.prog X.w HZ s1 Q E) s1 := by
    refine PySem.W.kla_callFunE hr.depth of1 rfl L.co L.gen rfl ⟨c', oc, vs, t, rfl, hoc, hdc, hvc⟩ ?_
    rw [hbind]
    refine wpAny_pure (wpAny_newFunctionEnv (fun y hy => (L.own y hy).2) (fun y hy => absurd hy (by simp)) (fun h₁ hns hsb => ⟨I1.nolimit.fresh _ hsb, ?_⟩) L.kind)
    show codeAny _ _ (.expr body (LamX.lamEnv X scope s1.heap.objs.size f c')) _ _
    have J0 := LamX.lam_start2 (A := X.A.deeper (envOfC qg sg s.heap.objs.size g cdg)) (outer := envOfC qg sg s.heap.objs.size g cdg :: X.stack) (E := E) (f := f) (c' := c') (tk := s1.toks + ([] : List (Str × Value)).length) I L I1.env0 hr.hd I1.base hns fun b o e => hsb.extBut b o (Nat.ne_of_lt (Heap.lt_size e)) (Heap.get?_push_of_some _ e)
    have J : L2.Inv (lamN X (X.A.deeper (envOfC qg sg s.heap.objs.size g cdg)) (envOfC qg sg s.heap.objs.size g cdg :: X.stack) s1 HZ E scope f c') [] σ HZ { s1 with heap := h₁, toks := s1.toks + ([] : List (Str × Value)).length } := J0.wish _
    refine PySem.W.kla_codeExpr (wpAny_mono ((hbody _ _ s1 HZ (hr.deeper _)).run [] _ _ HZ Q J ht) (fun v s' ⟨w', H', J', rv, q⟩ => ?_) fun e s' hq => hq)
    exact ⟨w', H', J'.os, J'.bare, J'.base, J'.hok, rv, q⟩
  refine wpAny_call (codeAny_mono rc fun r s' hq => ?_)
  cases r with
  | error e =>
    obtain ⟨a1, B, H', cls, d, e1, fl, hok, ub, na, os, ag, hE⟩ := (show L2N.CX _ _ _ _ _ E e s' from hq)
    have xx := L2N.XE.of_call (W := fun cls d σ' H' => σ' = σZ ∧ E cls d H') (E := E) I1 (fun cls d H' h => ⟨rfl, h⟩) (show L2N.CX _ _ _ _ _ E e s' from hq)
    obtain ⟨a1, B, sI, pins1, σ1, H1, cls, d, e1, I2, nb, up, sky, na, os, ag, e2, w⟩ := xx
    exact tk e s' ⟨a1, B, sI, pins1, σ1, H1, cls, d, e1, I2, nb, up, sky, na, os, ag, hW _ _ _ _ I2.len w⟩
  | ok fl =>
    cases fl with
    | ret u => exact I1.after hq
    | next => exact False.elim hq
    | brk => exact False.elim hq
    | cont => exact False.elim hq
end
/-- ("gave", value) -/
def askQ (Q : VK) : VK := fun v H2 => ∀ q, H2 q = none → Q (.ref q) (upd H2 q (.tup [.str "gave", v]))
/-- ("Broken", (index, shown)) -/
def askE (K : PySem.W.Frag) (Q : VK) : XK := fun cls d H2 => cls = .ref (He.ga K "Broken") ∧ ∃ dd iv sv, d = some dd ∧ H2 dd = some (.xd [("shown", sv), ("index", iv)]) ∧ ∀ q t H3, Same H2 H3 → H3 t = some (.tup [iv, sv]) → H3 q = some (.tup [.str "Broken", .ref t]) → Q (.ref q) H3
/-- the lambda's body as it stands wherever it runs -/
def LamR (X : Cx) (k : Nat) (scope : Scope) (body : Expr) (E : XK) : TE := fun σ H Q => ∀ (A : Around) (outer : List Env) (s : Shared) (H0 : Hy) (f c' : Addr), Room k (lamN X A outer s H0 E scope f c').A → Passes (L2N.CX (lamN X A outer s H0 E scope f c').prog (lamN X A outer s H0 E scope f c').w) (lamN X A outer s H0 E scope f c') E → RE (lamN X A outer s H0 E scope f c') body σ H Q
theorem sc_w_ask : FnScope ["_law_act", "_law_found", "_law_e", "_law_word", "_law_told"] ["_law_act"] (defScope s_w_ask) := ⟨rfl, rfl, rfl, by decide +kernel, rfl, by decide +kernel, by decide +kernel⟩
section
variable {X : Cx} {σ : L2.St} {H : Hy} {Q : VK}
theorem r_ask {T : List (Addr × Str)} {c P : Addr} {k : Nat} {params : Arguments} {body : Expr} {scope : Scope} {p lpos pos : Pos} (e : EV X.w X.K X.mg X.base) (B : BrkF X.K) (TB : LamX.TabB X.base X.mg c P) (hcode : X.env.code = .ref c) (hmT : (P, X.env.qual ++ "<lambda>") ∈ T)
    (hu : ∀ p ∈ T, p.1 = P → p.2 = X.env.qual ++ "<lambda>") (hr : Room (k + 2) X.A) (hk : 3 ≤ k) (L : LamX.LamS X.env.scope scope) (hdef : defaultsOf params X.env = ([], []))
    (hbind : ∀ (q : Str) (cl : List (Str × Addr)) (pm cv ctv : Value), bindArgs (PySem.W.kla_fn "<lambda>" q params body scope cl pm cv ctv) ⟨[], []⟩ = pure []) (hT : LamX.Tabs T H)
    (h : ∀ H1, LamX.ExtN H H1 → LamX.Tabs T H1 → LamR X k scope body (askE X.K Q) σ H1 (askQ Q)) (hg : Gl X "_law_ask" := by rfl) : RE X (.Call (.Name "_law_ask" p) [.Lambda params body scope lpos] [] pos) σ H Q := by
  obtain ⟨fd, F⟩ := e.f_w_ask
  have kp := F.kp
  have hb := F.bindsN (ps := ["_law_act"]) (fun _ _ _ _ _ _ us hl => match us, hl with | [_], _ => rfl)
  obtain ⟨oc, od, dV, kV, doc, pm, an, cdv, ct, osl, rfl, lk, hcd, _, _⟩ := F.ex
  refine ⟨fun σ H Q => LamX.Tabs T H ∧ ∀ H1, LamX.ExtN H H1 → LamX.Tabs T H1 → LamR X k scope body (askE X.K Q) σ H1 (askQ Q), ⟨fun pins s σ H Q I h => ?_⟩, hT, h⟩
  obtain ⟨hT, h⟩ := h
  refine wpAny_Call_Name_kw (ld_glob I hg e.g_w_ask ?_ (by decide))
  refine PySem.W.callWith_K (h₀ := X.base) I.ok.mod.kin kp ?_ (by rfl) (by rfl)
  show wpAny _ _ (spliced ((false, eval (.Lambda params body scope lpos) X.env) :: backTo pos (starEach [] X.env))) _ _ s
  refine Calls.spliced_cons (LamX.lam_make2 I TB hcode hmT hu hT hdef (L.has I.ok) fun f c' pm' ctv H1 s' I1 eN T1 hf hfn hfr hco => Calls.spliced_nil ⟨I1.kIn, ?_⟩)
  have rc : codeAny (model X.prog X.w) X.A (.call (.ref (He.fAd X.K d_w_ask.at_)) ⟨[.ref f], []⟩) (CR CX0 X.stack X.prog X.w H1 s' Q E0) s' := by
    refine LamX.run_ofS (N := ["_law_act", "_law_found", "_law_e", "_law_word", "_law_told"]) (ps := ["_law_act"]) (us := [.ref f]) (vs := [.ref f]) lk hcd sc_w_ask hr I1.env0 (hb s' [.ref f] I1.kIn rfl) (.cons rfl .nil) rfl fun hr' => ?_
    have hh := h H1 eN T1
    have hrh : L2H.RoomH 3 (X.A.deeper (envOfC d_w_ask.qual d_w_ask.scope s'.heap.objs.size (He.fAd X.K d_w_ask.at_) cdv)) := (L2H.roomH_of hr').mono (by omega)
    suffices RB (cxOf CX0 X.prog X.w X.K X.mg X.base ["_law_act", "_law_found", "_law_e", "_law_word", "_law_told"] d_w_ask.qual d_w_ask.scope (He.fAd X.K d_w_ask.at_) cdv X.A X.stack s' H1 E0).nox d_w_ask.body { nx := fun _ H' => Q .non H', rt := Q } (start ["_law_act", "_law_found", "_law_e", "_law_word", "_law_told"] [.ref f]) H1 by
      obtain ⟨t, ht, q⟩ := this
      exact ⟨t, ht.nox, q⟩
    refine rb_cons ⟨_, ps_try3 (X := (cxOf CX0 X.prog X.w X.K X.mg X.base ["_law_act", "_law_found", "_law_e", "_law_word", "_law_told"] d_w_ask.qual d_w_ask.scope (He.fAd X.K d_w_ask.at_) cdv X.A X.stack s' H1 E0).nox) (i := 2) rfl rfl sc_w_ask.nd rfl rfl rfl rfl rfl e.g_BadValue e.g_BadName e.g_NoAnswer (by decide) (by decide) (by decide)
      (tb := fun W D σZ HZ => ∃ Ech : XK, (∀ cls d σ' H', σ'.length = 5 → Ech cls d H' → W cls d σ' H') ∧ σZ[0]? = some (some (.ref f)) ∧ HZ c' = some (LamX.CodeO c' (X.env.qual ++ "<lambda>")) ∧ LamR X k scope body Ech σ HZ (fun v H' => D.nx (σZ.set 1 (some v)) H')) (fun W pn xe tk _ => ⟨fun pins2 s2 σ2 H2 D2 I2 h2 => ?_⟩), askE X.K Q, fun cls d σ' H' hl hE => ?_, rfl, hco, ?_⟩
    · obtain ⟨Ech, hW, h0, hc, ht⟩ := h2
      exact (pss_one (ps_set (i := 1) sc_w_ask.nd rfl (.inl rfl) (pe_actN (tb := LamR X k scope body Ech) I1 L hf hfn hfr (hbind _ _ _ _ _) tk hW hr' (fun A' outer' s3 H3 hr2 => ⟨fun pins4 s4 σ4 H4 Q4 I4 h4 => pRE.run pins4 s4 σ4 H4 Q4 I4 (h4 A' outer' s3 H3 f c' hr2 (lamN_pass X A' outer' s3 H3 Ech scope f c'))⟩) rfl (.inl rfl)))).run pins2 s2 σ2 H2 D2 I2 ⟨h0, hc, ht⟩
    · obtain ⟨rfl, dd, iv, sv, rfl, hdd, kk⟩ := hE
      obtain ⟨v0, v1, v2, v3, v4, rfl⟩ : ∃ v0 v1 v2 v3 v4, σ' = [v0, v1, v2, v3, v4] := by
        match σ', hl with
        | [v0, v1, v2, v3, v4], _ => exact ⟨v0, v1, v2, v3, v4, rfl⟩
      refine ⟨B.m, fun a oe pn hz hfld na => ?_⟩
      obtain ⟨fv, hfv⟩ := hfld
      have hot : L2H.Hot1 (Cx.suite (cxOf CX0 X.prog X.w X.K X.mg X.base ["_law_act", "_law_found", "_law_e", "_law_word", "_law_told"] d_w_ask.qual d_w_ask.scope (He.fAd X.K d_w_ask.at_) cdv X.A X.stack s' H1 E0).nox a ((a, oe) :: pn)).A (a, oe) := ⟨rfl, fv, hfv, hz.2.2 fv hfv⟩
      refine rb_cons (rs_asg (r_callT (j := 3) (po := (a, oe)) (h_w_tale e B) ⟨hrh.dp, hrh.un⟩ hot List.mem_cons_self (ra_cons (r_var 2 (ra_nil ⟨dd, iv, sv, rfl, hz.zc, ⟨fv, hfv⟩, hdd, fun q t H3 s3 ht hq => ?_⟩)))))
      refine rg_tupH (hotI ⟨(a, oe), hot, List.mem_cons_self⟩) ⟨q, _, rfl, SqT.of hq, rfl, rgs_cons (rg_name 3 sc_w_ask.nd (rgs_cons (rg_name 4 sc_w_ask.nd (rgs_nil ?_))))⟩
      refine rb_one (rs_ret (r_tup (ra_cons (r_var 3 (ra_cons (r_var 4 (ra_nil ⟨by show 2 ≤ sizeLine; decide, fun q2 hq2 => ?_⟩)))))))
      exact kk q2 t _ (s3.trans (same_new hq2)) (same_new hq2 _ _ ht) upd_same
    · refine fun A' outer' s3 H0 f1 c1 hr2 hx2 => (hh A' outer' s3 H0 f1 c1 hr2 hx2).mono fun v H2 hq => ?_
      exact rb_one (rs_ret (r_tup (ra_cons (r_str (ra_cons (r_var 1 (ra_nil ⟨by show 2 ≤ sizeLine; decide, hq⟩)))))))
  refine wpAny_call (codeAny_mono rc fun r s2 hq => ?_)
  cases r with
  | error e => exact (show False from hq).elim
  | ok fl =>
    cases fl with
    | ret u => exact I1.after hq
    | next => exact False.elim hq
    | brk => exact False.elim hq
    | cont => exact False.elim hq
end
end My

set_option Elab.async false
set_option pp.maxSteps 1500
set_option linter.all false
set_option maxRecDepth 100000
set_option maxHeartbeats 4000000
/-! Y7: defs over which no guard stands; repr; what a lambda's table leaves; _law_place -/
namespace My
open PySem PySem.Spec PyProof.Rows L2 TL
/-- Broken, and the property claims -/
structure ExF (K : PySem.W.Frag) : Prop where
  brk : BrkF K
  prop : ∃ p, PropOf K (He.ga K "Desk") "claims" p (gC K)
  fdc : ∃ fd, FunD K "claims" "Desk.claims" (defArgs s_Desk_claims) (defBody s_Desk_claims) (defScope s_Desk_claims) [] [] (gC K) fd
/-! ### defs over which no guard stands -/
structure FnG (P : Program) (w : World) (K : PySem.W.Frag) (mg : Str → Option Value) (base : Heap) (k : Nat) (f : Addr) (fd : FuncData) (ps : List Str) (sp : Sp) : Prop where
  len : ∀ vs H Q E, sp vs H Q E → vs.length = ps.length
  run : ∀ (A : Around) (outer : List Env) (s : Shared) (H : Hy) (args : Args) (us : List Value) (vs : List V) (Q : VK) (E : XK), Room k A → A.guards = some [] → Env0 P w K mg base A outer s H → BindsTo s fd args (ps.zip us) → Vals vs us → sp vs H Q E → codeAny (model P w) A (.call (.ref f) args) (CR CX0 outer P w H s Q E) s
structure HasG (P : Program) (w : World) (K : PySem.W.Frag) (mg : Str → Option Value) (base : Heap) (k : Nat) (x : Str) (ps : List Str) (sp : Sp) : Prop where
  ex : ∃ f fd, mg x = some (.ref f) ∧ PySem.W.keepIn K (.ref f) = true ∧ Binds K fd ps [] ∧ FnG P w K mg base k f fd ps sp
section
variable {P : Program} {w : World} {K : PySem.W.Frag} {mg : Str → Option Value} {base : Heap}
theorem mk_fnG {d : He.DefD} {fd : FuncData} {N ps : List Str} {sp : Sp} {k : Nat} (F : FD K d fd) (S : FnScope N ps d.scope) (len : ∀ vs H Q E, sp vs H Q E → vs.length = ps.length)
    (body : ∀ (cdv : Value) (A : Around) (outer : List Env) (s : Shared) (H : Hy) (vs : List V) (Q : VK) (E : XK), Room k (A.deeper (envOfC d.qual d.scope s.heap.objs.size (He.fAd K d.at_) cdv)) → A.guards = some [] → cdv = .ref (He.cT K d.at_).1 → sp vs H Q E →
      RB (cxOf CX0 P w K mg base N d.qual d.scope (He.fAd K d.at_) cdv A outer s H E).nox d.body { nx := fun _ H' => Q .non H', rt := Q } (start N vs) H) : FnG P w K mg base (k + 1) (He.fAd K d.at_) fd ps sp := by
  obtain ⟨oc, od, dV, kV, doc, pm, an, cdv, ct, osl, rfl, lk, hcd, _, _⟩ := F.ex
  refine ⟨len, fun A outer s H args us vs Q E hr hg e0 hb rv hsp => LamX.run_ofS lk hcd S hr e0 hb rv (len _ _ _ _ hsp) fun hr' => ?_⟩
  have ec : cdv = .ref (He.cT K d.at_).1 := by
    obtain ⟨c, rfl⟩ := He.codeIn_ref hcd
    exact congrArg Value.ref (He.codeOf_eq lk rfl).symm
  obtain ⟨t, ht, q⟩ := body cdv A outer s H vs Q E hr' hg ec hsp
  exact ⟨t, ht.nox, q⟩
theorem mk_hasG {d : He.DefD} {N ps : List Str} {sp : Sp} {k : Nat} (g : mg d.name = some (.ref (He.fAd K d.at_))) (F : ∃ fd, FD K d fd) (S : FnScope N ps d.scope)
    (hb : ∀ (kV doc pm : Value) (an : Option Addr) (cdv ct : Value) (us : List Value), us.length = ps.length → bindArgs (PySem.W.fnOf d.name d.qual d.params d.body d.scope .none kV doc pm an cdv ct) ⟨us, []⟩ = pure (ps.zip us)) (len : ∀ vs H Q E, sp vs H Q E → vs.length = ps.length)
    (body : ∀ (cdv : Value) (A : Around) (outer : List Env) (s : Shared) (H : Hy) (vs : List V) (Q : VK) (E : XK), Room k (A.deeper (envOfC d.qual d.scope s.heap.objs.size (He.fAd K d.at_) cdv)) → A.guards = some [] → cdv = .ref (He.cT K d.at_).1 → sp vs H Q E →
      RB (cxOf CX0 P w K mg base N d.qual d.scope (He.fAd K d.at_) cdv A outer s H E).nox d.body { nx := fun _ H' => Q .non H', rt := Q } (start N vs) H) : HasG P w K mg base (k + 1) d.name ps sp := by
  obtain ⟨fd, F⟩ := F
  exact ⟨_, fd, g, F.kp, F.bindsN hb, mk_fnG F S len body⟩
end
section
variable {X : Cx} {σ : L2.St} {H : Hy} {Q : VK} {pos p : Pos} {e : Expr} {es : List Expr} {k : Nat} {x : Str} {ps : List Str} {sp : Sp}
theorem r_callG {j : Nat} (F : HasG X.prog X.w X.K X.mg X.base k x ps sp) (hr : Room j X.A) (hgu : X.A.guards = some []) (h : RA X (e :: es) σ H fun vs H1 => sp vs H1 Q E0) (hg : Gl X x := by rfl) (hdb : (x == ("__debug__" : Str)) = false := by decide)
    (he : starEach (e :: es) X.env = (false, eval e X.env) :: starEach es X.env := by rfl) (hpl : (backTo pos (starEach es X.env)).any (·.1) = false := by rfl) (hj : k ≤ j := by decide) : RE X (.Call (.Name x p) (e :: es) [] pos) σ H Q := by
  obtain ⟨f, fd, g, kp, b, F⟩ := F.ex
  refine ⟨fun σ H Q => RA X (e :: es) σ H fun vs H1 => sp vs H1 Q E0, ⟨fun pins s σ H Q I h => ?_⟩, h⟩
  refine wpAny_Call_Name_kw (ld_glob I hg g ?_ hdb)
  refine PySem.W.callWith_K (h₀ := X.base) I.ok.mod.kin kp (thn (pRA.run pos pins s σ H _ I h) fun us s1 ⟨vs, H1, I1, r, q⟩ => ⟨I1.kIn, ?_⟩) he hpl
  have hl : us.length = ps.length := by rw [← r.length]; exact F.len _ _ _ _ q
  have bb := b s1 us I1.kIn (by rw [List.append_nil]; exact hl)
  rw [List.append_nil] at bb
  refine wpAny_call (codeAny_mono (F.run X.A X.stack s1 H1 ⟨us, []⟩ us vs Q E0 (hr.mono hj) hgu I1.env0 bb r q) fun r s' hq => ?_)
  cases r with
  | error e => exact False.elim hq
  | ok fl =>
    cases fl with
    | ret u => exact I1.after hq
    | next => exact False.elim hq
    | brk => exact False.elim hq
    | cont => exact False.elim hq
/-- repr of nested data -/
def rRepr (K : PySem.W.Frag) : List V → Hy → VK → Prop := fun xs H Q => ∃ a d, xs = [.ref a] ∧ Dp K H (.ref a) d ∧ d.showable = true ∧ d.hasDict = false ∧ d.depth ≤ 60 ∧ d.shown.length ≤ sizeLine ∧ Q (.str d.shown) H
theorem call_reprD (hgu : X.A.guards = some []) (hu : X.A.units + 64 < cLine) : CallR X (.builtin "repr") (rRepr X.K) := by
  intro pins s σ H xs us Q I r h
  obtain ⟨a, d, rfl, hd, h1, h2, h3, h4, q⟩ := h
  cases r with
  | cons rx rr =>
    cases rr
    obtain ⟨as, rd⟩ := Dp.reads I d _ _ hd rx
    cases rx
    exact repr_of_reads' rd h1 (fun z => by rw [h2] at z; cases z) hgu (by omega) (fun _ _ e => e) (fun h' u tk hk => ⟨.str d.shown, H, I.kept (t' := tk) fun b o e => hk b o e, ⟨u, rfl⟩, q⟩) h4
end
/-! ### what a lambda's making leaves -/
/-- all but x and the tables -/
def ExtK (x : Addr) (H H' : Hy) : Prop := ∀ b o, b ≠ x → H b = some o → (∀ ps, o ≠ .tbl ps) → H' b = some o
theorem ExtK.refl (x : Addr) (H : Hy) : ExtK x H H := fun _ _ _ h _ => h
theorem ExtK.trans {x : Addr} {H H1 H2 : Hy} (a : ExtK x H H1) (b : ExtK x H1 H2) : ExtK x H H2 := fun c o n h t => b c o n (a c o n h t) t
theorem ExtK.of {x : Addr} {H H' : Hy} (s : Same H H') : ExtK x H H' := fun b o _ h _ => s b o h
theorem ExtK.ofK {x : Addr} {H H' : Hy} (s : Keep x H H') : ExtK x H H' := fun b o n h _ => s b o n h
theorem ExtK.ofN {x : Addr} {H H' : Hy} (s : LamX.ExtN H H') : ExtK x H H' := fun b o _ h t => s b o h t
/-- the table of _law_claimed -/
def lamQ : Str := (envOfC d_w_claimed.qual d_w_claimed.scope 0 0 .none).qual ++ "<lambda>"
def tabT (K : PySem.W.Frag) : List (Addr × Str) := [((He.cT K d_w_claimed.at_).2, lamQ)]
theorem tabs_keep {K : PySem.W.Frag} {x : Addr} {H H' : Hy} {C dx : Addr} {fs : List (Str × V)} (t : LamX.Tabs (tabT K) H) (hx : H x = some (.ins C dx fs)) (k : Keep x H H') : LamX.Tabs (tabT K) H' := fun p hp => by
  obtain ⟨ps, h1, h2, h3⟩ := t p hp
  have ne : ∀ {b o}, H b = some o → (∀ C dx fs, o ≠ .ins C dx fs) → b ≠ x := fun {b o} e n z => by
    rw [z, hx] at e
    exact n _ _ _ (Option.some.inj e).symm
  refine ⟨ps, k _ _ (ne h1 fun _ _ _ z => by cases z) h1, h2, fun pos cv hc => ?_⟩
  obtain ⟨c, e1, e2⟩ := h3 pos cv hc
  exact ⟨c, e1, k _ _ (ne e2 fun _ _ _ z => by unfold LamX.CodeO at z; cases z) e2⟩
theorem tabs_same {K : PySem.W.Frag} {H H' : Hy} (t : LamX.Tabs (tabT K) H) (s : Same H H') : LamX.Tabs (tabT K) H' := t.ext s
def sp_w_place (K : PySem.W.Frag) : Sp := fun vs H Q _ => ∃ (m : MD) (k p tb : Addr) (x : Str) (cs : List CT) (sh : List ShE), vs = [.ref k, .str x, .ref tb] ∧ (x = "mine" ∨ x = "other") ∧ DeskAt K H k p sh [] ∧ TabAt K H tb p m cs ∧ sh.length ≤ 1 ∧ shGet sh x = none ∧
  ∀ H', Keep k H H' → DeskAt K H' k p (sh ++ [(x, tb)]) [] → Q .non H'
section
variable {P : Program} {w : World} {K : PySem.W.Frag} {mg : Str → Option Value} {base : Heap}
theorem sc_w_place : FnScope ["_law_desk", "_law_title", "_law_table_here"] ["_law_desk", "_law_title", "_law_table_here"] (defScope s_w_place) := ⟨rfl, rfl, rfl, by decide +kernel, rfl, by decide +kernel, by decide +kernel⟩
theorem h_w_place (e : EV w K mg base) (B : ExF K) : Has P w K mg base 11 "_law_place" ["_law_desk", "_law_title", "_law_table_here"] (sp_w_place K) := by
  refine mk_has (d := d_w_place) e.g_w_place e.f_w_place sc_w_place (fun _ _ _ _ _ _ us hl => match us, hl with | [_, _, _], _ => rfl) (fun vs H Q E h => by obtain ⟨_, _, _, _, _, _, _, rfl, _⟩ := h; rfl) (fun cdv A outer s H vs Q E hr h => ?_)
  obtain ⟨m, k0, p, tb, x, cs, sh, rfl, hx, hk, ht, hl, hn, k⟩ := h
  obtain ⟨fd, b, F⟩ := (h_Desk_setitem (P := P) e B.brk.b).ex
  obtain ⟨dx, fs, l, d, t, h1, _⟩ := id hk.at_
  refine rb_cons (rs_asg (r_var 2 (gv rfl (rg_sub (set_own F b hr e.noseq e.m_Desk_setitem.at_ e.m_Desk_setitem.fn) (r_var 0 (gv rfl (r_var 1 (gv rfl ⟨k0, dx, fs, rfl, h1, m, k0, p, tb, x, cs, sh, rfl, hx, hk, ht, hl, hn, fun H1 k1 hd1 => ?_⟩))))))))
  exact rb_one (rs_ret (r_non (k H1 k1 hd1)))
end
end My

set_option Elab.async false
set_option pp.maxSteps 1500
set_option linter.all false
set_option maxRecDepth 100000
set_option maxHeartbeats 4000000
/-! Y8: what holds on behind a lambda's making; _law_claimed -/
namespace My
open PySem PySem.Spec PyProof.Rows L2 TL
abbrev NT (H H' : Hy) : Prop := LamX.ExtN H H'
/-- a part of the heap without tables -/
def NoTb (G : Hy) : Prop := ∀ b ps, G b ≠ some (.tbl ps)
theorem NoTb.same {G H H' : Hy} (n : NoTb G) (s : Same G H) (x : NT H H') : Same G H' := fun b o e => x b o (s b o e) fun ps z => n b ps (by rw [← z]; exact e)
theorem nt_tup {H H' : Hy} (x : NT H H') {a : Addr} {xs : List V} (h : H a = some (.tup xs)) : H' a = some (.tup xs) := x a _ h fun _ z => by cases z
theorem nt_lst {H H' : Hy} (x : NT H H') {a : Addr} {xs : List V} (h : H a = some (.lst xs)) : H' a = some (.lst xs) := x a _ h fun _ z => by cases z
theorem nt_ins {H H' : Hy} (x : NT H H') {a C dx : Addr} {fs : List (Str × V)} (h : H a = some (.ins C dx fs)) : H' a = some (.ins C dx fs) := x a _ h fun _ z => by cases z
theorem nt_dk {H H' : Hy} (x : NT H H') {a : Addr} {kvs : List (L2.Key × V)} (h : H a = some (.dK kvs)) : H' a = some (.dK kvs) := x a _ h fun _ z => by cases z
theorem nt_rd {H H' : Hy} (x : NT H H') {a : Addr} {u : HO} (h : Rd H a u) (n : ∀ ps, u ≠ .tbl ps) : Rd H' a u := h.elim (fun h => .inl (x a _ h n)) fun ⟨o, h⟩ => .inr ⟨o, x a _ h fun _ z => by cases z⟩
theorem nt_sqt {K : PySem.W.Frag} {H H' : Hy} (x : NT H H') {a : Addr} {xs : List V} (h : SqT K H a xs) : SqT K H' a xs := by
  rcases h with h | h
  · exact .inl (nt_rd x h fun _ z => by cases z)
  · exact .inr h
theorem nt_sql {K : PySem.W.Frag} {H H' : Hy} (x : NT H H') {a : Addr} {xs : List V} (h : SqL K H a xs) : SqL K H' a xs := by
  rcases h with h | h
  · exact .inl (nt_rd x h fun _ z => by cases z)
  · exact .inr h
mutual
theorem nt_dp {K : PySem.W.Frag} {H H' : Hy} (x : NT H H') : ∀ {v : V} {d : PyData}, Dp K H v d → Dp K H' v d
  | _, _, .non => .non
  | _, _, .bl b => .bl b
  | _, _, .int i => .int i
  | _, _, .str x => .str x
  | _, _, .lst h a => .lst (nt_sql x h) (nt_dpa x a)
  | _, _, .tup h a => .tup (nt_sqt x h) (nt_dpa x a)
theorem nt_dpa {K : PySem.W.Frag} {H H' : Hy} (x : NT H H') : ∀ {vs : List V} {ds : List PyData}, DpAll K H vs ds → DpAll K H' vs ds
  | _, _, .nil => .nil
  | _, _, .cons h a => .cons (nt_dp x h) (nt_dpa x a)
end
theorem nt_desk {K : PySem.W.Frag} {H H' : Hy} {k p : Addr} {sh : List ShE} {cl : List V} (h : DeskAt K H k p sh cl) (x : NT H H') : DeskAt K H' k p sh cl := by
  obtain ⟨dx, fs, l, d, t, h1, h2, h3, hfs, h4, h5, h6⟩ := h.at_
  obtain ⟨ldx, lfs, n, l1, l2⟩ := h4.at_
  exact ⟨dx, fs, l, d, t, nt_ins x h1, h2, h3, hfs, ⟨ldx, lfs, n, nt_ins x l1, l2⟩, nt_dk x h5, nt_tup x h6⟩
/-- the tale of a claim that does not hold -/
def brkD (d : PyData) : PyData := .tuple [.str "Broken", .tuple [.int 0, d]]
def okT (d : PyData) : Prop := (brkD d).showable = true ∧ (brkD d).hasDict = false ∧ (brkD d).depth ≤ 60 ∧ (brkD d).shown.length ≤ sizeLine
section
variable {X : Cx} {σ : L2.St} {H : Hy} {Q : VK} {pos : Pos} {o : Expr} {C p g : Addr} {k : Nat} {f : Str} {ps : List Str} {sp : Sp}
theorem r_prop {j : Nat} (c : Cls X.K C) (hp : PropOf X.K C f p g) (F : HasM X.prog X.w X.K X.mg X.base k g ps sp) (hr : Room j X.A) (h : RE X o σ H fun x H1 => ∃ a dx fs, x = .ref a ∧ H1 a = some (.ins C dx fs) ∧ sp [.ref a] H1 Q E0)
    (hab : attributeBase o f X.env (eval o X.env) = eval o X.env := by rfl) (hj : k + 1 ≤ j := by decide) : RE X (.Attribute o f pos) σ H Q := by
  obtain ⟨fd, b, F⟩ := F.ex
  exact ⟨_, pe_prop (ds := []) (dvs := []) pRE c hp F (hr.mono hj) b .nil pass0 hab, h⟩
end
theorem shaped_nil : SeqAt.shaped (.list []) = true := by decide
theorem eqv_nilL : PyData.eqv (.list []) (.list []) = true := by simp [PyData.eqv, PyData.eqvAll]
theorem eqv_cons (d : PyData) (r : List PyData) : PyData.eqv (.list (d :: r)) (.list []) = false := by simp [PyData.eqv, PyData.eqvAll]
theorem eqv_gave : PyData.eqv (.tuple [.str "gave", .none]) (.tuple [.str "gave", .none]) = true := by simp [PyData.eqv, PyData.eqvAll]
theorem eqv_tnil : PyData.eqv (.tuple []) (.tuple []) = true := by simp [PyData.eqv, PyData.eqvAll]
def sp_w_claimed (K : PySem.W.Frag) : Sp := fun vs H Q _ => ∃ (m : MD) (k p tc hl : Addr) (c : Clm) (ol : List Pr) (cf : Str → List CT) (sf : Str → List (List CT)) (sh : List ShE) (hv : List V) (hd : List PyData) (G : Hy), vs = [.ref k, .ref tc, .ref hl] ∧ DeskAt K H k p sh [] ∧ Same G H ∧ NoTb G ∧ ModAt K G p m ∧ (∀ x ∈ c.names, ShOk K G p m cf sf sh x) ∧
  H tc = some (.tup c.v) ∧ Tree m ol ∧ c.ok m ∧ H hl = some (.lst hv) ∧ DpAll K H hv hd ∧ SeqAt.shaped (.list hd) = true ∧ LamX.Tabs (tabT K) H ∧ ((holdsB m ol cf sf c = true ∧ hd = []) ∨ (holdsB m ol cf sf c = false ∧ okT (shownD m ol cf sf c) ∧ ∃ r, hd = shownD m ol cf sf c :: r)) ∧
  ∀ H', ExtK k H H' → LamX.Tabs (tabT K) H' → DeskAt K H' k p sh [] → Q (.bl true) H'
section
variable {P : Program} {w : World} {K : PySem.W.Frag} {mg : Str → Option Value} {base : Heap}
theorem sc_w_claimed : FnScope ["_law_desk", "_law_said", "_law_hurt", "_law_told"] ["_law_desk", "_law_said", "_law_hurt"] (defScope s_w_claimed) := ⟨rfl, rfl, rfl, by decide +kernel, rfl, by decide +kernel, by decide +kernel⟩
theorem h_w_claimed (e : EV w K mg base) (B : ExF K) (TB : LamX.TabB base mg (He.cT K d_w_claimed.at_).1 (He.cT K d_w_claimed.at_).2) : HasG P w K mg base 13 "_law_claimed" ["_law_desk", "_law_said", "_law_hurt"] (sp_w_claimed K) := by
  refine mk_hasG (d := d_w_claimed) e.g_w_claimed e.f_w_claimed sc_w_claimed (fun _ _ _ _ _ _ us hl => match us, hl with | [_, _, _], _ => rfl) (fun vs H Q E h => by obtain ⟨_, _, _, _, _, _, _, _, _, _, _, _, _, rfl, _⟩ := h; rfl) (fun cdv A outer s H vs Q E hr hg hcd h => ?_)
  obtain ⟨m, k0, p, tc, hl, c, ol, cf, sf, sh, hv, hd, G, rfl, hk, sG, nG, hm, hn, htc, tr, hok, hhl, hdp, hsh, hT, hold, k⟩ := h
  subst hcd
  have hgu : (cxOf CX0 P w K mg base ["_law_desk", "_law_said", "_law_hurt", "_law_told"] d_w_claimed.qual d_w_claimed.scope (He.fAd K d_w_claimed.at_) (.ref (He.cT K d_w_claimed.at_).1) A outer s H E).nox.A.guards = some [] := hg
  refine rb_cons (rs_set 3 sc_w_claimed.nd (r_ask (k := 10) (T := tabT K) e B.brk TB rfl List.mem_cons_self (fun q hq _ => (congrArg Prod.snd (List.mem_singleton.mp hq) : q.2 = lamQ)) hr (by decide) (LamX.lamS_by (sc := defScope s_w_claimed) (by decide +kernel)) rfl (fun _ _ _ _ _ => rfl) hT (fun H1 x1 t1 A1 outer1 s1 H0 f c' hr2 hx2 => ?_)))
  have hk1 := nt_desk hk x1
  have sG1 := nG.same sG x1
  obtain ⟨dx, fs, l, d, t, a1, a2, a3, hfs, a4, a5, a6⟩ := id hk1.at_
  refine r_methX e.c_Desk e.m_Desk_claim (h_Desk_claim e B.brk.b) hr2 hx2 (r_var 0 (gv rfl ⟨k0, dx, fs, rfl, a1, (by rw [hfs]; rfl), ra_cons (r_var 1 (gv rfl (ra_nil ⟨m, k0, p, tc, c, ol, cf, sf, sh, rfl, hk1, hm.ext sG1, nt_tup x1 htc, tr, hok, fun x hx => (hn x hx).ext sG1, fun hb H2 v k2 hd2 q hq => ?_, fun hb dd H2 s2 hb2 => ?_⟩)))⟩))
  · obtain rfl : hd = [] := by
      rcases hold with h | h
      · exact h.2
      · rw [hb] at h
        cases h.1
    obtain rfl : hv = [] := List.length_eq_zero_iff.mp (DpAll.length hdp)
    have xk : ExtK k0 H H2 := (ExtK.ofN x1).trans (.ofK k2)
    have tk2 := tabs_keep t1 a1 k2
    have nhl : hl ≠ k0 := fun z => by
      rw [z] at hhl
      have z2 := (nt_lst x1 hhl).symm.trans a1
      cases z2
    have sq := fun o => same_new (o := o) hq
    have hhl2 := sq (.tup [.str "gave", .non]) _ _ (k2 _ _ nhl (nt_lst x1 hhl))
    refine rb_cons (rs_if (rt_ne hr.units (r_var 2 (gv rfl (r_lst (ra_nil ⟨Nat.zero_le _, fun p5 hp5 => ?_⟩))))))
    have s5 := fun o => same_new (o := o) hp5
    refine ⟨.list [], .list [], .lst (SqL.of (s5 _ _ _ hhl2)) .nil, .lst (SqL.of upd_same) .nil, shaped_nil, shaped_nil, b_no (b := !PyData.eqv (.list []) (.list [])) (by rw [eqv_nilL]; rfl) (rb_nil ?_)⟩
    refine rb_one (rs_ret (r_and (r_eq hr.units (r_var 3 (gv rfl (r_tup (ra_cons (r_str (ra_cons (r_non (ra_nil ⟨by show 2 ≤ sizeLine; decide, fun p6 hp6 => ?_⟩)))))))))))
    have s6 := fun o => same_new (o := o) hp6
    have dg : ∀ {H : Hy} {a : Addr}, H a = some (.tup [.str "gave", .non]) → Dp K H (.ref a) (.tuple [.str "gave", .none]) := fun h => .tup (SqT.of h) (.cons (.str _) (.cons .non .nil))
    refine ⟨_, _, dg (s6 _ _ _ (s5 _ _ _ upd_same)), dg upd_same, by decide +kernel, by decide +kernel, b_yes (b := PyData.eqv _ _) eqv_gave ?_⟩
    have s7 := (sq (.tup [.str "gave", .non])).trans ((s5 (.lst [])).trans (s6 (.tup [.str "gave", .non])))
    have hd7 := hd2.ext s7
    obtain ⟨dx7, fs7, l7, d7, t7, b1, b2, b3, hfs7, _⟩ := id hd7.at_
    refine r_and (r_isN (r_meth e.c_Desk e.m_Desk_lift (h_Desk_lift e) hr (r_var 0 (gv rfl ⟨k0, dx7, fs7, rfl, b1, (by rw [hfs7]; rfl), ra_cons (r_int (ra_nil ⟨k0, p, sh, v, rfl, hd7, fun H8 k8 hd8 => b_yes (b := true) rfl ?_⟩))⟩))))
    have tk8 := tabs_keep (tabs_same tk2 s7) b1 k8
    have xk8 : ExtK k0 H H8 := xk.trans ((ExtK.of s7).trans (.ofK k8))
    obtain ⟨dx8, fs8, l8, d8, t8, c1, c2, c3, hfs8, _⟩ := id hd8.at_
    obtain ⟨pp, hpr⟩ := B.prop
    refine r_one (r_eq hr.units (r_prop e.c_Desk hpr (h_Desk_claims e B.fdc) hr (r_var 0 (gv rfl ⟨k0, dx8, fs8, rfl, c1, k0, p, sh, [], rfl, hd8, fun t9 ht9 => ?_⟩))))
    refine r_tup (ra_nil ⟨Nat.zero_le _, fun p9 hp9 => ?_⟩)
    have s9 := fun o => same_new (o := o) hp9
    refine ⟨.tuple [], .tuple [], .tup (SqT.of (s9 _ _ _ ht9)) .nil, .tup (SqT.of upd_same) .nil, by decide, by decide, ?_⟩
    rw [eqv_tnil]
    exact k _ (xk8.trans (.of (s9 _))) (tabs_same tk8 (s9 _)) (hd8.ext (s9 _))
  · obtain ⟨sv, hdd, hsv⟩ := hb2
    refine ⟨rfl, dd, .int 0, sv, rfl, hdd, fun q t H3 s3 ht hq => ?_⟩
    obtain ⟨hod, r, rfl⟩ : okT (shownD m ol cf sf c) ∧ ∃ r, hd = shownD m ol cf sf c :: r := by
      rcases hold with h | h
      · rw [hb] at h
        cases h.1
      · exact h.2
    have s23 := s2.trans s3
    cases hdp with
    | @cons v vs _ _ hv1 hvr =>
    have hdp3 : DpAll K H3 (v :: vs) (shownD m ol cf sf c :: r) := DpAll.ext s23 (nt_dpa x1 (.cons hv1 hvr))
    have hhl3 := s23 _ _ (nt_lst x1 hhl)
    refine rb_cons (rs_if (rt_ne hr.units (r_var 2 (gv rfl (r_lst (ra_nil ⟨Nat.zero_le _, fun p5 hp5 => ?_⟩))))))
    have s5 := fun o => same_new (o := o) hp5
    refine ⟨.list (shownD m ol cf sf c :: r), .list [], .lst (SqL.of (s5 _ _ _ hhl3)) (DpAll.ext (s5 _) hdp3), .lst (SqL.of upd_same) .nil, hsh, shaped_nil, b_yes (b := !PyData.eqv (.list (shownD m ol cf sf c :: r)) (.list [])) (by rw [eqv_cons]; rfl) ?_⟩
    have dsv : Dp K (upd H3 p5 (.lst [])) (.ref q) (brkD (shownD m ol cf sf c)) := .tup (SqT.of (s5 _ _ _ hq)) (.cons (.str _) (.cons (.tup (SqT.of (s5 _ _ _ ht)) (.cons (.int _) (.cons (My.Dp.ext (s3.trans (s5 _)) hsv) .nil))) .nil))
    refine rb_one (rs_ret (r_eq hr.units (r_callB (call_reprD hgu hr.units) e.z_repr (by decide +kernel) (ra_cons (r_var 3 (gv rfl (ra_nil ⟨q, _, rfl, dsv, hod.1, hod.2.1, hod.2.2.1, hod.2.2.2, ?_⟩)))))))
    refine r_callB (call_reprD hgu hr.units) e.z_repr (by decide +kernel) (ra_cons (r_tup (ra_cons (r_str (ra_cons (r_tup (ra_cons (r_int (ra_cons (r_ix (r_var 2 (gv rfl (r_int ⟨_, v, .inl (SqL.of (s5 _ _ _ hhl3)), at0, ra_nil ⟨by show 2 ≤ sizeLine; decide, fun p6 hp6 => ra_nil ⟨by show 2 ≤ sizeLine; decide, fun p7 hp7 => ?_⟩⟩⟩)))))))))))))
    have s6 := fun o => same_new (o := o) hp6
    have s7 := fun o => same_new (o := o) hp7
    have hv3 : Dp K H3 v (shownD m ol cf sf c) := by
      cases hdp3 with
      | cons h _ => exact h
    refine ra_nil ⟨p7, brkD (shownD m ol cf sf c), rfl, .tup (SqT.of upd_same) (.cons (.str _) (.cons (.tup (SqT.of (s7 _ _ _ upd_same)) (.cons (.int _) (.cons (My.Dp.ext ((s5 _).trans ((s6 _).trans (s7 _))) hv3) .nil))) .nil)), hod.1, hod.2.1, hod.2.2.1, hod.2.2.2, ?_⟩
    refine eq_ss ?_
    rw [decide_eq_true rfl]
    have sa := s23.trans ((s5 (.lst [])).trans ((s6 (.tup [.int 0, v])).trans (s7 (.tup [.str "Broken", .ref p6]))))
    exact k _ ((ExtK.ofN x1).trans (.of sa)) (tabs_same t1 sa) (hk1.ext sa)
end
end My

set_option Elab.async false
set_option pp.maxSteps 1500
set_option linter.all false
set_option maxRecDepth 100000
set_option maxHeartbeats 4000000
/-! J15: the walk of _law_mate (under way) -/
namespace My
open PySem PySem.Spec PyProof.Rows L2 TL
section
variable {P : Program} {w : World} {K : PySem.W.Frag} {mg : Str → Option Value} {base : Heap}
theorem sc_w_mate : FnScope ["_law_jar_here", "_law_shape", "_law_pairs", "_law_way", "_law_found", "_law_near", "_law_far", "_law_row_here"] ["_law_jar_here", "_law_shape", "_law_pairs"] (defScope s_w_mate) := ⟨rfl, rfl, rfl, by decide +kernel, rfl, by decide +kernel, by decide +kernel⟩
theorem h_w_mate (e : EV w K mg base) : Has P w K mg base 4 "_law_mate" ["_law_jar_here", "_law_shape", "_law_pairs"] (sp_w_mate K) := by
  refine mk_has (d := d_w_mate) e.g_w_mate e.f_w_mate sc_w_mate (fun _ _ _ _ _ _ us hl => match us, hl with | [_, _, _], _ => rfl) (fun vs H Q E h => by obtain ⟨_, _, _, _, _, _, rfl, _⟩ := h; rfl) (fun cdv A outer s H vs Q E hr h => ?_)
  obtain ⟨m, j, s0, a, so, cs, rfl, hj, hs, hm, ⟨⟨us, hu, htu⟩, hb, ha⟩, k⟩ := h
  refine rb_cons (rs_asg (r_tup (ra_cons (r_call (h_w_dip e) hr (ra_cons (r_var 0 (ra_cons (r_int (ra_nil ⟨j, 3, rfl, hj, by decide, by decide, fun way H1 k1 hj1 w0 w1 => ?_⟩)))))))))
  have htu1 : Tu gCnt H1 us cs := Paired.mapP htu fun v p q => by
    obtain ⟨t, rfl, q⟩ := q
    exact ⟨t, rfl, hj.tup k1 q⟩
  have hu1 := hj.tup k1 hu
  refine ra_cons (r_callTy (call_dictP rfl) e.z_dict (by decide +kernel) (ra_cons (r_callTy call_list_of e.z_list (by decide +kernel) (ra_cons (r_var 2 (ra_nil ⟨a, _, rfl, .inr (SqT.of hu1), fun l hl => ?_⟩))))))
  have sl := fun o => same_new (o := o) hl
  obtain ⟨ps, rfl, hp⟩ := tu_paired (K := K) (htu1.ext (sl (.lst us)))
  refine ra_nil ⟨l, ps, cs.map entN, rfl, SqL.of upd_same, hp, fun d hd => ?_⟩
  rw [show mergeK [] (cs.map entN) = cs.map entN from mergeK_N cs [] ha fun _ h => absurd h (List.not_mem_nil)]
  refine ra_nil ⟨by show 2 ≤ sizeLine; decide, fun t ht => ?_⟩
  refine rg_tup ⟨t, _, rfl, SqT.of upd_same, rfl, rgs_cons (rg_name 3 sc_w_mate.nd (rgs_cons (rg_name 4 sc_w_mate.nd (rgs_nil ?_))))⟩
  have sA := ((sl (.lst (ps.map V.ref))).trans (same_new (o := .dK (cs.map entN)) hd)).trans (same_new (o := .tup [.int way, .ref d]) ht)
  have hdA := same_new (o := .tup [.int way, .ref d]) ht _ _ (upd_same (H := upd H1 l (.lst (ps.map V.ref))) (a := d) (o := .dK (cs.map entN)))
  have jA := hj1.ext sA
  have kA := k1.trans (Keep.of sA)
  have hjd : j ≠ d := fun z => by obtain ⟨_, _, _, q⟩ := jA; rw [z, hdA] at q; cases q
  have hH1d := (sl (.lst (ps.map V.ref))).free hd
  generalize upd (upd (upd H1 l (.lst (ps.map V.ref))) d (.dK (cs.map entN))) t (.tup [.int way, .ref d]) = HA at sA hdA jA kA
  have huA := hj.tup kA hu
  have kD : ∀ o, Keep j H (upd HA d o) := fun o b u hbj h => by
    rw [upd_ne (show b ≠ d from fun z => by have := k1 b u hbj h; rw [z, hH1d] at this; cases this)]
    exact kA b u hbj h
  have jD : ∀ o, JarAt (upd HA d o) j := fun o => by
    obtain ⟨x, y, z, q⟩ := jA
    exact ⟨x, y, z, by rw [upd_ne hjd]; exact q⟩
  refine rb_cons (rs_if (rt_bool (rw_or (rt_eq hr.units (r_var 3 (gv rfl (r_int (eq_ii ?_))))))))
  cases hw : decide (V.int way = V.int 0) with
  | true =>
    refine b_yes rfl (iteT ?_)
    refine rb_one (rs_ret (r_call (h_w_table e) hr (ra_cons (r_var 0 (ra_cons (r_var 1 (ra_nil ⟨m, j, s0, so, rfl, jA, hs.keep hj kA, hm, fun a' H' cs' k' hj' hc' => ?_⟩)))))))
    exact k a' H' cs' (kA.trans k') hj' ⟨hc'.1, hc'.2.1.mono (by decide) (by decide), hc'.2.2⟩
  | false =>
    refine b_no rfl (rw_or1 (rt_lt (r_callB call_len_seq e.z_len boot_len (ra_cons (r_var 2 (ra_nil ⟨a, _, rfl, .inr (SqT.of huA), r_int (lt_ii (b_d (fun hl2 => ?_) (fun hl2 => rb_nil ?_)))⟩))))))
    · refine rb_one (rs_ret (r_call (h_w_table e) hr (ra_cons (r_var 0 (ra_cons (r_var 1 (ra_nil ⟨m, j, s0, so, rfl, jA, hs.keep hj kA, hm, fun a' H' cs' k' hj' hc' => ?_⟩)))))))
      exact k a' H' cs' (kA.trans k') hj' ⟨hc'.1, hc'.2.1.mono (by decide) (by decide), hc'.2.2⟩
    have h2 : 2 ≤ cs.length := by
      have := htu1.length
      omega
    obtain ⟨e0, e9, g0, g9, hne⟩ := ends_of ha h2
    have htuA : Tu gCnt HA (ps.map V.ref) cs := htu1.ext sA
    obtain ⟨t0, u0, hA0⟩ := htuA.get' g0
    obtain ⟨t9, u9, hA9⟩ := htuA.get' g9
    refine rb_cons (rs_par 5 6 sc_w_mate.nd (ra_cons (r_ix (r_ix (r_var 2 (r_int ⟨_, .ref t0, .inr (SqT.of huA), atI_nat (j := 0) u0, r_int ⟨_, .str (S e0.1), .inr (SqT.of hA0), at0, ra_cons (r_ix (r_ix (r_var 2 (r_neg (r_int ⟨_, .ref t9, .inr (SqT.of huA), atI_end (by rw [htuA.length]; exact u9), r_int ⟨_, .str (S e9.1), .inr (SqT.of hA9), at0, ra_nil ⟨_, _, rfl, ?_⟩⟩⟩)))))⟩⟩))))))
    refine rb_cons (rs_if (rt_eq hr.units (r_var 3 (gv rfl (r_int (eq_ii ?_))))))
    cases hw1 : decide (V.int way = V.int 1) with
    | true =>
      refine b_yes rfl ?_
      have m0 : e0 ∈ cs := List.mem_of_getElem? g0
      have hv0 : valV (cs.map entN) (Sum.inr (S e0.1)) = some (V.int e0.2) := by
        rw [valV_N, getN_asc ha m0]
        rfl
      refine rb_cons (rs_dput hr.units (r_add (r_dix hr.units (r_var 4 (gv rfl (r_var 5 (gv rfl ⟨d, _, Sum.inr (S e0.1), .int e0.2, rfl, hdA, rfl, hv0, r_int (add_ii ?_)⟩)))))))
      refine r_var 4 (gv rfl (r_var 5 (gv rfl ⟨d, _, Sum.inr (S e0.1), rfl, hdA, rfl, ?_, ?_⟩)))
      · rw [List.length_map]
        exact Nat.lt_of_le_of_lt hb.len (by decide)
      rw [putK_N]
      have hb1 := (hb.mono (show (10 ^ 28 : Int) ≤ 10 ^ 28 + 3 by decide) (Nat.le_refl 7)).put (v := e0.2 + 1) (hb.row _ m0) (by have := hb.pos _ m0; omega) (by have := hb.top _ m0; omega)
      have hl8 := hb1.len
      refine rb_one (rs_ret (r_callTy call_tuple_of e.z_tuple (by decide +kernel) (ra_cons (r_sitems e.z_sorted (r_var 4 (gv rfl ⟨d, _, rfl, upd_same, by omega, fun H4 l4 us4 ps4 s4 hp4 hps4 hl4 ht4 => ra_nil ⟨l4, _, rfl, .inl ⟨SqL.of hl4, fun t4 ht40 => ?_⟩⟩⟩))))))
      exact k t4 _ ps4 ((kD _).trans (Keep.of (s4.trans (same_new ht40)))) ((jD _).ext (s4.trans (same_new ht40))) ⟨⟨us4, upd_same, ht4.ext (same_new ht40)⟩, (hb1.perm hp4).mono (Int.le_refl _) (by decide), hps4⟩
    | false =>
      refine b_no rfl (rb_nil ?_)
      have sg : ∀ {g : Addr} {o : HO}, HA g = none → Same HA (upd HA g o) := fun hg => same_new hg
      refine rb_cons (rs_for PassesOwn.never (ri_list (r_lst (ra_cons (r_var 5 (ra_cons (r_var 6 (ra_nil ⟨by show 2 ≤ sizeLine; decide, fun g hg => ⟨g, rfl, ⟨_, SqL.of upd_same⟩, ?_⟩⟩))))))))
      have hgd : g ≠ d := fun z => by rw [z, hdA] at hg; cases hg
      refine rfor_it (walk_list (xs := [V.str (S e0.1), V.str (S e9.1)])) (fun i σ' H' => Keep j H H' ∧ JarAt H' j ∧ H' g = some (.lst [V.str (S e0.1), V.str (S e9.1)]) ∧ ∃ (D : List CT) (v7 : Option V), σ' = [some (.ref j), some (.ref s0), some (.ref a), some (.int way), some (.ref d), some (.str (S e0.1)), some (.str (S e9.1)), v7] ∧ H' d = some (.dK (D.map entN)) ∧ (D.map (·.1)).Nodup ∧ CsW m (10 ^ 28) (7 + i) D ∧ (i ≤ 0 → getN D e0.1 = some e0.2) ∧ (i ≤ 1 → getN D e9.1 = some e9.2))
        ⟨kA.trans (Keep.of (sg hg)), jA.ext (sg hg), upd_same, cs, _, rfl, sg hg _ _ hdA, nd_of_pw ha, hb.w, fun _ => getN_asc ha (List.mem_of_getElem? g0), fun _ => getN_asc ha (List.mem_of_getElem? g9)⟩ (fun i σ' H' _ q => SqL.of q.2.2.1) ?_ ?_
      · rintro i x σ' H2 H2' hi ⟨k2, j2, hg2, D, v7, rfl, hd2, hnd, hW, n0, n9⟩ ⟨rfl, hx⟩
        have hrx : ∃ r v, x = V.str (S r) ∧ RowOk m r ∧ getN D r = some v ∧ 1 ≤ v := by
          rcases (show i = 0 ∨ i = 1 by simp at hi; omega) with rfl | rfl
          · exact ⟨e0.1, e0.2, (Option.some.inj hx).symm, hb.row _ (List.mem_of_getElem? g0), n0 (Nat.le_refl _), hb.pos _ (List.mem_of_getElem? g0)⟩
          · exact ⟨e9.1, e9.2, (Option.some.inj hx).symm, hb.row _ (List.mem_of_getElem? g9), n9 (Nat.le_refl _), hb.pos _ (List.mem_of_getElem? g9)⟩
        obtain ⟨r, v, rfl, hrow, hget, hv1⟩ := hrx
        have hvv : valV (D.map entN) (Sum.inr (S r)) = some (V.int v) := by
          rw [valV_N, hget]
          rfl
        refine rg_name 7 sc_w_mate.nd (rb_one (rs_dput hr.units (r_sub (r_dix hr.units (r_var 4 (gv rfl (r_var 7 (gv rfl ⟨d, _, Sum.inr (S r), .int v, rfl, hd2, rfl, hvv, r_int (sub_ii ?_)⟩))))))))
        refine r_var 4 (gv rfl (r_var 7 (gv rfl ⟨d, _, Sum.inr (S r), rfl, hd2, rfl, ?_, ?_⟩)))
        · rw [List.length_map]
          exact Nat.lt_of_le_of_lt hW.len (by simp at hi; have : 7 + i ≤ 9 := by omega
                                              exact Nat.lt_of_le_of_lt this (by decide))
        rw [putK_N]
        have hgt : v ≤ 10 ^ 28 := hW.top _ (getN_mem hget)
        refine ⟨fun b u hbj hh => ?_, ?_, ?_, putN D r (v - 1), _, rfl, upd_same, putN_nd hnd, hW.put hrow (by omega) (by omega) (Int.le_refl _), fun q => by omega, fun q => ?_⟩
        · rw [upd_ne (show b ≠ d from fun z => by have := k1 b u hbj hh; rw [z, hH1d] at this; cases this)]
          exact k2 b u hbj hh
        · obtain ⟨x, y, z, q⟩ := j2
          exact ⟨x, y, z, by rw [upd_ne hjd]; exact q⟩
        · rw [upd_ne hgd]
          exact hg2
        · obtain rfl : i = 0 := by omega
          have : r = e0.1 := S_inj (V.str.inj (Option.some.inj hx)).symm
          rw [getN_put_ne (fun q => hne (by rw [← this, ← q]))]
          exact n9 (by omega)
      · rintro σ' H2 ⟨k2, j2, hg2, D, v7, rfl, hd2, hnd, hW, _, _⟩
        have r0 := hb.row _ (List.mem_of_getElem? g0)
        have r9 := hb.row _ (List.mem_of_getElem? g9)
        refine rb_cons (rs_for PassesOwn.never (ri_tup (r_call (h_w_exchanged e) hr (ra_cons (r_var 1 (ra_cons (r_var 5 (ra_cons (r_var 6 (ra_cons (r_ix (r_call (h_w_pieces e) hr (ra_cons (r_var 1 (ra_cons (r_var 5 (ra_cons (r_var 6 (ra_nil ⟨m, s0, so, e0.1, e9.1, rfl, hs.keep hj k2, hm, r0, r9, hne, fun q H3 pl s3 hq hpl => ?_⟩)))))))))))))))))))
        obtain ⟨cols, hcols⟩ : ∃ c, pl[pl.length - 1]? = some c := ⟨_, List.getElem?_eq_getElem (by have := List.length_pos_iff.mpr hpl; omega)⟩
        refine r_neg (r_int ⟨_, .str (S cols), .inl (SqL.of hq), atI_end (by rw [List.length_map, List.length_map, List.getElem?_map, List.getElem?_map, hcols]; rfl), ra_nil ⟨m, s0, so, e0.1, e9.1, cols, rfl, (hs.keep hj k2).ext s3, hm, r0, r9, fun t5 H5 x y s5 ht5 hx hy => ?_⟩⟩)
        have hH2d : H2 d = some (.dK (D.map entN)) := hd2
        have s35 := s3.trans s5
        have htd : t5 ≠ d := fun z => by have := s35 _ _ hd2; rw [← z, ht5] at this; cases this
        refine ⟨t5, rfl, ⟨_, SqT.of ht5⟩, ?_⟩
        refine rfor_it (walk_tup (xs := [V.str (S x), V.str (S y)])) (fun i σ' H' => Keep j H H' ∧ JarAt H' j ∧ H' t5 = some (.tup [V.str (S x), V.str (S y)]) ∧ ∃ (D : List CT) (v7 : Option V), σ' = [some (.ref j), some (.ref s0), some (.ref a), some (.int way), some (.ref d), some (.str (S e0.1)), some (.str (S e9.1)), v7] ∧ H' d = some (.dK (D.map entN)) ∧ (D.map (·.1)).Nodup ∧ CsW m (10 ^ 28 + i) (9 + i) D)
          ⟨k2.trans (Keep.of s35), j2.ext s35, ht5, D, _, rfl, s35 _ _ hd2, hnd, hW.mono (by simp) (by simp)⟩ (fun i σ' H' _ q => SqT.of q.2.2.1) ?_ ?_
        · rintro i z σ' H6 H6' hi ⟨k6, j6, ht6, D6, v7, rfl, hd6, hnd6, hW6⟩ ⟨rfl, hz⟩
          have hrz : ∃ r, z = V.str (S r) ∧ RowOk m r := by
            rcases (show i = 0 ∨ i = 1 by simp at hi; omega) with rfl | rfl
            · exact ⟨x, (Option.some.inj hz).symm, hx⟩
            · exact ⟨y, (Option.some.inj hz).symm, hy⟩
          obtain ⟨r, rfl, hrow⟩ := hrz
          have hi2 : i < 2 := by simpa using hi
          have hlen := hW6.len
          obtain ⟨g1, g2⟩ := hW6.get (by omega) r
          refine rg_name 7 sc_w_mate.nd (rb_one (rs_dput hr.units (r_add (r_dget2 hr.units (r_var 4 ⟨d, _, rfl, hd6, r_var 7 (r_int ⟨_, Sum.inr (S r), hd6, rfl, ?_⟩)⟩)))))
          rw [valV_N]
          have e3 : (Option.map V.int (getN D6 r)).getD (V.int 0) = V.int ((getN D6 r).getD 0) := by
            cases getN D6 r <;> rfl
          rw [e3]
          refine r_int (add_ii (r_var 4 (gv rfl (r_var 7 (gv rfl ⟨d, _, Sum.inr (S r), rfl, hd6, rfl, ?_, ?_⟩)))))
          · rw [List.length_map]
            exact Nat.lt_of_le_of_lt (show _ ≤ 11 by omega) (by decide)
          rw [putK_N]
          refine ⟨fun b u hbj hh => ?_, ?_, ?_, putN D6 r ((getN D6 r).getD 0 + 1), _, rfl, upd_same, putN_nd hnd6, hW6.put hrow (by omega) (by omega) (by omega)⟩
          · rw [upd_ne (show b ≠ d from fun z => by have := k1 b u hbj hh; rw [z, hH1d] at this; cases this)]
            exact k6 b u hbj hh
          · obtain ⟨x, y, z, q⟩ := j6
            exact ⟨x, y, z, by rw [upd_ne hjd]; exact q⟩
          · rw [upd_ne htd]
            exact ht6
        · rintro σ' H6 ⟨k6, j6, ht6, D6, v7, rfl, hd6, hnd6, hW6⟩
          have hlen : D6.length ≤ 11 := hW6.len
          have htop : ∀ e ∈ D6, e.2 ≤ 10 ^ 28 + 3 := fun e he => by have := hW6.top e he; simp at this; omega
          refine rb_one (rs_ret (r_callTy call_tuple_of e.z_tuple (by decide +kernel) (ra_cons (r_lc [("_law_row_here", 7)] sc_w_mate.nd (blkOk_by (N := ["_law_jar_here", "_law_shape", "_law_pairs", "_law_way", "_law_found", "_law_near", "_law_far", "_law_row_here"]) (sc := defScope s_w_mate) (by decide +kernel)) (ri_list (r_callB (call_sortedD rfl) e.z_sorted (by decide +kernel) (ra_cons (r_var 4 (gv rfl (ra_nil ⟨d, _, D6.map fun e => S e.1, rfl, Rd.of hd6, ?_, ?_, fun ys p hys hsr hp => ⟨p, rfl, ⟨_, SqL.of upd_same⟩, fun T hT => ?_⟩⟩))))))))))
          · rw [List.map_map, List.map_map]
            rfl
          · rw [List.length_map]
            omega
          obtain ⟨es, hes, rfl⟩ := perm_lift (fun e : CT => S e.1) hys D6 rfl
          have hmem : ∀ {e : CT}, e ∈ es → e ∈ D6 := fun {e} he => hes.mem_iff.mp he
          have hpw : es.Pairwise fun e f => e.1 < f.1 := by
            have h1 : (es.map (·.1)).Nodup := (hes.map _).nodup_iff.mpr hnd6
            have h2 := pw_of_sorted h1 (by rw [List.map_map]; exact hsr)
            rwa [List.pairwise_map] at h2
          have hel : es.length ≤ 11 := by rw [hes.length_eq]; exact hlen
          have sp := fun o => same_new (o := o) hp
          have hd7 := sp (.lst ((es.map fun e => S e.1).map V.str)) _ _ hd6
          refine lc_r walk_list hT (fun H' s => s.seq (SqL.of upd_same)) (fun i H x H' y => by rw [y.1]; exact Same.refl _) (fun i ws H' => Tu gCnt H' ws ((es.take i).filter fun e => decide (0 < e.2))) Tu.nil (fun i ws H' hi r => ?_) (fun i ws H' H'' hq hk r => r.keep hk hq) (fun i z ws H7 H8 hi s7 hT7 r y => ?_) (fun H7 ws s7 hT7 r => ?_)
          · rw [r.length]
            exact Nat.lt_of_le_of_lt (Nat.le_trans (List.length_filter_le _ _) (Nat.le_trans (List.length_take_le' _ _) hel)) (by decide)
          · obtain ⟨rfl, hz⟩ := y
            obtain ⟨f, hf, rfl⟩ : ∃ f, es[i]? = some f ∧ z = .str (S f.1) := by
              rw [List.getElem?_map, List.getElem?_map] at hz
              cases q : es[i]? with
              | none => rw [q] at hz; cases hz
              | some f => rw [q] at hz; exact ⟨f, rfl, (Option.some.inj hz).symm⟩
            have hvf : valV (D6.map entN) (Sum.inr (S f.1)) = some (V.int f.2) := by
              rw [valV_N, getN_nd hnd6 (hmem (List.mem_of_getElem? hf))]
              rfl
            have etk : es.take (i + 1) = es.take i ++ [f] := by rw [List.take_succ, hf]; rfl
            intro s0' H0 C cl fp
            refine rg_name 7 sc_w_mate.nd ⟨rfl, ?_⟩
            intro s0' H0 C cl fp
            refine rts_one (rt_gt (r_dix hr.units (r_var 4 (gv rfl (r_var 7 (gv rfl ⟨d, _, Sum.inr (S f.1), .int f.2, rfl, s7 _ _ hd7, rfl, hvf, r_int (gt_ii ?_)⟩))))))
            refine b_d (fun h0 => ?_) (fun h0 => ?_)
            · intro s0' H0 C cl fp
              refine r_tup (ra_cons (r_var 7 (ra_cons (r_dix hr.units (r_var 4 (gv rfl (r_var 7 (gv rfl ⟨d, _, Sum.inr (S f.1), .int f.2, rfl, s7 _ _ hd7, rfl, hvf, ra_nil ⟨by show 2 ≤ sizeLine; decide, fun t8 ht8 => ⟨same_new ht8, ?_⟩⟩⟩))))))))
              rw [etk, List.filter_append, show [f].filter (fun e => decide (0 < e.2)) = [f] by simp [h0]]
              exact (r.ext (same_new ht8)).snoc upd_same
            · refine ⟨Same.refl _, ?_⟩
              rw [etk, List.filter_append, show [f].filter (fun e => decide (0 < e.2)) = [] by simp [h0], List.append_nil]
              exact r
          · rw [show ((es.map fun e => S e.1).map V.str).length = es.length by simp, List.take_length] at r
            refine ra_nil ⟨T, _, rfl, .inl ⟨SqL.of hT7, fun t9 ht9' => ?_⟩⟩
            have s69 := (sp (.lst ((es.map fun e => S e.1).map V.str))).trans (s7.trans (same_new (o := .tup ws) ht9'))
            refine k t9 _ _ (k6.trans (Keep.of s69)) (j6.ext s69) ⟨⟨ws, upd_same, r.ext (same_new ht9')⟩, ⟨fun e he => ?_, fun e he => ?_, fun e he => ?_, ?_⟩, hpw.filter _⟩
            · exact hW6.row e (hmem (List.mem_filter.mp he).1)
            · have := of_decide_eq_true (List.mem_filter.mp he).2
              omega
            · exact htop e (hmem (List.mem_filter.mp he).1)
            · exact Nat.le_trans (List.length_filter_le _ _) hel
end
end My

set_option Elab.async false
set_option pp.maxSteps 1500
set_option linter.all false
set_option maxRecDepth 100000
set_option maxHeartbeats 4000000
/-! Y9: bounds of the ranges, texts of the tales, what the calls keep -/
namespace My
open PySem PySem.Spec PyProof.Rows L2 TL
/-! ### bounds -/
theorem sumC_b {b : Int} (hb : 0 ≤ b) : ∀ {l : List CT}, (∀ e ∈ l, 1 ≤ e.2) → (∀ e ∈ l, e.2 ≤ b) → 0 ≤ (l.map (·.2)).sum ∧ (l.map (·.2)).sum ≤ l.length * b
  | [], _, _ => by simp
  | e :: l, h1, h2 => by
    have ih := sumC_b hb (l := l) (fun x hx => h1 x (List.mem_cons_of_mem _ hx)) (fun x hx => h2 x (List.mem_cons_of_mem _ hx))
    have a1 := h1 e List.mem_cons_self
    have a2 := h2 e List.mem_cons_self
    rw [List.map_cons, List.sum_cons, List.length_cons]
    have e1 : ((l.length + 1 : Nat) : Int) * b = l.length * b + b := by
      rw [Int.natCast_add, Int.add_mul]
      simp
    omega
theorem heldF_b {m : MD} {b : Int} {n : Nat} {cs : List CT} (h : CsB m b n cs) (hb : 0 ≤ b) (r cols : LN) : 0 ≤ heldF m cs r cols ∧ heldF m cs r cols ≤ n * b := by
  unfold heldF
  have q := sumC_b hb (l := cs.filter fun e => decide (pick m e.1 cols = pick m r cols)) (fun e he => h.pos e (List.mem_filter.mp he).1) fun e he => h.top e (List.mem_filter.mp he).1
  refine ⟨q.1, Int.le_trans q.2 (Int.mul_le_mul_of_nonneg_right ?_ hb)⟩
  exact Int.ofNat_le.mpr (Nat.le_trans (List.length_filter_le _ _) h.len)
theorem sums_b {α : Type} {f : α → Int} {B : Int} (hB : 0 ≤ B) : ∀ {l : List α}, (∀ x ∈ l, 0 ≤ f x ∧ f x ≤ B) → 0 ≤ (l.map f).sum ∧ (l.map f).sum ≤ l.length * B
  | [], _ => by simp
  | x :: l, h => by
    have ih := sums_b hB (l := l) fun y hy => h y (List.mem_cons_of_mem _ hy)
    have a1 := h x List.mem_cons_self
    rw [List.map_cons, List.sum_cons, List.length_cons]
    have e1 : ((l.length + 1 : Nat) : Int) * B = l.length * B + B := by
      rw [Int.natCast_add, Int.add_mul]
      simp
    omega
theorem lowF_b {m : MD} {b : Int} {n : Nat} {cs : List CT} (h : CsB m b n cs) (hb : 0 ≤ b) (r : LN) {ol : List Pr} (ho : OlOk m ol) : 0 ≤ lowF m cs r ol ∧ lowF m cs r ol ≤ 11 * (n * b) := by
  have hB : 0 ≤ (n : Int) * b := Int.mul_nonneg (Int.natCast_nonneg n) hb
  have q1 := sums_b hB (l := ol) (f := fun o => heldF m cs r o.1) fun o _ => heldF_b h hb r o.1
  have q2 := sums_b hB (l := ol.drop 1) (f := fun o => heldF m cs r o.2) fun o _ => heldF_b h hb r o.2
  have q3 : (ol.length : Int) * (n * b) ≤ 11 * (n * b) := Int.mul_le_mul_of_nonneg_right (by have := ho.few; omega) hB
  unfold lowF
  generalize (n : Int) * b = B at *
  dsimp only
  split <;> omega
theorem topF_b {m : MD} {b : Int} {n : Nat} {cs : List CT} (h : CsB m b n cs) (hb : 0 ≤ b) (r : LN) {ol : List Pr} (ho : OlOk m ol) : 0 ≤ topF m cs r ol ∧ topF m cs r ol ≤ n * b := by
  unfold topF
  have hne : ol.map (fun o => heldF m cs r o.1) ≠ [] := by
    have := ho.ne
    cases ol with
    | nil => simp at this
    | cons a l => simp
  obtain ⟨o, _, e⟩ := List.mem_map.mp (minL_mem hne)
  rw [← e]
  exact heldF_b h hb r o.1
/-! ### texts of the tales -/
theorem okT_of {d : PyData} (h1 : d.showable = true) (h2 : d.hasDict = false) (h3 : d.depth ≤ 50) (h4 : d.leavesShort 60 = true) (h5 : d.weight ≤ 1000) : okT d := by
  refine ⟨?_, ?_, ?_, ?_⟩
  · simp [brkD, PyData.showable, PyData.showableAll, h1]
  · simp [brkD, PyData.hasDict, PyData.hasDictAll, h2]
  · simp only [brkD, PyData.depth, PyData.depthAll]
    omega
  · have hl : (brkD d).leavesShort 60 = true := by
      simp only [brkD, PyData.leavesShort, PyData.leavesShortAll, h4, Bool.and_true, Bool.and_self, Bool.and_eq_true]
      exact ⟨by decide +kernel, by decide +kernel⟩
    have hw : (brkD d).weight ≤ 1100 := by
      simp only [brkD, PyData.weight, PyData.weightAll]
      have e1 : ("Broken" : Str).cps.size = 6 := by decide +kernel
      rw [e1]
      simp
      omega
    have q := PyData.shown_le 60 (by decide) (brkD d) hl
    have : sizeLine = 16777216 ∨ 100000 ≤ sizeLine := .inr (by decide)
    have : 100000 ≤ sizeLine := by decide
    omega
theorem int_ok {i : Int} (h0 : 0 ≤ i) (h : i < 10 ^ 40) : (PyData.int i).showable = true ∧ (PyData.int i).leavesShort 60 = true ∧ (PyData.int i).weight ≤ 200 := by
  have hn : i.natAbs < 10 ^ 40 := by omega
  have hl : i.natAbs.log2 < 140 := by
    by_cases hz : i.natAbs = 0
    · rw [hz]
      decide
    · exact (Nat.log2_lt hz).mpr (Nat.lt_trans hn (by decide))
  refine ⟨?_, ?_, ?_⟩
  · simp only [PyData.showable, decide_eq_true_eq]
    omega
  · simp only [PyData.leavesShort, decide_eq_true_eq]
    have e := int_text_length_le10 (k := 40) (by decide) hn
    show (Str.ofString (toString i)).length ≤ 60
    rw [PySem.ofString_length]
    omega
  · simp only [PyData.weight]
    split <;> omega
theorem okT_two {i j : Int} (hi0 : 0 ≤ i) (hi : i < 10 ^ 40) (hj0 : 0 ≤ j) (hj : j < 10 ^ 40) : okT (.tuple [.int i, .int j]) := by
  obtain ⟨a1, a2, a3⟩ := int_ok hi0 hi
  obtain ⟨b1, b2, b3⟩ := int_ok hj0 hj
  refine okT_of ?_ ?_ ?_ ?_ ?_
  · simp only [PyData.showable, PyData.showableAll] at a1 b1 ⊢
    simp only [a1, b1]
    rfl
  · simp [PyData.hasDict, PyData.hasDictAll]
  · simp [PyData.depth, PyData.depthAll]
  · rw [PyData.leavesShort]
    simp only [PyData.leavesShortAll, a2, b2]
    rfl
  · rw [PyData.weight]
    simp only [PyData.weightAll]
    omega
theorem okT_int {i : Int} (hi0 : 0 ≤ i) (hi : i < 10 ^ 40) : okT (.int i) := by
  obtain ⟨a1, a2, a3⟩ := int_ok hi0 hi
  exact okT_of a1 (by simp [PyData.hasDict]) (by simp [PyData.depth]) a2 (by omega)
theorem okT_str {l : LN} (h : ∀ c ∈ l, c < 0x110000) (hl : l.length ≤ 100) : okT (.str (S l)) := by
  refine okT_of (by simp [PyData.showable]) (by simp [PyData.hasDict]) (by simp [PyData.depth]) ?_ ?_
  · simp only [PyData.leavesShort, S_cps, List.all_eq_true, decide_eq_true_eq]
    intro c hc
    have := h c hc
    exact Nat.lt_trans this (by decide)
  · simp only [PyData.weight]
    show (S l).cps.size ≤ 1000
    have : (S l).cps.size = l.length := by simp [S]
    omega
theorem shapedL {ds : List PyData} (h1 : PyData.canLayAll0 ds = true) (h2 : PyData.depthAll ds ≤ 50) : SeqAt.shaped (.list ds) = true := by
  have h3 : PyData.depth (.list ds) ≤ 64 := by
    simp only [PyData.depth]
    omega
  show (PyData.canLay0 (.list ds) && decide (PyData.depth (.list ds) ≤ 64)) = true
  rw [Bool.and_eq_true]
  exact ⟨by simp only [PyData.canLay0]; exact h1, decide_eq_true h3⟩
theorem shapedL_str {ls : List LN} (h : ∀ l ∈ ls, ∀ c ∈ l, c < 0x110000) : SeqAt.shaped (.list (ls.map fun l => PyData.str (S l))) = true := by
  refine shapedL ?_ ?_
  · induction ls with
    | nil => simp [PyData.canLayAll0]
    | cons l ls ih =>
      have h2 : PyData.strOk (S l) = true := by
        show (S l).cps.all (· < 0x110000) = true
        simp only [S, List.all_toArray, List.all_eq_true, decide_eq_true_eq]
        exact h l List.mem_cons_self
      simp only [List.map_cons, PyData.canLayAll0, PyData.canLay0, h2, ih fun x hx => h x (List.mem_cons_of_mem _ hx), Bool.and_self]
  · induction ls with
    | nil => simp [PyData.depthAll]
    | cons l ls ih =>
      have := ih fun x hx => h x (List.mem_cons_of_mem _ hx)
      simp only [List.map_cons, PyData.depthAll, PyData.depth]
      omega
theorem shapedL_int (ns : List Nat) : SeqAt.shaped (.list (ns.map fun n => PyData.int (n : Nat))) = true := by
  refine shapedL ?_ ?_
  · induction ns with
    | nil => simp [PyData.canLayAll0]
    | cons l ls ih => simp only [List.map_cons, PyData.canLayAll0, PyData.canLay0, ih, Bool.and_self]
  · induction ns with
    | nil => simp [PyData.depthAll]
    | cons l ls ih =>
      simp only [List.map_cons, PyData.depthAll, PyData.depth]
      omega
theorem shapedL_two (i j : Int) : SeqAt.shaped (.list [.tuple [.int i, .int j]]) = true := shapedL (by simp [PyData.canLayAll0, PyData.canLay0]) (by simp [PyData.depthAll, PyData.depth])
/-! ### what the calls keep -/
abbrev Tp (H H' : Hy) : Prop := ∀ b xs, H b = some (.tup xs) → H' b = some (.tup xs)
theorem tpS {H H' : Hy} (s : Same H H') : Tp H H' := fun b _ h => s b _ h
theorem ShAt.tp {H H' : Hy} {s : Addr} {m : MD} {so : Bool} (h : ShAt H s m so) (t : Tp H H') : ShAt H' s m so := let ⟨a, b, h1, h2, h3⟩ := h.at_; ⟨a, b, t _ _ h1, t _ _ h2, t _ _ h3⟩
theorem ModAt.tp {K : PySem.W.Frag} {H H' : Hy} {p : Addr} {m : MD} (h : ModAt K H p m) (t : Tp H H') (hp : ∀ u, H p = some u → H' p = some u) : ModAt K H' p m := by
  obtain ⟨dx, fs, a, b, c, h1, h2, h3, h4, h5, h6, h7, h8, h9⟩ := h.at_
  exact ⟨h.ok, dx, fs, a, b, c, hp _ h1, h2, h3, h4, t _ _ h5, h6, t _ _ h7, h8, t _ _ h9⟩
theorem Tu.tp {α : Type} {g : α → List V} {H H' : Hy} {vs : List V} {ps : List α} (h : Tu g H vs ps) (s : Tp H H') : Tu g H' vs ps := Paired.mapP h fun v p q => let ⟨t, e, q⟩ := q; ⟨t, e, s _ _ q⟩
theorem SumAt.tp {H H' : Hy} {vs : List V} {ss : List (List CT)} (h : SumAt H vs ss) (s : Tp H H') : SumAt H' vs ss := Paired.mapP h fun v p q => let ⟨t, us, e, q, r⟩ := q; ⟨t, us, e, s _ _ q, Tu.tp r s⟩
theorem TabAt.tp {K : PySem.W.Frag} {H H' : Hy} {t p : Addr} {m : MD} {cs : List CT} (h : TabAt K H t p m cs) (s : Tp H H') (hp : ∀ u, H p = some u → H' p = some u) (ht : ∀ u, H t = some u → H' t = some u) : TabAt K H' t p m cs := by
  obtain ⟨dx, fs, a, b, us, vs, ss, h1, h2, h3, h4, h5, h6, h7, h8, h9⟩ := h.at_
  exact ⟨h.ok, h.mod.tp s hp, dx, fs, a, b, us, vs, ss, ht _ h1, h2, h3, s _ _ h4, Tu.tp h5 s, h6, s _ _ h7, SumAt.tp h8 s, h9⟩
theorem CntB.tp {H H' : Hy} {a : Addr} {m : MD} {b : Int} {n : Nat} {cs : List CT} (h : CntB H a m b n cs) (s : Tp H H') : CntB H' a m b n cs := ⟨let ⟨us, h1, h2⟩ := h.1; ⟨us, s _ _ h1, Tu.tp h2 s⟩, h.2⟩
theorem CntB.at {H : Hy} {a : Addr} {m : MD} {b : Int} {n : Nat} {cs : List CT} (h : CntB H a m b n cs) (hn : n ≤ 16) : CntAt H a m cs := ⟨h.1, fun e he => (h.2.1.row e he).len, Nat.le_trans h.2.1.len hn⟩
theorem tp_j {H H' : Hy} {j : Addr} (hj : JarAt H j) (k : Keep j H H') : Tp H H' := fun _ _ h => hj.tup k h
theorem tp_k {H H' : Hy} {k C dx : Addr} {fs : List (Str × V)} (hk : H k = some (.ins C dx fs)) (q : Keep k H H') : Tp H H' := fun b xs h => q b _ (fun z => by rw [z, hk] at h; cases h) h
theorem in_j {H H' : Hy} {j p C dx : Addr} {fs : List (Str × V)} (hj : JarAt H j) (k : Keep j H H') (hp : H p = some (.ins C dx fs)) : ∀ u, H p = some u → H' p = some u := fun u h => k p u (fun z => by
  obtain ⟨_, _, _, q⟩ := hj
  rw [z, q] at hp
  cases hp) h
theorem ModAt.ins {K : PySem.W.Frag} {H : Hy} {p : Addr} {m : MD} (h : ModAt K H p m) : ∃ dx fs, H p = some (.ins (He.ga K "Model") dx fs) := let ⟨dx, fs, _, _, _, h1, _⟩ := h.at_; ⟨dx, fs, h1⟩
theorem TabAt.ins {K : PySem.W.Frag} {H : Hy} {t p : Addr} {m : MD} {cs : List CT} (h : TabAt K H t p m cs) : ∃ dx fs, H t = some (.ins (He.ga K "Table") dx fs) := let ⟨dx, fs, _, _, _, _, _, h1, _⟩ := h.at_; ⟨dx, fs, h1⟩
theorem desk_l {K : PySem.W.Frag} {H H' : Hy} {j k p : Addr} {sh : List ShE} {cl : List V} {ys : List V} (h : DeskAt K H k p sh cl) (hj : H j = some (.lst ys)) (q : Keep j H H') : DeskAt K H' k p sh cl := by
  obtain ⟨dx, fs, l, d, t, h1, h2, h3, hfs, h4, h5, h6⟩ := h.at_
  obtain ⟨ldx, lfs, n, l1, l2⟩ := h4.at_
  have ne : ∀ {b : Addr} {o : HO}, H b = some o → (∀ xs, o ≠ .lst xs) → b ≠ j := fun {b o} e n z => by
    rw [z, hj] at e
    exact n _ (Option.some.inj e).symm
  exact ⟨dx, fs, l, d, t, q _ _ (ne h1 fun _ z => by cases z) h1, h2, h3, hfs, ⟨ldx, lfs, n, q _ _ (ne l1 fun _ z => by cases z) l1, l2⟩, q _ _ (ne h5 fun _ z => by cases z) h5, q _ _ (ne h6 fun _ z => by cases z) h6⟩
theorem tabs_l {K : PySem.W.Frag} {H H' : Hy} {j : Addr} {ys : List V} (t : LamX.Tabs (tabT K) H) (hj : H j = some (.lst ys)) (k : Keep j H H') : LamX.Tabs (tabT K) H' := fun p hp => by
  obtain ⟨ps, h1, h2, h3⟩ := t p hp
  have ne : ∀ {b : Addr} {o : HO}, H b = some o → (∀ xs, o ≠ .lst xs) → b ≠ j := fun {b o} e n z => by
    rw [z, hj] at e
    exact n _ (Option.some.inj e).symm
  refine ⟨ps, k _ _ (ne h1 fun _ z => by cases z) h1, h2, fun pos cv hc => ?_⟩
  obtain ⟨c, e1, e2⟩ := h3 pos cv hc
  exact ⟨c, e1, k _ _ (ne e2 fun _ z => by unfold LamX.CodeO at z; cases z) e2⟩
theorem desk_j {K : PySem.W.Frag} {H H' : Hy} {j k p : Addr} {sh : List ShE} {cl : List V} (h : DeskAt K H k p sh cl) (hj : JarAt H j) (q : Keep j H H') : DeskAt K H' k p sh cl := let ⟨_, _, _, z⟩ := hj; desk_l h z q
theorem tabs_j {K : PySem.W.Frag} {H H' : Hy} {j : Addr} (t : LamX.Tabs (tabT K) H) (hj : JarAt H j) (k : Keep j H H') : LamX.Tabs (tabT K) H' := let ⟨_, _, _, z⟩ := hj; tabs_l t z k
/-- the stable part -/
def stab (H : Hy) (j k : Addr) : Hy := fun b => if b = j ∨ b = k then none else match H b with
  | some (.tbl _) => none
  | o => o
theorem stab_of {H : Hy} {j k b : Addr} {o : HO} (h : H b = some o) (h1 : b ≠ j) (h2 : b ≠ k) (h3 : ∀ ps, o ≠ .tbl ps) : stab H j k b = some o := by
  unfold stab
  rw [if_neg (by simp [h1, h2]), h]
  cases o <;> first
    | rfl
    | exact absurd rfl (h3 _)
theorem stab_in {H : Hy} {j k b : Addr} {o : HO} (h : stab H j k b = some o) : H b = some o ∧ b ≠ j ∧ b ≠ k ∧ ∀ ps, o ≠ .tbl ps := by
  unfold stab at h
  by_cases hb : b = j ∨ b = k
  · rw [if_pos hb] at h
    cases h
  · rw [if_neg hb] at h
    cases q : H b with
    | none => rw [q] at h; cases h
    | some u =>
      rw [q] at h
      refine ⟨?_, fun z => hb (.inl z), fun z => hb (.inr z), fun ps z => ?_⟩
      · cases u <;> first
          | exact h
          | cases h
      · subst z
        cases u <;> cases h
end My
set_option Elab.async false
set_option pp.maxSteps 1500
set_option linter.all false
set_option maxRecDepth 100000
set_option maxHeartbeats 4000000
/-! K1: the kinds of shapes: the plain law -/
namespace My
open PySem PySem.Spec PyProof.Rows L2 TL
structure Kind where
  word : LN
  nums : List Nat
  lots : List LN
  so : Bool
def kinds : List Kind := [⟨[97, 98, 99], [2, 2, 2], [[97, 98], [98, 99]], true⟩, ⟨[97, 98, 99], [2, 2, 2], [[97, 98], [97, 99], [98, 99]], false⟩,
  ⟨[97, 98, 99], [2, 2, 2], [[97], [98, 99]], true⟩, ⟨[97, 98, 99], [2, 2, 2], [[97], [98], [99]], true⟩, ⟨[97, 98], [2, 3], [[97], [98]], true⟩, ⟨[97, 98], [3, 3], [[97], [98]], true⟩,
  ⟨[97, 98], [2, 2], [[97, 98]], true⟩, ⟨[97, 98, 99], [2, 3, 2], [[97, 98], [98, 99]], true⟩, ⟨[97, 98, 99], [2, 3, 2], [[97, 98], [97, 99], [98, 99]], false⟩]
theorem kinds_sub : ∀ kd ∈ kinds, (∀ lot ∈ kd.lots, (∀ c ∈ lot, c ∈ kd.word) ∧ lot.length ≤ 6) ∧ kd.word.length ≤ 3 ∧ kd.lots.length ≤ 3 := by decide +kernel
/-- a kind with fresh letters -/
def mkMD (kd : Kind) (l : LN) : MD := ⟨l, kd.nums, kd.lots.map fun lot => lot.map fun c => l.getD (kd.word.idxOf c) 0⟩
def Fresh (kd : Kind) (l : LN) : Prop := l.length = kd.word.length ∧ Asc (· < ·) l ∧ ∀ c ∈ l, 97 ≤ c ∧ c ≤ 122
/-- the kinds that can come: those that are trees, and the last resort -/
def kindsT : List Kind := kinds.filter (·.so) ++ [⟨[97, 98], [2, 2], [[97], [98]], true⟩]
theorem kindsT_eq : kindsT = [⟨[97, 98, 99], [2, 2, 2], [[97, 98], [98, 99]], true⟩, ⟨[97, 98, 99], [2, 2, 2], [[97], [98, 99]], true⟩, ⟨[97, 98, 99], [2, 2, 2], [[97], [98], [99]], true⟩,
  ⟨[97, 98], [2, 3], [[97], [98]], true⟩, ⟨[97, 98], [3, 3], [[97], [98]], true⟩, ⟨[97, 98], [2, 2], [[97, 98]], true⟩, ⟨[97, 98, 99], [2, 3, 2], [[97, 98], [98, 99]], true⟩, ⟨[97, 98], [2, 2], [[97], [98]], true⟩] := rfl
theorem fresh3 {l : LN} {w : LN} (hw : w.length = 3) {n : List Nat} {ls : List LN} {so : Bool} (h : Fresh ⟨w, n, ls, so⟩ l) : ∃ a b c, l = [a, b, c] ∧ a < b ∧ b < c ∧ 97 ≤ a ∧ c ≤ 122 := by
  obtain ⟨h1, h2, h3⟩ := h
  match l, h1 with
  | [a, b, c], _ => exact ⟨a, b, c, rfl, h2 0 a b rfl rfl, h2 1 b c rfl rfl, (h3 a (by simp)).1, (h3 c (by simp)).2⟩
  | [], h1 => simp [hw] at h1
  | [_], h1 => simp [hw] at h1
  | [_, _], h1 => simp [hw] at h1
  | _ :: _ :: _ :: _ :: _, h1 => simp [hw] at h1
theorem fresh2 {l : LN} {w : LN} (hw : w.length = 2) {n : List Nat} {ls : List LN} {so : Bool} (h : Fresh ⟨w, n, ls, so⟩ l) : ∃ a b, l = [a, b] ∧ a < b ∧ 97 ≤ a ∧ b ≤ 122 := by
  obtain ⟨h1, h2, h3⟩ := h
  match l, h1 with
  | [a, b], _ => exact ⟨a, b, rfl, h2 0 a b rfl rfl, (h3 a (by simp)).1, (h3 b (by simp)).2⟩
  | [], h1 => simp [hw] at h1
  | [_], h1 => simp [hw] at h1
  | _ :: _ :: _ :: _, h1 => simp [hw] at h1
theorem asc2 {a b : Nat} (h : a < b) : Asc (· < ·) [a, b] := fun i x y hx hy => by
  match i with
  | 0 => cases hx; cases hy; exact h
  | 1 => simp at hy
  | i + 2 => simp at hx
theorem asc3 {a b c : Nat} (h : a < b) (h2 : b < c) : Asc (· < ·) [a, b, c] := fun i x y hx hy => by
  match i with
  | 0 => cases hx; cases hy; exact h
  | 1 => cases hx; cases hy; exact h2
  | 2 => simp at hy
  | i + 3 => simp at hx
end My

set_option Elab.async false
set_option pp.maxSteps 1500
set_option linter.all false
set_option maxRecDepth 100000
set_option maxHeartbeats 4000000
/-! J11: the shapes that the law draws -/
namespace My
open PySem PySem.Spec PyProof.Rows L2 TL
def KAt (H : Hy) (kd : Kind) (v : V) : Prop := ∃ t a b, v = .ref t ∧ H t = some (.tup [.str (S kd.word), .ref a, .ref b, .bl kd.so]) ∧ H a = some (.tup (kd.nums.map fun d : Nat => V.int d)) ∧ H b = some (.tup (strsV kd.lots))
theorem KAt.ext {H H' : Hy} {kd : Kind} {v : V} (h : KAt H kd v) (s : Same H H') : KAt H' kd v := let ⟨t, a, b, e, h1, h2, h3⟩ := h; ⟨t, a, b, e, s _ _ h1, s _ _ h2, s _ _ h3⟩
inductive Consts : List Expr → List V → Prop
  | nil : Consts [] []
  | int {i : Int} {j} {p : Pos} {es : List Expr} {vs : List V} : Consts es vs → Consts (.Constant (.int i) j p :: es) (.int i :: vs)
  | str {x : Str} {j} {p : Pos} {es : List Expr} {vs : List V} : Consts es vs → Consts (.Constant (.str x) j p :: es) (.str x :: vs)
theorem ra_consts {X : Cx} {σ : L2.St} {H : Hy} {es : List Expr} {vs : List V} (c : Consts es vs) : ∀ {QA : List V → Hy → Prop}, QA vs H → RA X es σ H QA := by
  induction c with
  | nil => exact fun h => ra_nil h
  | int _ ih => exact fun h => ra_cons (r_int (ih h))
  | str _ ih => exact fun h => ra_cons (r_str (ih h))
theorem r_kind {X : Cx} {σ : L2.St} {H : Hy} {kd : Kind} {x : Str} {es1 es2 : List Expr} {vs1 vs2 : List V} {b : Bool} {j j' k k1 k2} {p p1 p2 p3 p4 : Pos} (c1 : Consts es1 vs1) (c2 : Consts es2 vs2) (hw : x = S kd.word) (h1 : vs1 = kd.nums.map fun d : Nat => V.int d) (h2 : vs2 = strsV kd.lots) (hb : b = kd.so)
    (z1 : vs1.length ≤ 100) (z2 : vs2.length ≤ 100) : RE X (.Tuple [.Constant (.str x) j p1, .Tuple es1 k1 p2, .Tuple es2 k2 p3, .Constant (.bool b) j' p4] k p) σ H (fun v H1 => KAt H1 kd v ∧ Same H H1) := by
  subst hw hb h1 h2
  have big : ∀ n, n ≤ 100 → n ≤ sizeLine := fun n h => Nat.le_trans h (by decide)
  refine r_tup (ra_cons (r_str (ra_cons (r_tup (ra_consts c1 ⟨big _ z1, fun a ha => ra_cons (r_tup (ra_consts c2 ⟨big _ z2, fun c hc => ra_cons (r_bl (ra_nil ⟨by show 4 ≤ sizeLine; decide, fun t ht => ?_⟩))⟩))⟩)))))
  have sa := fun o => same_new (o := o) ha
  have sc := fun o => same_new (o := o) hc
  have st := fun o => same_new (o := o) ht
  exact ⟨⟨t, a, c, rfl, upd_same, st _ _ _ (sc _ _ _ upd_same), st _ _ _ upd_same⟩, (sa _).trans ((sc _).trans (st _))⟩
theorem KAt.keep {H H' : Hy} {kd : Kind} {v : V} {j : Addr} (h : KAt H kd v) (hj : JarAt H j) (q : Keep j H H') : KAt H' kd v := let ⟨t, a, b, e, h1, h2, h3⟩ := h; ⟨t, a, b, e, hj.tup q h1, hj.tup q h2, hj.tup q h3⟩
def asgArg : Stmt → Expr
  | .Assign _ (.Call _ [a] _ _) _ => a
  | _ => .Constant .none 0 ⟨0, 0, 0, 0⟩
def small_sc : Scope := relab (lcSc d_w_small.scope (asgArg (d_w_small.body.getD 7 (.Pass ⟨0, 0, 0, 0⟩)))) d_w_small.scope
def sp_w_small (K : PySem.W.Frag) : Sp := fun vs H Q _ => ∃ (j : Addr), vs = [.ref j] ∧ JarAt H j ∧ ∀ s H' kd l, Keep j H H' → JarAt H' j → kd ∈ kinds → Fresh kd l → ShAt H' s (mkMD kd l) kd.so → Q (.ref s) H'
section
variable {P : Program} {w : World} {K : PySem.W.Frag} {mg : Str → Option Value} {base : Heap}
theorem sc_w_small : FnScope ["_law_jar_here", "_law_kinds", "_law_word", "_law_numbers", "_law_lots_here", "_law_so", "_law_fresh", "_law_lot", "_law_each"] ["_law_jar_here"] (defScope s_w_small) := ⟨rfl, rfl, rfl, by decide +kernel, rfl, by decide +kernel, by decide +kernel⟩
theorem h_w_small (e : EV w K mg base) : Has P w K mg base 3 "_law_small" ["_law_jar_here"] (sp_w_small K) := by
  refine mk_has (d := d_w_small) e.g_w_small e.f_w_small sc_w_small (fun _ _ _ _ _ _ us hl => match us, hl with | [_], _ => rfl) (fun vs H Q E h => by obtain ⟨_, rfl, _⟩ := h; rfl) (fun cdv A outer s H vs Q E hr h => ?_)
  obtain ⟨j, rfl, hj, k⟩ := h
  refine rb_cons (rs_set 1 sc_w_small.nd (r_lst (ra_cons (RE.mono (r_kind (kd := kinds[0]) (by repeat constructor) (by repeat constructor) (by decide +kernel) (by decide +kernel) (by decide +kernel) rfl (by decide) (by decide)) fun v0 H1 q0 => ra_cons (RE.mono (r_kind (kd := kinds[1]) (by repeat constructor) (by repeat constructor) (by decide +kernel) (by decide +kernel) (by decide +kernel) rfl (by decide) (by decide)) fun v1 H2 q1 => ra_nil ⟨by show 2 ≤ sizeLine; decide, fun p1 hp1 => ?_⟩)))))
  have PG1 : Paired (fun v kd => KAt (upd H2 p1 (.lst [v0, v1])) kd v) [v0, v1] [kinds[0], kinds[1]] := .cons ((q0.1.ext q1.2).ext (same_new hp1)) (.cons (q1.1.ext (same_new hp1)) .nil)
  have sG1 : Same H (upd H2 p1 (.lst [v0, v1])) := q0.2.trans (q1.2.trans (same_new hp1))
  have lG1 : (upd H2 p1 (.lst [v0, v1])) p1 = some (.lst [v0, v1]) := upd_same
  generalize upd H2 p1 (.lst [v0, v1]) = G1 at PG1 sG1 lG1
  refine rb_cons (rs_set 1 sc_w_small.nd (r_add (r_var 1 (gv rfl (r_lst (ra_cons (RE.mono (r_kind (kd := kinds[2]) (by repeat constructor) (by repeat constructor) (by decide +kernel) (by decide +kernel) (by decide +kernel) rfl (by decide) (by decide)) fun v2 H12 q2 => ra_cons (RE.mono (r_kind (kd := kinds[3]) (by repeat constructor) (by repeat constructor) (by decide +kernel) (by decide +kernel) (by decide +kernel) rfl (by decide) (by decide)) fun v3 H13 q3 => ra_nil ⟨by show 2 ≤ sizeLine; decide, fun paG2 haG2 => ⟨[v0, v1], [v2, v3], same_new haG2 _ _ (q3.2 _ _ (q2.2 _ _ (lG1))), upd_same, by show 2 + 2 ≤ sizeLine; decide, fun pbG2 hbG2 => ?_⟩⟩))))))))
  have tG2 := fun o' => (same_new haG2).trans (same_new (o := o') hbG2)
  have uG2 := fun o' => ((q2.2).trans q3.2).trans (tG2 o')
  have sG2 : Same H _ := sG1.trans (uG2 (.lst ([v0, v1] ++ [v2, v3])))
  have PG2 : Paired (fun v kd => KAt _ kd v) ([v0, v1] ++ [v2, v3]) ([kinds[0], kinds[1]] ++ [kinds[2], kinds[3]]) := pd_append (Paired.mapP PG1 fun v kd q => q.ext (uG2 (.lst ([v0, v1] ++ [v2, v3])))) (.cons (((q2.1).ext q3.2).ext (tG2 _)) (.cons ((q3.1).ext (tG2 _)) (.nil)))
  have lG2 := upd_same (H := upd H13 paG2 (.lst [v2, v3])) (a := pbG2) (o := .lst ([v0, v1] ++ [v2, v3]))
  generalize upd (upd H13 paG2 (.lst [v2, v3])) pbG2 (.lst ([v0, v1] ++ [v2, v3])) = G2 at PG2 sG2 lG2
  replace lG2 : G2 pbG2 = some (.lst [v0, v1, v2, v3]) := lG2
  replace PG2 : Paired (fun v kd => KAt G2 kd v) [v0, v1, v2, v3] [kinds[0], kinds[1], kinds[2], kinds[3]] := PG2
  refine rb_cons (rs_set 1 sc_w_small.nd (r_add (r_var 1 (gv rfl (r_lst (ra_cons (RE.mono (r_kind (kd := kinds[4]) (by repeat constructor) (by repeat constructor) (by decide +kernel) (by decide +kernel) (by decide +kernel) rfl (by decide) (by decide)) fun v4 H14 q4 => ra_cons (RE.mono (r_kind (kd := kinds[5]) (by repeat constructor) (by repeat constructor) (by decide +kernel) (by decide +kernel) (by decide +kernel) rfl (by decide) (by decide)) fun v5 H15 q5 => ra_nil ⟨by show 2 ≤ sizeLine; decide, fun paG3 haG3 => ⟨[v0, v1, v2, v3], [v4, v5], same_new haG3 _ _ (q5.2 _ _ (q4.2 _ _ (lG2))), upd_same, by show 4 + 2 ≤ sizeLine; decide, fun pbG3 hbG3 => ?_⟩⟩))))))))
  have tG3 := fun o' => (same_new haG3).trans (same_new (o := o') hbG3)
  have uG3 := fun o' => ((q4.2).trans q5.2).trans (tG3 o')
  have sG3 : Same H _ := sG2.trans (uG3 (.lst ([v0, v1, v2, v3] ++ [v4, v5])))
  have PG3 : Paired (fun v kd => KAt _ kd v) ([v0, v1, v2, v3] ++ [v4, v5]) ([kinds[0], kinds[1], kinds[2], kinds[3]] ++ [kinds[4], kinds[5]]) := pd_append (Paired.mapP PG2 fun v kd q => q.ext (uG3 (.lst ([v0, v1, v2, v3] ++ [v4, v5])))) (.cons (((q4.1).ext q5.2).ext (tG3 _)) (.cons ((q5.1).ext (tG3 _)) (.nil)))
  have lG3 := upd_same (H := upd H15 paG3 (.lst [v4, v5])) (a := pbG3) (o := .lst ([v0, v1, v2, v3] ++ [v4, v5]))
  generalize upd (upd H15 paG3 (.lst [v4, v5])) pbG3 (.lst ([v0, v1, v2, v3] ++ [v4, v5])) = G3 at PG3 sG3 lG3
  replace lG3 : G3 pbG3 = some (.lst [v0, v1, v2, v3, v4, v5]) := lG3
  replace PG3 : Paired (fun v kd => KAt G3 kd v) [v0, v1, v2, v3, v4, v5] [kinds[0], kinds[1], kinds[2], kinds[3], kinds[4], kinds[5]] := PG3
  refine rb_cons (rs_set 1 sc_w_small.nd (r_add (r_var 1 (gv rfl (r_lst (ra_cons (RE.mono (r_kind (kd := kinds[6]) (by repeat constructor) (by repeat constructor) (by decide +kernel) (by decide +kernel) (by decide +kernel) rfl (by decide) (by decide)) fun v6 H16 q6 => ra_nil ⟨by show 1 ≤ sizeLine; decide, fun paG4 haG4 => ⟨[v0, v1, v2, v3, v4, v5], [v6], same_new haG4 _ _ (q6.2 _ _ (lG3)), upd_same, by show 6 + 1 ≤ sizeLine; decide, fun pbG4 hbG4 => ?_⟩⟩)))))))
  have tG4 := fun o' => (same_new haG4).trans (same_new (o := o') hbG4)
  have uG4 := fun o' => (q6.2).trans (tG4 o')
  have sG4 : Same H _ := sG3.trans (uG4 (.lst ([v0, v1, v2, v3, v4, v5] ++ [v6])))
  have PG4 : Paired (fun v kd => KAt _ kd v) ([v0, v1, v2, v3, v4, v5] ++ [v6]) ([kinds[0], kinds[1], kinds[2], kinds[3], kinds[4], kinds[5]] ++ [kinds[6]]) := pd_append (Paired.mapP PG3 fun v kd q => q.ext (uG4 (.lst ([v0, v1, v2, v3, v4, v5] ++ [v6])))) (.cons ((q6.1).ext (tG4 _)) (.nil))
  have lG4 := upd_same (H := upd H16 paG4 (.lst [v6])) (a := pbG4) (o := .lst ([v0, v1, v2, v3, v4, v5] ++ [v6]))
  generalize upd (upd H16 paG4 (.lst [v6])) pbG4 (.lst ([v0, v1, v2, v3, v4, v5] ++ [v6])) = G4 at PG4 sG4 lG4
  replace lG4 : G4 pbG4 = some (.lst [v0, v1, v2, v3, v4, v5, v6]) := lG4
  replace PG4 : Paired (fun v kd => KAt G4 kd v) [v0, v1, v2, v3, v4, v5, v6] [kinds[0], kinds[1], kinds[2], kinds[3], kinds[4], kinds[5], kinds[6]] := PG4
  refine rb_cons (rs_set 1 sc_w_small.nd (r_add (r_var 1 (gv rfl (r_lst (ra_cons (RE.mono (r_kind (kd := kinds[7]) (by repeat constructor) (by repeat constructor) (by decide +kernel) (by decide +kernel) (by decide +kernel) rfl (by decide) (by decide)) fun v7 H17 q7 => ra_cons (RE.mono (r_kind (kd := kinds[8]) (by repeat constructor) (by repeat constructor) (by decide +kernel) (by decide +kernel) (by decide +kernel) rfl (by decide) (by decide)) fun v8 H18 q8 => ra_nil ⟨by show 2 ≤ sizeLine; decide, fun paG5 haG5 => ⟨[v0, v1, v2, v3, v4, v5, v6], [v7, v8], same_new haG5 _ _ (q8.2 _ _ (q7.2 _ _ (lG4))), upd_same, by show 7 + 2 ≤ sizeLine; decide, fun pbG5 hbG5 => ?_⟩⟩))))))))
  have tG5 := fun o' => (same_new haG5).trans (same_new (o := o') hbG5)
  have uG5 := fun o' => ((q7.2).trans q8.2).trans (tG5 o')
  have sG5 : Same H _ := sG4.trans (uG5 (.lst ([v0, v1, v2, v3, v4, v5, v6] ++ [v7, v8])))
  have PG5 : Paired (fun v kd => KAt _ kd v) ([v0, v1, v2, v3, v4, v5, v6] ++ [v7, v8]) ([kinds[0], kinds[1], kinds[2], kinds[3], kinds[4], kinds[5], kinds[6]] ++ [kinds[7], kinds[8]]) := pd_append (Paired.mapP PG4 fun v kd q => q.ext (uG5 (.lst ([v0, v1, v2, v3, v4, v5, v6] ++ [v7, v8])))) (.cons (((q7.1).ext q8.2).ext (tG5 _)) (.cons ((q8.1).ext (tG5 _)) (.nil)))
  have lG5 := upd_same (H := upd H18 paG5 (.lst [v7, v8])) (a := pbG5) (o := .lst ([v0, v1, v2, v3, v4, v5, v6] ++ [v7, v8]))
  generalize upd (upd H18 paG5 (.lst [v7, v8])) pbG5 (.lst ([v0, v1, v2, v3, v4, v5, v6] ++ [v7, v8])) = G5 at PG5 sG5 lG5
  replace lG5 : G5 pbG5 = some (.lst [v0, v1, v2, v3, v4, v5, v6, v7, v8]) := lG5
  replace PG5 : Paired (fun v kd => KAt G5 kd v) [v0, v1, v2, v3, v4, v5, v6, v7, v8] [kinds[0], kinds[1], kinds[2], kinds[3], kinds[4], kinds[5], kinds[6], kinds[7], kinds[8]] := PG5
  have PK : Paired (fun v kd => KAt G5 kd v) [v0, v1, v2, v3, v4, v5, v6, v7, v8] kinds := PG5
  have hvn : [v0, v1, v2, v3, v4, v5, v6, v7, v8].length = 9 := rfl
  clear PG1 PG2 PG3 PG4 PG5 tG2 tG3 tG4 tG5 uG2 uG3 uG4 uG5
  generalize [v0, v1, v2, v3, v4, v5, v6, v7, v8] = vs at lG5 PK hvn
  have hjG := hj.ext sG5
  refine rb_cons (rs_asg (r_ix (r_var 1 (gv rfl (r_call (h_w_dip e) hr (ra_cons (r_var 0 (ra_cons (r_int (ra_nil ⟨j, 9, rfl, hjG, by decide, by decide, fun d H20 k20 hj20 d0 d1 => ?_⟩))))))))))
  obtain ⟨i, rfl⟩ : ∃ i : Nat, d = (i : Int) := ⟨d.toNat, by omega⟩
  have hjp : j ≠ pbG5 := fun z => by
    obtain ⟨_, _, _, q⟩ := hjG
    rw [z, lG5] at q
    cases q
    simp at hvn
  have hl20 := k20 pbG5 _ (Ne.symm hjp) lG5
  have hkd : ∃ v kd, vs[i]? = some v ∧ kd ∈ kinds ∧ KAt G5 kd v := by
    have hi : i < vs.length := by omega
    obtain ⟨kd, h1, h2⟩ := pd_get PK (List.getElem?_eq_getElem hi)
    exact ⟨_, kd, List.getElem?_eq_getElem hi, List.mem_of_getElem? h1, h2⟩
  obtain ⟨v, kd, hv, hkm, hka⟩ := hkd
  obtain ⟨t, a, b, rfl, h1, h2, h3⟩ := hka.keep hjG k20
  clear PK
  refine ⟨_, .ref t, .inl (SqL.of hl20), atI_nat hv, rg_tup ⟨t, _, rfl, SqT.of h1, rfl, rgs_cons (rg_name 2 sc_w_small.nd (rgs_cons (rg_name 3 sc_w_small.nd (rgs_cons (rg_name 4 sc_w_small.nd (rgs_cons (rg_name 5 sc_w_small.nd (rgs_nil ?_))))))))⟩⟩
  obtain ⟨hsub, hw3, hl3⟩ := kinds_sub kd hkm
  refine rb_cons (rs_set 6 sc_w_small.nd (r_call (h_w_letters e) hr (ra_cons (r_var 0 (ra_cons (r_callB call_len_str e.z_len boot_len (ra_cons (r_var 2 (ra_nil ⟨_, rfl, S_small (by omega), ra_nil ⟨j, kd.word.length, by rw [S_length], hj20, by omega, fun l H21 k21 hj21 hl hasc hlet => ?_⟩⟩)))))))))
  have h1' := hj20.tup k21 h1
  have h2' := hj20.tup k21 h2
  have h3' := hj20.tup k21 h3
  refine rb_cons (rs_set 4 sc_w_small.nd (r_callTy call_tuple_of e.z_tuple (by decide +kernel) (ra_cons (r_lc [("_law_lot", 7)] sc_w_small.nd (blkOk_by (N := ["_law_jar_here", "_law_kinds", "_law_word", "_law_numbers", "_law_lots_here", "_law_so", "_law_fresh", "_law_lot", "_law_each"]) (sc := defScope s_w_small) (by decide +kernel)) (ri_tup (r_var 4 ⟨b, rfl, ⟨_, SqT.of h3'⟩, fun D hD => ?_⟩))))))
  refine lc_n 7 (walk_tup (xs := strsV kd.lots)) hD (fun H' s => SqT.of (s _ _ h3')) (fun i H x H' y => by rw [y.1]; exact Same.refl _) (strsV (mkMD kd l).lots) (by simp [mkMD]) (by rw [List.length_map, List.length_map]; exact Nat.lt_of_le_of_lt hl3 (by decide)) (fun i v H22 H23 hi s1 y => ?_) (fun H22 s22 hd => ?_) sc_w_small.nd
  · obtain ⟨rfl, hx⟩ := y
    obtain ⟨lot, hlot, rfl⟩ := strsV_get hx
    obtain ⟨hs1, hs2⟩ := hsub lot (List.mem_of_getElem? hlot)
    intro s0 H0 C cl fp
    refine r_join (r_str ⟨[], s_no ▸ rfl, ra_cons (r_lc [("_law_each", 8)] sc_w_small.nd (blkOk_by (N := ["_law_jar_here", "_law_kinds", "_law_word", "_law_numbers", "_law_lots_here", "_law_so", "_law_fresh", "_law_lot", "_law_each"]) (sc := small_sc) (own := [("_law_each", 8)]) (by decide +kernel)) (ri_str (r_var 7 ⟨_, rfl, fun D2 hD2 => ?_⟩)))⟩)
    refine lc_n 8 walk_str hD2 (fun _ _ => trivial) (fun i H x H' y => by rw [y.1]; exact Same.refl _) (strsV (lot.map fun c => [l.getD (kd.word.idxOf c) 0])) (by simp [S]) (Nat.lt_of_le_of_lt hs2 (by decide)) (fun i' v H24 H25 hi' s2 y => ?_) (fun H24 s24 hd2 => ?_) sc_w_small.nd
    · obtain ⟨rfl, c, hcc, rfl⟩ := y
      have hc' : lot[i']? = some c := by simpa [S] using hcc
      have hcw := hs1 c (List.mem_of_getElem? hc')
      have hlt : kd.word.idxOf c < l.length := by
        rw [hl]
        exact List.idxOf_lt_length_of_mem hcw
      intro s0 H0 C cl fp
      refine r_ix (r_var 6 (gv rfl (r_sindex (r_var 2 ⟨kd.word, rfl, r_var 8 ⟨c, rfl, hcw, S_small (by omega), l.getD (kd.word.idxOf c) 0, atI_nat ?_, Same.refl _, ?_⟩⟩))))
      · rw [S_cps, List.getD_eq_getElem?_getD, List.getElem?_eq_getElem hlt]
        rfl
      · rw [List.getElem?_map, List.getElem?_map, List.getElem?_map, hc']
        rfl
    refine ra_nil ⟨D2, lot.map fun c => [l.getD (kd.word.idxOf c) 0], rfl, .inl (SqL.of hd2), ?_, s24, ?_⟩
    · rw [show (lot.map fun c => [l.getD (kd.word.idxOf c) 0]) = (lot.map fun c => l.getD (kd.word.idxOf c) 0).map fun c => [c] by rw [List.map_map]; rfl, sum_one]
      simp only [List.length_nil, List.length_map]
      omega
    · rw [joinL_nil, show (lot.map fun c => [l.getD (kd.word.idxOf c) 0]) = (lot.map fun c => l.getD (kd.word.idxOf c) 0).map fun c => [c] by rw [List.map_map]; rfl, flat_one]
      show (strsV (kd.lots.map fun lot => lot.map fun c => l.getD (kd.word.idxOf c) 0))[i]? = _
      rw [List.getElem?_map, List.getElem?_map, List.getElem?_map, hlot]
      rfl
  refine ra_nil ⟨D, _, rfl, .inl ⟨SqL.of hd, fun c hc => ?_⟩⟩
  have sc := fun o => same_new (o := o) hc
  refine rb_one (rs_ret (r_tup (ra_cons (r_var 6 (ra_cons (r_var 3 (ra_cons (r_var 4 (ra_cons (r_var 5 (ra_nil ⟨by show 4 ≤ sizeLine; decide, fun g hg => ?_⟩)))))))))))
  have sg := fun o => same_new (o := o) hg
  refine k g _ kd l ((((Keep.of sG5).trans k20).trans k21).trans (Keep.of (s22.trans ((sc _).trans (sg _))))) (hj21.ext (s22.trans ((sc _).trans (sg _)))) hkm ⟨hl, hasc, hlet⟩ ⟨a, c, upd_same, ?_, sg _ _ _ upd_same⟩
  rw [show (mkMD kd l).levI.map V.int = kd.nums.map fun d : Nat => V.int d by unfold MD.levI mkMD; rw [List.map_map]; rfl]
  exact sg _ _ _ (sc _ _ _ (s22 _ _ h2'))
end
end My

set_option Elab.async false
set_option pp.maxSteps 1500
set_option linter.all false
set_option maxRecDepth 100000
set_option maxHeartbeats 4000000
/-! K2: the kinds of shapes are models whose lots hang as trees -/
namespace My
open PySem PySem.Spec PyProof.Rows L2 TL
def shA (a b c : Nat) (n : List Nat) : MD := ⟨[a, b, c], n, [[a, b], [b, c]]⟩
def shB (a b c : Nat) (n : List Nat) : MD := ⟨[a, b, c], n, [[a], [b, c]]⟩
def shC (a b c : Nat) (n : List Nat) : MD := ⟨[a, b, c], n, [[a], [b], [c]]⟩
def shD (a b : Nat) (n : List Nat) : MD := ⟨[a, b], n, [[a], [b]]⟩
def shE (a b : Nat) (n : List Nat) : MD := ⟨[a, b], n, [[a, b]]⟩
theorem lex2 {a b : Nat} {l m : LN} (h : a < b) : (a :: l) < (b :: m) := List.cons_lt_cons_iff.mpr (Or.inl h)
theorem ascL2 {a b : LN} (h : a < b) : Asc (· < ·) [a, b] := fun i x y hx hy => by
  match i with
  | 0 => cases hx; cases hy; exact h
  | 1 => simp at hy
  | i + 2 => simp at hx
theorem ascL3 {a b c : LN} (h : a < b) (h2 : b < c) : Asc (· < ·) [a, b, c] := fun i x y hx hy => by
  match i with
  | 0 => cases hx; cases hy; exact h
  | 1 => cases hx; cases hy; exact h2
  | 2 => simp at hy
  | i + 3 => simp at hx
theorem asc1 {α : Type} {r : α → α → Prop} (a : α) : Asc r [a] := fun i x y hx hy => by
  match i with
  | 0 => simp at hy
  | i + 1 => simp at hx
structure NumOk (k : Nat) (n : List Nat) : Prop where
  len : n.length = k
  lv : ∀ d ∈ n, 2 ≤ d ∧ d ≤ 4
  pr : prodI (n.map fun d : Nat => (d : Int)) ≤ 256
section
variable {a b c : Nat} {n : List Nat}
theorem okA (h1 : a < b) (h2 : b < c) (h3 : 97 ≤ a) (h4 : c ≤ 122) (hn : NumOk 3 n) : MOk (shA a b c n) where
  n2 := by simp [shA]
  n6 := by simp [shA]
  ll := hn.len
  asc := asc3 h1 h2
  letter := by simp only [shA, List.mem_cons, List.not_mem_nil, or_false]; omega
  lv := hn.lv
  pr := hn.pr
  k1 := by simp [shA]
  k10 := by simp [shA]
  lot := by
    intro l hl
    simp only [shA, List.mem_cons, List.not_mem_nil, or_false] at hl
    rcases hl with rfl | rfl
    · exact ⟨by simp, asc2 h1, by simp [shA], by simp⟩
    · exact ⟨by simp, asc2 h2, by simp [shA], by simp⟩
  lasc := ascL2 (lex2 h1)
  cover := by simp [shA]
  nopart := by
    intro l hl l' hl' hne
    simp only [shA, List.mem_cons, List.not_mem_nil, or_false] at hl hl'
    rcases hl with rfl | rfl <;> rcases hl' with rfl | rfl
    · exact absurd rfl hne
    · exact ⟨a, by simp, by simp; omega⟩
    · exact ⟨c, by simp, by simp; omega⟩
    · exact absurd rfl hne
theorem okB (h1 : a < b) (h2 : b < c) (h3 : 97 ≤ a) (h4 : c ≤ 122) (hn : NumOk 3 n) : MOk (shB a b c n) where
  n2 := by simp [shB]
  n6 := by simp [shB]
  ll := hn.len
  asc := asc3 h1 h2
  letter := by simp only [shB, List.mem_cons, List.not_mem_nil, or_false]; omega
  lv := hn.lv
  pr := hn.pr
  k1 := by simp [shB]
  k10 := by simp [shB]
  lot := by
    intro l hl
    simp only [shB, List.mem_cons, List.not_mem_nil, or_false] at hl
    rcases hl with rfl | rfl
    · exact ⟨by simp, asc1 _, by simp [shB], by simp⟩
    · exact ⟨by simp, asc2 h2, by simp [shB], by simp⟩
  lasc := ascL2 (lex2 h1)
  cover := by simp [shB]
  nopart := by
    intro l hl l' hl' hne
    simp only [shB, List.mem_cons, List.not_mem_nil, or_false] at hl hl'
    rcases hl with rfl | rfl <;> rcases hl' with rfl | rfl
    · exact absurd rfl hne
    · exact ⟨a, by simp, by simp; omega⟩
    · exact ⟨c, by simp, by simp; omega⟩
    · exact absurd rfl hne
theorem okC (h1 : a < b) (h2 : b < c) (h3 : 97 ≤ a) (h4 : c ≤ 122) (hn : NumOk 3 n) : MOk (shC a b c n) where
  n2 := by simp [shC]
  n6 := by simp [shC]
  ll := hn.len
  asc := asc3 h1 h2
  letter := by simp only [shC, List.mem_cons, List.not_mem_nil, or_false]; omega
  lv := hn.lv
  pr := hn.pr
  k1 := by simp [shC]
  k10 := by simp [shC]
  lot := by
    intro l hl
    simp only [shC, List.mem_cons, List.not_mem_nil, or_false] at hl
    rcases hl with rfl | rfl | rfl <;> exact ⟨by simp, asc1 _, by simp [shC], by simp⟩
  lasc := ascL3 (lex2 h1) (lex2 h2)
  cover := by simp [shC]
  nopart := by
    intro l hl l' hl' hne
    simp only [shC, List.mem_cons, List.not_mem_nil, or_false] at hl hl'
    rcases hl with rfl | rfl | rfl <;> rcases hl' with rfl | rfl | rfl <;> first | exact absurd rfl hne | exact ⟨_, List.mem_singleton.mpr rfl, by simp; omega⟩
theorem okD (h1 : a < b) (h3 : 97 ≤ a) (h4 : b ≤ 122) (hn : NumOk 2 n) : MOk (shD a b n) where
  n2 := by simp [shD]
  n6 := by simp [shD]
  ll := hn.len
  asc := asc2 h1
  letter := by simp only [shD, List.mem_cons, List.not_mem_nil, or_false]; omega
  lv := hn.lv
  pr := hn.pr
  k1 := by simp [shD]
  k10 := by simp [shD]
  lot := by
    intro l hl
    simp only [shD, List.mem_cons, List.not_mem_nil, or_false] at hl
    rcases hl with rfl | rfl <;> exact ⟨by simp, asc1 _, by simp [shD], by simp⟩
  lasc := ascL2 (lex2 h1)
  cover := by simp [shD]
  nopart := by
    intro l hl l' hl' hne
    simp only [shD, List.mem_cons, List.not_mem_nil, or_false] at hl hl'
    rcases hl with rfl | rfl <;> rcases hl' with rfl | rfl <;> first | exact absurd rfl hne | exact ⟨_, List.mem_singleton.mpr rfl, by simp; omega⟩
theorem okE (h1 : a < b) (h3 : 97 ≤ a) (h4 : b ≤ 122) (hn : NumOk 2 n) : MOk (shE a b n) where
  n2 := by simp [shE]
  n6 := by simp [shE]
  ll := hn.len
  asc := asc2 h1
  letter := by simp only [shE, List.mem_cons, List.not_mem_nil, or_false]; omega
  lv := hn.lv
  pr := hn.pr
  k1 := by simp [shE]
  k10 := by simp [shE]
  lot := by
    intro l hl
    simp only [shE, List.mem_cons, List.not_mem_nil, or_false] at hl
    subst hl
    exact ⟨by simp, asc2 h1, by simp [shE], by simp⟩
  lasc := asc1 _
  cover := by simp [shE]
  nopart := by
    intro l hl l' hl' hne
    simp only [shE, List.mem_cons, List.not_mem_nil, or_false] at hl hl'
    exact absurd (hl.trans hl'.symm) hne
end
end My

set_option Elab.async false
set_option pp.maxSteps 1500
set_option linter.all false
set_option maxRecDepth 100000
set_option maxHeartbeats 4000000
/-! K3: the orders of the kinds; both ranges are one -/
namespace My
open PySem PySem.Spec PyProof.Rows L2 TL
section
variable {a b c : Nat} {n : List Nat}
theorem ne_facts3 (h1 : a < b) (h2 : b < c) : ¬ a = b ∧ ¬ b = c ∧ ¬ a = c ∧ ¬ b = a ∧ ¬ c = b ∧ ¬ c = a := by omega
theorem treeA (h1 : a < b) (h2 : b < c) : Tree (shA a b c n) [([b, c], []), ([a, b], [b])] := by
  obtain ⟨e1, e2, e3, e4, e5, e6⟩ := ne_facts3 h1 h2
  refine ⟨⟨by simp, by simp, by simp [shA], by simp [shA]⟩, 3, [([a, b], [b, c])], [b, c], ?_, by simp, by simp [earList], by simp, ?_⟩
  · simp [earsF, pairsOf, earB, both, inAll, shA, e1, e2, e3, e4, e5, e6]
  · simp [ordOf, earList, sepOf, both, e1, e2, e3, e4, e5, e6]
theorem treeB (h1 : a < b) (h2 : b < c) : Tree (shB a b c n) [([b, c], []), ([a], [])] := by
  obtain ⟨e1, e2, e3, e4, e5, e6⟩ := ne_facts3 h1 h2
  refine ⟨⟨by simp, by simp, by simp [shB], by simp [shB]⟩, 3, [([a], [b, c])], [b, c], ?_, by simp, by simp [earList], by simp, ?_⟩
  · simp [earsF, pairsOf, earB, both, inAll, shB, e1, e2, e3, e4, e5, e6]
  · simp [ordOf, earList, sepOf, both, e1, e2, e3, e4, e5, e6]
theorem treeC (h1 : a < b) (h2 : b < c) : Tree (shC a b c n) [([c], []), ([b], []), ([a], [])] := by
  obtain ⟨e1, e2, e3, e4, e5, e6⟩ := ne_facts3 h1 h2
  refine ⟨⟨by simp, by simp, by simp [shC], by simp [shC]⟩, 4, [([a], [b]), ([b], [c])], [c], ?_, by simp, by simp [earList], by simp, ?_⟩
  · simp [earsF, pairsOf, earB, both, inAll, shC, e1, e2, e3, e4, e5, e6]
  · simp [ordOf, earList, sepOf, both, e1, e2, e3, e4, e5, e6]
theorem treeD (h1 : a < b) : Tree (shD a b n) [([b], []), ([a], [])] := by
  have e1 : ¬ a = b := by omega
  have e4 : ¬ b = a := by omega
  refine ⟨⟨by simp, by simp, by simp [shD], by simp [shD]⟩, 3, [([a], [b])], [b], ?_, by simp, by simp [earList], by simp, ?_⟩
  · simp [earsF, pairsOf, earB, both, inAll, shD, e1, e4]
  · simp [ordOf, earList, sepOf, both, e1, e4]
theorem treeE : Tree (shE a b n) [([a, b], [])] := by
  refine ⟨⟨by simp, by simp, by simp [shE], by simp [shE]⟩, 2, [], [a, b], ?_, by simp, by simp, by simp, ?_⟩
  · simp [earsF, shE]
  · simp [ordOf, earList, sepOf]
theorem max0_eq {x y : Int} (h : x = y) : (if x > 0 then x else 0) = (if y > 0 then y else 0) := by rw [h]
theorem minL_perm {l m : List Int} (p : l.Perm m) (h : l ≠ []) : minL l = minL m := by
  have hm : m ≠ [] := fun z => h (by rw [z] at p; exact List.perm_nil.mp p)
  have h1 := minL_le (l := l) _ (p.mem_iff.mpr (minL_mem hm))
  have h2 := minL_le (l := m) _ (p.mem_iff.mp (minL_mem h))
  omega
variable {cs : List CT} {r : LN}
theorem rangeA (h1 : a < b) (h2 : b < c) : lowF (shA a b c n) cs r [([b, c], []), ([a, b], [b])] = lawLow (shA a b c n) cs r ∧ topF (shA a b c n) cs r [([b, c], []), ([a, b], [b])] = lawTop (shA a b c n) cs r := by
  obtain ⟨e1, e2, e3, e4, e5, e6⟩ := ne_facts3 h1 h2
  constructor
  · refine max0_eq ?_
    simp [lawSum, lawPart, shA, both, e1, e2, e3, e4, e5, e6]
    omega
  · exact minL_perm (List.Perm.swap _ _ _) (by simp)
theorem rangeB (h1 : a < b) (h2 : b < c) : lowF (shB a b c n) cs r [([b, c], []), ([a], [])] = lawLow (shB a b c n) cs r ∧ topF (shB a b c n) cs r [([b, c], []), ([a], [])] = lawTop (shB a b c n) cs r := by
  obtain ⟨e1, e2, e3, e4, e5, e6⟩ := ne_facts3 h1 h2
  constructor
  · refine max0_eq ?_
    simp [lawSum, lawPart, shB, both, e1, e2, e3, e4, e5, e6]
    omega
  · exact minL_perm (List.Perm.swap _ _ _) (by simp)
theorem rangeC (h1 : a < b) (h2 : b < c) : lowF (shC a b c n) cs r [([c], []), ([b], []), ([a], [])] = lawLow (shC a b c n) cs r ∧ topF (shC a b c n) cs r [([c], []), ([b], []), ([a], [])] = lawTop (shC a b c n) cs r := by
  obtain ⟨e1, e2, e3, e4, e5, e6⟩ := ne_facts3 h1 h2
  constructor
  · refine max0_eq ?_
    simp [lawSum, lawPart, shC, both, e1, e2, e3, e4, e5, e6]
    omega
  · refine minL_perm ?_ (by simp)
    exact (List.reverse_perm [heldF (shC a b c n) cs r [c], heldF (shC a b c n) cs r [b], heldF (shC a b c n) cs r [a]]).symm
theorem rangeD (h1 : a < b) : lowF (shD a b n) cs r [([b], []), ([a], [])] = lawLow (shD a b n) cs r ∧ topF (shD a b n) cs r [([b], []), ([a], [])] = lawTop (shD a b n) cs r := by
  have e1 : ¬ a = b := by omega
  have e4 : ¬ b = a := by omega
  constructor
  · refine max0_eq ?_
    simp [lawSum, lawPart, shD, both, e1, e4]
    omega
  · exact minL_perm (List.Perm.swap _ _ _) (by simp)
theorem rangeE : lowF (shE a b n) cs r [([a, b], [])] = lawLow (shE a b n) cs r ∧ topF (shE a b n) cs r [([a, b], [])] = lawTop (shE a b n) cs r := by
  constructor
  · refine max0_eq ?_
    simp [lawSum, lawPart, shE]
  · simp only [topF, lawTop, shE, List.map_cons, List.map_nil, minL]
end
end My

set_option Elab.async false
set_option pp.maxSteps 1500
set_option linter.all false
set_option maxRecDepth 100000
set_option maxHeartbeats 4000000
/-! K4: every kind that can come -/
namespace My
open PySem PySem.Spec PyProof.Rows L2 TL
theorem kind_all {kd : Kind} {l : LN} (hk : kd ∈ kindsT) (hf : Fresh kd l) : MOk (mkMD kd l) ∧ ∃ ol, Tree (mkMD kd l) ol ∧ ∀ (cs : List CT) (r : LN), lowF (mkMD kd l) cs r ol = lawLow (mkMD kd l) cs r ∧ topF (mkMD kd l) cs r ol = lawTop (mkMD kd l) cs r := by
  have n222 : NumOk 3 [2, 2, 2] := ⟨rfl, by decide, by decide⟩
  have n232 : NumOk 3 [2, 3, 2] := ⟨rfl, by decide, by decide⟩
  have n23 : NumOk 2 [2, 3] := ⟨rfl, by decide, by decide⟩
  have n33 : NumOk 2 [3, 3] := ⟨rfl, by decide, by decide⟩
  have n22 : NumOk 2 [2, 2] := ⟨rfl, by decide, by decide⟩
  rw [kindsT_eq] at hk
  simp only [List.mem_cons, List.not_mem_nil, or_false] at hk
  rcases hk with rfl | rfl | rfl | rfl | rfl | rfl | rfl | rfl
  · obtain ⟨a, b, c, rfl, h1, h2, h3, h4⟩ := fresh3 rfl hf
    exact ⟨okA h1 h2 h3 h4 n222, _, treeA h1 h2, fun cs r => rangeA h1 h2⟩
  · obtain ⟨a, b, c, rfl, h1, h2, h3, h4⟩ := fresh3 rfl hf
    exact ⟨okB h1 h2 h3 h4 n222, _, treeB h1 h2, fun cs r => rangeB h1 h2⟩
  · obtain ⟨a, b, c, rfl, h1, h2, h3, h4⟩ := fresh3 rfl hf
    exact ⟨okC h1 h2 h3 h4 n222, _, treeC h1 h2, fun cs r => rangeC h1 h2⟩
  · obtain ⟨a, b, rfl, h1, h3, h4⟩ := fresh2 rfl hf
    exact ⟨okD h1 h3 h4 n23, _, treeD h1, fun cs r => rangeD h1⟩
  · obtain ⟨a, b, rfl, h1, h3, h4⟩ := fresh2 rfl hf
    exact ⟨okD h1 h3 h4 n33, _, treeD h1, fun cs r => rangeD h1⟩
  · obtain ⟨a, b, rfl, h1, h3, h4⟩ := fresh2 rfl hf
    exact ⟨okE h1 h3 h4 n22, _, treeE, fun cs r => rangeE⟩
  · obtain ⟨a, b, c, rfl, h1, h2, h3, h4⟩ := fresh3 rfl hf
    exact ⟨okA h1 h2 h3 h4 n232, _, treeA h1 h2, fun cs r => rangeA h1 h2⟩
  · obtain ⟨a, b, rfl, h1, h3, h4⟩ := fresh2 rfl hf
    exact ⟨okD h1 h3 h4 n22, _, treeD h1, fun cs r => rangeD h1⟩
end My

set_option Elab.async false
set_option pp.maxSteps 1500
set_option linter.all false
set_option maxRecDepth 100000
set_option maxHeartbeats 4000000
/-! J12: the law's known shape -/
namespace My
open PySem PySem.Spec PyProof.Rows L2 TL
def sp_w_known (K : PySem.W.Frag) : Sp := fun vs H Q _ => ∃ (j : Addr), vs = [.ref j] ∧ JarAt H j ∧ ∀ s H' kd l, Keep j H H' → JarAt H' j → kd ∈ kindsT → Fresh kd l → ShAt H' s (mkMD kd l) true → Q (.ref s) H'
section
variable {P : Program} {w : World} {K : PySem.W.Frag} {mg : Str → Option Value} {base : Heap}
theorem sc_w_known : FnScope ["_law_jar_here", "_law_turn", "_law_shape"] ["_law_jar_here"] (defScope s_w_known) := ⟨rfl, rfl, rfl, by decide +kernel, rfl, by decide +kernel, by decide +kernel⟩
theorem h_w_known (e : EV w K mg base) : Has P w K mg base 4 "_law_known" ["_law_jar_here"] (sp_w_known K) := by
  refine mk_has (d := d_w_known) e.g_w_known e.f_w_known sc_w_known (fun _ _ _ _ _ _ us hl => match us, hl with | [_], _ => rfl) (fun vs H Q E h => by obtain ⟨_, rfl, _⟩ := h; rfl) (fun cdv A outer s H vs Q E hr h => ?_)
  obtain ⟨j, rfl, hj, k⟩ := h
  refine rb_cons (rs_for PassesOwn.never (ri_range1 e.z_range (ra_cons (r_int (ra_nil ⟨40, rfl, by decide, by decide, ?_⟩)))))
  refine rfor_it walk_range (fun i σ' H' => Keep j H H' ∧ JarAt H' j ∧ ∃ v1 v2 : Option V, σ' = [some (.ref j), v1, v2]) ⟨Keep.refl _ _, hj, _, _, rfl⟩ (fun _ _ _ _ _ => trivial) ?_ ?_
  · rintro i x σ' H1 H1' hi ⟨k1, hj1, v1, v2, rfl⟩ ⟨rfl, rfl⟩
    refine rg_name 1 sc_w_known.nd (rb_cons (rs_set 2 sc_w_known.nd (r_call (h_w_small e) hr (ra_cons (r_var 0 (ra_nil ⟨j, rfl, hj1, fun s H2 kd l k2 hj2 hk hf hs => ?_⟩))))))
    obtain ⟨a, b, h1, h2, h3⟩ := hs.at_
    refine rb_one (rs_if (rt_val (r_ix (r_var 2 (r_int ⟨_, .bl kd.so, .inr (SqT.of h1), at3, ?_⟩)))))
    refine b_b (fun hso => ?_) (fun hso => rb_nil ⟨k1.trans k2, hj2, _, _, rfl⟩)
    refine rb_one (rs_ret (r_var 2 ?_))
    rw [hso] at hs
    exact k s H2 kd l (k1.trans k2) hj2 (List.mem_append.mpr (.inl (List.mem_filter.mpr ⟨hk, hso⟩))) hf hs
  · rintro σ' H1 ⟨k1, hj1, v1, v2, rfl⟩
    refine rb_one (rs_ret (r_tup (ra_cons (r_str (ra_cons (r_tup (ra_cons (r_int (ra_cons (r_int (ra_nil ⟨by show 2 ≤ sizeLine; decide, fun a ha => ra_cons (r_tup (ra_cons (r_str (ra_cons (r_str (ra_nil ⟨by show 2 ≤ sizeLine; decide, fun b hb => ra_cons (r_bl (ra_nil ⟨by show 4 ≤ sizeLine; decide, fun t ht => ?_⟩))⟩))))))⟩)))))))))))
    have sa := fun o => same_new (o := o) ha
    have sb := fun o => same_new (o := o) hb
    have st := fun o => same_new (o := o) ht
    refine k t _ ⟨[97, 98], [2, 2], [[97], [98]], true⟩ [97, 98] (k1.trans (Keep.of ((sa _).trans ((sb _).trans (st _))))) (hj1.ext ((sa _).trans ((sb _).trans (st _)))) (by rw [kindsT_eq]; simp) ⟨rfl, asc2 (by decide), by simp⟩ ⟨a, b, ?_, st _ _ _ (sb _ _ _ upd_same), st _ _ _ ?_⟩
    · rw [upd_same]
      rfl
    · rw [upd_same]
      rfl
end
end My

set_option Elab.async false
set_option pp.maxSteps 1500
set_option linter.all false
set_option maxRecDepth 100000
set_option maxHeartbeats 4000000
/-! Z1: _law_right: what stands -/
namespace My
open PySem PySem.Spec PyProof.Rows L2 TL
/-- the stable part: the shape, the model, both tables, both lists of counts -/
structure StG (K : PySem.W.Frag) (G : Hy) (m : MD) (ol : List Pr) (s k p j t1 t2 a b : Addr) (cs ds : List CT) (ss tt : List (List CT)) : Prop where
  sh : ShAt G s m true
  mo : ModAt K G p m
  t1 : TabAt K G t1 p m cs
  t2 : TabAt K G t2 p m ds
  ca : CntB G a m (10 ^ 28) 7 cs
  cb : CntB G b m (10 ^ 28 + 3) 11 ds
  s1 : SumsOf m cs ss m.lots
  s2 : SumsOf m ds tt m.lots
  nj : G j = none
  nk : G k = none
  nt : NoTb G
  tr : Tree m ol
  low : ∀ (cs : List CT) (r : LN), lowF m cs r ol = lawLow m cs r
  top : ∀ (cs : List CT) (r : LN), topF m cs r ol = lawTop m cs r
/-- what changes -/
structure Rt (K : PySem.W.Frag) (G : Hy) (k p j t1 t2 : Addr) (H : Hy) : Prop where
  sG : Same G H
  jar : JarAt H j
  desk : DeskAt K H k p [("mine", t1), ("other", t2)] []
  tab : LamX.Tabs (tabT K) H
section
variable {K : PySem.W.Frag} {G H H' : Hy} {m : MD} {ol : List Pr} {s k p j t1 t2 a b : Addr} {cs ds : List CT} {ss tt : List (List CT)}
theorem Rt.same (r : Rt K G k p j t1 t2 H) (q : Same H H') : Rt K G k p j t1 t2 H' := ⟨r.sG.trans q, r.jar.ext q, r.desk.ext q, tabs_same r.tab q⟩
theorem Rt.jk (g : StG K G m ol s k p j t1 t2 a b cs ds ss tt) (r : Rt K G k p j t1 t2 H) (q : Keep j H H') (hj : JarAt H' j) : Rt K G k p j t1 t2 H' :=
  ⟨fun x u e => q x u (fun z => by rw [z, g.nj] at e; cases e) (r.sG x u e), hj, desk_j r.desk r.jar q, tabs_j r.tab r.jar q⟩
theorem Rt.dk (g : StG K G m ol s k p j t1 t2 a b cs ds ss tt) (r : Rt K G k p j t1 t2 H) (x : ExtK k H H') (t : LamX.Tabs (tabT K) H') (d : DeskAt K H' k p [("mine", t1), ("other", t2)] []) : Rt K G k p j t1 t2 H' := by
  refine ⟨fun c u e => x c u (fun z => by rw [z, g.nk] at e; cases e) (r.sG c u e) fun ps z => g.nt c ps (by rw [e, z]), ?_, d, t⟩
  obtain ⟨x1, x2, x3, hj⟩ := r.jar
  obtain ⟨dx, fs, _, _, _, hk, _⟩ := r.desk.at_
  exact ⟨x1, x2, x3, x j _ (fun z => by rw [z, hk] at hj; cases hj) hj fun _ z => by cases z⟩
theorem Rt.ls {x : Addr} {ys : List V} (r : Rt K G k p j t1 t2 H) (hx : H x = some (.lst ys)) (hG : G x = none) (hj : x ≠ j) (q : Keep x H H') : Rt K G k p j t1 t2 H' := by
  refine ⟨fun c u e => q c u (fun z => by rw [z, hG] at e; cases e) (r.sG c u e), ?_, desk_l r.desk hx q, tabs_l r.tab hx q⟩
  obtain ⟨x1, x2, x3, h⟩ := r.jar
  exact ⟨x1, x2, x3, q j _ (Ne.symm hj) h⟩
/-- the counts and the sums by a table's name -/
def cfR (cs ds : List CT) : Str → List CT := fun x => if x = "mine" then cs else ds
def sfR (ss tt : List (List CT)) : Str → List (List CT) := fun x => if x = "mine" then ss else tt
theorem StG.ok (g : StG K G m ol s k p j t1 t2 a b cs ds ss tt) : ∀ x : Str, (x = "mine" ∨ x = "other") → ShOk K G p m (cfR cs ds) (sfR ss tt) [("mine", t1), ("other", t2)] x := by
  intro x hx
  rcases hx with rfl | rfl
  · refine ⟨t1, by simp [shGet], ?_, ?_⟩
    · have e : cfR cs ds "mine" = cs := if_pos rfl
      rw [e]
      exact g.t1
    · have e : cfR cs ds "mine" = cs := if_pos rfl
      have e2 : sfR ss tt "mine" = ss := if_pos rfl
      rw [e, e2]
      exact g.s1
  · have hne : ¬ ("other" : Str) = "mine" := by decide +kernel
    have hne2 : ¬ ("mine" : Str) = "other" := by decide +kernel
    refine ⟨t2, by simp [shGet, hne2], ?_, ?_⟩
    · have e : cfR cs ds "other" = ds := if_neg hne
      rw [e]
      exact g.t2
    · have e : cfR cs ds "other" = ds := if_neg hne
      have e2 : sfR ss tt "other" = tt := if_neg hne
      rw [e, e2]
      exact g.s2
theorem StG.hm (g : StG K G m ol s k p j t1 t2 a b cs ds ss tt) : MOk m := g.mo.ok
/-- a claim, from what stands -/
theorem claimed_of {Q : VK} (g : StG K G m ol s k p j t1 t2 a b cs ds ss tt) (r : Rt K G k p j t1 t2 H) {tc hl : Addr} {c : Clm} {hv : List V} {hd : List PyData} (htc : H tc = some (.tup c.v)) (hok : c.ok m) (hn : ∀ x : Str, x ∈ c.names → x = "mine" ∨ x = "other") (hhl : H hl = some (.lst hv)) (hdp : DpAll K H hv hd) (hsh : SeqAt.shaped (.list hd) = true)
    (h : (holdsB m ol (cfR cs ds) (sfR ss tt) c = true ∧ hd = []) ∨ (holdsB m ol (cfR cs ds) (sfR ss tt) c = false ∧ okT (shownD m ol (cfR cs ds) (sfR ss tt) c) ∧ ∃ r, hd = shownD m ol (cfR cs ds) (sfR ss tt) c :: r))
    (q : ∀ H', Rt K G k p j t1 t2 H' → ExtK k H H' → Q (.bl true) H') : sp_w_claimed K [.ref k, .ref tc, .ref hl] H Q E0 :=
  ⟨m, k, p, tc, hl, c, ol, cfR cs ds, sfR ss tt, [("mine", t1), ("other", t2)], hv, hd, G, rfl, r.desk, r.sG, g.nt, g.mo, fun x hx => g.ok x (hn x hx), htc, g.tr, hok, hhl, hdp, hsh, r.tab, h, fun H' x t d => q H' (r.dk g x t d) x⟩
end
theorem same_mk {H : Hy} {x dx C : Addr} (h1 : H x = none) (h2 : H dx = none) (hne : dx ≠ x) : Same H (upd (upd H dx (.own x)) x (.ins C dx [])) := (same_new h2).trans (same_new (by rw [upd_ne (Ne.symm hne)]; exact h1))
theorem mk_same {H H' : Hy} {x dx C : Addr} (h1 : H x = none) (h2 : H dx = none) (hne : dx ≠ x) (k : Keep x (upd (upd H dx (.own x)) x (.ins C dx [])) H') : Same H H' := Keep.same h1 (same_mk h1 h2 hne) k
theorem jar_k {H H' : Hy} {j k C dx : Addr} {fs : List (Str × V)} (hj : JarAt H j) (hk : H k = some (.ins C dx fs)) (q : Keep k H H') : JarAt H' j := by
  obtain ⟨x, y, z, h⟩ := hj
  exact ⟨x, y, z, q j _ (fun e => by rw [e, hk] at h; cases h) h⟩
theorem DeskAt.ins {K : PySem.W.Frag} {H : Hy} {k p : Addr} {sh : List ShE} {cl : List V} (h : DeskAt K H k p sh cl) : ∃ dx fs, H k = some (.ins (He.ga K "Desk") dx fs) ∧ fs.lookup ("model" : Str) = some (.ref p) := by
  obtain ⟨dx, fs, l, d, t, h1, h2, _⟩ := h.at_
  exact ⟨dx, fs, h1, h2⟩
theorem csok {m : MD} {H : Hy} {a : Addr} {b : Int} {n : Nat} {cs : List CT} (h : CntB H a m b n cs) (hb : 0 ≤ b) (hn : n ≤ 16) (hnb : 16 * b ≤ 10 ^ 30) : CsOk m cs := h.2.1.ok h.2.2 hb hn hnb
theorem rows_ne {ls : List Nat} (h : ∀ d ∈ ls, 2 ≤ d ∧ d ≤ 4) : rowsOf ls ≠ [] := by
  have key : ∀ (ls : List Nat) (rs : List (List Nat)), (∀ d ∈ ls, 2 ≤ d ∧ d ≤ 4) → rs ≠ [] → (ls.foldl (fun rs n => rs.flatMap fun r => (List.range n).map fun d => r ++ [48 + d]) rs) ≠ [] := by
    intro ls
    induction ls with
    | nil => intro rs _ h; exact h
    | cons d ls ih =>
      intro rs h1 h2
      rw [List.foldl_cons]
      refine ih _ (fun x hx => h1 x (List.mem_cons_of_mem _ hx)) fun z => ?_
      cases rs with
      | nil => exact h2 rfl
      | cons r rs =>
        have q := List.flatMap_eq_nil_iff.mp z r List.mem_cons_self
        have := h1 d List.mem_cons_self
        rw [List.map_eq_nil_iff, List.range_eq_nil] at q
        omega
  exact key ls [[]] h (by simp)
theorem unl_self (tt : List (List CT)) : unl tt tt = [] := by
  unfold unl
  rw [List.filter_eq_nil_iff]
  intro i _
  simp
def sp_w_right (K : PySem.W.Frag) : Sp := fun vs H Q _ => ∃ j, vs = [.ref j] ∧ JarAt H j ∧ LamX.Tabs (tabT K) H ∧ ∀ H', LamX.Tabs (tabT K) H' → (∀ b o, b ≠ j → H b = some o → (∀ ps, o ≠ .tbl ps) → H' b = some o) → Q (.bl true) H'
section
variable {P : Program} {w : World} {K : PySem.W.Frag} {mg : Str → Option Value} {base : Heap}
theorem sc_w_right : FnScope ["_law_jar_here", "_law_shape", "_law_desk", "_law_pairs", "_law_others", "_law_turn", "_law_row_here", "_law_told", "_law_bound", "_law_least", "_law_ranges_here", "_law_one_sums", "_law_two_sums", "_law_unlike_here", "_law_k"] ["_law_jar_here"] (defScope s_w_right) := ⟨rfl, rfl, rfl, by decide +kernel, rfl, by decide +kernel, by decide +kernel⟩
theorem h_w_right (e : EV w K mg base) (B : ExF K) (TB : LamX.TabB base mg (He.cT K d_w_claimed.at_).1 (He.cT K d_w_claimed.at_).2) : HasG P w K mg base 14 "_law_right" ["_law_jar_here"] (sp_w_right K) := by
  refine mk_hasG (d := d_w_right) e.g_w_right e.f_w_right sc_w_right (fun _ _ _ _ _ _ us hl => match us, hl with | [_], _ => rfl) (fun vs H Q E h => by obtain ⟨_, rfl, _⟩ := h; rfl) (fun cdv A outer s H vs Q E hr hg hcd h => ?_)
  obtain ⟨j, rfl, hj, hT, kq⟩ := h
  refine rb_cons (rs_set 1 sc_w_right.nd (r_call (h_w_known e) hr (ra_cons (r_var 0 (ra_nil ⟨j, rfl, hj, fun s0 H1 kd l k1 hj1 hkd hfr hs1 => ?_⟩)))))
  obtain ⟨hm, ol, tr, hrange⟩ := kind_all hkd hfr
  generalize mkMD kd l = m at hs1 hm tr hrange
  have hT1 := tabs_j hT hj k1
  refine rb_cons (rs_par 2 3 sc_w_right.nd (ra_cons (r_make e.k_Desk (h_Desk_init e) hr e.g_Desk (ra_cons (r_make e.k_Model (h_Model_init e) hr e.g_Model (ra_cons (r_call (h_w_text e) hr (ra_cons (r_var 1 (ra_nil ⟨m, s0, true, rfl, hs1, hm, fun H2 s2 => ra_nil fun p px hp hpx hpne => ⟨m, p, px, hm, rfl, upd_same, fun H3 k3 hmo => ⟨rfl, ra_nil fun k kx hk hkx hkne => ⟨m, k, kx, p, rfl, ?_, upd_same, fun H4 k4 hd4 => ⟨rfl, ra_cons (r_call (h_w_table e) hr (ra_cons (r_var 0 (ra_cons (r_var 1 (ra_nil ⟨m, j, s0, true, rfl, ?_, ?_, hm, fun a H5 cs k5 hj5 hc5 => ra_nil ⟨_, _, rfl, ?_⟩⟩))))))⟩⟩⟩⟩⟩))))))))))
  · exact hmo.ext (same_mk hk hkx hkne)
  · exact hj1.ext (s2.trans ((mk_same hp hpx hpne k3).trans (mk_same hk hkx hkne k4)))
  · exact hs1.ext (s2.trans ((mk_same hp hpx hpne k3).trans (mk_same hk hkx hkne k4)))
  have S23 := mk_same hp hpx hpne k3
  have S34 := mk_same hk hkx hkne k4
  have S14 := s2.trans (S23.trans S34)
  have hj4 := hj1.ext S14
  have hpk : p ≠ k := fun z => by
    obtain ⟨_, _, q⟩ := hmo.ins
    rw [z, hk] at q
    cases q
  have tp5 := tp_j hj4 k5
  have hs5 := (hs1.ext S14).tp tp5
  obtain ⟨_, _, hpi4⟩ := (hmo.ext S34).ins
  have hmo5 := (hmo.ext S34).tp tp5 (in_j hj4 k5 hpi4)
  have hd5 := desk_j hd4 hj4 k5
  have hT5 := tabs_j (tabs_same hT1 S14) hj4 k5
  refine rb_cons (rs_set 4 sc_w_right.nd (r_call (h_w_mate e) hr (ra_cons (r_var 0 (ra_cons (r_var 1 (ra_cons (r_var 3 (ra_nil ⟨m, j, s0, a, true, cs, rfl, hj5, hs5, hm, hc5, fun b H6 ds k6 hj6 hc6 => ?_⟩)))))))))
  have tp6 := tp_j hj5 k6
  have hs6 := hs5.tp tp6
  obtain ⟨_, _, hpi5⟩ := hmo5.ins
  have hmo6 := hmo5.tp tp6 (in_j hj5 k6 hpi5)
  have hd6 := desk_j hd5 hj5 k6
  have hT6 := tabs_j hT5 hj5 k6
  have hca6 := hc5.tp tp6
  obtain ⟨dx6, fs6, hki6, hkm6⟩ := hd6.ins
  obtain ⟨⟨us6, ha6, htu6⟩, _⟩ := id hca6
  have cok1 : CsOk m cs := csok hca6 (by decide) (by decide) (by decide)
  have cok2 : CsOk m ds := csok hc6 (by decide) (by decide) (by decide)
  refine rb_cons (rs_expr (r_call (h_w_place e B) hr (ra_cons (r_var 2 (ra_cons (r_str (ra_cons (r_make e.k_Table (h_Table_init e) hr e.g_Table (ra_cons (r_fld (r_var 2 ⟨k, _, dx6, fs6, _, rfl, hki6, e.c_Desk, e.n_Desk_model, hkm6, ra_cons (r_var 3 (ra_nil fun t1 tx ht1 htx htne => ⟨m, t1, tx, p, a, us6, cs, rfl, ?_, ?_, ?_, ?_, cok1, upd_same, fun H7 k7 htab1 => ⟨rfl, ra_nil ⟨m, k, p, t1, "mine", cs, [], rfl, .inl rfl, ?_, htab1, by decide, rfl, fun H8 k8 hd8 => ?_⟩⟩⟩))⟩)))))))))))
  · exact hmo6.ext (same_mk ht1 htx htne)
  · intro z
    obtain ⟨_, _, q⟩ := hmo6.ins
    rw [z, ht1] at q
    cases q
  · exact same_mk ht1 htx htne _ _ ha6
  · exact htu6.ext (same_mk ht1 htx htne)
  · exact hd6.ext (mk_same ht1 htx htne k7)
  have S67 := mk_same ht1 htx htne k7
  have hki7 := S67 _ _ hki6
  have tp8 := tp_k hki7 k8
  have ht1k : t1 ≠ k := fun z => by
    rw [z, hki6] at ht1
    cases ht1
  have hj8 := jar_k (hj6.ext S67) hki7 k8
  have hs8 := (hs6.ext S67).tp tp8
  have hmo8 := (hmo6.ext S67).tp tp8 (fun u h => k8 p u hpk h)
  have htab8 := htab1.tp tp8 (fun u h => k8 p u hpk h) (fun u h => k8 t1 u ht1k h)
  have hca8 := (hca6.tp (tpS S67)).tp tp8
  have hcb8 := (hc6.tp (tpS S67)).tp tp8
  have hT8 := tabs_keep (tabs_same hT6 S67) hki7 k8
  obtain ⟨dx8, fs8, hki8, hkm8⟩ := hd8.ins
  obtain ⟨⟨us8, hb8, htu8⟩, _⟩ := id hcb8
  refine rb_cons (rs_expr (r_call (h_w_place e B) hr (ra_cons (r_var 2 (ra_cons (r_str (ra_cons (r_make e.k_Table (h_Table_init e) hr e.g_Table (ra_cons (r_fld (r_var 2 ⟨k, _, dx8, fs8, _, rfl, hki8, e.c_Desk, e.n_Desk_model, hkm8, ra_cons (r_var 4 (ra_nil fun t2 ux ht2 hux hune => ⟨m, t2, ux, p, b, us8, ds, rfl, ?_, ?_, ?_, ?_, cok2, upd_same, fun H9 k9 htab2 => ⟨rfl, ra_nil ⟨m, k, p, t2, "other", ds, [("mine", t1)], rfl, .inr rfl, ?_, htab2, by show 1 ≤ 1; decide, by simp [shGet, show ¬ ("mine" : Str) = "other" by decide +kernel], fun H10 k10 hd10 => ?_⟩⟩⟩))⟩)))))))))))
  · exact hmo8.ext (same_mk ht2 hux hune)
  · intro z
    obtain ⟨_, _, q⟩ := hmo8.ins
    rw [z, ht2] at q
    cases q
  · exact same_mk ht2 hux hune _ _ hb8
  · exact htu8.ext (same_mk ht2 hux hune)
  · exact hd8.ext (mk_same ht2 hux hune k9)
  have S89 := mk_same ht2 hux hune k9
  have hki9 := S89 _ _ hki8
  have tp10 := tp_k hki9 k10
  have ht2k : t2 ≠ k := fun z => by
    rw [z, hki8] at ht2
    cases ht2
  have hj10 := jar_k (hj8.ext S89) hki9 k10
  have hs10 := (hs8.ext S89).tp tp10
  have hmo10 := (hmo8.ext S89).tp tp10 (fun u h => k10 p u hpk h)
  have htabA := (TabAt.ext S89 htab8).tp tp10 (fun u h => k10 p u hpk h) (fun u h => k10 t1 u ht1k h)
  have htabB := htab2.tp tp10 (fun u h => k10 p u hpk h) (fun u h => k10 t2 u ht2k h)
  have hca10 := (hca8.tp (tpS S89)).tp tp10
  have hcb10 := (hcb8.tp (tpS S89)).tp tp10
  have hT10 := tabs_keep (tabs_same hT8 S89) hki9 k10
  obtain ⟨dx10, fs10, hki10, _⟩ := hd10.ins
  obtain ⟨jx, jy, jz, hjl⟩ := id hj10
  have st : ∀ {c : Addr} {o : HO}, H10 c = some o → (∀ xs, o ≠ .lst xs) → c ≠ k → (∀ ps, o ≠ .tbl ps) → stab H10 j k c = some o := fun {c o} h n1 n2 n3 => stab_of h (fun z => by
    rw [z, hjl] at h
    exact n1 _ (Option.some.inj h).symm) n2 n3
  have tpG : Tp H10 (stab H10 j k) := fun c xs h => st h (fun _ z => by cases z) (fun z => by rw [z, hki10] at h; cases h) fun _ z => by cases z
  have insG : ∀ {c C dx : Addr} {fs : List (Str × V)}, H10 c = some (.ins C dx fs) → c ≠ k → ∀ u, H10 c = some u → stab H10 j k c = some u := fun {c C dx fs} h n u h2 => by
    rw [h] at h2
    cases h2
    exact st h (fun _ z => by cases z) n fun _ z => by cases z
  obtain ⟨_, _, hpi10⟩ := hmo10.ins
  obtain ⟨_, _, ht1i⟩ := htabA.ins
  obtain ⟨_, _, ht2i⟩ := htabB.ins
  obtain ⟨_, _, _, _, _, _, ss, _, _, _, _, _, _, _, _, hss⟩ := htabA.at_
  obtain ⟨_, _, _, _, _, _, tt, _, _, _, _, _, _, _, _, htt⟩ := htabB.at_
  have g : StG K (stab H10 j k) m ol s0 k p j t1 t2 a b cs ds ss tt := ⟨hs10.tp tpG, hmo10.tp tpG (insG hpi10 hpk), htabA.tp tpG (insG hpi10 hpk) (insG ht1i ht1k), htabB.tp tpG (insG hpi10 hpk) (insG ht2i ht2k), hca10.tp tpG, hcb10.tp tpG, hss, htt,
    if_pos (.inl rfl), if_pos (.inr rfl), fun c ps h => (stab_in h).2.2.2 ps rfl, tr, fun cs r => (hrange cs r).1, fun cs r => (hrange cs r).2⟩
  have r10 : Rt K (stab H10 j k) k p j t1 t2 H10 := ⟨fun c o h => (stab_in h).1, hj10, hd10, hT10⟩
  have q10 : ∀ H', Rt K (stab H10 j k) k p j t1 t2 H' → Q (.bl true) H' := fun H' r => kq H' r.tab fun c o hc h nt => by
    have h3 := S23 c o (s2 c o (k1 c o hc h))
    have hck : c ≠ k := fun z => by
      rw [z, hk] at h3
      cases h3
    exact r.sG c o (stab_of (k10 c o hck (S89 c o (k8 c o hck (S67 c o (k6 c o hc (k5 c o hc (S34 c o h3))))))) hc hck nt)
  generalize stab H10 j k = G at g r10 q10
  have hll := hm.ll
  have h6 := hm.n6
  have hgu : (cxOf CX0 P w K mg base ["_law_jar_here", "_law_shape", "_law_desk", "_law_pairs", "_law_others", "_law_turn", "_law_row_here", "_law_told", "_law_bound", "_law_least", "_law_ranges_here", "_law_one_sums", "_law_two_sums", "_law_unlike_here", "_law_k"] d_w_right.qual d_w_right.scope (He.fAd K d_w_right.at_) cdv A outer s H E).nox.A.guards = some [] := hg
  have levE : (m.lev.map fun d : Nat => V.int d) = m.levI.map V.int := by
    rw [MD.levI, List.map_map]
    rfl
  have eM : cfR cs ds "mine" = cs := if_pos rfl
  have eO : cfR cs ds "other" = ds := if_neg (by decide +kernel)
  refine rb_cons (rs_for PassesOwn.never (ri_range1 e.z_range (ra_cons (r_int (ra_nil ⟨6, rfl, by decide, by decide, ?_⟩)))))
  refine rfor_it walk_range (fun i σ' H' => Rt K G k p j t1 t2 H' ∧ ∃ (v5 v6 v7 v8 : Option V), σ' = [some (.ref j), some (.ref s0), some (.ref k), some (.ref a), some (.ref b), v5, v6, v7, v8, none, none, none, none, none, none]) ⟨r10, _, _, _, _, rfl⟩ (fun _ _ _ _ _ => trivial) ?_ ?_
  · rintro i x σ' H1 H1' hi ⟨r1, v5, v6, v7, v8, rfl⟩ ⟨rfl, rfl⟩
    obtain ⟨a1, b1, q1, q2, q3⟩ := (g.sh.ext r1.sG).at_
    refine rg_name 5 sc_w_right.nd (rb_cons (rs_set 6 sc_w_right.nd (r_call (h_w_row e) hr (ra_cons (r_var 0 (ra_cons (r_ix (r_var 1 (r_int ⟨_, .ref a1, .inr (SqT.of q1), at1, ra_nil ⟨j, a1, m.lev, rfl, r1.jar, SqT.of (by rw [levE]; exact q2), hm.lv, by omega, fun r H2 k2 hj2 hr2 => ?_⟩⟩)))))))))
    have r2 := r1.jk g k2 hj2
    have hrow := rowOk_of hm hr2
    refine rb_cons (rs_set 7 sc_w_right.nd (r_call (h_w_range e) hr (ra_cons (r_var 1 (ra_cons (r_var 3 (ra_cons (r_var 6 (ra_nil ⟨m, s0, a, true, cs, r, rfl, g.sh.ext r2.sG, hm, (g.ca.tp (tpS r2.sG)).at (by decide), hrow.len, fun t H3 s3 ht3 => ?_⟩)))))))))
    have r3 := r2.same s3
    refine rb_cons (rs_set 8 sc_w_right.nd (r_callB (call_min2 rfl) e.z_min (by decide +kernel) (ra_cons (r_pow (r_int (r_int ⟨⟨by decide, by decide, by decide⟩, ra_cons (r_callB (call_max2 rfl) e.z_max (by decide +kernel) (ra_cons (r_int (ra_cons (r_sub (r_add (r_ix (r_var 7 (r_int ⟨_, .int (lawLow m cs r), .inr (SqT.of ht3), at0, r_call (h_w_dip e) hr (ra_cons (r_var 0 (ra_cons (r_int (ra_nil ⟨j, 3, rfl, r3.jar, by decide, by decide, fun d H4 k4 hj4 d0 d1 => add_ii (r_int (sub_ii (ra_nil ⟨_, _, rfl, ra_nil ⟨_, _, rfl, ?_⟩⟩)))⟩)))))⟩)))))))))⟩))))))
    have r4 := r3.jk g k4 hj4
    have ht4 := r3.jar.tup k4 ht3
    obtain ⟨bd, ebd, hb0, hb1⟩ : ∃ bd : Int, bd = (if (if lawLow m cs r + d - 1 > 0 then lawLow m cs r + d - 1 else 0) < 10 ^ (30 : Int).toNat then (if lawLow m cs r + d - 1 > 0 then lawLow m cs r + d - 1 else 0) else 10 ^ (30 : Int).toNat) ∧ 0 ≤ bd ∧ bd ≤ 10 ^ 30 := by
      refine ⟨_, rfl, ?_⟩
      have e30 : (10 : Int) ^ (30 : Int).toNat = 10 ^ 30 := by decide
      have hz : (0 : Int) ≤ 10 ^ 30 := by decide
      rw [e30]
      generalize (10 : Int) ^ 30 = Z at hz ⊢
      have hY : 0 ≤ (if lawLow m cs r + d - 1 > 0 then lawLow m cs r + d - 1 else 0) := by split <;> omega
      generalize (if lawLow m cs r + d - 1 > 0 then lawLow m cs r + d - 1 else 0) = Y at hY ⊢
      split <;> omega
    rw [← ebd]
    clear ebd
    have eL : lowF m (cfR cs ds "mine") r ol = lawLow m cs r := by rw [eM]; exact g.low cs r
    have eT : topF m (cfR cs ds "mine") r ol = lawTop m cs r := by rw [eM]; exact g.top cs r
    have hB : holdsB m ol (cfR cs ds) (sfR ss tt) (.least "mine" r bd) = decide (bd ≤ lawLow m cs r) := by
      show decide _ = _
      rw [eL]
    have hD : shownD m ol (cfR cs ds) (sfR ss tt) (.least "mine" r bd) = .tuple [.int (lawLow m cs r), .int (lawTop m cs r)] := by
      show PyData.tuple _ = _
      rw [eL, eT]
    have hLb := lowF_b g.ca.2.1 (by decide) r g.tr.ok
    have hTb := topF_b g.ca.2.1 (by decide) r g.tr.ok
    rw [g.low] at hLb
    rw [g.top] at hTb
    refine rb_one (rs_if (rt_not (rt_val (r_callG (h_w_claimed e B TB) hr hgu (ra_cons (r_var 2 (ra_cons (r_tup (ra_cons (r_str (ra_cons (r_str (ra_cons (r_var 6 (ra_cons (r_var 8 (ra_nil ⟨by show 4 ≤ sizeLine; decide, fun tc htc => ra_cons (r_if (rt_le (r_var 8 (r_ix (r_var 7 (r_int ⟨_, .int (lawLow m cs r), .inr (SqT.of (same_new htc _ _ ht4)), at0, ?_⟩))))))⟩)))))))))))))))))
    have sc := fun o => same_new (o := o) htc
    refine b_d (fun hle => ?_) (fun hle => ?_)
    · refine r_lst (ra_nil ⟨Nat.zero_le _, fun hl hhl => ra_nil ?_⟩)
      have s7 := (sc (.tup (Clm.least "mine" r bd).v)).trans (same_new (o := .lst []) hhl)
      refine claimed_of (c := .least "mine" r bd) g (r4.same s7) (same_new hhl _ _ upd_same) ⟨hrow, hb0, hb1⟩ (fun x hx => .inl (by simpa [Clm.names] using hx)) upd_same .nil shaped_nil (.inl ⟨by rw [hB]; exact decide_eq_true hle, rfl⟩) fun H9 r9 _ => ?_
      refine b_no (b := !true) rfl ?_
      exact rb_nil ⟨r9, _, _, _, _, rfl⟩
    · refine r_lst (ra_cons (r_var 7 (ra_nil ⟨by show 1 ≤ sizeLine; decide, fun hl hhl => ra_nil ?_⟩)))
      have s7 := (sc (.tup (Clm.least "mine" r bd).v)).trans (same_new (o := .lst [.ref t]) hhl)
      refine claimed_of (c := .least "mine" r bd) (hd := [.tuple [.int (lawLow m cs r), .int (lawTop m cs r)]]) g (r4.same s7) (same_new hhl _ _ upd_same) ⟨hrow, hb0, hb1⟩ (fun x hx => .inl (by simpa [Clm.names] using hx)) upd_same (.cons (.tup (SqT.of (s7 _ _ ht4)) (.cons (.int _) (.cons (.int _) .nil))) .nil) (shapedL_two _ _) (.inr ⟨by rw [hB]; exact decide_eq_false hle, by rw [hD]; exact okT_two hLb.1 (Int.lt_of_le_of_lt hLb.2 (by decide)) hTb.1 (Int.lt_of_le_of_lt hTb.2 (by decide)), [], by rw [hD]⟩) fun H9 r9 _ => ?_
      refine b_no (b := !true) rfl ?_
      exact rb_nil ⟨r9, _, _, _, _, rfl⟩
  rintro σ' H1 ⟨r1, v5, v6, v7, v8, rfl⟩
  refine rb_cons (rs_par 9 10 sc_w_right.nd (ra_cons (r_add (r_int (r_call (h_w_dip e) hr (ra_cons (r_var 0 (ra_cons (r_ix (r_lst (ra_cons (r_int (ra_cons (r_int (ra_nil ⟨by show 2 ≤ sizeLine; decide, fun g1 hg1 => r_call (h_w_dip e) hr (ra_cons (r_var 0 (ra_cons (r_int (ra_nil ⟨j, 2, rfl, (r1.same (same_new hg1)).jar, by decide, by decide, fun i2 H3 k3' hj3 i0 i1 => ?_⟩)))))⟩)))))))))))))))
  have r2 := r1.same (same_new (o := .lst [V.int 3, V.int 1000]) hg1)
  have r3 := r2.jk g k3' hj3
  have hg3 : H3 g1 = some (.lst [V.int 3, V.int 1000]) := k3' g1 _ (fun z => by
    obtain ⟨_, _, _, q⟩ := r1.jar
    rw [z, q] at hg1
    cases hg1) upd_same
  obtain ⟨n0, n1, n2, n3⟩ : ∃ n : Int, atI [V.int 3, V.int 1000] i2 = some (.int n) ∧ 1 ≤ n ∧ n ≤ 1000 := by
    rcases (show i2 = 0 ∨ i2 = 1 by omega) with rfl | rfl
    · exact ⟨3, at0, by decide, by decide⟩
    · exact ⟨1000, at1, by decide, by decide⟩
  refine ⟨_, .int n0, .inl (SqL.of hg3), n1, ra_nil ⟨j, n0, rfl, hj3, n2, Int.le_trans n3 (by decide), fun d H4 k4' hj4 d0 d1 => add_ii (ra_cons (r_lst (ra_nil ⟨Nat.zero_le _, fun hl hhl => ra_nil ⟨_, _, rfl, ?_⟩⟩)))⟩⟩
  have r4 := r3.jk g k4' hj4
  have r5 := r4.same (same_new (o := .lst []) hhl)
  have hGl : G hl = none := by
    cases q : G hl with
    | none => rfl
    | some o =>
      have z := r4.sG _ _ q
      rw [hhl] at z
      cases z
  have hlj : hl ≠ j := fun z => by
    obtain ⟨_, _, _, q⟩ := r4.jar
    rw [z, q] at hhl
    cases hhl
  obtain ⟨n, en, nn1, nn2⟩ : ∃ n : Int, n = 1 + d ∧ 1 ≤ n ∧ n ≤ 1000 := ⟨_, rfl, by omega, by omega⟩
  rw [← en]
  clear en
  have hl5 : (upd H4 hl (.lst [])) hl = some (.lst []) := upd_same
  generalize upd H4 hl (.lst []) = H5 at r5 hl5 ⊢
  obtain ⟨a1, b1, q1, q2, q3⟩ := (g.sh.ext r5.sG).at_
  refine rb_cons (rs_for PassesOwn.never (ri_list (r_call (h_w_rows e) hr (ra_cons (r_ix (r_var 1 (r_int ⟨_, .ref a1, .inr (SqT.of q1), at1, ra_nil ⟨a1, m.lev, rfl, SqT.of (by rw [levE]; exact q2), hm.lv, by omega, fun ql H6 s6 hq6 => ⟨ql, rfl, ⟨_, SqL.of hq6⟩, ?_⟩⟩⟩)))))))
  have hqne : hl ≠ ql := fun z => by
    have q := s6 _ _ hl5
    rw [z, hq6] at q
    have q' : strsV (rowsOf m.lev) = [] := by
      injection q with q
      injection q
    exact rows_ne hm.lv (by simpa [strsV] using q')
  have hrl : (rowsOf m.lev).length ≤ 4096 := Nat.le_trans (rows_len _ hm.lv) (Nat.le_trans (Nat.pow_le_pow_right (by decide) (show m.lev.length ≤ 6 by omega)) (by decide))
  refine rfor_it (walk_list (xs := strsV (rowsOf m.lev))) (fun i σ' H' => Rt K G k p j t1 t2 H' ∧ H' ql = some (.lst (strsV (rowsOf m.lev))) ∧ H' hl = some (.lst (strsV (((rowsOf m.lev).take i).filter (leakB m ds ol n)))) ∧ ∃ (v6 v7 : Option V), σ' = [some (.ref j), some (.ref s0), some (.ref k), some (.ref a), some (.ref b), v5, v6, v7, v8, some (.int n), some (.ref hl), none, none, none, none])
    ⟨r5.same s6, hq6, s6 _ _ hl5, _, _, rfl⟩ (fun i σ' H' _ z => SqL.of z.2.1) ?_ ?_
  · rintro i x σ' H7 H7' hi ⟨r7, hq7, hl7, v6, v7, rfl⟩ ⟨rfl, hx⟩
    obtain ⟨r, hr1, rfl⟩ := strsV_get hx
    have hlen : r.length = m.cols.length := by rw [rows_mem_len _ r (List.mem_of_getElem? hr1), hll]
    refine rg_name 6 sc_w_right.nd (rb_cons (rs_set 7 sc_w_right.nd (r_call (h_w_range e) hr (ra_cons (r_var 1 (ra_cons (r_var 4 (ra_cons (r_var 6 (ra_nil ⟨m, s0, b, true, ds, r, rfl, g.sh.ext r7.sG, hm, (g.cb.tp (tpS r7.sG)).at (by decide), hlen, fun t H8 s8 ht8 => ?_⟩))))))))))
    have r8 := r7.same s8
    have hq8 := s8 _ _ hq7
    have hl8 := s8 _ _ hl7
    have hP : leakB m ds ol n r = (decide (lawLow m ds r = lawTop m ds r) && (decide (1 ≤ lawLow m ds r) && decide (lawLow m ds r ≤ n))) := by
      unfold leakB
      rw [g.low, g.top]
    have no : leakB m ds ol n r = false → ((rowsOf m.lev).take (i + 1)).filter (leakB m ds ol n) = ((rowsOf m.lev).take i).filter (leakB m ds ol n) := fun h => by
      rw [filter_take hr1, h]
      simp
    have yes : leakB m ds ol n r = true → ((rowsOf m.lev).take (i + 1)).filter (leakB m ds ol n) = ((rowsOf m.lev).take i).filter (leakB m ds ol n) ++ [r] := fun h => by
      rw [filter_take hr1, h]
      simp
    refine rb_one (rs_if (rt_bool (rw_and (rt_eq hr.units (r_ix (r_var 7 (r_int ⟨_, .int (lawLow m ds r), .inr (SqT.of ht8), at0, r_ix (r_var 7 (r_int ⟨_, .int (lawTop m ds r), .inr (SqT.of ht8), at1, eq_ii ?_⟩))⟩)))))))
    refine b_d (fun h1 => ?_) (fun h1 => ?_)
    · refine rw_and1 (rt_chain oLe oLe (r_int (r_ix (r_var 7 (r_int ⟨_, .int (lawLow m ds r), .inr (SqT.of ht8), at0, ?_⟩)))))
      refine b_d (fun h2 => ?_) (fun h2 => ?_)
      · refine r_var 9 ?_
        refine b_d (fun h3 => ?_) (fun h3 => ?_)
        · have hy := yes (by rw [hP, decide_eq_true (V.int.inj h1), decide_eq_true h2, decide_eq_true h3]; rfl)
          refine rb_one (rs_expr (r_append (r_var 10 ⟨hl, rfl, ⟨_, hl8⟩, ra_cons (r_var 6 (ra_nil ⟨_, _, rfl, hl8, ?_, ?_⟩))⟩)))
          · refine Nat.lt_of_le_of_lt (show _ ≤ 4096 from ?_) (by decide)
            simp only [strsV, List.length_map]
            exact Nat.le_trans (List.length_filter_le _ _) (Nat.le_trans (List.length_take_le' _ _) hrl)
          · refine ⟨r8.ls hl8 hGl hlj (fun c u hc h => by rw [upd_ne hc]; exact h), by rw [upd_ne (Ne.symm hqne)]; exact hq8, ?_, _, _, rfl⟩
            rw [upd_same, hy]
            simp [strsV]
        · exact rb_nil ⟨r8, hq8, by rw [no (by rw [hP, decide_eq_false h3, Bool.and_false, Bool.and_false])]; exact hl8, _, _, rfl⟩
      · exact rb_nil ⟨r8, hq8, by rw [no (by rw [hP, decide_eq_false h2, Bool.false_and, Bool.and_false])]; exact hl8, _, _, rfl⟩
    · exact rb_nil ⟨r8, hq8, by rw [no (by rw [hP, decide_eq_false (fun z => h1 (by rw [z])), Bool.false_and])]; exact hl8, _, _, rfl⟩
  rintro σ' H7 ⟨r7, hq7, hl7, v6, v7, rfl⟩
  have hall : (strsV (rowsOf m.lev)).length = (rowsOf m.lev).length := by simp [strsV]
  rw [hall, List.take_length] at hl7
  change H7 hl = some (.lst (strsV (leakF m ds ol n))) at hl7
  have hBk : holdsB m ol (cfR cs ds) (sfR ss tt) (.kept "other" n) = (leakF m ds ol n).isEmpty := by
    show (leakF m (cfR cs ds "other") ol n).isEmpty = _
    rw [eO]
  have hDk : shownD m ol (cfR cs ds) (sfR ss tt) (.kept "other" n) = (match (leakF m ds ol n).head? with
    | none => .none
    | some r => .str (S r)) := by
    show (match (leakF m (cfR cs ds "other") ol n).head? with
    | none => _
    | some r => _) = _
    rw [eO]
  have hcode : ∀ l ∈ leakF m ds ol n, ∀ c ∈ l, c < 0x110000 := fun l hl' => rows_code m.lev (fun d hd => (hm.lv d hd).2) l (List.mem_filter.mp hl').1
  have hlens : ∀ l ∈ leakF m ds ol n, l.length ≤ 100 := fun l hl' => by rw [rows_mem_len _ l (List.mem_filter.mp hl').1]; omega
  refine rb_cons (rs_if (rt_not (rt_val (r_callG (h_w_claimed e B TB) hr hgu (ra_cons (r_var 2 (ra_cons (r_tup (ra_cons (r_str (ra_cons (r_str (ra_cons (r_var 9 (ra_nil ⟨by show 3 ≤ sizeLine; decide, fun tc htc => ra_cons (r_var 10 (ra_nil ?_))⟩)))))))))))))))
  have sc := same_new (o := .tup (Clm.kept "other" n).v) htc
  refine claimed_of (c := .kept "other" n) (hd := ((leakF m ds ol n).map S).map PyData.str) g (r7.same sc) upd_same ⟨nn1, nn2⟩ (fun x hx => .inr (by simpa [Clm.names] using hx)) (sc _ _ hl7) (DpAll.strs _) (by rw [List.map_map]; exact shapedL_str hcode) ?_ fun H9 r9 _ => ?_
  · rw [hBk, hDk]
    cases hL : leakF m ds ol n with
    | nil => exact .inl ⟨rfl, rfl⟩
    | cons l ls =>
      refine .inr ⟨rfl, okT_str (hcode l (by rw [hL]; exact List.mem_cons_self)) (hlens l (by rw [hL]; exact List.mem_cons_self)), (ls.map S).map PyData.str, rfl⟩
  refine b_no (b := !true) rfl ?_
  refine rb_nil ?_
  have hca9 := (g.ca.tp (tpS r9.sG)).at (show 7 ≤ 16 by decide)
  refine rb_cons (rs_asg (r_tup (ra_cons (r_call (h_w_sums e) hr (ra_cons (r_var 1 (ra_cons (r_var 3 (ra_nil ⟨m, s0, a, true, cs, rfl, g.sh.ext r9.sG, hm, hca9, fun A1 H10' vs1 ss1 s10 hA1 hsum1 hof1 => ra_cons (r_call (h_w_sums e) hr (ra_cons (r_var 1 (ra_cons (r_var 4 (ra_nil ⟨m, s0, b, true, ds, rfl, g.sh.ext (r9.same s10).sG, hm, (g.cb.tp (tpS (r9.same s10).sG)).at (by decide), fun A2 H11 vs2 ss2 s11 hA2 hsum2 hof2 => ra_nil ⟨by show 2 ≤ sizeLine; decide, fun T hT' => ?_⟩⟩))))))⟩)))))))))
  refine rg_tup ⟨T, _, rfl, SqT.of upd_same, rfl, rgs_cons (rg_name 11 sc_w_right.nd (rgs_cons (rg_name 12 sc_w_right.nd (rgs_nil ?_))))⟩
  have sT := same_new (o := .tup [.ref A1, .ref A2]) hT'
  obtain rfl := sumsOf_one hof1 g.s1
  obtain rfl := sumsOf_one hof2 g.s2
  have r11 := ((r9.same s10).same s11).same sT
  have hA1' := sT _ _ (s11 _ _ hA1)
  replace hA2 := sT _ _ hA2
  have hsum1' := hsum1.ext (s11.trans sT)
  replace hsum2 := hsum2.ext sT
  have ls1 : vs1.length = ss1.length := pd_len hsum1
  have ls2 : vs2.length = ss2.length := pd_len hsum2
  have lst : ss1.length = ss2.length := (pd_len hof1).trans (pd_len hof2).symm
  have l10 : ss1.length ≤ 10 := by rw [pd_len hof1]; exact hm.k10
  refine rb_cons (rs_lc 13 [("_law_k", 14)] sc_w_right.nd (blkOk_by (N := ["_law_jar_here", "_law_shape", "_law_desk", "_law_pairs", "_law_others", "_law_turn", "_law_row_here", "_law_told", "_law_bound", "_law_least", "_law_ranges_here", "_law_one_sums", "_law_two_sums", "_law_unlike_here", "_law_k"]) (sc := defScope s_w_right) (by decide +kernel)) (by rfl) (ri_range1 e.z_range (ra_cons (r_callB call_len_seq e.z_len boot_len (ra_cons (r_var 11 (ra_nil ⟨A1, vs1, rfl, .inr (SqT.of hA1'), ra_nil ⟨_, rfl, by omega, by omega, fun D hD => ?_⟩⟩)))))))
  rw [Int.toNat_natCast, ls1]
  refine lc_p 14 walk_range hD (fun _ _ => trivial) (fun i H x H' y => by rw [y.1]; exact Same.refl _) (fun i => !decide (ss1.getD i [] = ss2.getD i [])) (fun i => .int (i : Nat)) (Nat.lt_of_le_of_lt l10 (by decide)) (fun i v' H12 H13 hi s12 y => ?_) (fun H12 s12 hd => ?_) sc_w_right.nd
  · obtain ⟨rfl, hv'⟩ := y
    replace hv' : v' = V.int (0 + (i : Int)) := hv'
    rw [Int.zero_add] at hv'
    subst hv'
    have h1 : vs1[i]? = some vs1[i] := List.getElem?_eq_getElem (by omega)
    have h2 : vs2[i]? = some vs2[i] := List.getElem?_eq_getElem (by omega)
    obtain ⟨ps, hps, t3, us3, e3, hu3, htu3⟩ := pd_get (hsum1'.ext s12) h1
    obtain ⟨qs, hqs, t4, us4, e4, hu4, htu4⟩ := pd_get (hsum2.ext s12) h2
    have ep : ss1.getD i [] = ps := by rw [List.getD_eq_getElem?_getD, hps]; rfl
    have eq : ss2.getD i [] = qs := by rw [List.getD_eq_getElem?_getD, hqs]; rfl
    rw [e3] at h1
    rw [e4] at h2
    rw [ep, eq]
    intro s0' H0' C' cl fp
    refine rts_one (rt_ne hr.units (r_ix (r_var 11 (r_var 14 ⟨vs1, .ref t3, .inr (SqT.of (s12 _ _ hA1')), atI_nat h1, r_ix (r_var 12 (r_var 14 ⟨vs2, .ref t4, .inr (SqT.of (s12 _ _ hA2)), atI_nat h2, ?_⟩))⟩))))
    refine ⟨cntD ps, cntD qs, dp_cnt hu3 htu3, dp_cnt hu4 htu4, shaped_cnt (sumsOf_code hm g.t1.ok.row hof1 hps), shaped_cnt (sumsOf_code hm g.t2.ok.row hof2 hqs), ?_⟩
    rw [eqv_cnt]
    cases decide (ps = qs) with
    | true => exact ⟨rfl, Same.refl _⟩
    | false =>
      refine ⟨rfl, iteT ?_⟩
      intro s0' H0' C' cl fp
      exact r_var 14 ⟨Same.refl _, rfl⟩
  change H12 D = some (.lst ((unl ss1 ss2).map fun i => V.int (i : Nat))) at hd
  have r12 := r11.same s12
  have e1 : sfR ss1 ss2 "mine" = ss1 := if_pos rfl
  have e2 : sfR ss1 ss2 "other" = ss2 := if_neg (by decide +kernel)
  have hBa : holdsB m ol (cfR cs ds) (sfR ss1 ss2) (.alike "mine" "other") = (unl ss1 ss2).isEmpty := by
    show (unl (sfR ss1 ss2 "mine") (sfR ss1 ss2 "other")).isEmpty = _
    rw [e1, e2]
  have hDa : shownD m ol (cfR cs ds) (sfR ss1 ss2) (.alike "mine" "other") = (match (unl ss1 ss2).head? with
    | none => .none
    | some i => .int (i : Nat)) := by
    show (match (unl (sfR ss1 ss2 "mine") (sfR ss1 ss2 "other")).head? with
    | none => _
    | some i => _) = _
    rw [e1, e2]
  have hBo : holdsB m ol (cfR cs ds) (sfR ss1 ss2) (.alike "other" "other") = true := by
    show (unl (sfR ss1 ss2 "other") (sfR ss1 ss2 "other")).isEmpty = _
    rw [unl_self]
    rfl
  refine rb_one (rs_ret (r_and (r_callG (h_w_claimed e B TB) hr hgu (ra_cons (r_var 2 (ra_cons (r_tup (ra_cons (r_str (ra_cons (r_str (ra_cons (r_str (ra_nil ⟨by show 3 ≤ sizeLine; decide, fun tc' htc' => ra_cons (r_var 13 (ra_nil ?_))⟩))))))))))))))
  have sc2 := same_new (o := .tup (Clm.alike "mine" "other").v) htc'
  have hdp : ∀ {H : Hy} (l : List Nat), DpAll K H (l.map fun i => V.int (i : Nat)) (l.map fun i => PyData.int (i : Nat)) := by
    intro H l
    induction l with
    | nil => exact .nil
    | cons x xs ih => exact .cons (.int _) ih
  refine claimed_of (c := .alike "mine" "other") (hd := (unl ss1 ss2).map fun i => PyData.int (i : Nat)) g (r12.same sc2) upd_same trivial (fun x hx => by simpa [Clm.names] using hx) (sc2 _ _ hd) (hdp _) (shapedL_int _) ?_ fun H13 r13 _ => ?_
  · rw [hBa, hDa]
    cases hL : unl ss1 ss2 with
    | nil => exact .inl ⟨rfl, rfl⟩
    | cons i is =>
      refine .inr ⟨rfl, okT_int (by omega) ?_, is.map fun i => PyData.int (i : Nat), rfl⟩
      have hm' : i ∈ unl ss1 ss2 := by rw [hL]; exact List.mem_cons_self
      have hr' := List.mem_range.mp (List.mem_filter.mp hm').1
      have : i < 10 := by omega
      have q40 : (10 : Int) ≤ 10 ^ 40 := by decide
      omega
  refine b_yes (b := true) rfl ?_
  refine r_one (r_callG (h_w_claimed e B TB) hr hgu (ra_cons (r_var 2 (ra_cons (r_tup (ra_cons (r_str (ra_cons (r_str (ra_cons (r_str (ra_nil ⟨by show 3 ≤ sizeLine; decide, fun tc2 htc2 => ra_cons (r_lst (ra_nil ⟨Nat.zero_le _, fun hl2 hhl2 => ra_nil ?_⟩))⟩))))))))))))
  have s14 := (same_new (o := .tup (Clm.alike "other" "other").v) htc2).trans (same_new (o := .lst []) hhl2)
  exact claimed_of (c := .alike "other" "other") g (r13.same s14) (same_new hhl2 _ _ upd_same) trivial (fun x hx => .inr (by simpa [Clm.names] using hx)) upd_same .nil shaped_nil (.inl ⟨hBo, rfl⟩) fun H15 r15 _ => q10 H15 r15
end
end My

set_option Elab.async false
set_option pp.maxSteps 1500
set_option linter.all false
set_option maxRecDepth 100000
set_option maxHeartbeats 4000000
/-! Z2: law -/
namespace My
open PySem PySem.Spec PyProof.Rows L2 TL
/-- the script's list: nobody writes at it -/
def CelAt (K : PySem.W.Frag) (H : Hy) (c : Addr) (xs : List V) : Prop := (∃ o, H c = some (.frz o (.lst xs))) ∨ ∃ (o : Obj) (its : Array Value) (n : Nat), K.lookup c = some o ∧ o.cls = .type "list" ∧ o.dict = none ∧ o.data = .seq its n ∧ its.size ≤ sizeLine ∧ Vals xs its.toList
theorem CelAt.sql {K : PySem.W.Frag} {H : Hy} {c : Addr} {xs : List V} (h : CelAt K H c xs) : SqL K H c xs := h.elim (fun h => .inl (.inr h)) .inr
theorem CelAt.j {K : PySem.W.Frag} {H H' : Hy} {c j : Addr} {xs ys : List V} (h : CelAt K H c xs) (hj : H j = some (.lst ys)) (x : ∀ b o, b ≠ j → H b = some o → (∀ ps, o ≠ .tbl ps) → H' b = some o) : CelAt K H' c xs := h.elim (fun ⟨o, h⟩ => .inl ⟨o, x c _ (fun z => by
  rw [z, hj] at h
  cases h) h fun _ z => by cases z⟩) .inr
theorem CelAt.ext {K : PySem.W.Frag} {H H' : Hy} {c : Addr} {xs : List V} (h : CelAt K H c xs) (s : Same H H') : CelAt K H' c xs := h.elim (fun ⟨o, h⟩ => .inl ⟨o, s _ _ h⟩) .inr
theorem CelAt.l {K : PySem.W.Frag} {H : Hy} {c D : Addr} {xs ys : List V} {o : HO} (h : CelAt K H c xs) (hD : H D = some (.lst ys)) : CelAt K (upd H D o) c xs := h.elim (fun ⟨o', h⟩ => .inl ⟨o', by rw [upd_ne (fun z => by rw [z, hD] at h; cases h)]; exact h⟩) .inr
def sp_law (K : PySem.W.Frag) : Sp := fun vs H Q _ => ∃ (c : Addr) (ns : List Int), vs = [.ref c] ∧ CelAt K H c (ns.map V.int) ∧ ns.length < 2 ^ 62 ∧ LamX.Tabs (tabT K) H ∧ ∀ H', Q (.bl true) H'
section
variable {P : Program} {w : World} {K : PySem.W.Frag} {mg : Str → Option Value} {base : Heap}
theorem sc_law : FnScope ["_law_cells", "_law_at"] ["_law_cells"] (defScope s_law) := ⟨rfl, rfl, rfl, by decide +kernel, rfl, by decide +kernel, by decide +kernel⟩
theorem h_law (e : EV w K mg base) (B : ExF K) (TB : LamX.TabB base mg (He.cT K d_w_claimed.at_).1 (He.cT K d_w_claimed.at_).2) {fd : FuncData} (F : FD K d_law fd) : FnG P w K mg base 15 (He.fAd K d_law.at_) fd ["_law_cells"] (sp_law K) := by
  refine mk_fnG (d := d_law) F sc_law (fun vs H Q E h => by obtain ⟨_, _, rfl, _⟩ := h; rfl) (fun cdv A outer s H vs Q E hr hg hcd h => ?_)
  obtain ⟨c, ns, rfl, hc, hn, hT, k⟩ := h
  have hgu : (cxOf CX0 P w K mg base ["_law_cells", "_law_at"] d_law.qual d_law.scope (He.fAd K d_law.at_) cdv A outer s H E).nox.A.guards = some [] := hg
  refine rb_one (rs_ret (r_callB (cr_all rfl) e.z_all (by decide +kernel) (ra_cons (r_lc [("_law_at", 1)] sc_law.nd (blkOk_by (N := ["_law_cells", "_law_at"]) (sc := defScope s_law) (by decide +kernel)) (ri_range1 e.z_range (ra_cons (r_callB (call_max2 rfl) e.z_max (by decide +kernel) (ra_cons (r_int (ra_cons (r_callB (call_min2 rfl) e.z_min (by decide +kernel) (ra_cons (r_callB call_len_seq e.z_len boot_len (ra_cons (r_var 0 (ra_nil ⟨c, _, rfl, .inl hc.sql, ra_cons (r_int (ra_nil ⟨_, _, rfl, ra_nil ⟨_, _, rfl, ra_nil ⟨_, rfl, ?_, ?_, fun D hD => ?_⟩⟩⟩))⟩))))))))))))))))
  · split <;> split <;> omega
  · split <;> split <;> omega
  obtain ⟨n, en, n2, n4⟩ : ∃ n : Nat, (if (if (4 : Int) < ((ns.map V.int).length : Int) then 4 else ((ns.map V.int).length : Int)) > 2 then (if (4 : Int) < ((ns.map V.int).length : Int) then 4 else ((ns.map V.int).length : Int)) else 2) = (n : Int) ∧ 2 ≤ n ∧ n ≤ 4 := by
    refine ⟨(if (if (4 : Int) < ((ns.map V.int).length : Int) then 4 else ((ns.map V.int).length : Int)) > 2 then (if (4 : Int) < ((ns.map V.int).length : Int) then 4 else ((ns.map V.int).length : Int)) else 2).toNat, ?_, ?_, ?_⟩ <;> split <;> split <;> omega
  rw [en, Int.toNat_natCast]
  have sD := fun o => same_new (o := o) hD
  refine ⟨fun i m H => m = n - i ∧ i ≤ n ∧ H D = some (.lst ((List.replicate i true).map V.bl)) ∧ CelAt K H c (ns.map V.int) ∧ LamX.Tabs (tabT K) H, ⟨n, rfl, Nat.zero_le _, upd_same, hc.ext (sD _), tabs_same hT (sD _)⟩, ?_⟩
  rintro i m0 H1 ⟨rfl, hi, hd, hc1, hT1⟩
  by_cases hlt : i < n
  · refine .inr ⟨hlt, fun H' => H' D = some (.lst ((List.replicate (i + 1) true).map V.bl)) ∧ CelAt K H' c (ns.map V.int) ∧ LamX.Tabs (tabT K) H', fun H' q => ⟨n - (i + 1), by omega, rfl, hlt, q⟩, fun x H1' y => ?_⟩
    obtain ⟨rfl, hx⟩ := y
    replace hx : x = V.int (0 + (i : Int)) := hx
    rw [Int.zero_add] at hx
    subst hx
    intro s0 H0 C cl fp
    refine rg_name 1 sc_law.nd ⟨by simp [wipe], ?_⟩
    intro s0 H0 C cl fp
    refine rts_nil (iteT ?_)
    intro s0 H0 C cl fp
    refine r_callG (h_w_right e B TB) hr hgu (ra_cons (r_call (h_w_jar e) hr (ra_cons (r_var 0 (ra_cons (r_var 1 (ra_nil ⟨c, (i : Int), ns, rfl, hc1.sql, by omega, by omega, hn, fun j H2 s2 hj2 => ra_nil ⟨j, rfl, hj2, tabs_same hT1 s2, fun H3 t3 x3 => ?_⟩⟩)))))))
    obtain ⟨x1, x2, x3', hjl⟩ := id hj2
    have hDj : D ≠ j := fun z => by
      have q := s2 _ _ hd
      rw [z, hjl] at q
      injection q with q
      injection q with q
      cases i with
      | zero => cases q
      | succ i =>
        rw [List.replicate_succ] at q
        cases q
    have hd3 := x3 D _ hDj (s2 _ _ hd) fun _ z => by cases z
    have hc3 := (hc1.ext s2).j hjl x3
    refine ⟨_, hd3, ?_, ?_, hc3.l hd3, ?_⟩
    · rw [List.length_map, List.length_replicate]
      exact Nat.lt_of_le_of_lt (show i ≤ 4 by omega) (by decide)
    · rw [upd_same, List.replicate_succ', List.map_append]
      rfl
    · exact tabs_l t3 hd3 fun b o hb h => by rw [upd_ne hb]; exact h
  · have ei : i = n := by omega
    subst ei
    refine .inl ⟨Nat.le_refl _, ra_nil ⟨D, List.replicate i true, rfl, SqL.of hd, ?_⟩⟩
    rw [show (List.replicate i true).all id = true by simp]
    exact k _
end
end My

set_option Elab.async false
set_option pp.maxSteps 1500
set_option linter.all false
set_option maxRecDepth 100000
set_option maxHeartbeats 4000000
/-! Z3: what the head is to tell of Broken and of the property -/
namespace My
open PySem PySem.Spec PyProof.Rows L2
theorem exB_ok {K : PySem.W.Frag} (h : exB K = true) (hc : ∃ fd, FunD K "claims" "Desk.claims" (defArgs s_Desk_claims) (defBody s_Desk_claims) (defScope s_Desk_claims) [] [] (gC K) fd) : ExF K := by
  obtain ⟨h1, h⟩ := Bool.and_eq_true_iff.mp h
  obtain ⟨h2, h⟩ := Bool.and_eq_true_iff.mp h
  obtain ⟨h3, h⟩ := Bool.and_eq_true_iff.mp h
  obtain ⟨h4, h5⟩ := Bool.and_eq_true_iff.mp h
  simp only [exB1, Bool.and_eq_true, decide_eq_true_eq] at h1
  simp only [exB2, Bool.and_eq_true, decide_eq_true_eq] at h2
  simp only [exB3, Bool.and_eq_true, decide_eq_true_eq] at h3
  simp only [exB4, Bool.and_eq_true, decide_eq_true_eq, List.all_eq_true] at h4
  obtain ⟨a1, a2, a3, a4, a5, a6, a7⟩ := h1
  obtain ⟨b1, b2, b3, b4, b5, b6⟩ := h2
  obtain ⟨c1, c2, c3, c4, c5⟩ := h3
  have X := xfB_ok c1
  refine ⟨⟨⟨⟨a1, a2, a3, a4, a5, a6, a7⟩, b1, b2, b3, b4, b5, b6⟩, ⟨X.ga, X.gg, X.exC, X.hdC, c2, c3, c4, c5⟩, X, fun n b hb => h4.1 (n, b) hb, fun n b hb => h4.2.1 (n, b) hb, h4.2.2⟩, ?_, hc⟩
  unfold exB5 at h5
  split at h5
  · rename_i p hp
    simp only [Bool.and_eq_true, decide_eq_true_eq] at h5
    obtain ⟨d1, d2, d3⟩ := h5
    split at d3
    · rename_i g rest hr
      have eg : gC K = g := by
        unfold gC
        rw [hp]
        show (match PySem.W.recIn K p "property" with
          | some (.ref g :: _) => g
          | _ => 0) = g
        rw [hr]
      rw [eg]
      exact ⟨p, hp, d1, d2, rest, hr⟩
    · cases d3
  · cases h5
end My
set_option Elab.async false
set_option pp.maxSteps 1500
set_option linter.all false
set_option maxRecDepth 100000
set_option maxHeartbeats 4000000
/-! Z4: the law called from nowhere: no guard stands -/
namespace My
open PySem PySem.Spec PyProof.Rows L2
/-- the heap at the law's entry: its list, its table -/
def H0 (K : PySem.W.Frag) (a T : Addr) (vs : List Value) (ns : List Int) : Hy := fun b => if b = T then some (.tbl #[]) else if b = a then (match K.lookup a with
  | some _ => none
  | none => some (.frz { cls := .type "list", data := .seq vs.toArray } (.lst (ns.map V.int)))) else none
section
variable {K : PySem.W.Frag} {a T : Addr} {vs : List Value} {ns : List Int}
theorem H0_T : H0 K a T vs ns T = some (.tbl #[]) := if_pos rfl
theorem H0_in {b : Addr} {u : HO} (h : H0 K a T vs ns b = some u) : (b = T ∧ u = .tbl #[]) ∨ (b ≠ T ∧ b = a ∧ K.lookup a = none ∧ u = .frz { cls := .type "list", data := .seq vs.toArray } (.lst (ns.map V.int))) := by
  unfold H0 at h
  by_cases h1 : b = T
  · rw [if_pos h1] at h
    exact .inl ⟨h1, (Option.some.inj h).symm⟩
  · rw [if_neg h1] at h
    by_cases h2 : b = a
    · rw [if_pos h2] at h
      cases q : K.lookup a with
      | some o =>
        rw [q] at h
        cases h
      | none =>
        rw [q] at h
        exact .inr ⟨h1, h2, rfl, (Option.some.inj h).symm⟩
    · rw [if_neg h2] at h
      cases h
theorem H0_no {b : Addr} (h1 : b ≠ T) (h2 : b ≠ a) : H0 K a T vs ns b = none := (if_neg h1).trans (if_neg h2)
end
theorem law_callG {P : Program} {w : World} {K : PySem.W.Frag} {mg mb : Str → Option Value} {k : Nat} {fa a c T : Addr} {fd : FuncData} {x : Str} {sp : Sp} {s₁ : Shared} {vs : List Value} {ns : List Int} (KX : K.In s₁.heap) (gl : s₁.heap.Ns mainGlobals mg) (bl : s₁.heap.Ns builtinsNs mb) (bb : ∀ x : Str, x ≠ "__name__" → mb x = bootBuiltins x)
    (lim : s₁.heap.NoLimit) (hg : s₁.gens = #[]) (hT : s₁.heap.get? T = some { cls := .none, data := .fields #[] }) (nT : K.lookup T = none) (C : PySem.W.CodeHd s₁.heap c T)
    (hbm : ∃ (bm : Addr) (ob : Obj), mg "__builtins__" = some (.ref bm) ∧ bm ≠ builtinsNs ∧ s₁.heap.get? bm = some ob ∧ ob.cls = .type "module" ∧ ob.dict = some builtinsNs ∧ ob.data = .plain)
    (ha : s₁.heap.get? a = some { cls := .type "list", data := .seq vs.toArray }) (hi : IntsAre vs ns) (hl : ns.length ≤ sizeLine) (hr : Room k callerA) (F : ∀ base : Heap, K.In base → base.Ns mainGlobals mg → LamX.TabB base mg c T → FnG P w K mg base k fa fd [x] sp) (hbind : ∀ (s : Shared) (u : Value), BindsTo s fd ⟨[u], []⟩ [(x, u)])
    (hsp : ∀ H : Hy, H T = some (.tbl #[]) → CelAt K H a (ns.map V.int) → sp [.ref a] H (fun v _ => v = .bl true) E0) :
    codeAny (model P w) callerA (.call (.ref fa) ⟨[.ref a], []⟩) (fun r s' => r = .ok (.ret (.bool true)) ∧ OldK s₁.heap s'.heap ∧ s'.os = s₁.os ∧ AllBare s'.gens) s₁ := by
  have rv := vals_ints hi
  have lenV := hi.length
  have aT : a ≠ T := fun z => by
    rw [z, hT] at ha
    have q : Data.fields #[] = Data.seq vs.toArray _ := congrArg Obj.data (Option.some.inj ha)
    cases q
  -- what stands in the heap and is neither the list nor the table is not tracked
  have off : ∀ {b : Addr} {o : Obj}, s₁.heap.get? b = some o → (∀ vs n, o.data ≠ .seq vs n) → o.data ≠ .fields #[] → H0 K a T vs ns b = none := fun {b o} e h1 h2 => by
    refine H0_no (fun z => ?_) fun z => ?_
    · rw [z, hT] at e
      exact h2 (congrArg Obj.data (Option.some.inj e)).symm
    · rw [z, ha] at e
      exact h1 _ _ (congrArg Obj.data (Option.some.inj e)).symm
  have offD : ∀ {b : Addr} {o : Obj} {es : Array DictEntry} {ep : Nat}, s₁.heap.get? b = some o → o.data = .dict es ep → H0 K a T vs ns b = none := fun {b o es ep} e d => off e (fun vs n z => by
    rw [d] at z
    cases z) fun z => by
    rw [d] at z
    cases z
  have ns' : ∀ {b : Addr} {m : Str → Option Value}, s₁.heap.Ns b m → (hidT s₁.heap (H0 K a T vs ns)).Ns b m := fun {b m} ⟨o, es, ep, e, d, r⟩ => ⟨o, es, ep, hidT_get e (offD e d), d, r⟩
  have Kb : K.In (hidT s₁.heap (H0 K a T vs ns)) := fun b o e => hidT_get (KX b o e) (by
    cases q : H0 K a T vs ns b with
    | none => rfl
    | some u =>
      rcases H0_in q with ⟨z, _⟩ | ⟨_, z, n, _⟩
      · rw [z, nT] at e
        cases e
      · rw [z, n] at e
        cases e)
  have M : L2.Mod K mg (hidT s₁.heap (H0 K a T vs ns)) := ⟨Kb, ns' gl, ⟨mb, ns' bl, bb⟩, let ⟨mc, h1, h2⟩ := lim; ⟨mc, ns' h1, h2⟩⟩
  have TB : LamX.TabB (hidT s₁.heap (H0 K a T vs ns)) mg c T := by
    refine ⟨?_, ?_, fun z => ?_⟩
    · obtain ⟨o, us, file, tf, flags, tg, inF, text, tt, e1, r1, r2, r3, r4, r5, r6, r7, r8, hne⟩ := C
      refine ⟨o, us, file, tf, flags, tg, inF, text, tt, hidT_get e1 (off e1 (fun vs n z => ?_) fun z => ?_), r1, r2, r3, r4, r5, r6, r7, r8, hne⟩
      · rw [r2] at z
        cases z
      · rw [r2] at z
        cases z
        simp at r3
    · obtain ⟨bm, ob, b1, b2, b3, b4, b5, b6⟩ := hbm
      have nG : bm ≠ mainGlobals := fun q => by
        obtain ⟨o, es, ep, e, hd, _⟩ := gl
        rw [q, e] at b3
        cases b3
        rw [hd] at b6
        cases b6
      have nP : bm ≠ T := fun q => by
        rw [q, hT] at b3
        cases b3
        cases b6
      refine ⟨bm, ob, b1, b2, nG, nP, hidT_get b3 (off b3 (fun vs n z => ?_) fun z => ?_), b4, b5, b6⟩ <;> rw [b6] at z <;> cases z
    · obtain ⟨o, es, ep, e, hd, _⟩ := gl
      rw [z, hT] at e
      cases e
      cases hd
  have ok : HOk P w (H0 K a T vs ns) s₁.heap := fun b u q => by
    rcases H0_in q with ⟨rfl, rfl⟩ | ⟨_, rfl, _, rfl⟩
    · exact hT
    · exact ⟨ha, by rw [List.length_map]; exact hl, vs, _, rv, ha⟩
  have cel : CelAt K (H0 K a T vs ns) a (ns.map V.int) := by
    cases q : K.lookup a with
    | some o =>
      have e := (KX a o q).symm.trans ha
      cases e
      exact .inr ⟨_, vs.toArray, _, q, rfl, rfl, rfl, by rw [List.size_toArray, lenV]; exact hl, by simpa using rv⟩
    | none => exact .inl ⟨_, by unfold H0; rw [if_neg aT, if_pos rfl, q]⟩
  have e0 : Env0 P w K mg (hidT s₁.heap (H0 K a T vs ns)) callerA [] s₁ (H0 K a T vs ns) := ⟨rfl, M, fun b o e => of_hidT e, Nat.le_of_eq (hidT_size _ _), trivial, fun b hb => absurd (show b ∈ ([] : List Addr) from hb) (by simp), ok, .of_eq hg⟩
  refine codeAny_mono ((F _ Kb (ns' gl) TB).run callerA [] s₁ (H0 K a T vs ns) ⟨[.ref a], []⟩ [.ref a] [.ref a] _ _ hr rfl e0 (hbind s₁ (.ref a)) (.cons rfl .nil) (hsp _ H0_T cel)) fun r s' h => ?_
  cases r with
  | error e => exact (show False from h).elim
  | ok fl =>
    cases fl with
    | next => exact False.elim h
    | brk => exact False.elim h
    | cont => exact False.elim h
    | ret u =>
      obtain ⟨v, H', os, bare, un, hok', r', q⟩ := h
      obtain rfl : v = .bl true := q
      obtain rfl : u = Value.bool true := r'
      have stay : ∀ b o, b ≠ T → s₁.heap.get? b = some o → s'.heap.get? b = some o := fun b o nb e => by
        cases q : H0 K a T vs ns b with
        | none => exact un.keep b o e q (by intro z; exact absurd (show b ∈ ([] : List Addr) from z) (by simp)) (by simp)
        | some u =>
          rcases H0_in q with ⟨z, _⟩ | ⟨_, z, _, rfl⟩
          · exact absurd z nb
          · obtain ⟨e1, _⟩ := ok b _ q
            obtain ⟨e2, _⟩ := hok' b _ (un.frzs b _ _ q)
            rw [e] at e1
            cases e1
            exact e2
      obtain ⟨more, grown⟩ : ∃ more : Array Value, s'.heap.get? T = some { cls := .none, data := .fields more } := by
        obtain ⟨more, z⟩ := un.tbls T #[] H0_T
        exact ⟨_, hok' T _ z⟩
      refine ⟨rfl, ⟨fun b o e => ?_, fun b o e => ?_⟩, os, bare⟩
      · by_cases hb : b = T
        · rw [hb, hT] at e
          cases e
          rw [hb]
          exact .inr (.inl ⟨(C.tab hT).isCodeTable, rfl, #[], more, rfl, by rw [Array.empty_append]; exact grown⟩)
        · exact .inl (stay b o hb e)
      · by_cases hb : b = T
        · rw [hb]
          exact ⟨_, grown⟩
        · exact ⟨o, stay b o hb e⟩
end My
set_option Elab.async false
set_option linter.all false
set_option maxRecDepth 100000
set_option maxHeartbeats 0
/-! Z6: the end -/
namespace My
open PySem PySem.W PySem.Calls PyProof.Rows
theorem walk_end : WalkO qv nms (XL qv []) hk.says Rw.toRowW (HandSHeadRun.topDef Rw.prog 145) [] (fun f vs => PySem.call f vs) := by
  refine Att.attach_callB (l := PySem.Challenge.rw_fourswaps_k66_whole_known_claims) (n := 63) rfl (by kernel_rfl) fun w s₀ s₁ mg mb fa o pm cd doc a vs ns G Y ho hd hcd hmg0 hobj hints hlen hbits hg => ?_
  obtain ⟨K, KX, c, fdc⟩ := Y
  have hmg : mg ("law" : PySem.Str) = some (.ref fa) := by
    have e : (HandSHeadRun.topDef Rw.prog 145).name = ("law" : PySem.Str) := by kernel_rfl
    rw [← e]
    exact hmg0
  obtain ⟨x1, x2⟩ := Bool.and_eq_true_iff.mp c.more
  have B := exB_ok x2 fdc
  obtain ⟨fd, F⟩ := (⟨KX, G.T.g, c.t, x1⟩ : EV w K mg s₁.heap).f_law
  have ef := hmg.symm.trans (He.glo_ok KX G.T.g (c.t.d.fact 60 (f := .glo "law") rfl))
  cases ef
  have mt : (("_law_claimed", none) : He.Defn) ∈ tf := List.mem_singleton.mpr rfl
  have hb := L2.FunD.bindsA (ps := ["_law_cells"]) F fun _ _ _ _ _ _ us hl => match us, hl with | [_], _ => rfl
  exact law_callG (P := (PySem.Challenge.rw_fourswaps_k66_whole_known_claims).prog) (k := 15) (x := "_law_cells") KX G.T.g G.T.b G.T.builtins G.T.nolimit hg (c.empty _ mt) (c.out _ mt) (codeHd_of_K KX (c.hd _ mt)) G.T.bmain hobj hints (Nat.le_trans hlen (by decide)) ⟨rfl, by decide, by decide⟩
    (fun base k1 k2 tb => h_law ⟨k1, k2, c.t, x1⟩ B tb F) (fun s v => hb s [v] rfl) fun H hH hC => ⟨a, ns, rfl, hC, Nat.lt_of_le_of_lt hlen (by decide), fun p hp => by rw [List.mem_singleton.mp hp]; exact LamX.TabS.nil hH, fun _ => rfl⟩
theorem end_of (run : ∀ w : World, HandSHeadRun.RunEq Rw qv hk ob 14000 nms w) : PySem.Challenge.rw_fourswaps_k66_whole_known_claims.Holds := by
  w_on; o_law
  refine HandSHeadRun.head_any (r := Rw) (q := qv) (H := hk) (ob := ob) (M := 14000) (loose := nms) (d := HandSHeadRun.topDef Rw.prog 145) (kwd := []) ob_eq (by kernel_rfl) (fun s => by kernel_rfl) run (by kernel_rfl) (by kernel_rfl) (by kernel_rfl) (by rfl) (by first | assumption | decide +kernel) (by decide +kernel) ⟨rfl, rfl, rfl, rfl, rfl, by decide +kernel⟩ ?hw ?hc
  case hw => w_witness2
  case hc => exact walk_end
end My
theorem PySem.Challenge.cw_fourswaps_k66_whole_known_claims_holds : PySem.Challenge.rw_fourswaps_k66_whole_known_claims.Holds := by
  exact My.end_of My.run_top
