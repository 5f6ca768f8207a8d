import PyProof.Rows.All
import Wide.All
import OpenK.AllK
import Wide.FinOn
import HandS.ForExc
import HandS.ForMost
import HandS.Wide
import HandS.IsInst
import HandS.TupAny
import HandS.Flow
import HandS.Codes
import HandS.Zip
import HandS.TupLe
import PySem.Challenge.RW_surenear_k28_training
set_option Elab.async false
set_option linter.all false
set_option maxRecDepth 100000
set_option maxHeartbeats 4000000
set_option exponentiation.threshold 100000
namespace Z
open PySem PySem.Spec L2
open C8 (tCut pss_cut)
/-! Z: one rule a construct, whatever the kinds of its values; and the steps of a reading. -/

/-! ### operators by the kinds of their values -/
def MulOk (i j : Int) : Prop := CMul i j ∨ CMulW i j
def uAdd (K : PySem.W.Frag) : R2 := fun x y H Q => match x, y with
  | .int i, .int j => Q (.int (i + j)) H
  | .str a, .str b => a.length + b.length ≤ sizeLine ∧ Q (.str (a ++ b)) H
  | .ref l, .ref b => rCat (.ref l) (.ref b) H Q ∨ rCatA K (.ref l) (.ref b) H Q
  | _, _ => False
def uSub : R2 := fun x y H Q => match x, y with
  | .int i, .int j => Q (.int (i - j)) H
  | _, _ => False
def uMul : R2 := fun x y H Q => match x, y with
  | .int i, .int j => MulOk i j ∧ Q (.int (i * j)) H
  | _, _ => False
def uDiv : R2 := fun x y H Q => match x, y with
  | .int i, .int j => CDivW i j ∧ Q (.int (i / j)) H
  | _, _ => False
def uMod : R2 := fun x y H Q => match x, y with
  | .int i, .int j => 0 < j ∧ Q (.int (i % j)) H
  | _, _ => False
def uPow : R2 := fun x y H Q => match x, y with
  | .int i, .int j => CPow i j ∧ Q (.int (i ^ j.toNat)) H
  | _, _ => False
def uNeg : V → Hp → VK → Prop := fun x H Q => match x with
  | .int i => Q (.int (-i)) H
  | _ => False
def uLt (K : PySem.W.Frag) : R2 := fun x y H Q => match x, y with
  | .int i, .int j => Q (.bl (decide (i < j))) H
  | .str i, .str j => Q (.bl (decide (i.cps.toList < j.cps.toList))) H
  | .ref a, .ref b => rLtT K (.ref a) (.ref b) H Q
  | _, _ => False
def uLe : R2 := fun x y H Q => match x, y with
  | .int i, .int j => Q (.bl (decide (i ≤ j))) H
  | .str i, .str j => Q (.bl (!decide (j.cps.toList < i.cps.toList))) H
  | _, _ => False
def uGt : R2 := fun x y H Q => match x, y with
  | .int i, .int j => Q (.bl (decide (j < i))) H
  | .str i, .str j => Q (.bl (decide (j.cps.toList < i.cps.toList))) H
  | _, _ => False
def uGe : R2 := fun x y H Q => match x, y with
  | .int i, .int j => Q (.bl (decide (j ≤ i))) H
  | .str i, .str j => Q (.bl (!decide (i.cps.toList < j.cps.toList))) H
  | _, _ => False
def uEq (K : PySem.W.Frag) : R2 := fun x y H Q => match x, y with
  | .int i, .int j => Q (.bl (decide (i = j))) H
  | .str i, .str j => Q (.bl (decide (i = j))) H
  | .bl i, .bl j => Q (.bl (decide (i = j))) H
  | .non, .non => Q (.bl true) H
  | .ref a, .ref b => rEqD K (.ref a) (.ref b) H Q
  | x, y => (scal x y = true ∧ Q (.bl (decide (x = y))) H) ∨ rEqD K x y H Q
def uNe (K : PySem.W.Frag) : R2 := fun x y H Q => match x, y with
  | .int i, .int j => Q (.bl (!decide (i = j))) H
  | .str i, .str j => Q (.bl (!decide (i = j))) H
  | .bl i, .bl j => Q (.bl (!decide (i = j))) H
  | .non, .non => Q (.bl false) H
  | .ref a, .ref b => rNeD K (.ref a) (.ref b) H Q
  | x, y => (scal x y = true ∧ Q (.bl (!decide (x = y))) H) ∨ rNeD K x y H Q
def uIs : R2 := fun x y H Q => match x, y with
  | x, .non => Q (.bl (decide (x = .non))) H
  | .bl a, .bl b => Q (.bl (decide (a = b))) H
  | _, _ => False
def uIsNot : R2 := fun x y H Q => match x, y with
  | x, .non => Q (.bl (!decide (x = .non))) H
  | .bl a, .bl b => Q (.bl (!decide (a = b))) H
  | _, _ => False
def uIn (K : PySem.W.Frag) : R2 := fun x y H Q => match x, y with
  | .str i, .str j => Q (.bl (!(Builtin.Str.occurrences j i 0 j.length 1).isEmpty)) H
  | x, y => rIn K false x y H Q
def uNotIn (K : PySem.W.Frag) : R2 := fun x y H Q => match x, y with
  | .str i, .str j => Q (.bl (!(!(Builtin.Str.occurrences j i 0 j.length 1).isEmpty))) H
  | x, y => rIn K true x y H Q

section
variable {X : Cx}
theorem op_uAdd : OpR X (binaryOp .Add) (uAdd X.K) := by
  intro pins s σ H x y v u Q I rx ry h
  cases x <;> cases y <;> first | exact h.elim | skip
  · exact op_add pins s σ H _ _ _ _ Q I rx ry ⟨_, _, rfl, rfl, h⟩
  · exact op_add_str pins s σ H _ _ _ _ Q I rx ry ⟨_, _, rfl, rfl, h.1, h.2⟩
  · rcases h with h | h
    · exact op_cat pins s σ H _ _ _ _ Q I rx ry h
    · exact op_catA pins s σ H _ _ _ _ Q I rx ry h
theorem op_uSub : OpR X (binaryOp .Sub) uSub := by
  intro pins s σ H x y v u Q I rx ry h
  cases x <;> cases y <;> first | exact h.elim | skip
  exact op_sub pins s σ H _ _ _ _ Q I rx ry ⟨_, _, rfl, rfl, h⟩
theorem op_uMul : OpR X (binaryOp .Mult) uMul := by
  intro pins s σ H x y v u Q I rx ry h
  cases x <;> cases y <;> first | exact h.elim | skip
  rcases h with ⟨h | h, q⟩
  · exact op_mul pins s σ H _ _ _ _ Q I rx ry ⟨_, _, rfl, rfl, h, q⟩
  · exact op_mulW pins s σ H _ _ _ _ Q I rx ry ⟨_, _, rfl, rfl, h, q⟩
theorem op_uDiv : OpR X (binaryOp .FloorDiv) uDiv := by
  intro pins s σ H x y v u Q I rx ry h
  cases x <;> cases y <;> first | exact h.elim | skip
  exact op_fdivW pins s σ H _ _ _ _ Q I rx ry ⟨_, _, rfl, rfl, h.1, h.2⟩
theorem op_uMod : OpR X (binaryOp .Mod) uMod := by
  intro pins s σ H x y v u Q I rx ry h
  cases x <;> cases y <;> first | exact h.elim | skip
  exact op_mod pins s σ H _ _ _ _ Q I rx ry ⟨_, _, rfl, rfl, h.1, h.2⟩
theorem op_uPow : OpR X (binaryOp .Pow) uPow := by
  intro pins s σ H x y v u Q I rx ry h
  cases x <;> cases y <;> first | exact h.elim | skip
  exact op_pow pins s σ H _ _ _ _ Q I rx ry ⟨_, _, rfl, rfl, h.1, h.2⟩
theorem un_uNeg : UnR X (unaryOp .USub) uNeg := by
  intro pins s σ H x v Q I rx h
  cases x <;> first | exact h.elim | skip
  exact un_neg pins s σ H _ _ Q I rx ⟨_, rfl, h⟩
theorem op_uLt (hu : X.A.units + 64 < cLine) : OpR X (compareOp .Lt) (uLt X.K) := by
  intro pins s σ H x y v u Q I rx ry h
  cases x <;> cases y <;> first | exact h.elim | skip
  · exact op_lt pins s σ H _ _ _ _ Q I rx ry ⟨_, _, rfl, rfl, h⟩
  · exact op_lt_str pins s σ H _ _ _ _ Q I rx ry ⟨_, _, rfl, rfl, h⟩
  · exact op_ltT (by omega) pins s σ H _ _ _ _ Q I rx ry h
theorem op_uLe : OpR X (compareOp .LtE) uLe := by
  intro pins s σ H x y v u Q I rx ry h
  cases x <;> cases y <;> first | exact h.elim | skip
  · exact op_le pins s σ H _ _ _ _ Q I rx ry ⟨_, _, rfl, rfl, h⟩
  · exact op_le_str pins s σ H _ _ _ _ Q I rx ry ⟨_, _, rfl, rfl, h⟩
theorem op_uGt : OpR X (compareOp .Gt) uGt := by
  intro pins s σ H x y v u Q I rx ry h
  cases x <;> cases y <;> first | exact h.elim | skip
  · exact op_gt pins s σ H _ _ _ _ Q I rx ry ⟨_, _, rfl, rfl, h⟩
  · exact op_gt_str pins s σ H _ _ _ _ Q I rx ry ⟨_, _, rfl, rfl, h⟩
theorem op_uGe : OpR X (compareOp .GtE) uGe := by
  intro pins s σ H x y v u Q I rx ry h
  cases x <;> cases y <;> first | exact h.elim | skip
  · exact op_ge pins s σ H _ _ _ _ Q I rx ry ⟨_, _, rfl, rfl, h⟩
  · exact op_ge_str pins s σ H _ _ _ _ Q I rx ry ⟨_, _, rfl, rfl, h⟩
theorem V_int_dec {i j : Int} : decide (V.int i = V.int j) = decide (i = j) := by
  rw [Bool.eq_iff_iff]; simp
theorem V_str_dec {i j : Str} : decide (V.str i = V.str j) = decide (i = j) := by
  rw [Bool.eq_iff_iff]; simp
theorem V_bl_dec {i j : Bool} : decide (V.bl i = V.bl j) = decide (i = j) := by
  rw [Bool.eq_iff_iff]; simp
theorem op_uEq (hu : X.A.units + 64 < cLine) : OpR X (compareOp .Eq) (uEq X.K) := by
  intro pins s σ H x y v u Q I rx ry h
  have gen : (scal x y = true ∧ Q (.bl (decide (x = y))) H) ∨ rEqD X.K x y H Q → _ := fun z => (op_eq.or (op_eqD hu)) pins s σ H x y v u Q I rx ry z
  refine gen ?_
  cases x <;> cases y <;> first | exact h | exact Or.inr h | skip
  · exact .inl ⟨rfl, h⟩
  · exact .inl ⟨rfl, by rw [V_bl_dec]; exact h⟩
  · exact .inl ⟨rfl, by rw [V_int_dec]; exact h⟩
  · exact .inl ⟨rfl, by rw [V_str_dec]; exact h⟩
theorem op_uNe (hu : X.A.units + 64 < cLine) : OpR X (compareOp .NotEq) (uNe X.K) := by
  intro pins s σ H x y v u Q I rx ry h
  have gen : (scal x y = true ∧ Q (.bl (!decide (x = y))) H) ∨ rNeD X.K x y H Q → _ := fun z => (op_ne.or (op_neD hu)) pins s σ H x y v u Q I rx ry z
  refine gen ?_
  cases x <;> cases y <;> first | exact h | exact Or.inr h | skip
  · exact .inl ⟨rfl, h⟩
  · exact .inl ⟨rfl, by rw [V_bl_dec]; exact h⟩
  · exact .inl ⟨rfl, by rw [V_int_dec]; exact h⟩
  · exact .inl ⟨rfl, by rw [V_str_dec]; exact h⟩
theorem op_uIs : OpR X (compareOp .Is) uIs := by
  intro pins s σ H x y v u Q I rx ry h
  cases y <;> first | (cases x <;> exact h.elim) | skip
  · exact op_isN pins s σ H _ _ _ _ Q I rx ry ⟨rfl, by cases x <;> exact h⟩
  · cases x <;> first | exact h.elim | skip
    exact op_is_bl pins s σ H _ _ _ _ Q I rx ry ⟨_, _, rfl, rfl, h⟩
theorem op_uIsNot : OpR X (compareOp .IsNot) uIsNot := by
  intro pins s σ H x y v u Q I rx ry h
  cases y <;> first | (cases x <;> exact h.elim) | skip
  · exact op_notN pins s σ H _ _ _ _ Q I rx ry ⟨rfl, by cases x <;> exact h⟩
  · cases x <;> first | exact h.elim | skip
    exact op_isnot_bl pins s σ H _ _ _ _ Q I rx ry ⟨_, _, rfl, rfl, h⟩
theorem op_uIn : OpR X (compareOp .In) (uIn X.K) := by
  intro pins s σ H x y v u Q I rx ry h
  cases x <;> cases y <;> first | exact op_in_str pins s σ H _ _ _ _ Q I rx ry ⟨_, _, rfl, rfl, h⟩ | exact op_in_seq pins s σ H _ _ _ _ Q I rx ry h
theorem op_uNotIn : OpR X (compareOp .NotIn) (uNotIn X.K) := by
  intro pins s σ H x y v u Q I rx ry h
  cases x <;> cases y <;> first | exact op_notin_str pins s σ H _ _ _ _ Q I rx ry ⟨_, _, rfl, rfl, h⟩ | exact op_notIn_seq pins s σ H _ _ _ _ Q I rx ry h
end

/-! ### items, lengths, kinds -/
def uIx (K : PySem.W.Frag) : R2 := fun x y H Q => match x, y with
  | .ref p, .int i => ∃ xs v, (SqL K H p xs ∨ SqT K H p xs) ∧ atI xs i = some v ∧ Q v H
  | .str z, .int i => ∃ c, z.length ≤ sizeLine ∧ atI z.cps.toList i = some c ∧ Q (.str ⟨#[c]⟩) H
  | _, _ => False
def uLen (K : PySem.W.Frag) : List V → Hp → VK → Prop := fun vs H Q => match vs with
  | [.ref p] => ∃ xs, (SqL K H p xs ∨ SqT K H p xs) ∧ Q (.int xs.length) H
  | [.str z] => z.length ≤ sizeLine ∧ Q (.int z.length) H
  | _ => False
def uInt : List V → Hp → VK → Prop := fun vs H Q => match vs with
  | [.int i] => Q (.int i) H
  | [.bl b] => Q (.int (if b then 1 else 0)) H
  | _ => False
def uMax : List V → Hp → VK → Prop := fun vs H Q => match vs with
  | [.int i, .int j] => Q (.int (if j > i then j else i)) H
  | _ => False
def uMin : List V → Hp → VK → Prop := fun vs H Q => match vs with
  | [.int i, .int j] => Q (.int (if j < i then j else i)) H
  | _ => False
def uAbs : List V → Hp → VK → Prop := fun vs H Q => match vs with
  | [.int i] => Q (.int (if i < 0 then -i else i)) H
  | _ => False
def uList (K : PySem.W.Frag) : List V → Hp → VK → Prop := fun vs H Q => match vs with
  | [.ref p] => ∃ xs, (SqL K H p xs ∨ SqT K H p xs) ∧ ∀ l, H l = none → Q (.ref l) (upd H l (.lst xs))
  | _ => False
def uTuple (K : PySem.W.Frag) : List V → Hp → VK → Prop := fun vs H Q => match vs with
  | [.ref p] => ∃ xs, (SqL K H p xs ∧ ∀ l, H l = none → Q (.ref l) (upd H l (.tup xs))) ∨ (SqT K H p xs ∧ Q (.ref p) H)
  | _ => False
/-- isinstance with one class -/
def uIsi (K : PySem.W.Frag) : List V → Hp → VK → Prop := fun vs H Q => match vs with
  | [x, c] => ∃ (t u : Value) (b : Bool), ClsV c u ∧ TyX K H x t ∧ PySem.W.kitOne K t u = some b ∧ Q (.bl b) H
  | _ => False
def tTru (K : PySem.W.Frag) (ta : TE) : TT := fun σ H Q => ta σ H fun x H' => ∃ k, TruV K x H' k ∧ Q k H'
def tCal (sp : Sp) (t : TA) : TE := fun σ H Q => t σ H fun vs H1 => sp vs H1 Q E0
section
variable {X : Cx}
theorem ix_uIx : IxR X (uIx X.K) := by
  intro ea eb pins s σ H x y v u Q I rx ry h hp
  cases x <;> cases y <;> first | exact h.elim | skip
  · obtain ⟨c, hz, ha, q⟩ := h
    exact ix_str ea eb pins s σ H _ _ _ _ Q I rx ry ⟨_, _, c, rfl, rfl, hz, ha, q⟩ hp
  · obtain ⟨xs, w, hl, ha, q⟩ := h
    rcases hl with hl | hl
    · exact ix_list ea eb pins s σ H _ _ _ _ Q I rx ry ⟨_, xs, _, w, rfl, rfl, hl, ha, q⟩ hp
    · exact ix_tup ea eb pins s σ H _ _ _ _ Q I rx ry ⟨_, xs, _, w, rfl, rfl, hl, ha, q⟩ hp
theorem call_uLen : CallR X (.builtin "len") (uLen X.K) := by
  intro pins s σ H vs us Q I r h
  rcases vs with _ | ⟨x, _ | ⟨y, t⟩⟩
  · exact h.elim
  · cases x <;> first | exact h.elim | skip
    · exact call_len pins s σ H _ _ Q I r ⟨_, _, rfl, ⟨h.1, rfl⟩, h.2⟩
    · obtain ⟨xs, hl, q⟩ := h
      refine call_len pins s σ H _ _ Q I r ⟨_, xs.length, rfl, ?_, q⟩
      rcases hl with hl | hl
      · exact .inl ⟨_, hl, rfl⟩
      · exact .inr ⟨_, hl, rfl⟩
  · cases x <;> exact h.elim
theorem call_uInt : CallR X (.type "int") uInt := by
  intro pins s σ H vs us Q I r h
  rcases vs with _ | ⟨x, _ | ⟨y, t⟩⟩
  · exact h.elim
  · cases x <;> first | exact h.elim | skip
    · exact call_int1 pins s σ H _ _ Q I r (.inr ⟨_, rfl, h⟩)
    · exact call_int1 pins s σ H _ _ Q I r (.inl ⟨_, rfl, h⟩)
  · cases x <;> exact h.elim
theorem call_uAbs : CallR X (.builtin "abs") uAbs := by
  intro pins s σ H vs us Q I r h
  rcases vs with _ | ⟨x, _ | ⟨y, t⟩⟩
  · exact h.elim
  · cases x <;> first | exact h.elim | skip
    exact call_abs pins s σ H _ _ Q I r ⟨_, rfl, h⟩
  · cases x <;> exact h.elim
theorem call_uMax (hc : X.calm = true) : CallR X (.builtin "max") uMax := by
  intro pins s σ H vs us Q I r h
  rcases vs with _ | ⟨x, _ | ⟨y, _ | ⟨z, t⟩⟩⟩
  · exact h.elim
  · cases x <;> exact h.elim
  · cases x <;> cases y <;> first | exact h.elim | skip
    exact call_max2 hc pins s σ H _ _ Q I r ⟨_, _, rfl, h⟩
  · cases x <;> cases y <;> exact h.elim
theorem call_uMin (hc : X.calm = true) : CallR X (.builtin "min") uMin := by
  intro pins s σ H vs us Q I r h
  rcases vs with _ | ⟨x, _ | ⟨y, _ | ⟨z, t⟩⟩⟩
  · exact h.elim
  · cases x <;> exact h.elim
  · cases x <;> cases y <;> first | exact h.elim | skip
    exact call_min2 hc pins s σ H _ _ Q I r ⟨_, _, rfl, h⟩
  · cases x <;> cases y <;> exact h.elim
theorem call_uList : CallR X (.type "list") (uList X.K) := by
  intro pins s σ H vs us Q I r h
  rcases vs with _ | ⟨x, _ | ⟨y, t⟩⟩
  · exact h.elim
  · cases x <;> first | exact h.elim | skip
    obtain ⟨xs, hl, q⟩ := h
    exact call_list_of pins s σ H _ _ Q I r ⟨_, xs, rfl, hl, q⟩
  · cases x <;> exact h.elim
theorem call_uTuple : CallR X (.type "tuple") (uTuple X.K) := by
  intro pins s σ H vs us Q I r h
  rcases vs with _ | ⟨x, _ | ⟨y, t⟩⟩
  · exact h.elim
  · cases x <;> first | exact h.elim | skip
    obtain ⟨xs, hl⟩ := h
    exact call_tuple_of pins s σ H _ _ Q I r ⟨_, xs, rfl, hl⟩
  · cases x <;> exact h.elim
theorem call_uIsi : CallR X (.builtin "isinstance") (uIsi X.K) := by
  intro pins s σ H vs us Q I r h
  rcases vs with _ | ⟨x, _ | ⟨y, _ | ⟨z, t⟩⟩⟩
  · exact h.elim
  · exact h.elim
  · obtain ⟨t, u, b, k, ty, e, q⟩ := h
    exact call_isi pins s σ H _ _ Q I r ⟨_, _, t, u, b, rfl, k, ty, e, q⟩
  · exact h.elim
theorem pt_u {a : Expr} {ta : TE} (ha : PE X a ta) (he : ∀ whole, isTrue a X.env whole = (do let v ← whole; standAt a.pos; holding [v] (truthy v)) := by intro _; rfl) : PT X a (tTru X.K ta) := pt_truth ha he
end

/-! ### a def of the text, as those who call it know it -/
structure Dfn (P : Program) (w : World) (K : PySem.W.Frag) (mg : Str → Option Value) (base : Heap) (k : Nat) (x : Str) (ps : List Str) (sp : Sp) : Prop where
  ex : ∃ (f : Addr) (fd : FuncData), mg x = some (.ref f) ∧ PySem.W.keepIn K (.ref f) = true ∧ Binds K fd ps [] ∧ FnOk P w K mg base CX0 k f fd ps sp
theorem nil_sp (sp : Sp) (t : TA) : tCall sp [] E0 t = tCal sp t := by
  funext σ H Q
  simp only [tCall, tCal, List.append_nil]
section
variable {X : Cx} {k : Nat} {x : Str} {ps : List Str} {sp : Sp} {p pos : Pos} {e : Expr} {es : List Expr} {t : TA}
theorem z_call (D : Dfn X.prog X.w X.K X.mg X.base k x ps sp) (hr : Room k X.A) (hg : Gl X x) (ha : PA X (e :: es) t) (hdb : (x == ("__debug__" : Str)) = false := by decide)
    (he : starEach (e :: es) X.env = (false, eval e X.env) :: starEach es X.env := by rfl) (hpl : (backTo pos (starEach es X.env)).any (·.1) = false := by rfl) : PE X (.Call (.Name x p) (e :: es) [] pos) (tCal sp t) := by
  obtain ⟨f, fd, hm, hk, hb, F⟩ := D.ex
  rw [← nil_sp]
  exact pe_call F hr hg hm hk hb .nil pass0 ha hdb he hpl
theorem z_call0 (D : Dfn X.prog X.w X.K X.mg X.base k x ps sp) (hr : Room k X.A) (hg : Gl X x) (hdb : (x == ("__debug__" : Str)) = false := by decide) : PE X (.Call (.Name x p) [] [] pos) (tCal sp tNil) := by
  obtain ⟨f, fd, hm, hk, hb, F⟩ := D.ex
  rw [← nil_sp]
  exact pe_call0 F hr hg hm hk hb .nil pass0 hdb
/-- a list or a tuple that is walked -/
def iSeq (K : PySem.W.Frag) (tl : TE) : TI := fun σ H R => iList K tl σ H R ∨ iTup K tl σ H R
theorem pi_seq {tg l : Expr} {tl : TE} (hl : PE X l tl) : PI X tg l (iSeq X.K tl) := by
  have h1 := pi_list (tg := tg) hl
  have h2 := pi_tup (tg := tg) hl
  refine ⟨fun pins s σ H R I h => ?_⟩
  rcases h with h | h
  · exact h1.run pins s σ H R I h
  · exact h2.run pins s σ H R I h
end

/-! ### the steps of a reading -/
def zNewL (xs : List V) (H : Hp) (Q : VK) : Prop := xs.length ≤ sizeLine ∧ ∀ p, H p = none → Q (.ref p) (upd H p (.lst xs))
def zNewT (xs : List V) (H : Hp) (Q : VK) : Prop := xs.length ≤ sizeLine ∧ ∀ p, H p = none → Q (.ref p) (upd H p (.tup xs))
section
variable {K : PySem.W.Frag} {σ : St} {H : Hp} {i : Nat} {v : V} {Q : VK} {QA : List V → Hp → Prop} {QB : Bool → Hp → Prop} {r : R2} {r1 : V → Hp → VK → Prop} {rl : List V → Hp → VK → Prop} {ta tb te : TE} {tr t : TA} {c u : TT} {sp : Sp} {xs : List V} {a b : Int} {x y : Str} {p q : Addr} {bb : Bool} {D : Ends} {t1 t2 : TS}
theorem z_var (h : σ[i]? = some (some v)) (k : Q v H) : tVar i σ H Q := ⟨v, h, k⟩
theorem z_c (k : Q v H) : tC v σ H Q := k
theorem z_op (k : ta σ H fun x H1 => tb σ H1 fun y H2 => r x y H2 Q) : tOp r ta tb σ H Q := k
theorem z_un (k : ta σ H fun x H1 => r1 x H1 Q) : tUn r1 ta σ H Q := k
theorem z_cb (k : t σ H fun vs H1 => rl vs H1 Q) : tCB rl t σ H Q := k
theorem z_cal (k : t σ H fun vs H1 => sp vs H1 Q E0) : tCal sp t σ H Q := k
theorem z_nil (k : QA [] H) : tNil σ H QA := k
theorem z_cons (k : ta σ H fun x H1 => tr σ H1 fun xs H2 => QA (x :: xs) H2) : tCons ta tr σ H QA := k
theorem z_lst (k : t σ H fun xs H1 => zNewL xs H1 Q) : tLst t σ H Q := k
theorem z_tup (k : t σ H fun xs H1 => zNewT xs H1 Q) : tTup t σ H Q := k
theorem z_newL (h : xs.length ≤ 100000) (k : ∀ p, H p = none → Q (.ref p) (upd H p (.lst xs))) : zNewL xs H Q := ⟨Nat.le_trans h (by decide), k⟩
theorem z_newT (h : xs.length ≤ 100000) (k : ∀ p, H p = none → Q (.ref p) (upd H p (.tup xs))) : zNewT xs H Q := ⟨Nat.le_trans h (by decide), k⟩
theorem z_test (k : te σ H fun x H' => ∃ k, x = .bl k ∧ QB k H') : tTest te σ H QB := k
theorem z_bl (k : QB bb H) : ∃ k, V.bl bb = .bl k ∧ QB k H := ⟨bb, rfl, k⟩
theorem z_tru (k : te σ H fun x H' => ∃ k, TruV K x H' k ∧ QB k H') : tTru K te σ H QB := k
theorem z_trub {P : Bool → Prop} (k : P bb) : ∃ k, TruV K (.bl bb) H k ∧ P k := ⟨bb, rfl, k⟩
theorem z_trui {P : Bool → Prop} (k : P (a != 0)) : ∃ k, TruV K (.int a) H k ∧ P k := ⟨_, rfl, k⟩
theorem z_and (k : c σ H fun b H1 => if b = true then u σ H1 QB else QB false H1) : tAnd c u σ H QB := k
theorem z_or (k : c σ H fun b H1 => if b = true then QB true H1 else u σ H1 QB) : tOr c u σ H QB := k
theorem z_not (k : c σ H fun b H1 => QB (!b) H1) : tNot c σ H QB := k
theorem z_andV (k : ta σ H fun x H1 => ∃ c, x = .bl c ∧ if c = true then tb σ H1 Q else Q (.bl false) H1) : tAndV ta tb σ H Q := k
theorem z_orV (k : ta σ H fun x H1 => ∃ c, x = .bl c ∧ if c = true then Q (.bl true) H1 else tb σ H1 Q) : tOrV ta tb σ H Q := k
theorem z_notV (k : ta σ H fun x H1 => ∃ c, x = .bl c ∧ Q (.bl (!c)) H1) : tNotV ta σ H Q := k
theorem z_if (k : c σ H fun b H1 => if b = true then ta σ H1 Q else tb σ H1 Q) : tIf c ta tb σ H Q := k
theorem z_bl1 {P : Bool → Prop} (k : P bb) : ∃ k, V.bl bb = .bl k ∧ P k := ⟨bb, rfl, k⟩
-- operators
theorem z_add (k : Q (.int (a + b)) H) : uAdd K (.int a) (.int b) H Q := k
theorem z_addS (h : x.length + y.length ≤ 100000) (k : Q (.str (x ++ y)) H) : uAdd K (.str x) (.str y) H Q := ⟨Nat.le_trans h (by decide), k⟩
theorem z_addL {xs ys : List V} (h1 : H p = some (.lst xs)) (h2 : H q = some (.lst ys)) (h : xs.length + ys.length ≤ 100000) (k : ∀ l, H l = none → Q (.ref l) (upd H l (.lst (xs ++ ys)))) : uAdd K (.ref p) (.ref q) H Q :=
  .inl ⟨p, q, xs, ys, rfl, rfl, h1, h2, Nat.le_trans h (by decide), k⟩
theorem z_sub (k : Q (.int (a - b)) H) : uSub (.int a) (.int b) H Q := k
theorem z_mul (h : MulOk a b) (k : Q (.int (a * b)) H) : uMul (.int a) (.int b) H Q := ⟨h, k⟩
theorem z_div (h : CDivW a b) (k : Q (.int (a / b)) H) : uDiv (.int a) (.int b) H Q := ⟨h, k⟩
theorem z_mod (h : 0 < b) (k : Q (.int (a % b)) H) : uMod (.int a) (.int b) H Q := ⟨h, k⟩
theorem z_pow (h : CPow a b) (k : Q (.int (a ^ b.toNat)) H) : uPow (.int a) (.int b) H Q := ⟨h, k⟩
theorem z_neg (k : Q (.int (-a)) H) : uNeg (.int a) H Q := k
theorem z_lt (k : Q (.bl (decide (a < b))) H) : uLt K (.int a) (.int b) H Q := k
theorem z_ltS (k : Q (.bl (decide (x.cps.toList < y.cps.toList))) H) : uLt K (.str x) (.str y) H Q := k
theorem z_le (k : Q (.bl (decide (a ≤ b))) H) : uLe (.int a) (.int b) H Q := k
theorem z_leS (k : Q (.bl (!decide (y.cps.toList < x.cps.toList))) H) : uLe (.str x) (.str y) H Q := k
theorem z_gt (k : Q (.bl (decide (b < a))) H) : uGt (.int a) (.int b) H Q := k
theorem z_gtS (k : Q (.bl (decide (y.cps.toList < x.cps.toList))) H) : uGt (.str x) (.str y) H Q := k
theorem z_ge (k : Q (.bl (decide (b ≤ a))) H) : uGe (.int a) (.int b) H Q := k
theorem z_geS (k : Q (.bl (!decide (x.cps.toList < y.cps.toList))) H) : uGe (.str x) (.str y) H Q := k
theorem z_eq (k : Q (.bl (decide (a = b))) H) : uEq K (.int a) (.int b) H Q := k
theorem z_eqS (k : Q (.bl (decide (x = y))) H) : uEq K (.str x) (.str y) H Q := k
theorem z_eqB {a b : Bool} (k : Q (.bl (decide (a = b))) H) : uEq K (.bl a) (.bl b) H Q := k
theorem z_eqN (k : Q (.bl true) H) : uEq K .non .non H Q := k
theorem z_eqIS (k : Q (.bl false) H) : uEq K (.int a) (.str x) H Q := .inl ⟨rfl, by rw [decide_eq_false (by intro z; cases z)]; exact k⟩
theorem z_eqSI (k : Q (.bl false) H) : uEq K (.str x) (.int a) H Q := .inl ⟨rfl, by rw [decide_eq_false (by intro z; cases z)]; exact k⟩
theorem z_eqD {d e : PyData} (h1 : Dp K H (.ref p) d) (h2 : Dp K H (.ref q) e) (s1 : SeqAt.shaped d = true) (s2 : SeqAt.shaped e = true) (k : Q (.bl (PyData.eqv d e)) H) : uEq K (.ref p) (.ref q) H Q := ⟨d, e, h1, h2, s1, s2, k⟩
theorem z_ne (k : Q (.bl (!decide (a = b))) H) : uNe K (.int a) (.int b) H Q := k
theorem z_neS (k : Q (.bl (!decide (x = y))) H) : uNe K (.str x) (.str y) H Q := k
theorem z_neB {a b : Bool} (k : Q (.bl (!decide (a = b))) H) : uNe K (.bl a) (.bl b) H Q := k
theorem z_neN (k : Q (.bl false) H) : uNe K .non .non H Q := k
theorem z_neIS (k : Q (.bl true) H) : uNe K (.int a) (.str x) H Q := .inl ⟨rfl, by rw [decide_eq_false (by intro z; cases z)]; exact k⟩
theorem z_neSI (k : Q (.bl true) H) : uNe K (.str x) (.int a) H Q := .inl ⟨rfl, by rw [decide_eq_false (by intro z; cases z)]; exact k⟩
theorem z_neD {d e : PyData} (h1 : Dp K H (.ref p) d) (h2 : Dp K H (.ref q) e) (s1 : SeqAt.shaped d = true) (s2 : SeqAt.shaped e = true) (k : Q (.bl (!PyData.eqv d e)) H) : uNe K (.ref p) (.ref q) H Q := ⟨d, e, h1, h2, s1, s2, k⟩
theorem z_is (k : Q (.bl (decide (v = .non))) H) : uIs v .non H Q := by cases v <;> exact k
theorem z_isNot (k : Q (.bl (!decide (v = .non))) H) : uIsNot v .non H Q := by cases v <;> exact k
theorem z_isB {a b : Bool} (k : Q (.bl (decide (a = b))) H) : uIs (.bl a) (.bl b) H Q := k
theorem z_isNotB {a b : Bool} (k : Q (.bl (!decide (a = b))) H) : uIsNot (.bl a) (.bl b) H Q := k
theorem z_in (h : SqL K H p xs ∨ SqT K H p xs) (hx : flatV v = true) (ha : xs.all flatV = true) (k : Q (.bl (inV v xs)) H) : uIn K v (.ref p) H Q := by
  cases v <;> exact ⟨p, xs, rfl, h, hx, ha, k⟩
theorem z_notIn (h : SqL K H p xs ∨ SqT K H p xs) (hx : flatV v = true) (ha : xs.all flatV = true) (k : Q (.bl (!inV v xs)) H) : uNotIn K v (.ref p) H Q := by
  cases v <;> exact ⟨p, xs, rfl, h, hx, ha, k⟩
theorem z_isbb {a : Bool} (k : Q (.bl true) H) : uIsi K [.bl a, .ty "bool"] H Q := ⟨_, _, true, .ty _, .base (.bl a), rfl, k⟩
theorem z_isbi {a : Bool} (k : Q (.bl true) H) : uIsi K [.bl a, .ty "int"] H Q := ⟨_, _, true, .ty _, .base (.bl a), rfl, k⟩
theorem z_isll (h : H p = some (.lst xs)) (k : Q (.bl true) H) : uIsi K [.ref p, .ty "list"] H Q := ⟨_, _, true, .ty _, .base (.lst h), rfl, k⟩
theorem z_istt (h : H p = some (.tup xs)) (k : Q (.bl true) H) : uIsi K [.ref p, .ty "tuple"] H Q := ⟨_, _, true, .ty _, .base (.tup h), rfl, k⟩
theorem z_chain {r r' : R2} {tc : TE} (k : ta σ H fun x H1 => tb σ H1 fun y H2 => r x y H2 fun z H3 => ∃ k, z = .bl k ∧ if k = true then tc σ H3 fun w H4 => r' y w H4 Q else Q (.bl false) H3) : tChain r r' ta tb tc σ H Q := k
-- items, built-ins
theorem z_ix (h : SqL K H p xs ∨ SqT K H p xs) (e : atI xs a = some v) (k : Q v H) : uIx K (.ref p) (.int a) H Q := ⟨xs, v, h, e, k⟩
theorem z_len (h : SqL K H p xs ∨ SqT K H p xs) (k : Q (.int xs.length) H) : uLen K [.ref p] H Q := ⟨xs, h, k⟩
theorem z_int (k : Q (.int a) H) : uInt [.int a] H Q := k
theorem z_max (k : Q (.int (if b > a then b else a)) H) : uMax [.int a, .int b] H Q := k
theorem z_min (k : Q (.int (if b < a then b else a)) H) : uMin [.int a, .int b] H Q := k
theorem z_abs (k : Q (.int (if a < 0 then -a else a)) H) : uAbs [.int a] H Q := k
theorem z_list (h : SqL K H p xs ∨ SqT K H p xs) (k : ∀ l, H l = none → Q (.ref l) (upd H l (.lst xs))) : uList K [.ref p] H Q := ⟨xs, h, k⟩
theorem z_tupleL (h : SqL K H p xs) (k : ∀ l, H l = none → Q (.ref l) (upd H l (.tup xs))) : uTuple K [.ref p] H Q := ⟨xs, .inl ⟨h, k⟩⟩
theorem z_tupleT (h : SqT K H p xs) (k : Q (.ref p) H) : uTuple K [.ref p] H Q := ⟨xs, .inr ⟨h, k⟩⟩
theorem z_isi {w : V} {t' u' : Value} (h1 : ClsV w u') (h2 : TyX K H v t') (h3 : PySem.W.kitOne K t' u' = some bb) (k : Q (.bl bb) H) : uIsi K [v, w] H Q := ⟨t', u', bb, h1, h2, h3, k⟩
theorem z_isii (k : Q (.bl true) H) : uIsi K [.int a, .ty "int"] H Q := ⟨_, _, true, .ty _, .base (.int a), rfl, k⟩
theorem z_isib (k : Q (.bl false) H) : uIsi K [.int a, .ty "bool"] H Q := ⟨_, _, false, .ty _, .base (.int a), rfl, k⟩
-- statements
theorem z_seq (k : t1 { D with nx := t2 D } σ H) : tSeq t1 t2 D σ H := k
theorem z_next (k : D.nx σ H) : tNext D σ H := k
theorem z_brk (k : D.bk σ H) : tBreak D σ H := k
theorem z_cont (k : D.ct σ H) : tCont D σ H := k
theorem z_ret (k : te σ H D.rt) : tRet te D σ H := k
theorem z_retN (k : D.rt .non H) : tRetN D σ H := k
theorem z_asg (k : te σ H fun x H1 => D.nx (σ.set i (some x)) H1) : tAsg te (gName i) D σ H := k
theorem z_drop (k : te σ H fun _ H1 => D.nx σ H1) : tDrop te D σ H := k
theorem z_ifS (k : c σ H fun b H1 => if b = true then t1 D σ H1 else t2 D σ H1) : tIfS c t1 t2 D σ H := k
theorem z_iteT {A B : Prop} (k : A) : if true = true then A else B := by rw [if_pos rfl]; exact k
theorem z_iteF {A B : Prop} (k : B) : if false = true then A else B := by rw [if_neg Bool.false_ne_true]; exact k
theorem z_iteT' {A B : Prop} (e : bb = true) (k : A) : if bb = true then A else B := by rw [if_pos e]; exact k
theorem z_iteF' {A B : Prop} (e : bb = false) (k : B) : if bb = true then A else B := by rw [if_neg (by rw [e]; exact Bool.false_ne_true)]; exact k
theorem z_ite {A B : Prop} (h1 : bb = true → A) (h2 : bb = false → B) : if bb = true then A else B := by
  cases bb with
  | true => rw [if_pos rfl]; exact h1 rfl
  | false => rw [if_neg Bool.false_ne_true]; exact h2 rfl
theorem z_itD {A B P : Prop} [Decidable P] (h1 : P → A) (h2 : ¬ P → B) : if decide P = true then A else B := by
  by_cases h : P
  · rw [if_pos (decide_eq_true h)]; exact h1 h
  · rw [if_neg (by rw [decide_eq_false h]; exact Bool.false_ne_true)]; exact h2 h
theorem z_itN {A B P : Prop} [Decidable P] (h1 : ¬ P → A) (h2 : P → B) : if (!decide P) = true then A else B := by
  by_cases h : P
  · rw [decide_eq_true h, if_neg (by decide)]; exact h2 h
  · rw [decide_eq_false h, if_pos (by decide)]; exact h1 h
-- loops
def zRng (g : TG) (tb : TS) (D : Ends) (σ : St) (lo : Int) (n : Nat) (H1 : Hp) : Prop := ∃ W : Nat → Nat → St → Hp → Prop, (∃ m, W 0 m σ H1) ∧ ∀ i m σ H, W i m σ H →
  ((Itr lo n).stop i H ∧ D.nx σ H) ∨ ((Itr lo n).go i H ∧ ∃ N : St → Hp → Prop, (∀ σ' H', N σ' H' → ∃ m', m' < m ∧ W (i + 1) m' σ' H') ∧ ∀ x H', (Itr lo n).yld i H x H' → g x σ H' fun σ2 H2 => tb { D with nx := N, ct := N, bk := D.nx } σ2 H2)
def zRng1 (g : TG) (tb : TS) (D : Ends) (σ : St) (vs : List V) (H1 : Hp) : Prop := ∃ j : Int, vs = [.int j] ∧ -(2 ^ 62) ≤ j ∧ j < 2 ^ 62 ∧ zRng g tb D σ 0 j.toNat H1
def zRng2 (g : TG) (tb : TS) (D : Ends) (σ : St) (vs : List V) (H1 : Hp) : Prop := ∃ i j : Int, vs = [.int i, .int j] ∧ (-(2 ^ 62) ≤ i ∧ i < 2 ^ 62 ∧ -(2 ^ 62) ≤ j ∧ j < 2 ^ 62) ∧ zRng g tb D σ i (j - i).toNat H1
def zIt (K : PySem.W.Frag) (g : TG) (tb : TS) (D : Ends) (σ : St) (v : V) (H1 : Hp) : Prop := ∃ a xs, v = .ref a ∧ ((SqL K H1 a xs ∧ ∃ W : Nat → Nat → St → Hp → Prop, (∃ m, W 0 m σ H1) ∧ ∀ i m σ H, W i m σ H →
  ((Itl K a).stop i H ∧ D.nx σ H) ∨ ((Itl K a).go i H ∧ ∃ N : St → Hp → Prop, (∀ σ' H', N σ' H' → ∃ m', m' < m ∧ W (i + 1) m' σ' H') ∧ ∀ x H', (Itl K a).yld i H x H' → g x σ H' fun σ2 H2 => tb { D with nx := N, ct := N, bk := D.nx } σ2 H2)) ∨
  (SqT K H1 a xs ∧ ∃ W : Nat → Nat → St → Hp → Prop, (∃ m, W 0 m σ H1) ∧ ∀ i m σ H, W i m σ H →
  ((Itt K a).stop i H ∧ D.nx σ H) ∨ ((Itt K a).go i H ∧ ∃ N : St → Hp → Prop, (∀ σ' H', N σ' H' → ∃ m', m' < m ∧ W (i + 1) m' σ' H') ∧ ∀ x H', (Itt K a).yld i H x H' → g x σ H' fun σ2 H2 => tb { D with nx := N, ct := N, bk := D.nx } σ2 H2)))
def iSq (K : PySem.W.Frag) (tl : TE) : TI := fun σ H R => tl σ H fun x H1 => ∃ a, x = .ref a ∧ (((∃ xs, SqL K H1 a xs) ∧ R (Itl K a) H1) ∨ ((∃ xs, SqT K H1 a xs) ∧ R (Itt K a) H1))
variable {g : TG} {ti : TS}
theorem z_for1 (k : t σ H fun vs H1 => zRng1 g ti D σ vs H1) : tFor (iRng1 t) g ti D σ H := k
theorem z_for2 (k : t σ H fun vs H1 => zRng2 g ti D σ vs H1) : tFor (iRng2 t) g ti D σ H := k
theorem z_rng1 {j : Int} (hb : j ≤ 1000000) (h : zRng g ti D σ 0 j.toNat H) (hb2 : -1000000 ≤ j) : zRng1 g ti D σ [.int j] H := ⟨j, rfl, by omega, by omega, h⟩
theorem z_rng2 {i j : Int} (h : zRng g ti D σ i (j - i).toNat H) (hb : -1000000 ≤ i ∧ i ≤ 1000000 ∧ -1000000 ≤ j ∧ j ≤ 1000000) : zRng2 g ti D σ [.int i, .int j] H := ⟨i, j, rfl, by omega, h⟩
/-- over a range: Pv by turns done, slots, heap -/
theorem z_rng {lo : Int} {n v : Nat} (Pv : Nat → St → Hp → Prop) (h0 : Pv 0 σ H)
    (hs : ∀ i σ H, i < n → Pv i σ H → ti { D with nx := Pv (i + 1), ct := Pv (i + 1), bk := D.nx } (σ.set v (some (.int (lo + i)))) H) (hd : ∀ σ H, Pv n σ H → D.nx σ H) : zRng (gName v) ti D σ lo n H :=
  for_range (g := gName v) (tb := ti) (D := D) Pv h0 hs hd
theorem z_while (Pv : Nat → St → Hp → Prop) (m : Nat) (h0 : Pv m σ H)
    (hs : ∀ m σ H, Pv m σ H → c σ H fun b H1 => if b = true then ∃ N : St → Hp → Prop, (∀ σ' H', N σ' H' → ∃ m', m' < m ∧ Pv m' σ' H') ∧ ti { D with nx := N, ct := N, bk := D.nx } σ H1 else D.nx σ H1) : tWhile c ti D σ H :=
  ⟨Pv, ⟨m, h0⟩, hs⟩
theorem z_turn {m : Nat} {Pv : Nat → St → Hp → Prop} {bk : St → Hp → Prop} (k : ti { D with nx := fun σ' H' => ∃ m', m' < m ∧ Pv m' σ' H', ct := fun σ' H' => ∃ m', m' < m ∧ Pv m' σ' H', bk := bk } σ H) :
    ∃ N : St → Hp → Prop, (∀ σ' H', N σ' H' → ∃ m', m' < m ∧ Pv m' σ' H') ∧ ti { D with nx := N, ct := N, bk := bk } σ H := ⟨_, fun _ _ h => h, k⟩
theorem mul1 (h : -1000000000000000000 < a ∧ a < 1000000000000000000) : MulOk a b := .inl (.inl (by omega))
theorem mul2 (h : -1000000000000000000 < b ∧ b < 1000000000000000000) : MulOk a b := .inl (.inr (by omega))
theorem div1 (h : 0 < b ∧ b < 1000000000000000000) : CDivW a b := wide_div h.1 (b := 64) (by omega) (by decide) (by decide)
end
/-! ### heaps -/
theorem lk_ne {H : Hp} {a b : Addr} {o u : HO} (h : a ≠ b) (e : H a = some u) : upd H b o a = some u := by rw [upd_ne h]; exact e
theorem ne_n {H : Hp} {a b : Addr} {o : HO} (h' : H b = none) (h : H a = some o) : a ≠ b := ne_of_none h h'
theorem sqL_new {K : PySem.W.Frag} {H : Hp} {a b : Addr} {o : HO} {xs : List V} (h : H b = none) (e : SqL K H a xs) : SqL K (upd H b o) a xs := by
  rcases e with (e | ⟨u, e⟩) | e
  · exact .inl (.inl (lk_ne (ne_of_none e h) e))
  · exact .inl (.inr ⟨u, lk_ne (ne_of_none e h) e⟩)
  · exact .inr e
theorem sqT_new {K : PySem.W.Frag} {H : Hp} {a b : Addr} {o : HO} {xs : List V} (h : H b = none) (e : SqT K H a xs) : SqT K (upd H b o) a xs := by
  rcases e with (e | ⟨u, e⟩) | e
  · exact .inl (.inl (lk_ne (ne_of_none e h) e))
  · exact .inl (.inr ⟨u, lk_ne (ne_of_none e h) e⟩)
  · exact .inr e
theorem sqL_ne {K : PySem.W.Frag} {H : Hp} {a b : Addr} {o : HO} {xs : List V} (h : a ≠ b) (e : SqL K H a xs) : SqL K (upd H b o) a xs := by
  rcases e with (e | ⟨u, e⟩) | e
  · exact .inl (.inl (lk_ne h e))
  · exact .inl (.inr ⟨u, lk_ne h e⟩)
  · exact .inr e
theorem sqT_ne {K : PySem.W.Frag} {H : Hp} {a b : Addr} {o : HO} {xs : List V} (h : a ≠ b) (e : SqT K H a xs) : SqT K (upd H b o) a xs := by
  rcases e with (e | ⟨u, e⟩) | e
  · exact .inl (.inl (lk_ne h e))
  · exact .inl (.inr ⟨u, lk_ne h e⟩)
  · exact .inr e
/-- what stands there is no state of draws -/
def NotSt (o : HO) : Prop := ∀ (L : Addr) (k a : Int), o ≠ .lst [.ref L, .int k, .int a]
theorem NotSt.ints {ns : List Int} : NotSt (.lst (ns.map V.int)) := fun L k a z => by
  cases ns with
  | nil => cases z
  | cons x r => injection z with z; injection z with z1 _; cases z1
theorem NotSt.refs {ps : List Addr} : NotSt (.lst (ps.map V.ref)) := fun L k a z => by
  cases ps with
  | nil => cases z
  | cons x r => cases r with
    | nil => cases z
    | cons y t => injection z with z; injection z with _ z; injection z with z _; cases z
theorem NotSt.strs {xs : List Str} : NotSt (.lst (xs.map V.str)) := fun L k a z => by
  cases xs with
  | nil => cases z
  | cons x r => injection z with z; injection z with z1 _; cases z1
/-- all that was tracked is as it was, but the states of draws -/
def ExD (H H' : Hp) : Prop := ∀ a o, NotSt o → H a = some o → H' a = some o
theorem ExD.lk {a : Addr} {H H' : Hp} {o : HO} (x : ExD H H') (e : H a = some o) (h : NotSt o) : H' a = some o := x a o h e
theorem ExD.refl (H : Hp) : ExD H H := fun _ _ _ e => e
theorem ExD.trans {H H1 H2 : Hp} (x : ExD H H1) (y : ExD H1 H2) : ExD H H2 := fun a o h e => y a o h (x a o h e)
theorem ExD.new {p : Addr} {H H1 : Hp} {o : HO} (h : H p = none) (x : ExD H H1) : ExD H (upd H1 p o) := fun a u ha e => lk_ne (ne_of_none e h) (x a u ha e)
theorem ExD.of {H H' : Hp} (x : Same H H') : ExD H H' := fun a o _ e => x a o e
theorem ExD.st {st L : Addr} {k a : Int} {H H1 : Hp} {o : HO} (e : H st = some (.lst [.ref L, .int k, .int a])) (x : ExD H H1) : ExD H (upd H1 st o) := fun b u hb f => by
  refine lk_ne (fun z => ?_) (x b u hb f)
  subst z; rw [e] at f; exact hb L k a (Option.some.inj f).symm
theorem Same.lk {a : Addr} {H H' : Hp} {o : HO} (x : Same H H') (e : H a = some o) : H' a = some o := x a o e
theorem lk_new {H : Hp} {a b : Addr} {o u : HO} (h : H b = none) (e : H a = some u) : upd H b o a = some u := lk_ne (ne_of_none e h) e
theorem lk_df {H : Hp} {a b : Addr} {o u w : HO} (e : H a = some u) (f : H b = some w) (d : u ≠ w) : upd H b o a = some u := lk_ne (fun z => by subst z; rw [e] at f; exact d (Option.some.inj f)) e

section
variable {K : PySem.W.Frag} {σ : St} {H : Hp} {Q : VK} {te ta tb : TE} {t u : TS} {D : Ends} {p : Addr} {xs : List V} {a : Int} {v : V} {j : Nat}
theorem z_cutI (k : t { D with nx := u D } σ H) : tCut t u D σ H := ⟨u D, k, fun _ _ h => h⟩
theorem z_cut (M : St → Hp → Prop) (k : t { D with nx := M } σ H) (h : ∀ σ' H', M σ' H' → u D σ' H') : tCut t u D σ H := ⟨M, k, h⟩
theorem z_asgS (k : te σ H fun x H1 => ta σ H1 fun o H2 => tb σ H2 fun i H3 => rSetL o i x H3 fun H4 => D.nx σ H4) : tAsg te (gSub ta tb rSetL) D σ H := k
theorem z_setL {Q : Hp → Prop} (h : H p = some (.lst xs)) (e : ixN xs.length a = some j) (k : Q (upd H p (.lst (xs.set j v)))) : rSetL (.ref p) (.int a) v H Q := ⟨p, xs, a, j, rfl, rfl, h, e, k⟩
theorem z_app (h : H p = some (.lst xs)) (hl : xs.length < 100000) (k : Q .non (upd H p (.lst (xs ++ [v])))) : rAppend (.ref p) [v] H Q := ⟨p, xs, v, rfl, rfl, h, Nat.lt_of_lt_of_le hl (by decide), k⟩
theorem tyL (h : H p = some (.lst xs)) : tyV K "list" (.ref p) H := Or.inl ⟨rfl, _, Or.inl (Or.inl h)⟩
theorem z_bm {T : String} {r : V → List V → Hp → VK → Prop} {to : TE} {t : TA} (k : to σ H fun x H1 => tyV K T x H1 ∧ t σ H1 fun xs H2 => r x xs H2 Q) : tBM K T r to t σ H Q := k
theorem upd_self {H : Hp} {a : Addr} {o : HO} (h : H a = some o) : upd H a o = H := by
  funext b; unfold upd; split
  · rename_i e; subst e; exact h.symm
  · rfl
theorem ix_at {α : Type} {xs : List α} {i : Int} (h0 : 0 ≤ i) (h1 : i < xs.length) : ixN xs.length i = some i.toNat := by
  unfold ixN; rw [if_pos h0, if_pos h1]
theorem at_int {ns : List Int} {i : Int} (h0 : 0 ≤ i) (h1 : i < ns.length) : atI (ns.map V.int) i = some (.int (ns.getD i.toNat 0)) := by
  unfold atI
  rw [ix_at h0 (by simpa using h1)]
  have : i.toNat < ns.length := by omega
  simp [List.getD, this]
end
/-- a body keeps its promise, from the promise as it was handed in -/
def Wd (T : TS) (N : List Str) (n : Nat) (sp : Sp) : Prop := ∀ (vs : List V) (H : Hp) (Q : VK) (E : XK), sp vs H Q E → vs.length = n ∧ T { nx := fun _ H' => Q .non H', rt := Q } (start N vs) H

/-! ### comprehensions -/
def zLcR (g : TG) (tt : TT) (te : TE) (vs : List Nat) (σ : St) (lo : Int) (n : Nat) (H1 : Hp) (Q : VK) : Prop := ∀ D, H1 D = none → ∃ W : Nat → Nat → Hp → Prop, (∃ m, W 0 m (upd H1 D (.lst []))) ∧ ∀ i m H, W i m H →
  ((Itr lo n).stop i H ∧ Q (.ref D) H) ∨ ((Itr lo n).go i H ∧ ∃ Nx : Hp → Prop, (∀ H', Nx H' → ∃ m', m' < m ∧ W (i + 1) m' H') ∧ ∀ x H', (Itr lo n).yld i H x H' → g x (wipe σ vs) H' fun σ2 H2 => wipe σ2 vs = wipe σ vs ∧ tt σ2 H2 fun b H3 =>
    if b = true then te σ2 H3 fun y H4 => ∃ acc, H4 D = some (.lst acc) ∧ acc.length < sizeLine ∧ Nx (upd H4 D (.lst (acc ++ [y]))) else Nx H3)
def zLcR1 (g : TG) (tt : TT) (te : TE) (vs : List Nat) (σ : St) (as : List V) (H1 : Hp) (Q : VK) : Prop := ∃ j : Int, as = [.int j] ∧ -(2 ^ 62) ≤ j ∧ j < 2 ^ 62 ∧ zLcR g tt te vs σ 0 j.toNat H1 Q
def zLcL (K : PySem.W.Frag) (g : TG) (tt : TT) (te : TE) (vs : List Nat) (σ : St) (a : Addr) (H1 : Hp) (Q : VK) : Prop := ∀ D, H1 D = none → ∃ W : Nat → Nat → Hp → Prop, (∃ m, W 0 m (upd H1 D (.lst []))) ∧ ∀ i m H, W i m H →
  ((Itl K a).stop i H ∧ Q (.ref D) H) ∨ ((Itl K a).go i H ∧ ∃ Nx : Hp → Prop, (∀ H', Nx H' → ∃ m', m' < m ∧ W (i + 1) m' H') ∧ ∀ x H', (Itl K a).yld i H x H' → g x (wipe σ vs) H' fun σ2 H2 => wipe σ2 vs = wipe σ vs ∧ tt σ2 H2 fun b H3 =>
    if b = true then te σ2 H3 fun y H4 => ∃ acc, H4 D = some (.lst acc) ∧ acc.length < sizeLine ∧ Nx (upd H4 D (.lst (acc ++ [y]))) else Nx H3)
def zLcT (K : PySem.W.Frag) (g : TG) (tt : TT) (te : TE) (vs : List Nat) (σ : St) (a : Addr) (H1 : Hp) (Q : VK) : Prop := ∀ D, H1 D = none → ∃ W : Nat → Nat → Hp → Prop, (∃ m, W 0 m (upd H1 D (.lst []))) ∧ ∀ i m H, W i m H →
  ((Itt K a).stop i H ∧ Q (.ref D) H) ∨ ((Itt K a).go i H ∧ ∃ Nx : Hp → Prop, (∀ H', Nx H' → ∃ m', m' < m ∧ W (i + 1) m' H') ∧ ∀ x H', (Itt K a).yld i H x H' → g x (wipe σ vs) H' fun σ2 H2 => wipe σ2 vs = wipe σ vs ∧ tt σ2 H2 fun b H3 =>
    if b = true then te σ2 H3 fun y H4 => ∃ acc, H4 D = some (.lst acc) ∧ acc.length < sizeLine ∧ Nx (upd H4 D (.lst (acc ++ [y]))) else Nx H3)
def zLcS (K : PySem.W.Frag) (g : TG) (tt : TT) (te : TE) (vs : List Nat) (σ : St) (x : V) (H1 : Hp) (Q : VK) : Prop := ∃ a, x = .ref a ∧ (((∃ xs, SqL K H1 a xs) ∧ zLcL K g tt te vs σ a H1 Q) ∨ ((∃ xs, SqT K H1 a xs) ∧ zLcT K g tt te vs σ a H1 Q))
def zForS (K : PySem.W.Frag) (g : TG) (tb : TS) (D : Ends) (σ : St) (x : V) (H1 : Hp) : Prop := ∃ a, x = .ref a ∧ (((∃ xs, SqL K H1 a xs) ∧ ∃ W : Nat → Nat → St → Hp → Prop, (∃ m, W 0 m σ H1) ∧ ∀ i m σ H, W i m σ H →
  ((Itl K a).stop i H ∧ D.nx σ H) ∨ ((Itl K a).go i H ∧ ∃ N : St → Hp → Prop, (∀ σ' H', N σ' H' → ∃ m', m' < m ∧ W (i + 1) m' σ' H') ∧ ∀ x H', (Itl K a).yld i H x H' → g x σ H' fun σ2 H2 => tb { D with nx := N, ct := N, bk := D.nx } σ2 H2)) ∨
  ((∃ xs, SqT K H1 a xs) ∧ ∃ W : Nat → Nat → St → Hp → Prop, (∃ m, W 0 m σ H1) ∧ ∀ i m σ H, W i m σ H →
  ((Itt K a).stop i H ∧ D.nx σ H) ∨ ((Itt K a).go i H ∧ ∃ N : St → Hp → Prop, (∀ σ' H', N σ' H' → ∃ m', m' < m ∧ W (i + 1) m' σ' H') ∧ ∀ x H', (Itt K a).yld i H x H' → g x σ H' fun σ2 H2 => tb { D with nx := N, ct := N, bk := D.nx } σ2 H2)))

section
open PyProof.Rows
theorem pi_sq {X : Cx} {tg l : Expr} {tl : TE} (hl : PE X l tl) : PI X tg l (iSq X.K tl) := by
  refine ⟨fun pins s σ H R I h => ?_⟩
  refine thn (hl.run pins s σ H _ I h) fun v s1 ⟨x, H1, I1, r1, q1⟩ => ?_
  obtain ⟨a, e, q1⟩ := q1
  subst e
  cases r1
  rcases q1 with ⟨⟨xs, hq⟩, q⟩ | ⟨⟨xs, hq⟩, q⟩
  · obtain ⟨its, rv, p, hz⟩ := I1.list hq
    refine wpAny_pyIter_list p.isList ?_
    refine ⟨s1.heap.objs.size, [s1.heap.objs.size], _, _, H1, rfl, I1.kept (t' := s1.toks) fun b o e => Heap.get?_push_of_some _ e, turn_list a _, ⟨_, Heap.get?_push_size _ rfl, rfl, rfl⟩, fun b hb => ?_, q⟩
    have e : b = s1.heap.objs.size := by simpa using hb
    subst e
    exact I1.fpOk (Nat.le_refl _) (I1.hok.fresh (Nat.le_refl _))
  · obtain ⟨its, rv, p, hz⟩ := I1.tuple hq
    refine wpAny_pyIter_tuple (show s1.heap.IsTuple a its.toArray from p) ?_
    refine ⟨s1.heap.objs.size, [s1.heap.objs.size], _, _, H1, rfl, I1.kept (t' := s1.toks) fun b o e => Heap.get?_push_of_some _ e, turn_tuple a _, ⟨_, Heap.get?_push_size _ rfl, rfl, rfl⟩, fun b hb => ?_, q⟩
    have e : b = s1.heap.objs.size := by simpa using hb
    subst e
    exact I1.fpOk (Nat.le_refl _) (I1.hok.fresh (Nat.le_refl _))
end
section
variable {K : PySem.W.Frag} {σ : L2.St} {H : Hp} {Q : VK} {D : Ends} {tt : TT} {te tl : TE} {ta : TA} {vs : List Nat} {g : TG} {tb : TS} {a : Addr} {xs : List V}
theorem z_forSq (k : tl σ H fun x H1 => zForS K g tb D σ x H1) : tFor (iSq K tl) g tb D σ H := k
theorem z_lcSq (k : tl σ H fun x H1 => zLcS K g tt te vs σ x H1 Q) : tLc (iSq K tl) g tt te vs σ H Q := k
theorem z_lc1 (k : ta σ H fun as H1 => zLcR1 g tt te vs σ as H1 Q) : tLc (iRng1 ta) g tt te vs σ H Q := k
theorem z_yes {QB : Bool → Hp → Prop} (k : QB true H) : tYes σ H QB := k
theorem z_accum {D : Addr} {acc : List V} {P : List V → Prop} (h : H D = some (.lst acc)) (hl : acc.length < 100000) (k : P acc) : ∃ acc, H D = some (.lst acc) ∧ acc.length < sizeLine ∧ P acc :=
  ⟨acc, h, Nat.lt_of_lt_of_le hl (by decide), k⟩
/-- over a list that stays -/
theorem z_forL (h : SqL K H a xs) (Pv : Nat → L2.St → Hp → Prop) (h0 : Pv 0 σ H) (hl : ∀ i σ' H', i ≤ xs.length → Pv i σ' H' → SqL K H' a xs)
    (hs : ∀ i x σ' H', xs[i]? = some x → Pv i σ' H' → g x σ' H' fun σ2 H2 => tb { D with nx := Pv (i + 1), ct := Pv (i + 1), bk := D.nx } σ2 H2) (hd : ∀ σ' H', Pv xs.length σ' H' → D.nx σ' H') : zForS K g tb D σ (.ref a) H :=
  ⟨a, rfl, .inl ⟨⟨xs, h⟩, for_list Pv h0 hl hs hd⟩⟩
theorem z_forT (h : SqT K H a xs) (Pv : Nat → L2.St → Hp → Prop) (h0 : Pv 0 σ H) (hl : ∀ i σ' H', i ≤ xs.length → Pv i σ' H' → SqT K H' a xs)
    (hs : ∀ i x σ' H', xs[i]? = some x → Pv i σ' H' → g x σ' H' fun σ2 H2 => tb { D with nx := Pv (i + 1), ct := Pv (i + 1), bk := D.nx } σ2 H2) (hd : ∀ σ' H', Pv xs.length σ' H' → D.nx σ' H') : zForS K g tb D σ (.ref a) H :=
  ⟨a, rfl, .inr ⟨⟨xs, h⟩, for_tup Pv h0 hl hs hd⟩⟩
theorem z_gName {v : V} {i : Nat} {P : L2.St → Hp → Prop} (k : P (σ.set i (some v)) H) : gName i v σ H P := k
theorem z_lcr1 {j : Int} (hb : -1000000 ≤ j ∧ j ≤ 1000000) (k : zLcR g tt te vs σ 0 j.toNat H Q) : zLcR1 g tt te vs σ [.int j] H Q := ⟨j, rfl, by omega, by omega, k⟩
theorem z_lcr {lo : Int} {n : Nat} (Pv : Addr → Nat → Hp → Prop) (h0 : ∀ D, H D = none → Pv D 0 (upd H D (.lst [])))
    (hs : ∀ D i H', H D = none → i < n → Pv D i H' → g (.int (lo + i)) (wipe σ vs) H' fun σ2 H2 => wipe σ2 vs = wipe σ vs ∧ tt σ2 H2 fun b H3 =>
      if b = true then te σ2 H3 fun y H4 => ∃ acc, H4 D = some (.lst acc) ∧ acc.length < sizeLine ∧ Pv D (i + 1) (upd H4 D (.lst (acc ++ [y]))) else Pv D (i + 1) H3)
    (hd : ∀ D H', H D = none → Pv D n H' → Q (.ref D) H') : zLcR g tt te vs σ lo n H Q :=
  fun D hD => lc_range (Pv D) (h0 D hD) (fun i H' hi p => hs D i H' hD hi p) (fun H' p => hd D H' hD p)
theorem z_lcl (h : SqL K H a xs) (Pv : Addr → Nat → Hp → Prop) (h0 : ∀ D, H D = none → Pv D 0 (upd H D (.lst []))) (hl : ∀ D i H', H D = none → i ≤ xs.length → Pv D i H' → SqL K H' a xs)
    (hs : ∀ D i x H', H D = none → xs[i]? = some x → Pv D i H' → g x (wipe σ vs) H' fun σ2 H2 => wipe σ2 vs = wipe σ vs ∧ tt σ2 H2 fun b H3 =>
      if b = true then te σ2 H3 fun y H4 => ∃ acc, H4 D = some (.lst acc) ∧ acc.length < sizeLine ∧ Pv D (i + 1) (upd H4 D (.lst (acc ++ [y]))) else Pv D (i + 1) H3)
    (hd : ∀ D H', H D = none → Pv D xs.length H' → Q (.ref D) H') : zLcS K g tt te vs σ (.ref a) H Q :=
  ⟨a, rfl, .inl ⟨⟨xs, h⟩, fun D hD => lc_list (Pv D) (h0 D hD) (fun i H' hi p => hl D i H' hD hi p) (fun i x H' hi p => hs D i x H' hD hi p) (fun H' p => hd D H' hD p)⟩⟩
theorem z_lct (h : SqT K H a xs) (Pv : Addr → Nat → Hp → Prop) (h0 : ∀ D, H D = none → Pv D 0 (upd H D (.lst []))) (hl : ∀ D i H', H D = none → i ≤ xs.length → Pv D i H' → SqT K H' a xs)
    (hs : ∀ D i x H', H D = none → xs[i]? = some x → Pv D i H' → g x (wipe σ vs) H' fun σ2 H2 => wipe σ2 vs = wipe σ vs ∧ tt σ2 H2 fun b H3 =>
      if b = true then te σ2 H3 fun y H4 => ∃ acc, H4 D = some (.lst acc) ∧ acc.length < sizeLine ∧ Pv D (i + 1) (upd H4 D (.lst (acc ++ [y]))) else Pv D (i + 1) H3)
    (hd : ∀ D H', H D = none → Pv D xs.length H' → Q (.ref D) H') : zLcS K g tt te vs σ (.ref a) H Q :=
  ⟨a, rfl, .inr ⟨⟨xs, h⟩, fun D hD => lc_tup (Pv D) (h0 D hD) (fun i H' hi p => hl D i H' hD hi p) (fun i x H' hi p => hs D i x H' hD hi p) (fun H' p => hd D H' hD p)⟩⟩
end
/-! ### zip -/
def zZip (K : PySem.W.Frag) (g : TG) (tb : TS) (D : Ends) (σ : L2.St) (vs : List V) (H1 : Hp) : Prop := ∃ a b xs ys, vs = [.ref a, .ref b] ∧ ((SqL K H1 a xs ∧ SqL K H1 b ys ∧ ∃ W : Nat → Nat → L2.St → Hp → Prop, (∃ m, W 0 m σ H1) ∧ ∀ i m σ H, W i m σ H →
  ((Itz K a b).stop i H ∧ D.nx σ H) ∨ ((Itz K a b).go i H ∧ ∃ N : L2.St → Hp → Prop, (∀ σ' H', N σ' H' → ∃ m', m' < m ∧ W (i + 1) m' σ' H') ∧ ∀ x H', (Itz K a b).yld i H x H' → g x σ H' fun σ2 H2 => tb { D with nx := N, ct := N, bk := D.nx } σ2 H2)) ∨
  (SqT K H1 a xs ∧ SqT K H1 b ys ∧ ∃ W : Nat → Nat → L2.St → Hp → Prop, (∃ m, W 0 m σ H1) ∧ ∀ i m σ H, W i m σ H →
  ((RZ.ItzT K a b).stop i H ∧ D.nx σ H) ∨ ((RZ.ItzT K a b).go i H ∧ ∃ N : L2.St → Hp → Prop, (∀ σ' H', N σ' H' → ∃ m', m' < m ∧ W (i + 1) m' σ' H') ∧ ∀ x H', (RZ.ItzT K a b).yld i H x H' → g x σ H' fun σ2 H2 => tb { D with nx := N, ct := N, bk := D.nx } σ2 H2)))
theorem Same.sqT {K : PySem.W.Frag} {H H' : Hp} {a : Addr} {xs : List V} (e : Same H H') (h : SqT K H a xs) : SqT K H' a xs := by
  rcases h with (h | ⟨o, h⟩) | h
  · exact .inl (.inl (e _ _ h))
  · exact .inl (.inr ⟨o, e _ _ h⟩)
  · exact .inr h
theorem Same.new {H H' : Hp} {p : Addr} {o : HO} (h : H' p = none) (e : Same H H') : Same H (upd H' p o) := fun b u q => lk_ne (ne_of_none (e b u q) h) (e b u q)
section
variable {K : PySem.W.Frag} {σ : L2.St} {H : Hp} {D : Ends} {ta : TA} {g : TG} {tb : TS} {a b : Addr} {xs ys : List V}
theorem z_forZ (k : ta σ H fun vs H1 => zZip K g tb D σ vs H1) : tFor (RZ.iZipA K ta) g tb D σ H := k
theorem z_zip {u v : Nat} (h : (SqL K H a xs ∧ SqL K H b ys) ∨ (SqT K H a xs ∧ SqT K H b ys)) (Pv : Nat → L2.St → Hp → Prop) (h0 : Pv 0 σ H) (hk : ∀ i σ' H', Pv i σ' H' → Same H H')
    (hs : ∀ i x y p σ' H', xs[i]? = some x → ys[i]? = some y → Pv i σ' H' → H' p = none → tb { D with nx := Pv (i + 1), ct := Pv (i + 1), bk := D.nx } ((σ'.set u (some x)).set v (some y)) (upd H' p (.tup [x, y])))
    (hd : ∀ σ' H', Pv (min xs.length ys.length) σ' H' → D.nx σ' H') : zZip K (gTup K 2 (gCons (gName u) (gCons (gName v) gNil))) tb D σ [.ref a, .ref b] H := by
  refine ⟨a, b, xs, ys, rfl, ?_⟩
  rcases h with ⟨h1, h2⟩ | ⟨h1, h2⟩
  · refine .inl ⟨h1, h2, fun i m σ H => m = min xs.length ys.length - i ∧ i ≤ min xs.length ys.length ∧ Pv i σ H, ⟨_, rfl, Nat.zero_le _, h0⟩, ?_⟩
    rintro i m σ' H' ⟨rfl, hi, p⟩
    have s := hk i σ' H' p
    have q1 := Same.seq s h1
    have q2 := Same.seq s h2
    by_cases hlt : i < min xs.length ys.length
    · have l1 : i < xs.length := by omega
      have l2 : i < ys.length := by omega
      refine .inr ⟨⟨xs, ys, xs[i], ys[i], q1, q2, by simp [l1], by simp [l2]⟩, Pv (i + 1), fun σ2 H2 p' => ⟨_, by omega, rfl, by omega, p'⟩, ?_⟩
      rintro x H2 ⟨T, x1, y1, rfl, hT, rfl, f1, f2⟩
      exact ⟨T, [x1, y1], rfl, .inl (.inl upd_same), rfl, x1, [y1], rfl, y1, [], rfl, rfl, hs i x1 y1 T σ' H' (f1 xs q1) (f2 ys q2) p hT⟩
    · have e : i = min xs.length ys.length := by omega
      subst e
      exact .inl ⟨⟨xs, ys, q1, q2, by omega⟩, hd σ' H' p⟩
  · refine .inr ⟨h1, h2, fun i m σ H => m = min xs.length ys.length - i ∧ i ≤ min xs.length ys.length ∧ Pv i σ H, ⟨_, rfl, Nat.zero_le _, h0⟩, ?_⟩
    rintro i m σ' H' ⟨rfl, hi, p⟩
    have s := hk i σ' H' p
    have q1 := Same.sqT s h1
    have q2 := Same.sqT s h2
    by_cases hlt : i < min xs.length ys.length
    · have l1 : i < xs.length := by omega
      have l2 : i < ys.length := by omega
      refine .inr ⟨⟨xs, ys, xs[i], ys[i], q1, q2, by simp [l1], by simp [l2]⟩, Pv (i + 1), fun σ2 H2 p' => ⟨_, by omega, rfl, by omega, p'⟩, ?_⟩
      rintro x H2 ⟨T, x1, y1, rfl, hT, rfl, f1, f2⟩
      exact ⟨T, [x1, y1], rfl, .inl (.inl upd_same), rfl, x1, [y1], rfl, y1, [], rfl, rfl, hs i x1 y1 T σ' H' (f1 xs q1) (f2 ys q2) p hT⟩
    · have e : i = min xs.length ys.length := by omega
      subst e
      exact .inl ⟨⟨xs, ys, q1, q2, by omega⟩, hd σ' H' p⟩
end
/-- an item of a list of ints -/
theorem map_int {xs : List Int} {i : Nat} {x : V} (h : (xs.map V.int)[i]? = some x) : i < xs.length ∧ x = .int (xs.getD i 0) := by
  rw [List.getElem?_map] at h
  cases e : xs[i]? with
  | none => rw [e] at h; cases h
  | some y =>
    rw [e] at h
    obtain ⟨l, _⟩ := List.getElem?_eq_some_iff.mp e
    exact ⟨l, by rw [List.getD_eq_getElem?_getD, e]; exact (Option.some.inj h).symm⟩
/-- a, b = a pair -/
theorem z_gTup2 {K : PySem.W.Frag} {H : Hp} {σ : L2.St} {P : L2.St → Hp → Prop} {t : Addr} {x y : V} {u v : Nat} (h : SqT K H t [x, y]) (k : P ((σ.set u (some x)).set v (some y)) H) : gTup K 2 (gCons (gName u) (gCons (gName v) gNil)) (.ref t) σ H P :=
  ⟨t, [x, y], rfl, h, rfl, x, [y], rfl, y, [], rfl, rfl, k⟩
/-! ### enumerate -/
def zEnum (K : PySem.W.Frag) (g : TG) (tb : TS) (D : Ends) (σ : L2.St) (vs : List V) (H1 : Hp) : Prop := ∃ a xs, vs = [.ref a] ∧ SqL K H1 a xs ∧ ∃ W : Nat → Nat → L2.St → Hp → Prop, (∃ m, W 0 m σ H1) ∧ ∀ i m σ H, W i m σ H →
  ((Ite K a).stop i H ∧ D.nx σ H) ∨ ((Ite K a).go i H ∧ ∃ N : L2.St → Hp → Prop, (∀ σ' H', N σ' H' → ∃ m', m' < m ∧ W (i + 1) m' σ' H') ∧ ∀ x H', (Ite K a).yld i H x H' → g x σ H' fun σ2 H2 => tb { D with nx := N, ct := N, bk := D.nx } σ2 H2)
def zLcE (K : PySem.W.Frag) (g : TG) (tt : TT) (te : TE) (vs : List Nat) (σ : L2.St) (as : List V) (H1 : Hp) (Q : VK) : Prop := ∃ a xs, as = [.ref a] ∧ SqL K H1 a xs ∧ ∀ D, H1 D = none → ∃ W : Nat → Nat → Hp → Prop, (∃ m, W 0 m (upd H1 D (.lst []))) ∧ ∀ i m H, W i m H →
  ((Ite K a).stop i H ∧ Q (.ref D) H) ∨ ((Ite K a).go i H ∧ ∃ Nx : Hp → Prop, (∀ H', Nx H' → ∃ m', m' < m ∧ W (i + 1) m' H') ∧ ∀ x H', (Ite K a).yld i H x H' → g x (wipe σ vs) H' fun σ2 H2 => wipe σ2 vs = wipe σ vs ∧ tt σ2 H2 fun b H3 =>
    if b = true then te σ2 H3 fun y H4 => ∃ acc, H4 D = some (.lst acc) ∧ acc.length < sizeLine ∧ Nx (upd H4 D (.lst (acc ++ [y]))) else Nx H3)
section
variable {K : PySem.W.Frag} {σ : L2.St} {H : Hp} {D : Ends} {ta : TA} {g : TG} {tb : TS} {a : Addr} {xs : List V} {tt : TT} {te : TE} {vs : List Nat} {Q : VK}
theorem z_forE (k : ta σ H fun vs H1 => zEnum K g tb D σ vs H1) : tFor (iEnum K ta) g tb D σ H := k
theorem z_lcE (k : ta σ H fun as H1 => zLcE K g tt te vs σ as H1 Q) : tLc (iEnum K ta) g tt te vs σ H Q := k
theorem z_enum {u v : Nat} (h : SqL K H a xs) (Pv : Nat → L2.St → Hp → Prop) (h0 : Pv 0 σ H) (hk : ∀ i σ' H', Pv i σ' H' → SqL K H' a xs)
    (hs : ∀ i x p σ' H', xs[i]? = some x → Pv i σ' H' → H' p = none → tb { D with nx := Pv (i + 1), ct := Pv (i + 1), bk := D.nx } ((σ'.set u (some (.int (i : Nat)))).set v (some x)) (upd H' p (.tup [.int (i : Nat), x])))
    (hd : ∀ σ' H', Pv xs.length σ' H' → D.nx σ' H') : zEnum K (gTup K 2 (gCons (gName u) (gCons (gName v) gNil))) tb D σ [.ref a] H := by
  refine ⟨a, xs, rfl, h, fun i m σ H => m = xs.length - i ∧ i ≤ xs.length ∧ Pv i σ H, ⟨_, rfl, Nat.zero_le _, h0⟩, ?_⟩
  rintro i m σ' H' ⟨rfl, hi, p⟩
  have q1 := hk i σ' H' p
  by_cases hlt : i < xs.length
  · refine .inr ⟨⟨xs, xs[i], q1, by simp [hlt]⟩, Pv (i + 1), fun σ2 H2 p' => ⟨_, by omega, rfl, by omega, p'⟩, ?_⟩
    rintro x H2 ⟨T, x1, rfl, hT, rfl, f1⟩
    exact ⟨T, [.int (i : Nat), x1], rfl, .inl (.inl upd_same), rfl, .int (i : Nat), [x1], rfl, x1, [], rfl, rfl, hs i x1 T σ' H' (f1 xs q1) p hT⟩
  · have e : i = xs.length := by omega
    subst e
    exact .inl ⟨⟨xs, q1, by omega⟩, hd σ' H' p⟩
theorem z_lce {u v : Nat} (h : SqL K H a xs) (Pv : Addr → Nat → Hp → Prop) (h0 : ∀ D, H D = none → Pv D 0 (upd H D (.lst []))) (hk : ∀ D i H', H D = none → Pv D i H' → SqL K H' a xs)
    (hs : ∀ D i x p H', H D = none → xs[i]? = some x → Pv D i H' → H' p = none → wipe (((wipe σ vs).set u (some (.int (i : Nat)))).set v (some x)) vs = wipe σ vs ∧ tt (((wipe σ vs).set u (some (.int (i : Nat)))).set v (some x)) (upd H' p (.tup [.int (i : Nat), x])) fun b H3 =>
      if b = true then te (((wipe σ vs).set u (some (.int (i : Nat)))).set v (some x)) H3 fun y H4 => ∃ acc, H4 D = some (.lst acc) ∧ acc.length < sizeLine ∧ Pv D (i + 1) (upd H4 D (.lst (acc ++ [y]))) else Pv D (i + 1) H3)
    (hd : ∀ D H', H D = none → Pv D xs.length H' → Q (.ref D) H') : zLcE K (gTup K 2 (gCons (gName u) (gCons (gName v) gNil))) tt te vs σ [.ref a] H Q := by
  refine ⟨a, xs, rfl, h, fun D hD => ⟨fun i m H => m = xs.length - i ∧ i ≤ xs.length ∧ Pv D i H, ⟨_, rfl, Nat.zero_le _, h0 D hD⟩, ?_⟩⟩
  rintro i m H' ⟨rfl, hi, p⟩
  have q1 := hk D i H' hD p
  by_cases hlt : i < xs.length
  · refine .inr ⟨⟨xs, xs[i], q1, by simp [hlt]⟩, Pv D (i + 1), fun H2 p' => ⟨_, by omega, rfl, by omega, p'⟩, ?_⟩
    rintro x H2 ⟨T, x1, rfl, hT, rfl, f1⟩
    exact ⟨T, [.int (i : Nat), x1], rfl, .inl (.inl upd_same), rfl, .int (i : Nat), [x1], rfl, x1, [], rfl, rfl, hs D i x1 T H' hD (f1 xs q1) p hT⟩
  · have e : i = xs.length := by omega
    subst e
    exact .inl ⟨⟨xs, q1, by omega⟩, hd D H' hD p⟩
end
/-! ### attributes -/
def zFld (K : PySem.W.Frag) (f : Str) (x : V) (H : Hp) (Q : VK) : Prop := ∃ a C dx fs v, x = .ref a ∧ H a = some (.ins C dx fs) ∧ Cls K C ∧ NoAttr K C f ∧ fs.lookup f = some v ∧ Q v H
def zSet (K : PySem.W.Frag) (f : Str) (y x : V) (H : Hp) (N : Hp → Prop) : Prop := ∃ a C dx fs, x = .ref a ∧ H a = some (.ins C dx fs) ∧ Cls K C ∧ NoAttr K C f ∧ fs.length < 1000 ∧ N (upd H a (.ins C dx (putF f y fs)))
theorem z_fldt {K : PySem.W.Frag} {σ : L2.St} {H : Hp} {ta : TE} {f : Str} {Q : VK} (k : ta σ H fun x H1 => zFld K f x H1 Q) : tFld K ta f σ H Q := k
theorem z_sett {K : PySem.W.Frag} {σ : L2.St} {H : Hp} {ta tv : TE} {f : Str} {D : Ends} (k : tv σ H fun y H1 => ta σ H1 fun x H2 => zSet K f y x H2 fun H3 => D.nx σ H3) : sFld K ta tv f D σ H := k
/-! ### slices -/
def uSl (K : PySem.W.Frag) : V → Option Int → Option Int → Hp → VK → Prop := fun x lo hi H Q => match x with
  | .ref a => rSlL K (.ref a) lo hi H Q ∨ rSlA K (.ref a) lo hi H Q
  | .str z => z.length ≤ sizeLine ∧ Q (.str (cutS z lo hi)) H
  | _ => False
theorem sl_uSl {X : Cx} : SlR X (uSl X.K) := by
  intro pins s σ H x v vl vu lo hi sl Q I rx hs pl pu h
  cases x <;> first | exact h.elim | skip
  · exact sl_str pins s σ H _ v vl vu lo hi sl Q I rx hs pl pu ⟨_, rfl, h.1, h.2⟩
  · exact (sl_list.or sl_tupA) pins s σ H _ v vl vu lo hi sl Q I rx hs pl pu h
section
variable {K : PySem.W.Frag} {σ : L2.St} {H : Hp} {Q : VK} {te : TE} {tl th : TO} {p : Addr} {xs : List V} {lo hi : Option Int} {QO : Option Int → Hp → Prop}
theorem z_sl {r : V → Option Int → Option Int → Hp → VK → Prop} (k : te σ H fun x H1 => tl σ H1 fun l H2 => th σ H2 fun u H3 => r x l u H3 Q) : tSl r te tl th σ H Q := k
theorem z_part (k : te σ H fun x H1 => ∃ i, x = .int i ∧ QO (some i) H1) : tPart te σ H QO := k
theorem z_noPart (k : QO none H) : tNoPart σ H QO := k
theorem z_parti {P : Int → Prop} {a : Int} (k : P a) : ∃ i, V.int a = .int i ∧ P i := ⟨a, rfl, k⟩
theorem z_slL (h : SqL K H p xs) (k : ∀ l, H l = none → Q (.ref l) (upd H l (.lst (cutV xs lo hi)))) : uSl K (.ref p) lo hi H Q := .inl ⟨p, xs, rfl, h, k⟩
theorem z_slS {x : Str} (h : x.length ≤ 100000) (k : Q (.str (cutS x lo hi)) H) : uSl K (.str x) lo hi H Q := ⟨Nat.le_trans h (by decide), k⟩
end
theorem cutV_ints (ns : List Int) (lo hi : Option Int) : cutV (ns.map V.int) lo hi = ((ns.drop (HT.sIx ns.length 0 lo)).take (HT.sIx ns.length ns.length hi - HT.sIx ns.length 0 lo)).map V.int := by
  unfold cutV; rw [List.length_map, List.map_take, List.map_drop]
theorem cutV_refs (ps : List Addr) (lo hi : Option Int) : cutV (ps.map V.ref) lo hi = ((ps.drop (HT.sIx ps.length 0 lo)).take (HT.sIx ps.length ps.length hi - HT.sIx ps.length 0 lo)).map V.ref := by
  unfold cutV; rw [List.length_map, List.map_take, List.map_drop]
theorem sIx_pos {n d : Nat} {i : Int} (h : 0 ≤ i) : HT.sIx n d (some i) = min i.toNat n := by
  show (if i < 0 then (i + (n : Int)).toNat else min i.toNat n) = _
  rw [if_neg (by omega)]
/-! ### comprehensions over zip -/
def zLcZ (K : PySem.W.Frag) (g : TG) (tt : TT) (te : TE) (vs : List Nat) (σ : L2.St) (as : List V) (H1 : Hp) (Q : VK) : Prop := ∃ a b xs ys, as = [.ref a, .ref b] ∧ ((SqL K H1 a xs ∧ SqL K H1 b ys ∧ ∀ D, H1 D = none → ∃ W : Nat → Nat → Hp → Prop, (∃ m, W 0 m (upd H1 D (.lst []))) ∧ ∀ i m H, W i m H →
  ((Itz K a b).stop i H ∧ Q (.ref D) H) ∨ ((Itz K a b).go i H ∧ ∃ Nx : Hp → Prop, (∀ H', Nx H' → ∃ m', m' < m ∧ W (i + 1) m' H') ∧ ∀ x H', (Itz K a b).yld i H x H' → g x (wipe σ vs) H' fun σ2 H2 => wipe σ2 vs = wipe σ vs ∧ tt σ2 H2 fun b H3 =>
    if b = true then te σ2 H3 fun y H4 => ∃ acc, H4 D = some (.lst acc) ∧ acc.length < sizeLine ∧ Nx (upd H4 D (.lst (acc ++ [y]))) else Nx H3)) ∨
  (SqT K H1 a xs ∧ SqT K H1 b ys ∧ ∀ D, H1 D = none → ∃ W : Nat → Nat → Hp → Prop, (∃ m, W 0 m (upd H1 D (.lst []))) ∧ ∀ i m H, W i m H →
  ((RZ.ItzT K a b).stop i H ∧ Q (.ref D) H) ∨ ((RZ.ItzT K a b).go i H ∧ ∃ Nx : Hp → Prop, (∀ H', Nx H' → ∃ m', m' < m ∧ W (i + 1) m' H') ∧ ∀ x H', (RZ.ItzT K a b).yld i H x H' → g x (wipe σ vs) H' fun σ2 H2 => wipe σ2 vs = wipe σ vs ∧ tt σ2 H2 fun b H3 =>
    if b = true then te σ2 H3 fun y H4 => ∃ acc, H4 D = some (.lst acc) ∧ acc.length < sizeLine ∧ Nx (upd H4 D (.lst (acc ++ [y]))) else Nx H3)))
section
variable {K : PySem.W.Frag} {σ : L2.St} {H : Hp} {ta : TA} {g : TG} {a b : Addr} {xs ys : List V} {tt : TT} {te : TE} {vs : List Nat} {Q : VK}
theorem z_lcZ (k : ta σ H fun as H1 => zLcZ K g tt te vs σ as H1 Q) : tLc (RZ.iZipA K ta) g tt te vs σ H Q := k
theorem z_lcz {u v : Nat} (h : (SqL K H a xs ∧ SqL K H b ys) ∨ (SqT K H a xs ∧ SqT K H b ys)) (Pv : Addr → Nat → Hp → Prop) (h0 : ∀ D, H D = none → Pv D 0 (upd H D (.lst []))) (hk : ∀ D i H', H D = none → Pv D i H' → Same H H')
    (hs : ∀ D i x y p H', H D = none → xs[i]? = some x → ys[i]? = some y → Pv D i H' → H' p = none → wipe (((wipe σ vs).set u (some x)).set v (some y)) vs = wipe σ vs ∧ tt (((wipe σ vs).set u (some x)).set v (some y)) (upd H' p (.tup [x, y])) fun b H3 =>
      if b = true then te (((wipe σ vs).set u (some x)).set v (some y)) H3 fun z H4 => ∃ acc, H4 D = some (.lst acc) ∧ acc.length < sizeLine ∧ Pv D (i + 1) (upd H4 D (.lst (acc ++ [z]))) else Pv D (i + 1) H3)
    (hd : ∀ D H', H D = none → Pv D (min xs.length ys.length) H' → Q (.ref D) H') : zLcZ K (gTup K 2 (gCons (gName u) (gCons (gName v) gNil))) tt te vs σ [.ref a, .ref b] H Q := by
  refine ⟨a, b, xs, ys, rfl, ?_⟩
  rcases h with ⟨h1, h2⟩ | ⟨h1, h2⟩
  · refine .inl ⟨h1, h2, fun D hD => ⟨fun i m H => m = min xs.length ys.length - i ∧ i ≤ min xs.length ys.length ∧ Pv D i H, ⟨_, rfl, Nat.zero_le _, h0 D hD⟩, ?_⟩⟩
    rintro i m H' ⟨rfl, hi, p⟩
    have s := hk D i H' hD p
    have q1 := Same.seq s h1
    have q2 := Same.seq s h2
    by_cases hlt : i < min xs.length ys.length
    · have l1 : i < xs.length := by omega
      have l2 : i < ys.length := by omega
      refine .inr ⟨⟨xs, ys, xs[i], ys[i], q1, q2, by simp [l1], by simp [l2]⟩, Pv D (i + 1), fun H2 p' => ⟨_, by omega, rfl, by omega, p'⟩, ?_⟩
      rintro x H2 ⟨T, x1, y1, rfl, hT, rfl, f1, f2⟩
      exact ⟨T, [x1, y1], rfl, .inl (.inl upd_same), rfl, x1, [y1], rfl, y1, [], rfl, rfl, hs D i x1 y1 T H' hD (f1 xs q1) (f2 ys q2) p hT⟩
    · have e : i = min xs.length ys.length := by omega
      subst e
      exact .inl ⟨⟨xs, ys, q1, q2, by omega⟩, hd D H' hD p⟩
  · refine .inr ⟨h1, h2, fun D hD => ⟨fun i m H => m = min xs.length ys.length - i ∧ i ≤ min xs.length ys.length ∧ Pv D i H, ⟨_, rfl, Nat.zero_le _, h0 D hD⟩, ?_⟩⟩
    rintro i m H' ⟨rfl, hi, p⟩
    have s := hk D i H' hD p
    have q1 := Same.sqT s h1
    have q2 := Same.sqT s h2
    by_cases hlt : i < min xs.length ys.length
    · have l1 : i < xs.length := by omega
      have l2 : i < ys.length := by omega
      refine .inr ⟨⟨xs, ys, xs[i], ys[i], q1, q2, by simp [l1], by simp [l2]⟩, Pv D (i + 1), fun H2 p' => ⟨_, by omega, rfl, by omega, p'⟩, ?_⟩
      rintro x H2 ⟨T, x1, y1, rfl, hT, rfl, f1, f2⟩
      exact ⟨T, [x1, y1], rfl, .inl (.inl upd_same), rfl, x1, [y1], rfl, y1, [], rfl, rfl, hs D i x1 y1 T H' hD (f1 xs q1) (f2 ys q2) p hT⟩
    · have e : i = min xs.length ys.length := by omega
      subst e
      exact .inl ⟨⟨xs, ys, q1, q2, by omega⟩, hd D H' hD p⟩
end
/-! ### constants of the module -/
theorem z_gint {X : Cx} {x : Str} {i : Int} {pos : Pos} (hm : ∃ t, X.mg x = some (.int i t)) (hg : Gl X x) (hd : (x == ("__debug__" : Str)) = false := by decide) : PE X (.Name x pos) (tC (.int i)) := by
  obtain ⟨t, hm⟩ := hm
  exact pe_glob hg hm ⟨t, rfl⟩ hd
theorem z_gstr {X : Cx} {x y : Str} {pos : Pos} (hm : ∃ t, X.mg x = some (.str y t)) (hg : Gl X x) (hd : (x == ("__debug__" : Str)) = false := by decide) : PE X (.Name x pos) (tC (.str y)) := by
  obtain ⟨t, hm⟩ := hm
  exact pe_glob hg hm ⟨t, rfl⟩ hd

local macro_rules | `(tactic| walk_at "ne") => `(tactic| with_reducible first | assumption | exact Ne.symm (by assumption) | exact ne_n (by assumption) (by assumption) | exact Ne.symm (ne_n (by assumption) (by assumption)))
local macro_rules | `(tactic| walk_at "df") => `(tactic| (intro zz; cases zz; done))
local macro_rules | `(tactic| walk_at "ns") => `(tactic| first | exact NotSt.ints | exact NotSt.refs | exact NotSt.strs | (intro _ _ _ zz; cases zz; done))
local macro_rules | `(tactic| walk_at "lk") => `(tactic| with_reducible first | assumption | ((show upd _ _ _ _ = _); first | exact upd_same | exact lk_new (by assumption) (by walk_at "lk") | ((fail_if_success refine lk_new (by assumption) ?_); first | exact lk_ne (by walk_at "ne") (by walk_at "lk") | exact lk_df (by walk_at "lk") (by walk_at "lk") (by with_unfolding_all walk_at "df"))) | exact ExD.lk (by assumption) (by walk_at "lk") (by with_unfolding_all walk_at "ns") | exact Same.lk (by assumption) (by walk_at "lk"))
local macro_rules | `(tactic| walk_at "sqL") => `(tactic| with_reducible first | assumption | exact SqL.of (by walk_at "lk") | ((show SqL _ (upd _ _ _) _ _); first | exact sqL_new (by assumption) (by walk_at "sqL") | exact sqL_ne (by walk_at "ne") (by walk_at "sqL")) | exact Same.seq (by assumption) (by walk_at "sqL"))
local macro_rules | `(tactic| walk_at "sqT") => `(tactic| with_reducible first | assumption | exact SqT.of (by walk_at "lk") | ((show SqT _ (upd _ _ _) _ _); first | exact sqT_new (by assumption) (by walk_at "sqT") | exact sqT_ne (by walk_at "ne") (by walk_at "sqT")))
local macro_rules | `(tactic| walk_at "sq") => `(tactic| first | exact Or.inl (by walk_at "sqL") | exact Or.inr (by walk_at "sqT"))
local macro_rules | `(tactic| walk_at "mulok") => `(tactic| first | exact mul1 (by omega) | exact mul2 (by omega))
local macro_rules | `(tactic| walk_at "few") => `(tactic| (simp only [List.length_cons, List.length_nil]; with_unfolding_all decide))
local macro_rules | `(tactic| walk_at "zo") => `(tactic| (with_reducible first
  | refine z_add ?_ | refine z_sub ?_ | refine z_lt ?_ | refine z_le ?_ | refine z_gt ?_ | refine z_ge ?_ | refine z_eq ?_ | refine z_ne ?_ | refine z_neg ?_ | refine z_int ?_ | refine z_max ?_ | refine z_min ?_ | refine z_abs ?_
  | refine z_eqS ?_ | refine z_neS ?_ | refine z_eqIS ?_ | refine z_eqSI ?_ | refine z_neIS ?_ | refine z_neSI ?_ | refine z_eqB ?_ | refine z_neB ?_ | refine z_eqN ?_ | refine z_neN ?_ | refine z_is ?_ | refine z_isNot ?_ | refine z_isB ?_ | refine z_isNotB ?_ | refine z_isbb ?_ | refine z_isbi ?_
  | refine z_ltS ?_ | refine z_leS ?_ | refine z_gtS ?_ | refine z_geS ?_ | refine z_isii ?_ | refine z_isib ?_))
local macro_rules | `(tactic| walk_at "zp") => `(tactic| with_reducible first
  | ((show uMul _ _ _ _); refine z_mul (by walk_at "mulok") ?_)
  | ((show uDiv _ _ _ _); refine z_div (by exact div1 (by omega)) ?_)
  | ((show uMod _ _ _ _); refine z_mod (by omega) ?_)
  | ((show uPow _ _ _ _); refine z_pow (by with_unfolding_all exact ⟨by decide, by decide, by decide⟩) ?_; (simp only [Int.reduceToNat, Int.reducePow]))
  | ((show uIx _ _ _ _ _); refine z_ix (by walk_at "sq") (by first | with_unfolding_all rfl | assumption) ?_)
  | ((show uLen _ _ _ _); refine z_len (by walk_at "sq") ?_)
  | ((show uList _ _ _ _); refine z_list (by walk_at "sq") ?_; intro _ _)
  | ((show uSl _ (V.ref _) _ _ _ _); refine z_slL (by walk_at "sqL") ?_; intro _ _)
  | ((show rSetL _ _ _ _ _); refine z_setL (by walk_at "lk") (by with_unfolding_all rfl) ?_)
  | ((show tyV _ "list" _ _ ∧ _); refine ⟨tyL (by walk_at "lk"), ?_⟩)
  | ((show uIsi _ [_, V.ty "list"] _ _); refine z_isll (by walk_at "lk") ?_)
  | ((show uIsi _ [_, V.ty "tuple"] _ _); refine z_istt (by walk_at "lk") ?_)
  | ((show zNewL _ _ _); refine z_newL (by walk_at "few") ?_; intro _ _)
  | ((show zNewT _ _ _); refine z_newT (by walk_at "few") ?_; intro _ _))
local macro_rules | `(tactic| walk_at "ze") => `(tactic| (with_reducible first
  | ((show tVar _ _ _ _); refine z_var (by with_unfolding_all rfl) ?_) | refine z_c ?_ | refine z_op ?_ | refine z_cons ?_ | refine z_nil ?_ | refine z_cal ?_ | refine z_cb ?_ | refine z_test ?_ | refine z_bl ?_ | refine z_un ?_
  | refine z_tru ?_ | refine z_trub ?_ | refine z_trui ?_ | refine z_and ?_ | refine z_or ?_ | refine z_not ?_ | refine z_andV ?_ | refine z_orV ?_ | refine z_notV ?_ | refine z_bl1 ?_ | refine z_if ?_ | refine z_lst ?_ | refine z_tup ?_ | refine z_chain ?_))
local macro_rules | `(tactic| walk_at "zs") => `(tactic| (with_reducible first
  | refine z_seq ?_ | refine z_asg ?_ | refine z_ifS ?_ | refine z_ret ?_ | refine z_drop ?_ | refine z_next ?_ | refine z_brk ?_ | refine z_cont ?_ | refine z_retN ?_ | refine z_iteT ?_ | refine z_iteF ?_ | refine z_for1 ?_ | refine z_for2 ?_ | refine z_asgS ?_ | refine z_bm ?_ | refine z_forSq ?_ | refine z_forZ ?_ | refine z_forE ?_ | refine z_lcE ?_ | refine z_lcZ ?_ | refine z_fldt ?_ | refine z_sett ?_ | refine z_lcSq ?_ | refine z_lc1 ?_ | refine z_yes ?_ | refine z_gName ?_ | refine z_sl ?_ | refine z_part ?_ | refine z_noPart ?_ | refine z_parti ?_))
local macro_rules | `(tactic| walk_at "z") => `(tactic| first | walk_at "ze" | walk_at "zo" | walk_at "zs" | walk_at "zp" | (dsimp only [List.set]))
local macro_rules | `(tactic| walk_at "zz") => `(tactic| repeat (walk_at "z"))
local macro_rules | `(tactic| walk_at "zd") => `(tactic| ((with_reducible show ite _ _ _); first | refine z_iteT' (by decide +kernel) ?_ | refine z_iteF' (by decide +kernel) ?_))
local macro_rules | `(tactic| walk_at "zx") => `(tactic| repeat (first | walk_at "z" | walk_at "zd"))

/-! ### the draws of a law -/
-- _law_row(_law_script, _law_k): slots 0:_law_script 1:_law_k 2:_law_cell 3:_law_a 4:_law_b 5:_law_c
def T_law_row (K : PySem.W.Frag) : TS :=
    (tSeq (tAsg (tC (.int 0)) (gName 2))
    (tCut (tIfS (tTest (tOp (uLt K) (tVar 1) (tCB (uLen K) (tCons (tVar 0) tNil)))) (tAsg (tOp (uIx K) (tVar 0) (tVar 1)) (gName 2)) tNext)
    (tCut (tIfS (tTest (tOp (uLt K) (tVar 2) (tC (.int 0)))) (tAsg (tOp uSub (tOp uMul (tUn uNeg (tC (.int 2))) (tVar 2)) (tC (.int 1))) (gName 2)) tNext)
    (tCut (tIfS (tTest (tOp (uLt K) (tVar 2) (tOp uPow (tC (.int 10)) (tC (.int 9))))) (tSeq (tAsg (tOp uMod (tCB uInt (tCons (tOp (uAdd K) (tOp (uAdd K) (tOp uMul (tVar 2) (tC (.int 48271))) (tOp uMul (tVar 1) (tC (.int 69621)))) (tC (.int 11))) tNil)) (tC (.int 2147483647))) (gName 3))
    (tSeq (tAsg (tOp uMod (tCB uInt (tCons (tOp (uAdd K) (tOp (uAdd K) (tOp (uAdd K) (tOp uMul (tVar 3) (tC (.int 16807))) (tOp uMul (tVar 2) (tC (.int 7)))) (tVar 1)) (tC (.int 5))) tNil)) (tC (.int 2147483629))) (gName 4))
    (tSeq (tAsg (tOp uMod (tCB uInt (tCons (tOp (uAdd K) (tOp (uAdd K) (tOp uMul (tVar 4) (tC (.int 39373))) (tOp uMul (tVar 3) (tVar 4))) (tC (.int 3))) tNil)) (tC (.int 2147483587))) (gName 5))
    (tAsg (tOp (uAdd K) (tOp (uAdd K) (tVar 3) (tOp uMul (tVar 4) (tC (.int 2147483647)))) (tOp uMul (tVar 5) (tOp uPow (tC (.int 2147483647)) (tC (.int 2))))) (gName 2))))) tNext)
    (tRet (tVar 2))))))
def sp_law_row (K : PySem.W.Frag) : Sp := fun vs H Q _ => ∃ (L : Addr) (ns : List Int) (k : Int), vs = [.ref L, .int k] ∧ SqL K H L (ns.map V.int) ∧ 0 ≤ k ∧ ∀ c : Int, 0 ≤ c → Q (.int c) H
theorem r_law_row {K : PySem.W.Frag} {L : Addr} {ns : List Int} {k : Int} {H : Hp} {D : Ends} (hL : SqL K H L (ns.map V.int)) (hk : 0 ≤ k) (q : ∀ c : Int, 0 ≤ c → D.rt (.int c) H) :
    T_law_row K D [some (.ref L), some (.int k), none, none, none, none] H := by
  unfold T_law_row
  walk_at "zz"
  refine z_cut (fun σ H' => H = H' ∧ ∃ c : Int, σ = [some (.ref L), some (.int k), some (.int c), none, none, none]) ?_ ?_
  · walk_at "zz"
    refine z_itD (fun c => ?_) (fun c => ?_)
    · walk_at "zz"
      refine z_ix (.inl hL) (at_int hk (by simpa using c)) ?_
      walk_at "zz"
      exact ⟨rfl, _, rfl⟩
    · walk_at "zz"
      exact ⟨rfl, _, rfl⟩
  rintro σ H' ⟨rfl, c, rfl⟩
  refine z_cut (fun σ H' => H = H' ∧ ∃ c : Int, 0 ≤ c ∧ σ = [some (.ref L), some (.int k), some (.int c), none, none, none]) ?_ ?_
  · walk_at "zz"
    refine z_itD (fun c => ?_) (fun c => ?_)
    · walk_at "zz"
      exact ⟨rfl, _, by omega, rfl⟩
    · walk_at "zz"
      exact ⟨rfl, _, by omega, rfl⟩
  rintro σ H' ⟨rfl, c, hc, rfl⟩
  refine z_cut (fun σ H' => H = H' ∧ ∃ (c : Int) (x y z : Option V), 0 ≤ c ∧ σ = [some (.ref L), some (.int k), some (.int c), x, y, z]) ?_ ?_
  · walk_at "zz"
    refine z_itD (fun h => ?_) (fun h => ?_)
    · walk_at "zz"
      refine ⟨rfl, _, _, _, _, ?_, rfl⟩
      omega
    · walk_at "zz"
      exact ⟨rfl, _, _, _, _, hc, rfl⟩
  rintro σ H' ⟨rfl, c, x, y, z, hc, rfl⟩
  walk_at "zz"
  exact q c hc
-- _law_next(_law_state, _law_many): slots 0:_law_state 1:_law_many 2:_law_drawn
def T_law_next (K : PySem.W.Frag) : TS :=
    (tCut (tIfS (tTest (tOp (uLt K) (tOp (uIx K) (tVar 0) (tC (.int 2))) (tVar 1))) (tSeq (tAsg (tCal (sp_law_row K) (tCons (tOp (uIx K) (tVar 0) (tC (.int 0))) (tCons (tOp (uIx K) (tVar 0) (tC (.int 1))) tNil))) (gSub (tVar 0) (tC (.int 2)) rSetL))
    (tAsg (tOp (uAdd K) (tOp (uIx K) (tVar 0) (tC (.int 1))) (tC (.int 1))) (gSub (tVar 0) (tC (.int 1)) rSetL))) tNext)
    (tSeq (tAsg (tOp uMod (tCB uInt (tCons (tOp (uIx K) (tVar 0) (tC (.int 2))) tNil)) (tVar 1)) (gName 2))
    (tSeq (tAsg (tOp uDiv (tOp (uIx K) (tVar 0) (tC (.int 2))) (tVar 1)) (gSub (tVar 0) (tC (.int 2)) rSetL))
    (tRet (tVar 2)))))
/-- the state of the draws stands at st, the script's copy at L -/
structure Draw (H : Hp) (st L : Addr) : Prop where
  ex : ∃ (ns : List Int) (k a : Int), H st = some (.lst [.ref L, .int k, .int a]) ∧ H L = some (.lst (ns.map V.int)) ∧ L ≠ st ∧ 0 ≤ k ∧ 0 ≤ a
theorem Draw.ne {H : Hp} {st L p : Addr} (h : H p = none) (d : Draw H st L) : p ≠ st := by
  obtain ⟨_, _, _, e, _⟩ := d.ex
  exact (ne_of_none e h).symm
theorem Draw.neL {H : Hp} {st L p : Addr} (h : H p = none) (d : Draw H st L) : p ≠ L := by
  obtain ⟨_, _, _, _, e, _⟩ := d.ex
  exact (ne_of_none e h).symm
theorem Draw.new {H : Hp} {st L p : Addr} {o : HO} (h : H p = none) (d : Draw H st L) : Draw (upd H p o) st L := by
  obtain ⟨ns, k, a, e, s, n, hk, ha⟩ := d.ex
  exact ⟨ns, k, a, lk_ne (ne_of_none e h) e, lk_ne (ne_of_none s h) s, n, hk, ha⟩
theorem Draw.same {H H' : Hp} {st L : Addr} (x : Same H H') (d : Draw H st L) : Draw H' st L := by
  obtain ⟨ns, k, a, e, s, n, hk, ha⟩ := d.ex
  exact ⟨ns, k, a, x _ _ e, x _ _ s, n, hk, ha⟩
theorem Draw.put {H : Hp} {st L p : Addr} {o : HO} (h1 : p ≠ st) (h2 : p ≠ L) (d : Draw H st L) : Draw (upd H p o) st L := by
  obtain ⟨ns, k, a, e, s, n, hk, ha⟩ := d.ex
  exact ⟨ns, k, a, lk_ne h1.symm e, lk_ne h2.symm s, n, hk, ha⟩
theorem Draw.back {H H' : Hp} {st L p : Addr} (d : Draw H' st L) (x : ExD H H') (h : H' p = none) (hs : ∀ L k a, H p = some (.lst [.ref L, .int k, .int a]) → p = st) : H p = none := by
  cases e : H p with
  | none => rfl
  | some o =>
    by_cases n : NotSt o
    · have := x p o n e
      rw [h] at this; cases this
    · exfalso
      apply n
      rintro L k a rfl
      exact Draw.ne h d (hs L k a e)
def sp_law_next (K : PySem.W.Frag) : Sp := fun vs H Q _ => ∃ (st L : Addr) (m : Int), vs = [.ref st, .int m] ∧ Draw H st L ∧ 0 < m ∧ m < 1000000000000000000 ∧ ∀ (r : Int) (H' : Hp), 0 ≤ r → r < m → Draw H' st L → ExD H H' → Q (.int r) H'
theorem law_row_c {K : PySem.W.Frag} {L : Addr} {k : Int} {H : Hp} {Q : VK} {E : XK} {ns : List Int} (hL : SqL K H L (ns.map V.int)) (hk : 0 ≤ k) (q : ∀ c : Int, 0 ≤ c → Q (.int c) H) : sp_law_row K [.ref L, .int k] H Q E := ⟨L, ns, k, rfl, hL, hk, q⟩
theorem r_law_next {K : PySem.W.Frag} {st L : Addr} {m : Int} {H : Hp} {D : Ends} (d : Draw H st L) (h0 : 0 < m) (h1 : m < 1000000000000000000) (q : ∀ (r : Int) (H' : Hp), 0 ≤ r → r < m → Draw H' st L → ExD H H' → D.rt (.int r) H') :
    T_law_next K D [some (.ref st), some (.int m), none] H := by
  obtain ⟨ns, k, a, e, sL, n, hk, ha⟩ := d.ex
  have s : SqL K H L (ns.map V.int) := SqL.of sL
  unfold T_law_next
  refine z_cut (fun σ H' => ∃ k a : Int, H' = upd H st (.lst [.ref L, .int k, .int a]) ∧ 0 ≤ k ∧ 0 ≤ a ∧ σ = [some (.ref st), some (.int m), none]) ?_ ?_
  · walk_at "zz"
    refine z_itD (fun h => ?_) (fun h => ?_)
    · walk_at "zz"
      refine law_row_c s hk fun c hc => ?_
      walk_at "zz"
      refine ⟨k + 1, c, ?_, by omega, hc, rfl⟩
      simp only [upd_upd]; rfl
    · walk_at "zz"
      exact ⟨k, a, (upd_self e).symm, hk, ha, rfl⟩
  rintro σ H' ⟨k, a, rfl, hk, ha, rfl⟩
  walk_at "zz"
  refine q _ _ (Int.emod_nonneg _ (by omega)) (Int.emod_lt_of_pos _ h0) ⟨ns, k, a / m, upd_same, ?_, n, hk, Int.ediv_nonneg ha (by omega)⟩ ?_
  · exact lk_ne n (lk_ne n sL)
  · exact ExD.st e (ExD.st e (ExD.refl H))
theorem law_next_c {K : PySem.W.Frag} {st L : Addr} {m : Int} {H : Hp} {Q : VK} {E : XK} (d : Draw H st L) (h0 : 0 < m) (h1 : m < 1000000000000000000) (q : ∀ (r : Int) (H' : Hp), 0 ≤ r → r < m → Draw H' st L → ExD H H' → Q (.int r) H') : sp_law_next K [.ref st, .int m] H Q E :=
  ⟨st, L, m, rfl, d, h0, h1, q⟩
-- _law_is_integer(_law_actual): slots 0:_law_actual
def T_law_is_integer (K : PySem.W.Frag) : TS :=
    (tRet (tAndV (tCB (uIsi K) (tCons (tVar 0) (tCons (tC (.ty "int")) tNil))) (tNotV (tCB (uIsi K) (tCons (tVar 0) (tCons (tC (.ty "bool")) tNil))))))
def sp_law_is_integer (K : PySem.W.Frag) : Sp := fun vs H Q _ => ∃ i : Int, vs = [.int i] ∧ Q (.bl true) H
theorem r_law_is_integer {K : PySem.W.Frag} {i : Int} {H : Hp} {D : Ends} (q : D.rt (.bl true) H) : T_law_is_integer K D [some (.int i)] H := by
  unfold T_law_is_integer
  walk_at "zz"
  exact q
theorem Draw.start {H : Hp} {l p : Addr} {ns : List Int} (h1 : H l = none) (h2 : upd H l (.lst (ns.map V.int)) p = none) : Draw (upd (upd H l (.lst (ns.map V.int))) p (.lst [.ref l, .int 0, .int 0])) p l := by
  have ne : l ≠ p := ne_of_none (H := upd H l (.lst (ns.map V.int))) upd_same h2
  exact ⟨ns, 0, 0, upd_same, lk_ne ne upd_same, ne, by decide, by decide⟩
def sp_law (K : PySem.W.Frag) : Sp := fun vs H Q _ => ∃ (a : Addr) (ns : List Int), vs = [.ref a] ∧ SqL K H a (ns.map V.int) ∧ ns.length ≤ 63 ∧ ∀ H', Q (.bl true) H'
abbrev N_law_row : List Str := ["_law_script", "_law_k", "_law_cell", "_law_a", "_law_b", "_law_c"]
theorem w_law_row {K : PySem.W.Frag} : Wd (T_law_row K) N_law_row 2 (sp_law_row K) := fun vs H Q E h => by
  obtain ⟨L, ns, k, rfl, h1, h2, q⟩ := h
  exact ⟨rfl, r_law_row h1 h2 q⟩
abbrev N_law_next : List Str := ["_law_state", "_law_many", "_law_drawn"]
theorem w_law_next {K : PySem.W.Frag} : Wd (T_law_next K) N_law_next 2 (sp_law_next K) := fun vs H Q E h => by
  obtain ⟨st, L, m, rfl, d, h0, h1, q⟩ := h
  exact ⟨rfl, r_law_next d h0 h1 q⟩
abbrev N_law_is_integer : List Str := ["_law_actual"]
theorem w_law_is_integer {K : PySem.W.Frag} : Wd (T_law_is_integer K) N_law_is_integer 1 (sp_law_is_integer K) := fun vs H Q E h => by
  obtain ⟨i, rfl, q⟩ := h
  exact ⟨rfl, r_law_is_integer q⟩

local macro_rules | `(tactic| walk_at "dr") => `(tactic| with_reducible first | assumption | ((show Draw (upd _ _ _) _ _); first | exact Draw.new (by assumption) (by walk_at "dr") | exact Draw.put (by walk_at "ne") (by walk_at "ne") (by walk_at "dr")) | exact Draw.same (by assumption) (by walk_at "dr"))
local macro_rules | `(tactic| walk_at "nx") => `(tactic| (refine law_next_c (by walk_at "dr") (by first | decide | omega) (by first | decide | omega) ?_))

/-! ### the root -/
def rootN : Nat → Nat
  | 0 => 0
  | n + 1 => if (rootN n + 1) * (rootN n + 1) ≤ n + 1 then rootN n + 1 else rootN n
theorem rootN_spec (n : Nat) : rootN n * rootN n ≤ n ∧ n < (rootN n + 1) * (rootN n + 1) := by
  induction n with
  | zero => exact ⟨Nat.le_refl _, by decide⟩
  | succ n ih =>
    obtain ⟨h1, h2⟩ := ih
    unfold rootN
    split
    · rename_i h
      refine ⟨h, ?_⟩
      generalize rootN n = r at *
      have e : (r + 1 + 1) * (r + 1 + 1) = (r + 1) * (r + 1) + 2 * (r + 1) + 1 := by
        simp only [Nat.add_mul, Nat.mul_add]; omega
      omega
    · rename_i h
      refine ⟨by omega, by omega⟩
def rootZ (n : Int) : Int := (rootN n.toNat : Nat)
theorem rootZ_nn (n : Int) : 0 ≤ rootZ n := Int.natCast_nonneg _
theorem rootZ_spec {n : Int} (h : 0 ≤ n) : rootZ n * rootZ n ≤ n ∧ n < (rootZ n + 1) * (rootZ n + 1) := by
  have s := rootN_spec n.toNat
  unfold rootZ
  generalize rootN n.toNat = r at *
  have e : ((n.toNat : Nat) : Int) = n := Int.toNat_of_nonneg h
  constructor
  · have := Int.ofNat_le.mpr s.1
    rw [← e]; push_cast at this ⊢; exact this
  · have := Int.ofNat_lt.mpr s.2
    rw [← e]; push_cast at this ⊢; exact this
theorem sq_lt {a b : Int} (h0 : 0 ≤ a) (hb : 0 ≤ b) (h : a * a < b * b) : a < b := by
  rcases Int.lt_or_le a b with h1 | h1
  · exact h1
  · have := Int.mul_le_mul h1 h1 hb h0
    omega
theorem rootZ_uniq {n r : Int} (h0 : 0 ≤ r) (h1 : r * r ≤ n) (h2 : n < (r + 1) * (r + 1)) : r = rootZ n := by
  have hn : 0 ≤ n := Int.le_trans (Int.mul_nonneg h0 h0) h1
  obtain ⟨s1, s2⟩ := rootZ_spec hn
  have s0 := rootZ_nn n
  have a := sq_lt h0 (by omega) (Int.lt_of_le_of_lt h1 s2)
  have b := sq_lt s0 (by omega) (Int.lt_of_le_of_lt s1 h2)
  omega
theorem rootZ_neg {n : Int} (h : n < 0) : rootZ n = 0 := by
  unfold rootZ
  rw [Int.toNat_of_nonpos (by omega)]; rfl
/-- a factor is short when its square is -/
theorem mul_sq {a n : Int} {b : Nat} (h0 : 0 ≤ a) (h : a * a ≤ n) (hn : n < 2 ^ b) (hb : 0 < b ∧ b ≤ 400000) : MulOk a a := by
  have h1 : a.natAbs < 2 ^ b := by
    have h3 : a ≤ a * a := by
      rcases Int.lt_or_le a 1 with z | z
      · have : a = 0 := by omega
        subst this; simp
      · have := Int.mul_le_mul_of_nonneg_right z h0
        omega
    have h4 : ((2 ^ b : Nat) : Int) = (2 : Int) ^ b := by simp
    omega
  exact .inr (wide_mul h1 h1 hb.1 hb.1 (by omega))
-- root(number): slots 0:number 1:low 2:high 3:middle
def T_root_b1 (K : PySem.W.Frag) : TS :=
    (tAsg (tOp uMul (tVar 2) (tC (.int 2))) (gName 2))
def T_root_b2 (K : PySem.W.Frag) : TS :=
    (tSeq (tAsg (tOp uDiv (tOp (uAdd K) (tVar 1) (tVar 2)) (tC (.int 2))) (gName 3))
    (tIfS (tTest (tOp uLe (tOp uMul (tVar 3) (tVar 3)) (tVar 0))) (tAsg (tVar 3) (gName 1)) (tAsg (tVar 3) (gName 2))))
def T_root (K : PySem.W.Frag) : TS :=
    (tSeq (tAsg (tC (.int 0)) (gName 1))
    (tSeq (tAsg (tC (.int 1)) (gName 2))
    (tSeq (tWhile (tTest (tOp uLe (tOp uMul (tVar 2) (tVar 2)) (tVar 0))) (T_root_b1 K))
    (tSeq (tWhile (tTest (tOp uGt (tOp uSub (tVar 2) (tVar 1)) (tC (.int 1)))) (T_root_b2 K))
    (tRet (tVar 1))))))
def sp_root (K : PySem.W.Frag) : Sp := fun vs H Q _ => ∃ n : Int, vs = [.int n] ∧ n < 2 ^ 100000 ∧ Q (.int (rootZ n)) H
theorem r_root {K : PySem.W.Frag} {n : Int} {H : Hp} {D : Ends} (hn : n < 2 ^ 100000) (k : D.rt (.int (rootZ n)) H) : T_root K D [some (.int n), none, none, none] H := by
  unfold T_root
  walk_at "zz"
  have p2 : (2 : Int) ^ 100000 > 0 := Int.pow_pos (by decide)
  have pe : (2 : Int) ^ 100000 * 4 + 1 < 2 ^ 100003 := by
    have : (2 : Int) ^ 100003 = 2 ^ 100000 * 8 := by rw [show (100003 : Nat) = 100000 + 3 from rfl, Int.pow_add]; rfl
    omega
  generalize hM : (2 : Int) ^ 100000 = M at *
  refine z_while (fun m σ H' => H = H' ∧ ∃ h : Int, σ = [some (.int n), some (.int 0), some (.int h), none] ∧ 1 ≤ h ∧ (h = 1 ∨ h * h ≤ 4 * n) ∧ m = (n + 1 - h).toNat) (n + 1 - 1).toNat ⟨rfl, 1, rfl, by decide, .inl rfl, rfl⟩ ?_
  rintro m σ H' ⟨rfl, h, rfl, h1, h2, rfl⟩
  walk_at "zz"
  refine z_mul ?_ ?_
  · have : h * h ≤ 4 * M + 1 := by
      rcases h2 with rfl | h2 <;> omega
    exact mul_sq (n := h * h) (b := 100003) (by omega) (Int.le_refl _) (by omega) (by decide)
  walk_at "zz"
  refine z_itD (fun c => z_turn ?_) (fun c => ?_)
  · unfold T_root_b1
    walk_at "zz"
    have h3 : h ≤ n := by
      have := Int.mul_le_mul_of_nonneg_left h1 (show 0 ≤ h by omega)
      omega
    refine ⟨_, ?_, rfl, h * 2, rfl, by omega, .inr ?_, rfl⟩
    · omega
    · have : h * 2 * (h * 2) = 4 * (h * h) := by
        rw [Int.mul_assoc, Int.mul_left_comm 2 h 2, ← Int.mul_assoc, Int.mul_comm (h * h)]; rfl
      omega
  walk_at "zz"
  refine z_while (fun m σ H' => H = H' ∧ ∃ (lo hi : Int) (v : Option V), σ = [some (.int n), some (.int lo), some (.int hi), v] ∧ 0 ≤ lo ∧ lo < hi ∧ n < hi * hi ∧ (0 ≤ n → lo * lo ≤ n) ∧ hi ≤ h ∧ m = (hi - lo).toNat) (h - 0).toNat ⟨rfl, 0, h, none, rfl, by omega, by omega, by omega, fun z => by omega, Int.le_refl _, rfl⟩ ?_
  rintro m σ H' ⟨rfl, lo, hi, v, rfl, g1, g2, g3, g4, g5, rfl⟩
  walk_at "zz"
  refine z_itD (fun c2 => z_turn ?_) (fun c2 => ?_)
  · unfold T_root_b2
    walk_at "zz"
    have e1 : lo < (lo + hi) / 2 := by omega
    have e2 : (lo + hi) / 2 < hi := by omega
    generalize (lo + hi) / 2 = md at *
    have hm : md * md ≤ h * h := Int.mul_le_mul (by omega) (by omega) (by omega) (by omega)
    refine z_mul ?_ ?_
    · refine mul_sq (n := h * h) (b := 100003) (by omega) hm ?_ (by decide)
      rcases h2 with rfl | h2 <;> omega
    walk_at "zz"
    refine z_itD (fun c3 => ?_) (fun c3 => ?_)
    · walk_at "zz"
      exact ⟨_, by omega, rfl, md, hi, _, rfl, by omega, by omega, g3, fun _ => c3, g5, rfl⟩
    · walk_at "zz"
      exact ⟨_, by omega, rfl, lo, md, _, rfl, by omega, by omega, by omega, g4, by omega, rfl⟩
  · walk_at "zz"
    have e : hi = lo + 1 := by omega
    subst e
    rcases Int.lt_or_le n 0 with hz | hz
    · have : lo = 0 := by
        rcases h2 with rfl | h2
        · omega
        · exfalso
          have := Int.mul_nonneg (show 0 ≤ h by omega) (show 0 ≤ h by omega)
          omega
      subst this
      rw [rootZ_neg hz] at k
      exact k
    · rw [← rootZ_uniq g1 (g4 hz) g3] at k
      exact k
theorem root_c {K : PySem.W.Frag} {n : Int} {H : Hp} {Q : VK} {E : XK} (hn : n < 2 ^ 100000) (k : Q (.int (rootZ n)) H) : sp_root K [.int n] H Q E := ⟨n, rfl, hn, k⟩
-- gap(far, near): slots 0:far 1:near
def T_gap (K : PySem.W.Frag) : TS :=
    (tSeq (tIfS (tTest (tOp uGe (tVar 1) (tVar 0))) (tRet (tC (.int 0))) tNext)
    (tRet (tOp uSub (tOp (uAdd K) (tVar 0) (tVar 1)) (tCal (sp_root K) (tCons (tOp uMul (tOp uMul (tC (.int 4)) (tVar 0)) (tVar 1)) tNil)))))
def gapZ (far near : Int) : Int := if near ≥ far then 0 else far + near - rootZ (4 * far * near)
def Short (a : Int) : Prop := a.natAbs < 2 ^ 40000
theorem Short.mul {a b : Int} (ha : Short a) (hb : Short b) : MulOk a b := .inr (wide_mul ha hb (by decide) (by decide) (by decide))
theorem pow_le_pow {a b : Nat} (h : a ≤ b) : (2 : Nat) ^ a ≤ 2 ^ b := Nat.pow_le_pow_right (by decide) h
theorem Short.of {a : Int} {b : Nat} (h : a.natAbs < 2 ^ b) (hb : b ≤ 40000) : Short a := Nat.lt_of_lt_of_le h (pow_le_pow hb)
theorem Short.four {a : Int} (ha : Short a) : (4 * a).natAbs < 2 ^ 40003 := by
  rw [Int.natAbs_mul, show (40003 : Nat) = 3 + 40000 from rfl, Nat.pow_add]
  exact Nat.mul_lt_mul'' (by decide) ha
theorem Short.mul4 {a b : Int} (ha : Short a) (hb : Short b) : MulOk (4 * a) b := .inr (wide_mul ha.four hb (by decide) (by decide) (by decide))
theorem mul4 {a b : Int} (ha : Short a) (hb : Short b) : 4 * a * b < 2 ^ 100000 := by
  have h1 : (4 * a * b).natAbs < 2 ^ (3 + 40000 + 40000) := by
    rw [Int.natAbs_mul, Int.natAbs_mul, Nat.pow_add, Nat.pow_add]
    exact Nat.mul_lt_mul'' (Nat.mul_lt_mul'' (by decide) ha) hb
  have h2 : (2 : Nat) ^ (3 + 40000 + 40000) ≤ 2 ^ 100000 := pow_le_pow (by decide)
  have h3 : ((2 ^ 100000 : Nat) : Int) = (2 : Int) ^ 100000 := by rw [Int.natCast_pow]; rfl
  rw [← h3]
  generalize (2 : Nat) ^ 100000 = M at *
  generalize (2 : Nat) ^ (3 + 40000 + 40000) = M2 at *
  omega
def sp_gap (K : PySem.W.Frag) : Sp := fun vs H Q _ => ∃ far near : Int, vs = [.int far, .int near] ∧ Short far ∧ Short near ∧ Q (.int (gapZ far near)) H
theorem r_gap {K : PySem.W.Frag} {far near : Int} {H : Hp} {D : Ends} (h1 : Short far) (h2 : Short near) (k : D.rt (.int (gapZ far near)) H) : T_gap K D [some (.int far), some (.int near)] H := by
  unfold T_gap
  walk_at "zz"
  refine z_itD (fun c => ?_) (fun c => ?_)
  · walk_at "zz"
    rw [show gapZ far near = 0 from if_pos c] at k
    exact k
  · walk_at "zz"
    refine z_mul ?_ ?_
    · exact Short.mul4 h1 h2
    walk_at "zz"
    refine root_c (mul4 h1 h2) ?_
    walk_at "zz"
    rw [show gapZ far near = far + near - rootZ (4 * far * near) from if_neg c] at k
    exact k
abbrev N_root : List Str := ["number", "low", "high", "middle"]
theorem w_root {K : PySem.W.Frag} : Wd (T_root K) N_root 1 (sp_root K) := fun vs H Q E h => by
  obtain ⟨n, rfl, hn, k⟩ := h
  exact ⟨rfl, r_root hn k⟩
abbrev N_gap : List Str := ["far", "near"]
theorem w_gap {K : PySem.W.Frag} : Wd (T_gap K) N_gap 2 (sp_gap K) := fun vs H Q E h => by
  obtain ⟨far, near, rfl, h1, h2, k⟩ := h
  exact ⟨rfl, r_gap h1 h2 k⟩

/-! ### vectors -/
def innerZ : List Int → List Int → Int
  | x :: xs, y :: ys => x * y + innerZ xs ys
  | _, _ => 0
def distZ : List Int → List Int → Int
  | x :: xs, y :: ys => (x - y) * (x - y) + distZ xs ys
  | _, _ => 0
def diffZ : List Int → List Int → Int
  | x :: xs, y :: ys => (if x = y then 0 else 1) + diffZ xs ys
  | _, _ => 0
theorem sq_nn (x : Int) : 0 ≤ x * x := by
  rcases Int.le_total 0 x with h | h
  · exact Int.mul_nonneg h h
  · exact Int.mul_nonneg_of_nonpos_of_nonpos h h
theorem distZ_nn : ∀ a b : List Int, 0 ≤ distZ a b
  | x :: xs, y :: ys => Int.add_nonneg (sq_nn _) (distZ_nn xs ys)
  | [], _ => Int.le_refl 0
  | _ :: _, [] => Int.le_refl 0
theorem distZ_comm : ∀ a b : List Int, distZ a b = distZ b a
  | x :: xs, y :: ys => by
    show (x - y) * (x - y) + _ = (y - x) * (y - x) + _
    rw [distZ_comm xs ys, show x - y = -(y - x) by omega, Int.neg_mul_neg]
  | [], [] => rfl
  | [], _ :: _ => rfl
  | _ :: _, [] => rfl
theorem take_s {xs : List Int} {i : Nat} (h : i < xs.length) : xs.take (i + 1) = xs.take i ++ [xs.getD i 0] := by
  rw [List.take_succ, List.getElem?_eq_getElem h]
  simp [List.getD, h]
theorem distZ_app : ∀ (a b : List Int) (x y : Int), a.length = b.length → distZ (a ++ [x]) (b ++ [y]) = distZ a b + (x - y) * (x - y)
  | [], [], x, y, _ => by show (x - y) * (x - y) + 0 = 0 + (x - y) * (x - y); omega
  | [], _ :: _, _, _, h => by cases h
  | _ :: _, [], _, _, h => by cases h
  | u :: a, v :: b, x, y, h => by
    show (u - v) * (u - v) + distZ (a ++ [x]) (b ++ [y]) = (u - v) * (u - v) + distZ a b + (x - y) * (x - y)
    rw [distZ_app a b x y (by simpa using h)]; omega
theorem innerZ_app : ∀ (a b : List Int) (x y : Int), a.length = b.length → innerZ (a ++ [x]) (b ++ [y]) = innerZ a b + x * y
  | [], [], x, y, _ => by show x * y + 0 = 0 + x * y; omega
  | [], _ :: _, _, _, h => by cases h
  | _ :: _, [], _, _, h => by cases h
  | u :: a, v :: b, x, y, h => by
    show u * v + innerZ (a ++ [x]) (b ++ [y]) = u * v + innerZ a b + x * y
    rw [innerZ_app a b x y (by simpa using h)]; omega
theorem diffZ_app : ∀ (a b : List Int) (x y : Int), a.length = b.length → diffZ (a ++ [x]) (b ++ [y]) = diffZ a b + (if x = y then 0 else 1)
  | [], [], x, y, _ => by show (if x = y then (0 : Int) else 1) + 0 = 0 + (if x = y then 0 else 1); omega
  | [], _ :: _, _, _, h => by cases h
  | _ :: _, [], _, _, h => by cases h
  | u :: a, v :: b, x, y, h => by
    show (if u = v then (0 : Int) else 1) + diffZ (a ++ [x]) (b ++ [y]) = (if u = v then 0 else 1) + diffZ a b + (if x = y then 0 else 1)
    rw [diffZ_app a b x y (by simpa using h)]; omega
theorem distZ_take {a b : List Int} {i : Nat} (h : a.length = b.length) (hi : i < a.length) : distZ (a.take (i + 1)) (b.take (i + 1)) = distZ (a.take i) (b.take i) + (a.getD i 0 - b.getD i 0) * (a.getD i 0 - b.getD i 0) := by
  rw [take_s hi, take_s (h ▸ hi), distZ_app _ _ _ _ (by simp [h])]
theorem innerZ_take {a b : List Int} {i : Nat} (h : a.length = b.length) (hi : i < a.length) : innerZ (a.take (i + 1)) (b.take (i + 1)) = innerZ (a.take i) (b.take i) + a.getD i 0 * b.getD i 0 := by
  rw [take_s hi, take_s (h ▸ hi), innerZ_app _ _ _ _ (by simp [h])]
theorem diffZ_take {a b : List Int} {i : Nat} (h : a.length = b.length) (hi : i < a.length) : diffZ (a.take (i + 1)) (b.take (i + 1)) = diffZ (a.take i) (b.take i) + (if a.getD i 0 = b.getD i 0 then 0 else 1) := by
  rw [take_s hi, take_s (h ▸ hi), diffZ_app _ _ _ _ (by simp [h])]
/-- all within b of nought -/
def Bd (b : Int) (ns : List Int) : Prop := ∀ x ∈ ns, -b ≤ x ∧ x ≤ b
theorem Bd.app {b x : Int} {ns : List Int} (h : Bd b ns) (h1 : -b ≤ x) (h2 : x ≤ b) : Bd b (ns ++ [x]) := fun y hy => by
  rcases List.mem_append.mp hy with hy | hy
  · exact h y hy
  · rw [List.mem_singleton.mp hy]; exact ⟨h1, h2⟩
theorem Bd.mono {b c : Int} {ns : List Int} (h : Bd b ns) (hbc : b ≤ c) : Bd c ns := fun y hy => by have := h y hy; omega
theorem getD_mem {ns : List Int} {i : Nat} (h : i < ns.length) : ns.getD i 0 ∈ ns := by
  rw [List.getD_eq_getElem?_getD, List.getElem?_eq_getElem h]; exact List.getElem_mem h
theorem Bd.at {b : Int} {ns : List Int} (h : Bd b ns) {i : Nat} (hi : i < ns.length) : -b ≤ ns.getD i 0 ∧ ns.getD i 0 ≤ b := h _ (getD_mem hi)
theorem sq_le {x b : Int} (h1 : -b ≤ x) (h2 : x ≤ b) : x * x ≤ b * b := by
  rcases Int.le_total 0 x with h | h
  · exact Int.mul_le_mul h2 h2 h (by omega)
  · have := Int.mul_le_mul (show -x ≤ b by omega) (show -x ≤ b by omega) (show 0 ≤ -x by omega) (show 0 ≤ b by omega)
    rw [Int.neg_mul_neg] at this; exact this
theorem distZ_le {b : Int} : ∀ {xs ys : List Int}, Bd b xs → Bd b ys → distZ xs ys ≤ xs.length * (4 * (b * b))
  | [], _, _, _ => by simp [distZ]
  | x :: xs, [], _, _ => by
    have := sq_nn b
    show (0 : Int) ≤ _
    exact Int.mul_nonneg (Int.natCast_nonneg _) (by omega)
  | x :: xs, y :: ys, h1, h2 => by
    have ih := distZ_le (b := b) (fun z hz => h1 z (List.mem_cons_of_mem _ hz)) (fun z hz => h2 z (List.mem_cons_of_mem _ hz)) (xs := xs) (ys := ys)
    have a := h1 x List.mem_cons_self
    have c := h2 y List.mem_cons_self
    have e := sq_le (x := x - y) (b := 2 * b) (by omega) (by omega)
    have e2 : 2 * b * (2 * b) = 4 * (b * b) := by rw [Int.mul_assoc, Int.mul_left_comm b 2 b, ← Int.mul_assoc]; rfl
    show (x - y) * (x - y) + distZ xs ys ≤ ((xs.length + 1 : Nat) : Int) * (4 * (b * b))
    rw [Int.natCast_add, Int.add_mul]
    generalize (xs.length : Int) * (4 * (b * b)) = u at *
    generalize b * b = v at *
    omega
/-- the quadratic form of two vectors -/
theorem quad : ∀ (a b : List Int) (l m : Int), a.length = b.length → 0 ≤ l * l * innerZ a a + 2 * (l * m) * innerZ a b + m * m * innerZ b b
  | [], [], l, m, _ => by show 0 ≤ l * l * 0 + 2 * (l * m) * 0 + m * m * 0; simp
  | [], _ :: _, _, _, h => by cases h
  | _ :: _, [], _, _, h => by cases h
  | x :: a, y :: b, l, m, h => by
    have ih := quad a b l m (by simpa using h)
    have s := sq_nn (l * x + m * y)
    show 0 ≤ l * l * (x * x + innerZ a a) + 2 * (l * m) * (x * y + innerZ a b) + m * m * (y * y + innerZ b b)
    have e : (l * x + m * y) * (l * x + m * y) = l * l * (x * x) + 2 * (l * m) * (x * y) + m * m * (y * y) := by
      have e1 : l * x * (l * x) = l * l * (x * x) := by ac_rfl
      have e2 : l * x * (m * y) = l * m * (x * y) := by ac_rfl
      have e3 : m * y * (l * x) = l * m * (x * y) := by ac_rfl
      have e4 : m * y * (m * y) = m * m * (y * y) := by ac_rfl
      rw [Int.add_mul, Int.mul_add, Int.mul_add, e1, e2, e3, e4, Int.mul_assoc 2]
      omega
    rw [e] at s
    simp only [Int.mul_add]
    omega
theorem inner_sq_nn : ∀ a : List Int, 0 ≤ innerZ a a
  | [] => Int.le_refl 0
  | x :: a => Int.add_nonneg (sq_nn x) (inner_sq_nn a)
/-- Cauchy, Schwarz -/
theorem cauchy {a b : List Int} (h : a.length = b.length) : innerZ a b * innerZ a b ≤ innerZ a a * innerZ b b := by
  have hA := inner_sq_nn a
  have hB := inner_sq_nn b
  have q1 := quad a b (innerZ b b) (-innerZ a b) h
  have q2 := quad a b (innerZ a b) (-(innerZ a a + 1)) h
  generalize innerZ a a = A at *
  generalize innerZ b b = B at *
  generalize innerZ a b = S at *
  rcases Int.lt_or_le 0 B with z | z
  · have e : B * B * A + 2 * (B * -S) * S + -S * -S * B = B * (A * B - S * S) := by
      have e1 : B * B * A = B * (A * B) := by ac_rfl
      have e2 : 2 * (B * -S) * S = -(2 * (B * (S * S))) := by
        rw [Int.mul_neg, Int.mul_neg, Int.neg_mul]; congr 1; ac_rfl
      have e3 : -S * -S * B = B * (S * S) := by rw [Int.neg_mul_neg]; ac_rfl
      rw [e1, e2, e3, Int.mul_sub]; omega
    rw [e] at q1
    have : 0 ≤ A * B - S * S := by
      rcases Int.lt_or_le (A * B - S * S) 0 with n | n
      · have := Int.mul_neg_of_pos_of_neg z n
        omega
      · exact n
    omega
  · have hB0 : B = 0 := by omega
    subst hB0
    have e : S * S * A + 2 * (S * -(A + 1)) * S + -(A + 1) * -(A + 1) * 0 = -(S * S * (A + 2)) := by
      have e1 : 2 * (S * -(A + 1)) * S = -(2 * (S * S * (A + 1))) := by
        rw [Int.mul_neg, Int.mul_neg, Int.neg_mul]; congr 1; ac_rfl
      rw [e1, Int.mul_zero]; simp only [Int.mul_add]; omega
    rw [e] at q2
    have s0 := sq_nn S
    rw [Int.mul_zero]
    rcases Int.lt_or_le 0 (S * S) with n | n
    · have := Int.mul_pos n (show 0 < A + 2 by omega)
      omega
    · exact n
/-- the distances of three points -/
theorem dist3 : ∀ (a b c : List Int), a.length = b.length → b.length = c.length → ∃ x y : List Int, x.length = y.length ∧ distZ a b = innerZ x x ∧ distZ b c = innerZ y y ∧ distZ a c = innerZ x x + innerZ y y + 2 * innerZ x y
  | [], [], [], _, _ => ⟨[], [], rfl, rfl, rfl, rfl⟩
  | u :: a, v :: b, w :: c, h1, h2 => by
    obtain ⟨x, y, e0, e1, e2, e3⟩ := dist3 a b c (by simpa using h1) (by simpa using h2)
    refine ⟨(u - v) :: x, (v - w) :: y, by simp [e0], ?_, ?_, ?_⟩
    · show _ + _ = _ + _; rw [e1]
    · show _ + _ = _ + _; rw [e2]
    · show (u - w) * (u - w) + distZ a c = ((u - v) * (u - v) + innerZ x x) + ((v - w) * (v - w) + innerZ y y) + 2 * ((u - v) * (v - w) + innerZ x y)
      rw [e3, show u - w = (u - v) + (v - w) by omega]
      generalize u - v = p
      generalize v - w = q
      simp only [Int.add_mul, Int.mul_add, Int.mul_comm q p]
      omega
  | [], [], _ :: _, _, h => by cases h
  | [], _ :: _, _, h, _ => by cases h
  | _ :: _, [], _, h, _ => by cases h
  | _ :: _, _ :: _, [], _, h => by cases h
/-- the heart of the gap: with A, B, C the three distances -/
theorem gap_core {A B C far near : Int} (hC : 0 ≤ C) (hB : 0 ≤ B) (h4 : (C - A - B) * (C - A - B) ≤ 4 * (A * B)) (h1 : far ≤ A) (h2 : B ≤ near) (h3 : near < far) (t : 0 < far + near - C) :
    (far + near - C) * (far + near - C) ≤ 4 * (far * near) := by
  have id : ∀ u v : Int, 4 * (u * v) - (u + v - C) * (u + v - C) = 2 * (C * (u + v)) - (u - v) * (u - v) - C * C := fun u v => by
    simp only [Int.add_mul, Int.sub_mul, Int.mul_add, Int.mul_sub, Int.mul_comm v u, Int.mul_comm C u, Int.mul_comm C v]; omega
  have hAB : 0 ≤ 2 * (C * (A + B)) - (A - B) * (A - B) - C * C := by
    rw [← id A B]
    have : (C - A - B) * (C - A - B) = (A + B - C) * (A + B - C) := by
      rw [show C - A - B = -(A + B - C) by omega, Int.neg_mul_neg]
    omega
  have hn : 0 ≤ near := by omega
  have goal : 0 ≤ 2 * (C * (far + near)) - (far - near) * (far - near) - C * C := by
    rcases Int.lt_or_le C (far - near) with c | c
    · -- far from it: first from B to near, then from A to far
      have s1 : 0 ≤ 2 * (C * (A + near)) - (A - near) * (A - near) - C * C := by
        have m := Int.mul_nonneg (show 0 ≤ near - B by omega) (show 0 ≤ 2 * A - B - near + 2 * C by omega)
        have e : (near - B) * (2 * A - B - near + 2 * C) = (2 * (C * (A + near)) - (A - near) * (A - near)) - (2 * (C * (A + B)) - (A - B) * (A - B)) := by
          simp only [Int.add_mul, Int.sub_mul, Int.mul_add, Int.mul_sub, Int.mul_comm near A, Int.mul_comm B A, Int.mul_comm near B, Int.mul_comm C A, Int.mul_comm C B, Int.mul_comm C near, Int.mul_left_comm near 2, Int.mul_left_comm B 2]; omega
        omega
      have m := Int.mul_nonneg (show 0 ≤ A - far by omega) (show 0 ≤ A + far - 2 * near - 2 * C by omega)
      have e : (A - far) * (A + far - 2 * near - 2 * C) = (2 * (C * (far + near)) - (far - near) * (far - near)) - (2 * (C * (A + near)) - (A - near) * (A - near)) := by
        simp only [Int.add_mul, Int.sub_mul, Int.mul_add, Int.mul_sub, Int.mul_comm near A, Int.mul_comm far A, Int.mul_comm near far, Int.mul_comm C A, Int.mul_comm C far, Int.mul_comm C near, Int.mul_left_comm A 2, Int.mul_left_comm far 2]; omega
      omega
    · have m1 := Int.mul_nonneg hC (show 0 ≤ far + 3 * near - C by omega)
      have m2 := Int.mul_nonneg (show 0 ≤ far - near by omega) (show 0 ≤ C - (far - near) by omega)
      have e1 : C * (far + 3 * near - C) = 2 * (C * (far + near)) - C * (far - near) - C * C := by
        simp only [Int.mul_add, Int.mul_sub, Int.mul_left_comm C 3]; omega
      have e2 : (far - near) * (C - (far - near)) = C * (far - near) - (far - near) * (far - near) := by
        rw [Int.mul_sub, Int.mul_comm (far - near) C]
      omega
  have := id far near
  omega
theorem le_root {t n : Int} (h0 : 0 ≤ t) (h : t * t ≤ n) : t ≤ rootZ n := by
  obtain ⟨s1, s2⟩ := rootZ_spec (Int.le_trans (Int.mul_nonneg h0 h0) h)
  have := sq_lt h0 (show 0 ≤ rootZ n + 1 by have := rootZ_nn n; omega) (Int.lt_of_le_of_lt h s2)
  omega
theorem root_le {t n : Int} (h0 : 0 ≤ t) (hn : 0 ≤ n) (h : n ≤ t * t) : rootZ n ≤ t := by
  obtain ⟨s1, s2⟩ := rootZ_spec hn
  rcases Int.lt_or_le t (rootZ n) with z | z
  · have := Int.mul_lt_mul z (Int.le_of_lt z)
    exfalso
    have h3 : t * t < rootZ n * rootZ n := by
      have a := Int.mul_le_mul_of_nonneg_left (Int.le_of_lt z) h0
      have b := Int.mul_lt_mul_of_pos_right z (show 0 < rootZ n by omega)
      omega
    omega
  · exact z
theorem gap_nn {far near : Int} (h : 0 ≤ near) : 0 ≤ gapZ far near := by
  unfold gapZ
  split
  · exact Int.le_refl 0
  · rename_i h1
    have hf : 0 ≤ far := by omega
    have e : 4 * far * near = 4 * (far * near) := Int.mul_assoc _ _ _
    have p := Int.mul_nonneg hf h
    have : rootZ (4 * far * near) ≤ far + near := by
      refine root_le (by omega) (by omega) ?_
      have s := sq_nn (far - near)
      have e2 : (far + near) * (far + near) = (far - near) * (far - near) + 4 * (far * near) := by
        simp only [Int.add_mul, Int.sub_mul, Int.mul_add, Int.mul_sub, Int.mul_comm near far]; omega
      omega
    omega
theorem gap_safe {a b c : List Int} {far near : Int} (e1 : a.length = b.length) (e2 : b.length = c.length) (h1 : far ≤ distZ a b) (h2 : distZ b c ≤ near) : gapZ far near ≤ distZ a c := by
  have hC := distZ_nn a c
  have hB := distZ_nn b c
  unfold gapZ
  split
  · exact hC
  · rename_i h3
    obtain ⟨x, y, e0, eA, eB, eC⟩ := dist3 a b c e1 e2
    have cs := cauchy e0
    have e : 4 * far * near = 4 * (far * near) := Int.mul_assoc _ _ _
    have p := Int.mul_nonneg (show 0 ≤ far by omega) (show 0 ≤ near by omega)
    rcases Int.lt_or_le 0 (far + near - distZ a c) with t | t
    · have g := gap_core (A := distZ a b) (B := distZ b c) hC hB (by
        rw [eA, eB, eC]
        generalize innerZ x x = A at *
        generalize innerZ y y = B at *
        generalize innerZ x y = S at *
        rw [show A + B + 2 * S - A - B = 2 * S by omega]
        have : 2 * S * (2 * S) = 4 * (S * S) := by rw [Int.mul_assoc, Int.mul_left_comm S 2 S, ← Int.mul_assoc]; rfl
        omega) h1 h2 (by omega) t
      have := le_root (t := far + near - distZ a c) (n := 4 * far * near) (by omega) (by omega)
      omega
    · have := rootZ_nn (4 * far * near)
      omega

/-! ### data of ints -/
def dInts (ns : List Int) : List PyData := ns.map PyData.int
theorem dp_ints {K : PySem.W.Frag} {H : Hp} : ∀ ns : List Int, DpAll K H (ns.map V.int) (dInts ns)
  | [] => .nil
  | n :: ns => .cons (.int n) (dp_ints ns)
theorem lay_ints : ∀ ns : List Int, PyData.canLayAll0 (dInts ns) = true
  | [] => by simp only [dInts, List.map_nil, PyData.canLayAll0]
  | n :: ns => by
    have ih := lay_ints ns
    simp only [dInts, List.map_cons, PyData.canLayAll0, PyData.canLay0, Bool.true_and] at ih ⊢
    exact ih
theorem dep_ints : ∀ ns : List Int, PyData.depthAll (dInts ns) ≤ 1
  | [] => by simp only [dInts, List.map_nil, PyData.depthAll]; omega
  | n :: ns => by
    have ih := dep_ints ns
    simp only [dInts, List.map_cons, PyData.depthAll, PyData.depth] at ih ⊢
    omega
theorem shp_ints (ns : List Int) : SeqAt.shaped (.list (dInts ns)) = true := by
  unfold SeqAt.shaped
  rw [Bool.and_eq_true, decide_eq_true_eq]
  refine ⟨?_, ?_⟩
  · simp only [PyData.canLay0]; exact lay_ints ns
  · have := dep_ints ns
    simp only [PyData.depth]; omega
theorem shp_intsT (ns : List Int) : SeqAt.shaped (.tuple (dInts ns)) = true := by
  unfold SeqAt.shaped
  rw [Bool.and_eq_true, decide_eq_true_eq]
  refine ⟨?_, ?_⟩
  · simp only [PyData.canLay0]; exact lay_ints ns
  · have := dep_ints ns
    simp only [PyData.depth]; omega
theorem eqv_intsA : ∀ a b : List Int, PyData.eqvAll (dInts a) (dInts b) = decide (a = b)
  | [], [] => by simp only [dInts, List.map_nil, PyData.eqvAll]; rfl
  | [], _ :: _ => by simp only [dInts, List.map_nil, List.map_cons, PyData.eqvAll]; rfl
  | _ :: _, [] => by simp only [dInts, List.map_nil, List.map_cons, PyData.eqvAll]; rfl
  | x :: a, y :: b => by
    have ih := eqv_intsA a b
    simp only [dInts, List.map_cons, PyData.eqvAll, PyData.eqv] at ih ⊢
    rw [ih, Bool.eq_iff_iff]; simp
theorem eqv_ints (a b : List Int) : PyData.eqv (.list (dInts a)) (.list (dInts b)) = decide (a = b) := by
  simp only [PyData.eqv]; exact eqv_intsA a b
theorem z_neInts {K : PySem.W.Frag} {H : Hp} {Q : VK} {p r : Addr} {a b : List Int} (h1 : SqL K H p (a.map V.int)) (h2 : SqL K H r (b.map V.int)) (k : Q (.bl (!decide (a = b))) H) : uNe K (.ref p) (.ref r) H Q :=
  z_neD (.lst h1 (dp_ints a)) (.lst h2 (dp_ints b)) (shp_ints a) (shp_ints b) (by rw [eqv_ints]; exact k)
theorem z_eqInts {K : PySem.W.Frag} {H : Hp} {Q : VK} {p r : Addr} {a b : List Int} (h1 : SqL K H p (a.map V.int)) (h2 : SqL K H r (b.map V.int)) (k : Q (.bl (decide (a = b))) H) : uEq K (.ref p) (.ref r) H Q :=
  z_eqD (.lst h1 (dp_ints a)) (.lst h2 (dp_ints b)) (shp_ints a) (shp_ints b) (by rw [eqv_ints]; exact k)

abbrev N_law_point : List Str := ["_law_state", "_law_size", "_law_spread", "_law_k"]
-- _law_point(_law_state, _law_size, _law_spread): slots 0:_law_state 1:_law_size 2:_law_spread 3:_law_k
def T_law_point (K : PySem.W.Frag) : TS :=
    (tRet (tLc (iRng1 (tCons (tVar 1) tNil)) (gName 3) tYes (tOp uSub (tCal (sp_law_next K) (tCons (tVar 0) (tCons (tOp (uAdd K) (tOp uMul (tC (.int 2)) (tVar 2)) (tC (.int 1))) tNil))) (tVar 2)) [3]))

def sp_law_point (K : PySem.W.Frag) : Sp := fun vs H Q _ => ∃ (st L : Addr) (sz s : Int), vs = [.ref st, .int sz, .int s] ∧ Draw H st L ∧ 0 ≤ sz ∧ sz ≤ 1000 ∧ 0 ≤ s ∧ s ≤ 1000000000 ∧
  ∀ (p : Addr) (ns : List Int) (H' : Hp), H p = none → H' p = some (.lst (ns.map V.int)) → (ns.length : Int) = sz → Bd s ns → Draw H' st L → ExD H H' → Q (.ref p) H'
theorem law_point_c {K : PySem.W.Frag} {st L : Addr} {sz s : Int} {H : Hp} {Q : VK} {E : XK} (d : Draw H st L) (h : 0 ≤ sz ∧ sz ≤ 1000) (h2 : 0 ≤ s ∧ s ≤ 1000000000)
    (q : ∀ (p : Addr) (ns : List Int) (H' : Hp), H p = none → H' p = some (.lst (ns.map V.int)) → (ns.length : Int) = sz → Bd s ns → Draw H' st L → ExD H H' → Q (.ref p) H') : sp_law_point K [.ref st, .int sz, .int s] H Q E :=
  ⟨st, L, sz, s, rfl, d, h.1, h.2, h2.1, h2.2, q⟩
theorem map_app {ns : List Int} {x : Int} : ns.map V.int ++ [V.int x] = (ns ++ [x]).map V.int := by simp
theorem r_law_point {K : PySem.W.Frag} {st L : Addr} {sz s : Int} {H : Hp} {D : Ends} (d : Draw H st L) (h1 : 0 ≤ sz) (h2 : sz ≤ 1000) (h3 : 0 ≤ s) (h4 : s ≤ 1000000000)
    (q : ∀ (p : Addr) (ns : List Int) (H' : Hp), H p = none → H' p = some (.lst (ns.map V.int)) → (ns.length : Int) = sz → Bd s ns → Draw H' st L → ExD H H' → D.rt (.ref p) H') : T_law_point K D [some (.ref st), some (.int sz), some (.int s), none] H := by
  unfold T_law_point
  walk_at "zz"
  refine z_lcr1 (by omega) ?_
  refine z_lcr (fun p i H' => ∃ ns : List Int, H' p = some (.lst (ns.map V.int)) ∧ ns.length = i ∧ Bd s ns ∧ Draw H' st L ∧ ExD H H') (fun p hp => ⟨[], upd_same, rfl, (fun _ h => nomatch h), Draw.new hp d, ExD.new hp (ExD.refl H)⟩) ?_ ?_
  · rintro p i H' hp hi ⟨ns, e, hl, hb, d1, x1⟩
    have np := Draw.ne hp d
    have nL := Draw.neL hp d
    walk_at "zz"
    refine ⟨rfl, ?_⟩
    walk_at "zz"
    walk_at "nx"
    intro r H2 a2 b2 d2 x2
    walk_at "zz"
    have e2 := x2.lk e NotSt.ints
    refine z_accum e2 (by simp; omega) ?_
    rw [map_app]
    exact ⟨ns ++ [r - s], upd_same, by simp [hl], hb.app (by omega) (by omega), Draw.put np nL d2, ExD.new hp (x1.trans x2)⟩
  · rintro p H' hp ⟨ns, e, hl, hb, d1, x1⟩
    exact q p ns H' hp e (by omega) hb d1 x1
theorem w_law_point {K : PySem.W.Frag} : Wd (T_law_point K) N_law_point 3 (sp_law_point K) := fun vs H Q E h => by
  obtain ⟨st, L, sz, s, rfl, d, h1, h2, h3, h4, q⟩ := h
  exact ⟨rfl, r_law_point d h1 h2 h3 h4 q⟩
abbrev N_law_distance : List Str := ["_law_a", "_law_b", "_law_total", "_law_k"]
-- _law_distance(_law_a, _law_b): slots 0:_law_a 1:_law_b 2:_law_total 3:_law_k
def T_law_distance_b1 (K : PySem.W.Frag) : TS :=
    (tAsg (tOp (uAdd K) (tVar 2) (tOp uMul (tOp uSub (tOp (uIx K) (tVar 0) (tVar 3)) (tOp (uIx K) (tVar 1) (tVar 3))) (tOp uSub (tOp (uIx K) (tVar 0) (tVar 3)) (tOp (uIx K) (tVar 1) (tVar 3))))) (gName 2))
def T_law_distance (K : PySem.W.Frag) : TS :=
    (tSeq (tAsg (tC (.int 0)) (gName 2))
    (tSeq (tFor (iRng1 (tCons (tCB (uLen K) (tCons (tVar 0) tNil)) tNil)) (gName 3) (T_law_distance_b1 K))
    (tRet (tVar 2))))

def sp_law_distance (K : PySem.W.Frag) : Sp := fun vs H Q _ => ∃ (p r : Addr) (a b : List Int), vs = [.ref p, .ref r] ∧ SqL K H p (a.map V.int) ∧ SqL K H r (b.map V.int) ∧ a.length = b.length ∧ a.length ≤ 100000 ∧ Bd 100000000000000000 a ∧ Bd 100000000000000000 b ∧ Q (.int (distZ a b)) H
theorem law_distance_c {K : PySem.W.Frag} {p r : Addr} {a b : List Int} {H : Hp} {Q : VK} {E : XK} (h1 : SqL K H p (a.map V.int)) (h2 : SqL K H r (b.map V.int)) (h3 : a.length = b.length) (h4 : a.length ≤ 100000) (h5 : Bd 100000000000000000 a) (h6 : Bd 100000000000000000 b) (q : Q (.int (distZ a b)) H) :
    sp_law_distance K [.ref p, .ref r] H Q E := ⟨p, r, a, b, rfl, h1, h2, h3, h4, h5, h6, q⟩
theorem r_law_distance {K : PySem.W.Frag} {p r : Addr} {a b : List Int} {H : Hp} {D : Ends} (h1 : SqL K H p (a.map V.int)) (h2 : SqL K H r (b.map V.int)) (h3 : a.length = b.length) (h4 : a.length ≤ 100000) (h5 : Bd 100000000000000000 a) (h6 : Bd 100000000000000000 b) (q : D.rt (.int (distZ a b)) H) :
    T_law_distance K D [some (.ref p), some (.ref r), none, none] H := by
  unfold T_law_distance
  walk_at "zz"
  refine z_rng1 (by simp; omega) ?_ (by omega)
  refine z_rng (fun i σ H' => H = H' ∧ ∃ v, σ = [some (.ref p), some (.ref r), some (.int (distZ (a.take i) (b.take i))), v]) ⟨rfl, none, by simp [distZ]⟩ ?_ ?_
  · rintro i σ H' hi ⟨rfl, v, rfl⟩
    have hi : i < a.length := by simpa using hi
    unfold T_law_distance_b1
    walk_at "zz"
    refine z_ix (.inl h1) (at_int (by omega) (by omega)) ?_
    walk_at "zz"
    refine z_ix (.inl h2) (at_int (by omega) (by omega)) ?_
    walk_at "zz"
    refine z_ix (.inl h1) (at_int (by omega) (by omega)) ?_
    walk_at "zz"
    refine z_ix (.inl h2) (at_int (by omega) (by omega)) ?_
    have ei : (0 + (i : Int)).toNat = i := by omega
    rw [ei]
    have u1 := h5.at hi
    have u2 := h6.at (h3 ▸ hi)
    walk_at "zz"
    rw [distZ_take h3 hi]
    exact ⟨rfl, _, rfl⟩
  · rintro σ H' ⟨rfl, v, rfl⟩
    walk_at "zz"
    have e : (Int.toNat (↑(List.map V.int a).length)) = a.length := by simp
    rw [e, List.take_length, h3, List.take_length]
    exact q
theorem w_law_distance {K : PySem.W.Frag} : Wd (T_law_distance K) N_law_distance 2 (sp_law_distance K) := fun vs H Q E h => by
  obtain ⟨p, r, a, b, rfl, h1, h2, h3, h4, h5, h6, q⟩ := h
  exact ⟨rfl, r_law_distance h1 h2 h3 h4 h5 h6 q⟩


/-! ### the products and distances of the program -/
/-- two lists, or two tuples, of ints -/
def Two (K : PySem.W.Frag) (H : Hp) (p r : Addr) (a b : List Int) : Prop := (SqL K H p (a.map V.int) ∧ SqL K H r (b.map V.int)) ∨ (SqT K H p (a.map V.int) ∧ SqT K H r (b.map V.int))

abbrev N_inner : List Str := ["a", "b", "total", "x", "y"]
-- inner(a, b): slots 0:a 1:b 2:total 3:x 4:y
def T_inner_b1 (K : PySem.W.Frag) : TS :=
    (tAsg (tOp (uAdd K) (tVar 2) (tOp uMul (tVar 3) (tVar 4))) (gName 2))
def T_inner (K : PySem.W.Frag) : TS :=
    (tSeq (tAsg (tC (.int 0)) (gName 2))
    (tSeq (tFor (RZ.iZipA K (tCons (tVar 0) (tCons (tVar 1) tNil))) (gTup K 2 (gCons (gName 3) (gCons (gName 4) gNil))) (T_inner_b1 K))
    (tRet (tVar 2))))


def sp_inner (K : PySem.W.Frag) : Sp := fun vs H Q _ => ∃ (p r : Addr) (a b : List Int), vs = [.ref p, .ref r] ∧ Two K H p r a b ∧ a.length = b.length ∧ Bd 100000000000000000 a ∧ Bd 100000000000000000 b ∧ ∀ H', Same H H' → Q (.int (innerZ a b)) H'
theorem inner_c {K : PySem.W.Frag} {p r : Addr} {a b : List Int} {H : Hp} {Q : VK} {E : XK} (h : Two K H p r a b) (h3 : a.length = b.length) (h5 : Bd 100000000000000000 a) (h6 : Bd 100000000000000000 b) (q : ∀ H', Same H H' → Q (.int (innerZ a b)) H') : sp_inner K [.ref p, .ref r] H Q E := ⟨p, r, a, b, rfl, h, h3, h5, h6, q⟩
theorem r_inner {K : PySem.W.Frag} {p r : Addr} {a b : List Int} {H : Hp} {D : Ends} (h : Two K H p r a b) (h3 : a.length = b.length) (h5 : Bd 100000000000000000 a) (h6 : Bd 100000000000000000 b) (q : ∀ H', Same H H' → D.rt (.int (innerZ a b)) H') : T_inner K D [some (.ref p), some (.ref r), none, none, none] H := by
  unfold T_inner
  walk_at "zz"
  refine z_zip h (fun i σ H' => Same H H' ∧ ∃ v w, σ = [some (.ref p), some (.ref r), some (.int (innerZ (a.take i) (b.take i))), v, w]) ⟨Same.refl H, none, none, by simp [innerZ]⟩ (fun i σ H' h => h.1) ?_ ?_
  · rintro i x y t σ H' hx hy ⟨s, v, w, rfl⟩ ht
    obtain ⟨l1, rfl⟩ := map_int hx
    obtain ⟨l2, rfl⟩ := map_int hy
    have u1 := h5.at l1
    have u2 := h6.at l2
    unfold T_inner_b1
    walk_at "zz"
    rw [← innerZ_take h3 l1]
    exact ⟨Same.new ht s, _, _, rfl⟩
  · rintro σ H' ⟨s, v, w, rfl⟩
    walk_at "zz"
    have e : min (a.map V.int).length (b.map V.int).length = a.length := by simp [h3]
    rw [e, List.take_length, h3, List.take_length]
    exact q H' s
theorem w_inner {K : PySem.W.Frag} : Wd (T_inner K) N_inner 2 (sp_inner K) := fun vs H Q E h => by
  obtain ⟨p, r, a, b, rfl, h1, h3, h5, h6, q⟩ := h
  exact ⟨rfl, r_inner h1 h3 h5 h6 q⟩

abbrev N_distance : List Str := ["a", "b", "total", "x", "y"]
-- distance(a, b): slots 0:a 1:b 2:total 3:x 4:y
def T_distance_b1 (K : PySem.W.Frag) : TS :=
    (tAsg (tOp (uAdd K) (tVar 2) (tOp uMul (tOp uSub (tVar 3) (tVar 4)) (tOp uSub (tVar 3) (tVar 4)))) (gName 2))
def T_distance (K : PySem.W.Frag) : TS :=
    (tSeq (tAsg (tC (.int 0)) (gName 2))
    (tSeq (tFor (RZ.iZipA K (tCons (tVar 0) (tCons (tVar 1) tNil))) (gTup K 2 (gCons (gName 3) (gCons (gName 4) gNil))) (T_distance_b1 K))
    (tRet (tVar 2))))


def sp_distance (K : PySem.W.Frag) : Sp := fun vs H Q _ => ∃ (p r : Addr) (a b : List Int), vs = [.ref p, .ref r] ∧ Two K H p r a b ∧ a.length = b.length ∧ Bd 100000000000000000 a ∧ Bd 100000000000000000 b ∧ ∀ H', Same H H' → Q (.int (distZ a b)) H'
theorem distance_c {K : PySem.W.Frag} {p r : Addr} {a b : List Int} {H : Hp} {Q : VK} {E : XK} (h : Two K H p r a b) (h3 : a.length = b.length) (h5 : Bd 100000000000000000 a) (h6 : Bd 100000000000000000 b) (q : ∀ H', Same H H' → Q (.int (distZ a b)) H') : sp_distance K [.ref p, .ref r] H Q E := ⟨p, r, a, b, rfl, h, h3, h5, h6, q⟩
theorem r_distance {K : PySem.W.Frag} {p r : Addr} {a b : List Int} {H : Hp} {D : Ends} (h : Two K H p r a b) (h3 : a.length = b.length) (h5 : Bd 100000000000000000 a) (h6 : Bd 100000000000000000 b) (q : ∀ H', Same H H' → D.rt (.int (distZ a b)) H') : T_distance K D [some (.ref p), some (.ref r), none, none, none] H := by
  unfold T_distance
  walk_at "zz"
  refine z_zip h (fun i σ H' => Same H H' ∧ ∃ v w, σ = [some (.ref p), some (.ref r), some (.int (distZ (a.take i) (b.take i))), v, w]) ⟨Same.refl H, none, none, by simp [distZ]⟩ (fun i σ H' h => h.1) ?_ ?_
  · rintro i x y t σ H' hx hy ⟨s, v, w, rfl⟩ ht
    obtain ⟨l1, rfl⟩ := map_int hx
    obtain ⟨l2, rfl⟩ := map_int hy
    have u1 := h5.at l1
    have u2 := h6.at l2
    unfold T_distance_b1
    walk_at "zz"
    rw [← distZ_take h3 l1]
    exact ⟨Same.new ht s, _, _, rfl⟩
  · rintro σ H' ⟨s, v, w, rfl⟩
    walk_at "zz"
    have e : min (a.map V.int).length (b.map V.int).length = a.length := by simp [h3]
    rw [e, List.take_length, h3, List.take_length]
    exact q H' s
theorem w_distance {K : PySem.W.Frag} : Wd (T_distance K) N_distance 2 (sp_distance K) := fun vs H Q E h => by
  obtain ⟨p, r, a, b, rfl, h1, h3, h5, h6, q⟩ := h
  exact ⟨rfl, r_distance h1 h3 h5 h6 q⟩

abbrev N_differing : List Str := ["a", "b", "total", "x", "y"]
-- differing(a, b): slots 0:a 1:b 2:total 3:x 4:y
def T_differing_b1 (K : PySem.W.Frag) : TS :=
    (tIfS (tTest (tOp (uNe K) (tVar 3) (tVar 4))) (tAsg (tOp (uAdd K) (tVar 2) (tC (.int 1))) (gName 2)) tNext)
def T_differing (K : PySem.W.Frag) : TS :=
    (tSeq (tAsg (tC (.int 0)) (gName 2))
    (tSeq (tFor (RZ.iZipA K (tCons (tVar 0) (tCons (tVar 1) tNil))) (gTup K 2 (gCons (gName 3) (gCons (gName 4) gNil))) (T_differing_b1 K))
    (tRet (tVar 2))))


def sp_differing (K : PySem.W.Frag) : Sp := fun vs H Q _ => ∃ (p r : Addr) (a b : List Int), vs = [.ref p, .ref r] ∧ Two K H p r a b ∧ a.length = b.length ∧ Bd 100000000000000000 a ∧ Bd 100000000000000000 b ∧ ∀ H', Same H H' → Q (.int (diffZ a b)) H'
theorem differing_c {K : PySem.W.Frag} {p r : Addr} {a b : List Int} {H : Hp} {Q : VK} {E : XK} (h : Two K H p r a b) (h3 : a.length = b.length) (h5 : Bd 100000000000000000 a) (h6 : Bd 100000000000000000 b) (q : ∀ H', Same H H' → Q (.int (diffZ a b)) H') : sp_differing K [.ref p, .ref r] H Q E := ⟨p, r, a, b, rfl, h, h3, h5, h6, q⟩
theorem r_differing {K : PySem.W.Frag} {p r : Addr} {a b : List Int} {H : Hp} {D : Ends} (h : Two K H p r a b) (h3 : a.length = b.length) (h5 : Bd 100000000000000000 a) (h6 : Bd 100000000000000000 b) (q : ∀ H', Same H H' → D.rt (.int (diffZ a b)) H') : T_differing K D [some (.ref p), some (.ref r), none, none, none] H := by
  unfold T_differing
  walk_at "zz"
  refine z_zip h (fun i σ H' => Same H H' ∧ ∃ v w, σ = [some (.ref p), some (.ref r), some (.int (diffZ (a.take i) (b.take i))), v, w]) ⟨Same.refl H, none, none, by simp [diffZ]⟩ (fun i σ H' h => h.1) ?_ ?_
  · rintro i x y t σ H' hx hy ⟨s, v, w, rfl⟩ ht
    obtain ⟨l1, rfl⟩ := map_int hx
    obtain ⟨l2, rfl⟩ := map_int hy
    have u1 := h5.at l1
    have u2 := h6.at l2
    unfold T_differing_b1
    walk_at "zz"
    refine z_itN (fun c => ?_) (fun c => ?_)
    · walk_at "zz"
      have e := diffZ_take h3 l1
      rw [if_neg c] at e
      rw [← e]
      exact ⟨Same.new ht s, _, _, rfl⟩
    · walk_at "zz"
      have e := diffZ_take h3 l1
      rw [if_pos c, Int.add_zero] at e
      rw [← e]
      exact ⟨Same.new ht s, _, _, rfl⟩
  · rintro σ H' ⟨s, v, w, rfl⟩
    walk_at "zz"
    have e : min (a.map V.int).length (b.map V.int).length = a.length := by simp [h3]
    rw [e, List.take_length, h3, List.take_length]
    exact q H' s
theorem w_differing {K : PySem.W.Frag} : Wd (T_differing K) N_differing 2 (sp_differing K) := fun vs H Q E h => by
  obtain ⟨p, r, a, b, rfl, h1, h3, h5, h6, q⟩ := h
  exact ⟨rfl, r_differing h1 h3 h5 h6 q⟩

abbrev N_norm : List Str := ["a"]
-- norm(a): slots 0:a
def T_norm (K : PySem.W.Frag) : TS :=
    (tRet (tCal (sp_inner K) (tCons (tVar 0) (tCons (tVar 0) tNil))))


def sp_norm (K : PySem.W.Frag) : Sp := fun vs H Q _ => ∃ (p : Addr) (a : List Int), vs = [.ref p] ∧ (SqL K H p (a.map V.int) ∨ SqT K H p (a.map V.int)) ∧ Bd 100000000000000000 a ∧ ∀ H', Same H H' → Q (.int (innerZ a a)) H'
theorem norm_c {K : PySem.W.Frag} {p : Addr} {a : List Int} {H : Hp} {Q : VK} {E : XK} (h : SqL K H p (a.map V.int) ∨ SqT K H p (a.map V.int)) (h5 : Bd 100000000000000000 a) (q : ∀ H', Same H H' → Q (.int (innerZ a a)) H') : sp_norm K [.ref p] H Q E := ⟨p, a, rfl, h, h5, q⟩
theorem r_norm {K : PySem.W.Frag} {p : Addr} {a : List Int} {H : Hp} {D : Ends} (h : SqL K H p (a.map V.int) ∨ SqT K H p (a.map V.int)) (h5 : Bd 100000000000000000 a) (q : ∀ H', Same H H' → D.rt (.int (innerZ a a)) H') : T_norm K D [some (.ref p)] H := by
  unfold T_norm
  walk_at "zz"
  exact inner_c (h.elim (fun z => .inl ⟨z, z⟩) fun z => .inr ⟨z, z⟩) rfl h5 h5 q
theorem w_norm {K : PySem.W.Frag} : Wd (T_norm K) N_norm 1 (sp_norm K) := fun vs H Q E h => by
  obtain ⟨p, a, rfl, h1, h5, q⟩ := h
  exact ⟨rfl, r_norm h1 h5 q⟩

/-! ### rows of ints in a list -/
inductive All2 {α β : Type} (R : α → β → Prop) : List α → List β → Prop
  | nil : All2 R [] []
  | cons {a : α} {b : β} {as : List α} {bs : List β} (h : R a b) (t : All2 R as bs) : All2 R (a :: as) (b :: bs)
def RowsIn (H : Hp) (ps : List Addr) (xss : List (List Int)) : Prop := All2 (fun q (xs : List Int) => H q = some (.lst (xs.map V.int))) ps xss
def RowsAt (H : Hp) (p : Addr) (xss : List (List Int)) : Prop := ∃ ps : List Addr, H p = some (.lst (ps.map V.ref)) ∧ RowsIn H ps xss
theorem RowsIn.mono {H H' : Hp} {ps : List Addr} {xss : List (List Int)} (r : RowsIn H ps xss) (k : ∀ (q : Addr) (xs : List Int), H q = some (.lst (xs.map V.int)) → H' q = some (.lst (xs.map V.int))) : RowsIn H' ps xss := by
  unfold RowsIn at *
  induction r with
  | nil => exact .nil
  | cons h t ih => exact .cons (k _ _ h) ih
theorem RowsIn.exd {H H' : Hp} {ps : List Addr} {xss : List (List Int)} (x : ExD H H') (r : RowsIn H ps xss) : RowsIn H' ps xss := r.mono fun q xs e => x _ _ NotSt.ints e
theorem RowsIn.same {H H' : Hp} {ps : List Addr} {xss : List (List Int)} (x : Same H H') (r : RowsIn H ps xss) : RowsIn H' ps xss := r.mono fun q xs e => x _ _ e
theorem RowsIn.new {H : Hp} {ps : List Addr} {xss : List (List Int)} {p : Addr} {o : HO} (h : H p = none) (r : RowsIn H ps xss) : RowsIn (upd H p o) ps xss := r.mono fun q xs e => lk_new h e
theorem RowsIn.app {H : Hp} {ps : List Addr} {xss : List (List Int)} {q : Addr} {xs : List Int} (r : RowsIn H ps xss) (e : H q = some (.lst (xs.map V.int))) : RowsIn H (ps ++ [q]) (xss ++ [xs]) := by
  unfold RowsIn at *
  induction r with
  | nil => exact .cons e .nil
  | cons h t ih => exact .cons h ih
theorem RowsIn.mem {H : Hp} {ps : List Addr} {xss : List (List Int)} (r : RowsIn H ps xss) : ∀ q ∈ ps, ∃ xs : List Int, H q = some (.lst (xs.map V.int)) := by
  unfold RowsIn at r
  induction r with
  | nil => intro q h; cases h
  | cons h t ih =>
    intro q hq
    rcases List.mem_cons.mp hq with rfl | hq
    · exact ⟨_, h⟩
    · exact ih q hq
theorem RowsIn.ne {H : Hp} {ps : List Addr} {xss : List (List Int)} {p : Addr} (r : RowsIn H ps xss) (e : H p = some (.lst (ps.map V.ref))) : ∀ q ∈ ps, q ≠ p := by
  intro q hq z
  subst z
  obtain ⟨xs, h⟩ := r.mem q hq
  rw [e] at h
  cases ps with
  | nil => cases hq
  | cons a t => cases xs with
    | nil => cases Option.some.inj h
    | cons b u => have h := Option.some.inj h; injection h with h; injection h with h _; cases h
theorem RowsIn.put {H : Hp} {ps : List Addr} {xss : List (List Int)} {p : Addr} {o : HO} (r : RowsIn H ps xss) (n : ∀ q ∈ ps, q ≠ p) : RowsIn (upd H p o) ps xss := by
  unfold RowsIn at *
  induction r with
  | nil => exact .nil
  | cons h t ih => exact .cons (lk_ne (n _ (List.mem_cons_self ..)) h) (ih fun q hq => n q (List.mem_cons_of_mem _ hq))
theorem RowsIn.len {H : Hp} {ps : List Addr} {xss : List (List Int)} (r : RowsIn H ps xss) : ps.length = xss.length := by
  unfold RowsIn at r
  induction r with
  | nil => rfl
  | cons h t ih => simp [ih]
theorem RowsAt.exd {H H' : Hp} {p : Addr} {xss : List (List Int)} (x : ExD H H') (r : RowsAt H p xss) : RowsAt H' p xss := by
  obtain ⟨ps, e, r⟩ := r
  exact ⟨ps, x _ _ NotSt.refs e, RowsIn.exd x r⟩
theorem RowsAt.same {H H' : Hp} {p : Addr} {xss : List (List Int)} (x : Same H H') (r : RowsAt H p xss) : RowsAt H' p xss := by
  obtain ⟨ps, e, r⟩ := r
  exact ⟨ps, x _ _ e, RowsIn.same x r⟩
theorem RowsAt.new {H : Hp} {p q : Addr} {o : HO} {xss : List (List Int)} (h : H q = none) (r : RowsAt H p xss) : RowsAt (upd H q o) p xss := by
  obtain ⟨ps, e, r⟩ := r
  exact ⟨ps, lk_new h e, RowsIn.new h r⟩
theorem RowsIn.snoc {H : Hp} {p q : Addr} {xss : List (List Int)} {xs : List Int} {ps : List Addr} {o : HO} (e : H p = some (.lst (ps.map V.ref))) (r : RowsIn H ps xss) (f : H q = some (.lst (xs.map V.int))) (n : q ≠ p) :
    RowsIn (upd H p o) (ps ++ [q]) (xss ++ [xs]) := by
  refine RowsIn.put (RowsIn.app r f) fun a ha => ?_
  rcases List.mem_append.mp ha with h | h
  · exact RowsIn.ne r e a h
  · rw [List.mem_singleton.mp h]; exact n
theorem RowsAt.app {H : Hp} {p q : Addr} {xss : List (List Int)} {xs : List Int} {ps : List Addr} (e : H p = some (.lst (ps.map V.ref))) (r : RowsIn H ps xss) (f : H q = some (.lst (xs.map V.int))) (n : q ≠ p) :
    RowsAt (upd H p (.lst (ps.map V.ref ++ [.ref q]))) p (xss ++ [xs]) := by
  refine ⟨ps ++ [q], by rw [upd_same, List.map_append]; rfl, RowsIn.put (RowsIn.app r f) fun a ha => ?_⟩
  rcases List.mem_append.mp ha with h | h
  · exact RowsIn.ne r e a h
  · rw [List.mem_singleton.mp h]; exact n
/-! ### data of rows -/
def dRows (xss : List (List Int)) : List PyData := xss.map fun xs => .list (dInts xs)
theorem dp_rows {K : PySem.W.Frag} {H : Hp} {ps : List Addr} {xss : List (List Int)} (r : RowsIn H ps xss) : DpAll K H (ps.map V.ref) (dRows xss) := by
  unfold RowsIn at r
  induction r with
  | nil => exact .nil
  | cons h t ih => exact .cons (.lst (SqL.of h) (dp_ints _)) ih
theorem lay_rows : ∀ xss : List (List Int), PyData.canLayAll0 (dRows xss) = true
  | [] => by simp only [dRows, List.map_nil, PyData.canLayAll0]
  | xs :: r => by
    have ih := lay_rows r
    simp only [dRows, List.map_cons, PyData.canLayAll0, PyData.canLay0, Bool.and_eq_true] at ih ⊢
    exact ⟨lay_ints xs, ih⟩
theorem dep_rows : ∀ xss : List (List Int), PyData.depthAll (dRows xss) ≤ 2
  | [] => by simp only [dRows, List.map_nil, PyData.depthAll]; omega
  | xs :: r => by
    have ih := dep_rows r
    have h := dep_ints xs
    simp only [dRows, List.map_cons, PyData.depthAll, PyData.depth] at ih ⊢
    omega
theorem shp_rows (xss : List (List Int)) : SeqAt.shaped (.list (dRows xss)) = true := by
  unfold SeqAt.shaped
  rw [Bool.and_eq_true, decide_eq_true_eq]
  refine ⟨?_, ?_⟩
  · simp only [PyData.canLay0]; exact lay_rows xss
  · have := dep_rows xss
    simp only [PyData.depth]; omega
theorem eqv_rowsA : ∀ a b : List (List Int), PyData.eqvAll (dRows a) (dRows b) = decide (a = b)
  | [], [] => by simp only [dRows, List.map_nil, PyData.eqvAll]; rfl
  | [], _ :: _ => by simp only [dRows, List.map_nil, List.map_cons, PyData.eqvAll]; rfl
  | _ :: _, [] => by simp only [dRows, List.map_nil, List.map_cons, PyData.eqvAll]; rfl
  | x :: a, y :: b => by
    have ih := eqv_rowsA a b
    have h := eqv_ints x y
    simp only [dRows, List.map_cons, PyData.eqvAll] at ih ⊢
    rw [ih, h, Bool.eq_iff_iff]; simp
theorem z_neRows {K : PySem.W.Frag} {H : Hp} {Q : VK} {p r : Addr} {a b : List (List Int)} (h1 : RowsAt H p a) (h2 : RowsAt H r b) (k : Q (.bl (!decide (a = b))) H) : uNe K (.ref p) (.ref r) H Q := by
  obtain ⟨ps, e1, r1⟩ := h1
  obtain ⟨qs, e2, r2⟩ := h2
  exact z_neD (.lst (SqL.of e1) (dp_rows r1)) (.lst (SqL.of e2) (dp_rows r2)) (shp_rows a) (shp_rows b) (by simp only [PyData.eqv]; rw [eqv_rowsA]; exact k)
theorem z_eqRows {K : PySem.W.Frag} {H : Hp} {Q : VK} {p r : Addr} {a b : List (List Int)} (h1 : RowsAt H p a) (h2 : RowsAt H r b) (k : Q (.bl (decide (a = b))) H) : uEq K (.ref p) (.ref r) H Q := by
  obtain ⟨ps, e1, r1⟩ := h1
  obtain ⟨qs, e2, r2⟩ := h2
  exact z_eqD (.lst (SqL.of e1) (dp_rows r1)) (.lst (SqL.of e2) (dp_rows r2)) (shp_rows a) (shp_rows b) (by simp only [PyData.eqv]; rw [eqv_rowsA]; exact k)
theorem Same.put {H H' : Hp} {p : Addr} {o : HO} (h : H p = none) (x : Same H H') : Same H (upd H' p o) := fun a u e => lk_ne (ne_of_none e h) (x a u e)

/-! ### rows of ints, in lists or in tuples -/
section
variable {α β : Type} {R S : α → β → Prop} {as : List α} {bs : List β} {a : α} {b : β}
theorem All2.imp (f : ∀ a b, R a b → S a b) (h : All2 R as bs) : All2 S as bs := by
  induction h with
  | nil => exact .nil
  | cons h t ih => exact .cons (f _ _ h) ih
theorem All2.app (h : All2 R as bs) (e : R a b) : All2 R (as ++ [a]) (bs ++ [b]) := by
  induction h with
  | nil => exact .cons e .nil
  | cons h t ih => exact .cons h ih
theorem All2.len (h : All2 R as bs) : as.length = bs.length := by
  induction h with
  | nil => rfl
  | cons h t ih => simp [ih]
theorem All2.get (h : All2 R as bs) : ∀ {i : Nat} (hi : i < as.length) (hj : i < bs.length), R as[i] bs[i] := by
  induction h with
  | nil => intro i hi; cases hi
  | cons h t ih => intro i hi hj; cases i with
    | zero => exact h
    | succ i => exact ih (by simpa using hi) (by simpa using hj)
theorem All2.of {n : Nat} (ha : as.length = n) (hb : bs.length = n) (f : ∀ i (hi : i < as.length) (hj : i < bs.length), R as[i] bs[i]) : All2 R as bs := by
  induction as generalizing bs n with
  | nil => cases bs with
    | nil => exact .nil
    | cons b t => simp at ha hb; omega
  | cons a t ih => cases bs with
    | nil => simp at ha hb; omega
    | cons b u => exact .cons (f 0 (by simp) (by simp)) (ih (n := n - 1) (by simp at ha; omega) (by simp at hb; omega) fun i hi hj => f (i + 1) (by simpa using hi) (by simpa using hj))
end
def RwIn (k : List V → HO) (H : Hp) (ps : List Addr) (xss : List (List Int)) : Prop := All2 (fun q (xs : List Int) => H q = some (k (xs.map V.int))) ps xss
def RwAt (k : List V → HO) (H : Hp) (p : Addr) (xss : List (List Int)) : Prop := ∃ ps : List Addr, H p = some (.lst (ps.map V.ref)) ∧ RwIn k H ps xss
section
variable {k : List V → HO} {H H' : Hp} {ps : List Addr} {xss : List (List Int)} {p q : Addr} {o : HO} {xs : List Int}
theorem RwIn.same (x : Same H H') (r : RwIn k H ps xss) : RwIn k H' ps xss := All2.imp (fun _ _ e => x _ _ e) r
theorem RwIn.new (h : H p = none) (r : RwIn k H ps xss) : RwIn k (upd H p o) ps xss := All2.imp (fun _ _ e => lk_new h e) r
theorem RwIn.exdL (x : ExD H H') (r : RwIn .lst H ps xss) : RwIn .lst H' ps xss := All2.imp (fun _ _ e => x _ _ NotSt.ints e) r
theorem RwIn.exdT (x : ExD H H') (r : RwIn .tup H ps xss) : RwIn .tup H' ps xss := All2.imp (fun _ _ e => x _ _ (fun _ _ _ z => by cases z) e) r
theorem RwIn.at (r : RwIn k H ps xss) {i : Nat} (h : i < xss.length) : H (ps.getD i 0) = some (k ((xss.getD i []).map V.int)) := by
  have e := All2.get r (show i < ps.length by rw [All2.len r]; exact h) h
  rw [List.getD_eq_getElem?_getD, List.getD_eq_getElem?_getD, List.getElem?_eq_getElem h, List.getElem?_eq_getElem (show i < ps.length by rw [All2.len r]; exact h)]
  exact e
theorem RwIn.putT {us : List V} (e : H p = some (.lst us)) (r : RwIn .tup H ps xss) : RwIn .tup (upd H p o) ps xss := All2.imp (fun q _ h => lk_ne (fun z => by subst z; rw [e] at h; cases h) h) r
theorem RwAt.same (x : Same H H') (r : RwAt k H p xss) : RwAt k H' p xss := ⟨r.choose, x _ _ r.choose_spec.1, RwIn.same x r.choose_spec.2⟩
theorem RwAt.new (h : H q = none) (r : RwAt k H p xss) : RwAt k (upd H q o) p xss := ⟨r.choose, lk_new h r.choose_spec.1, RwIn.new h r.choose_spec.2⟩
theorem RwAt.exdL (x : ExD H H') (r : RwAt .lst H p xss) : RwAt .lst H' p xss := ⟨r.choose, x _ _ NotSt.refs r.choose_spec.1, RwIn.exdL x r.choose_spec.2⟩
theorem RwAt.exdT (x : ExD H H') (r : RwAt .tup H p xss) : RwAt .tup H' p xss := ⟨r.choose, x _ _ NotSt.refs r.choose_spec.1, RwIn.exdT x r.choose_spec.2⟩
end
theorem at_ref {ps : List Addr} {i : Int} (h0 : 0 ≤ i) (h1 : i < ps.length) : atI (ps.map V.ref) i = some (.ref (ps.getD i.toNat 0)) := by
  unfold atI
  rw [ix_at h0 (by simpa using h1)]
  have : i.toNat < ps.length := by omega
  simp [List.getD, this]
theorem map_ref {ps : List Addr} {i : Nat} {x : V} (h : (ps.map V.ref)[i]? = some x) : i < ps.length ∧ x = .ref (ps.getD i 0) := by
  rw [List.getElem?_map] at h
  cases e : ps[i]? with
  | none => rw [e] at h; cases h
  | some y =>
    rw [e] at h
    obtain ⟨l, _⟩ := List.getElem?_eq_some_iff.mp e
    exact ⟨l, by rw [List.getD_eq_getElem?_getD, e]; exact (Option.some.inj h).symm⟩
theorem ref_app {ps : List Addr} {q : Addr} : ps.map V.ref ++ [V.ref q] = (ps ++ [q]).map V.ref := by simp
/-! data of rows in tuples -/
def dRowsT (xss : List (List Int)) : List PyData := xss.map fun xs => .tuple (dInts xs)
theorem dp_rowsT {K : PySem.W.Frag} {H : Hp} {ps : List Addr} {xss : List (List Int)} (r : RwIn .tup H ps xss) : DpAll K H (ps.map V.ref) (dRowsT xss) := by
  unfold RwIn at r
  induction r with
  | nil => exact .nil
  | cons h t ih => exact .cons (.tup (SqT.of h) (dp_ints _)) ih
theorem lay_rowsT : ∀ xss : List (List Int), PyData.canLayAll0 (dRowsT xss) = true
  | [] => by simp only [dRowsT, List.map_nil, PyData.canLayAll0]
  | xs :: r => by
    have ih := lay_rowsT r
    simp only [dRowsT, List.map_cons, PyData.canLayAll0, PyData.canLay0, Bool.and_eq_true] at ih ⊢
    exact ⟨lay_ints xs, ih⟩
theorem dep_rowsT : ∀ xss : List (List Int), PyData.depthAll (dRowsT xss) ≤ 2
  | [] => by simp only [dRowsT, List.map_nil, PyData.depthAll]; omega
  | xs :: r => by
    have ih := dep_rowsT r
    have h := dep_ints xs
    simp only [dRowsT, List.map_cons, PyData.depthAll, PyData.depth] at ih ⊢
    omega
theorem shp_rowsT (xss : List (List Int)) : SeqAt.shaped (.list (dRowsT xss)) = true := by
  unfold SeqAt.shaped
  rw [Bool.and_eq_true, decide_eq_true_eq]
  refine ⟨?_, ?_⟩
  · simp only [PyData.canLay0]; exact lay_rowsT xss
  · have := dep_rowsT xss
    simp only [PyData.depth]; omega
theorem eqv_rowsTA : ∀ a b : List (List Int), PyData.eqvAll (dRowsT a) (dRowsT b) = decide (a = b)
  | [], [] => by simp only [dRowsT, List.map_nil, PyData.eqvAll]; rfl
  | [], _ :: _ => by simp only [dRowsT, List.map_nil, List.map_cons, PyData.eqvAll]; rfl
  | _ :: _, [] => by simp only [dRowsT, List.map_nil, List.map_cons, PyData.eqvAll]; rfl
  | x :: a, y :: b => by
    have ih := eqv_rowsTA a b
    have h := eqv_intsA x y
    simp only [dRowsT, List.map_cons, PyData.eqvAll, PyData.eqv] at ih ⊢
    rw [ih, h, Bool.eq_iff_iff]; simp
theorem z_neRowsT {K : PySem.W.Frag} {H : Hp} {Q : VK} {p r : Addr} {a b : List (List Int)} (h1 : RwAt .tup H p a) (h2 : RwAt .tup H r b) (k : Q (.bl (!decide (a = b))) H) : uNe K (.ref p) (.ref r) H Q := by
  obtain ⟨ps, e1, r1⟩ := h1
  obtain ⟨qs, e2, r2⟩ := h2
  exact z_neD (.lst (SqL.of e1) (dp_rowsT r1)) (.lst (SqL.of e2) (dp_rowsT r2)) (shp_rowsT a) (shp_rowsT b) (by simp only [PyData.eqv]; rw [eqv_rowsTA]; exact k)

/-! ### training in plain -/
def bestZ (css : List (List Int)) (xs : List Int) : Nat → Nat
  | 0 => 0
  | i + 1 => if distZ (css.getD (i + 1) []) xs < distZ (css.getD (bestZ css xs i) []) xs then i + 1 else bestZ css xs i
theorem bestZ_le (css : List (List Int)) (xs : List Int) : ∀ i, bestZ css xs i ≤ i
  | 0 => Nat.le_refl 0
  | i + 1 => by
    have := bestZ_le css xs i
    unfold bestZ
    split <;> omega
theorem bestZ_s {css : List (List Int)} {xs : List Int} {i : Nat} : bestZ css xs (i + 1) = if distZ (css.getD (i + 1) []) xs < distZ (css.getD (bestZ css xs i) []) xs then i + 1 else bestZ css xs i := rfl
def nearZ (css : List (List Int)) (xs : List Int) : Nat := bestZ css xs (css.length - 1)
/-- all of one size, and of numbers that are not too great -/
def VOk (sz : Nat) (css : List (List Int)) : Prop := ∀ c ∈ css, c.length = sz ∧ Bd 1000000 c
theorem getR_mem {css : List (List Int)} {i : Nat} (h : i < css.length) : css.getD i [] ∈ css := by
  rw [List.getD_eq_getElem?_getD, List.getElem?_eq_getElem h]; exact List.getElem_mem h
theorem VOk.at {sz : Nat} {css : List (List Int)} (h : VOk sz css) {i : Nat} (hi : i < css.length) : (css.getD i []).length = sz ∧ Bd 1000000 (css.getD i []) := h _ (getR_mem hi)
theorem zip_take {α β : Type} : ∀ (l : List α) (pl : List β) (j : Nat), (l.take j).zip pl = (l.zip pl).take j
  | [], pl, j => by simp
  | _ :: _, [], j => by simp
  | a :: l, b :: pl, 0 => by simp
  | a :: l, b :: pl, j + 1 => by simp [zip_take l pl j]
def ownG {α : Type} (l : List α) (pl : List Int) (k : Int) : List α := ((l.zip pl).filter fun z => z.2 == k).map (·.1)
theorem ownG_take {α : Type} {l : List α} {pl : List Int} {k : Int} {i : Nat} (h : i < l.length) (h2 : i < pl.length) : ownG (l.take (i + 1)) pl k = if pl.getD i 0 = k then ownG (l.take i) pl k ++ [l[i]] else ownG (l.take i) pl k := by
  unfold ownG
  rw [zip_take, zip_take, List.take_succ, List.getElem?_eq_getElem (by rw [List.length_zip]; omega), List.getElem_zip]
  have e2 : pl.getD i 0 = pl[i] := by rw [List.getD_eq_getElem?_getD, List.getElem?_eq_getElem h2]; rfl
  rw [e2]
  simp only [Option.toList_some, List.filter_append, List.map_append]
  by_cases hk : pl[i] = k
  · rw [if_pos hk]; simp [hk]
  · rw [if_neg hk]; simp [hk]
theorem All2.own {α β : Type} {R : α → β → Prop} {as : List α} {bs : List β} (h : All2 R as bs) (k : Int) : ∀ pl : List Int, All2 R (ownG as pl k) (ownG bs pl k) := by
  induction h with
  | nil => intro pl; exact .nil
  | cons h t ih =>
    intro pl
    cases pl with
    | nil => exact .nil
    | cons x r =>
      have := ih r
      unfold ownG at *
      simp only [List.zip_cons_cons, List.filter_cons]
      split
      · exact .cons h this
      · exact this
theorem ownG_mem {α : Type} {l : List α} {pl : List Int} {k : Int} {x : α} (h : x ∈ ownG l pl k) : x ∈ l := by
  unfold ownG at h
  obtain ⟨z, hz, rfl⟩ := List.mem_map.mp h
  exact (List.of_mem_zip (List.mem_filter.mp hz).1).1
theorem ownG_len {α : Type} {l : List α} {pl : List Int} {k : Int} : (ownG l pl k).length ≤ l.length := by
  unfold ownG
  rw [List.length_map]
  refine Nat.le_trans (List.length_filter_le _ _) ?_
  rw [List.length_zip]; omega
def colZ (own : List (List Int)) (k : Nat) : List Int := own.map fun v => v.getD k 0
theorem take_sD {α : Type} {l : List α} {i : Nat} (d : α) (h : i < l.length) : l.take (i + 1) = l.take i ++ [l.getD i d] := by
  rw [List.take_succ, List.getD_eq_getElem?_getD, List.getElem?_eq_getElem h]; rfl
theorem colZ_take {own : List (List Int)} {i j : Nat} (h : j < own.length) : colZ (own.take (j + 1)) i = colZ (own.take j) i ++ [(own.getD j []).getD i 0] := by
  unfold colZ; rw [take_sD [] h, List.map_append]; rfl
def meanZ (own : List (List Int)) : List Int := (List.range (own.getD 0 []).length).map fun k => (colZ own k).sum / (own.length : Int)
def moveZ (css vss : List (List Int)) : List (List Int) := (List.range css.length).map fun (k : Nat) =>
  if 0 < (ownG vss (vss.map fun v => (nearZ css v : Int)) (k : Int)).length then meanZ (ownG vss (vss.map fun v => (nearZ css v : Int)) (k : Int)) else css.getD k []
def initZ (vss : List (List Int)) (m : Nat) : List (List Int) := (List.range m).map fun i => vss.getD (i * vss.length / m) []
def trainZ (vss : List (List Int)) (m : Nat) : Nat → List (List Int)
  | 0 => initZ vss m
  | i + 1 => moveZ (trainZ vss m i) vss
theorem sum_bd {b : Int} : ∀ {xs : List Int}, Bd b xs → -(b * xs.length) ≤ xs.sum ∧ xs.sum ≤ b * xs.length
  | [], _ => by simp
  | x :: xs, h => by
    have ih := sum_bd (b := b) (xs := xs) fun y hy => h y (List.mem_cons_of_mem _ hy)
    have hx := h x (List.mem_cons_self ..)
    rw [List.sum_cons, List.length_cons, Int.natCast_add, Int.mul_add]
    generalize b * (xs.length : Int) = u at *
    show -(u + b * 1) ≤ _ ∧ _ ≤ u + b * 1
    omega
theorem mean_bd {b : Int} {xs : List Int} (h : Bd b xs) (h0 : 0 < xs.length) : -b ≤ xs.sum / (xs.length : Int) ∧ xs.sum / (xs.length : Int) ≤ b := by
  obtain ⟨h1, h2⟩ := sum_bd h
  refine ⟨?_, ?_⟩
  · apply Int.le_ediv_of_mul_le (by omega); rw [Int.neg_mul]; exact h1
  · apply Int.ediv_le_of_le_mul (by omega); exact h2
theorem meanZ_ok {sz : Nat} {own : List (List Int)} (o : VOk sz own) (h0 : 0 < own.length) : (meanZ own).length = sz ∧ Bd 1000000 (meanZ own) := by
  refine ⟨by rw [meanZ, List.length_map, List.length_range, (o.at h0).1], fun x hx => ?_⟩
  obtain ⟨k, hk, rfl⟩ := List.mem_map.mp hx
  have hk := List.mem_range.mp hk
  rw [(o.at h0).1] at hk
  have := mean_bd (b := 1000000) (xs := colZ own k) (fun y hy => by
    obtain ⟨v, hv, rfl⟩ := List.mem_map.mp hy
    exact (o v hv).2.at (by rw [(o v hv).1]; exact hk)) (by simpa [colZ] using h0)
  simpa [colZ] using this
theorem moveZ_ok {sz : Nat} {css vss : List (List Int)} (o : VOk sz css) (ov : VOk sz vss) : VOk sz (moveZ css vss) := by
  intro c hc
  obtain ⟨k, hk, rfl⟩ := List.mem_map.mp hc
  have hk := List.mem_range.mp hk
  split
  · rename_i h0
    exact meanZ_ok (fun c hc => ov c (ownG_mem hc)) h0
  · exact o.at hk
theorem moveZ_len {css vss : List (List Int)} : (moveZ css vss).length = css.length := by simp [moveZ]
theorem initZ_len {vss : List (List Int)} {m : Nat} : (initZ vss m).length = m := by simp [initZ]
theorem init_lt {i m n : Nat} (h : i < m) (hn : 0 < n) : i * n / m < n := by
  apply Nat.div_lt_of_lt_mul
  rw [Nat.mul_comm m n, Nat.mul_comm i n]
  exact Nat.mul_lt_mul_of_pos_left h hn
theorem trainZ_len {vss : List (List Int)} {m : Nat} : ∀ i, (trainZ vss m i).length = m
  | 0 => initZ_len
  | i + 1 => by show (moveZ _ _).length = _; rw [moveZ_len]; exact trainZ_len i
theorem trainZ_ok {sz m : Nat} {vss : List (List Int)} (o : VOk sz vss) (hm : m ≤ vss.length) : ∀ i, VOk sz (trainZ vss m i)
  | 0 => fun c hc => by
    obtain ⟨k, hk, rfl⟩ := List.mem_map.mp hc
    have hk := List.mem_range.mp hk
    exact o.at (init_lt hk (by omega))
  | i + 1 => moveZ_ok (trainZ_ok o hm i) o
theorem trainZ_nil {vss : List (List Int)} (i : Nat) : trainZ vss 0 i = [] := List.length_eq_zero_iff.mp (trainZ_len i)
abbrev N_nearest : List Str := ["centres", "vector", "best", "place"]
-- nearest(centres, vector): slots 0:centres 1:vector 2:best 3:place
def T_nearest_b1 (K : PySem.W.Frag) : TS :=
    (tIfS (tTest (tOp (uLt K) (tCal (sp_distance K) (tCons (tOp (uIx K) (tVar 0) (tVar 3)) (tCons (tVar 1) tNil))) (tCal (sp_distance K) (tCons (tOp (uIx K) (tVar 0) (tVar 2)) (tCons (tVar 1) tNil))))) (tAsg (tVar 3) (gName 2)) tNext)
def T_nearest (K : PySem.W.Frag) : TS :=
    (tSeq (tAsg (tC (.int 0)) (gName 2))
    (tSeq (tFor (iRng2 (tCons (tC (.int 1)) (tCons (tCB (uLen K) (tCons (tVar 0) tNil)) tNil))) (gName 3) (T_nearest_b1 K))
    (tRet (tVar 2))))
def sp_nearest (K : PySem.W.Frag) : Sp := fun vs H Q _ => ∃ (p v : Addr) (css : List (List Int)) (xs : List Int), vs = [.ref p, .ref v] ∧ RwAt .tup H p css ∧ H v = some (.tup (xs.map V.int)) ∧ VOk xs.length css ∧ Bd 1000000 xs ∧ css.length ≤ 1000 ∧ ∀ H', Same H H' → Q (.int (nearZ css xs)) H'
theorem nearest_c {K : PySem.W.Frag} {p v : Addr} {css : List (List Int)} {xs : List Int} {H : Hp} {Q : VK} {E : XK} (e : RwAt .tup H p css) (ev : H v = some (.tup (xs.map V.int))) (o : VOk xs.length css) (ob : Bd 1000000 xs) (hn : css.length ≤ 1000) (q : ∀ H', Same H H' → Q (.int (nearZ css xs)) H') : sp_nearest K [.ref p, .ref v] H Q E := ⟨p, v, css, xs, rfl, e, ev, o, ob, hn, q⟩
theorem r_nearest {K : PySem.W.Frag} {p v : Addr} {css : List (List Int)} {xs : List Int} {H : Hp} {D : Ends} (e : RwAt .tup H p css) (ev : H v = some (.tup (xs.map V.int))) (o : VOk xs.length css) (ob : Bd 1000000 xs) (hn : css.length ≤ 1000)
    (q : ∀ H', Same H H' → D.rt (.int (nearZ css xs)) H') : T_nearest K D [some (.ref p), some (.ref v), none, none] H := by
  obtain ⟨ps, e, r⟩ := e
  have hl := All2.len r
  unfold T_nearest
  walk_at "zz"
  rw [List.length_map]
  refine z_rng2 ?_ (by omega)
  refine z_rng (fun i σ H' => Same H H' ∧ ∃ w, σ = [some (.ref p), some (.ref v), some (.int (bestZ css xs i)), w]) ⟨Same.refl H, none, rfl⟩ ?_ ?_
  · rintro i σ H' hi ⟨s, w, rfl⟩
    have hb := bestZ_le css xs i
    have hi2 : i + 1 < css.length := by omega
    have en : (1 + (i : Int)).toNat = i + 1 := by omega
    unfold T_nearest_b1
    walk_at "zz"
    refine z_ix (.inl (SqL.of (Same.lk s e))) (at_ref (by omega) (by omega)) ?_
    rw [en]
    walk_at "zz"
    refine distance_c (.inr ⟨SqT.of (Same.lk s (r.at hi2)), SqT.of (Same.lk s ev)⟩) (o.at hi2).1 ((o.at hi2).2.mono (by decide)) (ob.mono (by decide)) fun H1 s1 => ?_
    have s1 := s.trans s1
    walk_at "zz"
    refine z_ix (.inl (SqL.of (Same.lk s1 e))) (at_ref (by omega) (by omega)) ?_
    rw [Int.toNat_natCast]
    walk_at "zz"
    refine distance_c (.inr ⟨SqT.of (Same.lk s1 (r.at (by omega))), SqT.of (Same.lk s1 ev)⟩) (o.at (by omega)).1 ((o.at (by omega)).2.mono (by decide)) (ob.mono (by decide)) fun H2 s2 => ?_
    have s2 := s1.trans s2
    walk_at "zz"
    refine z_itD (fun h => ?_) (fun h => ?_)
    · walk_at "zz"
      refine ⟨s2, _, by rw [bestZ_s, if_pos h, show ((i + 1 : Nat) : Int) = 1 + (i : Int) by omega]⟩
    · walk_at "zz"
      refine ⟨s2, _, by rw [bestZ_s, if_neg h]⟩
  · rintro σ H' ⟨s, w, rfl⟩
    walk_at "zz"
    have en : ((ps.length : Int) - 1).toNat = css.length - 1 := by omega
    rw [en]
    exact q H' s
theorem w_nearest {K : PySem.W.Frag} : Wd (T_nearest K) N_nearest 2 (sp_nearest K) := fun vs H Q E h => by
  obtain ⟨p, v, css, xs, rfl, e, ev, o, ob, hn, q⟩ := h
  exact ⟨rfl, r_nearest e ev o ob hn q⟩
abbrev N_mean : List Str := ["vectors", "vector", "k"]
-- mean(vectors): slots 0:vectors 1:vector 2:k
def T_mean (K : PySem.W.Frag) : TS :=
    (tRet (tCB (uTuple K) (tCons (tLc (iRng1 (tCons (tCB (uLen K) (tCons (tOp (uIx K) (tVar 0) (tC (.int 0))) tNil)) tNil)) (gName 2) tYes (tOp uDiv (tCB (rSum K) (tCons (tLc (iSq K (tVar 0)) (gName 1) tYes (tOp (uIx K) (tVar 1) (tVar 2)) [1]) tNil)) (tCB (uLen K) (tCons (tVar 0) tNil))) [2]) tNil)))
theorem fresh_back {H H' : Hp} {p : Addr} (s : Same H H') (h : H' p = none) : H p = none := by
  cases e : H p with
  | none => rfl
  | some o => rw [s _ _ e] at h; cases h
def sp_mean (K : PySem.W.Frag) : Sp := fun vs H Q _ => ∃ (p : Addr) (sz : Nat) (own : List (List Int)), vs = [.ref p] ∧ RwAt .tup H p own ∧ VOk sz own ∧ sz ≤ 1000 ∧ 0 < own.length ∧ own.length ≤ 1000 ∧ ∀ (r : Addr) H', H r = none → Same H H' → H' r = some (.tup ((meanZ own).map V.int)) → Q (.ref r) H'
theorem mean_c {K : PySem.W.Frag} {p : Addr} {sz : Nat} {own : List (List Int)} {H : Hp} {Q : VK} {E : XK} (e : RwAt .tup H p own) (o : VOk sz own) (hz : sz ≤ 1000) (h0 : 0 < own.length) (hn : own.length ≤ 1000) (q : ∀ (r : Addr) H', H r = none → Same H H' → H' r = some (.tup ((meanZ own).map V.int)) → Q (.ref r) H') : sp_mean K [.ref p] H Q E := ⟨p, sz, own, rfl, e, o, hz, h0, hn, q⟩
theorem r_mean {K : PySem.W.Frag} {p : Addr} {sz : Nat} {own : List (List Int)} {H : Hp} {D : Ends} (e : RwAt .tup H p own) (o : VOk sz own) (hz : sz ≤ 1000) (h0 : 0 < own.length) (hn : own.length ≤ 1000) (q : ∀ (r : Addr) H', H r = none → Same H H' → H' r = some (.tup ((meanZ own).map V.int)) → D.rt (.ref r) H') : T_mean K D [some (.ref p), none, none] H := by
  obtain ⟨ps, e, r⟩ := e
  have hl := All2.len r
  unfold T_mean
  walk_at "zz"
  refine z_ix (.inl (SqL.of e)) (at_ref (by decide) (by omega)) ?_
  walk_at "zz"
  refine z_len (.inr (SqT.of (r.at h0))) ?_
  walk_at "zz"
  have h1 := (o.at h0).1
  rw [List.length_map, show Int.toNat 0 = 0 from rfl, h1]
  refine z_lcr1 (by omega) ?_
  rw [Int.toNat_natCast]
  refine z_lcr (fun C i H' => Same H H' ∧ H' C = some (.lst (((List.range i).map fun k => (colZ own k).sum / (own.length : Int)).map V.int))) (fun C hC => ⟨Same.new hC (Same.refl H), upd_same⟩) ?_ ?_
  · rintro C i H' hC hi ⟨s, eC⟩
    walk_at "zz"
    refine ⟨rfl, ?_⟩
    walk_at "zz"
    refine z_lcl (SqL.of (Same.lk s e)) (fun C2 j H2 => Same H' H2 ∧ H2 C2 = some (.lst ((colZ (own.take j) i).map V.int))) (fun C2 h2 => ⟨Same.new h2 (Same.refl H'), upd_same⟩) (fun C2 j H2 h2 hj z => SqL.of (Same.lk z.1 (Same.lk s e))) ?_ ?_
    · rintro C2 j x H2 h2 hx ⟨s2, e2⟩
      obtain ⟨hj, rfl⟩ := map_ref hx
      have hj2 : j < own.length := by omega
      walk_at "zz"
      refine ⟨rfl, ?_⟩
      walk_at "zz"
      refine z_ix (.inr <| SqT.of (Same.lk s2 (Same.lk s (r.at hj2)))) (at_int (by omega) (by rw [(o.at hj2).1]; omega)) ?_
      walk_at "zz"
      refine z_accum e2 (by rw [List.length_map, colZ, List.length_map, List.length_take]; omega) ?_
      refine ⟨Same.put h2 s2, ?_⟩
      rw [upd_same, colZ_take hj2, List.map_append, show (0 + (i : Int)).toNat = i by omega]
      rfl
    · rintro C2 H2 h2 ⟨s2, e2⟩
      rw [List.length_map, hl, List.take_length] at e2
      walk_at "zz"
      refine ⟨C2, _, rfl, SqL.of e2, ?_⟩
      walk_at "zz"
      refine z_div (div1 (by rw [List.length_map]; omega)) ?_
      refine z_accum (Same.lk s2 eC) (by simp; omega) ?_
      refine ⟨Same.put hC (s.trans s2), ?_⟩
      rw [upd_same, List.length_map, hl, List.range_succ, List.map_append, List.map_append]
      rfl
  · rintro C H' hC ⟨s, eC⟩
    walk_at "zz"
    refine z_tupleL (SqL.of eC) fun t ht => ?_
    refine q t _ (fresh_back s ht) (Same.new ht s) ?_
    rw [upd_same, meanZ, h1]
theorem w_mean {K : PySem.W.Frag} : Wd (T_mean K) N_mean 1 (sp_mean K) := fun vs H Q E h => by
  obtain ⟨p, sz, own, rfl, e, o, hz, h0, hn, q⟩ := h
  exact ⟨rfl, r_mean e o hz h0 hn q⟩
abbrev N_move : List Str := ["centres", "vectors", "places", "vector", "moved", "place", "centre", "own", "at"]
-- move(centres, vectors): slots 0:centres 1:vectors 2:places 3:vector 4:moved 5:place 6:centre 7:own 8:at
def T_move_b1 (K : PySem.W.Frag) : TS :=
    (tSeq (tAsg (tLc (RZ.iZipA K (tCons (tVar 1) (tCons (tVar 2) tNil))) (gTup K 2 (gCons (gName 3) (gCons (gName 8) gNil))) (tTest (tOp (uEq K) (tVar 8) (tVar 5))) (tVar 3) [3, 8]) (gName 7))
    (tDrop (tBM K "list" rAppend (tVar 4) (tCons (tIf (tTest (tOp uGt (tCB (uLen K) (tCons (tVar 7) tNil)) (tC (.int 0)))) (tCal (sp_mean K) (tCons (tVar 7) tNil)) (tVar 6)) tNil))))
def T_move (K : PySem.W.Frag) : TS :=
    (tSeq (tAsg (tLc (iSq K (tVar 1)) (gName 3) tYes (tCal (sp_nearest K) (tCons (tVar 0) (tCons (tVar 3) tNil))) [3]) (gName 2))
    (tSeq (tAsg (tLst tNil) (gName 4))
    (tSeq (tFor (iEnum K (tCons (tVar 0) tNil)) (gTup K 2 (gCons (gName 5) (gCons (gName 6) gNil))) (T_move_b1 K))
    (tRet (tVar 4)))))
def sp_move (K : PySem.W.Frag) : Sp := fun vs H Q _ => ∃ (p v : Addr) (sz : Nat) (css vss : List (List Int)), vs = [.ref p, .ref v] ∧ RwAt .tup H p css ∧ RwAt .tup H v vss ∧ VOk sz css ∧ VOk sz vss ∧ sz ≤ 1000 ∧ css.length ≤ 1000 ∧ vss.length ≤ 1000 ∧ ∀ (r : Addr) H', H r = none → Same H H' → RwAt .tup H' r (moveZ css vss) → Q (.ref r) H'
theorem move_c {K : PySem.W.Frag} {p v : Addr} {sz : Nat} {css vss : List (List Int)} {H : Hp} {Q : VK} {E : XK} (e : RwAt .tup H p css) (ev : RwAt .tup H v vss) (o : VOk sz css) (ov : VOk sz vss) (hz : sz ≤ 1000) (hn : css.length ≤ 1000) (hm : vss.length ≤ 1000) (q : ∀ (r : Addr) H', H r = none → Same H H' → RwAt .tup H' r (moveZ css vss) → Q (.ref r) H') : sp_move K [.ref p, .ref v] H Q E := ⟨p, v, sz, css, vss, rfl, e, ev, o, ov, hz, hn, hm, q⟩
abbrev plZ (css vss : List (List Int)) : List Int := vss.map fun v => (nearZ css v : Int)
theorem plZ_at {css vss : List (List Int)} {i : Nat} (h : i < vss.length) : (plZ css vss).getD i 0 = (nearZ css (vss.getD i []) : Int) := by
  rw [List.getD_eq_getElem?_getD, List.getElem?_map, List.getD_eq_getElem?_getD, List.getElem?_eq_getElem h]; rfl
theorem moveZ_take {css vss : List (List Int)} {i : Nat} (h : i < css.length) : (moveZ css vss).take (i + 1) = (moveZ css vss).take i ++ [if 0 < (ownG vss (plZ css vss) (i : Int)).length then meanZ (ownG vss (plZ css vss) (i : Int)) else css.getD i []] := by
  rw [take_sD [] (by rw [moveZ_len]; exact h)]
  congr 2
  unfold moveZ
  rw [List.getD_eq_getElem?_getD, List.getElem?_map, List.getElem?_range h]
  rfl
theorem r_move {K : PySem.W.Frag} {p v : Addr} {sz : Nat} {css vss : List (List Int)} {H : Hp} {D : Ends} (e : RwAt .tup H p css) (ev : RwAt .tup H v vss) (o : VOk sz css) (ov : VOk sz vss) (hz : sz ≤ 1000) (hn : css.length ≤ 1000) (hm : vss.length ≤ 1000) (q : ∀ (r : Addr) H', H r = none → Same H H' → RwAt .tup H' r (moveZ css vss) → D.rt (.ref r) H') : T_move K D [some (.ref p), some (.ref v), none, none, none, none, none, none, none] H := by
  have e0 := e
  obtain ⟨ps, e, r⟩ := e
  obtain ⟨qs, ev, rv⟩ := ev
  have hl := All2.len r
  have hlv := All2.len rv
  unfold T_move
  walk_at "zz"
  refine z_lcl (SqL.of ev) (fun C i H' => Same H H' ∧ H' C = some (.lst (((plZ css vss).take i).map V.int))) (fun C hC => ⟨Same.new hC (Same.refl H), upd_same⟩) (fun C i H' _ _ z => SqL.of (Same.lk z.1 ev)) ?_ ?_
  · rintro C i x H' hC hx ⟨s, eC⟩
    obtain ⟨hi, rfl⟩ := map_ref hx
    have hi2 : i < vss.length := by omega
    walk_at "zz"
    refine ⟨rfl, ?_⟩
    walk_at "zz"
    refine nearest_c (e0.same s) (Same.lk s (rv.at hi2)) (by rw [(ov.at hi2).1]; exact o) (ov.at hi2).2 hn fun H1 s1 => ?_
    walk_at "zz"
    refine z_accum (Same.lk s1 eC) (by rw [List.length_map, List.length_take]; omega) ?_
    refine ⟨Same.put hC (s.trans s1), ?_⟩
    rw [upd_same, take_sD 0 (by simpa [plZ] using hi2), List.map_append, plZ_at hi2]
    rfl
  rintro C H1 hC ⟨s1, eC⟩
  rw [List.length_map, hlv, List.take_of_length_le (by simp [plZ])] at eC
  walk_at "zz"
  rename_i m hm1
  have sm := Same.new (o := .lst []) hm1 s1
  have hm0 := fresh_back s1 hm1
  have nCm : C ≠ m := ne_of_none eC hm1
  refine z_enum (SqL.of (Same.lk sm e)) (fun i σ H' => Same H H' ∧ H' C = some (.lst ((plZ css vss).map V.int)) ∧ RwAt .tup H' m ((moveZ css vss).take i) ∧ ∃ (w5 w6 w7 : Option V), σ = [some (.ref p), some (.ref v), some (.ref C), none, some (.ref m), w5, w6, w7, none])
    ⟨sm, lk_new hm1 eC, ⟨[], upd_same, .nil⟩, none, none, none, rfl⟩ (fun i σ' H' z => SqL.of (Same.lk z.1 e)) ?_ ?_
  · rintro i x t σ' H' hx ⟨s, eC', ⟨ms, em, rm⟩, w5, w6, w7, rfl⟩ ht
    obtain ⟨hi, rfl⟩ := map_ref hx
    have hi2 : i < css.length := by omega
    have st := Same.new (o := .tup [.int (i : Nat), .ref (ps.getD i 0)]) ht s
    have et : Same H' (upd H' t (.tup [.int (i : Nat), .ref (ps.getD i 0)])) := Same.new ht (Same.refl H')
    generalize upd H' t (.tup [.int (i : Nat), .ref (ps.getD i 0)]) = H2 at *
    have eC2 := et _ _ eC'
    have em2 := et _ _ em
    have rm2 := rm.same et
    unfold T_move_b1
    walk_at "zz"
    refine z_lcz (.inl ⟨SqL.of (Same.lk st ev), SqL.of eC2⟩) (fun C2 j H3 => Same H2 H3 ∧ H3 C2 = some (.lst ((ownG (qs.take j) (plZ css vss) (i : Int)).map V.ref))) (fun C2 h2 => ⟨Same.new h2 (Same.refl H2), upd_same⟩) (fun C2 j H3 h2 z => z.1) ?_ ?_
    · rintro C2 j x y t2 H3 h2 hx hy ⟨s3, e3⟩ ht2
      obtain ⟨hj, rfl⟩ := map_ref hx
      obtain ⟨hj2, rfl⟩ := map_int hy
      refine ⟨rfl, ?_⟩
      walk_at "zz"
      rw [ownG_take hj hj2]
      refine z_itD (fun h => ?_) (fun h => ?_)
      · walk_at "zz"
        refine z_accum (lk_new ht2 e3) (by rw [List.length_map]; have := ownG_len (l := qs.take j) (pl := plZ css vss) (k := i); rw [List.length_take] at this; omega) ?_
        refine ⟨Same.put h2 (Same.new ht2 s3), ?_⟩
        rw [if_pos h, upd_same, ref_app, List.getD_eq_getElem?_getD, List.getElem?_eq_getElem hj]
        rfl
      · rw [if_neg h]
        exact ⟨Same.new ht2 s3, lk_new ht2 e3⟩
    · rintro C2 H3 h2 ⟨s3, e3⟩
      rw [List.length_map, List.length_map, List.take_of_length_le (by simp [plZ]; omega)] at e3
      have s4 := st.trans s3
      have eC3 := s3 _ _ eC2
      have em3 := s3 _ _ em2
      have rm3 := rm2.same s3
      have rown : RwIn .tup H3 (ownG qs (plZ css vss) (i : Int)) (ownG vss (plZ css vss) (i : Int)) := All2.own (rv.same s4) _ _
      have lown := All2.len rown
      have lo := ownG_len (l := vss) (pl := plZ css vss) (k := (i : Int))
      have lm := All2.len rm
      walk_at "zz"
      rw [List.length_map, lown]
      refine z_itD (fun h => ?_) (fun h => ?_)
      · walk_at "zz"
        refine mean_c (sz := sz) ⟨_, e3, rown⟩ (fun c hc => ov c (ownG_mem hc)) hz (by omega) (by omega) fun r2 H4 n4 s5 e5 => ?_
        walk_at "zz"
        refine z_app (Same.lk s5 em3) (by rw [List.length_map, lm, List.length_take]; omega) ?_
        refine ⟨Same.put hm0 (s4.trans s5), lk_ne nCm (Same.lk s5 eC3), ⟨ms ++ [r2], by rw [upd_same, ref_app], ?_⟩, _, _, _, rfl⟩
        rw [moveZ_take hi2, if_pos (by omega)]
        exact RwIn.putT (Same.lk s5 em3) ((rm3.same s5).app e5)
      · walk_at "zz"
        refine z_app em3 (by rw [List.length_map, lm, List.length_take]; omega) ?_
        refine ⟨Same.put hm0 s4, lk_ne nCm eC3, ⟨ms ++ [ps.getD i 0], by rw [upd_same, ref_app], ?_⟩, _, _, _, rfl⟩
        rw [moveZ_take hi2, if_neg (by omega)]
        exact RwIn.putT em3 (rm3.app (s4 _ _ (r.at hi2)))
  · rintro σ' H' ⟨s, _, rm, w5, w6, w7, rfl⟩
    walk_at "zz"
    rw [List.length_map, hl, List.take_of_length_le (by rw [moveZ_len]; omega)] at rm
    exact q m H' hm0 s rm
theorem w_move {K : PySem.W.Frag} : Wd (T_move K) N_move 2 (sp_move K) := fun vs H Q E h => by
  obtain ⟨p, v, sz, css, vss, rfl, e, ev, o, ov, hz, hn, hm, q⟩ := h
  exact ⟨rfl, r_move e ev o ov hz hn hm q⟩

abbrev N_train : List Str := ["vectors", "number", "rounds", "many", "centres", "i", "_"]
-- train(vectors, number, rounds): slots 0:vectors 1:number 2:rounds 3:many 4:centres 5:i 6:_
def T_train_b1 (K : PySem.W.Frag) : TS :=
    (tAsg (tCal (sp_move K) (tCons (tVar 4) (tCons (tVar 0) tNil))) (gName 4))
def T_train (K : PySem.W.Frag) : TS :=
    (tSeq (tAsg (tCB uMin (tCons (tVar 1) (tCons (tCB (uLen K) (tCons (tVar 0) tNil)) tNil))) (gName 3))
    (tSeq (tAsg (tLc (iRng1 (tCons (tVar 3) tNil)) (gName 5) tYes (tCB (uTuple K) (tCons (tOp (uIx K) (tVar 0) (tOp uDiv (tOp uMul (tVar 5) (tCB (uLen K) (tCons (tVar 0) tNil))) (tVar 3))) tNil)) [5]) (gName 4))
    (tCut (tIfS (tTest (tOp uGt (tVar 3) (tC (.int 0)))) (tFor (iRng1 (tCons (tVar 2) tNil)) (gName 6) (T_train_b1 K)) tNext)
    (tRet (tVar 4)))))
def sp_train (K : PySem.W.Frag) : Sp := fun vs H Q _ => ∃ (v : Addr) (sz : Nat) (n t : Int) (vss : List (List Int)), vs = [.ref v, .int n, .int t] ∧ RwAt .tup H v vss ∧ VOk sz vss ∧ sz ≤ 1000 ∧ vss.length ≤ 1000 ∧ (0 ≤ n ∧ n ≤ 1000) ∧ (0 ≤ t ∧ t ≤ 1000) ∧ ∀ (r : Addr) H', Same H H' → RwAt .tup H' r (trainZ vss (min n.toNat vss.length) t.toNat) → Q (.ref r) H'
theorem train_c {K : PySem.W.Frag} {v : Addr} {sz : Nat} {n t : Int} {vss : List (List Int)} {H : Hp} {Q : VK} {E : XK} (ev : RwAt .tup H v vss) (ov : VOk sz vss) (hz : sz ≤ 1000) (hm : vss.length ≤ 1000) (hn : 0 ≤ n ∧ n ≤ 1000) (ht : 0 ≤ t ∧ t ≤ 1000) (q : ∀ (r : Addr) H', Same H H' → RwAt .tup H' r (trainZ vss (min n.toNat vss.length) t.toNat) → Q (.ref r) H') : sp_train K [.ref v, .int n, .int t] H Q E := ⟨v, sz, n, t, vss, rfl, ev, ov, hz, hm, hn, ht, q⟩
theorem initZ_take {vss : List (List Int)} {m i : Nat} (h : i < m) : (initZ vss m).take (i + 1) = (initZ vss m).take i ++ [vss.getD (i * vss.length / m) []] := by
  rw [take_sD [] (by rw [initZ_len]; exact h)]
  congr 2
  unfold initZ
  rw [List.getD_eq_getElem?_getD, List.getElem?_map, List.getElem?_range h]
  rfl
theorem r_train {K : PySem.W.Frag} {v : Addr} {sz : Nat} {n t : Int} {vss : List (List Int)} {H : Hp} {D : Ends} (ev : RwAt .tup H v vss) (ov : VOk sz vss) (hz : sz ≤ 1000) (hm : vss.length ≤ 1000) (hn : 0 ≤ n ∧ n ≤ 1000) (ht : 0 ≤ t ∧ t ≤ 1000) (q : ∀ (r : Addr) H', Same H H' → RwAt .tup H' r (trainZ vss (min n.toNat vss.length) t.toNat) → D.rt (.ref r) H') : T_train K D [some (.ref v), some (.int n), some (.int t), none, none, none, none] H := by
  have ev0 := ev
  obtain ⟨qs, ev, rv⟩ := ev
  have hlv := All2.len rv
  unfold T_train
  walk_at "zz"
  rw [List.length_map]
  generalize hM : (if (qs.length : Int) < n then (qs.length : Int) else n) = M
  have eM : M = ((min n.toNat vss.length : Nat) : Int) := by rw [← hM]; split <;> omega
  generalize min n.toNat vss.length = m at *
  subst eM
  have hmv : m ≤ vss.length ∧ m ≤ 1000 := by split at hM <;> omega
  refine z_lcr1 (by omega) ?_
  rw [Int.toNat_natCast]
  refine z_lcr (fun C i H' => Same H H' ∧ RwAt .tup H' C ((initZ vss m).take i)) (fun C hC => ⟨Same.new hC (Same.refl H), [], upd_same, .nil⟩) ?_ ?_
  · rintro C i H' hC hi ⟨s, ms, eC, rm⟩
    have hlt := init_lt hi (show 0 < vss.length by omega)
    have lm := All2.len rm
    walk_at "zz"
    refine ⟨rfl, ?_⟩
    walk_at "zz"
    have ei : (0 + (i : Int)) * ((qs.length : Nat) : Int) / (m : Int) = ((i * vss.length / m : Nat) : Int) := by
      rw [hlv, Int.zero_add, ← Int.natCast_mul, ← Int.natCast_ediv]
    rw [List.length_map, ei]
    clear ei
    have it := initZ_take (vss := vss) hi
    generalize i * vss.length / m = g at *
    refine z_ix (.inl (SqL.of (Same.lk s ev))) (at_ref (by omega) (by omega)) ?_
    rw [Int.toNat_natCast]
    walk_at "zz"
    refine z_tupleT (SqT.of (Same.lk s (rv.at hlt))) ?_
    refine z_accum eC (by rw [List.length_map, lm, List.length_take]; omega) ?_
    refine ⟨Same.put hC s, ms ++ [qs.getD g 0], by rw [upd_same, ref_app], ?_⟩
    rw [it]
    exact RwIn.putT eC (rm.app (Same.lk s (rv.at hlt)))
  rintro C H1 hC ⟨s1, r1⟩
  rw [List.take_of_length_le (by rw [initZ_len]; omega)] at r1
  walk_at "zz"
  refine z_cut (fun σ H' => ∃ (r : Addr) (w : Option V), Same H H' ∧ RwAt .tup H' r (trainZ vss m t.toNat) ∧ σ = [some (.ref v), some (.int n), some (.int t), some (.int m), some (.ref r), none, w]) ?_ ?_
  · walk_at "zz"
    refine z_itD (fun h => ?_) (fun h => ?_)
    · walk_at "zz"
      refine z_rng1 (by omega) ?_ (by omega)
      refine z_rng (fun i σ H' => ∃ (r : Addr) (w : Option V), Same H H' ∧ RwAt .tup H' r (trainZ vss m i) ∧ σ = [some (.ref v), some (.int n), some (.int t), some (.int m), some (.ref r), none, w]) ⟨C, none, s1, r1, rfl⟩ ?_ ?_
      · rintro i σ H' hi ⟨r, w, s, rr, rfl⟩
        unfold T_train_b1
        walk_at "zz"
        refine move_c rr (ev0.same s) (trainZ_ok ov hmv.1 i) ov hz (by rw [trainZ_len]; omega) hm fun r2 H2 n2 s2 rr2 => ?_
        walk_at "zz"
        exact ⟨r2, _, s.trans s2, rr2, rfl⟩
      · rintro σ H' ⟨r, w, s, rr, rfl⟩
        exact ⟨r, w, s, rr, rfl⟩
    · walk_at "zz"
      have : m = 0 := by omega
      subst this
      exact ⟨C, none, s1, by rw [trainZ_nil, ← trainZ_nil (vss := vss) 0]; exact r1, rfl⟩
  rintro σ H' ⟨r, w, s, rr, rfl⟩
  walk_at "zz"
  exact q r H' s rr
theorem w_train {K : PySem.W.Frag} : Wd (T_train K) N_train 3 (sp_train K) := fun vs H Q E h => by
  obtain ⟨v, sz, n, t, vss, rfl, ev, ov, hz, hm, hn, ht, q⟩ := h
  exact ⟨rfl, r_train ev ov hz hm hn ht q⟩
abbrev N_law_vector : List Str := ["_law_state", "_law_size", "_law_k"]
-- _law_vector(_law_state, _law_size): slots 0:_law_state 1:_law_size 2:_law_k
def T_law_vector (K : PySem.W.Frag) : TS :=
    (tRet (tLc (iRng1 (tCons (tVar 1) tNil)) (gName 2) tYes (tOp uSub (tCal (sp_law_next K) (tCons (tVar 0) (tCons (tOp (uIx K) (tLst (tCons (tC (.int 3)) (tCons (tC (.int 40)) tNil))) (tCal (sp_law_next K) (tCons (tVar 0) (tCons (tC (.int 2)) tNil)))) tNil))) (tC (.int 1))) [2]))
def sp_law_vector (K : PySem.W.Frag) : Sp := fun vs H Q _ => ∃ (st L : Addr) (sz : Int), vs = [.ref st, .int sz] ∧ Draw H st L ∧ 0 ≤ sz ∧ sz ≤ 1000 ∧ ∀ (p : Addr) (ns : List Int) (H' : Hp), H p = none → H' p = some (.lst (ns.map V.int)) → ns.length = sz.toNat → Bd 1000000 ns → Draw H' st L → ExD H H' → Q (.ref p) H'
theorem law_vector_c {K : PySem.W.Frag} {st L : Addr} {sz : Int} {H : Hp} {Q : VK} {E : XK} (d : Draw H st L) (h : 0 ≤ sz ∧ sz ≤ 1000)
    (q : ∀ (p : Addr) (ns : List Int) (H' : Hp), H p = none → H' p = some (.lst (ns.map V.int)) → ns.length = sz.toNat → Bd 1000000 ns → Draw H' st L → ExD H H' → Q (.ref p) H') : sp_law_vector K [.ref st, .int sz] H Q E := ⟨st, L, sz, rfl, d, h.1, h.2, q⟩
theorem r_law_vector {K : PySem.W.Frag} {st L : Addr} {sz : Int} {H : Hp} {D : Ends} (d : Draw H st L) (h1 : 0 ≤ sz) (h2 : sz ≤ 1000)
    (q : ∀ (p : Addr) (ns : List Int) (H' : Hp), H p = none → H' p = some (.lst (ns.map V.int)) → ns.length = sz.toNat → Bd 1000000 ns → Draw H' st L → ExD H H' → D.rt (.ref p) H') : T_law_vector K D [some (.ref st), some (.int sz), none] H := by
  unfold T_law_vector
  walk_at "zz"
  refine z_lcr1 (by omega) ?_
  refine z_lcr (fun C i H' => ExD H H' ∧ Draw H' st L ∧ ∃ acc : List Int, H' C = some (.lst (acc.map V.int)) ∧ acc.length = i ∧ Bd 1000000 acc) (fun C hC => ⟨ExD.new hC (ExD.refl _), Draw.new hC d, [], upd_same, rfl, fun _ h => nomatch h⟩) ?_ ?_
  · rintro C j H4 hC hj ⟨x4, d4, acc, eC, la, ba⟩
    walk_at "zz"
    refine ⟨rfl, ?_⟩
    walk_at "zz"
    rename_i c5 hc5
    have d5 := Draw.new (o := .lst [.int 3, .int 40]) hc5 d4
    walk_at "nx"
    intro t H6 a6 b6 d6 x6
    have e6 := x6.lk upd_same (by walk_at "ns")
    have ht : ∃ s : Int, atI [V.int 3, V.int 40] t = some (.int s) ∧ 0 < s ∧ s ≤ 40 := by
      have : t = 0 ∨ t = 1 := by omega
      rcases this with rfl | rfl
      · exact ⟨3, rfl, by decide, by decide⟩
      · exact ⟨40, rfl, by decide, by decide⟩
    obtain ⟨s, es, s0, s1⟩ := ht
    refine z_ix (.inl (SqL.of e6)) es ?_
    walk_at "zz"
    walk_at "nx"
    intro u H7 a7 b7 d7 x7
    walk_at "zz"
    have eC7 := x7.lk (x6.lk (lk_new hc5 eC) NotSt.ints) NotSt.ints
    refine z_accum eC7 (by rw [List.length_map]; omega) ?_
    refine ⟨ExD.new hC ((x4.trans (ExD.new hc5 (ExD.refl _) |>.trans x6)).trans x7), Draw.put (Draw.ne hC d) (Draw.neL hC d) d7, acc ++ [u - 1], by rw [upd_same, List.map_append]; rfl, by simp [la], ba.app (by omega) (by omega)⟩
  rintro C H4 hC ⟨x4, d4, row, eC, la, ba⟩
  exact q C row H4 hC eC la ba d4 x4
theorem w_law_vector {K : PySem.W.Frag} : Wd (T_law_vector K) N_law_vector 2 (sp_law_vector K) := fun vs H Q E h => by
  obtain ⟨st, L, sz, rfl, d, h1, h2, q⟩ := h
  exact ⟨rfl, r_law_vector d h1 h2 q⟩
abbrev N_law_nearest : List Str := ["_law_centres", "_law_vector_here", "_law_best", "_law_least", "_law_k", "_law_away", "_law_j"]
-- _law_nearest(_law_centres, _law_vector_here): slots 0:_law_centres 1:_law_vector_here 2:_law_best 3:_law_least 4:_law_k 5:_law_away 6:_law_j
def T_law_nearest_b1 (K : PySem.W.Frag) : TS :=
    (tAsg (tOp (uAdd K) (tVar 5) (tOp uMul (tOp uSub (tOp (uIx K) (tOp (uIx K) (tVar 0) (tVar 4)) (tVar 6)) (tOp (uIx K) (tVar 1) (tVar 6))) (tOp uSub (tOp (uIx K) (tOp (uIx K) (tVar 0) (tVar 4)) (tVar 6)) (tOp (uIx K) (tVar 1) (tVar 6))))) (gName 5))
def T_law_nearest_b2 (K : PySem.W.Frag) : TS :=
    (tSeq (tAsg (tC (.int 0)) (gName 5))
    (tSeq (tFor (iRng1 (tCons (tCB (uLen K) (tCons (tVar 1) tNil)) tNil)) (gName 6) (T_law_nearest_b1 K))
    (tIfS (tOr (tTest (tOp uIs (tVar 3) (tC .non))) (tTest (tOp (uLt K) (tVar 5) (tVar 3)))) (tSeq (tAsg (tVar 5) (gName 3))
    (tAsg (tVar 4) (gName 2))) tNext)))
def T_law_nearest (K : PySem.W.Frag) : TS :=
    (tSeq (tAsg (tC (.int 0)) (gName 2))
    (tSeq (tAsg (tC .non) (gName 3))
    (tSeq (tFor (iRng1 (tCons (tCB (uLen K) (tCons (tVar 0) tNil)) tNil)) (gName 4) (T_law_nearest_b2 K))
    (tRet (tVar 2)))))
def bstZ (css : List (List Int)) (xs : List Int) : Nat → Nat
  | 0 => 0
  | i + 1 => bestZ css xs i
def lstZ (css : List (List Int)) (xs : List Int) : Nat → V
  | 0 => .non
  | i + 1 => .int (distZ (css.getD (bestZ css xs i) []) xs)
theorem bstZ_near (css : List (List Int)) (xs : List Int) : bstZ css xs css.length = nearZ css xs := by
  unfold nearZ
  cases css.length with
  | zero => rfl
  | succ n => rfl
def sp_law_nearest (K : PySem.W.Frag) : Sp := fun vs H Q _ => ∃ (p v : Addr) (css : List (List Int)) (xs : List Int), vs = [.ref p, .ref v] ∧ RwAt .lst H p css ∧ H v = some (.lst (xs.map V.int)) ∧ VOk xs.length css ∧ Bd 1000000 xs ∧ xs.length ≤ 1000 ∧ css.length ≤ 1000 ∧ Q (.int (nearZ css xs)) H
theorem law_nearest_c {K : PySem.W.Frag} {p v : Addr} {css : List (List Int)} {xs : List Int} {H : Hp} {Q : VK} {E : XK} (e : RwAt .lst H p css) (ev : H v = some (.lst (xs.map V.int))) (o : VOk xs.length css) (ob : Bd 1000000 xs) (hx : xs.length ≤ 1000) (hn : css.length ≤ 1000) (q : Q (.int (nearZ css xs)) H) : sp_law_nearest K [.ref p, .ref v] H Q E := ⟨p, v, css, xs, rfl, e, ev, o, ob, hx, hn, q⟩
theorem r_law_nearest {K : PySem.W.Frag} {p v : Addr} {css : List (List Int)} {xs : List Int} {H : Hp} {D : Ends} (e : RwAt .lst H p css) (ev : H v = some (.lst (xs.map V.int))) (o : VOk xs.length css) (ob : Bd 1000000 xs) (hx : xs.length ≤ 1000) (hn : css.length ≤ 1000)
    (q : D.rt (.int (nearZ css xs)) H) : T_law_nearest K D [some (.ref p), some (.ref v), none, none, none, none, none] H := by
  obtain ⟨ps, e, r⟩ := e
  have hl := All2.len r
  unfold T_law_nearest
  walk_at "zz"
  rw [List.length_map]
  refine z_rng1 (by omega) ?_ (by omega)
  refine z_rng (fun i σ H' => H' = H ∧ ∃ (w4 w5 w6 : Option V), σ = [some (.ref p), some (.ref v), some (.int (bstZ css xs i)), some (lstZ css xs i), w4, w5, w6]) ⟨rfl, none, none, none, rfl⟩ ?_ ?_
  · rintro i σ H' hi ⟨rfl, w4, w5, w6, rfl⟩
    have hi2 : i < css.length := by omega
    have en : (0 + (i : Int)).toNat = i := by omega
    unfold T_law_nearest_b2
    walk_at "zz"
    rw [List.length_map]
    refine z_rng1 (by omega) ?_ (by omega)
    refine z_rng (fun j σ H2 => H2 = H' ∧ ∃ (w6 : Option V), σ = [some (.ref p), some (.ref v), some (.int (bstZ css xs i)), some (lstZ css xs i), some (.int (0 + (i : Int))), some (.int (distZ ((css.getD i []).take j) (xs.take j))), w6]) ⟨rfl, w6, rfl⟩ ?_ ?_
    · rintro j σ H' hj ⟨rfl, w6, rfl⟩
      have hj2 : j < xs.length := by omega
      have jn : (0 + (j : Int)).toNat = j := by omega
      have hcl := (o.at hi2).1
      have b1 := (o.at hi2).2.at (i := j) (by omega)
      have b2 := ob.at hj2
      unfold T_law_nearest_b1
      walk_at "zz"
      refine z_ix (.inl (SqL.of e)) (at_ref (by omega) (by omega)) ?_
      rw [en]
      walk_at "zz"
      refine z_ix (.inl (SqL.of (r.at hi2))) (at_int (by omega) (by omega)) ?_
      rw [jn]
      walk_at "zz"
      refine z_ix (.inl (SqL.of ev)) (at_int (by omega) (by omega)) ?_
      rw [jn]
      walk_at "zz"
      refine z_ix (.inl (SqL.of e)) (at_ref (by omega) (by omega)) ?_
      rw [en]
      walk_at "zz"
      refine z_ix (.inl (SqL.of (r.at hi2))) (at_int (by omega) (by omega)) ?_
      rw [jn]
      walk_at "zz"
      refine z_ix (.inl (SqL.of ev)) (at_int (by omega) (by omega)) ?_
      rw [jn]
      walk_at "zz"
      exact ⟨rfl, _, by rw [distZ_take hcl (by omega)]⟩
    · rintro σ H' ⟨rfl, w6, rfl⟩
      rw [Int.toNat_natCast, List.take_length, ← (o.at hi2).1, List.take_length]
      have step : ∀ (b : Bool), (b = true ↔ lstZ css xs i = .non ∨ ∃ l, lstZ css xs i = .int l ∧ distZ (css.getD i []) xs < l) → (b = true → bstZ css xs (i + 1) = i ∧ lstZ css xs (i + 1) = .int (distZ (css.getD i []) xs)) ∧ (b = false → bstZ css xs (i + 1) = bstZ css xs i ∧ lstZ css xs (i + 1) = lstZ css xs i) := by
        intro b hb
        cases i with
        | zero => exact ⟨fun _ => ⟨rfl, rfl⟩, fun h => by rw [h] at hb; exact absurd (hb.mpr (.inl rfl)) (by simp)⟩
        | succ i =>
          refine ⟨fun h => ?_, fun h => ?_⟩
          · rcases hb.mp h with z | ⟨l, z, hlt⟩
            · cases z
            · cases z
              refine ⟨?_, ?_⟩
              · show bestZ css xs (i + 1) = _; rw [bestZ_s, if_pos hlt]
              · show V.int (distZ (css.getD (bestZ css xs (i + 1)) []) xs) = _; rw [bestZ_s, if_pos hlt]
          · have hlt : ¬ distZ (css.getD (i + 1) []) xs < distZ (css.getD (bestZ css xs i) []) xs := fun z => by
              rw [h] at hb; exact absurd (hb.mpr (.inr ⟨_, rfl, z⟩)) (by simp)
            refine ⟨?_, ?_⟩
            · show bestZ css xs (i + 1) = bestZ css xs i; rw [bestZ_s, if_neg hlt]
            · show V.int (distZ (css.getD (bestZ css xs (i + 1)) []) xs) = V.int (distZ (css.getD (bestZ css xs i) []) xs); rw [bestZ_s, if_neg hlt]
      walk_at "zz"
      refine z_itD (fun h => ?_) (fun h => ?_)
      · have s := (step true ⟨fun _ => .inl h, fun _ => rfl⟩).1 rfl
        walk_at "zz"
        exact ⟨rfl, _, _, _, by rw [s.1, s.2, Int.zero_add]⟩
      · obtain ⟨l, el⟩ : ∃ l, lstZ css xs i = .int l := by
          cases i with
          | zero => exact absurd rfl h
          | succ i => exact ⟨_, rfl⟩
        rw [el]
        walk_at "zz"
        refine z_itD (fun h2 => ?_) (fun h2 => ?_)
        · have s := (step true ⟨fun _ => .inr ⟨l, el, h2⟩, fun _ => rfl⟩).1 rfl
          walk_at "zz"
          exact ⟨rfl, _, _, _, by rw [s.1, s.2, Int.zero_add]⟩
        · have s := (step false ⟨fun z => (nomatch z), fun z => by
            rcases z with z | ⟨l', z, z2⟩
            · exact absurd z h
            · rw [el] at z; cases z; exact absurd z2 h2⟩).2 rfl
          walk_at "zz"
          exact ⟨rfl, _, _, _, by rw [s.1, s.2, el]⟩
  · rintro σ H' ⟨rfl, w4, w5, w6, rfl⟩
    walk_at "zz"
    rw [Int.toNat_natCast, hl, bstZ_near]
    exact q
theorem w_law_nearest {K : PySem.W.Frag} : Wd (T_law_nearest K) N_law_nearest 2 (sp_law_nearest K) := fun vs H Q E h => by
  obtain ⟨p, v, css, xs, rfl, e, ev, o, ob, hx, hn, q⟩ := h
  exact ⟨rfl, r_law_nearest e ev o ob hx hn q⟩

theorem lm_c {K : PySem.W.Frag} {po : Addr} {sz : Nat} {own : List (List Int)} {H : Hp} {Q : VK} {s0 s1 s2 s3 s4 s5 s7 : Option V} (e : RwAt .lst H po own) (o : VOk sz own) (hz : sz ≤ 1000) (h0 : 0 < own.length) (hn : own.length ≤ 1000) (q : ∀ (r : Addr) H', H r = none → Same H H' → H' r = some (.lst ((meanZ own).map V.int)) → Q (.ref r) H') :
    zLcR1 (gName 7) tYes (tOp uDiv (tCB (rSum K) (tCons (tLc (iSq K (tVar 6)) (gName 3) tYes (tOp (uIx K) (tVar 3) (tVar 7)) [3]) tNil)) (tCB (uLen K) (tCons (tVar 6) tNil))) [7] [s0, s1, s2, s3, s4, s5, some (.ref po), s7] [.int ((own.getD 0 []).length : Nat)] H Q := by
  obtain ⟨ps, e, r⟩ := e
  have hl := All2.len r
  have h1 := (o.at h0).1
  rw [h1]
  refine z_lcr1 (by omega) ?_
  rw [Int.toNat_natCast]
  refine z_lcr (fun C i H' => Same H H' ∧ H' C = some (.lst (((List.range i).map fun k => (colZ own k).sum / (own.length : Int)).map V.int))) (fun C hC => ⟨Same.new hC (Same.refl H), upd_same⟩) ?_ ?_
  · rintro C i H' hC hi ⟨s, eC⟩
    walk_at "zz"
    refine ⟨rfl, ?_⟩
    walk_at "zz"
    refine z_lcl (SqL.of (Same.lk s e)) (fun C2 j H2 => Same H' H2 ∧ H2 C2 = some (.lst ((colZ (own.take j) i).map V.int))) (fun C2 h2 => ⟨Same.new h2 (Same.refl H'), upd_same⟩) (fun C2 j H2 h2 hj z => SqL.of (Same.lk z.1 (Same.lk s e))) ?_ ?_
    · rintro C2 j x H2 h2 hx ⟨s2, e2⟩
      obtain ⟨hj, rfl⟩ := map_ref hx
      have hj2 : j < own.length := by omega
      walk_at "zz"
      refine ⟨rfl, ?_⟩
      walk_at "zz"
      refine z_ix (.inl <| SqL.of (Same.lk s2 (Same.lk s (r.at hj2)))) (at_int (by omega) (by rw [(o.at hj2).1]; omega)) ?_
      walk_at "zz"
      refine z_accum e2 (by rw [List.length_map, colZ, List.length_map, List.length_take]; omega) ?_
      refine ⟨Same.put h2 s2, ?_⟩
      rw [upd_same, colZ_take hj2, List.map_append, show (0 + (i : Int)).toNat = i by omega]
      rfl
    · rintro C2 H2 h2 ⟨s2, e2⟩
      rw [List.length_map, hl, List.take_length] at e2
      walk_at "zz"
      refine ⟨C2, _, rfl, SqL.of e2, ?_⟩
      walk_at "zz"
      refine z_div (div1 (by rw [List.length_map]; omega)) ?_
      refine z_accum (Same.lk s2 eC) (by simp; omega) ?_
      refine ⟨Same.put hC (s.trans s2), ?_⟩
      rw [upd_same, List.length_map, hl, List.range_succ, List.map_append, List.map_append]
      rfl
  · rintro C H' hC ⟨s, eC⟩
    refine q C _ hC s ?_
    rw [eC, meanZ, h1]
abbrev N_law_round : List Str := ["_law_centres", "_law_vectors", "_law_places", "_law_vector_here", "_law_moved", "_law_k", "_law_own", "_law_j"]
-- _law_round(_law_centres, _law_vectors): slots 0:_law_centres 1:_law_vectors 2:_law_places 3:_law_vector_here 4:_law_moved 5:_law_k 6:_law_own 7:_law_j
def T_law_round_b1 (K : PySem.W.Frag) : TS :=
    (tSeq (tAsg (tLc (iRng1 (tCons (tCB (uLen K) (tCons (tVar 1) tNil)) tNil)) (gName 7) (tTest (tOp (uEq K) (tOp (uIx K) (tVar 2) (tVar 7)) (tVar 5))) (tOp (uIx K) (tVar 1) (tVar 7)) [7]) (gName 6))
    (tIfS (tTest (tOp (uEq K) (tCB (uLen K) (tCons (tVar 6) tNil)) (tC (.int 0)))) (tDrop (tBM K "list" rAppend (tVar 4) (tCons (tOp (uIx K) (tVar 0) (tVar 5)) tNil))) (tDrop (tBM K "list" rAppend (tVar 4) (tCons (tLc (iRng1 (tCons (tCB (uLen K) (tCons (tOp (uIx K) (tVar 6) (tC (.int 0))) tNil)) tNil)) (gName 7) tYes (tOp uDiv (tCB (rSum K) (tCons (tLc (iSq K (tVar 6)) (gName 3) tYes (tOp (uIx K) (tVar 3) (tVar 7)) [3]) tNil)) (tCB (uLen K) (tCons (tVar 6) tNil))) [7]) tNil)))))
def T_law_round (K : PySem.W.Frag) : TS :=
    (tSeq (tAsg (tLc (iSq K (tVar 1)) (gName 3) tYes (tCal (sp_law_nearest K) (tCons (tVar 0) (tCons (tVar 3) tNil))) [3]) (gName 2))
    (tSeq (tAsg (tLst tNil) (gName 4))
    (tSeq (tFor (iRng1 (tCons (tCB (uLen K) (tCons (tVar 0) tNil)) tNil)) (gName 5) (T_law_round_b1 K))
    (tRet (tVar 4)))))
def sp_law_round (K : PySem.W.Frag) : Sp := fun vs H Q _ => ∃ (p v : Addr) (sz : Nat) (css vss : List (List Int)), vs = [.ref p, .ref v] ∧ RwAt .lst H p css ∧ RwAt .lst H v vss ∧ VOk sz css ∧ VOk sz vss ∧ sz ≤ 1000 ∧ css.length ≤ 1000 ∧ vss.length ≤ 1000 ∧ ∀ (r : Addr) H', H r = none → Same H H' → RwAt .lst H' r (moveZ css vss) → Q (.ref r) H'
theorem law_round_c {K : PySem.W.Frag} {p v : Addr} {sz : Nat} {css vss : List (List Int)} {H : Hp} {Q : VK} {E : XK} (e : RwAt .lst H p css) (ev : RwAt .lst H v vss) (o : VOk sz css) (ov : VOk sz vss) (hz : sz ≤ 1000) (hn : css.length ≤ 1000) (hm : vss.length ≤ 1000) (q : ∀ (r : Addr) H', H r = none → Same H H' → RwAt .lst H' r (moveZ css vss) → Q (.ref r) H') : sp_law_round K [.ref p, .ref v] H Q E := ⟨p, v, sz, css, vss, rfl, e, ev, o, ov, hz, hn, hm, q⟩
theorem r_law_round {K : PySem.W.Frag} {p v : Addr} {sz : Nat} {css vss : List (List Int)} {H : Hp} {D : Ends} (e : RwAt .lst H p css) (ev : RwAt .lst H v vss) (o : VOk sz css) (ov : VOk sz vss) (hz : sz ≤ 1000) (hn : css.length ≤ 1000) (hm : vss.length ≤ 1000) (q : ∀ (r : Addr) H', H r = none → Same H H' → RwAt .lst H' r (moveZ css vss) → D.rt (.ref r) H') : T_law_round K D [some (.ref p), some (.ref v), none, none, none, none, none, none] H := by
  have e0 := e
  obtain ⟨ps, e, r⟩ := e
  obtain ⟨qs, ev, rv⟩ := ev
  have hl := All2.len r
  have hlv := All2.len rv
  unfold T_law_round
  walk_at "zz"
  refine z_lcl (SqL.of ev) (fun C i H' => Same H H' ∧ H' C = some (.lst (((plZ css vss).take i).map V.int))) (fun C hC => ⟨Same.new hC (Same.refl H), upd_same⟩) (fun C i H' _ _ z => SqL.of (Same.lk z.1 ev)) ?_ ?_
  · rintro C i x H' hC hx ⟨s, eC⟩
    obtain ⟨hi, rfl⟩ := map_ref hx
    have hi2 : i < vss.length := by omega
    walk_at "zz"
    refine ⟨rfl, ?_⟩
    walk_at "zz"
    refine law_nearest_c (e0.same s) (Same.lk s (rv.at hi2)) (by rw [(ov.at hi2).1]; exact o) (ov.at hi2).2 (by rw [(ov.at hi2).1]; exact hz) hn ?_
    walk_at "zz"
    refine z_accum eC (by rw [List.length_map, List.length_take]; omega) ?_
    refine ⟨Same.put hC s, ?_⟩
    rw [upd_same, take_sD 0 (by simpa [plZ] using hi2), List.map_append, plZ_at hi2]
    rfl
  rintro C H1 hC ⟨s1, eC⟩
  rw [List.length_map, hlv, List.take_of_length_le (by simp [plZ])] at eC
  walk_at "zz"
  rename_i m hm1
  have sm := Same.new (o := .lst []) hm1 s1
  have hm0 := fresh_back s1 hm1
  have nCm : C ≠ m := ne_of_none eC hm1
  rw [List.length_map]
  refine z_rng1 (by omega) ?_ (by omega)
  refine z_rng (fun i σ H' => Same H H' ∧ H' C = some (.lst ((plZ css vss).map V.int)) ∧ RwAt .lst H' m ((moveZ css vss).take i) ∧ ∃ (w5 w6 : Option V), σ = [some (.ref p), some (.ref v), some (.ref C), none, some (.ref m), w5, w6, none])
    ⟨sm, lk_new hm1 eC, ⟨[], upd_same, .nil⟩, none, none, rfl⟩ ?_ ?_
  · rintro i σ' H2 hi ⟨s, eC2, ⟨ms, em2, rm2⟩, w5, w6, rfl⟩
    have hi2 : i < css.length := by omega
    have en : (0 + (i : Int)) = i := by omega
    rw [en]
    unfold T_law_round_b1
    walk_at "zz"
    try refine z_len (.inl (SqL.of (Same.lk s ev))) ?_
    walk_at "zz"
    rw [List.length_map]
    refine z_lcr1 (by omega) ?_
    rw [Int.toNat_natCast]
    refine z_lcr (fun C2 j H3 => Same H2 H3 ∧ H3 C2 = some (.lst ((ownG (qs.take j) (plZ css vss) (i : Int)).map V.ref))) (fun C2 h2 => ⟨Same.new h2 (Same.refl H2), upd_same⟩) ?_ ?_
    · rintro C2 j H3 h2 hj ⟨s3, e3⟩
      have jn : (0 + (j : Int)).toNat = j := by omega
      have hj2 : j < (plZ css vss).length := by simp [plZ]; omega
      walk_at "zz"
      refine ⟨rfl, ?_⟩
      walk_at "zz"
      refine z_ix (.inl (SqL.of (Same.lk s3 eC2))) (at_int (by omega) (by omega)) ?_
      rw [jn]
      walk_at "zz"
      rw [ownG_take hj hj2]
      refine z_itD (fun h => ?_) (fun h => ?_)
      · walk_at "zz"
        refine z_ix (.inl (SqL.of (Same.lk s3 (Same.lk s ev)))) (at_ref (by omega) (by omega)) ?_
        rw [jn]
        refine z_accum e3 (by rw [List.length_map]; have := ownG_len (l := qs.take j) (pl := plZ css vss) (k := i); rw [List.length_take] at this; omega) ?_
        refine ⟨Same.put h2 s3, ?_⟩
        rw [if_pos h, upd_same, ref_app, List.getD_eq_getElem?_getD, List.getElem?_eq_getElem hj]
        rfl
      · rw [if_neg h]
        exact ⟨s3, e3⟩
    · rintro C2 H3 h2 ⟨s3, e3⟩
      rw [List.take_length] at e3
      have s4 := s.trans s3
      have eC3 := s3 _ _ eC2
      have em3 := s3 _ _ em2
      have rm3 := rm2.same s3
      have rown : RwIn .lst H3 (ownG qs (plZ css vss) (i : Int)) (ownG vss (plZ css vss) (i : Int)) := All2.own (rv.same s4) _ _
      have lown := All2.len rown
      have lo := ownG_len (l := vss) (pl := plZ css vss) (k := (i : Int))
      have lm := All2.len rm2
      walk_at "zz"
      rw [List.length_map, lown]
      refine z_itD (fun h => ?_) (fun h => ?_)
      · walk_at "zz"
        refine z_ix (.inl (SqL.of (Same.lk s4 e))) (at_ref (by omega) (by omega)) ?_
        rw [Int.toNat_natCast]
        walk_at "zz"
        refine z_app em3 (by rw [List.length_map, lm, List.length_take]; omega) ?_
        refine ⟨Same.put hm0 s4, lk_ne nCm eC3, ⟨ms ++ [ps.getD i 0], by rw [upd_same, ref_app], ?_⟩, _, _, rfl⟩
        rw [moveZ_take hi2, if_neg (by omega)]
        exact RowsIn.snoc em3 rm3 (s4 _ _ (r.at hi2)) (ne_of_none (r.at hi2) hm0)
      · walk_at "zz"
        refine z_ix (.inl (SqL.of e3)) (at_ref (by decide) (by omega)) ?_
        walk_at "zz"
        try refine z_len (.inl (SqL.of (rown.at (show 0 < _ by omega)))) ?_
        walk_at "zz"
        rw [List.length_map]
        refine lm_c (sz := sz) ⟨_, e3, rown⟩ (fun c hc => ov c (ownG_mem hc)) hz (by omega) (by omega) fun r2 H4 n4 s5 e5 => ?_
        walk_at "zz"
        refine z_app (Same.lk s5 em3) (by rw [List.length_map, lm, List.length_take]; omega) ?_
        refine ⟨Same.put hm0 (s4.trans s5), lk_ne nCm (Same.lk s5 eC3), ⟨ms ++ [r2], by rw [upd_same, ref_app], ?_⟩, _, _, rfl⟩
        rw [moveZ_take hi2, if_pos (by omega)]
        exact RowsIn.snoc (Same.lk s5 em3) (rm3.same s5) e5 (ne_of_none em3 n4).symm
  · rintro σ' H' ⟨s, _, rm, w5, w6, rfl⟩
    walk_at "zz"
    rw [Int.toNat_natCast, hl, List.take_of_length_le (by rw [moveZ_len]; omega)] at rm
    exact q m H' hm0 s rm
theorem w_law_round {K : PySem.W.Frag} : Wd (T_law_round K) N_law_round 2 (sp_law_round K) := fun vs H Q E h => by
  obtain ⟨p, v, sz, css, vss, rfl, e, ev, o, ov, hz, hn, hm, q⟩ := h
  exact ⟨rfl, r_law_round e ev o ov hz hn hm q⟩

abbrev N_law : List Str := ["_law_script", "_law_state", "_law_size", "_law_vectors", "_law_k", "_law_many", "_law_rounds", "_law_count", "_law_due", "_law_turn", "_law_given", "_law_vector_here", "_law_actual", "_law_centre", "_law_centres", "_law_place"]
-- law(_law_script): slots 0:_law_script 1:_law_state 2:_law_size 3:_law_vectors 4:_law_k 5:_law_many 6:_law_rounds 7:_law_count 8:_law_due 9:_law_turn 10:_law_given 11:_law_vector_here 12:_law_actual 13:_law_centre 14:_law_centres 15:_law_place
def T_law_b1 (K : PySem.W.Frag) : TS :=
    (tAsg (tCal (sp_law_round K) (tCons (tVar 8) (tCons (tVar 3) tNil))) (gName 8))
def T_law (K : PySem.W.Frag) : TS :=
    (tSeq (tAsg (tLst (tCons (tCB (uList K) (tCons (tVar 0) tNil)) (tCons (tC (.int 0)) (tCons (tC (.int 0)) tNil)))) (gName 1))
    (tSeq (tAsg (tOp (uAdd K) (tC (.int 1)) (tCal (sp_law_next K) (tCons (tVar 1) (tCons (tC (.int 3)) tNil)))) (gName 2))
    (tSeq (tAsg (tLc (iRng1 (tCons (tCal (sp_law_next K) (tCons (tVar 1) (tCons (tC (.int 9)) tNil))) tNil)) (gName 4) tYes (tCal (sp_law_vector K) (tCons (tVar 1) (tCons (tVar 2) tNil))) [4]) (gName 3))
    (tSeq (tAsg (tOp (uAdd K) (tC (.int 1)) (tCal (sp_law_next K) (tCons (tVar 1) (tCons (tC (.int 6)) tNil)))) (gName 5))
    (tSeq (tAsg (tCal (sp_law_next K) (tCons (tVar 1) (tCons (tC (.int 5)) tNil))) (gName 6))
    (tSeq (tAsg (tCB uMin (tCons (tVar 5) (tCons (tCB (uLen K) (tCons (tVar 3) tNil)) tNil))) (gName 7))
    (tSeq (tAsg (tLc (iRng1 (tCons (tVar 7) tNil)) (gName 4) tYes (tOp (uIx K) (tVar 3) (tOp uDiv (tOp uMul (tVar 4) (tCB (uLen K) (tCons (tVar 3) tNil))) (tVar 7))) [4]) (gName 8))
    (tSeq (tFor (iRng1 (tCons (tVar 6) tNil)) (gName 9) (T_law_b1 K))
    (tSeq (tAsg (tLc (iSq K (tVar 3)) (gName 11) tYes (tCB (uTuple K) (tCons (tVar 11) tNil)) [11]) (gName 10))
    (tSeq (tAsg (tCal (sp_train K) (tCons (tVar 10) (tCons (tVar 5) (tCons (tVar 6) tNil)))) (gName 12))
    (tSeq (tIfS (tOr (tNot (tTru K (tCB (uIsi K) (tCons (tVar 12) (tCons (tC (.ty "list")) tNil))))) (tTest (tOp (uNe K) (tVar 12) (tLc (iSq K (tVar 8)) (gName 13) tYes (tCB (uTuple K) (tCons (tVar 13) tNil)) [13])))) (tRet (tC (.bl false))) tNext)
    (tSeq (tIfS (tTest (tOp (uNe K) (tVar 10) (tLc (iSq K (tVar 3)) (gName 11) tYes (tCB (uTuple K) (tCons (tVar 11) tNil)) [11]))) (tRet (tC (.bl false))) tNext)
    (tSeq (tAsg (tLc (iRng1 (tCons (tOp (uAdd K) (tC (.int 1)) (tCal (sp_law_next K) (tCons (tVar 1) (tCons (tC (.int 5)) tNil)))) tNil)) (gName 4) tYes (tCal (sp_law_vector K) (tCons (tVar 1) (tCons (tVar 2) tNil))) [4]) (gName 14))
    (tSeq (tAsg (tCal (sp_law_vector K) (tCons (tVar 1) (tCons (tVar 2) tNil))) (gName 11))
    (tSeq (tAsg (tCal (sp_nearest K) (tCons (tLc (iSq K (tVar 14)) (gName 13) tYes (tCB (uTuple K) (tCons (tVar 13) tNil)) [13]) (tCons (tCB (uTuple K) (tCons (tVar 11) tNil)) tNil))) (gName 15))
    (tRet (tAndV (tCB (uIsi K) (tCons (tVar 15) (tCons (tC (.ty "int")) tNil))) (tAndV (tNotV (tCB (uIsi K) (tCons (tVar 15) (tCons (tC (.ty "bool")) tNil)))) (tOp (uEq K) (tVar 15) (tCal (sp_law_nearest K) (tCons (tVar 14) (tCons (tVar 11) tNil))))))))))))))))))))))
theorem z_lcTup {K : PySem.W.Frag} {p : Addr} {xss : List (List Int)} {σ : L2.St} {b : Nat} {H : Hp} {Q : VK} (e : RwAt .lst H p xss) (hn : xss.length ≤ 1000) (hb : b < σ.length) (q : ∀ (r : Addr) H', H r = none → Same H H' → RwAt .tup H' r xss → Q (.ref r) H') : zLcS K (gName b) tYes (tCB (uTuple K) (tCons (tVar b) tNil)) [b] σ (.ref p) H Q := by
  obtain ⟨ps, e, r⟩ := e
  have hl := All2.len r
  refine z_lcl (SqL.of e) (fun C i H' => Same H H' ∧ RwAt .tup H' C (xss.take i)) (fun C hC => ⟨Same.new hC (Same.refl H), [], upd_same, .nil⟩) (fun C i H' _ _ z => SqL.of (Same.lk z.1 e)) ?_ ?_
  · rintro C i x H' hC hx ⟨s, ms, eC, rm⟩
    obtain ⟨hi, rfl⟩ := map_ref hx
    have hi2 : i < xss.length := by omega
    have lm := All2.len rm
    refine z_gName ?_
    refine ⟨by show ((σ.set b none).set b _).set b none = σ.set b none; rw [List.set_set, List.set_set], ?_⟩
    refine z_yes ?_
    rw [if_pos rfl]
    refine z_cb ?_
    refine z_cons ?_
    refine z_var (v := .ref (ps.getD i 0)) (by show ((σ.set b none).set b (some _))[b]? = _; rw [List.getElem?_set_self (by simpa using hb)]) ?_
    refine z_nil ?_
    refine z_tupleL (SqL.of (Same.lk s (r.at hi2))) fun t ht => ?_
    refine z_accum (lk_new ht eC) (by rw [List.length_map, lm, List.length_take]; omega) ?_
    refine ⟨Same.put hC (Same.new ht s), ms ++ [t], by rw [upd_same, ref_app], ?_⟩
    rw [take_sD [] hi2]
    exact RwIn.putT (lk_new ht eC) ((rm.new ht).app upd_same)
  · rintro C H' hC ⟨s, rr⟩
    rw [List.length_map, hl, List.take_length] at rr
    exact q C H' hC s rr
theorem r_law {K : PySem.W.Frag} {a : Addr} {ns : List Int} {H : Hp} {D : Ends} (hS : SqL K H a (ns.map V.int)) (hl : ns.length ≤ 63) (q : ∀ H', D.rt (.bl true) H') : T_law K D [some (.ref a), none, none, none, none, none, none, none, none, none, none, none, none, none, none, none] H := by
  unfold T_law
  walk_at "zz"
  rename_i l hl1 p hp
  have d0 := Draw.start hl1 hp
  walk_at "nx"
  intro n1 H1 a1 b1 d1 x1
  walk_at "zz"
  generalize hSZ : (1 + n1).toNat = SZ
  walk_at "nx"
  intro n2 H2 a2 b2 d2 x2
  walk_at "zz"
  refine z_lcr1 (by omega) ?_
  refine z_lcr (fun C i H' => ExD H2 H' ∧ Draw H' p l ∧ ∃ acc : List (List Int), RwAt .lst H' C acc ∧ acc.length = i ∧ VOk SZ acc) (fun C hC => ⟨ExD.new hC (ExD.refl _), Draw.new hC d2, [], ⟨[], upd_same, .nil⟩, rfl, fun _ h => nomatch h⟩) ?_ ?_
  · rintro C j H4 hC hj ⟨x4, d4, acc, ⟨ms, eC, rm⟩, la, oa⟩
    have lm := All2.len rm
    walk_at "zz"
    refine ⟨rfl, ?_⟩
    walk_at "zz"
    refine law_vector_c d4 (by omega) fun u us H5 nu eu lu bu d5 x5 => ?_
    have eC5 := x5.lk eC NotSt.refs
    refine z_accum eC5 (by rw [List.length_map]; omega) ?_
    refine ⟨ExD.new hC (x4.trans x5), Draw.put (Draw.ne hC d2) (Draw.neL hC d2) d5, acc ++ [us], ⟨ms ++ [u], by rw [upd_same, ref_app], RowsIn.snoc eC5 (RwIn.exdL x5 rm) eu (ne_of_none eC nu).symm⟩, by simp [la], ?_⟩
    intro c hc
    rcases List.mem_append.mp hc with h | h
    · exact oa c h
    · rw [List.mem_singleton.mp h]; exact ⟨by omega, bu⟩
  rintro v H3 hv ⟨x3, d3, vss, rv, lv, ov⟩
  walk_at "zz"
  walk_at "nx"
  intro n3 H4 a4 b4 d4 x4
  have rv4 := rv.exdL x4
  walk_at "zz"
  walk_at "nx"
  intro n4 H5 a5 b5 d5 x5
  have rv5 := rv4.exdL x5
  have rvs := rv5
  obtain ⟨qs, ev, rvi⟩ := rvs
  have hlv := All2.len rvi
  walk_at "zz"
  rw [List.length_map]
  generalize hM : (if (qs.length : Int) < 1 + n3 then (qs.length : Int) else 1 + n3) = M
  have eM : M = ((min (1 + n3).toNat vss.length : Nat) : Int) := by rw [← hM]; split <;> omega
  have hmv : min (1 + n3).toNat vss.length ≤ vss.length ∧ min (1 + n3).toNat vss.length ≤ 1000 := by omega
  generalize hmm : min (1 + n3).toNat vss.length = m at *
  subst eM
  refine z_lcr1 (by omega) ?_
  rw [Int.toNat_natCast]
  refine z_lcr (fun C i H' => Same H5 H' ∧ RwAt .lst H' C ((initZ vss m).take i)) (fun C hC => ⟨Same.new hC (Same.refl H5), [], upd_same, .nil⟩) ?_ ?_
  · rintro C i H' hC hi ⟨s, ms, eC, rm⟩
    have hlt := init_lt hi (show 0 < vss.length by omega)
    have lm := All2.len rm
    walk_at "zz"
    refine ⟨rfl, ?_⟩
    walk_at "zz"
    have ei : (0 + (i : Int)) * ((qs.length : Nat) : Int) / (m : Int) = ((i * vss.length / m : Nat) : Int) := by
      rw [hlv, Int.zero_add, ← Int.natCast_mul, ← Int.natCast_ediv]
    rw [List.length_map, ei]
    clear ei
    have it := initZ_take (vss := vss) hi
    generalize i * vss.length / m = g at *
    refine z_ix (.inl (SqL.of (Same.lk s ev))) (at_ref (by omega) (by omega)) ?_
    rw [Int.toNat_natCast]
    refine z_accum eC (by rw [List.length_map, lm, List.length_take]; omega) ?_
    refine ⟨Same.put hC s, ms ++ [qs.getD g 0], by rw [upd_same, ref_app], ?_⟩
    rw [it]
    exact RowsIn.snoc eC rm (Same.lk s (rvi.at hlt)) (ne_of_none (rvi.at hlt) hC)
  rintro C H6 hC ⟨s6, r6⟩
  rw [List.take_of_length_le (by rw [initZ_len]; omega)] at r6
  have d6 := d5.same s6
  have rv6 := rv5.same s6
  walk_at "zz"
  refine z_rng1 (by omega) ?_ (by omega)
  refine z_rng (fun i σ H' => ∃ (r : Addr) (w4 w9 : Option V), Same H6 H' ∧ RwAt .lst H' r (trainZ vss m i) ∧ σ = [some (.ref a), some (.ref p), some (.int (1 + n1)), some (.ref v), none, some (.int (1 + n3)), some (.int n4), some (.int m), some (.ref r), w9, none, none, none, none, none, none]) ⟨C, none, none, Same.refl H6, r6, rfl⟩ ?_ ?_
  · rintro i σ H' hi ⟨r, w4, w9, s, rr, rfl⟩
    unfold T_law_b1
    walk_at "zz"
    refine law_round_c rr (rv6.same s) (trainZ_ok ov hmv.1 i) ov (by omega) (by rw [trainZ_len]; omega) (by omega) fun r2 H2' n2' s2 rr2 => ?_
    walk_at "zz"
    exact ⟨r2, none, _, s.trans s2, rr2, rfl⟩
  rintro σ H7 ⟨r, w4, w9, s7, r7, rfl⟩
  have d7 := d6.same s7
  have rv7 := rv6.same s7
  have lt7 : (trainZ vss m n4.toNat).length = m := trainZ_len _
  walk_at "zz"
  refine z_lcTup rv7 (by omega) (by with_unfolding_all exact of_decide_eq_true rfl) fun g H8 ng s8 rg => ?_
  have d8 := d7.same s8
  have r8 := r7.same s8
  have rv8 := rv7.same s8
  walk_at "zz"
  refine train_c (sz := SZ) rg ov (by omega) (by omega) (by omega) (by omega) fun t H9 s9 rt => ?_
  have d9 := d8.same s9
  have r9 := r8.same s9
  have rv9 := rv8.same s9
  have rg9 := rg.same s9
  rw [hmm] at rt
  walk_at "zz"
  refine z_isll rt.choose_spec.1 ?_
  walk_at "zx"
  refine z_lcTup r9 (by omega) (by with_unfolding_all exact of_decide_eq_true rfl) fun g2 H10 ng2 s10 rg2 => ?_
  refine z_neRowsT (rt.same s10) rg2 ?_
  rw [decide_eq_true rfl]
  walk_at "zx"
  refine z_lcTup (rv9.same s10) (by omega) (by with_unfolding_all exact of_decide_eq_true rfl) fun g3 H11 ng3 s11 rg3 => ?_
  refine z_neRowsT ((rg9.same s10).same s11) rg3 ?_
  rw [decide_eq_true rfl]
  have d11 := (d9.same s10).same s11
  walk_at "zx"
  walk_at "nx"
  intro n5 H12 a12 b12 d12 x12
  walk_at "zz"
  refine z_lcr1 (by omega) ?_
  refine z_lcr (fun C i H' => ExD H12 H' ∧ Draw H' p l ∧ ∃ acc : List (List Int), RwAt .lst H' C acc ∧ acc.length = i ∧ VOk SZ acc) (fun C hC => ⟨ExD.new hC (ExD.refl _), Draw.new hC d12, [], ⟨[], upd_same, .nil⟩, rfl, fun _ h => nomatch h⟩) ?_ ?_
  · rintro C j H4 hC hj ⟨x4, d4, acc, ⟨ms, eC, rm⟩, la, oa⟩
    have lm := All2.len rm
    walk_at "zz"
    refine ⟨rfl, ?_⟩
    walk_at "zz"
    refine law_vector_c d4 (by omega) fun u us H5 nu eu lu bu d5 x5 => ?_
    have eC5 := x5.lk eC NotSt.refs
    refine z_accum eC5 (by rw [List.length_map]; omega) ?_
    refine ⟨ExD.new hC (x4.trans x5), Draw.put (Draw.ne hC d12) (Draw.neL hC d12) d5, acc ++ [us], ⟨ms ++ [u], by rw [upd_same, ref_app], RowsIn.snoc eC5 (RwIn.exdL x5 rm) eu (ne_of_none eC nu).symm⟩, by simp [la], ?_⟩
    intro c hc
    rcases List.mem_append.mp hc with h | h
    · exact oa c h
    · rw [List.mem_singleton.mp h]; exact ⟨by omega, bu⟩
  rintro cs H13 hcs ⟨x13, d13, css, rc, lc, oc⟩
  walk_at "zz"
  refine law_vector_c d13 (by omega) fun u us H14 nu eu lu bu d14 x14 => ?_
  have rc14 := rc.exdL x14
  walk_at "zz"
  refine z_lcTup rc14 (by omega) (by with_unfolding_all exact of_decide_eq_true rfl) fun g4 H15 ng4 s15 rg4 => ?_
  have eu15 := Same.lk s15 eu
  walk_at "zz"
  refine z_tupleL (SqL.of eu15) fun tu htu => ?_
  walk_at "zz"
  have oc2 : VOk us.length css := by rw [show us.length = SZ by omega]; exact oc
  refine nearest_c (rg4.new htu) upd_same oc2 bu (by omega) fun H16 s16 => ?_
  have s17 := (Same.new (o := .tup (us.map V.int)) htu s15).trans s16
  walk_at "zx"
  refine law_nearest_c (rc14.same s17) (Same.lk s17 eu) oc2 bu (by omega) (by omega) ?_
  walk_at "zz"
  rw [decide_eq_true rfl]
  exact q _
theorem w_law {K : PySem.W.Frag} : Wd (T_law K) N_law 1 (sp_law K) := fun vs H Q E h => by
  obtain ⟨a, ns, rfl, hS, hl, q⟩ := h
  exact ⟨rfl, r_law hS hl q⟩
/-! ### the text by places, and its defs, each once -/
def topS (i : Nat) : Stmt := PySem.Challenge.pw_surenear_k28_training.main.body.getD i (.Pass ⟨0, 0, 0, 0⟩)
section
variable {P : Program} {w : World} {K : PySem.W.Frag} {mg : Str → Option Value} {base : Heap}
abbrev s_law_row : Stmt := (topS 8)
theorem sc_law_row : FnScope N_law_row ["_law_script", "_law_k"] (defScope s_law_row) := ⟨rfl, rfl, rfl, by decide +kernel, rfl, by decide +kernel, by decide +kernel⟩
theorem ok_law_row (m_len : mg "len" = none) (m_int : mg "int" = none) {f : Addr} {fd : FuncData} (F : Fun K "_law_row" "_law_row" s_law_row f fd) : FnOk P w K mg base CX0 1 f fd ["_law_script", "_law_k"] (sp_law_row K) := by
  have sc := sc_law_row
  refine F.ok sc_law_row (fun vs H Q E h => ((w_law_row) vs H Q E h).1) (fun cdv A outer s H vs Q E hr h => ⟨T_law_row K, ?_, ((w_law_row) vs H Q E h).2⟩)
  exact (pss_cons (ps_set (i := 2) sc.nd rfl (by first | exact Or.inl rfl | exact Or.inr rfl) pe_int)
      (pss_cut (ps_if (pt_cmpR (op_uLt hr.units) (pv 1) (pe_callB call_uLen (by rfl) m_len (by decide +kernel) (pa_cons (pv 0) pa_nil)) (nomark _)) (pss_one (ps_set (i := 2) sc.nd rfl (by first | exact Or.inl rfl | exact Or.inr rfl) (pe_ix ix_uIx (pv 0) (pv 1) (fun _ _ => rfl)))) pss_nil)
      (pss_cut (ps_if (pt_cmpR (op_uLt hr.units) (pv 2) pe_int (nomark _)) (pss_one (ps_set (i := 2) sc.nd rfl (by first | exact Or.inl rfl | exact Or.inr rfl) (pe_op op_uSub (pe_op op_uMul (pe_un un_uNeg pe_int) (pv 2)) pe_int))) pss_nil)
      (pss_cut (ps_if (pt_cmpR (op_uLt hr.units) (pv 2) (pe_op op_uPow pe_int pe_int) (nomark _)) (pss_cons (ps_set (i := 3) sc.nd rfl (by first | exact Or.inl rfl | exact Or.inr rfl) (pe_op op_uMod (pe_callTy call_uInt (by rfl) m_int (by decide +kernel) (pa_cons (pe_op op_uAdd (pe_op op_uAdd (pe_op op_uMul (pv 2) pe_int) (pe_op op_uMul (pv 1) pe_int)) pe_int) pa_nil)) pe_int))
      (pss_cons (ps_set (i := 4) sc.nd rfl (by first | exact Or.inl rfl | exact Or.inr rfl) (pe_op op_uMod (pe_callTy call_uInt (by rfl) m_int (by decide +kernel) (pa_cons (pe_op op_uAdd (pe_op op_uAdd (pe_op op_uAdd (pe_op op_uMul (pv 3) pe_int) (pe_op op_uMul (pv 2) pe_int)) (pv 1)) pe_int) pa_nil)) pe_int))
      (pss_cons (ps_set (i := 5) sc.nd rfl (by first | exact Or.inl rfl | exact Or.inr rfl) (pe_op op_uMod (pe_callTy call_uInt (by rfl) m_int (by decide +kernel) (pa_cons (pe_op op_uAdd (pe_op op_uAdd (pe_op op_uMul (pv 4) pe_int) (pe_op op_uMul (pv 3) (pv 4))) pe_int) pa_nil)) pe_int))
      (pss_one (ps_set (i := 2) sc.nd rfl (by first | exact Or.inl rfl | exact Or.inr rfl) (pe_op op_uAdd (pe_op op_uAdd (pv 3) (pe_op op_uMul (pv 4) pe_int)) (pe_op op_uMul (pv 5) (pe_op op_uPow pe_int pe_int)))))))) pss_nil)
      (pss_one (ps_ret (pv 2)))))))
abbrev s_law_next : Stmt := (topS 9)
theorem sc_law_next : FnScope N_law_next ["_law_state", "_law_many"] (defScope s_law_next) := ⟨rfl, rfl, rfl, by decide +kernel, rfl, by decide +kernel, by decide +kernel⟩
theorem ok_law_next (D_law_row : Dfn P w K mg base 1 "_law_row" ["_law_script", "_law_k"] (sp_law_row K)) (m_int : mg "int" = none) {f : Addr} {fd : FuncData} (F : Fun K "_law_next" "_law_next" s_law_next f fd) : FnOk P w K mg base CX0 2 f fd ["_law_state", "_law_many"] (sp_law_next K) := by
  have sc := sc_law_next
  refine F.ok sc_law_next (fun vs H Q E h => ((w_law_next) vs H Q E h).1) (fun cdv A outer s H vs Q E hr h => ⟨T_law_next K, ?_, ((w_law_next) vs H Q E h).2⟩)
  exact (pss_cut (ps_if (pt_cmpR (op_uLt hr.units) (pe_ix ix_uIx (pv 0) pe_int (fun _ _ => rfl)) (pv 1) (nomark _)) (pss_cons (ps_asg (z_call D_law_row (hr.mono (by decide)) (by rfl) (pa_cons (pe_ix ix_uIx (pv 0) pe_int (fun _ _ => rfl)) (pa_cons (pe_ix ix_uIx (pv 0) pe_int (fun _ _ => rfl)) pa_nil))) (pg_sub (pv 0) pe_int set_list))
      (pss_one (ps_asg (pe_op op_uAdd (pe_ix ix_uIx (pv 0) pe_int (fun _ _ => rfl)) pe_int) (pg_sub (pv 0) pe_int set_list)))) pss_nil)
      (pss_cons (ps_set (i := 2) sc.nd rfl (by first | exact Or.inl rfl | exact Or.inr rfl) (pe_op op_uMod (pe_callTy call_uInt (by rfl) m_int (by decide +kernel) (pa_cons (pe_ix ix_uIx (pv 0) pe_int (fun _ _ => rfl)) pa_nil)) (pv 1)))
      (pss_cons (ps_asg (pe_op op_uDiv (pe_ix ix_uIx (pv 0) pe_int (fun _ _ => rfl)) (pv 1)) (pg_sub (pv 0) pe_int set_list))
      (pss_one (ps_ret (pv 2))))))
abbrev s_law_vector : Stmt := (topS 10)
theorem sc_law_vector : FnScope N_law_vector ["_law_state", "_law_size"] (defScope s_law_vector) := ⟨rfl, rfl, rfl, by decide +kernel, rfl, by decide +kernel, by decide +kernel⟩
theorem ok_law_vector (D_law_next : Dfn P w K mg base 2 "_law_next" ["_law_state", "_law_many"] (sp_law_next K)) (m_range : mg "range" = none) {f : Addr} {fd : FuncData} (F : Fun K "_law_vector" "_law_vector" s_law_vector f fd) : FnOk P w K mg base CX0 3 f fd ["_law_state", "_law_size"] (sp_law_vector K) := by
  have sc := sc_law_vector
  refine F.ok sc_law_vector (fun vs H Q E h => ((w_law_vector) vs H Q E h).1) (fun cdv A outer s H vs Q E hr h => ⟨T_law_vector K, ?_, ((w_law_vector) vs H Q E h).2⟩)
  exact (pss_one (ps_ret (pe_lc (own := [("_law_k", 2)]) (g := (gName 2)) (tt := tYes) rfl sc.nd (pi_range1 (by rfl) m_range (pa_cons (pv 1) pa_nil)) (blkOk_by (N := N_law_vector) (sc := defScope s_law_vector) (by decide +kernel)) (fun _ _ _ _ _ => (pg_name (i := 2) sc.nd rfl (by first | exact Or.inl rfl | exact Or.inr rfl))) (fun _ _ _ _ _ => pts_nil) (fun _ _ _ _ _ => (pe_op op_uSub (z_call D_law_next (hr.mono (by decide)) (by rfl) (pa_cons (pv 0) (pa_cons (pe_ix ix_uIx (pe_lst (pa_cons pe_int (pa_cons pe_int pa_nil))) (z_call D_law_next (hr.mono (by decide)) (by rfl) (pa_cons (pv 0) (pa_cons pe_int pa_nil))) (fun _ _ => rfl)) pa_nil))) pe_int)))))
abbrev s_law_nearest : Stmt := (topS 11)
theorem sc_law_nearest : FnScope N_law_nearest ["_law_centres", "_law_vector_here"] (defScope s_law_nearest) := ⟨rfl, rfl, rfl, by decide +kernel, rfl, by decide +kernel, by decide +kernel⟩
theorem ok_law_nearest (m_len : mg "len" = none) (m_range : mg "range" = none) {f : Addr} {fd : FuncData} (F : Fun K "_law_nearest" "_law_nearest" s_law_nearest f fd) : FnOk P w K mg base CX0 1 f fd ["_law_centres", "_law_vector_here"] (sp_law_nearest K) := by
  have sc := sc_law_nearest
  refine F.ok sc_law_nearest (fun vs H Q E h => ((w_law_nearest) vs H Q E h).1) (fun cdv A outer s H vs Q E hr h => ⟨T_law_nearest K, ?_, ((w_law_nearest) vs H Q E h).2⟩)
  exact (pss_cons (ps_set (i := 2) sc.nd rfl (by first | exact Or.inl rfl | exact Or.inr rfl) pe_int)
      (pss_cons (ps_set (i := 3) sc.nd rfl (by first | exact Or.inl rfl | exact Or.inr rfl) pe_non)
      (pss_cons (ps_for PassesOwn.never rfl (pi_range1 (by rfl) m_range (pa_cons (pe_callB call_uLen (by rfl) m_len (by decide +kernel) (pa_cons (pv 0) pa_nil)) pa_nil)) (pg_name (i := 4) sc.nd rfl (by first | exact Or.inl rfl | exact Or.inr rfl)) (pss_cons (ps_set (i := 5) sc.nd rfl (by first | exact Or.inl rfl | exact Or.inr rfl) pe_int)
      (pss_cons (ps_for PassesOwn.never rfl (pi_range1 (by rfl) m_range (pa_cons (pe_callB call_uLen (by rfl) m_len (by decide +kernel) (pa_cons (pv 1) pa_nil)) pa_nil)) (pg_name (i := 6) sc.nd rfl (by first | exact Or.inl rfl | exact Or.inr rfl)) (pss_one (ps_set (i := 5) sc.nd rfl (by first | exact Or.inl rfl | exact Or.inr rfl) (pe_op op_uAdd (pv 5) (pe_op op_uMul (pe_op op_uSub (pe_ix ix_uIx (pe_ix ix_uIx (pv 0) (pv 4) (fun _ _ => rfl)) (pv 6) (fun _ _ => rfl)) (pe_ix ix_uIx (pv 1) (pv 6) (fun _ _ => rfl))) (pe_op op_uSub (pe_ix ix_uIx (pe_ix ix_uIx (pv 0) (pv 4) (fun _ _ => rfl)) (pv 6) (fun _ _ => rfl)) (pe_ix ix_uIx (pv 1) (pv 6) (fun _ _ => rfl))))))))
      (pss_one (ps_if (PW.pt (pw_or (pt_cmpR op_uIs (pv 3) pe_non (nomark _)) (pw_or1 (pt_cmpR (op_uLt hr.units) (pv 5) (pv 3) (nomark _))))) (pss_cons (ps_set (i := 3) sc.nd rfl (by first | exact Or.inl rfl | exact Or.inr rfl) (pv 5))
      (pss_one (ps_set (i := 2) sc.nd rfl (by first | exact Or.inl rfl | exact Or.inr rfl) (pv 4)))) pss_nil)))))
      (pss_one (ps_ret (pv 2))))))
abbrev s_law_round : Stmt := (topS 12)
theorem sc_law_round : FnScope N_law_round ["_law_centres", "_law_vectors"] (defScope s_law_round) := ⟨rfl, rfl, rfl, by decide +kernel, rfl, by decide +kernel, by decide +kernel⟩
theorem ok_law_round (D_law_nearest : Dfn P w K mg base 1 "_law_nearest" ["_law_centres", "_law_vector_here"] (sp_law_nearest K)) (m_len : mg "len" = none) (m_range : mg "range" = none) (m_sum : mg "sum" = none) {f : Addr} {fd : FuncData} (F : Fun K "_law_round" "_law_round" s_law_round f fd) : FnOk P w K mg base CX0 2 f fd ["_law_centres", "_law_vectors"] (sp_law_round K) := by
  have sc := sc_law_round
  refine F.ok sc_law_round (fun vs H Q E h => ((w_law_round) vs H Q E h).1) (fun cdv A outer s H vs Q E hr h => ⟨T_law_round K, ?_, ((w_law_round) vs H Q E h).2⟩)
  exact (pss_cons (by first | exact (ps_setLc (i := 2) (own := [("_law_vector_here", 3)]) (g := (gName 3)) (tt := tYes) rfl sc.nd rfl rfl (sw_true rfl rfl rfl (by decide +kernel)) (pi_sq (pv 1)) (blkOk_by (N := N_law_round) (sc := defScope s_law_round) (by decide +kernel)) (fun _ _ _ _ _ => (pg_name (i := 3) sc.nd rfl (by first | exact Or.inl rfl | exact Or.inr rfl))) (fun _ _ _ _ _ => pts_nil) (fun _ _ _ _ _ => (z_call D_law_nearest (hr.mono (by decide)) (by rfl) (pa_cons (pv 0) (pa_cons (pv 3) pa_nil))))) | exact (ps_set (i := 2) sc.nd rfl (Or.inr rfl) (pe_lc (own := [("_law_vector_here", 3)]) (g := (gName 3)) (tt := tYes) rfl sc.nd (pi_sq (pv 1)) (blkOk_by (N := N_law_round) (sc := defScope s_law_round) (by decide +kernel)) (fun _ _ _ _ _ => (pg_name (i := 3) sc.nd rfl (by first | exact Or.inl rfl | exact Or.inr rfl))) (fun _ _ _ _ _ => pts_nil) (fun _ _ _ _ _ => (z_call D_law_nearest (hr.mono (by decide)) (by rfl) (pa_cons (pv 0) (pa_cons (pv 3) pa_nil)))))))
      (pss_cons (ps_set (i := 4) sc.nd rfl (by first | exact Or.inl rfl | exact Or.inr rfl) (pe_lst pa_nil))
      (pss_cons (ps_for PassesOwn.never rfl (pi_range1 (by rfl) m_range (pa_cons (pe_callB call_uLen (by rfl) m_len (by decide +kernel) (pa_cons (pv 0) pa_nil)) pa_nil)) (pg_name (i := 5) sc.nd rfl (by first | exact Or.inl rfl | exact Or.inr rfl)) (pss_cons (by first | exact (ps_setLc (i := 6) (own := [("_law_j", 7)]) (g := (gName 7)) (tt := (tTest (tOp (uEq K) (tOp (uIx K) (tVar 2) (tVar 7)) (tVar 5)))) rfl sc.nd rfl rfl (sw_true rfl rfl rfl (by decide +kernel)) (pi_range1 (by rfl) m_range (pa_cons (pe_callB call_uLen (by rfl) m_len (by decide +kernel) (pa_cons (pv 1) pa_nil)) pa_nil)) (blkOk_by (N := N_law_round) (sc := defScope s_law_round) (by decide +kernel)) (fun _ _ _ _ _ => (pg_name (i := 7) sc.nd rfl (by first | exact Or.inl rfl | exact Or.inr rfl))) (fun _ _ _ _ _ => (pts_one (pt_cmpR (op_uEq hr.units) (pe_ix ix_uIx (pv 2) (pv 7) (fun _ _ => rfl)) (pv 5) (nomark _)))) (fun _ _ _ _ _ => (pe_ix ix_uIx (pv 1) (pv 7) (fun _ _ => rfl)))) | exact (ps_set (i := 6) sc.nd rfl (Or.inr rfl) (pe_lc (own := [("_law_j", 7)]) (g := (gName 7)) (tt := (tTest (tOp (uEq K) (tOp (uIx K) (tVar 2) (tVar 7)) (tVar 5)))) rfl sc.nd (pi_range1 (by rfl) m_range (pa_cons (pe_callB call_uLen (by rfl) m_len (by decide +kernel) (pa_cons (pv 1) pa_nil)) pa_nil)) (blkOk_by (N := N_law_round) (sc := defScope s_law_round) (by decide +kernel)) (fun _ _ _ _ _ => (pg_name (i := 7) sc.nd rfl (by first | exact Or.inl rfl | exact Or.inr rfl))) (fun _ _ _ _ _ => (pts_one (pt_cmpR (op_uEq hr.units) (pe_ix ix_uIx (pv 2) (pv 7) (fun _ _ => rfl)) (pv 5) (nomark _)))) (fun _ _ _ _ _ => (pe_ix ix_uIx (pv 1) (pv 7) (fun _ _ => rfl))))))
      (pss_one (ps_if (pt_cmpR (op_uEq hr.units) (pe_callB call_uLen (by rfl) m_len (by decide +kernel) (pa_cons (pv 6) pa_nil)) pe_int (nomark _)) (pss_one (ps_expr (pe_bm PySem.F.plainAttrs_list PySem.F.slot_list_append PySem.F.type_list_append mt_append (pv 4) (pa_cons (pe_ix ix_uIx (pv 0) (pv 5) (fun _ _ => rfl)) pa_nil)))) (pss_one (ps_expr (pe_bm PySem.F.plainAttrs_list PySem.F.slot_list_append PySem.F.type_list_append mt_append (pv 4) (pa_cons (pe_lc (own := [("_law_j", 7)]) (g := (gName 7)) (tt := tYes) rfl sc.nd (pi_range1 (by rfl) m_range (pa_cons (pe_callB call_uLen (by rfl) m_len (by decide +kernel) (pa_cons (pe_ix ix_uIx (pv 6) pe_int (fun _ _ => rfl)) pa_nil)) pa_nil)) (blkOk_by (N := N_law_round) (sc := defScope s_law_round) (by decide +kernel)) (fun _ _ _ _ _ => (pg_name (i := 7) sc.nd rfl (by first | exact Or.inl rfl | exact Or.inr rfl))) (fun _ _ _ _ _ => pts_nil) (fun _ _ _ _ _ => (pe_op op_uDiv (pe_callB (cr_sum rfl) (by rfl) m_sum (by decide +kernel) (pa_cons (pe_lc (own := [("_law_vector_here", 3)]) (g := (gName 3)) (tt := tYes) rfl sc.nd (pi_sq (pv 6)) (blkOk_by (by with_unfolding_all rfl)) (fun _ _ _ _ _ => (pg_name (i := 3) sc.nd rfl (by first | exact Or.inl rfl | exact Or.inr rfl))) (fun _ _ _ _ _ => pts_nil) (fun _ _ _ _ _ => (pe_ix ix_uIx (pv 3) (pv 7) (fun _ _ => rfl)))) pa_nil)) (pe_callB call_uLen (by rfl) m_len (by decide +kernel) (pa_cons (pv 6) pa_nil))))) pa_nil))))))))
      (pss_one (ps_ret (pv 4))))))
abbrev s_distance : Stmt := (topS 1)
theorem sc_distance : FnScope N_distance ["a", "b"] (defScope s_distance) := ⟨rfl, rfl, rfl, by decide +kernel, rfl, by decide +kernel, by decide +kernel⟩
theorem ok_distance (m_zip : mg "zip" = none) {f : Addr} {fd : FuncData} (F : Fun K "distance" "distance" s_distance f fd) : FnOk P w K mg base CX0 1 f fd ["a", "b"] (sp_distance K) := by
  have sc := sc_distance
  refine F.ok sc_distance (fun vs H Q E h => ((w_distance) vs H Q E h).1) (fun cdv A outer s H vs Q E hr h => ⟨T_distance K, ?_, ((w_distance) vs H Q E h).2⟩)
  exact (pss_cons (ps_set (i := 2) sc.nd rfl (by first | exact Or.inl rfl | exact Or.inr rfl) pe_int)
      (pss_cons (ps_for PassesOwn.never rfl (RZ.pi_zipA (by rfl) m_zip (pa_cons (pv 0) (pa_cons (pv 1) pa_nil))) (pg_tup rfl (pgs_cons (pg_name (i := 3) sc.nd rfl (by first | exact Or.inl rfl | exact Or.inr rfl)) (pgs_cons (pg_name (i := 4) sc.nd rfl (by first | exact Or.inl rfl | exact Or.inr rfl)) pgs_nil))) (pss_one (ps_set (i := 2) sc.nd rfl (by first | exact Or.inl rfl | exact Or.inr rfl) (pe_op op_uAdd (pv 2) (pe_op op_uMul (pe_op op_uSub (pv 3) (pv 4)) (pe_op op_uSub (pv 3) (pv 4)))))))
      (pss_one (ps_ret (pv 2)))))
abbrev s_nearest : Stmt := (topS 3)
theorem sc_nearest : FnScope N_nearest ["centres", "vector"] (defScope s_nearest) := ⟨rfl, rfl, rfl, by decide +kernel, rfl, by decide +kernel, by decide +kernel⟩
theorem ok_nearest (D_distance : Dfn P w K mg base 1 "distance" ["a", "b"] (sp_distance K)) (m_len : mg "len" = none) (m_range : mg "range" = none) {f : Addr} {fd : FuncData} (F : Fun K "nearest" "nearest" s_nearest f fd) : FnOk P w K mg base CX0 2 f fd ["centres", "vector"] (sp_nearest K) := by
  have sc := sc_nearest
  refine F.ok sc_nearest (fun vs H Q E h => ((w_nearest) vs H Q E h).1) (fun cdv A outer s H vs Q E hr h => ⟨T_nearest K, ?_, ((w_nearest) vs H Q E h).2⟩)
  exact (pss_cons (ps_set (i := 2) sc.nd rfl (by first | exact Or.inl rfl | exact Or.inr rfl) pe_int)
      (pss_cons (ps_for PassesOwn.never rfl (pi_range2 (by rfl) m_range (pa_cons pe_int (pa_cons (pe_callB call_uLen (by rfl) m_len (by decide +kernel) (pa_cons (pv 0) pa_nil)) pa_nil))) (pg_name (i := 3) sc.nd rfl (by first | exact Or.inl rfl | exact Or.inr rfl)) (pss_one (ps_if (pt_cmpR (op_uLt hr.units) (z_call D_distance (hr.mono (by decide)) (by rfl) (pa_cons (pe_ix ix_uIx (pv 0) (pv 3) (fun _ _ => rfl)) (pa_cons (pv 1) pa_nil))) (z_call D_distance (hr.mono (by decide)) (by rfl) (pa_cons (pe_ix ix_uIx (pv 0) (pv 2) (fun _ _ => rfl)) (pa_cons (pv 1) pa_nil))) (nomark _)) (pss_one (ps_set (i := 2) sc.nd rfl (by first | exact Or.inl rfl | exact Or.inr rfl) (pv 3))) pss_nil)))
      (pss_one (ps_ret (pv 2)))))
abbrev s_mean : Stmt := (topS 4)
theorem sc_mean : FnScope N_mean ["vectors"] (defScope s_mean) := ⟨rfl, rfl, rfl, by decide +kernel, rfl, by decide +kernel, by decide +kernel⟩
theorem ok_mean (m_len : mg "len" = none) (m_range : mg "range" = none) (m_sum : mg "sum" = none) (m_tuple : mg "tuple" = none) {f : Addr} {fd : FuncData} (F : Fun K "mean" "mean" s_mean f fd) : FnOk P w K mg base CX0 1 f fd ["vectors"] (sp_mean K) := by
  have sc := sc_mean
  refine F.ok sc_mean (fun vs H Q E h => ((w_mean) vs H Q E h).1) (fun cdv A outer s H vs Q E hr h => ⟨T_mean K, ?_, ((w_mean) vs H Q E h).2⟩)
  exact (pss_one (ps_ret (pe_callTy call_uTuple (by rfl) m_tuple (by decide +kernel) (pa_cons (pe_lc (own := [("k", 2)]) (g := (gName 2)) (tt := tYes) rfl sc.nd (pi_range1 (by rfl) m_range (pa_cons (pe_callB call_uLen (by rfl) m_len (by decide +kernel) (pa_cons (pe_ix ix_uIx (pv 0) pe_int (fun _ _ => rfl)) pa_nil)) pa_nil)) (blkOk_by (N := N_mean) (sc := defScope s_mean) (by decide +kernel)) (fun _ _ _ _ _ => (pg_name (i := 2) sc.nd rfl (by first | exact Or.inl rfl | exact Or.inr rfl))) (fun _ _ _ _ _ => pts_nil) (fun _ _ _ _ _ => (pe_op op_uDiv (pe_callB (cr_sum rfl) (by rfl) m_sum (by decide +kernel) (pa_cons (pe_lc (own := [("vector", 1)]) (g := (gName 1)) (tt := tYes) rfl sc.nd (pi_sq (pv 0)) (blkOk_by (by with_unfolding_all rfl)) (fun _ _ _ _ _ => (pg_name (i := 1) sc.nd rfl (by first | exact Or.inl rfl | exact Or.inr rfl))) (fun _ _ _ _ _ => pts_nil) (fun _ _ _ _ _ => (pe_ix ix_uIx (pv 1) (pv 2) (fun _ _ => rfl)))) pa_nil)) (pe_callB call_uLen (by rfl) m_len (by decide +kernel) (pa_cons (pv 0) pa_nil))))) pa_nil))))
abbrev s_move : Stmt := (topS 5)
theorem sc_move : FnScope N_move ["centres", "vectors"] (defScope s_move) := ⟨rfl, rfl, rfl, by decide +kernel, rfl, by decide +kernel, by decide +kernel⟩
theorem ok_move (D_nearest : Dfn P w K mg base 2 "nearest" ["centres", "vector"] (sp_nearest K)) (D_mean : Dfn P w K mg base 1 "mean" ["vectors"] (sp_mean K)) (m_enumerate : mg "enumerate" = none) (m_zip : mg "zip" = none) (m_len : mg "len" = none) {f : Addr} {fd : FuncData} (F : Fun K "move" "move" s_move f fd) : FnOk P w K mg base CX0 3 f fd ["centres", "vectors"] (sp_move K) := by
  have sc := sc_move
  refine F.ok sc_move (fun vs H Q E h => ((w_move) vs H Q E h).1) (fun cdv A outer s H vs Q E hr h => ⟨T_move K, ?_, ((w_move) vs H Q E h).2⟩)
  exact (pss_cons (by first | exact (ps_setLc (i := 2) (own := [("vector", 3)]) (g := (gName 3)) (tt := tYes) rfl sc.nd rfl rfl (sw_true rfl rfl rfl (by decide +kernel)) (pi_sq (pv 1)) (blkOk_by (N := N_move) (sc := defScope s_move) (by decide +kernel)) (fun _ _ _ _ _ => (pg_name (i := 3) sc.nd rfl (by first | exact Or.inl rfl | exact Or.inr rfl))) (fun _ _ _ _ _ => pts_nil) (fun _ _ _ _ _ => (z_call D_nearest (hr.mono (by decide)) (by rfl) (pa_cons (pv 0) (pa_cons (pv 3) pa_nil))))) | exact (ps_set (i := 2) sc.nd rfl (Or.inr rfl) (pe_lc (own := [("vector", 3)]) (g := (gName 3)) (tt := tYes) rfl sc.nd (pi_sq (pv 1)) (blkOk_by (N := N_move) (sc := defScope s_move) (by decide +kernel)) (fun _ _ _ _ _ => (pg_name (i := 3) sc.nd rfl (by first | exact Or.inl rfl | exact Or.inr rfl))) (fun _ _ _ _ _ => pts_nil) (fun _ _ _ _ _ => (z_call D_nearest (hr.mono (by decide)) (by rfl) (pa_cons (pv 0) (pa_cons (pv 3) pa_nil)))))))
      (pss_cons (ps_set (i := 4) sc.nd rfl (by first | exact Or.inl rfl | exact Or.inr rfl) (pe_lst pa_nil))
      (pss_cons (ps_for PassesOwn.never rfl (pi_enum (by rfl) m_enumerate (pa_cons (pv 0) pa_nil)) (pg_tup rfl (pgs_cons (pg_name (i := 5) sc.nd rfl (by first | exact Or.inl rfl | exact Or.inr rfl)) (pgs_cons (pg_name (i := 6) sc.nd rfl (by first | exact Or.inl rfl | exact Or.inr rfl)) pgs_nil))) (pss_cons (by first | exact (ps_setLc (i := 7) (own := [("vector", 3), ("at", 8)]) (g := (gTup K 2 (gCons (gName 3) (gCons (gName 8) gNil)))) (tt := (tTest (tOp (uEq K) (tVar 8) (tVar 5)))) rfl sc.nd rfl rfl (sw_true rfl rfl rfl (by decide +kernel)) (RZ.pi_zipA (by rfl) m_zip (pa_cons (pv 1) (pa_cons (pv 2) pa_nil))) (blkOk_by (N := N_move) (sc := defScope s_move) (by decide +kernel)) (fun _ _ _ _ _ => (pg_tup rfl (pgs_cons (pg_name (i := 3) sc.nd rfl (by first | exact Or.inl rfl | exact Or.inr rfl)) (pgs_cons (pg_name (i := 8) sc.nd rfl (by first | exact Or.inl rfl | exact Or.inr rfl)) pgs_nil)))) (fun _ _ _ _ _ => (pts_one (pt_cmpR (op_uEq hr.units) (pv 8) (pv 5) (nomark _)))) (fun _ _ _ _ _ => (pv 3))) | exact (ps_set (i := 7) sc.nd rfl (Or.inr rfl) (pe_lc (own := [("vector", 3), ("at", 8)]) (g := (gTup K 2 (gCons (gName 3) (gCons (gName 8) gNil)))) (tt := (tTest (tOp (uEq K) (tVar 8) (tVar 5)))) rfl sc.nd (RZ.pi_zipA (by rfl) m_zip (pa_cons (pv 1) (pa_cons (pv 2) pa_nil))) (blkOk_by (N := N_move) (sc := defScope s_move) (by decide +kernel)) (fun _ _ _ _ _ => (pg_tup rfl (pgs_cons (pg_name (i := 3) sc.nd rfl (by first | exact Or.inl rfl | exact Or.inr rfl)) (pgs_cons (pg_name (i := 8) sc.nd rfl (by first | exact Or.inl rfl | exact Or.inr rfl)) pgs_nil)))) (fun _ _ _ _ _ => (pts_one (pt_cmpR (op_uEq hr.units) (pv 8) (pv 5) (nomark _)))) (fun _ _ _ _ _ => (pv 3)))))
      (pss_one (ps_expr (pe_bm PySem.F.plainAttrs_list PySem.F.slot_list_append PySem.F.type_list_append mt_append (pv 4) (pa_cons (pe_ifExp (pt_cmpR op_uGt (pe_callB call_uLen (by rfl) m_len (by decide +kernel) (pa_cons (pv 7) pa_nil)) pe_int (nomark _)) (z_call D_mean (hr.mono (by decide)) (by rfl) (pa_cons (pv 7) pa_nil)) (pv 6)) pa_nil))))))
      (pss_one (ps_ret (pv 4))))))
abbrev s_train : Stmt := (topS 6)
theorem sc_train : FnScope N_train ["vectors", "number", "rounds"] (defScope s_train) := ⟨rfl, rfl, rfl, by decide +kernel, rfl, by decide +kernel, by decide +kernel⟩
theorem ok_train (D_move : Dfn P w K mg base 3 "move" ["centres", "vectors"] (sp_move K)) (m_len : mg "len" = none) (m_min : mg "min" = none) (m_range : mg "range" = none) (m_tuple : mg "tuple" = none) {f : Addr} {fd : FuncData} (F : Fun K "train" "train" s_train f fd) : FnOk P w K mg base CX0 4 f fd ["vectors", "number", "rounds"] (sp_train K) := by
  have sc := sc_train
  refine F.ok sc_train (fun vs H Q E h => ((w_train) vs H Q E h).1) (fun cdv A outer s H vs Q E hr h => ⟨T_train K, ?_, ((w_train) vs H Q E h).2⟩)
  exact (pss_cons (ps_set (i := 3) sc.nd rfl (by first | exact Or.inl rfl | exact Or.inr rfl) (pe_callB (call_uMin rfl) (by rfl) m_min (by decide +kernel) (pa_cons (pv 1) (pa_cons (pe_callB call_uLen (by rfl) m_len (by decide +kernel) (pa_cons (pv 0) pa_nil)) pa_nil))))
      (pss_cons (by first | exact (ps_setLc (i := 4) (own := [("i", 5)]) (g := (gName 5)) (tt := tYes) rfl sc.nd rfl rfl (sw_true rfl rfl rfl (by decide +kernel)) (pi_range1 (by rfl) m_range (pa_cons (pv 3) pa_nil)) (blkOk_by (N := N_train) (sc := defScope s_train) (by decide +kernel)) (fun _ _ _ _ _ => (pg_name (i := 5) sc.nd rfl (by first | exact Or.inl rfl | exact Or.inr rfl))) (fun _ _ _ _ _ => pts_nil) (fun _ _ _ _ _ => (pe_callTy call_uTuple (by rfl) m_tuple (by decide +kernel) (pa_cons (pe_ix ix_uIx (pv 0) (pe_op op_uDiv (pe_op op_uMul (pv 5) (pe_callB call_uLen (by rfl) m_len (by decide +kernel) (pa_cons (pv 0) pa_nil))) (pv 3)) (fun _ _ => rfl)) pa_nil)))) | exact (ps_set (i := 4) sc.nd rfl (Or.inr rfl) (pe_lc (own := [("i", 5)]) (g := (gName 5)) (tt := tYes) rfl sc.nd (pi_range1 (by rfl) m_range (pa_cons (pv 3) pa_nil)) (blkOk_by (N := N_train) (sc := defScope s_train) (by decide +kernel)) (fun _ _ _ _ _ => (pg_name (i := 5) sc.nd rfl (by first | exact Or.inl rfl | exact Or.inr rfl))) (fun _ _ _ _ _ => pts_nil) (fun _ _ _ _ _ => (pe_callTy call_uTuple (by rfl) m_tuple (by decide +kernel) (pa_cons (pe_ix ix_uIx (pv 0) (pe_op op_uDiv (pe_op op_uMul (pv 5) (pe_callB call_uLen (by rfl) m_len (by decide +kernel) (pa_cons (pv 0) pa_nil))) (pv 3)) (fun _ _ => rfl)) pa_nil))))))
      (pss_cut (ps_if (pt_cmpR op_uGt (pv 3) pe_int (nomark _)) (pss_one (ps_for PassesOwn.never rfl (pi_range1 (by rfl) m_range (pa_cons (pv 2) pa_nil)) (pg_name (i := 6) sc.nd rfl (by first | exact Or.inl rfl | exact Or.inr rfl)) (pss_one (ps_set (i := 4) sc.nd rfl (by first | exact Or.inl rfl | exact Or.inr rfl) (z_call D_move (hr.mono (by decide)) (by rfl) (pa_cons (pv 4) (pa_cons (pv 0) pa_nil))))))) pss_nil)
      (pss_one (ps_ret (pv 4))))))
abbrev s_law : Stmt := (topS 13)
theorem sc_law : FnScope N_law ["_law_script"] (defScope s_law) := ⟨rfl, rfl, rfl, by decide +kernel, rfl, by decide +kernel, by decide +kernel⟩
theorem ok_law (D_law_next : Dfn P w K mg base 2 "_law_next" ["_law_state", "_law_many"] (sp_law_next K)) (D_law_vector : Dfn P w K mg base 3 "_law_vector" ["_law_state", "_law_size"] (sp_law_vector K)) (D_law_round : Dfn P w K mg base 2 "_law_round" ["_law_centres", "_law_vectors"] (sp_law_round K)) (D_train : Dfn P w K mg base 4 "train" ["vectors", "number", "rounds"] (sp_train K)) (D_nearest : Dfn P w K mg base 2 "nearest" ["centres", "vector"] (sp_nearest K)) (D_law_nearest : Dfn P w K mg base 1 "_law_nearest" ["_law_centres", "_law_vector_here"] (sp_law_nearest K)) (m_list : mg "list" = none) (m_range : mg "range" = none) (m_len : mg "len" = none) (m_min : mg "min" = none) (m_tuple : mg "tuple" = none) (m_isinstance : mg "isinstance" = none) (m_int : mg "int" = none) (m_bool : mg "bool" = none) {f : Addr} {fd : FuncData} (F : Fun K "law" "law" s_law f fd) : FnOk P w K mg base CX0 5 f fd ["_law_script"] (sp_law K) := by
  have sc := sc_law
  refine F.ok sc_law (fun vs H Q E h => ((w_law) vs H Q E h).1) (fun cdv A outer s H vs Q E hr h => ⟨T_law K, ?_, ((w_law) vs H Q E h).2⟩)
  exact (pss_cons (ps_set (i := 1) sc.nd rfl (by first | exact Or.inl rfl | exact Or.inr rfl) (pe_lst (pa_cons (pe_callTy call_uList (by rfl) m_list (by decide +kernel) (pa_cons (pv 0) pa_nil)) (pa_cons pe_int (pa_cons pe_int pa_nil)))))
      (pss_cons (ps_set (i := 2) sc.nd rfl (by first | exact Or.inl rfl | exact Or.inr rfl) (pe_op op_uAdd pe_int (z_call D_law_next (hr.mono (by decide)) (by rfl) (pa_cons (pv 1) (pa_cons pe_int pa_nil)))))
      (pss_cons (by first | exact (ps_setLc (i := 3) (own := [("_law_k", 4)]) (g := (gName 4)) (tt := tYes) rfl sc.nd rfl rfl (sw_true rfl rfl rfl (by decide +kernel)) (pi_range1 (by rfl) m_range (pa_cons (z_call D_law_next (hr.mono (by decide)) (by rfl) (pa_cons (pv 1) (pa_cons pe_int pa_nil))) pa_nil)) (blkOk_by (N := N_law) (sc := defScope s_law) (by decide +kernel)) (fun _ _ _ _ _ => (pg_name (i := 4) sc.nd rfl (by first | exact Or.inl rfl | exact Or.inr rfl))) (fun _ _ _ _ _ => pts_nil) (fun _ _ _ _ _ => (z_call D_law_vector (hr.mono (by decide)) (by rfl) (pa_cons (pv 1) (pa_cons (pv 2) pa_nil))))) | exact (ps_set (i := 3) sc.nd rfl (Or.inr rfl) (pe_lc (own := [("_law_k", 4)]) (g := (gName 4)) (tt := tYes) rfl sc.nd (pi_range1 (by rfl) m_range (pa_cons (z_call D_law_next (hr.mono (by decide)) (by rfl) (pa_cons (pv 1) (pa_cons pe_int pa_nil))) pa_nil)) (blkOk_by (N := N_law) (sc := defScope s_law) (by decide +kernel)) (fun _ _ _ _ _ => (pg_name (i := 4) sc.nd rfl (by first | exact Or.inl rfl | exact Or.inr rfl))) (fun _ _ _ _ _ => pts_nil) (fun _ _ _ _ _ => (z_call D_law_vector (hr.mono (by decide)) (by rfl) (pa_cons (pv 1) (pa_cons (pv 2) pa_nil)))))))
      (pss_cons (ps_set (i := 5) sc.nd rfl (by first | exact Or.inl rfl | exact Or.inr rfl) (pe_op op_uAdd pe_int (z_call D_law_next (hr.mono (by decide)) (by rfl) (pa_cons (pv 1) (pa_cons pe_int pa_nil)))))
      (pss_cons (ps_set (i := 6) sc.nd rfl (by first | exact Or.inl rfl | exact Or.inr rfl) (z_call D_law_next (hr.mono (by decide)) (by rfl) (pa_cons (pv 1) (pa_cons pe_int pa_nil))))
      (pss_cons (ps_set (i := 7) sc.nd rfl (by first | exact Or.inl rfl | exact Or.inr rfl) (pe_callB (call_uMin rfl) (by rfl) m_min (by decide +kernel) (pa_cons (pv 5) (pa_cons (pe_callB call_uLen (by rfl) m_len (by decide +kernel) (pa_cons (pv 3) pa_nil)) pa_nil))))
      (pss_cons (by first | exact (ps_setLc (i := 8) (own := [("_law_k", 4)]) (g := (gName 4)) (tt := tYes) rfl sc.nd rfl rfl (sw_true rfl rfl rfl (by decide +kernel)) (pi_range1 (by rfl) m_range (pa_cons (pv 7) pa_nil)) (blkOk_by (N := N_law) (sc := defScope s_law) (by decide +kernel)) (fun _ _ _ _ _ => (pg_name (i := 4) sc.nd rfl (by first | exact Or.inl rfl | exact Or.inr rfl))) (fun _ _ _ _ _ => pts_nil) (fun _ _ _ _ _ => (pe_ix ix_uIx (pv 3) (pe_op op_uDiv (pe_op op_uMul (pv 4) (pe_callB call_uLen (by rfl) m_len (by decide +kernel) (pa_cons (pv 3) pa_nil))) (pv 7)) (fun _ _ => rfl)))) | exact (ps_set (i := 8) sc.nd rfl (Or.inr rfl) (pe_lc (own := [("_law_k", 4)]) (g := (gName 4)) (tt := tYes) rfl sc.nd (pi_range1 (by rfl) m_range (pa_cons (pv 7) pa_nil)) (blkOk_by (N := N_law) (sc := defScope s_law) (by decide +kernel)) (fun _ _ _ _ _ => (pg_name (i := 4) sc.nd rfl (by first | exact Or.inl rfl | exact Or.inr rfl))) (fun _ _ _ _ _ => pts_nil) (fun _ _ _ _ _ => (pe_ix ix_uIx (pv 3) (pe_op op_uDiv (pe_op op_uMul (pv 4) (pe_callB call_uLen (by rfl) m_len (by decide +kernel) (pa_cons (pv 3) pa_nil))) (pv 7)) (fun _ _ => rfl))))))
      (pss_cons (ps_for PassesOwn.never rfl (pi_range1 (by rfl) m_range (pa_cons (pv 6) pa_nil)) (pg_name (i := 9) sc.nd rfl (by first | exact Or.inl rfl | exact Or.inr rfl)) (pss_one (ps_set (i := 8) sc.nd rfl (by first | exact Or.inl rfl | exact Or.inr rfl) (z_call D_law_round (hr.mono (by decide)) (by rfl) (pa_cons (pv 8) (pa_cons (pv 3) pa_nil))))))
      (pss_cons (by first | exact (ps_setLc (i := 10) (own := [("_law_vector_here", 11)]) (g := (gName 11)) (tt := tYes) rfl sc.nd rfl rfl (sw_true rfl rfl rfl (by decide +kernel)) (pi_sq (pv 3)) (blkOk_by (N := N_law) (sc := defScope s_law) (by decide +kernel)) (fun _ _ _ _ _ => (pg_name (i := 11) sc.nd rfl (by first | exact Or.inl rfl | exact Or.inr rfl))) (fun _ _ _ _ _ => pts_nil) (fun _ _ _ _ _ => (pe_callTy call_uTuple (by rfl) m_tuple (by decide +kernel) (pa_cons (pv 11) pa_nil)))) | exact (ps_set (i := 10) sc.nd rfl (Or.inr rfl) (pe_lc (own := [("_law_vector_here", 11)]) (g := (gName 11)) (tt := tYes) rfl sc.nd (pi_sq (pv 3)) (blkOk_by (N := N_law) (sc := defScope s_law) (by decide +kernel)) (fun _ _ _ _ _ => (pg_name (i := 11) sc.nd rfl (by first | exact Or.inl rfl | exact Or.inr rfl))) (fun _ _ _ _ _ => pts_nil) (fun _ _ _ _ _ => (pe_callTy call_uTuple (by rfl) m_tuple (by decide +kernel) (pa_cons (pv 11) pa_nil))))))
      (pss_cons (ps_set (i := 12) sc.nd rfl (by first | exact Or.inl rfl | exact Or.inr rfl) (z_call D_train (hr.mono (by decide)) (by rfl) (pa_cons (pv 10) (pa_cons (pv 5) (pa_cons (pv 6) pa_nil)))))
      (pss_cons (ps_if (PW.pt (pw_or (pt_not (pt_u (pe_callB call_uIsi (by rfl) m_isinstance (by decide +kernel) (pa_cons (pv 12) (pa_cons (pe_bltn (by rfl) m_list (by decide +kernel) rfl) pa_nil))))) (pw_or1 (pt_cmpR (op_uNe hr.units) (pv 12) (pe_lc (own := [("_law_centre", 13)]) (g := (gName 13)) (tt := tYes) rfl sc.nd (pi_sq (pv 8)) (blkOk_by (N := N_law) (sc := defScope s_law) (by decide +kernel)) (fun _ _ _ _ _ => (pg_name (i := 13) sc.nd rfl (by first | exact Or.inl rfl | exact Or.inr rfl))) (fun _ _ _ _ _ => pts_nil) (fun _ _ _ _ _ => (pe_callTy call_uTuple (by rfl) m_tuple (by decide +kernel) (pa_cons (pv 13) pa_nil)))) (nomark _))))) (pss_one (ps_ret pe_bl)) pss_nil)
      (pss_cons (ps_if (pt_cmpR (op_uNe hr.units) (pv 10) (pe_lc (own := [("_law_vector_here", 11)]) (g := (gName 11)) (tt := tYes) rfl sc.nd (pi_sq (pv 3)) (blkOk_by (N := N_law) (sc := defScope s_law) (by decide +kernel)) (fun _ _ _ _ _ => (pg_name (i := 11) sc.nd rfl (by first | exact Or.inl rfl | exact Or.inr rfl))) (fun _ _ _ _ _ => pts_nil) (fun _ _ _ _ _ => (pe_callTy call_uTuple (by rfl) m_tuple (by decide +kernel) (pa_cons (pv 11) pa_nil)))) (nomark _)) (pss_one (ps_ret pe_bl)) pss_nil)
      (pss_cons (by first | exact (ps_setLc (i := 14) (own := [("_law_k", 4)]) (g := (gName 4)) (tt := tYes) rfl sc.nd rfl rfl (sw_true rfl rfl rfl (by decide +kernel)) (pi_range1 (by rfl) m_range (pa_cons (pe_op op_uAdd pe_int (z_call D_law_next (hr.mono (by decide)) (by rfl) (pa_cons (pv 1) (pa_cons pe_int pa_nil)))) pa_nil)) (blkOk_by (N := N_law) (sc := defScope s_law) (by decide +kernel)) (fun _ _ _ _ _ => (pg_name (i := 4) sc.nd rfl (by first | exact Or.inl rfl | exact Or.inr rfl))) (fun _ _ _ _ _ => pts_nil) (fun _ _ _ _ _ => (z_call D_law_vector (hr.mono (by decide)) (by rfl) (pa_cons (pv 1) (pa_cons (pv 2) pa_nil))))) | exact (ps_set (i := 14) sc.nd rfl (Or.inr rfl) (pe_lc (own := [("_law_k", 4)]) (g := (gName 4)) (tt := tYes) rfl sc.nd (pi_range1 (by rfl) m_range (pa_cons (pe_op op_uAdd pe_int (z_call D_law_next (hr.mono (by decide)) (by rfl) (pa_cons (pv 1) (pa_cons pe_int pa_nil)))) pa_nil)) (blkOk_by (N := N_law) (sc := defScope s_law) (by decide +kernel)) (fun _ _ _ _ _ => (pg_name (i := 4) sc.nd rfl (by first | exact Or.inl rfl | exact Or.inr rfl))) (fun _ _ _ _ _ => pts_nil) (fun _ _ _ _ _ => (z_call D_law_vector (hr.mono (by decide)) (by rfl) (pa_cons (pv 1) (pa_cons (pv 2) pa_nil)))))))
      (pss_cons (ps_set (i := 11) sc.nd rfl (by first | exact Or.inl rfl | exact Or.inr rfl) (z_call D_law_vector (hr.mono (by decide)) (by rfl) (pa_cons (pv 1) (pa_cons (pv 2) pa_nil))))
      (pss_cons (ps_set (i := 15) sc.nd rfl (by first | exact Or.inl rfl | exact Or.inr rfl) (z_call D_nearest (hr.mono (by decide)) (by rfl) (pa_cons (pe_lc (own := [("_law_centre", 13)]) (g := (gName 13)) (tt := tYes) rfl sc.nd (pi_sq (pv 14)) (blkOk_by (N := N_law) (sc := defScope s_law) (by decide +kernel)) (fun _ _ _ _ _ => (pg_name (i := 13) sc.nd rfl (by first | exact Or.inl rfl | exact Or.inr rfl))) (fun _ _ _ _ _ => pts_nil) (fun _ _ _ _ _ => (pe_callTy call_uTuple (by rfl) m_tuple (by decide +kernel) (pa_cons (pv 13) pa_nil)))) (pa_cons (pe_callTy call_uTuple (by rfl) m_tuple (by decide +kernel) (pa_cons (pv 11) pa_nil)) pa_nil))))
      (pss_one (ps_ret (pe_and (pe_callB call_uIsi (by rfl) m_isinstance (by decide +kernel) (pa_cons (pv 15) (pa_cons (pe_bltn (by rfl) m_int (by decide +kernel) rfl) pa_nil))) (pe_and (pe_not (pe_callB call_uIsi (by rfl) m_isinstance (by decide +kernel) (pa_cons (pv 15) (pa_cons (pe_bltn (by rfl) m_bool (by decide +kernel) rfl) pa_nil)))) (pe_one (pe_cmpR (op_uEq hr.units) (pv 15) (z_call D_law_nearest (hr.mono (by decide)) (by rfl) (pa_cons (pv 14) (pa_cons (pv 11) pa_nil))) (nomark _))))))))))))))))))))))
end
theorem all_mk {l : PySem.W.OpenLaw} {w : World} {K : PySem.W.Frag} {h : Heap} {mg : Str → Option Value} {fa f0 f1 f2 f3 f4 f5 f6 f7 f8 f9 f10   : Addr} (X : K.In h) (G : h.Ns mainGlobals mg) (hfa : mg "law" = some (.ref fa))
    {od0 an0 od1 an1 od2 an2 od3 an3 od4 an4 od5 an5 od6 an6 od7 an7 od8 an8 od9 an9 od10 an10 : Option Addr} {sl0 sl1 sl2 sl3 sl4 sl5 sl6 sl7 sl8 sl9 sl10 : Array (Option Value)} {oc0 kV0 dc0 pm0 cd0 ct0 oc1 kV1 dc1 pm1 cd1 ct1 oc2 kV2 dc2 pm2 cd2 ct2 oc3 kV3 dc3 pm3 cd3 ct3 oc4 kV4 dc4 pm4 cd4 ct4 oc5 kV5 dc5 pm5 cd5 ct5 oc6 kV6 dc6 pm6 cd6 ct6 oc7 kV7 dc7 pm7 cd7 ct7 oc8 kV8 dc8 pm8 cd8 ct8 oc9 kV9 dc9 pm9 cd9 ct9 oc10 kV10 dc10 pm10 cd10 ct10 : Value}
    (a0 : PySem.W.nsIn K mainGlobals "_law_row" = some (some (.ref f0)))
    (l0 : K.lookup f0 = some ⟨oc0, od0, .func (PySem.W.fnOf "_law_row" "_law_row" (defArgs s_law_row) (defBody s_law_row) (defScope s_law_row) .none kV0 dc0 pm0 an0 cd0 ct0), sl0⟩)
    (c0 : PySem.W.codeIn K cd0 "_law_row" = true)
    (k0 : PySem.W.keepIn K (.ref f0) = true)
    (a1 : PySem.W.nsIn K mainGlobals "_law_next" = some (some (.ref f1)))
    (l1 : K.lookup f1 = some ⟨oc1, od1, .func (PySem.W.fnOf "_law_next" "_law_next" (defArgs s_law_next) (defBody s_law_next) (defScope s_law_next) .none kV1 dc1 pm1 an1 cd1 ct1), sl1⟩)
    (c1 : PySem.W.codeIn K cd1 "_law_next" = true)
    (k1 : PySem.W.keepIn K (.ref f1) = true)
    (a2 : PySem.W.nsIn K mainGlobals "_law_vector" = some (some (.ref f2)))
    (l2 : K.lookup f2 = some ⟨oc2, od2, .func (PySem.W.fnOf "_law_vector" "_law_vector" (defArgs s_law_vector) (defBody s_law_vector) (defScope s_law_vector) .none kV2 dc2 pm2 an2 cd2 ct2), sl2⟩)
    (c2 : PySem.W.codeIn K cd2 "_law_vector" = true)
    (k2 : PySem.W.keepIn K (.ref f2) = true)
    (a3 : PySem.W.nsIn K mainGlobals "_law_nearest" = some (some (.ref f3)))
    (l3 : K.lookup f3 = some ⟨oc3, od3, .func (PySem.W.fnOf "_law_nearest" "_law_nearest" (defArgs s_law_nearest) (defBody s_law_nearest) (defScope s_law_nearest) .none kV3 dc3 pm3 an3 cd3 ct3), sl3⟩)
    (c3 : PySem.W.codeIn K cd3 "_law_nearest" = true)
    (k3 : PySem.W.keepIn K (.ref f3) = true)
    (a4 : PySem.W.nsIn K mainGlobals "_law_round" = some (some (.ref f4)))
    (l4 : K.lookup f4 = some ⟨oc4, od4, .func (PySem.W.fnOf "_law_round" "_law_round" (defArgs s_law_round) (defBody s_law_round) (defScope s_law_round) .none kV4 dc4 pm4 an4 cd4 ct4), sl4⟩)
    (c4 : PySem.W.codeIn K cd4 "_law_round" = true)
    (k4 : PySem.W.keepIn K (.ref f4) = true)
    (a5 : PySem.W.nsIn K mainGlobals "distance" = some (some (.ref f5)))
    (l5 : K.lookup f5 = some ⟨oc5, od5, .func (PySem.W.fnOf "distance" "distance" (defArgs s_distance) (defBody s_distance) (defScope s_distance) .none kV5 dc5 pm5 an5 cd5 ct5), sl5⟩)
    (c5 : PySem.W.codeIn K cd5 "distance" = true)
    (k5 : PySem.W.keepIn K (.ref f5) = true)
    (a6 : PySem.W.nsIn K mainGlobals "nearest" = some (some (.ref f6)))
    (l6 : K.lookup f6 = some ⟨oc6, od6, .func (PySem.W.fnOf "nearest" "nearest" (defArgs s_nearest) (defBody s_nearest) (defScope s_nearest) .none kV6 dc6 pm6 an6 cd6 ct6), sl6⟩)
    (c6 : PySem.W.codeIn K cd6 "nearest" = true)
    (k6 : PySem.W.keepIn K (.ref f6) = true)
    (a7 : PySem.W.nsIn K mainGlobals "mean" = some (some (.ref f7)))
    (l7 : K.lookup f7 = some ⟨oc7, od7, .func (PySem.W.fnOf "mean" "mean" (defArgs s_mean) (defBody s_mean) (defScope s_mean) .none kV7 dc7 pm7 an7 cd7 ct7), sl7⟩)
    (c7 : PySem.W.codeIn K cd7 "mean" = true)
    (k7 : PySem.W.keepIn K (.ref f7) = true)
    (a8 : PySem.W.nsIn K mainGlobals "move" = some (some (.ref f8)))
    (l8 : K.lookup f8 = some ⟨oc8, od8, .func (PySem.W.fnOf "move" "move" (defArgs s_move) (defBody s_move) (defScope s_move) .none kV8 dc8 pm8 an8 cd8 ct8), sl8⟩)
    (c8 : PySem.W.codeIn K cd8 "move" = true)
    (k8 : PySem.W.keepIn K (.ref f8) = true)
    (a9 : PySem.W.nsIn K mainGlobals "train" = some (some (.ref f9)))
    (l9 : K.lookup f9 = some ⟨oc9, od9, .func (PySem.W.fnOf "train" "train" (defArgs s_train) (defBody s_train) (defScope s_train) .none kV9 dc9 pm9 an9 cd9 ct9), sl9⟩)
    (c9 : PySem.W.codeIn K cd9 "train" = true)
    (k9 : PySem.W.keepIn K (.ref f9) = true)
    (a10 : PySem.W.nsIn K mainGlobals "law" = some (some (.ref f10)))
    (l10 : K.lookup f10 = some ⟨oc10, od10, .func (PySem.W.fnOf "law" "law" (defArgs s_law) (defBody s_law) (defScope s_law) .none kV10 dc10 pm10 an10 cd10 ct10), sl10⟩)
    (c10 : PySem.W.codeIn K cd10 "law" = true)
    (k10 : PySem.W.keepIn K (.ref f10) = true)
    (z0 : PySem.W.nsIn K mainGlobals "len" = some none)
    (z1 : PySem.W.nsIn K mainGlobals "int" = some none)
    (z2 : PySem.W.nsIn K mainGlobals "range" = some none)
    (z3 : PySem.W.nsIn K mainGlobals "sum" = some none)
    (z4 : PySem.W.nsIn K mainGlobals "zip" = some none)
    (z5 : PySem.W.nsIn K mainGlobals "tuple" = some none)
    (z6 : PySem.W.nsIn K mainGlobals "enumerate" = some none)
    (z7 : PySem.W.nsIn K mainGlobals "min" = some none)
    (z8 : PySem.W.nsIn K mainGlobals "list" = some none)
    (z9 : PySem.W.nsIn K mainGlobals "isinstance" = some none)
    (z10 : PySem.W.nsIn K mainGlobals "bool" = some none)
    : ∃ fd : FuncData, (∀ (s : Shared) (v : Value), BindsTo s fd ⟨[v], []⟩ [("_law_script", v)]) ∧ ∀ base : Heap, K.In base → base.Ns mainGlobals mg → FnOk l.prog w K mg base CX0 5 fa fd ["_law_script"] (sp_law K) := by
  have e := hfa.symm.trans (PySem.W.mg_of X G a10)
  cases e
  have m_len := PySem.W.mg_none_of X G z0
  have m_int := PySem.W.mg_none_of X G z1
  have m_range := PySem.W.mg_none_of X G z2
  have m_sum := PySem.W.mg_none_of X G z3
  have m_zip := PySem.W.mg_none_of X G z4
  have m_tuple := PySem.W.mg_none_of X G z5
  have m_enumerate := PySem.W.mg_none_of X G z6
  have m_min := PySem.W.mg_none_of X G z7
  have m_list := PySem.W.mg_none_of X G z8
  have m_isinstance := PySem.W.mg_none_of X G z9
  have m_bool := PySem.W.mg_none_of X G z10
  have F0 := fun_mk (st := s_law_row) l0 c0 k0
  have F1 := fun_mk (st := s_law_next) l1 c1 k1
  have F2 := fun_mk (st := s_law_vector) l2 c2 k2
  have F3 := fun_mk (st := s_law_nearest) l3 c3 k3
  have F4 := fun_mk (st := s_law_round) l4 c4 k4
  have F5 := fun_mk (st := s_distance) l5 c5 k5
  have F6 := fun_mk (st := s_nearest) l6 c6 k6
  have F7 := fun_mk (st := s_mean) l7 c7 k7
  have F8 := fun_mk (st := s_move) l8 c8 k8
  have F9 := fun_mk (st := s_train) l9 c9 k9
  have F10 := fun_mk (st := s_law) l10 c10 k10
  refine ⟨PySem.W.fnOf "law" "law" (defArgs s_law) (defBody s_law) (defScope s_law) .none kV10 dc10 pm10 an10 cd10 ct10, fun s v => .of_eq rfl, fun base _ _ => ?_⟩
  have D_law_row : Dfn l.prog w K mg base 1 "_law_row" ["_law_script", "_law_k"] (sp_law_row K) := ⟨_, _, PySem.W.mg_of X G a0, F0.kp, F0.binds (ps := ["_law_script", "_law_k"]) (fun _ _ _ _ _ _ us hl => match us, hl with | [_, _], _ => rfl), ok_law_row m_len m_int F0⟩
  have D_law_next : Dfn l.prog w K mg base 2 "_law_next" ["_law_state", "_law_many"] (sp_law_next K) := ⟨_, _, PySem.W.mg_of X G a1, F1.kp, F1.binds (ps := ["_law_state", "_law_many"]) (fun _ _ _ _ _ _ us hl => match us, hl with | [_, _], _ => rfl), ok_law_next D_law_row m_int F1⟩
  have D_law_vector : Dfn l.prog w K mg base 3 "_law_vector" ["_law_state", "_law_size"] (sp_law_vector K) := ⟨_, _, PySem.W.mg_of X G a2, F2.kp, F2.binds (ps := ["_law_state", "_law_size"]) (fun _ _ _ _ _ _ us hl => match us, hl with | [_, _], _ => rfl), ok_law_vector D_law_next m_range F2⟩
  have D_law_nearest : Dfn l.prog w K mg base 1 "_law_nearest" ["_law_centres", "_law_vector_here"] (sp_law_nearest K) := ⟨_, _, PySem.W.mg_of X G a3, F3.kp, F3.binds (ps := ["_law_centres", "_law_vector_here"]) (fun _ _ _ _ _ _ us hl => match us, hl with | [_, _], _ => rfl), ok_law_nearest m_len m_range F3⟩
  have D_law_round : Dfn l.prog w K mg base 2 "_law_round" ["_law_centres", "_law_vectors"] (sp_law_round K) := ⟨_, _, PySem.W.mg_of X G a4, F4.kp, F4.binds (ps := ["_law_centres", "_law_vectors"]) (fun _ _ _ _ _ _ us hl => match us, hl with | [_, _], _ => rfl), ok_law_round D_law_nearest m_len m_range m_sum F4⟩
  have D_distance : Dfn l.prog w K mg base 1 "distance" ["a", "b"] (sp_distance K) := ⟨_, _, PySem.W.mg_of X G a5, F5.kp, F5.binds (ps := ["a", "b"]) (fun _ _ _ _ _ _ us hl => match us, hl with | [_, _], _ => rfl), ok_distance m_zip F5⟩
  have D_nearest : Dfn l.prog w K mg base 2 "nearest" ["centres", "vector"] (sp_nearest K) := ⟨_, _, PySem.W.mg_of X G a6, F6.kp, F6.binds (ps := ["centres", "vector"]) (fun _ _ _ _ _ _ us hl => match us, hl with | [_, _], _ => rfl), ok_nearest D_distance m_len m_range F6⟩
  have D_mean : Dfn l.prog w K mg base 1 "mean" ["vectors"] (sp_mean K) := ⟨_, _, PySem.W.mg_of X G a7, F7.kp, F7.binds (ps := ["vectors"]) (fun _ _ _ _ _ _ us hl => match us, hl with | [_], _ => rfl), ok_mean m_len m_range m_sum m_tuple F7⟩
  have D_move : Dfn l.prog w K mg base 3 "move" ["centres", "vectors"] (sp_move K) := ⟨_, _, PySem.W.mg_of X G a8, F8.kp, F8.binds (ps := ["centres", "vectors"]) (fun _ _ _ _ _ _ us hl => match us, hl with | [_, _], _ => rfl), ok_move D_nearest D_mean m_enumerate m_zip m_len F8⟩
  have D_train : Dfn l.prog w K mg base 4 "train" ["vectors", "number", "rounds"] (sp_train K) := ⟨_, _, PySem.W.mg_of X G a9, F9.kp, F9.binds (ps := ["vectors", "number", "rounds"]) (fun _ _ _ _ _ _ us hl => match us, hl with | [_, _, _], _ => rfl), ok_train D_move m_len m_min m_range m_tuple F9⟩
  exact ok_law D_law_next D_law_vector D_law_round D_train D_nearest D_law_nearest m_list m_range m_len m_min m_tuple m_isinstance m_int m_bool F10
theorem walk {l : PySem.W.OpenLaw} {q : Program} {loose : List Str} {XP : (Str → Option Value) → Heap → Prop} {YP : World → Heap → Prop} {d : DefRec} {K : Params → PySem.W.Frag} (hn : l.most = some 63) (hdf : d.params.defaults = [])
    (hY : ∀ (w : World) (h : Heap), YP w h → (K w.params).In h)
    (F : ∀ (w : World) (mg : Str → Option Value) (fa : Addr) (h : Heap), (K w.params).In h → h.Ns mainGlobals mg → mg d.name = some (.ref fa) →
      ∃ fd : FuncData, (∀ (s : Shared) (u : Value), BindsTo s fd ⟨[u], []⟩ [("_law_script", u)]) ∧ ∀ base : Heap, (K w.params).In base → base.Ns mainGlobals mg → FnOk l.prog w (K w.params) mg base CX0 5 fa fd ["_law_script"] (sp_law (K w.params))) :
    PySem.W.WalkO q loose XP YP l.row.toRowW d [] (fun f vs => PySem.call f vs) :=
  L2.walk_of (n := 63) (k := 5) (x := "_law_script") (CX := fun _ => CX0) (sp := fun w => sp_law (K w.params)) hn (by decide) hdf ⟨rfl, by decide, by decide⟩ hY F (fun _ _ a ns hl _ hS => ⟨a, ns, rfl, hS, hl, fun _ => rfl⟩) fun _ _ _ _ _ z => z
end Z
open PySem PySem.W PyProof.Rows
set_option maxRecDepth 100000 in
set_option maxHeartbeats 0 in
theorem PySem.Challenge.cw_surenear_k28_training_holds : PySem.Challenge.rw_surenear_k28_training.Holds := by
  w_on; o_law; k_head; (case hw => w_witness2)
  k_fill
  refine Z.walk (l := PySem.Challenge.rw_surenear_k28_training) rfl rfl (fun w h Y => PySem.W.kIn_of Y) ?F
  case F =>
    intro w mg fa h KX G hmg
    refine' Z.all_mk KX G hmg ?a0 ?l0 ?c0 ?k0 ?a1 ?l1 ?c1 ?k1 ?a2 ?l2 ?c2 ?k2 ?a3 ?l3 ?c3 ?k3 ?a4 ?l4 ?c4 ?k4 ?a5 ?l5 ?c5 ?k5 ?a6 ?l6 ?c6 ?k6 ?a7 ?l7 ?c7 ?k7 ?a8 ?l8 ?c8 ?k8 ?a9 ?l9 ?c9 ?k9 ?a10 ?l10 ?c10 ?k10 ?z0 ?z1 ?z2 ?z3 ?z4 ?z5 ?z6 ?z7 ?z8 ?z9 ?z10
    (case a0 => k_is)
    (case l0 => k_is)
    (case c0 => k_is)
    (case k0 => k_is)
    (case a1 => k_is)
    (case l1 => k_is)
    (case c1 => k_is)
    (case k1 => k_is)
    (case a2 => k_is)
    (case l2 => k_is)
    (case c2 => k_is)
    (case k2 => k_is)
    (case a3 => k_is)
    (case l3 => k_is)
    (case c3 => k_is)
    (case k3 => k_is)
    (case a4 => k_is)
    (case l4 => k_is)
    (case c4 => k_is)
    (case k4 => k_is)
    (case a5 => k_is)
    (case l5 => k_is)
    (case c5 => k_is)
    (case k5 => k_is)
    (case a6 => k_is)
    (case l6 => k_is)
    (case c6 => k_is)
    (case k6 => k_is)
    (case a7 => k_is)
    (case l7 => k_is)
    (case c7 => k_is)
    (case k7 => k_is)
    (case a8 => k_is)
    (case l8 => k_is)
    (case c8 => k_is)
    (case k8 => k_is)
    (case a9 => k_is)
    (case l9 => k_is)
    (case c9 => k_is)
    (case k9 => k_is)
    (case a10 => k_is)
    (case l10 => k_is)
    (case c10 => k_is)
    (case k10 => k_is)
    (case z0 => k_is)
    (case z1 => k_is)
    (case z2 => k_is)
    (case z3 => k_is)
    (case z4 => k_is)
    (case z5 => k_is)
    (case z6 => k_is)
    (case z7 => k_is)
    (case z8 => k_is)
    (case z9 => k_is)
    (case z10 => k_is)

