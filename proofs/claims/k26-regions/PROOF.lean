import PyProof.Rows.All
import Wide.All
import OpenK.AllK
import Wide.FinOn
import HandS.ForExc
import HandS.ForMost
import HandS.Wide
import HandS.IsInst
import HandS.TupAny
import HandS.Flow
import HandS.Codes
import HandS.Zip
import HandS.TupLe
import HandS.Property
import HandS.OwnEq
import PySem.Challenge.RW_surenear_k26_regions_lie_in_one_another
set_option Elab.async false
set_option linter.all false
set_option maxRecDepth 100000
set_option maxHeartbeats 4000000
set_option exponentiation.threshold 100000
namespace Z
open PySem PySem.Spec L2
open C8 (tCut pss_cut)
/-! Z: one rule a construct, whatever the kinds of its values; and the steps of a reading. -/

/-! ### operators by the kinds of their values -/
def MulOk (i j : Int) : Prop := CMul i j ∨ CMulW i j
def uAdd (K : PySem.W.Frag) : R2 := fun x y H Q => match x, y with
  | .int i, .int j => Q (.int (i + j)) H
  | .str a, .str b => a.length + b.length ≤ sizeLine ∧ Q (.str (a ++ b)) H
  | .ref l, .ref b => rCat (.ref l) (.ref b) H Q ∨ rCatA K (.ref l) (.ref b) H Q
  | _, _ => False
def uSub : R2 := fun x y H Q => match x, y with
  | .int i, .int j => Q (.int (i - j)) H
  | _, _ => False
def uMul : R2 := fun x y H Q => match x, y with
  | .int i, .int j => MulOk i j ∧ Q (.int (i * j)) H
  | _, _ => False
def uDiv : R2 := fun x y H Q => match x, y with
  | .int i, .int j => CDivW i j ∧ Q (.int (i / j)) H
  | _, _ => False
def uMod : R2 := fun x y H Q => match x, y with
  | .int i, .int j => 0 < j ∧ Q (.int (i % j)) H
  | _, _ => False
def uPow : R2 := fun x y H Q => match x, y with
  | .int i, .int j => CPow i j ∧ Q (.int (i ^ j.toNat)) H
  | _, _ => False
def uNeg : V → Hp → VK → Prop := fun x H Q => match x with
  | .int i => Q (.int (-i)) H
  | _ => False
def uLt (K : PySem.W.Frag) : R2 := fun x y H Q => match x, y with
  | .int i, .int j => Q (.bl (decide (i < j))) H
  | .str i, .str j => Q (.bl (decide (i.cps.toList < j.cps.toList))) H
  | .ref a, .ref b => rLtT K (.ref a) (.ref b) H Q
  | _, _ => False
def uLe : R2 := fun x y H Q => match x, y with
  | .int i, .int j => Q (.bl (decide (i ≤ j))) H
  | .str i, .str j => Q (.bl (!decide (j.cps.toList < i.cps.toList))) H
  | _, _ => False
def uGt : R2 := fun x y H Q => match x, y with
  | .int i, .int j => Q (.bl (decide (j < i))) H
  | .str i, .str j => Q (.bl (decide (j.cps.toList < i.cps.toList))) H
  | _, _ => False
def uGe : R2 := fun x y H Q => match x, y with
  | .int i, .int j => Q (.bl (decide (j ≤ i))) H
  | .str i, .str j => Q (.bl (!decide (i.cps.toList < j.cps.toList))) H
  | _, _ => False
def uEq (K : PySem.W.Frag) : R2 := fun x y H Q => match x, y with
  | .int i, .int j => Q (.bl (decide (i = j))) H
  | .str i, .str j => Q (.bl (decide (i = j))) H
  | .bl i, .bl j => Q (.bl (decide (i = j))) H
  | .non, .non => Q (.bl true) H
  | .ref a, .ref b => rEqD K (.ref a) (.ref b) H Q
  | x, y => (scal x y = true ∧ Q (.bl (decide (x = y))) H) ∨ rEqD K x y H Q
def uNe (K : PySem.W.Frag) : R2 := fun x y H Q => match x, y with
  | .int i, .int j => Q (.bl (!decide (i = j))) H
  | .str i, .str j => Q (.bl (!decide (i = j))) H
  | .bl i, .bl j => Q (.bl (!decide (i = j))) H
  | .non, .non => Q (.bl false) H
  | .ref a, .ref b => rNeD K (.ref a) (.ref b) H Q
  | x, y => (scal x y = true ∧ Q (.bl (!decide (x = y))) H) ∨ rNeD K x y H Q
def uIs : R2 := fun x y H Q => match x, y with
  | x, .non => Q (.bl (decide (x = .non))) H
  | .bl a, .bl b => Q (.bl (decide (a = b))) H
  | _, _ => False
def uIsNot : R2 := fun x y H Q => match x, y with
  | x, .non => Q (.bl (!decide (x = .non))) H
  | .bl a, .bl b => Q (.bl (!decide (a = b))) H
  | _, _ => False
def uIn (K : PySem.W.Frag) : R2 := fun x y H Q => match x, y with
  | .str i, .str j => Q (.bl (!(Builtin.Str.occurrences j i 0 j.length 1).isEmpty)) H
  | x, y => rIn K false x y H Q
def uNotIn (K : PySem.W.Frag) : R2 := fun x y H Q => match x, y with
  | .str i, .str j => Q (.bl (!(!(Builtin.Str.occurrences j i 0 j.length 1).isEmpty))) H
  | x, y => rIn K true x y H Q

section
variable {X : Cx}
theorem op_uAdd : OpR X (binaryOp .Add) (uAdd X.K) := by
  intro pins s σ H x y v u Q I rx ry h
  cases x <;> cases y <;> first | exact h.elim | skip
  · exact op_add pins s σ H _ _ _ _ Q I rx ry ⟨_, _, rfl, rfl, h⟩
  · exact op_add_str pins s σ H _ _ _ _ Q I rx ry ⟨_, _, rfl, rfl, h.1, h.2⟩
  · rcases h with h | h
    · exact op_cat pins s σ H _ _ _ _ Q I rx ry h
    · exact op_catA pins s σ H _ _ _ _ Q I rx ry h
theorem op_uSub : OpR X (binaryOp .Sub) uSub := by
  intro pins s σ H x y v u Q I rx ry h
  cases x <;> cases y <;> first | exact h.elim | skip
  exact op_sub pins s σ H _ _ _ _ Q I rx ry ⟨_, _, rfl, rfl, h⟩
theorem op_uMul : OpR X (binaryOp .Mult) uMul := by
  intro pins s σ H x y v u Q I rx ry h
  cases x <;> cases y <;> first | exact h.elim | skip
  rcases h with ⟨h | h, q⟩
  · exact op_mul pins s σ H _ _ _ _ Q I rx ry ⟨_, _, rfl, rfl, h, q⟩
  · exact op_mulW pins s σ H _ _ _ _ Q I rx ry ⟨_, _, rfl, rfl, h, q⟩
theorem op_uDiv : OpR X (binaryOp .FloorDiv) uDiv := by
  intro pins s σ H x y v u Q I rx ry h
  cases x <;> cases y <;> first | exact h.elim | skip
  exact op_fdivW pins s σ H _ _ _ _ Q I rx ry ⟨_, _, rfl, rfl, h.1, h.2⟩
theorem op_uMod : OpR X (binaryOp .Mod) uMod := by
  intro pins s σ H x y v u Q I rx ry h
  cases x <;> cases y <;> first | exact h.elim | skip
  exact op_mod pins s σ H _ _ _ _ Q I rx ry ⟨_, _, rfl, rfl, h.1, h.2⟩
theorem op_uPow : OpR X (binaryOp .Pow) uPow := by
  intro pins s σ H x y v u Q I rx ry h
  cases x <;> cases y <;> first | exact h.elim | skip
  exact op_pow pins s σ H _ _ _ _ Q I rx ry ⟨_, _, rfl, rfl, h.1, h.2⟩
theorem un_uNeg : UnR X (unaryOp .USub) uNeg := by
  intro pins s σ H x v Q I rx h
  cases x <;> first | exact h.elim | skip
  exact un_neg pins s σ H _ _ Q I rx ⟨_, rfl, h⟩
theorem op_uLt (hu : X.A.units + 64 < cLine) : OpR X (compareOp .Lt) (uLt X.K) := by
  intro pins s σ H x y v u Q I rx ry h
  cases x <;> cases y <;> first | exact h.elim | skip
  · exact op_lt pins s σ H _ _ _ _ Q I rx ry ⟨_, _, rfl, rfl, h⟩
  · exact op_lt_str pins s σ H _ _ _ _ Q I rx ry ⟨_, _, rfl, rfl, h⟩
  · exact op_ltT (by omega) pins s σ H _ _ _ _ Q I rx ry h
theorem op_uLe : OpR X (compareOp .LtE) uLe := by
  intro pins s σ H x y v u Q I rx ry h
  cases x <;> cases y <;> first | exact h.elim | skip
  · exact op_le pins s σ H _ _ _ _ Q I rx ry ⟨_, _, rfl, rfl, h⟩
  · exact op_le_str pins s σ H _ _ _ _ Q I rx ry ⟨_, _, rfl, rfl, h⟩
theorem op_uGt : OpR X (compareOp .Gt) uGt := by
  intro pins s σ H x y v u Q I rx ry h
  cases x <;> cases y <;> first | exact h.elim | skip
  · exact op_gt pins s σ H _ _ _ _ Q I rx ry ⟨_, _, rfl, rfl, h⟩
  · exact op_gt_str pins s σ H _ _ _ _ Q I rx ry ⟨_, _, rfl, rfl, h⟩
theorem op_uGe : OpR X (compareOp .GtE) uGe := by
  intro pins s σ H x y v u Q I rx ry h
  cases x <;> cases y <;> first | exact h.elim | skip
  · exact op_ge pins s σ H _ _ _ _ Q I rx ry ⟨_, _, rfl, rfl, h⟩
  · exact op_ge_str pins s σ H _ _ _ _ Q I rx ry ⟨_, _, rfl, rfl, h⟩
theorem V_int_dec {i j : Int} : decide (V.int i = V.int j) = decide (i = j) := by
  rw [Bool.eq_iff_iff]; simp
theorem V_str_dec {i j : Str} : decide (V.str i = V.str j) = decide (i = j) := by
  rw [Bool.eq_iff_iff]; simp
theorem V_bl_dec {i j : Bool} : decide (V.bl i = V.bl j) = decide (i = j) := by
  rw [Bool.eq_iff_iff]; simp
theorem op_uEq (hu : X.A.units + 64 < cLine) : OpR X (compareOp .Eq) (uEq X.K) := by
  intro pins s σ H x y v u Q I rx ry h
  have gen : (scal x y = true ∧ Q (.bl (decide (x = y))) H) ∨ rEqD X.K x y H Q → _ := fun z => (op_eq.or (op_eqD hu)) pins s σ H x y v u Q I rx ry z
  refine gen ?_
  cases x <;> cases y <;> first | exact h | exact Or.inr h | skip
  · exact .inl ⟨rfl, h⟩
  · exact .inl ⟨rfl, by rw [V_bl_dec]; exact h⟩
  · exact .inl ⟨rfl, by rw [V_int_dec]; exact h⟩
  · exact .inl ⟨rfl, by rw [V_str_dec]; exact h⟩
theorem op_uNe (hu : X.A.units + 64 < cLine) : OpR X (compareOp .NotEq) (uNe X.K) := by
  intro pins s σ H x y v u Q I rx ry h
  have gen : (scal x y = true ∧ Q (.bl (!decide (x = y))) H) ∨ rNeD X.K x y H Q → _ := fun z => (op_ne.or (op_neD hu)) pins s σ H x y v u Q I rx ry z
  refine gen ?_
  cases x <;> cases y <;> first | exact h | exact Or.inr h | skip
  · exact .inl ⟨rfl, h⟩
  · exact .inl ⟨rfl, by rw [V_bl_dec]; exact h⟩
  · exact .inl ⟨rfl, by rw [V_int_dec]; exact h⟩
  · exact .inl ⟨rfl, by rw [V_str_dec]; exact h⟩
theorem op_uIs : OpR X (compareOp .Is) uIs := by
  intro pins s σ H x y v u Q I rx ry h
  cases y <;> first | (cases x <;> exact h.elim) | skip
  · exact op_isN pins s σ H _ _ _ _ Q I rx ry ⟨rfl, by cases x <;> exact h⟩
  · cases x <;> first | exact h.elim | skip
    exact op_is_bl pins s σ H _ _ _ _ Q I rx ry ⟨_, _, rfl, rfl, h⟩
theorem op_uIsNot : OpR X (compareOp .IsNot) uIsNot := by
  intro pins s σ H x y v u Q I rx ry h
  cases y <;> first | (cases x <;> exact h.elim) | skip
  · exact op_notN pins s σ H _ _ _ _ Q I rx ry ⟨rfl, by cases x <;> exact h⟩
  · cases x <;> first | exact h.elim | skip
    exact op_isnot_bl pins s σ H _ _ _ _ Q I rx ry ⟨_, _, rfl, rfl, h⟩
theorem op_uIn : OpR X (compareOp .In) (uIn X.K) := by
  intro pins s σ H x y v u Q I rx ry h
  cases x <;> cases y <;> first | exact op_in_str pins s σ H _ _ _ _ Q I rx ry ⟨_, _, rfl, rfl, h⟩ | exact op_in_seq pins s σ H _ _ _ _ Q I rx ry h
theorem op_uNotIn : OpR X (compareOp .NotIn) (uNotIn X.K) := by
  intro pins s σ H x y v u Q I rx ry h
  cases x <;> cases y <;> first | exact op_notin_str pins s σ H _ _ _ _ Q I rx ry ⟨_, _, rfl, rfl, h⟩ | exact op_notIn_seq pins s σ H _ _ _ _ Q I rx ry h
end

/-! ### items, lengths, kinds -/
def uIx (K : PySem.W.Frag) : R2 := fun x y H Q => match x, y with
  | .ref p, .int i => ∃ xs v, (SqL K H p xs ∨ SqT K H p xs) ∧ atI xs i = some v ∧ Q v H
  | .str z, .int i => ∃ c, z.length ≤ sizeLine ∧ atI z.cps.toList i = some c ∧ Q (.str ⟨#[c]⟩) H
  | _, _ => False
def uLen (K : PySem.W.Frag) : List V → Hp → VK → Prop := fun vs H Q => match vs with
  | [.ref p] => ∃ xs, (SqL K H p xs ∨ SqT K H p xs) ∧ Q (.int xs.length) H
  | [.str z] => z.length ≤ sizeLine ∧ Q (.int z.length) H
  | _ => False
def uInt : List V → Hp → VK → Prop := fun vs H Q => match vs with
  | [.int i] => Q (.int i) H
  | [.bl b] => Q (.int (if b then 1 else 0)) H
  | _ => False
def uMax : List V → Hp → VK → Prop := fun vs H Q => match vs with
  | [.int i, .int j] => Q (.int (if j > i then j else i)) H
  | _ => False
def uMin : List V → Hp → VK → Prop := fun vs H Q => match vs with
  | [.int i, .int j] => Q (.int (if j < i then j else i)) H
  | _ => False
def uAbs : List V → Hp → VK → Prop := fun vs H Q => match vs with
  | [.int i] => Q (.int (if i < 0 then -i else i)) H
  | _ => False
def uList (K : PySem.W.Frag) : List V → Hp → VK → Prop := fun vs H Q => match vs with
  | [.ref p] => ∃ xs, (SqL K H p xs ∨ SqT K H p xs) ∧ ∀ l, H l = none → Q (.ref l) (upd H l (.lst xs))
  | _ => False
def uTuple (K : PySem.W.Frag) : List V → Hp → VK → Prop := fun vs H Q => match vs with
  | [.ref p] => ∃ xs, (SqL K H p xs ∧ ∀ l, H l = none → Q (.ref l) (upd H l (.tup xs))) ∨ (SqT K H p xs ∧ Q (.ref p) H)
  | _ => False
/-- isinstance with one class -/
def uIsi (K : PySem.W.Frag) : List V → Hp → VK → Prop := fun vs H Q => match vs with
  | [x, c] => ∃ (t u : Value) (b : Bool), ClsV c u ∧ TyX K H x t ∧ PySem.W.kitOne K t u = some b ∧ Q (.bl b) H
  | _ => False
def tTru (K : PySem.W.Frag) (ta : TE) : TT := fun σ H Q => ta σ H fun x H' => ∃ k, TruV K x H' k ∧ Q k H'
def tCal (sp : Sp) (t : TA) : TE := fun σ H Q => t σ H fun vs H1 => sp vs H1 Q E0
section
variable {X : Cx}
theorem ix_uIx : IxR X (uIx X.K) := by
  intro ea eb pins s σ H x y v u Q I rx ry h hp
  cases x <;> cases y <;> first | exact h.elim | skip
  · obtain ⟨c, hz, ha, q⟩ := h
    exact ix_str ea eb pins s σ H _ _ _ _ Q I rx ry ⟨_, _, c, rfl, rfl, hz, ha, q⟩ hp
  · obtain ⟨xs, w, hl, ha, q⟩ := h
    rcases hl with hl | hl
    · exact ix_list ea eb pins s σ H _ _ _ _ Q I rx ry ⟨_, xs, _, w, rfl, rfl, hl, ha, q⟩ hp
    · exact ix_tup ea eb pins s σ H _ _ _ _ Q I rx ry ⟨_, xs, _, w, rfl, rfl, hl, ha, q⟩ hp
theorem call_uLen : CallR X (.builtin "len") (uLen X.K) := by
  intro pins s σ H vs us Q I r h
  rcases vs with _ | ⟨x, _ | ⟨y, t⟩⟩
  · exact h.elim
  · cases x <;> first | exact h.elim | skip
    · exact call_len pins s σ H _ _ Q I r ⟨_, _, rfl, ⟨h.1, rfl⟩, h.2⟩
    · obtain ⟨xs, hl, q⟩ := h
      refine call_len pins s σ H _ _ Q I r ⟨_, xs.length, rfl, ?_, q⟩
      rcases hl with hl | hl
      · exact .inl ⟨_, hl, rfl⟩
      · exact .inr ⟨_, hl, rfl⟩
  · cases x <;> exact h.elim
theorem call_uInt : CallR X (.type "int") uInt := by
  intro pins s σ H vs us Q I r h
  rcases vs with _ | ⟨x, _ | ⟨y, t⟩⟩
  · exact h.elim
  · cases x <;> first | exact h.elim | skip
    · exact call_int1 pins s σ H _ _ Q I r (.inr ⟨_, rfl, h⟩)
    · exact call_int1 pins s σ H _ _ Q I r (.inl ⟨_, rfl, h⟩)
  · cases x <;> exact h.elim
theorem call_uAbs : CallR X (.builtin "abs") uAbs := by
  intro pins s σ H vs us Q I r h
  rcases vs with _ | ⟨x, _ | ⟨y, t⟩⟩
  · exact h.elim
  · cases x <;> first | exact h.elim | skip
    exact call_abs pins s σ H _ _ Q I r ⟨_, rfl, h⟩
  · cases x <;> exact h.elim
theorem call_uMax (hc : X.calm = true) : CallR X (.builtin "max") uMax := by
  intro pins s σ H vs us Q I r h
  rcases vs with _ | ⟨x, _ | ⟨y, _ | ⟨z, t⟩⟩⟩
  · exact h.elim
  · cases x <;> exact h.elim
  · cases x <;> cases y <;> first | exact h.elim | skip
    exact call_max2 hc pins s σ H _ _ Q I r ⟨_, _, rfl, h⟩
  · cases x <;> cases y <;> exact h.elim
theorem call_uMin (hc : X.calm = true) : CallR X (.builtin "min") uMin := by
  intro pins s σ H vs us Q I r h
  rcases vs with _ | ⟨x, _ | ⟨y, _ | ⟨z, t⟩⟩⟩
  · exact h.elim
  · cases x <;> exact h.elim
  · cases x <;> cases y <;> first | exact h.elim | skip
    exact call_min2 hc pins s σ H _ _ Q I r ⟨_, _, rfl, h⟩
  · cases x <;> cases y <;> exact h.elim
theorem call_uList : CallR X (.type "list") (uList X.K) := by
  intro pins s σ H vs us Q I r h
  rcases vs with _ | ⟨x, _ | ⟨y, t⟩⟩
  · exact h.elim
  · cases x <;> first | exact h.elim | skip
    obtain ⟨xs, hl, q⟩ := h
    exact call_list_of pins s σ H _ _ Q I r ⟨_, xs, rfl, hl, q⟩
  · cases x <;> exact h.elim
theorem call_uTuple : CallR X (.type "tuple") (uTuple X.K) := by
  intro pins s σ H vs us Q I r h
  rcases vs with _ | ⟨x, _ | ⟨y, t⟩⟩
  · exact h.elim
  · cases x <;> first | exact h.elim | skip
    obtain ⟨xs, hl⟩ := h
    exact call_tuple_of pins s σ H _ _ Q I r ⟨_, xs, rfl, hl⟩
  · cases x <;> exact h.elim
theorem call_uIsi : CallR X (.builtin "isinstance") (uIsi X.K) := by
  intro pins s σ H vs us Q I r h
  rcases vs with _ | ⟨x, _ | ⟨y, _ | ⟨z, t⟩⟩⟩
  · exact h.elim
  · exact h.elim
  · obtain ⟨t, u, b, k, ty, e, q⟩ := h
    exact call_isi pins s σ H _ _ Q I r ⟨_, _, t, u, b, rfl, k, ty, e, q⟩
  · exact h.elim
theorem pt_u {a : Expr} {ta : TE} (ha : PE X a ta) (he : ∀ whole, isTrue a X.env whole = (do let v ← whole; standAt a.pos; holding [v] (truthy v)) := by intro _; rfl) : PT X a (tTru X.K ta) := pt_truth ha he
end

/-! ### a def of the text, as those who call it know it -/
structure Dfn (P : Program) (w : World) (K : PySem.W.Frag) (mg : Str → Option Value) (base : Heap) (k : Nat) (x : Str) (ps : List Str) (sp : Sp) : Prop where
  ex : ∃ (f : Addr) (fd : FuncData), mg x = some (.ref f) ∧ PySem.W.keepIn K (.ref f) = true ∧ Binds K fd ps [] ∧ FnOk P w K mg base CX0 k f fd ps sp
theorem nil_sp (sp : Sp) (t : TA) : tCall sp [] E0 t = tCal sp t := by
  funext σ H Q
  simp only [tCall, tCal, List.append_nil]
section
variable {X : Cx} {k : Nat} {x : Str} {ps : List Str} {sp : Sp} {p pos : Pos} {e : Expr} {es : List Expr} {t : TA}
theorem z_call (D : Dfn X.prog X.w X.K X.mg X.base k x ps sp) (hr : Room k X.A) (hg : Gl X x) (ha : PA X (e :: es) t) (hdb : (x == ("__debug__" : Str)) = false := by decide)
    (he : starEach (e :: es) X.env = (false, eval e X.env) :: starEach es X.env := by rfl) (hpl : (backTo pos (starEach es X.env)).any (·.1) = false := by rfl) : PE X (.Call (.Name x p) (e :: es) [] pos) (tCal sp t) := by
  obtain ⟨f, fd, hm, hk, hb, F⟩ := D.ex
  rw [← nil_sp]
  exact pe_call F hr hg hm hk hb .nil pass0 ha hdb he hpl
theorem z_call0 (D : Dfn X.prog X.w X.K X.mg X.base k x ps sp) (hr : Room k X.A) (hg : Gl X x) (hdb : (x == ("__debug__" : Str)) = false := by decide) : PE X (.Call (.Name x p) [] [] pos) (tCal sp tNil) := by
  obtain ⟨f, fd, hm, hk, hb, F⟩ := D.ex
  rw [← nil_sp]
  exact pe_call0 F hr hg hm hk hb .nil pass0 hdb
/-- a list or a tuple that is walked -/
def iSeq (K : PySem.W.Frag) (tl : TE) : TI := fun σ H R => iList K tl σ H R ∨ iTup K tl σ H R
theorem pi_seq {tg l : Expr} {tl : TE} (hl : PE X l tl) : PI X tg l (iSeq X.K tl) := by
  have h1 := pi_list (tg := tg) hl
  have h2 := pi_tup (tg := tg) hl
  refine ⟨fun pins s σ H R I h => ?_⟩
  rcases h with h | h
  · exact h1.run pins s σ H R I h
  · exact h2.run pins s σ H R I h
end

/-! ### the steps of a reading -/
def zNewL (xs : List V) (H : Hp) (Q : VK) : Prop := xs.length ≤ sizeLine ∧ ∀ p, H p = none → Q (.ref p) (upd H p (.lst xs))
def zNewT (xs : List V) (H : Hp) (Q : VK) : Prop := xs.length ≤ sizeLine ∧ ∀ p, H p = none → Q (.ref p) (upd H p (.tup xs))
section
variable {K : PySem.W.Frag} {σ : St} {H : Hp} {i : Nat} {v : V} {Q : VK} {QA : List V → Hp → Prop} {QB : Bool → Hp → Prop} {r : R2} {r1 : V → Hp → VK → Prop} {rl : List V → Hp → VK → Prop} {ta tb te : TE} {tr t : TA} {c u : TT} {sp : Sp} {xs : List V} {a b : Int} {x y : Str} {p q : Addr} {bb : Bool} {D : Ends} {t1 t2 : TS}
theorem z_var (h : σ[i]? = some (some v)) (k : Q v H) : tVar i σ H Q := ⟨v, h, k⟩
theorem z_c (k : Q v H) : tC v σ H Q := k
theorem z_op (k : ta σ H fun x H1 => tb σ H1 fun y H2 => r x y H2 Q) : tOp r ta tb σ H Q := k
theorem z_un (k : ta σ H fun x H1 => r1 x H1 Q) : tUn r1 ta σ H Q := k
theorem z_cb (k : t σ H fun vs H1 => rl vs H1 Q) : tCB rl t σ H Q := k
theorem z_cal (k : t σ H fun vs H1 => sp vs H1 Q E0) : tCal sp t σ H Q := k
theorem z_nil (k : QA [] H) : tNil σ H QA := k
theorem z_cons (k : ta σ H fun x H1 => tr σ H1 fun xs H2 => QA (x :: xs) H2) : tCons ta tr σ H QA := k
theorem z_lst (k : t σ H fun xs H1 => zNewL xs H1 Q) : tLst t σ H Q := k
theorem z_tup (k : t σ H fun xs H1 => zNewT xs H1 Q) : tTup t σ H Q := k
theorem z_newL (h : xs.length ≤ 100000) (k : ∀ p, H p = none → Q (.ref p) (upd H p (.lst xs))) : zNewL xs H Q := ⟨Nat.le_trans h (by decide), k⟩
theorem z_newT (h : xs.length ≤ 100000) (k : ∀ p, H p = none → Q (.ref p) (upd H p (.tup xs))) : zNewT xs H Q := ⟨Nat.le_trans h (by decide), k⟩
theorem z_test (k : te σ H fun x H' => ∃ k, x = .bl k ∧ QB k H') : tTest te σ H QB := k
theorem z_bl (k : QB bb H) : ∃ k, V.bl bb = .bl k ∧ QB k H := ⟨bb, rfl, k⟩
theorem z_tru (k : te σ H fun x H' => ∃ k, TruV K x H' k ∧ QB k H') : tTru K te σ H QB := k
theorem z_trub {P : Bool → Prop} (k : P bb) : ∃ k, TruV K (.bl bb) H k ∧ P k := ⟨bb, rfl, k⟩
theorem z_trui {P : Bool → Prop} (k : P (a != 0)) : ∃ k, TruV K (.int a) H k ∧ P k := ⟨_, rfl, k⟩
theorem z_and (k : c σ H fun b H1 => if b = true then u σ H1 QB else QB false H1) : tAnd c u σ H QB := k
theorem z_or (k : c σ H fun b H1 => if b = true then QB true H1 else u σ H1 QB) : tOr c u σ H QB := k
theorem z_not (k : c σ H fun b H1 => QB (!b) H1) : tNot c σ H QB := k
theorem z_andV (k : ta σ H fun x H1 => ∃ c, x = .bl c ∧ if c = true then tb σ H1 Q else Q (.bl false) H1) : tAndV ta tb σ H Q := k
theorem z_orV (k : ta σ H fun x H1 => ∃ c, x = .bl c ∧ if c = true then Q (.bl true) H1 else tb σ H1 Q) : tOrV ta tb σ H Q := k
theorem z_notV (k : ta σ H fun x H1 => ∃ c, x = .bl c ∧ Q (.bl (!c)) H1) : tNotV ta σ H Q := k
theorem z_if (k : c σ H fun b H1 => if b = true then ta σ H1 Q else tb σ H1 Q) : tIf c ta tb σ H Q := k
theorem z_bl1 {P : Bool → Prop} (k : P bb) : ∃ k, V.bl bb = .bl k ∧ P k := ⟨bb, rfl, k⟩
-- operators
theorem z_add (k : Q (.int (a + b)) H) : uAdd K (.int a) (.int b) H Q := k
theorem z_addS (h : x.length + y.length ≤ 100000) (k : Q (.str (x ++ y)) H) : uAdd K (.str x) (.str y) H Q := ⟨Nat.le_trans h (by decide), k⟩
theorem z_addL {xs ys : List V} (h1 : H p = some (.lst xs)) (h2 : H q = some (.lst ys)) (h : xs.length + ys.length ≤ 100000) (k : ∀ l, H l = none → Q (.ref l) (upd H l (.lst (xs ++ ys)))) : uAdd K (.ref p) (.ref q) H Q :=
  .inl ⟨p, q, xs, ys, rfl, rfl, h1, h2, Nat.le_trans h (by decide), k⟩
theorem z_sub (k : Q (.int (a - b)) H) : uSub (.int a) (.int b) H Q := k
theorem z_mul (h : MulOk a b) (k : Q (.int (a * b)) H) : uMul (.int a) (.int b) H Q := ⟨h, k⟩
theorem z_div (h : CDivW a b) (k : Q (.int (a / b)) H) : uDiv (.int a) (.int b) H Q := ⟨h, k⟩
theorem z_mod (h : 0 < b) (k : Q (.int (a % b)) H) : uMod (.int a) (.int b) H Q := ⟨h, k⟩
theorem z_pow (h : CPow a b) (k : Q (.int (a ^ b.toNat)) H) : uPow (.int a) (.int b) H Q := ⟨h, k⟩
theorem z_neg (k : Q (.int (-a)) H) : uNeg (.int a) H Q := k
theorem z_lt (k : Q (.bl (decide (a < b))) H) : uLt K (.int a) (.int b) H Q := k
theorem z_ltS (k : Q (.bl (decide (x.cps.toList < y.cps.toList))) H) : uLt K (.str x) (.str y) H Q := k
theorem z_le (k : Q (.bl (decide (a ≤ b))) H) : uLe (.int a) (.int b) H Q := k
theorem z_leS (k : Q (.bl (!decide (y.cps.toList < x.cps.toList))) H) : uLe (.str x) (.str y) H Q := k
theorem z_gt (k : Q (.bl (decide (b < a))) H) : uGt (.int a) (.int b) H Q := k
theorem z_gtS (k : Q (.bl (decide (y.cps.toList < x.cps.toList))) H) : uGt (.str x) (.str y) H Q := k
theorem z_ge (k : Q (.bl (decide (b ≤ a))) H) : uGe (.int a) (.int b) H Q := k
theorem z_geS (k : Q (.bl (!decide (x.cps.toList < y.cps.toList))) H) : uGe (.str x) (.str y) H Q := k
theorem z_eq (k : Q (.bl (decide (a = b))) H) : uEq K (.int a) (.int b) H Q := k
theorem z_eqS (k : Q (.bl (decide (x = y))) H) : uEq K (.str x) (.str y) H Q := k
theorem z_eqB {a b : Bool} (k : Q (.bl (decide (a = b))) H) : uEq K (.bl a) (.bl b) H Q := k
theorem z_eqN (k : Q (.bl true) H) : uEq K .non .non H Q := k
theorem z_eqIS (k : Q (.bl false) H) : uEq K (.int a) (.str x) H Q := .inl ⟨rfl, by rw [decide_eq_false (by intro z; cases z)]; exact k⟩
theorem z_eqSI (k : Q (.bl false) H) : uEq K (.str x) (.int a) H Q := .inl ⟨rfl, by rw [decide_eq_false (by intro z; cases z)]; exact k⟩
theorem z_eqD {d e : PyData} (h1 : Dp K H (.ref p) d) (h2 : Dp K H (.ref q) e) (s1 : SeqAt.shaped d = true) (s2 : SeqAt.shaped e = true) (k : Q (.bl (PyData.eqv d e)) H) : uEq K (.ref p) (.ref q) H Q := ⟨d, e, h1, h2, s1, s2, k⟩
theorem z_ne (k : Q (.bl (!decide (a = b))) H) : uNe K (.int a) (.int b) H Q := k
theorem z_neS (k : Q (.bl (!decide (x = y))) H) : uNe K (.str x) (.str y) H Q := k
theorem z_neB {a b : Bool} (k : Q (.bl (!decide (a = b))) H) : uNe K (.bl a) (.bl b) H Q := k
theorem z_neN (k : Q (.bl false) H) : uNe K .non .non H Q := k
theorem z_neIS (k : Q (.bl true) H) : uNe K (.int a) (.str x) H Q := .inl ⟨rfl, by rw [decide_eq_false (by intro z; cases z)]; exact k⟩
theorem z_neSI (k : Q (.bl true) H) : uNe K (.str x) (.int a) H Q := .inl ⟨rfl, by rw [decide_eq_false (by intro z; cases z)]; exact k⟩
theorem z_neD {d e : PyData} (h1 : Dp K H (.ref p) d) (h2 : Dp K H (.ref q) e) (s1 : SeqAt.shaped d = true) (s2 : SeqAt.shaped e = true) (k : Q (.bl (!PyData.eqv d e)) H) : uNe K (.ref p) (.ref q) H Q := ⟨d, e, h1, h2, s1, s2, k⟩
theorem z_is (k : Q (.bl (decide (v = .non))) H) : uIs v .non H Q := by cases v <;> exact k
theorem z_isNot (k : Q (.bl (!decide (v = .non))) H) : uIsNot v .non H Q := by cases v <;> exact k
theorem z_isB {a b : Bool} (k : Q (.bl (decide (a = b))) H) : uIs (.bl a) (.bl b) H Q := k
theorem z_isNotB {a b : Bool} (k : Q (.bl (!decide (a = b))) H) : uIsNot (.bl a) (.bl b) H Q := k
theorem z_in (h : SqL K H p xs ∨ SqT K H p xs) (hx : flatV v = true) (ha : xs.all flatV = true) (k : Q (.bl (inV v xs)) H) : uIn K v (.ref p) H Q := by
  cases v <;> exact ⟨p, xs, rfl, h, hx, ha, k⟩
theorem z_notIn (h : SqL K H p xs ∨ SqT K H p xs) (hx : flatV v = true) (ha : xs.all flatV = true) (k : Q (.bl (!inV v xs)) H) : uNotIn K v (.ref p) H Q := by
  cases v <;> exact ⟨p, xs, rfl, h, hx, ha, k⟩
theorem z_isbb {a : Bool} (k : Q (.bl true) H) : uIsi K [.bl a, .ty "bool"] H Q := ⟨_, _, true, .ty _, .base (.bl a), rfl, k⟩
theorem z_isbi {a : Bool} (k : Q (.bl true) H) : uIsi K [.bl a, .ty "int"] H Q := ⟨_, _, true, .ty _, .base (.bl a), rfl, k⟩
theorem z_isll (h : H p = some (.lst xs)) (k : Q (.bl true) H) : uIsi K [.ref p, .ty "list"] H Q := ⟨_, _, true, .ty _, .base (.lst h), rfl, k⟩
theorem z_istt (h : H p = some (.tup xs)) (k : Q (.bl true) H) : uIsi K [.ref p, .ty "tuple"] H Q := ⟨_, _, true, .ty _, .base (.tup h), rfl, k⟩
theorem z_chain {r r' : R2} {tc : TE} (k : ta σ H fun x H1 => tb σ H1 fun y H2 => r x y H2 fun z H3 => ∃ k, z = .bl k ∧ if k = true then tc σ H3 fun w H4 => r' y w H4 Q else Q (.bl false) H3) : tChain r r' ta tb tc σ H Q := k
-- items, built-ins
theorem z_ix (h : SqL K H p xs ∨ SqT K H p xs) (e : atI xs a = some v) (k : Q v H) : uIx K (.ref p) (.int a) H Q := ⟨xs, v, h, e, k⟩
theorem z_len (h : SqL K H p xs ∨ SqT K H p xs) (k : Q (.int xs.length) H) : uLen K [.ref p] H Q := ⟨xs, h, k⟩
theorem z_int (k : Q (.int a) H) : uInt [.int a] H Q := k
theorem z_max (k : Q (.int (if b > a then b else a)) H) : uMax [.int a, .int b] H Q := k
theorem z_min (k : Q (.int (if b < a then b else a)) H) : uMin [.int a, .int b] H Q := k
theorem z_abs (k : Q (.int (if a < 0 then -a else a)) H) : uAbs [.int a] H Q := k
theorem z_list (h : SqL K H p xs ∨ SqT K H p xs) (k : ∀ l, H l = none → Q (.ref l) (upd H l (.lst xs))) : uList K [.ref p] H Q := ⟨xs, h, k⟩
theorem z_tupleL (h : SqL K H p xs) (k : ∀ l, H l = none → Q (.ref l) (upd H l (.tup xs))) : uTuple K [.ref p] H Q := ⟨xs, .inl ⟨h, k⟩⟩
theorem z_tupleT (h : SqT K H p xs) (k : Q (.ref p) H) : uTuple K [.ref p] H Q := ⟨xs, .inr ⟨h, k⟩⟩
theorem z_isi {w : V} {t' u' : Value} (h1 : ClsV w u') (h2 : TyX K H v t') (h3 : PySem.W.kitOne K t' u' = some bb) (k : Q (.bl bb) H) : uIsi K [v, w] H Q := ⟨t', u', bb, h1, h2, h3, k⟩
theorem z_isii (k : Q (.bl true) H) : uIsi K [.int a, .ty "int"] H Q := ⟨_, _, true, .ty _, .base (.int a), rfl, k⟩
theorem z_isib (k : Q (.bl false) H) : uIsi K [.int a, .ty "bool"] H Q := ⟨_, _, false, .ty _, .base (.int a), rfl, k⟩
-- statements
theorem z_seq (k : t1 { D with nx := t2 D } σ H) : tSeq t1 t2 D σ H := k
theorem z_next (k : D.nx σ H) : tNext D σ H := k
theorem z_brk (k : D.bk σ H) : tBreak D σ H := k
theorem z_cont (k : D.ct σ H) : tCont D σ H := k
theorem z_ret (k : te σ H D.rt) : tRet te D σ H := k
theorem z_retN (k : D.rt .non H) : tRetN D σ H := k
theorem z_asg (k : te σ H fun x H1 => D.nx (σ.set i (some x)) H1) : tAsg te (gName i) D σ H := k
theorem z_drop (k : te σ H fun _ H1 => D.nx σ H1) : tDrop te D σ H := k
theorem z_ifS (k : c σ H fun b H1 => if b = true then t1 D σ H1 else t2 D σ H1) : tIfS c t1 t2 D σ H := k
theorem z_iteT {A B : Prop} (k : A) : if true = true then A else B := by rw [if_pos rfl]; exact k
theorem z_iteF {A B : Prop} (k : B) : if false = true then A else B := by rw [if_neg Bool.false_ne_true]; exact k
theorem z_iteT' {A B : Prop} (e : bb = true) (k : A) : if bb = true then A else B := by rw [if_pos e]; exact k
theorem z_iteF' {A B : Prop} (e : bb = false) (k : B) : if bb = true then A else B := by rw [if_neg (by rw [e]; exact Bool.false_ne_true)]; exact k
theorem z_ite {A B : Prop} (h1 : bb = true → A) (h2 : bb = false → B) : if bb = true then A else B := by
  cases bb with
  | true => rw [if_pos rfl]; exact h1 rfl
  | false => rw [if_neg Bool.false_ne_true]; exact h2 rfl
theorem z_itD {A B P : Prop} [Decidable P] (h1 : P → A) (h2 : ¬ P → B) : if decide P = true then A else B := by
  by_cases h : P
  · rw [if_pos (decide_eq_true h)]; exact h1 h
  · rw [if_neg (by rw [decide_eq_false h]; exact Bool.false_ne_true)]; exact h2 h
theorem z_itN {A B P : Prop} [Decidable P] (h1 : ¬ P → A) (h2 : P → B) : if (!decide P) = true then A else B := by
  by_cases h : P
  · rw [decide_eq_true h, if_neg (by decide)]; exact h2 h
  · rw [decide_eq_false h, if_pos (by decide)]; exact h1 h
-- loops
def zRng (g : TG) (tb : TS) (D : Ends) (σ : St) (lo : Int) (n : Nat) (H1 : Hp) : Prop := ∃ W : Nat → Nat → St → Hp → Prop, (∃ m, W 0 m σ H1) ∧ ∀ i m σ H, W i m σ H →
  ((Itr lo n).stop i H ∧ D.nx σ H) ∨ ((Itr lo n).go i H ∧ ∃ N : St → Hp → Prop, (∀ σ' H', N σ' H' → ∃ m', m' < m ∧ W (i + 1) m' σ' H') ∧ ∀ x H', (Itr lo n).yld i H x H' → g x σ H' fun σ2 H2 => tb { D with nx := N, ct := N, bk := D.nx } σ2 H2)
def zRng1 (g : TG) (tb : TS) (D : Ends) (σ : St) (vs : List V) (H1 : Hp) : Prop := ∃ j : Int, vs = [.int j] ∧ -(2 ^ 62) ≤ j ∧ j < 2 ^ 62 ∧ zRng g tb D σ 0 j.toNat H1
def zRng2 (g : TG) (tb : TS) (D : Ends) (σ : St) (vs : List V) (H1 : Hp) : Prop := ∃ i j : Int, vs = [.int i, .int j] ∧ (-(2 ^ 62) ≤ i ∧ i < 2 ^ 62 ∧ -(2 ^ 62) ≤ j ∧ j < 2 ^ 62) ∧ zRng g tb D σ i (j - i).toNat H1
def zIt (K : PySem.W.Frag) (g : TG) (tb : TS) (D : Ends) (σ : St) (v : V) (H1 : Hp) : Prop := ∃ a xs, v = .ref a ∧ ((SqL K H1 a xs ∧ ∃ W : Nat → Nat → St → Hp → Prop, (∃ m, W 0 m σ H1) ∧ ∀ i m σ H, W i m σ H →
  ((Itl K a).stop i H ∧ D.nx σ H) ∨ ((Itl K a).go i H ∧ ∃ N : St → Hp → Prop, (∀ σ' H', N σ' H' → ∃ m', m' < m ∧ W (i + 1) m' σ' H') ∧ ∀ x H', (Itl K a).yld i H x H' → g x σ H' fun σ2 H2 => tb { D with nx := N, ct := N, bk := D.nx } σ2 H2)) ∨
  (SqT K H1 a xs ∧ ∃ W : Nat → Nat → St → Hp → Prop, (∃ m, W 0 m σ H1) ∧ ∀ i m σ H, W i m σ H →
  ((Itt K a).stop i H ∧ D.nx σ H) ∨ ((Itt K a).go i H ∧ ∃ N : St → Hp → Prop, (∀ σ' H', N σ' H' → ∃ m', m' < m ∧ W (i + 1) m' σ' H') ∧ ∀ x H', (Itt K a).yld i H x H' → g x σ H' fun σ2 H2 => tb { D with nx := N, ct := N, bk := D.nx } σ2 H2)))
def iSq (K : PySem.W.Frag) (tl : TE) : TI := fun σ H R => tl σ H fun x H1 => ∃ a, x = .ref a ∧ (((∃ xs, SqL K H1 a xs) ∧ R (Itl K a) H1) ∨ ((∃ xs, SqT K H1 a xs) ∧ R (Itt K a) H1))
variable {g : TG} {ti : TS}
theorem z_for1 (k : t σ H fun vs H1 => zRng1 g ti D σ vs H1) : tFor (iRng1 t) g ti D σ H := k
theorem z_for2 (k : t σ H fun vs H1 => zRng2 g ti D σ vs H1) : tFor (iRng2 t) g ti D σ H := k
theorem z_rng1 {j : Int} (hb : j ≤ 1000000) (h : zRng g ti D σ 0 j.toNat H) (hb2 : -1000000 ≤ j) : zRng1 g ti D σ [.int j] H := ⟨j, rfl, by omega, by omega, h⟩
theorem z_rng2 {i j : Int} (h : zRng g ti D σ i (j - i).toNat H) (hb : -1000000 ≤ i ∧ i ≤ 1000000 ∧ -1000000 ≤ j ∧ j ≤ 1000000) : zRng2 g ti D σ [.int i, .int j] H := ⟨i, j, rfl, by omega, h⟩
/-- over a range: Pv by turns done, slots, heap -/
theorem z_rng {lo : Int} {n v : Nat} (Pv : Nat → St → Hp → Prop) (h0 : Pv 0 σ H)
    (hs : ∀ i σ H, i < n → Pv i σ H → ti { D with nx := Pv (i + 1), ct := Pv (i + 1), bk := D.nx } (σ.set v (some (.int (lo + i)))) H) (hd : ∀ σ H, Pv n σ H → D.nx σ H) : zRng (gName v) ti D σ lo n H :=
  for_range (g := gName v) (tb := ti) (D := D) Pv h0 hs hd
theorem z_while (Pv : Nat → St → Hp → Prop) (m : Nat) (h0 : Pv m σ H)
    (hs : ∀ m σ H, Pv m σ H → c σ H fun b H1 => if b = true then ∃ N : St → Hp → Prop, (∀ σ' H', N σ' H' → ∃ m', m' < m ∧ Pv m' σ' H') ∧ ti { D with nx := N, ct := N, bk := D.nx } σ H1 else D.nx σ H1) : tWhile c ti D σ H :=
  ⟨Pv, ⟨m, h0⟩, hs⟩
theorem z_turn {m : Nat} {Pv : Nat → St → Hp → Prop} {bk : St → Hp → Prop} (k : ti { D with nx := fun σ' H' => ∃ m', m' < m ∧ Pv m' σ' H', ct := fun σ' H' => ∃ m', m' < m ∧ Pv m' σ' H', bk := bk } σ H) :
    ∃ N : St → Hp → Prop, (∀ σ' H', N σ' H' → ∃ m', m' < m ∧ Pv m' σ' H') ∧ ti { D with nx := N, ct := N, bk := bk } σ H := ⟨_, fun _ _ h => h, k⟩
theorem mul1 (h : -1000000000000000000 < a ∧ a < 1000000000000000000) : MulOk a b := .inl (.inl (by omega))
theorem mul2 (h : -1000000000000000000 < b ∧ b < 1000000000000000000) : MulOk a b := .inl (.inr (by omega))
theorem div1 (h : 0 < b ∧ b < 1000000000000000000) : CDivW a b := wide_div h.1 (b := 64) (by omega) (by decide) (by decide)
end
/-! ### heaps -/
theorem lk_ne {H : Hp} {a b : Addr} {o u : HO} (h : a ≠ b) (e : H a = some u) : upd H b o a = some u := by rw [upd_ne h]; exact e
theorem ne_n {H : Hp} {a b : Addr} {o : HO} (h' : H b = none) (h : H a = some o) : a ≠ b := ne_of_none h h'
theorem sqL_new {K : PySem.W.Frag} {H : Hp} {a b : Addr} {o : HO} {xs : List V} (h : H b = none) (e : SqL K H a xs) : SqL K (upd H b o) a xs := by
  rcases e with (e | ⟨u, e⟩) | e
  · exact .inl (.inl (lk_ne (ne_of_none e h) e))
  · exact .inl (.inr ⟨u, lk_ne (ne_of_none e h) e⟩)
  · exact .inr e
theorem sqT_new {K : PySem.W.Frag} {H : Hp} {a b : Addr} {o : HO} {xs : List V} (h : H b = none) (e : SqT K H a xs) : SqT K (upd H b o) a xs := by
  rcases e with (e | ⟨u, e⟩) | e
  · exact .inl (.inl (lk_ne (ne_of_none e h) e))
  · exact .inl (.inr ⟨u, lk_ne (ne_of_none e h) e⟩)
  · exact .inr e
theorem sqL_ne {K : PySem.W.Frag} {H : Hp} {a b : Addr} {o : HO} {xs : List V} (h : a ≠ b) (e : SqL K H a xs) : SqL K (upd H b o) a xs := by
  rcases e with (e | ⟨u, e⟩) | e
  · exact .inl (.inl (lk_ne h e))
  · exact .inl (.inr ⟨u, lk_ne h e⟩)
  · exact .inr e
theorem sqT_ne {K : PySem.W.Frag} {H : Hp} {a b : Addr} {o : HO} {xs : List V} (h : a ≠ b) (e : SqT K H a xs) : SqT K (upd H b o) a xs := by
  rcases e with (e | ⟨u, e⟩) | e
  · exact .inl (.inl (lk_ne h e))
  · exact .inl (.inr ⟨u, lk_ne h e⟩)
  · exact .inr e
/-- what stands there is no state of draws -/
def NotSt (o : HO) : Prop := ∀ (L : Addr) (k a : Int), o ≠ .lst [.ref L, .int k, .int a]
theorem NotSt.ints {ns : List Int} : NotSt (.lst (ns.map V.int)) := fun L k a z => by
  cases ns with
  | nil => cases z
  | cons x r => injection z with z; injection z with z1 _; cases z1
theorem NotSt.refs {ps : List Addr} : NotSt (.lst (ps.map V.ref)) := fun L k a z => by
  cases ps with
  | nil => cases z
  | cons x r => cases r with
    | nil => cases z
    | cons y t => injection z with z; injection z with _ z; injection z with z _; cases z
theorem NotSt.strs {xs : List Str} : NotSt (.lst (xs.map V.str)) := fun L k a z => by
  cases xs with
  | nil => cases z
  | cons x r => injection z with z; injection z with z1 _; cases z1
/-- all that was tracked is as it was, but the states of draws -/
def ExD (H H' : Hp) : Prop := ∀ a o, NotSt o → H a = some o → H' a = some o
theorem ExD.lk {a : Addr} {H H' : Hp} {o : HO} (x : ExD H H') (e : H a = some o) (h : NotSt o) : H' a = some o := x a o h e
theorem ExD.refl (H : Hp) : ExD H H := fun _ _ _ e => e
theorem ExD.trans {H H1 H2 : Hp} (x : ExD H H1) (y : ExD H1 H2) : ExD H H2 := fun a o h e => y a o h (x a o h e)
theorem ExD.new {p : Addr} {H H1 : Hp} {o : HO} (h : H p = none) (x : ExD H H1) : ExD H (upd H1 p o) := fun a u ha e => lk_ne (ne_of_none e h) (x a u ha e)
theorem ExD.of {H H' : Hp} (x : Same H H') : ExD H H' := fun a o _ e => x a o e
theorem ExD.st {st L : Addr} {k a : Int} {H H1 : Hp} {o : HO} (e : H st = some (.lst [.ref L, .int k, .int a])) (x : ExD H H1) : ExD H (upd H1 st o) := fun b u hb f => by
  refine lk_ne (fun z => ?_) (x b u hb f)
  subst z; rw [e] at f; exact hb L k a (Option.some.inj f).symm
theorem Same.lk {a : Addr} {H H' : Hp} {o : HO} (x : Same H H') (e : H a = some o) : H' a = some o := x a o e
theorem lk_new {H : Hp} {a b : Addr} {o u : HO} (h : H b = none) (e : H a = some u) : upd H b o a = some u := lk_ne (ne_of_none e h) e
theorem lk_df {H : Hp} {a b : Addr} {o u w : HO} (e : H a = some u) (f : H b = some w) (d : u ≠ w) : upd H b o a = some u := lk_ne (fun z => by subst z; rw [e] at f; exact d (Option.some.inj f)) e

section
variable {K : PySem.W.Frag} {σ : St} {H : Hp} {Q : VK} {te ta tb : TE} {t u : TS} {D : Ends} {p : Addr} {xs : List V} {a : Int} {v : V} {j : Nat}
theorem z_cutI (k : t { D with nx := u D } σ H) : tCut t u D σ H := ⟨u D, k, fun _ _ h => h⟩
theorem z_cut (M : St → Hp → Prop) (k : t { D with nx := M } σ H) (h : ∀ σ' H', M σ' H' → u D σ' H') : tCut t u D σ H := ⟨M, k, h⟩
theorem z_asgS (k : te σ H fun x H1 => ta σ H1 fun o H2 => tb σ H2 fun i H3 => rSetL o i x H3 fun H4 => D.nx σ H4) : tAsg te (gSub ta tb rSetL) D σ H := k
theorem z_setL {Q : Hp → Prop} (h : H p = some (.lst xs)) (e : ixN xs.length a = some j) (k : Q (upd H p (.lst (xs.set j v)))) : rSetL (.ref p) (.int a) v H Q := ⟨p, xs, a, j, rfl, rfl, h, e, k⟩
theorem z_app (h : H p = some (.lst xs)) (hl : xs.length < 100000) (k : Q .non (upd H p (.lst (xs ++ [v])))) : rAppend (.ref p) [v] H Q := ⟨p, xs, v, rfl, rfl, h, Nat.lt_of_lt_of_le hl (by decide), k⟩
theorem tyL (h : H p = some (.lst xs)) : tyV K "list" (.ref p) H := Or.inl ⟨rfl, _, Or.inl (Or.inl h)⟩
theorem z_bm {T : String} {r : V → List V → Hp → VK → Prop} {to : TE} {t : TA} (k : to σ H fun x H1 => tyV K T x H1 ∧ t σ H1 fun xs H2 => r x xs H2 Q) : tBM K T r to t σ H Q := k
theorem upd_self {H : Hp} {a : Addr} {o : HO} (h : H a = some o) : upd H a o = H := by
  funext b; unfold upd; split
  · rename_i e; subst e; exact h.symm
  · rfl
theorem ix_at {α : Type} {xs : List α} {i : Int} (h0 : 0 ≤ i) (h1 : i < xs.length) : ixN xs.length i = some i.toNat := by
  unfold ixN; rw [if_pos h0, if_pos h1]
theorem at_int {ns : List Int} {i : Int} (h0 : 0 ≤ i) (h1 : i < ns.length) : atI (ns.map V.int) i = some (.int (ns.getD i.toNat 0)) := by
  unfold atI
  rw [ix_at h0 (by simpa using h1)]
  have : i.toNat < ns.length := by omega
  simp [List.getD, this]
end
/-- a body keeps its promise, from the promise as it was handed in -/
def Wd (T : TS) (N : List Str) (n : Nat) (sp : Sp) : Prop := ∀ (vs : List V) (H : Hp) (Q : VK) (E : XK), sp vs H Q E → vs.length = n ∧ T { nx := fun _ H' => Q .non H', rt := Q } (start N vs) H

/-! ### comprehensions -/
def zLcR (g : TG) (tt : TT) (te : TE) (vs : List Nat) (σ : St) (lo : Int) (n : Nat) (H1 : Hp) (Q : VK) : Prop := ∀ D, H1 D = none → ∃ W : Nat → Nat → Hp → Prop, (∃ m, W 0 m (upd H1 D (.lst []))) ∧ ∀ i m H, W i m H →
  ((Itr lo n).stop i H ∧ Q (.ref D) H) ∨ ((Itr lo n).go i H ∧ ∃ Nx : Hp → Prop, (∀ H', Nx H' → ∃ m', m' < m ∧ W (i + 1) m' H') ∧ ∀ x H', (Itr lo n).yld i H x H' → g x (wipe σ vs) H' fun σ2 H2 => wipe σ2 vs = wipe σ vs ∧ tt σ2 H2 fun b H3 =>
    if b = true then te σ2 H3 fun y H4 => ∃ acc, H4 D = some (.lst acc) ∧ acc.length < sizeLine ∧ Nx (upd H4 D (.lst (acc ++ [y]))) else Nx H3)
def zLcR1 (g : TG) (tt : TT) (te : TE) (vs : List Nat) (σ : St) (as : List V) (H1 : Hp) (Q : VK) : Prop := ∃ j : Int, as = [.int j] ∧ -(2 ^ 62) ≤ j ∧ j < 2 ^ 62 ∧ zLcR g tt te vs σ 0 j.toNat H1 Q
def zLcL (K : PySem.W.Frag) (g : TG) (tt : TT) (te : TE) (vs : List Nat) (σ : St) (a : Addr) (H1 : Hp) (Q : VK) : Prop := ∀ D, H1 D = none → ∃ W : Nat → Nat → Hp → Prop, (∃ m, W 0 m (upd H1 D (.lst []))) ∧ ∀ i m H, W i m H →
  ((Itl K a).stop i H ∧ Q (.ref D) H) ∨ ((Itl K a).go i H ∧ ∃ Nx : Hp → Prop, (∀ H', Nx H' → ∃ m', m' < m ∧ W (i + 1) m' H') ∧ ∀ x H', (Itl K a).yld i H x H' → g x (wipe σ vs) H' fun σ2 H2 => wipe σ2 vs = wipe σ vs ∧ tt σ2 H2 fun b H3 =>
    if b = true then te σ2 H3 fun y H4 => ∃ acc, H4 D = some (.lst acc) ∧ acc.length < sizeLine ∧ Nx (upd H4 D (.lst (acc ++ [y]))) else Nx H3)
def zLcT (K : PySem.W.Frag) (g : TG) (tt : TT) (te : TE) (vs : List Nat) (σ : St) (a : Addr) (H1 : Hp) (Q : VK) : Prop := ∀ D, H1 D = none → ∃ W : Nat → Nat → Hp → Prop, (∃ m, W 0 m (upd H1 D (.lst []))) ∧ ∀ i m H, W i m H →
  ((Itt K a).stop i H ∧ Q (.ref D) H) ∨ ((Itt K a).go i H ∧ ∃ Nx : Hp → Prop, (∀ H', Nx H' → ∃ m', m' < m ∧ W (i + 1) m' H') ∧ ∀ x H', (Itt K a).yld i H x H' → g x (wipe σ vs) H' fun σ2 H2 => wipe σ2 vs = wipe σ vs ∧ tt σ2 H2 fun b H3 =>
    if b = true then te σ2 H3 fun y H4 => ∃ acc, H4 D = some (.lst acc) ∧ acc.length < sizeLine ∧ Nx (upd H4 D (.lst (acc ++ [y]))) else Nx H3)
def zLcS (K : PySem.W.Frag) (g : TG) (tt : TT) (te : TE) (vs : List Nat) (σ : St) (x : V) (H1 : Hp) (Q : VK) : Prop := ∃ a, x = .ref a ∧ (((∃ xs, SqL K H1 a xs) ∧ zLcL K g tt te vs σ a H1 Q) ∨ ((∃ xs, SqT K H1 a xs) ∧ zLcT K g tt te vs σ a H1 Q))
def zForS (K : PySem.W.Frag) (g : TG) (tb : TS) (D : Ends) (σ : St) (x : V) (H1 : Hp) : Prop := ∃ a, x = .ref a ∧ (((∃ xs, SqL K H1 a xs) ∧ ∃ W : Nat → Nat → St → Hp → Prop, (∃ m, W 0 m σ H1) ∧ ∀ i m σ H, W i m σ H →
  ((Itl K a).stop i H ∧ D.nx σ H) ∨ ((Itl K a).go i H ∧ ∃ N : St → Hp → Prop, (∀ σ' H', N σ' H' → ∃ m', m' < m ∧ W (i + 1) m' σ' H') ∧ ∀ x H', (Itl K a).yld i H x H' → g x σ H' fun σ2 H2 => tb { D with nx := N, ct := N, bk := D.nx } σ2 H2)) ∨
  ((∃ xs, SqT K H1 a xs) ∧ ∃ W : Nat → Nat → St → Hp → Prop, (∃ m, W 0 m σ H1) ∧ ∀ i m σ H, W i m σ H →
  ((Itt K a).stop i H ∧ D.nx σ H) ∨ ((Itt K a).go i H ∧ ∃ N : St → Hp → Prop, (∀ σ' H', N σ' H' → ∃ m', m' < m ∧ W (i + 1) m' σ' H') ∧ ∀ x H', (Itt K a).yld i H x H' → g x σ H' fun σ2 H2 => tb { D with nx := N, ct := N, bk := D.nx } σ2 H2)))

section
open PyProof.Rows
theorem pi_sq {X : Cx} {tg l : Expr} {tl : TE} (hl : PE X l tl) : PI X tg l (iSq X.K tl) := by
  refine ⟨fun pins s σ H R I h => ?_⟩
  refine thn (hl.run pins s σ H _ I h) fun v s1 ⟨x, H1, I1, r1, q1⟩ => ?_
  obtain ⟨a, e, q1⟩ := q1
  subst e
  cases r1
  rcases q1 with ⟨⟨xs, hq⟩, q⟩ | ⟨⟨xs, hq⟩, q⟩
  · obtain ⟨its, rv, p, hz⟩ := I1.list hq
    refine wpAny_pyIter_list p.isList ?_
    refine ⟨s1.heap.objs.size, [s1.heap.objs.size], _, _, H1, rfl, I1.kept (t' := s1.toks) fun b o e => Heap.get?_push_of_some _ e, turn_list a _, ⟨_, Heap.get?_push_size _ rfl, rfl, rfl⟩, fun b hb => ?_, q⟩
    have e : b = s1.heap.objs.size := by simpa using hb
    subst e
    exact I1.fpOk (Nat.le_refl _) (I1.hok.fresh (Nat.le_refl _))
  · obtain ⟨its, rv, p, hz⟩ := I1.tuple hq
    refine wpAny_pyIter_tuple (show s1.heap.IsTuple a its.toArray from p) ?_
    refine ⟨s1.heap.objs.size, [s1.heap.objs.size], _, _, H1, rfl, I1.kept (t' := s1.toks) fun b o e => Heap.get?_push_of_some _ e, turn_tuple a _, ⟨_, Heap.get?_push_size _ rfl, rfl, rfl⟩, fun b hb => ?_, q⟩
    have e : b = s1.heap.objs.size := by simpa using hb
    subst e
    exact I1.fpOk (Nat.le_refl _) (I1.hok.fresh (Nat.le_refl _))
end
section
variable {K : PySem.W.Frag} {σ : L2.St} {H : Hp} {Q : VK} {D : Ends} {tt : TT} {te tl : TE} {ta : TA} {vs : List Nat} {g : TG} {tb : TS} {a : Addr} {xs : List V}
theorem z_forSq (k : tl σ H fun x H1 => zForS K g tb D σ x H1) : tFor (iSq K tl) g tb D σ H := k
theorem z_lcSq (k : tl σ H fun x H1 => zLcS K g tt te vs σ x H1 Q) : tLc (iSq K tl) g tt te vs σ H Q := k
theorem z_lc1 (k : ta σ H fun as H1 => zLcR1 g tt te vs σ as H1 Q) : tLc (iRng1 ta) g tt te vs σ H Q := k
theorem z_yes {QB : Bool → Hp → Prop} (k : QB true H) : tYes σ H QB := k
theorem z_accum {D : Addr} {acc : List V} {P : List V → Prop} (h : H D = some (.lst acc)) (hl : acc.length < 100000) (k : P acc) : ∃ acc, H D = some (.lst acc) ∧ acc.length < sizeLine ∧ P acc :=
  ⟨acc, h, Nat.lt_of_lt_of_le hl (by decide), k⟩
/-- over a list that stays -/
theorem z_forL (h : SqL K H a xs) (Pv : Nat → L2.St → Hp → Prop) (h0 : Pv 0 σ H) (hl : ∀ i σ' H', i ≤ xs.length → Pv i σ' H' → SqL K H' a xs)
    (hs : ∀ i x σ' H', xs[i]? = some x → Pv i σ' H' → g x σ' H' fun σ2 H2 => tb { D with nx := Pv (i + 1), ct := Pv (i + 1), bk := D.nx } σ2 H2) (hd : ∀ σ' H', Pv xs.length σ' H' → D.nx σ' H') : zForS K g tb D σ (.ref a) H :=
  ⟨a, rfl, .inl ⟨⟨xs, h⟩, for_list Pv h0 hl hs hd⟩⟩
theorem z_forT (h : SqT K H a xs) (Pv : Nat → L2.St → Hp → Prop) (h0 : Pv 0 σ H) (hl : ∀ i σ' H', i ≤ xs.length → Pv i σ' H' → SqT K H' a xs)
    (hs : ∀ i x σ' H', xs[i]? = some x → Pv i σ' H' → g x σ' H' fun σ2 H2 => tb { D with nx := Pv (i + 1), ct := Pv (i + 1), bk := D.nx } σ2 H2) (hd : ∀ σ' H', Pv xs.length σ' H' → D.nx σ' H') : zForS K g tb D σ (.ref a) H :=
  ⟨a, rfl, .inr ⟨⟨xs, h⟩, for_tup Pv h0 hl hs hd⟩⟩
theorem z_gName {v : V} {i : Nat} {P : L2.St → Hp → Prop} (k : P (σ.set i (some v)) H) : gName i v σ H P := k
theorem z_lcr1 {j : Int} (hb : -1000000 ≤ j ∧ j ≤ 1000000) (k : zLcR g tt te vs σ 0 j.toNat H Q) : zLcR1 g tt te vs σ [.int j] H Q := ⟨j, rfl, by omega, by omega, k⟩
theorem z_lcr {lo : Int} {n : Nat} (Pv : Addr → Nat → Hp → Prop) (h0 : ∀ D, H D = none → Pv D 0 (upd H D (.lst [])))
    (hs : ∀ D i H', H D = none → i < n → Pv D i H' → g (.int (lo + i)) (wipe σ vs) H' fun σ2 H2 => wipe σ2 vs = wipe σ vs ∧ tt σ2 H2 fun b H3 =>
      if b = true then te σ2 H3 fun y H4 => ∃ acc, H4 D = some (.lst acc) ∧ acc.length < sizeLine ∧ Pv D (i + 1) (upd H4 D (.lst (acc ++ [y]))) else Pv D (i + 1) H3)
    (hd : ∀ D H', H D = none → Pv D n H' → Q (.ref D) H') : zLcR g tt te vs σ lo n H Q :=
  fun D hD => lc_range (Pv D) (h0 D hD) (fun i H' hi p => hs D i H' hD hi p) (fun H' p => hd D H' hD p)
theorem z_lcl (h : SqL K H a xs) (Pv : Addr → Nat → Hp → Prop) (h0 : ∀ D, H D = none → Pv D 0 (upd H D (.lst []))) (hl : ∀ D i H', H D = none → i ≤ xs.length → Pv D i H' → SqL K H' a xs)
    (hs : ∀ D i x H', H D = none → xs[i]? = some x → Pv D i H' → g x (wipe σ vs) H' fun σ2 H2 => wipe σ2 vs = wipe σ vs ∧ tt σ2 H2 fun b H3 =>
      if b = true then te σ2 H3 fun y H4 => ∃ acc, H4 D = some (.lst acc) ∧ acc.length < sizeLine ∧ Pv D (i + 1) (upd H4 D (.lst (acc ++ [y]))) else Pv D (i + 1) H3)
    (hd : ∀ D H', H D = none → Pv D xs.length H' → Q (.ref D) H') : zLcS K g tt te vs σ (.ref a) H Q :=
  ⟨a, rfl, .inl ⟨⟨xs, h⟩, fun D hD => lc_list (Pv D) (h0 D hD) (fun i H' hi p => hl D i H' hD hi p) (fun i x H' hi p => hs D i x H' hD hi p) (fun H' p => hd D H' hD p)⟩⟩
theorem z_lct (h : SqT K H a xs) (Pv : Addr → Nat → Hp → Prop) (h0 : ∀ D, H D = none → Pv D 0 (upd H D (.lst []))) (hl : ∀ D i H', H D = none → i ≤ xs.length → Pv D i H' → SqT K H' a xs)
    (hs : ∀ D i x H', H D = none → xs[i]? = some x → Pv D i H' → g x (wipe σ vs) H' fun σ2 H2 => wipe σ2 vs = wipe σ vs ∧ tt σ2 H2 fun b H3 =>
      if b = true then te σ2 H3 fun y H4 => ∃ acc, H4 D = some (.lst acc) ∧ acc.length < sizeLine ∧ Pv D (i + 1) (upd H4 D (.lst (acc ++ [y]))) else Pv D (i + 1) H3)
    (hd : ∀ D H', H D = none → Pv D xs.length H' → Q (.ref D) H') : zLcS K g tt te vs σ (.ref a) H Q :=
  ⟨a, rfl, .inr ⟨⟨xs, h⟩, fun D hD => lc_tup (Pv D) (h0 D hD) (fun i H' hi p => hl D i H' hD hi p) (fun i x H' hi p => hs D i x H' hD hi p) (fun H' p => hd D H' hD p)⟩⟩
end
/-! ### zip -/
def zZip (K : PySem.W.Frag) (g : TG) (tb : TS) (D : Ends) (σ : L2.St) (vs : List V) (H1 : Hp) : Prop := ∃ a b xs ys, vs = [.ref a, .ref b] ∧ ((SqL K H1 a xs ∧ SqL K H1 b ys ∧ ∃ W : Nat → Nat → L2.St → Hp → Prop, (∃ m, W 0 m σ H1) ∧ ∀ i m σ H, W i m σ H →
  ((Itz K a b).stop i H ∧ D.nx σ H) ∨ ((Itz K a b).go i H ∧ ∃ N : L2.St → Hp → Prop, (∀ σ' H', N σ' H' → ∃ m', m' < m ∧ W (i + 1) m' σ' H') ∧ ∀ x H', (Itz K a b).yld i H x H' → g x σ H' fun σ2 H2 => tb { D with nx := N, ct := N, bk := D.nx } σ2 H2)) ∨
  (SqT K H1 a xs ∧ SqT K H1 b ys ∧ ∃ W : Nat → Nat → L2.St → Hp → Prop, (∃ m, W 0 m σ H1) ∧ ∀ i m σ H, W i m σ H →
  ((RZ.ItzT K a b).stop i H ∧ D.nx σ H) ∨ ((RZ.ItzT K a b).go i H ∧ ∃ N : L2.St → Hp → Prop, (∀ σ' H', N σ' H' → ∃ m', m' < m ∧ W (i + 1) m' σ' H') ∧ ∀ x H', (RZ.ItzT K a b).yld i H x H' → g x σ H' fun σ2 H2 => tb { D with nx := N, ct := N, bk := D.nx } σ2 H2)))
theorem Same.sqT {K : PySem.W.Frag} {H H' : Hp} {a : Addr} {xs : List V} (e : Same H H') (h : SqT K H a xs) : SqT K H' a xs := by
  rcases h with (h | ⟨o, h⟩) | h
  · exact .inl (.inl (e _ _ h))
  · exact .inl (.inr ⟨o, e _ _ h⟩)
  · exact .inr h
theorem Same.new {H H' : Hp} {p : Addr} {o : HO} (h : H' p = none) (e : Same H H') : Same H (upd H' p o) := fun b u q => lk_ne (ne_of_none (e b u q) h) (e b u q)
section
variable {K : PySem.W.Frag} {σ : L2.St} {H : Hp} {D : Ends} {ta : TA} {g : TG} {tb : TS} {a b : Addr} {xs ys : List V}
theorem z_forZ (k : ta σ H fun vs H1 => zZip K g tb D σ vs H1) : tFor (RZ.iZipA K ta) g tb D σ H := k
theorem z_zip {u v : Nat} (h : (SqL K H a xs ∧ SqL K H b ys) ∨ (SqT K H a xs ∧ SqT K H b ys)) (Pv : Nat → L2.St → Hp → Prop) (h0 : Pv 0 σ H) (hk : ∀ i σ' H', Pv i σ' H' → Same H H')
    (hs : ∀ i x y p σ' H', xs[i]? = some x → ys[i]? = some y → Pv i σ' H' → H' p = none → tb { D with nx := Pv (i + 1), ct := Pv (i + 1), bk := D.nx } ((σ'.set u (some x)).set v (some y)) (upd H' p (.tup [x, y])))
    (hd : ∀ σ' H', Pv (min xs.length ys.length) σ' H' → D.nx σ' H') : zZip K (gTup K 2 (gCons (gName u) (gCons (gName v) gNil))) tb D σ [.ref a, .ref b] H := by
  refine ⟨a, b, xs, ys, rfl, ?_⟩
  rcases h with ⟨h1, h2⟩ | ⟨h1, h2⟩
  · refine .inl ⟨h1, h2, fun i m σ H => m = min xs.length ys.length - i ∧ i ≤ min xs.length ys.length ∧ Pv i σ H, ⟨_, rfl, Nat.zero_le _, h0⟩, ?_⟩
    rintro i m σ' H' ⟨rfl, hi, p⟩
    have s := hk i σ' H' p
    have q1 := Same.seq s h1
    have q2 := Same.seq s h2
    by_cases hlt : i < min xs.length ys.length
    · have l1 : i < xs.length := by omega
      have l2 : i < ys.length := by omega
      refine .inr ⟨⟨xs, ys, xs[i], ys[i], q1, q2, by simp [l1], by simp [l2]⟩, Pv (i + 1), fun σ2 H2 p' => ⟨_, by omega, rfl, by omega, p'⟩, ?_⟩
      rintro x H2 ⟨T, x1, y1, rfl, hT, rfl, f1, f2⟩
      exact ⟨T, [x1, y1], rfl, .inl (.inl upd_same), rfl, x1, [y1], rfl, y1, [], rfl, rfl, hs i x1 y1 T σ' H' (f1 xs q1) (f2 ys q2) p hT⟩
    · have e : i = min xs.length ys.length := by omega
      subst e
      exact .inl ⟨⟨xs, ys, q1, q2, by omega⟩, hd σ' H' p⟩
  · refine .inr ⟨h1, h2, fun i m σ H => m = min xs.length ys.length - i ∧ i ≤ min xs.length ys.length ∧ Pv i σ H, ⟨_, rfl, Nat.zero_le _, h0⟩, ?_⟩
    rintro i m σ' H' ⟨rfl, hi, p⟩
    have s := hk i σ' H' p
    have q1 := Same.sqT s h1
    have q2 := Same.sqT s h2
    by_cases hlt : i < min xs.length ys.length
    · have l1 : i < xs.length := by omega
      have l2 : i < ys.length := by omega
      refine .inr ⟨⟨xs, ys, xs[i], ys[i], q1, q2, by simp [l1], by simp [l2]⟩, Pv (i + 1), fun σ2 H2 p' => ⟨_, by omega, rfl, by omega, p'⟩, ?_⟩
      rintro x H2 ⟨T, x1, y1, rfl, hT, rfl, f1, f2⟩
      exact ⟨T, [x1, y1], rfl, .inl (.inl upd_same), rfl, x1, [y1], rfl, y1, [], rfl, rfl, hs i x1 y1 T σ' H' (f1 xs q1) (f2 ys q2) p hT⟩
    · have e : i = min xs.length ys.length := by omega
      subst e
      exact .inl ⟨⟨xs, ys, q1, q2, by omega⟩, hd σ' H' p⟩
end
/-- an item of a list of ints -/
theorem map_int {xs : List Int} {i : Nat} {x : V} (h : (xs.map V.int)[i]? = some x) : i < xs.length ∧ x = .int (xs.getD i 0) := by
  rw [List.getElem?_map] at h
  cases e : xs[i]? with
  | none => rw [e] at h; cases h
  | some y =>
    rw [e] at h
    obtain ⟨l, _⟩ := List.getElem?_eq_some_iff.mp e
    exact ⟨l, by rw [List.getD_eq_getElem?_getD, e]; exact (Option.some.inj h).symm⟩
/-- a, b = a pair -/
theorem z_gTup2 {K : PySem.W.Frag} {H : Hp} {σ : L2.St} {P : L2.St → Hp → Prop} {t : Addr} {x y : V} {u v : Nat} (h : SqT K H t [x, y]) (k : P ((σ.set u (some x)).set v (some y)) H) : gTup K 2 (gCons (gName u) (gCons (gName v) gNil)) (.ref t) σ H P :=
  ⟨t, [x, y], rfl, h, rfl, x, [y], rfl, y, [], rfl, rfl, k⟩
/-! ### enumerate -/
def zEnum (K : PySem.W.Frag) (g : TG) (tb : TS) (D : Ends) (σ : L2.St) (vs : List V) (H1 : Hp) : Prop := ∃ a xs, vs = [.ref a] ∧ SqL K H1 a xs ∧ ∃ W : Nat → Nat → L2.St → Hp → Prop, (∃ m, W 0 m σ H1) ∧ ∀ i m σ H, W i m σ H →
  ((Ite K a).stop i H ∧ D.nx σ H) ∨ ((Ite K a).go i H ∧ ∃ N : L2.St → Hp → Prop, (∀ σ' H', N σ' H' → ∃ m', m' < m ∧ W (i + 1) m' σ' H') ∧ ∀ x H', (Ite K a).yld i H x H' → g x σ H' fun σ2 H2 => tb { D with nx := N, ct := N, bk := D.nx } σ2 H2)
def zLcE (K : PySem.W.Frag) (g : TG) (tt : TT) (te : TE) (vs : List Nat) (σ : L2.St) (as : List V) (H1 : Hp) (Q : VK) : Prop := ∃ a xs, as = [.ref a] ∧ SqL K H1 a xs ∧ ∀ D, H1 D = none → ∃ W : Nat → Nat → Hp → Prop, (∃ m, W 0 m (upd H1 D (.lst []))) ∧ ∀ i m H, W i m H →
  ((Ite K a).stop i H ∧ Q (.ref D) H) ∨ ((Ite K a).go i H ∧ ∃ Nx : Hp → Prop, (∀ H', Nx H' → ∃ m', m' < m ∧ W (i + 1) m' H') ∧ ∀ x H', (Ite K a).yld i H x H' → g x (wipe σ vs) H' fun σ2 H2 => wipe σ2 vs = wipe σ vs ∧ tt σ2 H2 fun b H3 =>
    if b = true then te σ2 H3 fun y H4 => ∃ acc, H4 D = some (.lst acc) ∧ acc.length < sizeLine ∧ Nx (upd H4 D (.lst (acc ++ [y]))) else Nx H3)
section
variable {K : PySem.W.Frag} {σ : L2.St} {H : Hp} {D : Ends} {ta : TA} {g : TG} {tb : TS} {a : Addr} {xs : List V} {tt : TT} {te : TE} {vs : List Nat} {Q : VK}
theorem z_forE (k : ta σ H fun vs H1 => zEnum K g tb D σ vs H1) : tFor (iEnum K ta) g tb D σ H := k
theorem z_lcE (k : ta σ H fun as H1 => zLcE K g tt te vs σ as H1 Q) : tLc (iEnum K ta) g tt te vs σ H Q := k
theorem z_enum {u v : Nat} (h : SqL K H a xs) (Pv : Nat → L2.St → Hp → Prop) (h0 : Pv 0 σ H) (hk : ∀ i σ' H', Pv i σ' H' → SqL K H' a xs)
    (hs : ∀ i x p σ' H', xs[i]? = some x → Pv i σ' H' → H' p = none → tb { D with nx := Pv (i + 1), ct := Pv (i + 1), bk := D.nx } ((σ'.set u (some (.int (i : Nat)))).set v (some x)) (upd H' p (.tup [.int (i : Nat), x])))
    (hd : ∀ σ' H', Pv xs.length σ' H' → D.nx σ' H') : zEnum K (gTup K 2 (gCons (gName u) (gCons (gName v) gNil))) tb D σ [.ref a] H := by
  refine ⟨a, xs, rfl, h, fun i m σ H => m = xs.length - i ∧ i ≤ xs.length ∧ Pv i σ H, ⟨_, rfl, Nat.zero_le _, h0⟩, ?_⟩
  rintro i m σ' H' ⟨rfl, hi, p⟩
  have q1 := hk i σ' H' p
  by_cases hlt : i < xs.length
  · refine .inr ⟨⟨xs, xs[i], q1, by simp [hlt]⟩, Pv (i + 1), fun σ2 H2 p' => ⟨_, by omega, rfl, by omega, p'⟩, ?_⟩
    rintro x H2 ⟨T, x1, rfl, hT, rfl, f1⟩
    exact ⟨T, [.int (i : Nat), x1], rfl, .inl (.inl upd_same), rfl, .int (i : Nat), [x1], rfl, x1, [], rfl, rfl, hs i x1 T σ' H' (f1 xs q1) p hT⟩
  · have e : i = xs.length := by omega
    subst e
    exact .inl ⟨⟨xs, q1, by omega⟩, hd σ' H' p⟩
theorem z_lce {u v : Nat} (h : SqL K H a xs) (Pv : Addr → Nat → Hp → Prop) (h0 : ∀ D, H D = none → Pv D 0 (upd H D (.lst []))) (hk : ∀ D i H', H D = none → Pv D i H' → SqL K H' a xs)
    (hs : ∀ D i x p H', H D = none → xs[i]? = some x → Pv D i H' → H' p = none → wipe (((wipe σ vs).set u (some (.int (i : Nat)))).set v (some x)) vs = wipe σ vs ∧ tt (((wipe σ vs).set u (some (.int (i : Nat)))).set v (some x)) (upd H' p (.tup [.int (i : Nat), x])) fun b H3 =>
      if b = true then te (((wipe σ vs).set u (some (.int (i : Nat)))).set v (some x)) H3 fun y H4 => ∃ acc, H4 D = some (.lst acc) ∧ acc.length < sizeLine ∧ Pv D (i + 1) (upd H4 D (.lst (acc ++ [y]))) else Pv D (i + 1) H3)
    (hd : ∀ D H', H D = none → Pv D xs.length H' → Q (.ref D) H') : zLcE K (gTup K 2 (gCons (gName u) (gCons (gName v) gNil))) tt te vs σ [.ref a] H Q := by
  refine ⟨a, xs, rfl, h, fun D hD => ⟨fun i m H => m = xs.length - i ∧ i ≤ xs.length ∧ Pv D i H, ⟨_, rfl, Nat.zero_le _, h0 D hD⟩, ?_⟩⟩
  rintro i m H' ⟨rfl, hi, p⟩
  have q1 := hk D i H' hD p
  by_cases hlt : i < xs.length
  · refine .inr ⟨⟨xs, xs[i], q1, by simp [hlt]⟩, Pv D (i + 1), fun H2 p' => ⟨_, by omega, rfl, by omega, p'⟩, ?_⟩
    rintro x H2 ⟨T, x1, rfl, hT, rfl, f1⟩
    exact ⟨T, [.int (i : Nat), x1], rfl, .inl (.inl upd_same), rfl, .int (i : Nat), [x1], rfl, x1, [], rfl, rfl, hs D i x1 T H' hD (f1 xs q1) p hT⟩
  · have e : i = xs.length := by omega
    subst e
    exact .inl ⟨⟨xs, q1, by omega⟩, hd D H' hD p⟩
end
/-! ### attributes -/
def zFld (K : PySem.W.Frag) (f : Str) (x : V) (H : Hp) (Q : VK) : Prop := ∃ a C dx fs v, x = .ref a ∧ H a = some (.ins C dx fs) ∧ Cls K C ∧ NoAttr K C f ∧ fs.lookup f = some v ∧ Q v H
def zSet (K : PySem.W.Frag) (f : Str) (y x : V) (H : Hp) (N : Hp → Prop) : Prop := ∃ a C dx fs, x = .ref a ∧ H a = some (.ins C dx fs) ∧ Cls K C ∧ NoAttr K C f ∧ fs.length < 1000 ∧ N (upd H a (.ins C dx (putF f y fs)))
theorem z_fldt {K : PySem.W.Frag} {σ : L2.St} {H : Hp} {ta : TE} {f : Str} {Q : VK} (k : ta σ H fun x H1 => zFld K f x H1 Q) : tFld K ta f σ H Q := k
theorem z_sett {K : PySem.W.Frag} {σ : L2.St} {H : Hp} {ta tv : TE} {f : Str} {D : Ends} (k : tv σ H fun y H1 => ta σ H1 fun x H2 => zSet K f y x H2 fun H3 => D.nx σ H3) : sFld K ta tv f D σ H := k

local macro_rules | `(tactic| walk_at "ne") => `(tactic| with_reducible first | assumption | exact Ne.symm (by assumption) | exact ne_n (by assumption) (by assumption) | exact Ne.symm (ne_n (by assumption) (by assumption)))
local macro_rules | `(tactic| walk_at "df") => `(tactic| (intro zz; cases zz; done))
local macro_rules | `(tactic| walk_at "ns") => `(tactic| first | exact NotSt.ints | exact NotSt.refs | exact NotSt.strs | (intro _ _ _ zz; cases zz; done))
local macro_rules | `(tactic| walk_at "lk") => `(tactic| with_reducible first | assumption | ((show upd _ _ _ _ = _); first | exact upd_same | exact lk_new (by assumption) (by walk_at "lk") | ((fail_if_success refine lk_new (by assumption) ?_); first | exact lk_ne (by walk_at "ne") (by walk_at "lk") | exact lk_df (by walk_at "lk") (by walk_at "lk") (by with_unfolding_all walk_at "df"))) | exact ExD.lk (by assumption) (by walk_at "lk") (by with_unfolding_all walk_at "ns") | exact Same.lk (by assumption) (by walk_at "lk"))
local macro_rules | `(tactic| walk_at "sqL") => `(tactic| with_reducible first | assumption | exact SqL.of (by walk_at "lk") | ((show SqL _ (upd _ _ _) _ _); first | exact sqL_new (by assumption) (by walk_at "sqL") | exact sqL_ne (by walk_at "ne") (by walk_at "sqL")) | exact Same.seq (by assumption) (by walk_at "sqL"))
local macro_rules | `(tactic| walk_at "sqT") => `(tactic| with_reducible first | assumption | exact SqT.of (by walk_at "lk") | ((show SqT _ (upd _ _ _) _ _); first | exact sqT_new (by assumption) (by walk_at "sqT") | exact sqT_ne (by walk_at "ne") (by walk_at "sqT")))
local macro_rules | `(tactic| walk_at "sq") => `(tactic| first | exact Or.inl (by walk_at "sqL") | exact Or.inr (by walk_at "sqT"))
local macro_rules | `(tactic| walk_at "mulok") => `(tactic| first | exact mul1 (by omega) | exact mul2 (by omega))
local macro_rules | `(tactic| walk_at "few") => `(tactic| (simp only [List.length_cons, List.length_nil]; with_unfolding_all decide))
local macro_rules | `(tactic| walk_at "zo") => `(tactic| (with_reducible first
  | refine z_add ?_ | refine z_sub ?_ | refine z_lt ?_ | refine z_le ?_ | refine z_gt ?_ | refine z_ge ?_ | refine z_eq ?_ | refine z_ne ?_ | refine z_neg ?_ | refine z_int ?_ | refine z_max ?_ | refine z_min ?_ | refine z_abs ?_
  | refine z_eqS ?_ | refine z_neS ?_ | refine z_eqIS ?_ | refine z_eqSI ?_ | refine z_neIS ?_ | refine z_neSI ?_ | refine z_eqB ?_ | refine z_neB ?_ | refine z_eqN ?_ | refine z_neN ?_ | refine z_is ?_ | refine z_isNot ?_ | refine z_isB ?_ | refine z_isNotB ?_ | refine z_isbb ?_ | refine z_isbi ?_
  | refine z_ltS ?_ | refine z_leS ?_ | refine z_gtS ?_ | refine z_geS ?_ | refine z_isii ?_ | refine z_isib ?_))
local macro_rules | `(tactic| walk_at "zp") => `(tactic| with_reducible first
  | ((show uMul _ _ _ _); refine z_mul (by walk_at "mulok") ?_)
  | ((show uDiv _ _ _ _); refine z_div (by exact div1 (by omega)) ?_)
  | ((show uMod _ _ _ _); refine z_mod (by omega) ?_)
  | ((show uPow _ _ _ _); refine z_pow (by with_unfolding_all exact ⟨by decide, by decide, by decide⟩) ?_; (simp only [Int.reduceToNat, Int.reducePow]))
  | ((show uIx _ _ _ _ _); refine z_ix (by walk_at "sq") (by first | with_unfolding_all rfl | assumption) ?_)
  | ((show uLen _ _ _ _); refine z_len (by walk_at "sq") ?_)
  | ((show uList _ _ _ _); refine z_list (by walk_at "sq") ?_; intro _ _)
  | ((show rSetL _ _ _ _ _); refine z_setL (by walk_at "lk") (by with_unfolding_all rfl) ?_)
  | ((show tyV _ "list" _ _ ∧ _); refine ⟨tyL (by walk_at "lk"), ?_⟩)
  | ((show uIsi _ [_, V.ty "list"] _ _); refine z_isll (by walk_at "lk") ?_)
  | ((show uIsi _ [_, V.ty "tuple"] _ _); refine z_istt (by walk_at "lk") ?_)
  | ((show zNewL _ _ _); refine z_newL (by walk_at "few") ?_; intro _ _)
  | ((show zNewT _ _ _); refine z_newT (by walk_at "few") ?_; intro _ _))
local macro_rules | `(tactic| walk_at "ze") => `(tactic| (with_reducible first
  | ((show tVar _ _ _ _); refine z_var (by with_unfolding_all rfl) ?_) | refine z_c ?_ | refine z_op ?_ | refine z_cons ?_ | refine z_nil ?_ | refine z_cal ?_ | refine z_cb ?_ | refine z_test ?_ | refine z_bl ?_ | refine z_un ?_
  | refine z_tru ?_ | refine z_trub ?_ | refine z_trui ?_ | refine z_and ?_ | refine z_or ?_ | refine z_not ?_ | refine z_andV ?_ | refine z_orV ?_ | refine z_notV ?_ | refine z_bl1 ?_ | refine z_if ?_ | refine z_lst ?_ | refine z_tup ?_ | refine z_chain ?_))
local macro_rules | `(tactic| walk_at "zs") => `(tactic| (with_reducible first
  | refine z_seq ?_ | refine z_asg ?_ | refine z_ifS ?_ | refine z_ret ?_ | refine z_drop ?_ | refine z_next ?_ | refine z_brk ?_ | refine z_cont ?_ | refine z_retN ?_ | refine z_iteT ?_ | refine z_iteF ?_ | refine z_for1 ?_ | refine z_for2 ?_ | refine z_asgS ?_ | refine z_bm ?_ | refine z_forSq ?_ | refine z_forZ ?_ | refine z_forE ?_ | refine z_lcE ?_ | refine z_fldt ?_ | refine z_sett ?_ | refine z_lcSq ?_ | refine z_lc1 ?_ | refine z_yes ?_ | refine z_gName ?_))
local macro_rules | `(tactic| walk_at "z") => `(tactic| first | walk_at "ze" | walk_at "zo" | walk_at "zs" | walk_at "zp" | (dsimp only [List.set]))
local macro_rules | `(tactic| walk_at "zz") => `(tactic| repeat (walk_at "z"))
local macro_rules | `(tactic| walk_at "zd") => `(tactic| ((with_reducible show ite _ _ _); first | refine z_iteT' (by decide +kernel) ?_ | refine z_iteF' (by decide +kernel) ?_))
local macro_rules | `(tactic| walk_at "zx") => `(tactic| repeat (first | walk_at "z" | walk_at "zd"))

/-! ### the draws of a law -/
-- _law_row(_law_script, _law_k): slots 0:_law_script 1:_law_k 2:_law_cell 3:_law_a 4:_law_b 5:_law_c
def T_law_row (K : PySem.W.Frag) : TS :=
    (tSeq (tAsg (tC (.int 0)) (gName 2))
    (tCut (tIfS (tTest (tOp (uLt K) (tVar 1) (tCB (uLen K) (tCons (tVar 0) tNil)))) (tAsg (tOp (uIx K) (tVar 0) (tVar 1)) (gName 2)) tNext)
    (tCut (tIfS (tTest (tOp (uLt K) (tVar 2) (tC (.int 0)))) (tAsg (tOp uSub (tOp uMul (tUn uNeg (tC (.int 2))) (tVar 2)) (tC (.int 1))) (gName 2)) tNext)
    (tCut (tIfS (tTest (tOp (uLt K) (tVar 2) (tOp uPow (tC (.int 10)) (tC (.int 9))))) (tSeq (tAsg (tOp uMod (tCB uInt (tCons (tOp (uAdd K) (tOp (uAdd K) (tOp uMul (tVar 2) (tC (.int 48271))) (tOp uMul (tVar 1) (tC (.int 69621)))) (tC (.int 11))) tNil)) (tC (.int 2147483647))) (gName 3))
    (tSeq (tAsg (tOp uMod (tCB uInt (tCons (tOp (uAdd K) (tOp (uAdd K) (tOp (uAdd K) (tOp uMul (tVar 3) (tC (.int 16807))) (tOp uMul (tVar 2) (tC (.int 7)))) (tVar 1)) (tC (.int 5))) tNil)) (tC (.int 2147483629))) (gName 4))
    (tSeq (tAsg (tOp uMod (tCB uInt (tCons (tOp (uAdd K) (tOp (uAdd K) (tOp uMul (tVar 4) (tC (.int 39373))) (tOp uMul (tVar 3) (tVar 4))) (tC (.int 3))) tNil)) (tC (.int 2147483587))) (gName 5))
    (tAsg (tOp (uAdd K) (tOp (uAdd K) (tVar 3) (tOp uMul (tVar 4) (tC (.int 2147483647)))) (tOp uMul (tVar 5) (tOp uPow (tC (.int 2147483647)) (tC (.int 2))))) (gName 2))))) tNext)
    (tRet (tVar 2))))))
def sp_law_row (K : PySem.W.Frag) : Sp := fun vs H Q _ => ∃ (L : Addr) (ns : List Int) (k : Int), vs = [.ref L, .int k] ∧ SqL K H L (ns.map V.int) ∧ 0 ≤ k ∧ ∀ c : Int, 0 ≤ c → Q (.int c) H
theorem r_law_row {K : PySem.W.Frag} {L : Addr} {ns : List Int} {k : Int} {H : Hp} {D : Ends} (hL : SqL K H L (ns.map V.int)) (hk : 0 ≤ k) (q : ∀ c : Int, 0 ≤ c → D.rt (.int c) H) :
    T_law_row K D [some (.ref L), some (.int k), none, none, none, none] H := by
  unfold T_law_row
  walk_at "zz"
  refine z_cut (fun σ H' => H = H' ∧ ∃ c : Int, σ = [some (.ref L), some (.int k), some (.int c), none, none, none]) ?_ ?_
  · walk_at "zz"
    refine z_itD (fun c => ?_) (fun c => ?_)
    · walk_at "zz"
      refine z_ix (.inl hL) (at_int hk (by simpa using c)) ?_
      walk_at "zz"
      exact ⟨rfl, _, rfl⟩
    · walk_at "zz"
      exact ⟨rfl, _, rfl⟩
  rintro σ H' ⟨rfl, c, rfl⟩
  refine z_cut (fun σ H' => H = H' ∧ ∃ c : Int, 0 ≤ c ∧ σ = [some (.ref L), some (.int k), some (.int c), none, none, none]) ?_ ?_
  · walk_at "zz"
    refine z_itD (fun c => ?_) (fun c => ?_)
    · walk_at "zz"
      exact ⟨rfl, _, by omega, rfl⟩
    · walk_at "zz"
      exact ⟨rfl, _, by omega, rfl⟩
  rintro σ H' ⟨rfl, c, hc, rfl⟩
  refine z_cut (fun σ H' => H = H' ∧ ∃ (c : Int) (x y z : Option V), 0 ≤ c ∧ σ = [some (.ref L), some (.int k), some (.int c), x, y, z]) ?_ ?_
  · walk_at "zz"
    refine z_itD (fun h => ?_) (fun h => ?_)
    · walk_at "zz"
      refine ⟨rfl, _, _, _, _, ?_, rfl⟩
      omega
    · walk_at "zz"
      exact ⟨rfl, _, _, _, _, hc, rfl⟩
  rintro σ H' ⟨rfl, c, x, y, z, hc, rfl⟩
  walk_at "zz"
  exact q c hc
-- _law_next(_law_state, _law_many): slots 0:_law_state 1:_law_many 2:_law_drawn
def T_law_next (K : PySem.W.Frag) : TS :=
    (tCut (tIfS (tTest (tOp (uLt K) (tOp (uIx K) (tVar 0) (tC (.int 2))) (tVar 1))) (tSeq (tAsg (tCal (sp_law_row K) (tCons (tOp (uIx K) (tVar 0) (tC (.int 0))) (tCons (tOp (uIx K) (tVar 0) (tC (.int 1))) tNil))) (gSub (tVar 0) (tC (.int 2)) rSetL))
    (tAsg (tOp (uAdd K) (tOp (uIx K) (tVar 0) (tC (.int 1))) (tC (.int 1))) (gSub (tVar 0) (tC (.int 1)) rSetL))) tNext)
    (tSeq (tAsg (tOp uMod (tCB uInt (tCons (tOp (uIx K) (tVar 0) (tC (.int 2))) tNil)) (tVar 1)) (gName 2))
    (tSeq (tAsg (tOp uDiv (tOp (uIx K) (tVar 0) (tC (.int 2))) (tVar 1)) (gSub (tVar 0) (tC (.int 2)) rSetL))
    (tRet (tVar 2)))))
/-- the state of the draws stands at st, the script's copy at L -/
structure Draw (H : Hp) (st L : Addr) : Prop where
  ex : ∃ (ns : List Int) (k a : Int), H st = some (.lst [.ref L, .int k, .int a]) ∧ H L = some (.lst (ns.map V.int)) ∧ L ≠ st ∧ 0 ≤ k ∧ 0 ≤ a
theorem Draw.ne {H : Hp} {st L p : Addr} (h : H p = none) (d : Draw H st L) : p ≠ st := by
  obtain ⟨_, _, _, e, _⟩ := d.ex
  exact (ne_of_none e h).symm
theorem Draw.neL {H : Hp} {st L p : Addr} (h : H p = none) (d : Draw H st L) : p ≠ L := by
  obtain ⟨_, _, _, _, e, _⟩ := d.ex
  exact (ne_of_none e h).symm
theorem Draw.new {H : Hp} {st L p : Addr} {o : HO} (h : H p = none) (d : Draw H st L) : Draw (upd H p o) st L := by
  obtain ⟨ns, k, a, e, s, n, hk, ha⟩ := d.ex
  exact ⟨ns, k, a, lk_ne (ne_of_none e h) e, lk_ne (ne_of_none s h) s, n, hk, ha⟩
theorem Draw.same {H H' : Hp} {st L : Addr} (x : Same H H') (d : Draw H st L) : Draw H' st L := by
  obtain ⟨ns, k, a, e, s, n, hk, ha⟩ := d.ex
  exact ⟨ns, k, a, x _ _ e, x _ _ s, n, hk, ha⟩
theorem Draw.put {H : Hp} {st L p : Addr} {o : HO} (h1 : p ≠ st) (h2 : p ≠ L) (d : Draw H st L) : Draw (upd H p o) st L := by
  obtain ⟨ns, k, a, e, s, n, hk, ha⟩ := d.ex
  exact ⟨ns, k, a, lk_ne h1.symm e, lk_ne h2.symm s, n, hk, ha⟩
theorem Draw.back {H H' : Hp} {st L p : Addr} (d : Draw H' st L) (x : ExD H H') (h : H' p = none) (hs : ∀ L k a, H p = some (.lst [.ref L, .int k, .int a]) → p = st) : H p = none := by
  cases e : H p with
  | none => rfl
  | some o =>
    by_cases n : NotSt o
    · have := x p o n e
      rw [h] at this; cases this
    · exfalso
      apply n
      rintro L k a rfl
      exact Draw.ne h d (hs L k a e)
def sp_law_next (K : PySem.W.Frag) : Sp := fun vs H Q _ => ∃ (st L : Addr) (m : Int), vs = [.ref st, .int m] ∧ Draw H st L ∧ 0 < m ∧ m < 1000000000000000000 ∧ ∀ (r : Int) (H' : Hp), 0 ≤ r → r < m → Draw H' st L → ExD H H' → Q (.int r) H'
theorem law_row_c {K : PySem.W.Frag} {L : Addr} {k : Int} {H : Hp} {Q : VK} {E : XK} {ns : List Int} (hL : SqL K H L (ns.map V.int)) (hk : 0 ≤ k) (q : ∀ c : Int, 0 ≤ c → Q (.int c) H) : sp_law_row K [.ref L, .int k] H Q E := ⟨L, ns, k, rfl, hL, hk, q⟩
theorem r_law_next {K : PySem.W.Frag} {st L : Addr} {m : Int} {H : Hp} {D : Ends} (d : Draw H st L) (h0 : 0 < m) (h1 : m < 1000000000000000000) (q : ∀ (r : Int) (H' : Hp), 0 ≤ r → r < m → Draw H' st L → ExD H H' → D.rt (.int r) H') :
    T_law_next K D [some (.ref st), some (.int m), none] H := by
  obtain ⟨ns, k, a, e, sL, n, hk, ha⟩ := d.ex
  have s : SqL K H L (ns.map V.int) := SqL.of sL
  unfold T_law_next
  refine z_cut (fun σ H' => ∃ k a : Int, H' = upd H st (.lst [.ref L, .int k, .int a]) ∧ 0 ≤ k ∧ 0 ≤ a ∧ σ = [some (.ref st), some (.int m), none]) ?_ ?_
  · walk_at "zz"
    refine z_itD (fun h => ?_) (fun h => ?_)
    · walk_at "zz"
      refine law_row_c s hk fun c hc => ?_
      walk_at "zz"
      refine ⟨k + 1, c, ?_, by omega, hc, rfl⟩
      simp only [upd_upd]; rfl
    · walk_at "zz"
      exact ⟨k, a, (upd_self e).symm, hk, ha, rfl⟩
  rintro σ H' ⟨k, a, rfl, hk, ha, rfl⟩
  walk_at "zz"
  refine q _ _ (Int.emod_nonneg _ (by omega)) (Int.emod_lt_of_pos _ h0) ⟨ns, k, a / m, upd_same, ?_, n, hk, Int.ediv_nonneg ha (by omega)⟩ ?_
  · exact lk_ne n (lk_ne n sL)
  · exact ExD.st e (ExD.st e (ExD.refl H))
theorem law_next_c {K : PySem.W.Frag} {st L : Addr} {m : Int} {H : Hp} {Q : VK} {E : XK} (d : Draw H st L) (h0 : 0 < m) (h1 : m < 1000000000000000000) (q : ∀ (r : Int) (H' : Hp), 0 ≤ r → r < m → Draw H' st L → ExD H H' → Q (.int r) H') : sp_law_next K [.ref st, .int m] H Q E :=
  ⟨st, L, m, rfl, d, h0, h1, q⟩
-- _law_is_integer(_law_actual): slots 0:_law_actual
def T_law_is_integer (K : PySem.W.Frag) : TS :=
    (tRet (tAndV (tCB (uIsi K) (tCons (tVar 0) (tCons (tC (.ty "int")) tNil))) (tNotV (tCB (uIsi K) (tCons (tVar 0) (tCons (tC (.ty "bool")) tNil))))))
def sp_law_is_integer (K : PySem.W.Frag) : Sp := fun vs H Q _ => ∃ i : Int, vs = [.int i] ∧ Q (.bl true) H
theorem r_law_is_integer {K : PySem.W.Frag} {i : Int} {H : Hp} {D : Ends} (q : D.rt (.bl true) H) : T_law_is_integer K D [some (.int i)] H := by
  unfold T_law_is_integer
  walk_at "zz"
  exact q
theorem Draw.start {H : Hp} {l p : Addr} {ns : List Int} (h1 : H l = none) (h2 : upd H l (.lst (ns.map V.int)) p = none) : Draw (upd (upd H l (.lst (ns.map V.int))) p (.lst [.ref l, .int 0, .int 0])) p l := by
  have ne : l ≠ p := ne_of_none (H := upd H l (.lst (ns.map V.int))) upd_same h2
  exact ⟨ns, 0, 0, upd_same, lk_ne ne upd_same, ne, by decide, by decide⟩
def sp_law (K : PySem.W.Frag) : Sp := fun vs H Q _ => ∃ (a : Addr) (ns : List Int), vs = [.ref a] ∧ SqL K H a (ns.map V.int) ∧ ns.length ≤ 63 ∧ ∀ H', Q (.bl true) H'
abbrev N_law_row : List Str := ["_law_script", "_law_k", "_law_cell", "_law_a", "_law_b", "_law_c"]
theorem w_law_row {K : PySem.W.Frag} : Wd (T_law_row K) N_law_row 2 (sp_law_row K) := fun vs H Q E h => by
  obtain ⟨L, ns, k, rfl, h1, h2, q⟩ := h
  exact ⟨rfl, r_law_row h1 h2 q⟩
abbrev N_law_next : List Str := ["_law_state", "_law_many", "_law_drawn"]
theorem w_law_next {K : PySem.W.Frag} : Wd (T_law_next K) N_law_next 2 (sp_law_next K) := fun vs H Q E h => by
  obtain ⟨st, L, m, rfl, d, h0, h1, q⟩ := h
  exact ⟨rfl, r_law_next d h0 h1 q⟩
abbrev N_law_is_integer : List Str := ["_law_actual"]
theorem w_law_is_integer {K : PySem.W.Frag} : Wd (T_law_is_integer K) N_law_is_integer 1 (sp_law_is_integer K) := fun vs H Q E h => by
  obtain ⟨i, rfl, q⟩ := h
  exact ⟨rfl, r_law_is_integer q⟩

local macro_rules | `(tactic| walk_at "dr") => `(tactic| with_reducible first | assumption | ((show Draw (upd _ _ _) _ _); first | exact Draw.new (by assumption) (by walk_at "dr") | exact Draw.put (by walk_at "ne") (by walk_at "ne") (by walk_at "dr")) | exact Draw.same (by assumption) (by walk_at "dr"))
local macro_rules | `(tactic| walk_at "nx") => `(tactic| (refine law_next_c (by walk_at "dr") (by first | decide | omega) (by first | decide | omega) ?_))

/-! own classes: what is known of each, by its name -/
/-- where the classes stand, and which there are -/
structure CEnv where
  cls : Str → Addr
  has : Str → Prop
/-- the package's classes below another one -/
def SUBP : List (Str × Str) := [("Norms", "Fact"), ("Parts", "Fact"), ("Cell", "Fact"), ("Box", "Fact"), ("Differ", "Fact"), ("Counts", "Fact"), ("Names", "Fact"), ("Range", "FieldFact"), ("Values", "FieldFact"), ("Range", "Fact"), ("Values", "Fact"), ("FieldFact", "Fact"),
  ("Every", "Condition"), ("Has", "Condition"), ("Compare", "Condition"), ("OneOf", "Condition"), ("Both", "Condition"), ("Either", "Condition"), ("Negation", "Condition")]
def SUB (x y : Str) : Bool := x == y || SUBP.contains (x, y)
structure ClsOk (K : PySem.W.Frag) (c : CEnv) (x : Str) (gs : List Str) : Prop where
  cl : Cls K (c.cls x)
  na : ∀ f, gs.contains f = true → NoAttr K (c.cls x) f
  ha : PySem.W.findIn K (.ref (c.cls x)) "__class__" = some (some (.builtin "object.__class__"))
  hn : PySem.W.specialIn K (.builtin "object.__class__") "__get__" = some (some (.builtin "getset_descriptor.__get__"))
  htk : PySem.W.takesIn K (.builtin "object.__class__") = some true
  hm : PySem.W.mroIn K (c.cls x) (.type "object") = some true
  sub : ∀ y, c.has y → PySem.W.kitOne K (.ref (c.cls x)) (.ref (c.cls y)) = some (SUB x y)
/-- the class named, as isinstance asks of it -/
structure IsF (K : PySem.W.Frag) (c : CEnv) (x : Str) : Prop where
  has : c.has x
  ki : ∀ n, ["int", "bool", "str", "NoneType", "tuple", "list", "dict"].contains n = true → PySem.W.kitOne K (.type n) (.ref (c.cls x)) = some false
/-- an instance stands at p -/
def InsAt (K : PySem.W.Frag) (c : CEnv) (H : Hp) (p : Addr) (x : Str) (fs : List (Str × V)) : Prop := ClsOk K c x (fs.map (·.1)) ∧ ∃ dx, H p = some (.ins (c.cls x) dx fs)
theorem InsAt.same {K : PySem.W.Frag} {c : CEnv} {H H' : Hp} {p : Addr} {x : Str} {fs : List (Str × V)} (s : Same H H') (i : InsAt K c H p x fs) : InsAt K c H' p x fs := ⟨i.1, i.2.choose, s _ _ i.2.choose_spec⟩
theorem NotSt.ins {C dx : Addr} {fs : List (Str × V)} : NotSt (.ins C dx fs) := fun _ _ _ z => by cases z
theorem NotSt.tup {xs : List V} : NotSt (.tup xs) := fun _ _ _ z => by cases z
theorem InsAt.exd {K : PySem.W.Frag} {c : CEnv} {H H' : Hp} {p : Addr} {x : Str} {fs : List (Str × V)} (s : ExD H H') (i : InsAt K c H p x fs) : InsAt K c H' p x fs := ⟨i.1, i.2.choose, s _ _ NotSt.ins i.2.choose_spec⟩
theorem InsAt.new {K : PySem.W.Frag} {c : CEnv} {H : Hp} {p r : Addr} {x : Str} {fs : List (Str × V)} {o : HO} (h : H r = none) (i : InsAt K c H p x fs) : InsAt K c (upd H r o) p x fs := ⟨i.1, i.2.choose, lk_new h i.2.choose_spec⟩
theorem InsAt.putL {K : PySem.W.Frag} {c : CEnv} {H : Hp} {p r : Addr} {x : Str} {fs : List (Str × V)} {xs : List V} {o : HO} (h : H r = some (.lst xs)) (i : InsAt K c H p x fs) : InsAt K c (upd H r o) p x fs := ⟨i.1, i.2.choose, lk_df i.2.choose_spec h (fun z => by cases z)⟩
/-! ### making, methods, properties, == -/
structure Mkr (P : Program) (w : World) (K : PySem.W.Frag) (mg : Str → Option Value) (base : Heap) (k : Nat) (C : Addr) (ps : List Str) (sp : Sp) : Prop where
  ex : ∃ (f : Addr) (fd : FuncData), Mk K C f ∧ Binds K fd ps [] ∧ FnOk P w K mg base CX0 k f fd ps sp
structure Mth (P : Program) (w : World) (K : PySem.W.Frag) (mg : Str → Option Value) (base : Heap) (k : Nat) (C : Addr) (m : Str) (ps : List Str) (sp : Sp) : Prop where
  ex : ∃ (f : Addr) (fd : FuncData), Meth K C m f ∧ Binds K fd ps [] ∧ FnOk P w K mg base CX0 k f fd ps sp
structure Prp (P : Program) (w : World) (K : PySem.W.Frag) (mg : Str → Option Value) (base : Heap) (k : Nat) (C : Addr) (m : Str) (ps : List Str) (sp : Sp) : Prop where
  ex : ∃ (p f : Addr) (fd : FuncData), PropOf K C m p f ∧ Binds K fd ps [] ∧ FnOk P w K mg base CX0 k f fd ps sp
structure ClsF (K : PySem.W.Frag) (mg : Str → Option Value) (c : CEnv) (x : Str) (gs : List Str) : Prop where
  ok : ClsOk K c x gs
  is : c.has x → IsF K c x
  mg : mg x = some (.ref (c.cls x))
def tMk (K : PySem.W.Frag) (c : CEnv) (x : Str) (gs : List Str) (sp : Sp) (t : TA) : TE := fun σ H Q => t σ H fun vs H1 => ClsOk K c x gs → ∀ p dx, H1 p = none → H1 dx = none → dx ≠ p →
  sp (.ref p :: vs) (upd (upd H1 dx (.own p)) p (.ins (c.cls x) dx [])) (fun v H2 => v = .non ∧ Q (.ref p) H2) E0
def tMt (c : CEnv) (x m : Str) (sp : Sp) (ta : TE) (t : TA) : TE := fun σ H Q => ta σ H fun v H1 => ∃ a dx fs, v = .ref a ∧ H1 a = some (.ins (c.cls x) dx fs) ∧ fs.lookup m = none ∧ t σ H1 fun vs H2 => sp (v :: vs) H2 Q E0
def tPr (c : CEnv) (x : Str) (sp : Sp) (ta : TE) : TE := fun σ H Q => ta σ H fun v H1 => ∃ a dx fs, v = .ref a ∧ H1 a = some (.ins (c.cls x) dx fs) ∧ sp [.ref a] H1 Q E0
def tCls (K : PySem.W.Frag) (c : CEnv) (x : Str) : TE := fun _ H Q => IsF K c x → Q (.ref (c.cls x)) H
/-- == of two instances of one class, by its own __eq__ -/
def uEqO (c : CEnv) (x : Str) (sp : Sp) : R2 := fun u v H Q => ∃ a b dx dy fs gs, u = .ref a ∧ v = .ref b ∧ H a = some (.ins (c.cls x) dx fs) ∧ H b = some (.ins (c.cls x) dy gs) ∧ sp [.ref a, .ref b] H (fun z H' => ∃ k, z = .bl k ∧ Q (.bl k) H') E0
section
variable {X : Cx} {c : CEnv} {k : Nat} {x m : Str} {ps gs : List Str} {sp : Sp} {p pos apos : Pos} {e o : Expr} {es : List Expr} {t : TA} {ta : TE}
theorem z_make (CF : ClsF X.K X.mg c x gs) (M : Mkr X.prog X.w X.K X.mg X.base k (c.cls x) ps sp) (hr : Room (k + 1) X.A) (hg : Gl X x) (ha : PA X (e :: es) t) (hdb : (x == ("__debug__" : Str)) = false := by decide)
    (he : starEach (e :: es) X.env = (false, eval e X.env) :: starEach es X.env := by rfl) (hpl : (backTo pos (starEach es X.env)).any (·.1) = false := by rfl) : PE X (.Call (.Name x p) (e :: es) [] pos) (tMk X.K c x gs sp t) := by
  obtain ⟨f, fd, hM, hb, F⟩ := M.ex
  have h := pe_make (E := E0) (dvs := []) (p := p) (pos := pos) hM F hr hg CF.mg hb .nil pass0 ha hdb he hpl
  refine ⟨fun pins s σ H Q I q => h.run pins s σ H Q I ?_⟩
  simp only [tMake, List.append_nil]
  have e : (t σ H fun vs H1 => ClsOk X.K c x gs → ∀ p dx, H1 p = none → H1 dx = none → dx ≠ p → sp (.ref p :: vs) (upd (upd H1 dx (.own p)) p (.ins (c.cls x) dx [])) (fun v H2 => v = .non ∧ Q (.ref p) H2) E0)
      = (t σ H fun vs H1 => ∀ p dx, H1 p = none → H1 dx = none → dx ≠ p → sp (.ref p :: vs) (upd (upd H1 dx (.own p)) p (.ins (c.cls x) dx [])) (fun v H2 => v = .non ∧ Q (.ref p) H2) E0) := by
    congr 1; funext vs H1; exact propext ⟨fun h => h CF.ok, fun h _ => h⟩
  rw [← e]; exact q
theorem z_meth {pl : Sem Bool} (he : PE X o ta) (CF : ClsF X.K X.mg c x gs) (M : Mth X.prog X.w X.K X.mg X.base k (c.cls x) m ps sp) (hr : Room k X.A) (ha : PA X (e :: es) t)
    (hst : starEach (e :: es) X.env = (false, eval e X.env) :: starEach es X.env := by rfl) (hpl : (backTo pos (starEach es X.env)).any (·.1) = false := by rfl)
    (ht : eval (.Call (.Attribute o m apos) (e :: es) [] pos) X.env = (do
      let ov ← eval o X.env
      standAt apos.atName
      let (f, first) ← holding [ov] (getMethod ov m pl)
      callWith pos f first (backTo pos (starEach (e :: es) X.env)) (backToKw pos (keywordEach [] X.env))) := by rfl) : PE X (.Call (.Attribute o m apos) (e :: es) [] pos) (tMt c x m sp ta t) := by
  obtain ⟨f, fd, hM, hb, F⟩ := M.ex
  have h := pe_meth (E := E0) (dvs := []) he CF.ok.cl hM F hr hb .nil pass0 ha hst hpl ht
  have e : tMeth (c.cls x) m sp [] E0 ta t = tMt c x m sp ta t := by
    funext σ H Q; simp only [tMeth, tMt, List.append_nil]
  rw [← e]; exact h
theorem z_meth0 {pl : Sem Bool} (he : PE X o ta) (CF : ClsF X.K X.mg c x gs) (M : Mth X.prog X.w X.K X.mg X.base k (c.cls x) m ps sp) (hr : Room k X.A)
    (ht : eval (.Call (.Attribute o m apos) [] [] pos) X.env = (do
      let ov ← eval o X.env
      standAt apos.atName
      let (f, first) ← holding [ov] (getMethod ov m pl)
      callWith pos f first (backTo pos (starEach [] X.env)) (backToKw pos (keywordEach [] X.env))) := by rfl) : PE X (.Call (.Attribute o m apos) [] [] pos) (tMt c x m sp ta tNil) := by
  obtain ⟨f, fd, hM, hb, F⟩ := M.ex
  have h := pe_meth0 (E := E0) (dvs := []) he CF.ok.cl hM F hr hb .nil pass0 ht
  refine ⟨fun pins s σ H Q I q => h.run pins s σ H Q I ?_⟩
  first
    | exact q
    | (simp only [List.append_nil] at *; exact q)
theorem z_prop (he : PE X e ta) (CF : ClsF X.K X.mg c x gs) (M : Prp X.prog X.w X.K X.mg X.base k (c.cls x) m ps sp) (hr : Room (k + 1) X.A) (hab : attributeBase e m X.env (eval e X.env) = eval e X.env) : PE X (.Attribute e m pos) (tPr c x sp ta) := by
  obtain ⟨q, f, fd, hM, hb, F⟩ := M.ex
  exact pe_prop (E := E0) (dvs := []) he CF.ok.cl hM F hr hb .nil pass0 hab
theorem z_cls (CF : ClsF X.K X.mg c x gs) (I' : IsF X.K c x) (hg : Gl X x) (hdb : (x == ("__debug__" : Str)) = false := by decide) : PE X (.Name x pos) (tCls X.K c x) :=
  ⟨fun _ _ _ H _ I h => ld_glob I hg CF.mg ⟨.ref (c.cls x), H, I, rfl, h I'⟩ hdb⟩
theorem op_eqO (CF : ClsF X.K X.mg c x gs) (M : Mth X.prog X.w X.K X.mg X.base k (c.cls x) "__eq__" ps sp) (hr : Room k X.A) : OpR X (compareOp .Eq) (uEqO c x sp) := by
  intro pins s σ H u v y z Q I rx ry hq
  obtain ⟨f, fd, hM, hb, F⟩ := M.ex
  obtain ⟨a, b, dx, dy, fs, hs, rfl, rfl, ha, hb', q⟩ := hq
  cases rx
  cases ry
  obtain ⟨mA, J, _⟩ := ins_get I.hok ha
  obtain ⟨mB, J', _⟩ := ins_get I.hok hb'
  obtain ⟨od, J, _⟩ := J.look
  obtain ⟨od', J', _⟩ := J'.look
  obtain ⟨m, hF⟩ := I.fr
  show wpAny (model X.prog X.w) X.A (richCompare .Eq (.ref a) (.ref b)) (EP X pins σ Q) X.xe s
  refine PySem.W.cmp_K (op := .Eq) (tb := .ref (c.cls x)) hr.units0 hF I.ok.mod.kin J J'.type (by simp [PySem.W.notFirst]) hM.at_ hM.fn ?_
  have r2 : Vals [V.ref a, V.ref b] [Value.ref a, Value.ref b] := .cons rfl (.cons rfl .nil)
  refine thn (run_fn (Q := fun z H' => ∃ k, z = .bl k ∧ Q (.bl k) H') (E := E0) (dvs := []) F hr hb .nil pass0 I r2 (by simpa using q)) fun w s' hw => ?_
  obtain ⟨zv, H', I', rz, hq⟩ := hw
  obtain ⟨kk, ez, q'⟩ := hq
  subst ez
  have rz2 : w = Value.bool kk := rz
  subst rz2
  exact ⟨.bl kk, H', I', rfl, q'⟩
end
section
variable {K : PySem.W.Frag} {c : CEnv} {x f : Str} {gs : List Str} {H : Hp} {Q : VK} {p dx : Addr} {fs : List (Str × V)} {v : V} {σ : L2.St} {t : TA} {ta : TE} {sp : Sp} {m : Str}
theorem z_fld (ok : ClsOk K c x gs) (h : H p = some (.ins (c.cls x) dx fs)) (l : fs.lookup f = some v) (n : gs.contains f = true) (k : Q v H) : zFld K f (.ref p) H Q := ⟨p, _, dx, fs, v, rfl, h, ok.cl, ok.na f n, l, k⟩
theorem z_set {N : Hp → Prop} {y : V} (ok : ClsOk K c x gs) (h : H p = some (.ins (c.cls x) dx fs)) (n : gs.contains f = true) (l : fs.length < 1000) (k : N (upd H p (.ins (c.cls x) dx (putF f y fs)))) : zSet K f y (.ref p) H N := ⟨p, _, dx, fs, rfl, h, ok.cl, ok.na f n, l, k⟩
theorem z_mk (k : t σ H fun vs H1 => ClsOk K c x gs → ∀ p dx, H1 p = none → H1 dx = none → dx ≠ p → sp (.ref p :: vs) (upd (upd H1 dx (.own p)) p (.ins (c.cls x) dx [])) (fun v H2 => v = .non ∧ Q (.ref p) H2) E0) : tMk K c x gs sp t σ H Q := k
theorem z_mt (k : ta σ H fun v H1 => ∃ a dx fs, v = .ref a ∧ H1 a = some (.ins (c.cls x) dx fs) ∧ fs.lookup m = none ∧ t σ H1 fun vs H2 => sp (v :: vs) H2 Q E0) : tMt c x m sp ta t σ H Q := k
theorem z_pr (k : ta σ H fun v H1 => ∃ a dx fs, v = .ref a ∧ H1 a = some (.ins (c.cls x) dx fs) ∧ sp [.ref a] H1 Q E0) : tPr c x sp ta σ H Q := k
theorem z_clsv (k : IsF K c x → Q (.ref (c.cls x)) H) : tCls K c x σ H Q := k
theorem z_isIns {y : Str} (i : IsF K c y) (ok : ClsOk K c x gs) (h : H p = some (.ins (c.cls x) dx fs)) (k : Q (.bl (SUB x y)) H) : uIsi K [.ref p, .ref (c.cls y)] H Q :=
  z_isi (ClsV.own _) (TyX.base (TyOf.ins h ok.cl ok.ha ok.hn ok.htk ok.hm)) (ok.sub y i.has) k
end
theorem na_of {P : Str → Prop} {gs : List Str} (h : ∀ f ∈ gs, P f) : ∀ f, gs.contains f = true → P f := fun f hf => h f (by simpa using hf)
theorem ki_of {K : PySem.W.Frag} {C : Addr} (h : ∀ n ∈ ["int", "bool", "str", "NoneType", "tuple", "list", "dict"], PySem.W.kitOne K (.type n) (.ref C) = some false) : ∀ n, ["int", "bool", "str", "NoneType", "tuple", "list", "dict"].contains n = true → PySem.W.kitOne K (.type n) (.ref C) = some false := fun n hn => h n (by simpa using hn)
theorem kit_own {K : PySem.W.Frag} {t : Value} {C : Addr} {b : Bool} (ic : PySem.W.isClsIn K C = true) (ty : PySem.W.typeIn K (.ref C) = some (.type "type")) (ss : PySem.W.subIn K (.ref C) (.ref C) = some true) (sb : PySem.W.subIn K t (.ref C) = some b) : PySem.W.kitOne K t (.ref C) = some b := by
  unfold PySem.W.kitOne
  split
  · rename_i h
    have e : t = .ref C := eq_of_beq h
    subst e
    rw [ss] at sb; exact sb
  · unfold PySem.W.kitCls
    have h1 : (PySem.W.clsIn K C).isSome = true := ic
    dsimp only
    rw [h1, ty]
    exact sb

local macro_rules | `(tactic| walk_at "z") => `(tactic| with_reducible first
  | ((show zFld _ _ _ _ _); refine z_fld (by assumption) (by walk_at "lk") (by with_unfolding_all rfl) (by with_unfolding_all rfl) ?_)
  | ((show zSet _ _ _ _ _ _); refine z_set (by assumption) (by walk_at "lk") (by with_unfolding_all rfl) (by with_unfolding_all exact of_decide_eq_true rfl) ?_)
  | (refine z_mk ?_) | (refine z_mt ?_) | (refine z_pr ?_) | (refine z_clsv ?_; intro _))

/-! ### the root -/
def rootN : Nat → Nat
  | 0 => 0
  | n + 1 => if (rootN n + 1) * (rootN n + 1) ≤ n + 1 then rootN n + 1 else rootN n
theorem rootN_spec (n : Nat) : rootN n * rootN n ≤ n ∧ n < (rootN n + 1) * (rootN n + 1) := by
  induction n with
  | zero => exact ⟨Nat.le_refl _, by decide⟩
  | succ n ih =>
    obtain ⟨h1, h2⟩ := ih
    unfold rootN
    split
    · rename_i h
      refine ⟨h, ?_⟩
      generalize rootN n = r at *
      have e : (r + 1 + 1) * (r + 1 + 1) = (r + 1) * (r + 1) + 2 * (r + 1) + 1 := by
        simp only [Nat.add_mul, Nat.mul_add]; omega
      omega
    · rename_i h
      refine ⟨by omega, by omega⟩
def rootZ (n : Int) : Int := (rootN n.toNat : Nat)
theorem rootZ_nn (n : Int) : 0 ≤ rootZ n := Int.natCast_nonneg _
theorem rootZ_spec {n : Int} (h : 0 ≤ n) : rootZ n * rootZ n ≤ n ∧ n < (rootZ n + 1) * (rootZ n + 1) := by
  have s := rootN_spec n.toNat
  unfold rootZ
  generalize rootN n.toNat = r at *
  have e : ((n.toNat : Nat) : Int) = n := Int.toNat_of_nonneg h
  constructor
  · have := Int.ofNat_le.mpr s.1
    rw [← e]; push_cast at this ⊢; exact this
  · have := Int.ofNat_lt.mpr s.2
    rw [← e]; push_cast at this ⊢; exact this
theorem sq_lt {a b : Int} (h0 : 0 ≤ a) (hb : 0 ≤ b) (h : a * a < b * b) : a < b := by
  rcases Int.lt_or_le a b with h1 | h1
  · exact h1
  · have := Int.mul_le_mul h1 h1 hb h0
    omega
theorem rootZ_uniq {n r : Int} (h0 : 0 ≤ r) (h1 : r * r ≤ n) (h2 : n < (r + 1) * (r + 1)) : r = rootZ n := by
  have hn : 0 ≤ n := Int.le_trans (Int.mul_nonneg h0 h0) h1
  obtain ⟨s1, s2⟩ := rootZ_spec hn
  have s0 := rootZ_nn n
  have a := sq_lt h0 (by omega) (Int.lt_of_le_of_lt h1 s2)
  have b := sq_lt s0 (by omega) (Int.lt_of_le_of_lt s1 h2)
  omega
theorem rootZ_neg {n : Int} (h : n < 0) : rootZ n = 0 := by
  unfold rootZ
  rw [Int.toNat_of_nonpos (by omega)]; rfl
/-- a factor is short when its square is -/
theorem mul_sq {a n : Int} {b : Nat} (h0 : 0 ≤ a) (h : a * a ≤ n) (hn : n < 2 ^ b) (hb : 0 < b ∧ b ≤ 400000) : MulOk a a := by
  have h1 : a.natAbs < 2 ^ b := by
    have h3 : a ≤ a * a := by
      rcases Int.lt_or_le a 1 with z | z
      · have : a = 0 := by omega
        subst this; simp
      · have := Int.mul_le_mul_of_nonneg_right z h0
        omega
    have h4 : ((2 ^ b : Nat) : Int) = (2 : Int) ^ b := by simp
    omega
  exact .inr (wide_mul h1 h1 hb.1 hb.1 (by omega))
-- root(number): slots 0:number 1:low 2:high 3:middle
def T_root_b1 (K : PySem.W.Frag) : TS :=
    (tAsg (tOp uMul (tVar 2) (tC (.int 2))) (gName 2))
def T_root_b2 (K : PySem.W.Frag) : TS :=
    (tSeq (tAsg (tOp uDiv (tOp (uAdd K) (tVar 1) (tVar 2)) (tC (.int 2))) (gName 3))
    (tIfS (tTest (tOp uLe (tOp uMul (tVar 3) (tVar 3)) (tVar 0))) (tAsg (tVar 3) (gName 1)) (tAsg (tVar 3) (gName 2))))
def T_root (K : PySem.W.Frag) : TS :=
    (tSeq (tAsg (tC (.int 0)) (gName 1))
    (tSeq (tAsg (tC (.int 1)) (gName 2))
    (tSeq (tWhile (tTest (tOp uLe (tOp uMul (tVar 2) (tVar 2)) (tVar 0))) (T_root_b1 K))
    (tSeq (tWhile (tTest (tOp uGt (tOp uSub (tVar 2) (tVar 1)) (tC (.int 1)))) (T_root_b2 K))
    (tRet (tVar 1))))))
def sp_root (K : PySem.W.Frag) : Sp := fun vs H Q _ => ∃ n : Int, vs = [.int n] ∧ n < 2 ^ 100000 ∧ Q (.int (rootZ n)) H
theorem r_root {K : PySem.W.Frag} {n : Int} {H : Hp} {D : Ends} (hn : n < 2 ^ 100000) (k : D.rt (.int (rootZ n)) H) : T_root K D [some (.int n), none, none, none] H := by
  unfold T_root
  walk_at "zz"
  have p2 : (2 : Int) ^ 100000 > 0 := Int.pow_pos (by decide)
  have pe : (2 : Int) ^ 100000 * 4 + 1 < 2 ^ 100003 := by
    have : (2 : Int) ^ 100003 = 2 ^ 100000 * 8 := by rw [show (100003 : Nat) = 100000 + 3 from rfl, Int.pow_add]; rfl
    omega
  generalize hM : (2 : Int) ^ 100000 = M at *
  refine z_while (fun m σ H' => H = H' ∧ ∃ h : Int, σ = [some (.int n), some (.int 0), some (.int h), none] ∧ 1 ≤ h ∧ (h = 1 ∨ h * h ≤ 4 * n) ∧ m = (n + 1 - h).toNat) (n + 1 - 1).toNat ⟨rfl, 1, rfl, by decide, .inl rfl, rfl⟩ ?_
  rintro m σ H' ⟨rfl, h, rfl, h1, h2, rfl⟩
  walk_at "zz"
  refine z_mul ?_ ?_
  · have : h * h ≤ 4 * M + 1 := by
      rcases h2 with rfl | h2 <;> omega
    exact mul_sq (n := h * h) (b := 100003) (by omega) (Int.le_refl _) (by omega) (by decide)
  walk_at "zz"
  refine z_itD (fun c => z_turn ?_) (fun c => ?_)
  · unfold T_root_b1
    walk_at "zz"
    have h3 : h ≤ n := by
      have := Int.mul_le_mul_of_nonneg_left h1 (show 0 ≤ h by omega)
      omega
    refine ⟨_, ?_, rfl, h * 2, rfl, by omega, .inr ?_, rfl⟩
    · omega
    · have : h * 2 * (h * 2) = 4 * (h * h) := by
        rw [Int.mul_assoc, Int.mul_left_comm 2 h 2, ← Int.mul_assoc, Int.mul_comm (h * h)]; rfl
      omega
  walk_at "zz"
  refine z_while (fun m σ H' => H = H' ∧ ∃ (lo hi : Int) (v : Option V), σ = [some (.int n), some (.int lo), some (.int hi), v] ∧ 0 ≤ lo ∧ lo < hi ∧ n < hi * hi ∧ (0 ≤ n → lo * lo ≤ n) ∧ hi ≤ h ∧ m = (hi - lo).toNat) (h - 0).toNat ⟨rfl, 0, h, none, rfl, by omega, by omega, by omega, fun z => by omega, Int.le_refl _, rfl⟩ ?_
  rintro m σ H' ⟨rfl, lo, hi, v, rfl, g1, g2, g3, g4, g5, rfl⟩
  walk_at "zz"
  refine z_itD (fun c2 => z_turn ?_) (fun c2 => ?_)
  · unfold T_root_b2
    walk_at "zz"
    have e1 : lo < (lo + hi) / 2 := by omega
    have e2 : (lo + hi) / 2 < hi := by omega
    generalize (lo + hi) / 2 = md at *
    have hm : md * md ≤ h * h := Int.mul_le_mul (by omega) (by omega) (by omega) (by omega)
    refine z_mul ?_ ?_
    · refine mul_sq (n := h * h) (b := 100003) (by omega) hm ?_ (by decide)
      rcases h2 with rfl | h2 <;> omega
    walk_at "zz"
    refine z_itD (fun c3 => ?_) (fun c3 => ?_)
    · walk_at "zz"
      exact ⟨_, by omega, rfl, md, hi, _, rfl, by omega, by omega, g3, fun _ => c3, g5, rfl⟩
    · walk_at "zz"
      exact ⟨_, by omega, rfl, lo, md, _, rfl, by omega, by omega, by omega, g4, by omega, rfl⟩
  · walk_at "zz"
    have e : hi = lo + 1 := by omega
    subst e
    rcases Int.lt_or_le n 0 with hz | hz
    · have : lo = 0 := by
        rcases h2 with rfl | h2
        · omega
        · exfalso
          have := Int.mul_nonneg (show 0 ≤ h by omega) (show 0 ≤ h by omega)
          omega
      subst this
      rw [rootZ_neg hz] at k
      exact k
    · rw [← rootZ_uniq g1 (g4 hz) g3] at k
      exact k
theorem root_c {K : PySem.W.Frag} {n : Int} {H : Hp} {Q : VK} {E : XK} (hn : n < 2 ^ 100000) (k : Q (.int (rootZ n)) H) : sp_root K [.int n] H Q E := ⟨n, rfl, hn, k⟩
-- gap(far, near): slots 0:far 1:near
def T_gap (K : PySem.W.Frag) : TS :=
    (tSeq (tIfS (tTest (tOp uGe (tVar 1) (tVar 0))) (tRet (tC (.int 0))) tNext)
    (tRet (tOp uSub (tOp (uAdd K) (tVar 0) (tVar 1)) (tCal (sp_root K) (tCons (tOp uMul (tOp uMul (tC (.int 4)) (tVar 0)) (tVar 1)) tNil)))))
def gapZ (far near : Int) : Int := if near ≥ far then 0 else far + near - rootZ (4 * far * near)
def Short (a : Int) : Prop := a.natAbs < 2 ^ 40000
theorem Short.mul {a b : Int} (ha : Short a) (hb : Short b) : MulOk a b := .inr (wide_mul ha hb (by decide) (by decide) (by decide))
theorem pow_le_pow {a b : Nat} (h : a ≤ b) : (2 : Nat) ^ a ≤ 2 ^ b := Nat.pow_le_pow_right (by decide) h
theorem Short.of {a : Int} {b : Nat} (h : a.natAbs < 2 ^ b) (hb : b ≤ 40000) : Short a := Nat.lt_of_lt_of_le h (pow_le_pow hb)
theorem Short.four {a : Int} (ha : Short a) : (4 * a).natAbs < 2 ^ 40003 := by
  rw [Int.natAbs_mul, show (40003 : Nat) = 3 + 40000 from rfl, Nat.pow_add]
  exact Nat.mul_lt_mul'' (by decide) ha
theorem Short.mul4 {a b : Int} (ha : Short a) (hb : Short b) : MulOk (4 * a) b := .inr (wide_mul ha.four hb (by decide) (by decide) (by decide))
theorem mul4 {a b : Int} (ha : Short a) (hb : Short b) : 4 * a * b < 2 ^ 100000 := by
  have h1 : (4 * a * b).natAbs < 2 ^ (3 + 40000 + 40000) := by
    rw [Int.natAbs_mul, Int.natAbs_mul, Nat.pow_add, Nat.pow_add]
    exact Nat.mul_lt_mul'' (Nat.mul_lt_mul'' (by decide) ha) hb
  have h2 : (2 : Nat) ^ (3 + 40000 + 40000) ≤ 2 ^ 100000 := pow_le_pow (by decide)
  have h3 : ((2 ^ 100000 : Nat) : Int) = (2 : Int) ^ 100000 := by rw [Int.natCast_pow]; rfl
  rw [← h3]
  generalize (2 : Nat) ^ 100000 = M at *
  generalize (2 : Nat) ^ (3 + 40000 + 40000) = M2 at *
  omega
def sp_gap (K : PySem.W.Frag) : Sp := fun vs H Q _ => ∃ far near : Int, vs = [.int far, .int near] ∧ Short far ∧ Short near ∧ Q (.int (gapZ far near)) H
theorem r_gap {K : PySem.W.Frag} {far near : Int} {H : Hp} {D : Ends} (h1 : Short far) (h2 : Short near) (k : D.rt (.int (gapZ far near)) H) : T_gap K D [some (.int far), some (.int near)] H := by
  unfold T_gap
  walk_at "zz"
  refine z_itD (fun c => ?_) (fun c => ?_)
  · walk_at "zz"
    rw [show gapZ far near = 0 from if_pos c] at k
    exact k
  · walk_at "zz"
    refine z_mul ?_ ?_
    · exact Short.mul4 h1 h2
    walk_at "zz"
    refine root_c (mul4 h1 h2) ?_
    walk_at "zz"
    rw [show gapZ far near = far + near - rootZ (4 * far * near) from if_neg c] at k
    exact k
abbrev N_root : List Str := ["number", "low", "high", "middle"]
theorem w_root {K : PySem.W.Frag} : Wd (T_root K) N_root 1 (sp_root K) := fun vs H Q E h => by
  obtain ⟨n, rfl, hn, k⟩ := h
  exact ⟨rfl, r_root hn k⟩
abbrev N_gap : List Str := ["far", "near"]
theorem w_gap {K : PySem.W.Frag} : Wd (T_gap K) N_gap 2 (sp_gap K) := fun vs H Q E h => by
  obtain ⟨far, near, rfl, h1, h2, k⟩ := h
  exact ⟨rfl, r_gap h1 h2 k⟩

/-! ### vectors -/
def innerZ : List Int → List Int → Int
  | x :: xs, y :: ys => x * y + innerZ xs ys
  | _, _ => 0
def distZ : List Int → List Int → Int
  | x :: xs, y :: ys => (x - y) * (x - y) + distZ xs ys
  | _, _ => 0
def diffZ : List Int → List Int → Int
  | x :: xs, y :: ys => (if x = y then 0 else 1) + diffZ xs ys
  | _, _ => 0
theorem sq_nn (x : Int) : 0 ≤ x * x := by
  rcases Int.le_total 0 x with h | h
  · exact Int.mul_nonneg h h
  · exact Int.mul_nonneg_of_nonpos_of_nonpos h h
theorem distZ_nn : ∀ a b : List Int, 0 ≤ distZ a b
  | x :: xs, y :: ys => Int.add_nonneg (sq_nn _) (distZ_nn xs ys)
  | [], _ => Int.le_refl 0
  | _ :: _, [] => Int.le_refl 0
theorem distZ_comm : ∀ a b : List Int, distZ a b = distZ b a
  | x :: xs, y :: ys => by
    show (x - y) * (x - y) + _ = (y - x) * (y - x) + _
    rw [distZ_comm xs ys, show x - y = -(y - x) by omega, Int.neg_mul_neg]
  | [], [] => rfl
  | [], _ :: _ => rfl
  | _ :: _, [] => rfl
theorem take_s {xs : List Int} {i : Nat} (h : i < xs.length) : xs.take (i + 1) = xs.take i ++ [xs.getD i 0] := by
  rw [List.take_succ, List.getElem?_eq_getElem h]
  simp [List.getD, h]
theorem distZ_app : ∀ (a b : List Int) (x y : Int), a.length = b.length → distZ (a ++ [x]) (b ++ [y]) = distZ a b + (x - y) * (x - y)
  | [], [], x, y, _ => by show (x - y) * (x - y) + 0 = 0 + (x - y) * (x - y); omega
  | [], _ :: _, _, _, h => by cases h
  | _ :: _, [], _, _, h => by cases h
  | u :: a, v :: b, x, y, h => by
    show (u - v) * (u - v) + distZ (a ++ [x]) (b ++ [y]) = (u - v) * (u - v) + distZ a b + (x - y) * (x - y)
    rw [distZ_app a b x y (by simpa using h)]; omega
theorem innerZ_app : ∀ (a b : List Int) (x y : Int), a.length = b.length → innerZ (a ++ [x]) (b ++ [y]) = innerZ a b + x * y
  | [], [], x, y, _ => by show x * y + 0 = 0 + x * y; omega
  | [], _ :: _, _, _, h => by cases h
  | _ :: _, [], _, _, h => by cases h
  | u :: a, v :: b, x, y, h => by
    show u * v + innerZ (a ++ [x]) (b ++ [y]) = u * v + innerZ a b + x * y
    rw [innerZ_app a b x y (by simpa using h)]; omega
theorem diffZ_app : ∀ (a b : List Int) (x y : Int), a.length = b.length → diffZ (a ++ [x]) (b ++ [y]) = diffZ a b + (if x = y then 0 else 1)
  | [], [], x, y, _ => by show (if x = y then (0 : Int) else 1) + 0 = 0 + (if x = y then 0 else 1); omega
  | [], _ :: _, _, _, h => by cases h
  | _ :: _, [], _, _, h => by cases h
  | u :: a, v :: b, x, y, h => by
    show (if u = v then (0 : Int) else 1) + diffZ (a ++ [x]) (b ++ [y]) = (if u = v then 0 else 1) + diffZ a b + (if x = y then 0 else 1)
    rw [diffZ_app a b x y (by simpa using h)]; omega
theorem distZ_take {a b : List Int} {i : Nat} (h : a.length = b.length) (hi : i < a.length) : distZ (a.take (i + 1)) (b.take (i + 1)) = distZ (a.take i) (b.take i) + (a.getD i 0 - b.getD i 0) * (a.getD i 0 - b.getD i 0) := by
  rw [take_s hi, take_s (h ▸ hi), distZ_app _ _ _ _ (by simp [h])]
theorem innerZ_take {a b : List Int} {i : Nat} (h : a.length = b.length) (hi : i < a.length) : innerZ (a.take (i + 1)) (b.take (i + 1)) = innerZ (a.take i) (b.take i) + a.getD i 0 * b.getD i 0 := by
  rw [take_s hi, take_s (h ▸ hi), innerZ_app _ _ _ _ (by simp [h])]
theorem diffZ_take {a b : List Int} {i : Nat} (h : a.length = b.length) (hi : i < a.length) : diffZ (a.take (i + 1)) (b.take (i + 1)) = diffZ (a.take i) (b.take i) + (if a.getD i 0 = b.getD i 0 then 0 else 1) := by
  rw [take_s hi, take_s (h ▸ hi), diffZ_app _ _ _ _ (by simp [h])]
/-- all within b of nought -/
def Bd (b : Int) (ns : List Int) : Prop := ∀ x ∈ ns, -b ≤ x ∧ x ≤ b
theorem Bd.app {b x : Int} {ns : List Int} (h : Bd b ns) (h1 : -b ≤ x) (h2 : x ≤ b) : Bd b (ns ++ [x]) := fun y hy => by
  rcases List.mem_append.mp hy with hy | hy
  · exact h y hy
  · rw [List.mem_singleton.mp hy]; exact ⟨h1, h2⟩
theorem Bd.mono {b c : Int} {ns : List Int} (h : Bd b ns) (hbc : b ≤ c) : Bd c ns := fun y hy => by have := h y hy; omega
theorem getD_mem {ns : List Int} {i : Nat} (h : i < ns.length) : ns.getD i 0 ∈ ns := by
  rw [List.getD_eq_getElem?_getD, List.getElem?_eq_getElem h]; exact List.getElem_mem h
theorem Bd.at {b : Int} {ns : List Int} (h : Bd b ns) {i : Nat} (hi : i < ns.length) : -b ≤ ns.getD i 0 ∧ ns.getD i 0 ≤ b := h _ (getD_mem hi)
theorem sq_le {x b : Int} (h1 : -b ≤ x) (h2 : x ≤ b) : x * x ≤ b * b := by
  rcases Int.le_total 0 x with h | h
  · exact Int.mul_le_mul h2 h2 h (by omega)
  · have := Int.mul_le_mul (show -x ≤ b by omega) (show -x ≤ b by omega) (show 0 ≤ -x by omega) (show 0 ≤ b by omega)
    rw [Int.neg_mul_neg] at this; exact this
theorem distZ_le {b : Int} : ∀ {xs ys : List Int}, Bd b xs → Bd b ys → distZ xs ys ≤ xs.length * (4 * (b * b))
  | [], _, _, _ => by simp [distZ]
  | x :: xs, [], _, _ => by
    have := sq_nn b
    show (0 : Int) ≤ _
    exact Int.mul_nonneg (Int.natCast_nonneg _) (by omega)
  | x :: xs, y :: ys, h1, h2 => by
    have ih := distZ_le (b := b) (fun z hz => h1 z (List.mem_cons_of_mem _ hz)) (fun z hz => h2 z (List.mem_cons_of_mem _ hz)) (xs := xs) (ys := ys)
    have a := h1 x List.mem_cons_self
    have c := h2 y List.mem_cons_self
    have e := sq_le (x := x - y) (b := 2 * b) (by omega) (by omega)
    have e2 : 2 * b * (2 * b) = 4 * (b * b) := by rw [Int.mul_assoc, Int.mul_left_comm b 2 b, ← Int.mul_assoc]; rfl
    show (x - y) * (x - y) + distZ xs ys ≤ ((xs.length + 1 : Nat) : Int) * (4 * (b * b))
    rw [Int.natCast_add, Int.add_mul]
    generalize (xs.length : Int) * (4 * (b * b)) = u at *
    generalize b * b = v at *
    omega
/-- the quadratic form of two vectors -/
theorem quad : ∀ (a b : List Int) (l m : Int), a.length = b.length → 0 ≤ l * l * innerZ a a + 2 * (l * m) * innerZ a b + m * m * innerZ b b
  | [], [], l, m, _ => by show 0 ≤ l * l * 0 + 2 * (l * m) * 0 + m * m * 0; simp
  | [], _ :: _, _, _, h => by cases h
  | _ :: _, [], _, _, h => by cases h
  | x :: a, y :: b, l, m, h => by
    have ih := quad a b l m (by simpa using h)
    have s := sq_nn (l * x + m * y)
    show 0 ≤ l * l * (x * x + innerZ a a) + 2 * (l * m) * (x * y + innerZ a b) + m * m * (y * y + innerZ b b)
    have e : (l * x + m * y) * (l * x + m * y) = l * l * (x * x) + 2 * (l * m) * (x * y) + m * m * (y * y) := by
      have e1 : l * x * (l * x) = l * l * (x * x) := by ac_rfl
      have e2 : l * x * (m * y) = l * m * (x * y) := by ac_rfl
      have e3 : m * y * (l * x) = l * m * (x * y) := by ac_rfl
      have e4 : m * y * (m * y) = m * m * (y * y) := by ac_rfl
      rw [Int.add_mul, Int.mul_add, Int.mul_add, e1, e2, e3, e4, Int.mul_assoc 2]
      omega
    rw [e] at s
    simp only [Int.mul_add]
    omega
theorem inner_sq_nn : ∀ a : List Int, 0 ≤ innerZ a a
  | [] => Int.le_refl 0
  | x :: a => Int.add_nonneg (sq_nn x) (inner_sq_nn a)
/-- Cauchy, Schwarz -/
theorem cauchy {a b : List Int} (h : a.length = b.length) : innerZ a b * innerZ a b ≤ innerZ a a * innerZ b b := by
  have hA := inner_sq_nn a
  have hB := inner_sq_nn b
  have q1 := quad a b (innerZ b b) (-innerZ a b) h
  have q2 := quad a b (innerZ a b) (-(innerZ a a + 1)) h
  generalize innerZ a a = A at *
  generalize innerZ b b = B at *
  generalize innerZ a b = S at *
  rcases Int.lt_or_le 0 B with z | z
  · have e : B * B * A + 2 * (B * -S) * S + -S * -S * B = B * (A * B - S * S) := by
      have e1 : B * B * A = B * (A * B) := by ac_rfl
      have e2 : 2 * (B * -S) * S = -(2 * (B * (S * S))) := by
        rw [Int.mul_neg, Int.mul_neg, Int.neg_mul]; congr 1; ac_rfl
      have e3 : -S * -S * B = B * (S * S) := by rw [Int.neg_mul_neg]; ac_rfl
      rw [e1, e2, e3, Int.mul_sub]; omega
    rw [e] at q1
    have : 0 ≤ A * B - S * S := by
      rcases Int.lt_or_le (A * B - S * S) 0 with n | n
      · have := Int.mul_neg_of_pos_of_neg z n
        omega
      · exact n
    omega
  · have hB0 : B = 0 := by omega
    subst hB0
    have e : S * S * A + 2 * (S * -(A + 1)) * S + -(A + 1) * -(A + 1) * 0 = -(S * S * (A + 2)) := by
      have e1 : 2 * (S * -(A + 1)) * S = -(2 * (S * S * (A + 1))) := by
        rw [Int.mul_neg, Int.mul_neg, Int.neg_mul]; congr 1; ac_rfl
      rw [e1, Int.mul_zero]; simp only [Int.mul_add]; omega
    rw [e] at q2
    have s0 := sq_nn S
    rw [Int.mul_zero]
    rcases Int.lt_or_le 0 (S * S) with n | n
    · have := Int.mul_pos n (show 0 < A + 2 by omega)
      omega
    · exact n
/-- the distances of three points -/
theorem dist3 : ∀ (a b c : List Int), a.length = b.length → b.length = c.length → ∃ x y : List Int, x.length = y.length ∧ distZ a b = innerZ x x ∧ distZ b c = innerZ y y ∧ distZ a c = innerZ x x + innerZ y y + 2 * innerZ x y
  | [], [], [], _, _ => ⟨[], [], rfl, rfl, rfl, rfl⟩
  | u :: a, v :: b, w :: c, h1, h2 => by
    obtain ⟨x, y, e0, e1, e2, e3⟩ := dist3 a b c (by simpa using h1) (by simpa using h2)
    refine ⟨(u - v) :: x, (v - w) :: y, by simp [e0], ?_, ?_, ?_⟩
    · show _ + _ = _ + _; rw [e1]
    · show _ + _ = _ + _; rw [e2]
    · show (u - w) * (u - w) + distZ a c = ((u - v) * (u - v) + innerZ x x) + ((v - w) * (v - w) + innerZ y y) + 2 * ((u - v) * (v - w) + innerZ x y)
      rw [e3, show u - w = (u - v) + (v - w) by omega]
      generalize u - v = p
      generalize v - w = q
      simp only [Int.add_mul, Int.mul_add, Int.mul_comm q p]
      omega
  | [], [], _ :: _, _, h => by cases h
  | [], _ :: _, _, h, _ => by cases h
  | _ :: _, [], _, h, _ => by cases h
  | _ :: _, _ :: _, [], _, h => by cases h
/-- the heart of the gap: with A, B, C the three distances -/
theorem gap_core {A B C far near : Int} (hC : 0 ≤ C) (hB : 0 ≤ B) (h4 : (C - A - B) * (C - A - B) ≤ 4 * (A * B)) (h1 : far ≤ A) (h2 : B ≤ near) (h3 : near < far) (t : 0 < far + near - C) :
    (far + near - C) * (far + near - C) ≤ 4 * (far * near) := by
  have id : ∀ u v : Int, 4 * (u * v) - (u + v - C) * (u + v - C) = 2 * (C * (u + v)) - (u - v) * (u - v) - C * C := fun u v => by
    simp only [Int.add_mul, Int.sub_mul, Int.mul_add, Int.mul_sub, Int.mul_comm v u, Int.mul_comm C u, Int.mul_comm C v]; omega
  have hAB : 0 ≤ 2 * (C * (A + B)) - (A - B) * (A - B) - C * C := by
    rw [← id A B]
    have : (C - A - B) * (C - A - B) = (A + B - C) * (A + B - C) := by
      rw [show C - A - B = -(A + B - C) by omega, Int.neg_mul_neg]
    omega
  have hn : 0 ≤ near := by omega
  have goal : 0 ≤ 2 * (C * (far + near)) - (far - near) * (far - near) - C * C := by
    rcases Int.lt_or_le C (far - near) with c | c
    · -- far from it: first from B to near, then from A to far
      have s1 : 0 ≤ 2 * (C * (A + near)) - (A - near) * (A - near) - C * C := by
        have m := Int.mul_nonneg (show 0 ≤ near - B by omega) (show 0 ≤ 2 * A - B - near + 2 * C by omega)
        have e : (near - B) * (2 * A - B - near + 2 * C) = (2 * (C * (A + near)) - (A - near) * (A - near)) - (2 * (C * (A + B)) - (A - B) * (A - B)) := by
          simp only [Int.add_mul, Int.sub_mul, Int.mul_add, Int.mul_sub, Int.mul_comm near A, Int.mul_comm B A, Int.mul_comm near B, Int.mul_comm C A, Int.mul_comm C B, Int.mul_comm C near, Int.mul_left_comm near 2, Int.mul_left_comm B 2]; omega
        omega
      have m := Int.mul_nonneg (show 0 ≤ A - far by omega) (show 0 ≤ A + far - 2 * near - 2 * C by omega)
      have e : (A - far) * (A + far - 2 * near - 2 * C) = (2 * (C * (far + near)) - (far - near) * (far - near)) - (2 * (C * (A + near)) - (A - near) * (A - near)) := by
        simp only [Int.add_mul, Int.sub_mul, Int.mul_add, Int.mul_sub, Int.mul_comm near A, Int.mul_comm far A, Int.mul_comm near far, Int.mul_comm C A, Int.mul_comm C far, Int.mul_comm C near, Int.mul_left_comm A 2, Int.mul_left_comm far 2]; omega
      omega
    · have m1 := Int.mul_nonneg hC (show 0 ≤ far + 3 * near - C by omega)
      have m2 := Int.mul_nonneg (show 0 ≤ far - near by omega) (show 0 ≤ C - (far - near) by omega)
      have e1 : C * (far + 3 * near - C) = 2 * (C * (far + near)) - C * (far - near) - C * C := by
        simp only [Int.mul_add, Int.mul_sub, Int.mul_left_comm C 3]; omega
      have e2 : (far - near) * (C - (far - near)) = C * (far - near) - (far - near) * (far - near) := by
        rw [Int.mul_sub, Int.mul_comm (far - near) C]
      omega
  have := id far near
  omega
theorem le_root {t n : Int} (h0 : 0 ≤ t) (h : t * t ≤ n) : t ≤ rootZ n := by
  obtain ⟨s1, s2⟩ := rootZ_spec (Int.le_trans (Int.mul_nonneg h0 h0) h)
  have := sq_lt h0 (show 0 ≤ rootZ n + 1 by have := rootZ_nn n; omega) (Int.lt_of_le_of_lt h s2)
  omega
theorem root_le {t n : Int} (h0 : 0 ≤ t) (hn : 0 ≤ n) (h : n ≤ t * t) : rootZ n ≤ t := by
  obtain ⟨s1, s2⟩ := rootZ_spec hn
  rcases Int.lt_or_le t (rootZ n) with z | z
  · have := Int.mul_lt_mul z (Int.le_of_lt z)
    exfalso
    have h3 : t * t < rootZ n * rootZ n := by
      have a := Int.mul_le_mul_of_nonneg_left (Int.le_of_lt z) h0
      have b := Int.mul_lt_mul_of_pos_right z (show 0 < rootZ n by omega)
      omega
    omega
  · exact z
theorem gap_nn {far near : Int} (h : 0 ≤ near) : 0 ≤ gapZ far near := by
  unfold gapZ
  split
  · exact Int.le_refl 0
  · rename_i h1
    have hf : 0 ≤ far := by omega
    have e : 4 * far * near = 4 * (far * near) := Int.mul_assoc _ _ _
    have p := Int.mul_nonneg hf h
    have : rootZ (4 * far * near) ≤ far + near := by
      refine root_le (by omega) (by omega) ?_
      have s := sq_nn (far - near)
      have e2 : (far + near) * (far + near) = (far - near) * (far - near) + 4 * (far * near) := by
        simp only [Int.add_mul, Int.sub_mul, Int.mul_add, Int.mul_sub, Int.mul_comm near far]; omega
      omega
    omega
theorem gap_safe {a b c : List Int} {far near : Int} (e1 : a.length = b.length) (e2 : b.length = c.length) (h1 : far ≤ distZ a b) (h2 : distZ b c ≤ near) : gapZ far near ≤ distZ a c := by
  have hC := distZ_nn a c
  have hB := distZ_nn b c
  unfold gapZ
  split
  · exact hC
  · rename_i h3
    obtain ⟨x, y, e0, eA, eB, eC⟩ := dist3 a b c e1 e2
    have cs := cauchy e0
    have e : 4 * far * near = 4 * (far * near) := Int.mul_assoc _ _ _
    have p := Int.mul_nonneg (show 0 ≤ far by omega) (show 0 ≤ near by omega)
    rcases Int.lt_or_le 0 (far + near - distZ a c) with t | t
    · have g := gap_core (A := distZ a b) (B := distZ b c) hC hB (by
        rw [eA, eB, eC]
        generalize innerZ x x = A at *
        generalize innerZ y y = B at *
        generalize innerZ x y = S at *
        rw [show A + B + 2 * S - A - B = 2 * S by omega]
        have : 2 * S * (2 * S) = 4 * (S * S) := by rw [Int.mul_assoc, Int.mul_left_comm S 2 S, ← Int.mul_assoc]; rfl
        omega) h1 h2 (by omega) t
      have := le_root (t := far + near - distZ a c) (n := 4 * far * near) (by omega) (by omega)
      omega
    · have := rootZ_nn (4 * far * near)
      omega

/-! ### data of ints -/
def dInts (ns : List Int) : List PyData := ns.map PyData.int
theorem dp_ints {K : PySem.W.Frag} {H : Hp} : ∀ ns : List Int, DpAll K H (ns.map V.int) (dInts ns)
  | [] => .nil
  | n :: ns => .cons (.int n) (dp_ints ns)
theorem lay_ints : ∀ ns : List Int, PyData.canLayAll0 (dInts ns) = true
  | [] => by simp only [dInts, List.map_nil, PyData.canLayAll0]
  | n :: ns => by
    have ih := lay_ints ns
    simp only [dInts, List.map_cons, PyData.canLayAll0, PyData.canLay0, Bool.true_and] at ih ⊢
    exact ih
theorem dep_ints : ∀ ns : List Int, PyData.depthAll (dInts ns) ≤ 1
  | [] => by simp only [dInts, List.map_nil, PyData.depthAll]; omega
  | n :: ns => by
    have ih := dep_ints ns
    simp only [dInts, List.map_cons, PyData.depthAll, PyData.depth] at ih ⊢
    omega
theorem shp_ints (ns : List Int) : SeqAt.shaped (.list (dInts ns)) = true := by
  unfold SeqAt.shaped
  rw [Bool.and_eq_true, decide_eq_true_eq]
  refine ⟨?_, ?_⟩
  · simp only [PyData.canLay0]; exact lay_ints ns
  · have := dep_ints ns
    simp only [PyData.depth]; omega
theorem shp_intsT (ns : List Int) : SeqAt.shaped (.tuple (dInts ns)) = true := by
  unfold SeqAt.shaped
  rw [Bool.and_eq_true, decide_eq_true_eq]
  refine ⟨?_, ?_⟩
  · simp only [PyData.canLay0]; exact lay_ints ns
  · have := dep_ints ns
    simp only [PyData.depth]; omega
theorem eqv_intsA : ∀ a b : List Int, PyData.eqvAll (dInts a) (dInts b) = decide (a = b)
  | [], [] => by simp only [dInts, List.map_nil, PyData.eqvAll]; rfl
  | [], _ :: _ => by simp only [dInts, List.map_nil, List.map_cons, PyData.eqvAll]; rfl
  | _ :: _, [] => by simp only [dInts, List.map_nil, List.map_cons, PyData.eqvAll]; rfl
  | x :: a, y :: b => by
    have ih := eqv_intsA a b
    simp only [dInts, List.map_cons, PyData.eqvAll, PyData.eqv] at ih ⊢
    rw [ih, Bool.eq_iff_iff]; simp
theorem eqv_ints (a b : List Int) : PyData.eqv (.list (dInts a)) (.list (dInts b)) = decide (a = b) := by
  simp only [PyData.eqv]; exact eqv_intsA a b
theorem z_neInts {K : PySem.W.Frag} {H : Hp} {Q : VK} {p r : Addr} {a b : List Int} (h1 : SqL K H p (a.map V.int)) (h2 : SqL K H r (b.map V.int)) (k : Q (.bl (!decide (a = b))) H) : uNe K (.ref p) (.ref r) H Q :=
  z_neD (.lst h1 (dp_ints a)) (.lst h2 (dp_ints b)) (shp_ints a) (shp_ints b) (by rw [eqv_ints]; exact k)
theorem z_eqInts {K : PySem.W.Frag} {H : Hp} {Q : VK} {p r : Addr} {a b : List Int} (h1 : SqL K H p (a.map V.int)) (h2 : SqL K H r (b.map V.int)) (k : Q (.bl (decide (a = b))) H) : uEq K (.ref p) (.ref r) H Q :=
  z_eqD (.lst h1 (dp_ints a)) (.lst h2 (dp_ints b)) (shp_ints a) (shp_ints b) (by rw [eqv_ints]; exact k)

/-! ### regions -/
def pV : Option Int → V
  | none => .non
  | some i => .int i
def RegAt (K : PySem.W.Frag) (c : CEnv) (H : Hp) (p : Addr) (par : Option Int) (fs : List Addr) : Prop := ∃ t, InsAt K c H p "Region" [("parent", pV par), ("facts", .ref t)] ∧ SqT K H t (fs.map V.ref)
theorem RegAt.same {K : PySem.W.Frag} {c : CEnv} {H H' : Hp} {p : Addr} {par : Option Int} {fs : List Addr} (s : Same H H') (i : RegAt K c H p par fs) : RegAt K c H' p par fs := let ⟨t, a, b⟩ := i; ⟨t, a.same s, Same.sqT s b⟩
structure RegsAt (K : PySem.W.Frag) (c : CEnv) (H : Hp) (r : Addr) (rs : List (Option Int × List Addr)) : Prop where
  ex : ∃ ps : List Addr, SqL K H r (ps.map V.ref) ∧ ps.length = rs.length ∧ ∀ (i : Nat) p e, ps[i]? = some p → rs[i]? = some e → RegAt K c H p e.1 e.2
theorem RegsAt.same {K : PySem.W.Frag} {c : CEnv} {H H' : Hp} {r : Addr} {rs : List (Option Int × List Addr)} (s : Same H H') (i : RegsAt K c H r rs) : RegsAt K c H' r rs := by
  obtain ⟨ps, a, b, d⟩ := i.ex
  exact ⟨ps, Same.seq s a, b, fun i p e h1 h2 => (d i p e h1 h2).same s⟩
/-- the region at a place -/
theorem RegsAt.at {K : PySem.W.Frag} {c : CEnv} {H : Hp} {r : Addr} {rs : List (Option Int × List Addr)} (h : RegsAt K c H r rs) {i : Int} (h0 : 0 ≤ i) (h1 : i < rs.length) :
    ∃ (xs : List V) (p : Addr) (e : Option Int × List Addr), SqL K H r xs ∧ atI xs i = some (.ref p) ∧ rs[i.toNat]? = some e ∧ RegAt K c H p e.1 e.2 := by
  obtain ⟨ps, a, b, d⟩ := h.ex
  have l1 : i.toNat < ps.length := by omega
  have l2 : i.toNat < rs.length := by omega
  refine ⟨_, ps[i.toNat], rs[i.toNat], a, ?_, List.getElem?_eq_getElem l2, d _ _ _ (List.getElem?_eq_getElem l1) (List.getElem?_eq_getElem l2)⟩
  unfold atI
  rw [ix_at h0 (by simpa using by omega)]
  simp [l1]
theorem map_ref {xs : List Addr} {i : Nat} {x : V} (h : (xs.map V.ref)[i]? = some x) : ∃ p, xs[i]? = some p ∧ x = .ref p := by
  rw [List.getElem?_map] at h
  cases e : xs[i]? with
  | none => rw [e] at h; cases h
  | some y => rw [e] at h; exact ⟨y, rfl, (Option.some.inj h).symm⟩
abbrev N_Region_init : List Str := ["self", "parent", "facts"]
-- Region.__init__(self, parent, facts): slots 0:self 1:parent 2:facts
def T_Region_init (K : PySem.W.Frag) : TS :=
    (tSeq (sFld K (tVar 0) (tVar 1) "parent")
    (sFld K (tVar 0) (tCB (uTuple K) (tCons (tVar 2) tNil)) "facts"))

def sp_Region_init (K : PySem.W.Frag) (c : CEnv) : Sp := fun vs H Q _ => ∃ (p dx q : Addr) (par : Option Int) (fs : List Addr), vs = [.ref p, pV par, .ref q] ∧ ClsOk K c "Region" ["parent", "facts"] ∧ H p = some (.ins (c.cls "Region") dx []) ∧ SqL K H q (fs.map V.ref) ∧ q ≠ p ∧
  ∀ H', (∀ a o, a ≠ p → H a = some o → H' a = some o) → RegAt K c H' p par fs → Q .non H'
theorem r_Region_init {K : PySem.W.Frag} {c : CEnv} {p dx q : Addr} {par : Option Int} {fs : List Addr} {H : Hp} {D : Ends} (ok : ClsOk K c "Region" ["parent", "facts"]) (hp : H p = some (.ins (c.cls "Region") dx [])) (hq : SqL K H q (fs.map V.ref)) (ne : q ≠ p)
    (k : ∀ H', (∀ a o, a ≠ p → H a = some o → H' a = some o) → RegAt K c H' p par fs → ∀ σ, D.nx σ H') : T_Region_init K D [some (.ref p), some (pV par), some (.ref q)] H := by
  unfold T_Region_init
  walk_at "zz"
  refine z_tupleL (sqL_ne ne hq) fun t ht => ?_
  have npt : p ≠ t := ne_of_none upd_same ht
  walk_at "zz"
  refine k _ (fun a o h e => ?_) ⟨t, ⟨ok, dx, ?_⟩, ?_⟩ _
  · exact lk_ne h (lk_ne (ne_of_none (lk_ne h e) ht) (lk_ne h e))
  · rw [upd_same]; rfl
  · exact SqT.of (lk_ne npt.symm upd_same)
theorem w_Region_init {K : PySem.W.Frag} {c : CEnv} : Wd (T_Region_init K) N_Region_init 3 (sp_Region_init K c) := fun vs H Q E h => by
  obtain ⟨p, dx, q, par, fs, rfl, ok, hp, hq, ne, k⟩ := h
  exact ⟨rfl, r_Region_init ok hp hq ne fun H' a b σ => k H' a b⟩
abbrev N_is_partition : List Str := ["regions", "place", "region"]
-- is_partition(regions): slots 0:regions 1:place 2:region
def T_is_partition_b1 (K : PySem.W.Frag) : TS :=
    (tIfS (tAnd (tTest (tOp uIsNot (tFld K (tVar 2) "parent") (tC .non))) (tNot (tTest (tChain uLe (uLt K) (tC (.int 0)) (tFld K (tVar 2) "parent") (tVar 1))))) (tRet (tC (.bl false))) tNext)
def T_is_partition (K : PySem.W.Frag) : TS :=
    (tSeq (tFor (iEnum K (tCons (tVar 0) tNil)) (gTup K 2 (gCons (gName 1) (gCons (gName 2) gNil))) (T_is_partition_b1 K))
    (tRet (tC (.bl true))))

def IsPart (ps : List (Option Int)) : Prop := ∀ (i : Nat) (q : Int), ps[i]? = some (some q) → 0 ≤ q ∧ q < i
def pars (rs : List (Option Int × List Addr)) : List (Option Int) := rs.map (·.1)
def sp_is_partition (K : PySem.W.Frag) (c : CEnv) : Sp := fun vs H Q _ => ∃ (r : Addr) (rs : List (Option Int × List Addr)), vs = [.ref r] ∧ RegsAt K c H r rs ∧ ∀ (b : Bool) H', (b = true ↔ IsPart (pars rs)) → Same H H' → Q (.bl b) H'
theorem r_is_partition {K : PySem.W.Frag} {c : CEnv} {r : Addr} {rs : List (Option Int × List Addr)} {H : Hp} {D : Ends} (hr : RegsAt K c H r rs) (k : ∀ (b : Bool) H', (b = true ↔ IsPart (pars rs)) → Same H H' → D.rt (.bl b) H') : T_is_partition K D [some (.ref r), none, none] H := by
  obtain ⟨ps, hl, hn, hat⟩ := hr.ex
  unfold T_is_partition
  walk_at "zz"
  refine z_enum hl (fun i σ H' => Same H H' ∧ (∀ j q, j < i → (pars rs)[j]? = some (some q) → 0 ≤ q ∧ q < j) ∧ ∃ v w, σ = [some (.ref r), v, w]) ⟨Same.refl H, fun j q hj => absurd hj (Nat.not_lt_zero _), none, none, rfl⟩ (fun i σ H' h => Same.seq h.1 hl) ?_ ?_
  · rintro i x t σ H' hx ⟨s, hj, v, w, rfl⟩ ht
    obtain ⟨p, hp, rfl⟩ := map_ref hx
    have li : i < rs.length := by rw [← hn]; exact (List.getElem?_eq_some_iff.mp hp).1
    obtain ⟨tt, ⟨ok, dx, e⟩, _⟩ := (hat i p _ hp (List.getElem?_eq_getElem li)).same (Same.new (o := .tup [.int (i : Nat), .ref p]) ht s)
    have ep : (pars rs)[i]? = some rs[i].1 := by simp [pars, li]
    generalize rs[i].1 = par at *
    have ok' : ClsOk K c "Region" ["parent", "facts"] := ok
    unfold T_is_partition_b1
    walk_at "zz"
    cases par with
    | none =>
      refine z_iteF' rfl ?_
      walk_at "zz"
      refine ⟨Same.new ht s, fun j q hji h => ?_, _, _, rfl⟩
      by_cases c : j = i
      · subst c; rw [ep] at h; cases h
      · exact hj j q (by omega) h
    | some q =>
      simp only [pV] at e ⊢
      refine z_iteT' rfl ?_
      walk_at "zz"
      by_cases c1 : 0 ≤ q
      · refine z_iteT' (decide_eq_true c1) ?_
        walk_at "zz"
        by_cases c2 : q < i
        · refine z_iteF' (by rw [decide_eq_true c2]; rfl) ?_
          walk_at "zz"
          refine ⟨Same.new ht s, fun j q' hji h => ?_, _, _, rfl⟩
          by_cases c : j = i
          · subst c; rw [ep] at h; cases h; exact ⟨c1, c2⟩
          · exact hj j q' (by omega) h
        · refine z_iteT' (by rw [decide_eq_false c2]; rfl) ?_
          walk_at "zz"
          exact k false _ ⟨fun z => (nomatch z), fun z => absurd (z i q ep).2 c2⟩ (Same.new ht s)
      · refine z_iteF' (decide_eq_false c1) ?_
        walk_at "zz"
        refine z_iteT' rfl ?_
        walk_at "zz"
        exact k false _ ⟨fun z => (nomatch z), fun z => absurd (z i q ep).1 c1⟩ (Same.new ht s)
  · rintro σ H' ⟨s, hj, v, w, rfl⟩
    walk_at "zz"
    refine k true H' ⟨fun _ i q h => hj i q ?_ h, fun _ => rfl⟩ s
    have := (List.getElem?_eq_some_iff.mp h).1
    simp [pars] at this
    simp [hn, this]
theorem w_is_partition {K : PySem.W.Frag} {c : CEnv} : Wd (T_is_partition K) N_is_partition 1 (sp_is_partition K c) := fun vs H Q E h => by
  obtain ⟨r, rs, rfl, hr, k⟩ := h
  exact ⟨rfl, r_is_partition hr k⟩
abbrev N_way_up : List Str := ["regions", "place", "way"]
-- way_up(regions, place): slots 0:regions 1:place 2:way
def T_way_up_b1 (K : PySem.W.Frag) : TS :=
    (tDrop (tBM K "list" rAppend (tVar 2) (tCons (tFld K (tOp (uIx K) (tVar 0) (tOp (uIx K) (tVar 2) (tUn uNeg (tC (.int 1))))) "parent") tNil)))
def T_way_up (K : PySem.W.Frag) : TS :=
    (tSeq (tAsg (tLst (tCons (tVar 1) tNil)) (gName 2))
    (tSeq (tWhile (tTest (tOp uIsNot (tFld K (tOp (uIx K) (tVar 0) (tOp (uIx K) (tVar 2) (tUn uNeg (tC (.int 1))))) "parent") (tC .non))) (T_way_up_b1 K))
    (tRet (tVar 2))))

def wayN (ps : List (Option Int)) : Nat → Int → List Int
  | 0, p => [p]
  | k + 1, p => match ps[p.toNat]? with
    | some (some q) => p :: wayN ps k q
    | _ => [p]
def wayZ (ps : List (Option Int)) (p : Int) : List Int := wayN ps p.toNat p
theorem wayN_fuel {ps : List (Option Int)} (h : IsPart ps) : ∀ (k m : Nat) (p : Int), 0 ≤ p → p.toNat ≤ k → p.toNat ≤ m → wayN ps k p = wayN ps m p
  | 0, 0, _, _, _, _ => rfl
  | 0, m + 1, p, h0, h1, _ => by
    have e : p.toNat = 0 := by omega
    unfold wayN
    rw [e]
    split
    · rename_i q hq
      have := h 0 q hq
      omega
    · rfl
  | k + 1, 0, p, h0, _, h1 => by
    have e : p.toNat = 0 := by omega
    unfold wayN
    rw [e]
    split
    · rename_i q hq
      have := h 0 q hq
      omega
    · rfl
  | k + 1, m + 1, p, h0, h1, h2 => by
    unfold wayN
    split
    · rename_i q hq
      have hh := h _ q hq
      rw [wayN_fuel h k m q hh.1 (by omega) (by omega)]
    · rfl
theorem wayZ_some {ps : List (Option Int)} (h : IsPart ps) {p q : Int} (h0 : 0 ≤ p) (e : ps[p.toNat]? = some (some q)) : wayZ ps p = p :: wayZ ps q := by
  have hh := h _ q e
  unfold wayZ
  obtain ⟨k, hk⟩ : ∃ k, p.toNat = k + 1 := ⟨p.toNat - 1, by omega⟩
  have e1 : wayN ps (k + 1) p = p :: wayN ps k q := by simp only [wayN, e]
  rw [hk, e1, wayN_fuel h k q.toNat q hh.1 (by omega) (Nat.le_refl _)]
theorem wayZ_none {ps : List (Option Int)} {p : Int} (e : ∀ q, ps[p.toNat]? ≠ some (some q)) : wayZ ps p = [p] := by
  unfold wayZ
  cases p.toNat with
  | zero => rfl
  | succ k =>
    unfold wayN
    split
    · rename_i q hq; exact absurd hq (e q)
    · rfl
theorem wayZ_in {ps : List (Option Int)} (h : IsPart ps) : ∀ (k : Nat) (p : Int), 0 ≤ p → p.toNat ≤ k → p < ps.length → ∀ q ∈ wayZ ps p, 0 ≤ q ∧ q < ps.length
  | k, p, h0, hk, hl, q, hq => by
    by_cases e : ∃ r, ps[p.toNat]? = some (some r)
    · obtain ⟨r, e⟩ := e
      have hh := h _ r e
      rw [wayZ_some h h0 e] at hq
      rcases List.mem_cons.mp hq with rfl | hq
      · omega
      · cases k with
        | zero => omega
        | succ k => exact wayZ_in h k r hh.1 (by omega) (by omega) q hq
    · rw [wayZ_none (fun r z => e ⟨r, z⟩)] at hq
      rw [List.mem_singleton.mp hq]; omega
theorem wayZ_len {ps : List (Option Int)} (h : IsPart ps) : ∀ (k : Nat) (p : Int), 0 ≤ p → p.toNat ≤ k → (wayZ ps p).length ≤ k + 1
  | k, p, h0, hk => by
    by_cases e : ∃ r, ps[p.toNat]? = some (some r)
    · obtain ⟨r, e⟩ := e
      have hh := h _ r e
      rw [wayZ_some h h0 e]
      cases k with
      | zero => omega
      | succ k =>
        have := wayZ_len h k r hh.1 (by omega)
        simp; omega
    · rw [wayZ_none (fun r z => e ⟨r, z⟩)]; simp
theorem wayZ_ne {ps : List (Option Int)} (h : IsPart ps) {p : Int} (h0 : 0 ≤ p) : wayZ ps p ≠ [] := by
  by_cases e : ∃ r, ps[p.toNat]? = some (some r)
  · obtain ⟨r, e⟩ := e
    rw [wayZ_some h h0 e]; simp
  · rw [wayZ_none (fun r z => e ⟨r, z⟩)]; simp
def sp_way_up (K : PySem.W.Frag) (c : CEnv) : Sp := fun vs H Q _ => ∃ (r : Addr) (p : Int) (rs : List (Option Int × List Addr)), vs = [.ref r, .int p] ∧ RegsAt K c H r rs ∧ IsPart (pars rs) ∧ rs.length ≤ 10000 ∧ 0 ≤ p ∧ p < rs.length ∧
  ∀ l H', H l = none → Same H H' → H' l = some (.lst ((wayZ (pars rs) p).map V.int)) → Q (.ref l) H'
theorem way_up_c {K : PySem.W.Frag} {c : CEnv} {r : Addr} {p : Int} {rs : List (Option Int × List Addr)} {H : Hp} {Q : VK} {E : XK} (hr : RegsAt K c H r rs) (hp : IsPart (pars rs)) (hl : rs.length ≤ 10000) (h0 : 0 ≤ p) (h1 : p < rs.length)
    (k : ∀ l H', H l = none → Same H H' → H' l = some (.lst ((wayZ (pars rs) p).map V.int)) → Q (.ref l) H') : sp_way_up K c [.ref r, .int p] H Q E := ⟨r, p, rs, rfl, hr, hp, hl, h0, h1, k⟩
theorem pars_at {rs : List (Option Int × List Addr)} {i : Nat} {e : Option Int × List Addr} (h : rs[i]? = some e) : (pars rs)[i]? = some e.1 := by
  unfold pars; rw [List.getElem?_map, h]; rfl
theorem at_last {pre : List Int} {q : Int} : atI ((pre ++ [q]).map V.int) (-1) = some (.int q) := by
  rw [List.map_append]; exact atI_last _ _
theorem RegAt.fld {K : PySem.W.Frag} {c : CEnv} {H : Hp} {p : Addr} {par : Option Int} {fs : List Addr} {Q : VK} (h : RegAt K c H p par fs) (k : Q (pV par) H) : zFld K "parent" (.ref p) H Q := by
  obtain ⟨t, ⟨ok, dx, e⟩, _⟩ := h
  exact z_fld ok e rfl rfl k
theorem RegAt.fldF {K : PySem.W.Frag} {c : CEnv} {H : Hp} {p : Addr} {par : Option Int} {fs : List Addr} {Q : VK} (h : RegAt K c H p par fs) (k : ∀ t, SqT K H t (fs.map V.ref) → Q (.ref t) H) : zFld K "facts" (.ref p) H Q := by
  obtain ⟨t, ⟨ok, dx, e⟩, ht⟩ := h
  exact z_fld ok e rfl rfl (k t ht)
theorem r_way_up {K : PySem.W.Frag} {c : CEnv} {r : Addr} {p : Int} {rs : List (Option Int × List Addr)} {H : Hp} {D : Ends} (hr : RegsAt K c H r rs) (hp : IsPart (pars rs)) (hl : rs.length ≤ 10000) (h0 : 0 ≤ p) (h1 : p < rs.length)
    (k : ∀ l H', H l = none → Same H H' → H' l = some (.lst ((wayZ (pars rs) p).map V.int)) → D.rt (.ref l) H') : T_way_up K D [some (.ref r), some (.int p), none] H := by
  have hln : (pars rs).length = rs.length := by simp [pars]
  unfold T_way_up
  walk_at "zz"
  rename_i l hl0
  refine z_while (fun m σ H' => Same H H' ∧ σ = [some (.ref r), some (.int p), some (.ref l)] ∧ ∃ (pre : List Int) (q : Int), H' l = some (.lst ((pre ++ [q]).map V.int)) ∧ 0 ≤ q ∧ q < rs.length ∧ wayZ (pars rs) p = pre ++ wayZ (pars rs) q ∧ m = q.toNat) p.toNat
    ⟨Same.new hl0 (Same.refl H), rfl, [], p, upd_same, h0, h1, rfl, rfl⟩ ?_
  rintro m σ H' ⟨s, rfl, pre, q, e, q0, q1, ew, rfl⟩
  have wl : (pre ++ wayZ (pars rs) q).length ≤ 10001 := by
    rw [← ew]
    have := wayZ_len hp p.toNat p h0 (Nat.le_refl _)
    omega
  have wn := wayZ_ne hp q0
  have wl2 : 1 ≤ (wayZ (pars rs) q).length := List.length_pos_iff.mpr wn
  obtain ⟨xs, pq, en, hx, ha, hen, hreg⟩ := (hr.same s).at q0 q1
  walk_at "zz"
  refine z_ix (.inl (SqL.of e)) at_last ?_
  refine z_ix (.inl hx) ha ?_
  refine hreg.fld ?_
  walk_at "zz"
  have hpe := pars_at hen
  cases hpar : en.1 with
  | none =>
    simp only [pV]
    refine z_iteF' rfl ?_
    walk_at "zz"
    rw [wayZ_none (ps := pars rs) (p := q) (fun q' z => by rw [hpe, hpar] at z; cases z)] at ew
    rw [← ew] at e
    exact k l H' hl0 s e
  | some q' =>
    rw [hpar] at hpe
    have hh := hp _ q' hpe
    simp only [pV]
    refine z_iteT' rfl (z_turn ?_)
    unfold T_way_up_b1
    walk_at "zz"
    refine z_ix (.inl (SqL.of e)) at_last ?_
    refine z_ix (.inl hx) ha ?_
    refine hreg.fld ?_
    rw [hpar]
    walk_at "zz"
    refine z_app e (by simp only [List.length_map, List.length_append, List.length_cons, List.length_nil] at wl ⊢; omega) ?_
    walk_at "zz"
    refine ⟨q'.toNat, by omega, fun a o e' => ?_, rfl, pre ++ [q], q', ?_, hh.1, by omega, ?_, rfl⟩
    · exact lk_ne (ne_of_none e' hl0) (s a o e')
    · rw [upd_same]; simp [pV]
    · rw [ew, wayZ_some hp q0 hpe]; simp
theorem w_way_up {K : PySem.W.Frag} {c : CEnv} : Wd (T_way_up K) N_way_up 2 (sp_way_up K c) := fun vs H Q E h => by
  obtain ⟨r, p, rs, rfl, hr, hp, hl, h0, h1, k⟩ := h
  exact ⟨rfl, r_way_up hr hp hl h0 h1 k⟩

abbrev N_lies_in : List Str := ["regions", "place", "other"]
-- lies_in(regions, place, other): slots 0:regions 1:place 2:other
def T_lies_in (K : PySem.W.Frag) (c : CEnv) : TS :=
    (tRet (tOp (uIn K) (tVar 2) (tCal (sp_way_up K c) (tCons (tVar 0) (tCons (tVar 1) tNil)))))

theorem inV_ints (x : Int) : ∀ w : List Int, inV (.int x) (w.map V.int) = decide (x ∈ w)
  | [] => rfl
  | y :: w => by
    have ih := inV_ints x w
    unfold inV at ih ⊢
    rw [List.map_cons, List.any_cons, ih, Bool.eq_iff_iff]
    simp [eqV]
    constructor
    · rintro (h | h)
      · exact .inl h.symm
      · exact .inr h
    · rintro (h | h)
      · exact .inl h.symm
      · exact .inr h
theorem flat_ints : ∀ w : List Int, (w.map V.int).all flatV = true
  | [] => rfl
  | y :: w => by rw [List.map_cons, List.all_cons, flat_ints w]; rfl
def sp_lies_in (K : PySem.W.Frag) (c : CEnv) : Sp := fun vs H Q _ => ∃ (r : Addr) (p o : Int) (rs : List (Option Int × List Addr)), vs = [.ref r, .int p, .int o] ∧ RegsAt K c H r rs ∧ IsPart (pars rs) ∧ rs.length ≤ 10000 ∧ 0 ≤ p ∧ p < rs.length ∧
  ∀ H', Same H H' → Q (.bl (decide (o ∈ wayZ (pars rs) p))) H'
theorem r_lies_in {K : PySem.W.Frag} {c : CEnv} {r : Addr} {p o : Int} {rs : List (Option Int × List Addr)} {H : Hp} {D : Ends} (hr : RegsAt K c H r rs) (hp : IsPart (pars rs)) (hl : rs.length ≤ 10000) (h0 : 0 ≤ p) (h1 : p < rs.length)
    (k : ∀ H', Same H H' → D.rt (.bl (decide (o ∈ wayZ (pars rs) p))) H') : T_lies_in K c D [some (.ref r), some (.int p), some (.int o)] H := by
  unfold T_lies_in
  walk_at "zz"
  refine way_up_c hr hp hl h0 h1 fun l H' hl0 s e => ?_
  refine z_in (.inl (SqL.of e)) rfl (flat_ints _) ?_
  rw [inV_ints]
  exact k H' s
theorem w_lies_in {K : PySem.W.Frag} {c : CEnv} : Wd (T_lies_in K c) N_lies_in 3 (sp_lies_in K c) := fun vs H Q E h => by
  obtain ⟨r, p, o, rs, rfl, hr, hp, hl, h0, h1, k⟩ := h
  exact ⟨rfl, r_lies_in hr hp hl h0 h1 k⟩
abbrev N_facts_at : List Str := ["regions", "place", "facts", "at"]
-- facts_at(regions, place): slots 0:regions 1:place 2:facts 3:at
def T_facts_at_b1 (K : PySem.W.Frag) : TS :=
    (tAsg (tOp (uAdd K) (tVar 2) (tCB (uList K) (tCons (tFld K (tOp (uIx K) (tVar 0) (tVar 3)) "facts") tNil))) (gName 2))
def T_facts_at (K : PySem.W.Frag) (c : CEnv) : TS :=
    (tSeq (tAsg (tLst tNil) (gName 2))
    (tSeq (tFor (iSq K (tCal (sp_way_up K c) (tCons (tVar 0) (tCons (tVar 1) tNil)))) (gName 3) (T_facts_at_b1 K))
    (tRet (tVar 2))))

def factsZ (rs : List (Option Int × List Addr)) (w : List Int) : List Addr := (w.map fun q => (rs.getD q.toNat (none, [])).2).flatten
theorem factsZ_app (rs : List (Option Int × List Addr)) (w : List Int) (q : Int) : factsZ rs (w ++ [q]) = factsZ rs w ++ (rs.getD q.toNat (none, [])).2 := by simp [factsZ]
theorem factsZ_len {rs : List (Option Int × List Addr)} (h : ∀ e ∈ rs, e.2.length ≤ 50) : ∀ w : List Int, (factsZ rs w).length ≤ 50 * w.length
  | [] => by simp [factsZ]
  | q :: w => by
    have ih := factsZ_len h w
    have : (rs.getD q.toNat (none, [])).2.length ≤ 50 := by
      rw [List.getD_eq_getElem?_getD]
      cases e : rs[q.toNat]? with
      | none => simp
      | some x => exact h x (List.mem_of_getElem? e)
    show (factsZ rs (q :: w)).length ≤ 50 * (w.length + 1)
    have e : factsZ rs (q :: w) = (rs.getD q.toNat (none, [])).2 ++ factsZ rs w := by simp [factsZ]
    rw [e, List.length_append]; omega
def sp_facts_at (K : PySem.W.Frag) (c : CEnv) : Sp := fun vs H Q _ => ∃ (r : Addr) (p : Int) (rs : List (Option Int × List Addr)), vs = [.ref r, .int p] ∧ RegsAt K c H r rs ∧ IsPart (pars rs) ∧ rs.length ≤ 1000 ∧ (∀ e ∈ rs, e.2.length ≤ 50) ∧ 0 ≤ p ∧ p < rs.length ∧
  ∀ l H', H l = none → Same H H' → H' l = some (.lst ((factsZ rs (wayZ (pars rs) p)).map V.ref)) → Q (.ref l) H'
theorem r_facts_at {K : PySem.W.Frag} {c : CEnv} {r : Addr} {p : Int} {rs : List (Option Int × List Addr)} {H : Hp} {D : Ends} (hr : RegsAt K c H r rs) (hp : IsPart (pars rs)) (hl : rs.length ≤ 1000) (hf : ∀ e ∈ rs, e.2.length ≤ 50) (h0 : 0 ≤ p) (h1 : p < rs.length)
    (k : ∀ l H', H l = none → Same H H' → H' l = some (.lst ((factsZ rs (wayZ (pars rs) p)).map V.ref)) → D.rt (.ref l) H') : T_facts_at K c D [some (.ref r), some (.int p), none, none] H := by
  have hln : (pars rs).length = rs.length := by simp [pars]
  unfold T_facts_at
  walk_at "zz"
  rename_i f0 hf0
  have s0 : Same H (upd H f0 (.lst [])) := Same.new hf0 (Same.refl H)
  refine way_up_c (hr.same s0) hp (by omega) h0 h1 fun l H1 hl0 s1 e => ?_
  have s01 := s0.trans s1
  have wl := wayZ_len hp p.toNat p h0 (Nat.le_refl _)
  have wi := wayZ_in hp p.toNat p h0 (Nat.le_refl _) (by omega)
  generalize wayZ (pars rs) p = w at *
  refine z_forL (SqL.of e) (fun i σ H' => Same H1 H' ∧ ∃ fl v, σ = [some (.ref r), some (.int p), some (.ref fl), v] ∧ H fl = none ∧ H' fl = some (.lst ((factsZ rs (w.take i)).map V.ref))) ⟨Same.refl H1, f0, none, rfl, hf0, s1 _ _ upd_same⟩ (fun i σ H' hi h => SqL.of (h.1 _ _ e)) ?_ ?_
  · rintro i x σ H' hx ⟨s, fl, v, rfl, hfl, e2⟩
    obtain ⟨li, rfl⟩ := map_int hx
    have wq := wi _ (getD_mem li)
    obtain ⟨xs, pq, en, hx, ha, hen, hreg⟩ := (hr.same (s01.trans s)).at wq.1 (by omega)
    have hen2 : rs.getD (w.getD i 0).toNat (none, []) = en := by rw [List.getD_eq_getElem?_getD, hen]; rfl
    have hen3 := hf en (List.mem_of_getElem? hen)
    have fl2 := factsZ_len hf (w.take i)
    have tl : (w.take i).length ≤ i := by simp; omega
    unfold T_facts_at_b1
    walk_at "zz"
    refine hreg.fldF fun t ht => ?_
    walk_at "zz"
    rename_i n1 hn1
    refine z_addL (lk_new hn1 e2) upd_same (by simp; omega) fun l2 hl2 => ?_
    walk_at "zz"
    refine ⟨Same.new hl2 (Same.new hn1 s), l2, _, rfl, ?_, ?_⟩
    · exact (s01.trans (Same.new (o := .lst (en.2.map V.ref)) hn1 s)).free hl2
    · rw [upd_same, take_s li, factsZ_app, hen2, List.map_append]
  · rintro σ H' ⟨s, fl, v, rfl, hfl, e2⟩
    walk_at "zz"
    have et : w.take (w.map V.int).length = w := by simp
    rw [et] at e2
    exact k fl H' hfl (s01.trans s) e2
theorem w_facts_at {K : PySem.W.Frag} {c : CEnv} : Wd (T_facts_at K c) N_facts_at 2 (sp_facts_at K c) := fun vs H Q E h => by
  obtain ⟨r, p, rs, rfl, hr, hp, hl, hf, h0, h1, k⟩ := h
  exact ⟨rfl, r_facts_at hr hp hl hf h0 h1 k⟩
abbrev N_tops : List Str := ["regions", "place", "region"]
-- tops(regions): slots 0:regions 1:place 2:region
def T_tops (K : PySem.W.Frag) : TS :=
    (tRet (tLc (iEnum K (tCons (tVar 0) tNil)) (gTup K 2 (gCons (gName 1) (gCons (gName 2) gNil))) (tTest (tOp uIs (tFld K (tVar 2) "parent") (tC .non))) (tVar 1) [1, 2]))

def topsN (ps : List (Option Int)) (n : Nat) : List Int := ((List.range n).filter fun i => decide (ps[i]? = some none)).map fun i => ((i : Nat) : Int)
theorem topsN_yes {ps : List (Option Int)} {n : Nat} (h : ps[n]? = some none) : topsN ps (n + 1) = topsN ps n ++ [(n : Int)] := by
  unfold topsN; rw [List.range_succ, List.filter_append, List.map_append]; simp [h]
theorem topsN_no {ps : List (Option Int)} {n : Nat} (h : ps[n]? ≠ some none) : topsN ps (n + 1) = topsN ps n := by
  unfold topsN; rw [List.range_succ, List.filter_append, List.map_append]; simp [h]
theorem topsN_len (ps : List (Option Int)) (n : Nat) : (topsN ps n).length ≤ n := by
  unfold topsN; rw [List.length_map]
  exact Nat.le_trans (List.length_filter_le _ _) (by simp)
def sp_tops (K : PySem.W.Frag) (c : CEnv) : Sp := fun vs H Q _ => ∃ (r : Addr) (rs : List (Option Int × List Addr)), vs = [.ref r] ∧ RegsAt K c H r rs ∧ rs.length ≤ 10000 ∧ ∀ l H', H l = none → Same H H' → H' l = some (.lst ((topsN (pars rs) rs.length).map V.int)) → Q (.ref l) H'
theorem r_tops {K : PySem.W.Frag} {c : CEnv} {r : Addr} {rs : List (Option Int × List Addr)} {H : Hp} {D : Ends} (hr : RegsAt K c H r rs) (hl : rs.length ≤ 10000) (k : ∀ l H', H l = none → Same H H' → H' l = some (.lst ((topsN (pars rs) rs.length).map V.int)) → D.rt (.ref l) H') :
    T_tops K D [some (.ref r), none, none] H := by
  obtain ⟨ps, hq, hn, hat⟩ := hr.ex
  unfold T_tops
  walk_at "zz"
  refine z_lce hq (fun l i H' => Same H H' ∧ H' l = some (.lst ((topsN (pars rs) i).map V.int))) (fun l h => ⟨Same.new h (Same.refl H), upd_same⟩) (fun l i H' h p => Same.seq p.1 hq) ?_ ?_
  · rintro l i x t H' hl0 hx ⟨s, e⟩ ht
    obtain ⟨p, hp, rfl⟩ := map_ref hx
    have li : i < rs.length := by rw [← hn]; exact (List.getElem?_eq_some_iff.mp hp).1
    have ep : (pars rs)[i]? = some rs[i].1 := pars_at (List.getElem?_eq_getElem li)
    have hreg := (hat i p _ hp (List.getElem?_eq_getElem li)).same (Same.new (o := .tup [.int (i : Nat), .ref p]) ht s)
    have tl := topsN_len (pars rs) i
    generalize rs[i].1 = par at *
    refine ⟨rfl, ?_⟩
    dsimp only [wipe, List.set]
    walk_at "zz"
    refine hreg.fld ?_
    walk_at "zz"
    cases par with
    | none =>
      simp only [pV]
      refine z_iteT' rfl ?_
      walk_at "zz"
      refine z_accum (lk_new ht e) (by simp; omega) ?_
      refine ⟨fun a o ea => lk_ne (ne_of_none ea hl0) (lk_new ht (s a o ea)), ?_⟩
      rw [upd_same, topsN_yes ep, List.map_append]; rfl
    | some q =>
      simp only [pV]
      refine z_iteF' rfl ?_
      refine ⟨Same.new ht s, ?_⟩
      rw [topsN_no (by rw [ep]; intro z; cases z)]
      exact lk_new ht e
  · rintro l H' hl0 ⟨s, e⟩
    have en : (ps.map V.ref).length = rs.length := by simp [hn]
    rw [en] at e
    exact k l H' hl0 s e
theorem w_tops {K : PySem.W.Frag} {c : CEnv} : Wd (T_tops K) N_tops 1 (sp_tops K c) := fun vs H Q E h => by
  obtain ⟨r, rs, rfl, hr, hl, k⟩ := h
  exact ⟨rfl, r_tops hr hl k⟩

abbrev N_Norms_init : List Str := ["self", "low", "high"]
-- Norms.__init__(self, low, high): slots 0:self 1:low 2:high
def T_Norms_init (K : PySem.W.Frag) : TS :=
    (tSeq (sFld K (tVar 0) (tVar 1) "low")
    (sFld K (tVar 0) (tVar 2) "high"))
abbrev N_Norms_eq : List Str := ["self", "other"]
-- Norms.__eq__(self, other): slots 0:self 1:other
def T_Norms_eq (K : PySem.W.Frag) (c : CEnv) : TS :=
    (tRet (tAndV (tCB (uIsi K) (tCons (tVar 1) (tCons (tCls K c "Norms") tNil))) (tAndV (tOp (uEq K) (tFld K (tVar 0) "low") (tFld K (tVar 1) "low")) (tOp (uEq K) (tFld K (tVar 0) "high") (tFld K (tVar 1) "high")))))

def NormAt (K : PySem.W.Frag) (c : CEnv) (H : Hp) (p : Addr) (lo hi : Int) : Prop := InsAt K c H p "Norms" [("low", .int lo), ("high", .int hi)]
def sp_Norms_init (K : PySem.W.Frag) (c : CEnv) : Sp := fun vs H Q _ => ∃ (p dx : Addr) (lo hi : Int), vs = [.ref p, .int lo, .int hi] ∧ ClsOk K c "Norms" ["low", "high"] ∧ H p = some (.ins (c.cls "Norms") dx []) ∧ ∀ H', (∀ a o, a ≠ p → H a = some o → H' a = some o) → NormAt K c H' p lo hi → Q .non H'
theorem r_Norms_init {K : PySem.W.Frag} {c : CEnv} {p dx : Addr} {lo hi : Int} {H : Hp} {D : Ends} (ok : ClsOk K c "Norms" ["low", "high"]) (hp : H p = some (.ins (c.cls "Norms") dx []))
    (k : ∀ H', (∀ a o, a ≠ p → H a = some o → H' a = some o) → NormAt K c H' p lo hi → ∀ σ, D.nx σ H') : T_Norms_init K D [some (.ref p), some (.int lo), some (.int hi)] H := by
  unfold T_Norms_init
  walk_at "zz"
  exact k _ (fun a o h e => lk_ne h (lk_ne h e)) ⟨ok, dx, Eq.trans upd_same rfl⟩ _
theorem w_Norms_init {K : PySem.W.Frag} {c : CEnv} : Wd (T_Norms_init K) N_Norms_init 3 (sp_Norms_init K c) := fun vs H Q E h => by
  obtain ⟨p, dx, lo, hi, rfl, ok, hp, k⟩ := h
  exact ⟨rfl, r_Norms_init ok hp fun H' a b σ => k H' a b⟩
def sp_Norms_eq (K : PySem.W.Frag) (c : CEnv) : Sp := fun vs H Q _ => ∃ (p q : Addr) (lo hi lo2 hi2 : Int), vs = [.ref p, .ref q] ∧ NormAt K c H p lo hi ∧ NormAt K c H q lo2 hi2 ∧ Q (.bl (decide (lo = lo2) && decide (hi = hi2))) H
theorem r_Norms_eq {K : PySem.W.Frag} {c : CEnv} {p q : Addr} {lo hi lo2 hi2 : Int} {H : Hp} {D : Ends} (h1 : NormAt K c H p lo hi) (h2 : NormAt K c H q lo2 hi2) (k : D.rt (.bl (decide (lo = lo2) && decide (hi = hi2))) H) : T_Norms_eq K c D [some (.ref p), some (.ref q)] H := by
  obtain ⟨ok, dx, e⟩ := h1
  obtain ⟨ok2, dy, e2⟩ := h2
  have ok' : ClsOk K c "Norms" ["low", "high"] := ok
  unfold T_Norms_eq
  walk_at "zz"
  rename_i hi'
  refine z_isIns hi' ok' e2 ?_
  walk_at "zz"
  rw [show SUB "Norms" "Norms" = true by decide +kernel]
  walk_at "zz"
  by_cases c1 : lo = lo2
  · rw [decide_eq_true c1] at k ⊢
    walk_at "zz"
    rw [Bool.true_and] at k
    exact k
  · rw [decide_eq_false c1] at k ⊢
    walk_at "zz"
    exact k
theorem w_Norms_eq {K : PySem.W.Frag} {c : CEnv} : Wd (T_Norms_eq K c) N_Norms_eq 2 (sp_Norms_eq K c) := fun vs H Q E h => by
  obtain ⟨p, q, lo, hi, lo2, hi2, rfl, h1, h2, k⟩ := h
  exact ⟨rfl, r_Norms_eq h1 h2 k⟩
abbrev N_law_way : List Str := ["_law_parents", "_law_place", "_law_way_here", "_law_k"]
-- _law_way(_law_parents, _law_place): slots 0:_law_parents 1:_law_place 2:_law_way_here 3:_law_k
def T_law_way_b1 (K : PySem.W.Frag) : TS :=
    (tSeq (tIfS (tTest (tOp uIs (tOp (uIx K) (tVar 0) (tOp (uIx K) (tVar 2) (tOp uSub (tCB (uLen K) (tCons (tVar 2) tNil)) (tC (.int 1))))) (tC .non))) tBreak tNext)
    (tDrop (tBM K "list" rAppend (tVar 2) (tCons (tOp (uIx K) (tVar 0) (tOp (uIx K) (tVar 2) (tOp uSub (tCB (uLen K) (tCons (tVar 2) tNil)) (tC (.int 1))))) tNil))))
def T_law_way (K : PySem.W.Frag) : TS :=
    (tSeq (tAsg (tLst (tCons (tVar 1) tNil)) (gName 2))
    (tCut (tFor (iRng1 (tCons (tCB (uLen K) (tCons (tVar 0) tNil)) tNil)) (gName 3) (T_law_way_b1 K))
    (tRet (tVar 2))))

def sp_law_way (K : PySem.W.Frag) : Sp := fun vs H Q _ => ∃ (r : Addr) (p : Int) (ps : List (Option Int)), vs = [.ref r, .int p] ∧ H r = some (.lst (ps.map pV)) ∧ IsPart ps ∧ ps.length ≤ 10000 ∧ 0 ≤ p ∧ p < ps.length ∧
  ∀ l H', H l = none → Same H H' → H' l = some (.lst ((wayZ ps p).map V.int)) → Q (.ref l) H'
theorem at_par {ps : List (Option Int)} {q : Int} (h0 : 0 ≤ q) (h1 : q < ps.length) : atI (ps.map pV) q = some (pV (ps.getD q.toNat none)) := by
  unfold atI
  rw [ix_at h0 (by simpa using h1)]
  have : q.toNat < ps.length := by omega
  simp [List.getD, this]
theorem at_last2 {pre : List Int} {q : Int} : atI ((pre ++ [q]).map V.int) ((((pre ++ [q]).map V.int).length : Int) - 1) = some (.int q) := by
  have e : (((pre ++ [q]).map V.int).length : Int) - 1 = ((pre.length : Nat) : Int) := by simp
  rw [e]
  exact atI_nat (by simp)
theorem r_law_way {K : PySem.W.Frag} {r : Addr} {p : Int} {ps : List (Option Int)} {H : Hp} {D : Ends} (hr : H r = some (.lst (ps.map pV))) (hp : IsPart ps) (hl : ps.length ≤ 10000) (h0 : 0 ≤ p) (h1 : p < ps.length)
    (k : ∀ l H', H l = none → Same H H' → H' l = some (.lst ((wayZ ps p).map V.int)) → D.rt (.ref l) H') : T_law_way K D [some (.ref r), some (.int p), none, none] H := by
  unfold T_law_way
  walk_at "zz"
  rename_i l hl0
  refine z_cut (fun σ H' => Same H H' ∧ H' l = some (.lst ((wayZ ps p).map V.int)) ∧ ∃ v, σ = [some (.ref r), some (.int p), some (.ref l), v]) ?_ ?_
  · walk_at "zz"
    refine z_rng1 (by simp; omega) ?_ (by omega)
    refine z_rng (fun i σ H' => Same H H' ∧ (∃ v, σ = [some (.ref r), some (.int p), some (.ref l), v]) ∧ ∃ (pre : List Int) (q : Int), pre.length = i ∧ H' l = some (.lst ((pre ++ [q]).map V.int)) ∧ 0 ≤ q ∧ q < ps.length ∧ wayZ ps p = pre ++ wayZ ps q)
      ⟨Same.new hl0 (Same.refl H), ⟨none, rfl⟩, [], p, rfl, upd_same, h0, h1, rfl⟩ ?_ ?_
    · rintro i σ H' hi ⟨s, ⟨v, rfl⟩, pre, q, lp, e, q0, q1, ew⟩
      have hi : i < ps.length := by simpa using hi
      have er := s _ _ hr
      unfold T_law_way_b1
      walk_at "zz"
      refine z_ix (.inl (SqL.of e)) at_last2 ?_
      refine z_ix (.inl (SqL.of er)) (at_par q0 q1) ?_
      walk_at "zz"
      have hgd : ps[q.toNat]? = some (ps.getD q.toNat none) := by
        have : q.toNat < ps.length := by omega
        rw [List.getElem?_eq_getElem this]; simp [List.getD, this]
      cases hpar : ps.getD q.toNat none with
      | none =>
        simp only [pV]
        refine z_iteT' rfl ?_
        walk_at "zz"
        rw [wayZ_none (ps := ps) (p := q) (fun q' z => by rw [hgd, hpar] at z; cases z)] at ew
        rw [← ew] at e
        exact ⟨s, e, _, rfl⟩
      | some q' =>
        rw [hpar] at hgd
        have hh := hp _ q' hgd
        simp only [pV]
        refine z_iteF' rfl ?_
        walk_at "zz"
        refine z_ix (.inl (SqL.of e)) at_last2 ?_
        refine z_ix (.inl (SqL.of er)) (at_par q0 q1) ?_
        rw [hpar]
        walk_at "zz"
        refine z_app e (by simp; omega) ?_
        walk_at "zz"
        refine ⟨fun a o e' => lk_ne (ne_of_none e' hl0) (s a o e'), ⟨_, rfl⟩, pre ++ [q], q', by simp [lp], ?_, hh.1, by omega, ?_⟩
        · rw [upd_same]; simp [pV]
        · rw [ew, wayZ_some hp q0 hgd]; simp
    · rintro σ H' ⟨s, ⟨v, rfl⟩, pre, q, lp, e, q0, q1, ew⟩
      exfalso
      have h1 := wayZ_len hp p.toNat p h0 (Nat.le_refl _)
      have h2 := List.length_pos_iff.mpr (wayZ_ne hp q0)
      rw [ew, List.length_append] at h1
      have lp : pre.length = ps.length := by simpa using lp
      omega
  rintro σ H' ⟨s, e, v, rfl⟩
  walk_at "zz"
  exact k l H' hl0 s e
theorem w_law_way {K : PySem.W.Frag} : Wd (T_law_way K) N_law_way 2 (sp_law_way K) := fun vs H Q E h => by
  obtain ⟨r, p, ps, rfl, hr, hp, hl, h0, h1, k⟩ := h
  exact ⟨rfl, r_law_way hr hp hl h0 h1 k⟩
abbrev N_law : List Str := ["_law_script", "_law_state", "_law_parents", "_law_k", "_law_facts", "_law_j", "_law_regions", "_law_way_here", "_law_due", "_law_place", "_law_actual", "_law_given", "_law_good", "_law_parent"]
-- law(_law_script): slots 0:_law_script 1:_law_state 2:_law_parents 3:_law_k 4:_law_facts 5:_law_j 6:_law_regions 7:_law_way_here 8:_law_due 9:_law_place 10:_law_actual 11:_law_given 12:_law_good 13:_law_parent
def T_law_b1 (K : PySem.W.Frag) : TS :=
    (tSeq (tDrop (tBM K "list" rAppend (tVar 2) (tCons (tC .non) tNil)))
    (tIfS (tAnd (tTest (tOp uGt (tVar 3) (tC (.int 0)))) (tTest (tOp uGt (tCal (sp_law_next K) (tCons (tVar 1) (tCons (tC (.int 4)) tNil))) (tC (.int 0))))) (tAsg (tCal (sp_law_next K) (tCons (tVar 1) (tCons (tVar 3) tNil))) (gSub (tVar 2) (tVar 3) rSetL)) tNext))
def T_law_b2 (K : PySem.W.Frag) : TS :=
    (tAsg (tOp (uAdd K) (tVar 8) (tOp (uIx K) (tVar 4) (tVar 9))) (gName 8))
def T_law_b3 (K : PySem.W.Frag) (c : CEnv) : TS :=
    (tIfS (tNot (tTest (tOp (uEqO c "Norms" (sp_Norms_eq K c)) (tOp (uIx K) (tVar 10) (tVar 5)) (tOp (uIx K) (tVar 8) (tVar 5))))) (tRet (tC (.bl false))) tNext)
def T_law_b4 (K : PySem.W.Frag) (c : CEnv) : TS :=
    (tIfS (tOr (tNot (tTru K (tCB (uIsi K) (tCons (tCal (sp_lies_in K c) (tCons (tVar 6) (tCons (tVar 3) (tCons (tVar 5) tNil)))) (tCons (tC (.ty "bool")) tNil))))) (tTest (tOp (uNe K) (tCal (sp_lies_in K c) (tCons (tVar 6) (tCons (tVar 3) (tCons (tVar 5) tNil)))) (tOp (uIn K) (tVar 5) (tVar 7))))) (tRet (tC (.bl false))) tNext)
def T_law_b5 (K : PySem.W.Frag) (c : CEnv) : TS :=
    (tSeq (tAsg (tCal (sp_law_way K) (tCons (tVar 2) (tCons (tVar 3) tNil))) (gName 7))
    (tSeq (tAsg (tLst tNil) (gName 8))
    (tSeq (tFor (iSq K (tVar 7)) (gName 9) (T_law_b2 K))
    (tSeq (tAsg (tCal (sp_facts_at K c) (tCons (tVar 6) (tCons (tVar 3) tNil))) (gName 10))
    (tSeq (tIfS (tOr (tTest (tOp (uNe K) (tCal (sp_way_up K c) (tCons (tVar 6) (tCons (tVar 3) tNil))) (tVar 7))) (tOr (tNot (tTru K (tCB (uIsi K) (tCons (tVar 10) (tCons (tC (.ty "list")) tNil))))) (tTest (tOp (uNe K) (tCB (uLen K) (tCons (tVar 10) tNil)) (tCB (uLen K) (tCons (tVar 8) tNil)))))) (tRet (tC (.bl false))) tNext)
    (tSeq (tFor (iRng1 (tCons (tCB (uLen K) (tCons (tVar 8) tNil)) tNil)) (gName 5) (T_law_b3 K c))
    (tFor (iRng1 (tCons (tCB (uLen K) (tCons (tVar 2) tNil)) tNil)) (gName 5) (T_law_b4 K c))))))))
def T_law_b6 (K : PySem.W.Frag) : TS :=
    (tAsg (tAndV (tVar 12) (tOrV (tOp uIs (tOp (uIx K) (tVar 11) (tVar 3)) (tC .non)) (tChain uLe (uLt K) (tC (.int 0)) (tOp (uIx K) (tVar 11) (tVar 3)) (tVar 3)))) (gName 12))
def T_law (K : PySem.W.Frag) (c : CEnv) : TS :=
    (tSeq (tAsg (tLst (tCons (tCB (uList K) (tCons (tVar 0) tNil)) (tCons (tC (.int 0)) (tCons (tC (.int 0)) tNil)))) (gName 1))
    (tSeq (tAsg (tLst tNil) (gName 2))
    (tSeq (tFor (iRng1 (tCons (tOp (uAdd K) (tC (.int 1)) (tCal (sp_law_next K) (tCons (tVar 1) (tCons (tC (.int 10)) tNil)))) tNil)) (gName 3) (T_law_b1 K))
    (tSeq (tAsg (tLc (iRng1 (tCons (tCB (uLen K) (tCons (tVar 2) tNil)) tNil)) (gName 3) tYes (tLc (iRng1 (tCons (tCal (sp_law_next K) (tCons (tVar 1) (tCons (tC (.int 3)) tNil))) tNil)) (gName 5) tYes (tMk K c "Norms" ["low", "high"] (sp_Norms_init K c) (tCons (tVar 3) (tCons (tVar 5) tNil))) [5]) [3]) (gName 4))
    (tSeq (tAsg (tLc (iRng1 (tCons (tCB (uLen K) (tCons (tVar 2) tNil)) tNil)) (gName 3) tYes (tMk K c "Region" ["parent", "facts"] (sp_Region_init K c) (tCons (tOp (uIx K) (tVar 2) (tVar 3)) (tCons (tCB (uList K) (tCons (tOp (uIx K) (tVar 4) (tVar 3)) tNil)) tNil))) [3]) (gName 6))
    (tSeq (tIfS (tOr (tTest (tOp uIsNot (tCal (sp_is_partition K c) (tCons (tVar 6) tNil)) (tC (.bl true)))) (tTest (tOp (uNe K) (tCal (sp_tops K c) (tCons (tVar 6) tNil)) (tLc (iRng1 (tCons (tCB (uLen K) (tCons (tVar 2) tNil)) tNil)) (gName 3) (tTest (tOp uIs (tOp (uIx K) (tVar 2) (tVar 3)) (tC .non))) (tVar 3) [3])))) (tRet (tC (.bl false))) tNext)
    (tSeq (tFor (iRng1 (tCons (tCB (uLen K) (tCons (tVar 2) tNil)) tNil)) (gName 3) (T_law_b5 K c))
    (tSeq (tAsg (tLc (iRng1 (tCons (tCal (sp_law_next K) (tCons (tVar 1) (tCons (tC (.int 6)) tNil))) tNil)) (gName 3) tYes (tOp (uIx K) (tLst (tCons (tC .non) (tCons (tUn uNeg (tC (.int 2))) (tCons (tUn uNeg (tC (.int 1))) (tCons (tC (.int 0)) (tCons (tC (.int 1)) (tCons (tC (.int 2)) (tCons (tC (.int 3)) (tCons (tC (.int 6)) tNil))))))))) (tCal (sp_law_next K) (tCons (tVar 1) (tCons (tC (.int 8)) tNil)))) [3]) (gName 11))
    (tSeq (tAsg (tC (.bl true)) (gName 12))
    (tSeq (tFor (iRng1 (tCons (tCB (uLen K) (tCons (tVar 11) tNil)) tNil)) (gName 3) (T_law_b6 K))
    (tRet (tOp (uEq K) (tCal (sp_is_partition K c) (tCons (tLc (iSq K (tVar 11)) (gName 13) tYes (tMk K c "Region" ["parent", "facts"] (sp_Region_init K c) (tCons (tVar 13) (tCons (tLst tNil) tNil))) [13]) tNil)) (tVar 12)))))))))))))


theorem NotSt.pars {ps : List (Option Int)} : NotSt (.lst (ps.map pV)) := fun L k a z => by
  cases ps with
  | nil => cases z
  | cons x r => injection z with z; injection z with z1 _; cases x <;> cases z1
/-- rows of facts at ls -/
structure FactsAt (K : PySem.W.Frag) (c : CEnv) (H : Hp) (ls : List Addr) (fss : List (List Addr)) : Prop where
  len : ls.length = fss.length
  at_ : ∀ (j : Nat) q f, ls[j]? = some q → fss[j]? = some f → H q = some (.lst (f.map V.ref)) ∧ f.length ≤ 2 ∧ ∀ a ∈ f, ∃ lo hi, NormAt K c H a lo hi
theorem FactsAt.mono {K : PySem.W.Frag} {c : CEnv} {H H' : Hp} {ls : List Addr} {fss : List (List Addr)} (h : FactsAt K c H ls fss) (x : ∀ (a : Addr) (fs : List Addr), H a = some (.lst (fs.map V.ref)) → a ∈ ls → H' a = some (.lst (fs.map V.ref))) (y : ∀ (a : Addr) C dx fs, H a = some (.ins C dx fs) → H' a = some (.ins C dx fs)) : FactsAt K c H' ls fss :=
  ⟨h.len, fun j q f h1 h2 => by
    obtain ⟨a, b, d⟩ := h.at_ j q f h1 h2
    refine ⟨x q f a (List.mem_of_getElem? h1), b, fun z hz => ?_⟩
    obtain ⟨lo, hi, ok, dx, e⟩ := d z hz
    exact ⟨lo, hi, ok, dx, y _ _ _ _ e⟩⟩
theorem FactsAt.same {K : PySem.W.Frag} {c : CEnv} {H H' : Hp} {ls : List Addr} {fss : List (List Addr)} (s : Same H H') (h : FactsAt K c H ls fss) : FactsAt K c H' ls fss := h.mono (fun a fs e _ => s _ _ e) (fun a C dx fs e => s _ _ e)
theorem FactsAt.exd {K : PySem.W.Frag} {c : CEnv} {H H' : Hp} {ls : List Addr} {fss : List (List Addr)} (s : ExD H H') (h : FactsAt K c H ls fss) : FactsAt K c H' ls fss := h.mono (fun a fs e _ => s.lk e NotSt.refs) (fun a C dx fs e => s.lk e NotSt.ins)
theorem r_law_b1 {K : PySem.W.Frag} {a p l pp : Addr} {i : Nat} {ps : List (Option Int)} {H : Hp} {D : Ends} {t : List (Option V)} (d : Draw H p l) (np : pp ≠ p) (nL : pp ≠ l) (e : H pp = some (.lst (ps.map pV))) (hl : ps.length = i) (hi : i ≤ 10) (hp : IsPart ps)
    (k : ∀ (H' : Hp) (ps' : List (Option Int)), ps'.length = i + 1 → IsPart ps' → H' pp = some (.lst (ps'.map pV)) → Draw H' p l → D.nx (some (.ref a) :: some (.ref p) :: some (.ref pp) :: some (.int (0 + i)) :: t) H') :
    T_law_b1 K D (some (.ref a) :: some (.ref p) :: some (.ref pp) :: some (.int (0 + i)) :: t) H := by
  have ext : ∀ x : Option Int, (∀ q, x = some q → 0 ≤ q ∧ q < i) → IsPart (ps ++ [x]) := fun x hx j q h => by
    by_cases c : j < ps.length
    · rw [List.getElem?_append_left c] at h; exact hp j q h
    · have : j < (ps ++ [x]).length := (List.getElem?_eq_some_iff.mp h).1
      have ej : j = ps.length := by simp at this; omega
      subst ej
      simp at h
      subst hl
      exact hx q h
  have ea : ∀ x : Option Int, ps.map pV ++ [pV x] = (ps ++ [x]).map pV := fun x => by simp
  unfold T_law_b1
  walk_at "zz"
  refine z_app e (by simp; omega) ?_
  have e1 := ea none
  simp only [pV] at e1
  rw [e1]
  walk_at "zz"
  have d1 : Draw (upd H pp (.lst ((ps ++ [none]).map pV))) p l := Draw.put np nL d
  by_cases c1 : (0 : Int) < 0 + i
  · refine z_iteT' (decide_eq_true c1) ?_
    walk_at "zz"
    walk_at "nx"
    intro r H2 a2 b2 d2 x2
    have e2 := x2.lk (upd_same (H := H) (a := pp) (o := .lst ((ps ++ [none]).map pV))) NotSt.pars
    walk_at "zz"
    refine z_itD (fun c => ?_) (fun c => ?_)
    · walk_at "zz"
      walk_at "nx"
      intro q H3 a3 b3 d3 x3
      have e3 := x3.lk e2 NotSt.pars
      walk_at "zz"
      refine z_setL e3 (ix_at (by omega) (by simp; omega)) ?_
      walk_at "zz"
      refine k _ (ps ++ [some q]) (by simp [hl]) (ext _ fun q' h => by cases h; omega) ?_ (Draw.put np nL d3)
      rw [upd_same]
      have e5 : (0 + (i : Int)).toNat = i := by omega
      rw [e5, ← hl]
      simp [pV]
    · walk_at "zz"
      exact k _ (ps ++ [none]) (by simp [hl]) (ext _ fun q' h => by cases h) e2 d2
  · refine z_iteF' (decide_eq_false c1) ?_
    walk_at "zz"
    exact k _ (ps ++ [none]) (by simp [hl]) (ext _ fun q' h => by cases h) upd_same d1
theorem at_ref {ls : List Addr} {q : Int} (h0 : 0 ≤ q) (h1 : q.toNat < ls.length) : atI (ls.map V.ref) q = some (.ref ls[q.toNat]) := by
  unfold atI
  rw [ix_at h0 (by simp; omega)]
  simp [h1]
/-- behind a making: all else stands -/
theorem made_same {H H' : Hp} {z dx C : Addr} (hz : H z = none) (hdx : H dx = none) (hne : dx ≠ z) (kp : ∀ a o, a ≠ z → (upd (upd H dx (.own z)) z (.ins C dx [])) a = some o → H' a = some o) : Same H H' := fun a o e =>
  kp a o (ne_of_none e hz) (lk_ne (ne_of_none e hz) (lk_ne (ne_of_none e hdx) e))
theorem sqT_put {K : PySem.W.Frag} {H : Hp} {a r : Addr} {xs ys : List V} {o : HO} (h : SqT K H a xs) (e : H r = some (.lst ys)) : SqT K (upd H r o) a xs := by
  rcases h with (h | ⟨u, h⟩) | h
  · exact .inl (.inl (lk_df h e (fun z => by cases z)))
  · exact .inl (.inr ⟨u, lk_df h e (fun z => by cases z)⟩)
  · exact .inr h
theorem r_law {K : PySem.W.Frag} {c : CEnv} {a : Addr} {ns : List Int} {H : Hp} {D : Ends} (hS : SqL K H a (ns.map V.int)) (hl : ns.length ≤ 63) (q : ∀ H', D.rt (.bl true) H') : T_law K c D [some (.ref a), none, none, none, none, none, none, none, none, none, none, none, none, none] H := by
  unfold T_law
  walk_at "zz"
  rename_i l hl p hp pp hpp
  have d0 := Draw.start hl hp
  have np := Draw.ne hpp d0
  have nL := Draw.neL hpp d0
  have d1 := Draw.new (o := .lst []) hpp d0
  walk_at "nx"
  intro n H1 a1 b1 d2 x1
  have e1 := x1.lk (upd_same (H := upd (upd H l (.lst (ns.map V.int))) p (.lst [.ref l, .int 0, .int 0])) (a := pp) (o := .lst [])) (NotSt.pars (ps := []))
  walk_at "zz"
  refine z_rng1 (by omega) ?_ (by omega)
  refine z_rng (fun i σ H' => (∃ v3, σ = [some (.ref a), some (.ref p), some (.ref pp), v3, none, none, none, none, none, none, none, none, none, none]) ∧ Draw H' p l ∧ ∃ ps : List (Option Int), ps.length = i ∧ IsPart ps ∧ H' pp = some (.lst (ps.map pV))) ⟨⟨_, rfl⟩, d2, [], rfl, fun i q h => by simp at h, e1⟩ ?_ ?_
  · rintro i σ H2 hi ⟨⟨v3, rfl⟩, d3, ps, hlen, hpart, e2⟩
    dsimp only [List.set]
    exact r_law_b1 d3 np nL e2 hlen (by omega) hpart fun H' ps' h1 h2 h3 h4 => ⟨⟨_, rfl⟩, h4, ps', h1, h2, h3⟩
  rintro σ H2 ⟨⟨v3, rfl⟩, d3, ps, hlen, hpart, e2⟩
  have hlen2 : 1 ≤ ps.length ∧ ps.length ≤ 10 := by omega
  clear d0 d1 d2 e1 x1 hlen
  walk_at "zz"
  refine z_lcr1 (by simp; omega) ?_
  have en : (Int.toNat ((ps.map pV).length : Int)) = ps.length := by simp
  rw [en]
  refine z_lcr (fun F i H' => Draw H' p l ∧ H' pp = some (.lst (ps.map pV)) ∧ ∃ (ls : List Addr) (fss : List (List Addr)), H' F = some (.lst (ls.map V.ref)) ∧ fss.length = i ∧ (∀ z ∈ ls, z ≠ F) ∧ FactsAt K c H' ls fss)
    (fun F hF => ⟨Draw.new hF d3, lk_new hF e2, [], [], upd_same, rfl, (fun _ h => nomatch h), rfl, fun j q f h => by simp at h⟩) ?_ ?_
  · rintro F i H3 hF hi ⟨d4, e3, ls, fss, eF, hfl, hne, hfs⟩
    have Fst := Draw.ne hF d3
    have FL := Draw.neL hF d3
    walk_at "zz"
    refine ⟨rfl, ?_⟩
    walk_at "zz"
    walk_at "nx"
    intro m H4 a4 b4 d5 x4
    have e4 := x4.lk e3 NotSt.pars
    have eF4 := x4.lk eF NotSt.refs
    have hfs4 := hfs.exd x4
    walk_at "zz"
    refine z_lcr1 (by omega) ?_
    refine z_lcr (fun G j H' => Same H4 H' ∧ H4 G = none ∧ ∃ fs : List Addr, H' G = some (.lst (fs.map V.ref)) ∧ fs.length = j ∧ ∀ z ∈ fs, ∃ lo hi, NormAt K c H' z lo hi)
      (fun G hG => ⟨Same.new hG (Same.refl _), hG, [], upd_same, rfl, (fun _ h => nomatch h)⟩) ?_ ?_
    · rintro G j H5 hG hj ⟨s5, hG', fs, eG, hfl2, hfs5⟩
      walk_at "zz"
      refine ⟨rfl, ?_⟩
      walk_at "zz"
      intro ok z dx hz hdx hne'
      refine ⟨z, dx, _, _, rfl, ok, upd_same, fun H6 kp nz => ⟨rfl, ?_⟩⟩
      have s6 : Same H5 H6 := made_same hz hdx hne' kp
      have s46 : Same H4 H6 := s5.trans s6
      have eG6 := s6 _ _ eG
      walk_at "zz"
      refine z_accum eG6 (by simp; omega) ?_
      refine ⟨fun b o eb => lk_ne (ne_of_none eb hG') (s46 b o eb), hG', fs ++ [z], by rw [upd_same]; simp, by simp [hfl2], fun y hy => ?_⟩
      rcases List.mem_append.mp hy with hy | hy
      · obtain ⟨lo, hi, h⟩ := hfs5 y hy
        exact ⟨lo, hi, (h.same s6).putL eG6⟩
      · rw [List.mem_singleton.mp hy]
        exact ⟨_, _, InsAt.putL eG6 nz⟩
    · rintro G H5 hG ⟨s5, hG', fs, eG, hfl2, hfs5⟩
      have eF5 := s5 _ _ eF4
      walk_at "zz"
      have lf : ls.length ≤ 10 := by have := hfs.len; omega
      refine z_accum eF5 (by simp; omega) ?_
      have GF : G ≠ F := (ne_of_none eF4 hG).symm
      refine ⟨Draw.put Fst FL (Draw.same s5 d5), lk_ne (fun z => by subst z; rw [hF] at e2; cases e2) (s5 _ _ e4), ls ++ [G], fss ++ [fs], by rw [upd_same]; simp, by simp [hfl], fun z hz => ?_, ?_⟩
      · rcases List.mem_append.mp hz with hz | hz
        · exact hne z hz
        · rw [List.mem_singleton.mp hz]; exact GF
      · have h1 := (hfs4.same s5).mono (H' := upd H5 F (.lst (ls.map V.ref ++ [.ref G]))) (fun b fs' e hb => lk_ne (hne b hb) e) (fun b C dx fs' e => lk_df e eF5 (fun z => by cases z))
        refine ⟨by simp [h1.len], fun j q f h2 h3 => ?_⟩
        by_cases cj : j < ls.length
        · rw [List.getElem?_append_left cj] at h2
          rw [List.getElem?_append_left (h1.len ▸ cj)] at h3
          exact h1.at_ j q f h2 h3
        · have l2 : j < (ls ++ [G]).length := (List.getElem?_eq_some_iff.mp h2).1
          have ej : j = ls.length := by simp at l2; omega
          subst ej
          have ell := hfs.len
          simp at h2
          rw [ell] at h3
          simp at h3
          subst h2 h3
          refine ⟨lk_ne GF eG, by omega, fun z hz => ?_⟩
          obtain ⟨lo, hi, h⟩ := hfs5 z hz
          exact ⟨lo, hi, InsAt.putL eF5 h⟩
  rintro F H3 hF ⟨d4, e3, ls, fss, eF, hfl, hne, hfs⟩
  clear e2 d3
  walk_at "zz"
  refine z_lcr1 (by simp; omega) ?_
  rw [en]
  have lsl : ls.length = ps.length := by rw [hfs.len, hfl]
  refine z_lcr (fun R i H' => Same H3 H' ∧ H3 R = none ∧ ∃ rp : List Addr, H' R = some (.lst (rp.map V.ref)) ∧ rp.length = i ∧ ∀ (j : Nat) z, rp[j]? = some z → RegAt K c H' z (ps.getD j none) (fss.getD j []))
    (fun R hR => ⟨Same.new hR (Same.refl _), hR, [], upd_same, rfl, fun j z h => by simp at h⟩) ?_ ?_
  · rintro R i H4 hR hi ⟨s4, hR', rp, eR, hrl, hregs⟩
    have ef4 := s4 _ _ eF
    have e4 := s4 _ _ e3
    have hfs4 := hfs.same s4
    have li : i < ls.length := by omega
    have lf : i < fss.length := by omega
    obtain ⟨g1, g2, g3⟩ := hfs4.at_ i _ _ (List.getElem?_eq_getElem li) (List.getElem?_eq_getElem lf)
    have ei : (0 + (i : Int)).toNat = i := by omega
    walk_at "zz"
    refine ⟨rfl, ?_⟩
    walk_at "zz"
    refine z_ix (.inl (SqL.of e4)) (at_par (by omega) (by omega)) ?_
    rw [ei]
    walk_at "zz"
    refine z_ix (.inl (SqL.of ef4)) (v := .ref ls[i]) (by unfold atI; rw [ix_at (by omega) (by simp; omega), ei]; simp [li]) ?_
    walk_at "zz"
    rename_i cp hcp
    intro ok z dx hz hdx hne'
    have ncz : cp ≠ z := fun e => by subst e; rw [upd_same] at hz; cases hz
    have ncd : cp ≠ dx := fun e => by subst e; rw [upd_same] at hdx; cases hdx
    refine ⟨z, dx, cp, ps.getD i none, fss[i], rfl, ok, upd_same, SqL.of (lk_ne ncz (lk_ne ncd upd_same)), ncz, fun H6 kp nz => ⟨rfl, ?_⟩⟩
    have s6 : Same (upd H4 cp (.lst (fss[i].map V.ref))) H6 := made_same hz hdx hne' kp
    have s6' : Same H4 H6 := (Same.new hcp (Same.refl H4)).trans s6
    have s36 : Same H3 H6 := s4.trans s6'
    have eR6 := s6' _ _ eR
    walk_at "zz"
    refine z_accum eR6 (by simp; omega) ?_
    refine ⟨fun b o eb => lk_ne (ne_of_none eb hR') (s36 b o eb), hR', rp ++ [z], by rw [upd_same]; simp, by simp [hrl], fun j y hy => ?_⟩
    by_cases cj : j < rp.length
    · rw [List.getElem?_append_left cj] at hy
      obtain ⟨t, b1, b2⟩ := (hregs j y hy).same s6'
      exact ⟨t, b1.putL eR6, sqT_put b2 eR6⟩
    · have l2 : j < (rp ++ [z]).length := (List.getElem?_eq_some_iff.mp hy).1
      have ej : j = i := by simp at l2; omega
      subst ej
      have ey : y = z := by
        rw [List.getElem?_append_right (by omega)] at hy
        simp [hrl] at hy; exact hy.symm
      subst ey
      obtain ⟨t, b1, b2⟩ := nz
      have eg : fss.getD j [] = fss[j] := by simp [List.getD, lf]
      rw [eg]
      exact ⟨t, b1.putL eR6, sqT_put b2 eR6⟩
  rintro R H4 hR ⟨s4, hR', rp, eR, hrl, hregs⟩
  have hrl : rp.length = ps.length := hrl
  have hlf : fss.length = ps.length := hfl
  obtain ⟨rs, hrs⟩ : ∃ rs, rs = ps.zip fss := ⟨_, rfl⟩
  have hrsl : rs.length = ps.length := by rw [hrs, List.length_zip, hlf, Nat.min_self]
  have hpars : pars rs = ps := by
    rw [hrs]; unfold pars; rw [List.map_fst_zip (by omega)]
  have hrsat : ∀ j, j < ps.length → rs[j]? = some (ps.getD j none, fss.getD j []) := fun j hj => by
    rw [hrs, List.getElem?_zip_eq_some]
    have : j < fss.length := by omega
    exact ⟨by simp [List.getD, hj], by simp [List.getD, this]⟩
  have hR4 : RegsAt K c H4 R rs := ⟨rp, SqL.of eR, by omega, fun i z e h1 h2 => by
    have hi : i < rp.length := (List.getElem?_eq_some_iff.mp h1).1
    have h3 := hregs i z h1
    rw [hrsat i (by omega)] at h2
    cases h2
    exact h3⟩
  have hpart' : IsPart (pars rs) := by rw [hpars]; exact hpart
  have e4 := s4 _ _ e3
  have eF4 := s4 _ _ eF
  have hfs4 := hfs.same s4
  have d5 := Draw.same s4 d4
  have hf50 : ∀ e ∈ rs, e.2.length ≤ 50 := fun e he => by
    obtain ⟨j, hj, ej⟩ := List.getElem_of_mem he
    have h1 := hrsat j (by omega)
    rw [List.getElem?_eq_getElem hj, ej] at h1
    cases h1
    have l1 : j < ls.length := by omega
    have l2 : j < fss.length := by omega
    have := (hfs4.at_ j _ _ (List.getElem?_eq_getElem l1) (List.getElem?_eq_getElem l2)).2.1
    simp [List.getD, l2]; omega
  have hnorm : ∀ (w : List Int) z, z ∈ factsZ rs w → ∃ lo hi, NormAt K c H4 z lo hi := fun w z hz => by
    unfold factsZ at hz
    obtain ⟨f, hf, hzf⟩ := List.mem_flatten.mp hz
    obtain ⟨q, hq, rfl⟩ := List.mem_map.mp hf
    by_cases cq : q.toNat < ps.length
    · have h1 := hrsat _ cq
      rw [List.getD_eq_getElem?_getD, h1] at hzf
      have l1 : q.toNat < ls.length := by omega
      have l2 : q.toNat < fss.length := by omega
      have h3 := (hfs4.at_ _ _ _ (List.getElem?_eq_getElem l1) (List.getElem?_eq_getElem l2)).2.2
      simp [List.getD, l2] at hzf
      exact h3 z hzf
    · rw [List.getD_eq_getElem?_getD, List.getElem?_eq_none (by omega)] at hzf
      cases hzf
  clear hregs hfs s4 e3 eF d4
  walk_at "zz"
  refine ⟨R, rs, rfl, hR4, fun b H5 hb s5 => ?_⟩
  have hb' : b = true := hb.mpr hpart'
  subst hb'
  walk_at "zz"
  refine z_iteF' (by rw [decide_eq_true rfl]; rfl) ?_
  walk_at "zz"
  refine ⟨R, rs, rfl, hR4.same s5, by omega, fun tl H6 htl s6 etl => ?_⟩
  have s56 := s5.trans s6
  walk_at "zz"
  refine z_lcr1 (by simp; omega) ?_
  rw [en]
  refine z_lcr (fun D i H' => Same H6 H' ∧ H' D = some (.lst ((topsN ps i).map V.int))) (fun D hD => ⟨Same.new hD (Same.refl _), upd_same⟩) ?_ ?_
  · rintro D i H7 hD hi ⟨s7, eD⟩
    have tl1 := topsN_len ps i
    have ei : (0 + (i : Int)).toNat = i := by omega
    have hgd : ps[i]? = some (ps.getD i none) := by simp [List.getD, hi]
    walk_at "zz"
    refine ⟨rfl, ?_⟩
    walk_at "zz"
    refine z_ix (.inl (SqL.of (s7 _ _ (s56 _ _ e4)))) (at_par (by omega) (by omega)) ?_
    rw [ei]
    walk_at "zz"
    cases hpar : ps.getD i none with
    | none =>
      rw [hpar] at hgd
      dsimp only [pV]
      refine z_iteT' rfl ?_
      walk_at "zz"
      refine z_accum eD (by simp; omega) ?_
      refine ⟨fun b o eb => lk_ne (ne_of_none eb hD) (s7 b o eb), ?_⟩
      rw [upd_same, topsN_yes hgd, List.map_append, Int.zero_add]; rfl
    | some q' =>
      rw [hpar] at hgd
      dsimp only [pV]
      refine z_iteF' rfl ?_
      refine ⟨s7, ?_⟩
      rw [topsN_no (by rw [hgd]; intro z; cases z)]
      exact eD
  rintro D6 H7 hD ⟨s7, eD⟩
  have etl7 := s7 _ _ etl
  rw [hpars, hrsl] at etl7
  refine z_neInts (SqL.of etl7) (SqL.of eD) ?_
  walk_at "zz"
  refine z_iteF' (by rw [decide_eq_true rfl]; rfl) ?_
  walk_at "zz"
  have s47 := s56.trans s7
  clear etl7 eD s7 etl s6 s5 s56 hb
  refine z_rng1 (by simp; omega) ?_ (by omega)
  rw [en]
  refine z_rng (fun i σ H' => Same H4 H' ∧ ∃ v3 v5 v7 v8 v9 v10, σ = [some (.ref a), some (.ref p), some (.ref pp), v3, some (.ref F), v5, some (.ref R), v7, v8, v9, v10, none, none, none]) ⟨s47, _, _, _, _, _, _, rfl⟩ ?_ ?_
  · rintro k σ H8 hk ⟨s8, v3, v5, v7, v8, v9, v10, rfl⟩
    have e8 := s8 _ _ e4
    have k0 : (0 : Int) ≤ 0 + (k : Int) := by omega
    have k1 : 0 + (k : Int) < (ps.length : Int) := by omega
    unfold T_law_b5
    walk_at "zz"
    refine ⟨pp, _, ps, rfl, e8, hpart, by omega, k0, k1, fun w7 H9 hw s9 e9 => ?_⟩
    have s49 := s8.trans s9
    have wl := wayZ_len hpart (0 + (k : Int)).toNat _ k0 (Nat.le_refl _)
    have wi := wayZ_in hpart (0 + (k : Int)).toNat _ k0 (Nat.le_refl _) k1
    obtain ⟨w, hw'⟩ : ∃ w, w = wayZ ps (0 + (k : Int)) := ⟨_, rfl⟩
    rw [← hw'] at e9 wl wi
    walk_at "zz"
    rename_i d8 hd8
    refine z_forL (SqL.of (lk_new hd8 e9)) (fun i σ H' => Same H9 H' ∧ ∃ (du : Addr) (v9 : Option V), σ = [some (.ref a), some (.ref p), some (.ref pp), some (.int (0 + (k : Int))), some (.ref F), v5, some (.ref R), some (.ref w7), some (.ref du), v9, v10, none, none, none] ∧ H' du = some (.lst ((factsZ rs (w.take i)).map V.ref)))
      ⟨Same.new hd8 (Same.refl _), d8, _, rfl, upd_same⟩ (fun i σ H' hi h => SqL.of (h.1 _ _ e9)) ?_ ?_
    · rintro i x σ H10 hx ⟨s10, du, v9, rfl, edu⟩
      obtain ⟨li, rfl⟩ := map_int hx
      have wq := wi _ (getD_mem li)
      have l1 : (w.getD i 0).toNat < ls.length := by omega
      have l2 : (w.getD i 0).toNat < fss.length := by omega
      obtain ⟨g1, g2, g3⟩ := hfs4.at_ _ _ _ (List.getElem?_eq_getElem l1) (List.getElem?_eq_getElem l2)
      have s410 := s49.trans s10
      have fl2 := factsZ_len hf50 (w.take i)
      have tl : (w.take i).length ≤ i := by simp; omega
      have hg : (rs.getD (w.getD i 0).toNat (none, [])).2 = fss[(w.getD i 0).toNat] := by
        rw [List.getD_eq_getElem?_getD, hrsat _ (by omega)]
        show fss.getD _ [] = _
        rw [List.getD_eq_getElem?_getD, List.getElem?_eq_getElem l2]; rfl
      unfold T_law_b2
      walk_at "zz"
      refine z_ix (.inl (SqL.of (s410 _ _ eF4))) (at_ref wq.1 l1) ?_
      refine z_addL edu (s410 _ _ g1) (by rw [List.length_map, List.length_map]; omega) fun nl hnl => ?_
      walk_at "zz"
      refine ⟨Same.new hnl s10, nl, _, rfl, ?_⟩
      rw [upd_same, take_s li, factsZ_app, hg, List.map_append]
    rintro σ H10 ⟨s10, du, v9, rfl, edu⟩
    have et : w.take (w.map V.int).length = w := by simp
    rw [et] at edu
    have s410 := s49.trans s10
    walk_at "zz"
    refine ⟨R, _, rs, rfl, hR4.same s410, hpart', by omega, hf50, k0, by omega, fun ac H11 hac s11 eac => ?_⟩
    have s411 := s410.trans s11
    rw [hpars, ← hw'] at eac
    walk_at "zz"
    refine way_up_c (hR4.same s411) hpart' (by omega) k0 (by omega) fun wu H12 hwu s12 ewu => ?_
    have s412 := s411.trans s12
    rw [hpars, ← hw'] at ewu
    have eac12 := s12 _ _ eac
    have edu12 := s12 _ _ (s11 _ _ edu)
    walk_at "zz"
    refine z_neInts (SqL.of ewu) (SqL.of (s12 _ _ (s11 _ _ (s10 _ _ e9)))) ?_
    walk_at "zz"
    refine z_iteF' (by rw [decide_eq_true rfl]; rfl) ?_
    walk_at "zz"
    refine z_iteF' rfl ?_
    walk_at "zz"
    refine z_iteF' (by rw [decide_eq_true rfl]; rfl) ?_
    walk_at "zz"
    have e912 := s12 _ _ (s11 _ _ (s10 _ _ e9))
    have hfl2 := factsZ_len hf50 w
    refine z_rng1 (by simp; omega) ?_ (by omega)
    refine z_rng (fun i σ H' => H12 = H' ∧ ∃ v5, σ = [some (.ref a), some (.ref p), some (.ref pp), some (.int (0 + (k : Int))), some (.ref F), v5, some (.ref R), some (.ref w7), some (.ref du), v9, some (.ref ac), none, none, none]) ⟨rfl, _, rfl⟩ ?_ ?_
    · rintro i σ H' hi ⟨rfl, v5, rfl⟩
      have hi : i < (factsZ rs w).length := by simpa using hi
      have hat : atI ((factsZ rs w).map V.ref) (0 + (i : Int)) = some (.ref (factsZ rs w)[i]) := by
        unfold atI; rw [ix_at (by omega) (by simp; omega)]
        have ei : (0 + (i : Int)).toNat = i := by omega
        rw [ei]; simp [hi]
      obtain ⟨lo, hi', hn⟩ := hnorm w _ (List.getElem_mem hi)
      have hn12 := hn.same s412
      obtain ⟨_, dxn, en12⟩ := id hn12
      unfold T_law_b3
      walk_at "zz"
      refine ⟨_, _, dxn, dxn, _, _, rfl, rfl, en12, en12, _, _, lo, hi', lo, hi', rfl, hn12, hn12, ?_⟩
      refine ⟨true, by rw [decide_eq_true rfl, decide_eq_true rfl]; rfl, ?_⟩
      walk_at "zz"
      refine z_iteF' rfl ?_
      walk_at "zz"
      exact ⟨rfl, _, rfl⟩
    rintro σ H' ⟨rfl, v5, rfl⟩
    walk_at "zz"
    refine z_rng1 (by simp; omega) ?_ (by omega)
    rw [en]
    refine z_rng (fun i σ H' => Same H12 H' ∧ ∃ v5, σ = [some (.ref a), some (.ref p), some (.ref pp), some (.int (0 + (k : Int))), some (.ref F), v5, some (.ref R), some (.ref w7), some (.ref du), v9, some (.ref ac), none, none, none]) ⟨Same.refl _, _, rfl⟩ ?_ ?_
    · rintro i σ H13 hi ⟨s13, v5, rfl⟩
      unfold T_law_b4
      walk_at "zz"
      refine ⟨R, _, _, rs, rfl, hR4.same (s412.trans s13), hpart', by omega, k0, by omega, fun H14 s14 => ?_⟩
      walk_at "zz"
      refine z_iteF' rfl ?_
      walk_at "zz"
      refine ⟨R, _, _, rs, rfl, hR4.same ((s412.trans s13).trans s14), hpart', by omega, k0, by omega, fun H15 s15 => ?_⟩
      walk_at "zz"
      refine z_in (.inl (SqL.of (s15 _ _ (s14 _ _ (s13 _ _ e912))))) rfl (flat_ints _) ?_
      rw [inV_ints, hpars, ← hw']
      walk_at "zz"
      refine z_iteF' (by rw [decide_eq_true rfl]; rfl) ?_
      walk_at "zz"
      exact ⟨(s13.trans s14).trans s15, _, rfl⟩
    rintro σ H13 ⟨s13, v5, rfl⟩
    exact ⟨s412.trans s13, _, _, _, _, _, _, rfl⟩
  rintro σ H8 ⟨s8, v3, v5, v7, v8, v9, v10, rfl⟩
  have d8 := Draw.same s8 d5
  walk_at "zz"
  walk_at "nx"
  intro m H9 a9 b9 d9 x9
  walk_at "zz"
  refine z_lcr1 (by omega) ?_
  refine z_lcr (fun G i H' => Draw H' p l ∧ ∃ gs : List (Option Int), H' G = some (.lst (gs.map pV)) ∧ gs.length = i) (fun G hG => ⟨Draw.new hG d9, [], upd_same, rfl⟩) ?_ ?_
  · rintro G i H10 hG hi ⟨d10, gs, eG, hgl⟩
    have Gst := Draw.ne hG d9
    have GL := Draw.neL hG d9
    walk_at "zz"
    refine ⟨rfl, ?_⟩
    walk_at "zz"
    rename_i mn hmn
    have eG' := lk_new (o := .lst [.non, .int (-2), .int (-1), .int 0, .int 1, .int 2, .int 3, .int 6]) hmn eG
    have d10' := Draw.new (o := .lst [.non, .int (-2), .int (-1), .int 0, .int 1, .int 2, .int 3, .int 6]) hmn d10
    walk_at "nx"
    intro r H11 a11 b11 d11 x11
    have eG11 := x11.lk eG' NotSt.pars
    have hs : ∃ s : Option Int, atI [V.non, V.int (-2), V.int (-1), V.int 0, V.int 1, V.int 2, V.int 3, V.int 6] r = some (pV s) := by
      have : r = 0 ∨ r = 1 ∨ r = 2 ∨ r = 3 ∨ r = 4 ∨ r = 5 ∨ r = 6 ∨ r = 7 := by omega
      rcases this with rfl | rfl | rfl | rfl | rfl | rfl | rfl | rfl
      · exact ⟨none, rfl⟩
      · exact ⟨some (-2), rfl⟩
      · exact ⟨some (-1), rfl⟩
      · exact ⟨some 0, rfl⟩
      · exact ⟨some 1, rfl⟩
      · exact ⟨some 2, rfl⟩
      · exact ⟨some 3, rfl⟩
      · exact ⟨some 6, rfl⟩
    obtain ⟨s, es⟩ := hs
    walk_at "zz"
    refine z_accum eG11 (by simp; omega) ?_
    exact ⟨Draw.put Gst GL d11, gs ++ [s], by rw [upd_same]; simp, by simp [hgl]⟩
  rintro G H10 hG ⟨d10, gs, eG, hgl⟩
  clear d9 d8
  walk_at "zz"
  refine z_rng1 (by simp; omega) ?_ (by omega)
  have eg : (Int.toNat ((gs.map pV).length : Int)) = gs.length := by simp
  rw [eg]
  refine z_rng (fun i σ H' => H10 = H' ∧ ∃ (v3 : Option V) (b : Bool), σ = [some (.ref a), some (.ref p), some (.ref pp), v3, some (.ref F), v5, some (.ref R), v7, v8, v9, v10, some (.ref G), some (.bl b), none] ∧ (b = true ↔ ∀ (j : Nat) q, j < i → gs[j]? = some (some q) → 0 ≤ q ∧ q < j))
    ⟨rfl, _, true, rfl, ⟨fun _ j q h => absurd h (Nat.not_lt_zero _), fun _ => rfl⟩⟩ ?_ ?_
  · rintro i σ H' hi ⟨rfl, v3, b, rfl, hb⟩
    have ei : (0 + (i : Int)).toNat = i := by omega
    have hgd : gs[i]? = some (gs.getD i none) := by simp [List.getD, hi]
    have step : ∀ b2 : Bool, (b2 = true ↔ ∀ q, gs.getD i none = some q → 0 ≤ q ∧ q < i) → ((b && b2) = true ↔ ∀ (j : Nat) q, j < i + 1 → gs[j]? = some (some q) → 0 ≤ q ∧ q < j) := fun b2 h2 => by
      rw [Bool.and_eq_true, hb, h2]
      constructor
      · rintro ⟨h3, h4⟩ j q hj e
        by_cases cj : j = i
        · subst cj; rw [hgd] at e; exact h4 q (Option.some.inj e)
        · exact h3 j q (by omega) e
      · intro h3
        exact ⟨fun j q hj e => h3 j q (by omega) e, fun q e => h3 i q (by omega) (by rw [hgd, e])⟩
    unfold T_law_b6
    walk_at "zz"
    cases b with
    | false =>
      refine z_iteF' rfl ?_
      walk_at "zz"
      refine ⟨rfl, _, false, rfl, ?_⟩
      by_cases hd : ∀ q, gs.getD i none = some q → 0 ≤ q ∧ q < i
      · exact step true ⟨fun _ => hd, fun _ => rfl⟩
      · exact step false ⟨fun z => (nomatch z), fun z => absurd z hd⟩
    | true =>
      refine z_iteT' rfl ?_
      walk_at "zz"
      refine z_ix (.inl (SqL.of eG)) (at_par (by omega) (by omega)) ?_
      rw [ei]
      walk_at "zz"
      cases hpar : gs.getD i none with
      | none =>
        dsimp only [pV]
        refine z_iteT' rfl ?_
        walk_at "zz"
        refine ⟨rfl, _, true, rfl, ?_⟩
        exact step true ⟨fun _ q e => (by rw [hpar] at e; cases e), fun _ => rfl⟩
      | some q' =>
        dsimp only [pV]
        refine z_iteF' rfl ?_
        walk_at "zz"
        refine z_ix (.inl (SqL.of eG)) (at_par (by omega) (by omega)) ?_
        rw [ei, hpar]
        dsimp only [pV]
        walk_at "zz"
        by_cases c1 : 0 ≤ q'
        · refine z_iteT' (decide_eq_true c1) ?_
          walk_at "zz"
          refine ⟨rfl, _, _, rfl, ?_⟩
          exact step _ ⟨fun h q e => (by rw [hpar] at e; cases e; have := of_decide_eq_true h; omega), fun h => decide_eq_true (by have := h q' hpar; omega)⟩
        · refine z_iteF' (decide_eq_false c1) ?_
          walk_at "zz"
          refine ⟨rfl, _, false, rfl, ?_⟩
          exact step false ⟨fun h => (nomatch h), fun h => absurd (h q' hpar).1 c1⟩
  rintro σ H' ⟨rfl, v3, b, rfl, hb⟩
  have hbp : b = true ↔ IsPart gs := by
    rw [hb]
    constructor
    · intro h j q e; exact h j q (List.getElem?_eq_some_iff.mp e).1 e
    · intro h j q _ e; exact h j q e
  clear hb
  walk_at "zz"
  refine z_lcl (SqL.of eG) (fun R2 i H' => Same H10 H' ∧ H10 R2 = none ∧ ∃ rp : List Addr, H' R2 = some (.lst (rp.map V.ref)) ∧ rp.length = i ∧ ∀ (j : Nat) z, rp[j]? = some z → RegAt K c H' z (gs.getD j none) [])
    (fun R2 hR2 => ⟨Same.new hR2 (Same.refl _), hR2, [], upd_same, rfl, fun j z h => by simp at h⟩) (fun R2 i H' _ _ h => SqL.of (h.1 _ _ eG)) ?_ ?_
  · rintro R2 i x H11 hR2 hx ⟨s11, hR2', rp2, eR2, hrl2, hregs2⟩
    have hi : i < gs.length := by have := (List.getElem?_eq_some_iff.mp hx).1; simpa using this
    obtain rfl : x = pV (gs.getD i none) := by
      rw [List.getElem?_map, List.getElem?_eq_getElem hi] at hx
      rw [List.getD_eq_getElem?_getD, List.getElem?_eq_getElem hi]
      exact (Option.some.inj hx).symm
    walk_at "zz"
    refine ⟨rfl, ?_⟩
    walk_at "zz"
    rename_i cp hcp
    intro ok z dx hz hdx hne'
    have ncz : cp ≠ z := fun e => by subst e; rw [upd_same] at hz; cases hz
    have ncd : cp ≠ dx := fun e => by subst e; rw [upd_same] at hdx; cases hdx
    refine ⟨z, dx, cp, gs.getD i none, [], rfl, ok, upd_same, SqL.of (lk_ne ncz (lk_ne ncd upd_same)), ncz, fun H6 kp nz => ⟨rfl, ?_⟩⟩
    have s6 : Same (upd H11 cp (.lst [])) H6 := made_same hz hdx hne' kp
    have s6' : Same H11 H6 := (Same.new hcp (Same.refl H11)).trans s6
    have s36 := s11.trans s6'
    have eR6 := s6' _ _ eR2
    walk_at "zz"
    refine z_accum eR6 (by simp; omega) ?_
    refine ⟨fun b o eb => lk_ne (ne_of_none eb hR2') (s36 b o eb), hR2', rp2 ++ [z], by rw [upd_same]; simp, by simp [hrl2], fun j y hy => ?_⟩
    by_cases cj : j < rp2.length
    · rw [List.getElem?_append_left cj] at hy
      obtain ⟨t, b1, b2⟩ := (hregs2 j y hy).same s6'
      exact ⟨t, b1.putL eR6, sqT_put b2 eR6⟩
    · have l2 : j < (rp2 ++ [z]).length := (List.getElem?_eq_some_iff.mp hy).1
      have ej : j = i := by simp at l2; omega
      subst ej
      have ey : y = z := by
        rw [List.getElem?_append_right (by omega)] at hy
        simp [hrl2] at hy; exact hy.symm
      subst ey
      obtain ⟨t, b1, b2⟩ := nz
      exact ⟨t, b1.putL eR6, sqT_put b2 eR6⟩
  · rintro R2 H11 hR2 ⟨s11, hR2', rp2, eR2, hrl2, hregs2⟩
    have hrl2 : rp2.length = gs.length := by simpa using hrl2
    have hp2 : pars (gs.map fun x => (x, ([] : List Addr))) = gs := by
      unfold pars; rw [List.map_map]; exact List.map_id _
    walk_at "zz"
    refine ⟨R2, gs.map fun x => (x, []), rfl, ⟨rp2, SqL.of eR2, by simp [hrl2], fun j z e h1 h2 => ?_⟩, fun b2 H12 hb2 s12 => ?_⟩
    · have h3 := hregs2 j z h1
      have hj : j < gs.length := by have := (List.getElem?_eq_some_iff.mp h1).1; omega
      rw [List.getElem?_map, List.getElem?_eq_getElem hj] at h2
      cases h2
      rw [List.getD_eq_getElem?_getD, List.getElem?_eq_getElem hj] at h3
      exact h3
    · rw [hp2] at hb2
      have : b2 = b := by
        cases b2 <;> cases b
        · rfl
        · exact absurd (hb2.mpr (hbp.mp rfl)) (by decide)
        · exact absurd (hbp.mpr (hb2.mp rfl)) (by decide)
        · rfl
      subst this
      walk_at "zz"
      rw [decide_eq_true rfl]
      exact q _
theorem w_law {K : PySem.W.Frag} {c : CEnv} : Wd (T_law K c) N_law 1 (sp_law K) := fun vs H Q E h => by
  obtain ⟨a, ns, rfl, hS, hl, q⟩ := h
  exact ⟨rfl, r_law hS hl q⟩
/-! ### the text by places, and its defs, each once -/
def topS (i : Nat) : Stmt := PySem.Challenge.pw_surenear_k26_regions_lie_in_one_another.main.body.getD i (.Pass ⟨0, 0, 0, 0⟩)
section
variable {P : Program} {w : World} {K : PySem.W.Frag} {mg : Str → Option Value} {base : Heap} {c : CEnv}
abbrev s_law_row : Stmt := (topS 13)
theorem sc_law_row : FnScope N_law_row ["_law_script", "_law_k"] (defScope s_law_row) := ⟨rfl, rfl, rfl, by decide +kernel, rfl, by decide +kernel, by decide +kernel⟩
theorem ok_law_row (m_len : mg "len" = none) (m_int : mg "int" = none) {f : Addr} {fd : FuncData} (F : Fun K "_law_row" "_law_row" s_law_row f fd) : FnOk P w K mg base CX0 1 f fd ["_law_script", "_law_k"] (sp_law_row K) := by
  have sc := sc_law_row
  refine F.ok sc_law_row (fun vs H Q E h => ((w_law_row) vs H Q E h).1) (fun cdv A outer s H vs Q E hr h => ⟨T_law_row K, ?_, ((w_law_row) vs H Q E h).2⟩)
  exact (pss_cons (ps_set (i := 2) sc.nd rfl (by first | exact Or.inl rfl | exact Or.inr rfl) pe_int)
      (pss_cut (ps_if (pt_cmpR (op_uLt hr.units) (pv 1) (pe_callB call_uLen (by rfl) m_len (by decide +kernel) (pa_cons (pv 0) pa_nil)) (nomark _)) (pss_one (ps_set (i := 2) sc.nd rfl (by first | exact Or.inl rfl | exact Or.inr rfl) (pe_ix ix_uIx (pv 0) (pv 1) (fun _ _ => rfl)))) pss_nil)
      (pss_cut (ps_if (pt_cmpR (op_uLt hr.units) (pv 2) pe_int (nomark _)) (pss_one (ps_set (i := 2) sc.nd rfl (by first | exact Or.inl rfl | exact Or.inr rfl) (pe_op op_uSub (pe_op op_uMul (pe_un un_uNeg pe_int) (pv 2)) pe_int))) pss_nil)
      (pss_cut (ps_if (pt_cmpR (op_uLt hr.units) (pv 2) (pe_op op_uPow pe_int pe_int) (nomark _)) (pss_cons (ps_set (i := 3) sc.nd rfl (by first | exact Or.inl rfl | exact Or.inr rfl) (pe_op op_uMod (pe_callTy call_uInt (by rfl) m_int (by decide +kernel) (pa_cons (pe_op op_uAdd (pe_op op_uAdd (pe_op op_uMul (pv 2) pe_int) (pe_op op_uMul (pv 1) pe_int)) pe_int) pa_nil)) pe_int))
      (pss_cons (ps_set (i := 4) sc.nd rfl (by first | exact Or.inl rfl | exact Or.inr rfl) (pe_op op_uMod (pe_callTy call_uInt (by rfl) m_int (by decide +kernel) (pa_cons (pe_op op_uAdd (pe_op op_uAdd (pe_op op_uAdd (pe_op op_uMul (pv 3) pe_int) (pe_op op_uMul (pv 2) pe_int)) (pv 1)) pe_int) pa_nil)) pe_int))
      (pss_cons (ps_set (i := 5) sc.nd rfl (by first | exact Or.inl rfl | exact Or.inr rfl) (pe_op op_uMod (pe_callTy call_uInt (by rfl) m_int (by decide +kernel) (pa_cons (pe_op op_uAdd (pe_op op_uAdd (pe_op op_uMul (pv 4) pe_int) (pe_op op_uMul (pv 3) (pv 4))) pe_int) pa_nil)) pe_int))
      (pss_one (ps_set (i := 2) sc.nd rfl (by first | exact Or.inl rfl | exact Or.inr rfl) (pe_op op_uAdd (pe_op op_uAdd (pv 3) (pe_op op_uMul (pv 4) pe_int)) (pe_op op_uMul (pv 5) (pe_op op_uPow pe_int pe_int)))))))) pss_nil)
      (pss_one (ps_ret (pv 2)))))))
abbrev s_law_next : Stmt := (topS 14)
theorem sc_law_next : FnScope N_law_next ["_law_state", "_law_many"] (defScope s_law_next) := ⟨rfl, rfl, rfl, by decide +kernel, rfl, by decide +kernel, by decide +kernel⟩
theorem ok_law_next (D_law_row : Dfn P w K mg base 1 "_law_row" ["_law_script", "_law_k"] (sp_law_row K)) (m_int : mg "int" = none) {f : Addr} {fd : FuncData} (F : Fun K "_law_next" "_law_next" s_law_next f fd) : FnOk P w K mg base CX0 2 f fd ["_law_state", "_law_many"] (sp_law_next K) := by
  have sc := sc_law_next
  refine F.ok sc_law_next (fun vs H Q E h => ((w_law_next) vs H Q E h).1) (fun cdv A outer s H vs Q E hr h => ⟨T_law_next K, ?_, ((w_law_next) vs H Q E h).2⟩)
  exact (pss_cut (ps_if (pt_cmpR (op_uLt hr.units) (pe_ix ix_uIx (pv 0) pe_int (fun _ _ => rfl)) (pv 1) (nomark _)) (pss_cons (ps_asg (z_call D_law_row (hr.mono (by decide)) (by rfl) (pa_cons (pe_ix ix_uIx (pv 0) pe_int (fun _ _ => rfl)) (pa_cons (pe_ix ix_uIx (pv 0) pe_int (fun _ _ => rfl)) pa_nil))) (pg_sub (pv 0) pe_int set_list))
      (pss_one (ps_asg (pe_op op_uAdd (pe_ix ix_uIx (pv 0) pe_int (fun _ _ => rfl)) pe_int) (pg_sub (pv 0) pe_int set_list)))) pss_nil)
      (pss_cons (ps_set (i := 2) sc.nd rfl (by first | exact Or.inl rfl | exact Or.inr rfl) (pe_op op_uMod (pe_callTy call_uInt (by rfl) m_int (by decide +kernel) (pa_cons (pe_ix ix_uIx (pv 0) pe_int (fun _ _ => rfl)) pa_nil)) (pv 1)))
      (pss_cons (ps_asg (pe_op op_uDiv (pe_ix ix_uIx (pv 0) pe_int (fun _ _ => rfl)) (pv 1)) (pg_sub (pv 0) pe_int set_list))
      (pss_one (ps_ret (pv 2))))))
abbrev s_Norms_init : Stmt := (inClass (topS 11) 0)
theorem sc_Norms_init : FnScope N_Norms_init ["self", "low", "high"] (defScope s_Norms_init) := ⟨rfl, rfl, rfl, by decide +kernel, rfl, by decide +kernel, by decide +kernel⟩
theorem ok_Norms_init {f : Addr} {fd : FuncData} (F : Fun K "__init__" "Norms.__init__" s_Norms_init f fd) : FnOk P w K mg base CX0 1 f fd ["self", "low", "high"] (sp_Norms_init K c) := by
  have sc := sc_Norms_init
  refine F.ok sc_Norms_init (fun vs H Q E h => ((w_Norms_init (c := c)) vs H Q E h).1) (fun cdv A outer s H vs Q E hr h => ⟨T_Norms_init K, ?_, ((w_Norms_init (c := c)) vs H Q E h).2⟩)
  exact (pss_cons (ps_fld (pv 0) (pv 1) rfl)
      (pss_one (ps_fld (pv 0) (pv 2) rfl)))
abbrev s_Region_init : Stmt := (inClass (topS 2) 0)
theorem sc_Region_init : FnScope N_Region_init ["self", "parent", "facts"] (defScope s_Region_init) := ⟨rfl, rfl, rfl, by decide +kernel, rfl, by decide +kernel, by decide +kernel⟩
theorem ok_Region_init (m_tuple : mg "tuple" = none) {f : Addr} {fd : FuncData} (F : Fun K "__init__" "Region.__init__" s_Region_init f fd) : FnOk P w K mg base CX0 1 f fd ["self", "parent", "facts"] (sp_Region_init K c) := by
  have sc := sc_Region_init
  refine F.ok sc_Region_init (fun vs H Q E h => ((w_Region_init (c := c)) vs H Q E h).1) (fun cdv A outer s H vs Q E hr h => ⟨T_Region_init K, ?_, ((w_Region_init (c := c)) vs H Q E h).2⟩)
  exact (pss_cons (ps_fld (pv 0) (pv 1) rfl)
      (pss_one (ps_fld (pv 0) (pe_callTy call_uTuple (by rfl) m_tuple (by decide +kernel) (pa_cons (pv 2) pa_nil)) rfl)))
abbrev s_is_partition : Stmt := (topS 3)
theorem sc_is_partition : FnScope N_is_partition ["regions"] (defScope s_is_partition) := ⟨rfl, rfl, rfl, by decide +kernel, rfl, by decide +kernel, by decide +kernel⟩
theorem ok_is_partition (m_enumerate : mg "enumerate" = none) {f : Addr} {fd : FuncData} (F : Fun K "is_partition" "is_partition" s_is_partition f fd) : FnOk P w K mg base CX0 1 f fd ["regions"] (sp_is_partition K c) := by
  have sc := sc_is_partition
  refine F.ok sc_is_partition (fun vs H Q E h => ((w_is_partition (c := c)) vs H Q E h).1) (fun cdv A outer s H vs Q E hr h => ⟨T_is_partition K, ?_, ((w_is_partition (c := c)) vs H Q E h).2⟩)
  exact (pss_cons (ps_for PassesOwn.never rfl (pi_enum (by rfl) m_enumerate (pa_cons (pv 0) pa_nil)) (pg_tup rfl (pgs_cons (pg_name (i := 1) sc.nd rfl (by first | exact Or.inl rfl | exact Or.inr rfl)) (pgs_cons (pg_name (i := 2) sc.nd rfl (by first | exact Or.inl rfl | exact Or.inr rfl)) pgs_nil))) (pss_one (ps_if (PW.pt (pw_and (pt_cmpR op_uIsNot (pe_fld (pv 2) rfl) pe_non (nomark _)) (pw_and1 (pt_not (pt_chain op_uLe (op_uLt hr.units) pe_int (pe_fld (pv 2) rfl) (pv 1)))))) (pss_one (ps_ret pe_bl)) pss_nil)))
      (pss_one (ps_ret pe_bl)))
abbrev s_tops : Stmt := (topS 7)
theorem sc_tops : FnScope N_tops ["regions"] (defScope s_tops) := ⟨rfl, rfl, rfl, by decide +kernel, rfl, by decide +kernel, by decide +kernel⟩
theorem ok_tops (m_enumerate : mg "enumerate" = none) {f : Addr} {fd : FuncData} (F : Fun K "tops" "tops" s_tops f fd) : FnOk P w K mg base CX0 1 f fd ["regions"] (sp_tops K c) := by
  have sc := sc_tops
  refine F.ok sc_tops (fun vs H Q E h => ((w_tops (c := c)) vs H Q E h).1) (fun cdv A outer s H vs Q E hr h => ⟨T_tops K, ?_, ((w_tops (c := c)) vs H Q E h).2⟩)
  exact (pss_one (ps_ret (pe_lc (own := [("place", 1), ("region", 2)]) (g := (gTup K 2 (gCons (gName 1) (gCons (gName 2) gNil)))) (tt := (tTest (tOp uIs (tFld K (tVar 2) "parent") (tC .non)))) rfl sc.nd (pi_enum (by rfl) m_enumerate (pa_cons (pv 0) pa_nil)) (blkOk_by (N := N_tops) (sc := defScope s_tops) (by decide +kernel)) (fun _ _ _ _ _ => (pg_tup rfl (pgs_cons (pg_name (i := 1) sc.nd rfl (by first | exact Or.inl rfl | exact Or.inr rfl)) (pgs_cons (pg_name (i := 2) sc.nd rfl (by first | exact Or.inl rfl | exact Or.inr rfl)) pgs_nil)))) (fun _ _ _ _ _ => (pts_one (pt_cmpR op_uIs (pe_fld (pv 2) rfl) pe_non (nomark _)))) (fun _ _ _ _ _ => (pv 1)))))
abbrev s_law_way : Stmt := (topS 15)
theorem sc_law_way : FnScope N_law_way ["_law_parents", "_law_place"] (defScope s_law_way) := ⟨rfl, rfl, rfl, by decide +kernel, rfl, by decide +kernel, by decide +kernel⟩
theorem ok_law_way (m_len : mg "len" = none) (m_range : mg "range" = none) {f : Addr} {fd : FuncData} (F : Fun K "_law_way" "_law_way" s_law_way f fd) : FnOk P w K mg base CX0 1 f fd ["_law_parents", "_law_place"] (sp_law_way K) := by
  have sc := sc_law_way
  refine F.ok sc_law_way (fun vs H Q E h => ((w_law_way) vs H Q E h).1) (fun cdv A outer s H vs Q E hr h => ⟨T_law_way K, ?_, ((w_law_way) vs H Q E h).2⟩)
  exact (pss_cons (ps_set (i := 2) sc.nd rfl (by first | exact Or.inl rfl | exact Or.inr rfl) (pe_lst (pa_cons (pv 1) pa_nil)))
      (pss_cut (ps_for PassesOwn.never rfl (pi_range1 (by rfl) m_range (pa_cons (pe_callB call_uLen (by rfl) m_len (by decide +kernel) (pa_cons (pv 0) pa_nil)) pa_nil)) (pg_name (i := 3) sc.nd rfl (by first | exact Or.inl rfl | exact Or.inr rfl)) (pss_cons (ps_if (pt_cmpR op_uIs (pe_ix ix_uIx (pv 0) (pe_ix ix_uIx (pv 2) (pe_op op_uSub (pe_callB call_uLen (by rfl) m_len (by decide +kernel) (pa_cons (pv 2) pa_nil)) pe_int) (fun _ _ => rfl)) (fun _ _ => rfl)) pe_non (nomark _)) (pss_one ps_break) pss_nil)
      (pss_one (ps_expr (pe_bm PySem.F.plainAttrs_list PySem.F.slot_list_append PySem.F.type_list_append mt_append (pv 2) (pa_cons (pe_ix ix_uIx (pv 0) (pe_ix ix_uIx (pv 2) (pe_op op_uSub (pe_callB call_uLen (by rfl) m_len (by decide +kernel) (pa_cons (pv 2) pa_nil)) pe_int) (fun _ _ => rfl)) (fun _ _ => rfl)) pa_nil))))))
      (pss_one (ps_ret (pv 2)))))
abbrev s_way_up : Stmt := (topS 4)
theorem sc_way_up : FnScope N_way_up ["regions", "place"] (defScope s_way_up) := ⟨rfl, rfl, rfl, by decide +kernel, rfl, by decide +kernel, by decide +kernel⟩
theorem ok_way_up {f : Addr} {fd : FuncData} (F : Fun K "way_up" "way_up" s_way_up f fd) : FnOk P w K mg base CX0 1 f fd ["regions", "place"] (sp_way_up K c) := by
  have sc := sc_way_up
  refine F.ok sc_way_up (fun vs H Q E h => ((w_way_up (c := c)) vs H Q E h).1) (fun cdv A outer s H vs Q E hr h => ⟨T_way_up K, ?_, ((w_way_up (c := c)) vs H Q E h).2⟩)
  exact (pss_cons (ps_set (i := 2) sc.nd rfl (by first | exact Or.inl rfl | exact Or.inr rfl) (pe_lst (pa_cons (pv 1) pa_nil)))
      (pss_cons (ps_while PassesOwn.never (pt_cmpR op_uIsNot (pe_fld (pe_ix ix_uIx (pv 0) (pe_ix ix_uIx (pv 2) (pe_un un_uNeg pe_int) (fun _ _ => rfl)) (fun _ _ => rfl)) rfl) pe_non (nomark _)) (pss_one (ps_expr (pe_bm PySem.F.plainAttrs_list PySem.F.slot_list_append PySem.F.type_list_append mt_append (pv 2) (pa_cons (pe_fld (pe_ix ix_uIx (pv 0) (pe_ix ix_uIx (pv 2) (pe_un un_uNeg pe_int) (fun _ _ => rfl)) (fun _ _ => rfl)) rfl) pa_nil)))))
      (pss_one (ps_ret (pv 2)))))
abbrev s_facts_at : Stmt := (topS 6)
theorem sc_facts_at : FnScope N_facts_at ["regions", "place"] (defScope s_facts_at) := ⟨rfl, rfl, rfl, by decide +kernel, rfl, by decide +kernel, by decide +kernel⟩
theorem ok_facts_at (D_way_up : Dfn P w K mg base 1 "way_up" ["regions", "place"] (sp_way_up K c)) (m_list : mg "list" = none) {f : Addr} {fd : FuncData} (F : Fun K "facts_at" "facts_at" s_facts_at f fd) : FnOk P w K mg base CX0 2 f fd ["regions", "place"] (sp_facts_at K c) := by
  have sc := sc_facts_at
  refine F.ok sc_facts_at (fun vs H Q E h => ((w_facts_at (c := c)) vs H Q E h).1) (fun cdv A outer s H vs Q E hr h => ⟨T_facts_at K c, ?_, ((w_facts_at (c := c)) vs H Q E h).2⟩)
  exact (pss_cons (ps_set (i := 2) sc.nd rfl (by first | exact Or.inl rfl | exact Or.inr rfl) (pe_lst pa_nil))
      (pss_cons (ps_for PassesOwn.never rfl (pi_sq (z_call D_way_up (hr.mono (by decide)) (by rfl) (pa_cons (pv 0) (pa_cons (pv 1) pa_nil)))) (pg_name (i := 3) sc.nd rfl (by first | exact Or.inl rfl | exact Or.inr rfl)) (pss_one (ps_set (i := 2) sc.nd rfl (by first | exact Or.inl rfl | exact Or.inr rfl) (pe_op op_uAdd (pv 2) (pe_callTy call_uList (by rfl) m_list (by decide +kernel) (pa_cons (pe_fld (pe_ix ix_uIx (pv 0) (pv 3) (fun _ _ => rfl)) rfl) pa_nil))))))
      (pss_one (ps_ret (pv 2)))))
abbrev s_Norms_eq : Stmt := (inClass (topS 11) 4)
theorem sc_Norms_eq : FnScope N_Norms_eq ["self", "other"] (defScope s_Norms_eq) := ⟨rfl, rfl, rfl, by decide +kernel, rfl, by decide +kernel, by decide +kernel⟩
theorem ok_Norms_eq (C_Norms : ClsF K mg c "Norms" ["low", "high"]) (I_Norms : IsF K c "Norms") (m_isinstance : mg "isinstance" = none) {f : Addr} {fd : FuncData} (F : Fun K "__eq__" "Norms.__eq__" s_Norms_eq f fd) : FnOk P w K mg base CX0 1 f fd ["self", "other"] (sp_Norms_eq K c) := by
  have sc := sc_Norms_eq
  refine F.ok sc_Norms_eq (fun vs H Q E h => ((w_Norms_eq (c := c)) vs H Q E h).1) (fun cdv A outer s H vs Q E hr h => ⟨T_Norms_eq K c, ?_, ((w_Norms_eq (c := c)) vs H Q E h).2⟩)
  exact (pss_one (ps_ret (pe_and (pe_callB call_uIsi (by rfl) m_isinstance (by decide +kernel) (pa_cons (pv 1) (pa_cons (z_cls C_Norms I_Norms (by rfl)) pa_nil))) (pe_and (pe_cmpR (op_uEq hr.units) (pe_fld (pv 0) rfl) (pe_fld (pv 1) rfl) (nomark _)) (pe_one (pe_cmpR (op_uEq hr.units) (pe_fld (pv 0) rfl) (pe_fld (pv 1) rfl) (nomark _)))))))
abbrev s_lies_in : Stmt := (topS 5)
theorem sc_lies_in : FnScope N_lies_in ["regions", "place", "other"] (defScope s_lies_in) := ⟨rfl, rfl, rfl, by decide +kernel, rfl, by decide +kernel, by decide +kernel⟩
theorem ok_lies_in (D_way_up : Dfn P w K mg base 1 "way_up" ["regions", "place"] (sp_way_up K c)) {f : Addr} {fd : FuncData} (F : Fun K "lies_in" "lies_in" s_lies_in f fd) : FnOk P w K mg base CX0 2 f fd ["regions", "place", "other"] (sp_lies_in K c) := by
  have sc := sc_lies_in
  refine F.ok sc_lies_in (fun vs H Q E h => ((w_lies_in (c := c)) vs H Q E h).1) (fun cdv A outer s H vs Q E hr h => ⟨T_lies_in K c, ?_, ((w_lies_in (c := c)) vs H Q E h).2⟩)
  exact (pss_one (ps_ret (pe_cmpR op_uIn (pv 2) (z_call D_way_up (hr.mono (by decide)) (by rfl) (pa_cons (pv 0) (pa_cons (pv 1) pa_nil))) (by rfl))))
abbrev s_law : Stmt := (topS 16)
theorem sc_law : FnScope N_law ["_law_script"] (defScope s_law) := ⟨rfl, rfl, rfl, by decide +kernel, rfl, by decide +kernel, by decide +kernel⟩
theorem ok_law (C_Norms : ClsF K mg c "Norms" ["low", "high"]) (C_Region : ClsF K mg c "Region" ["parent", "facts"]) (D_law_next : Dfn P w K mg base 2 "_law_next" ["_law_state", "_law_many"] (sp_law_next K)) (K_Norms_init : Mkr P w K mg base 1 (c.cls "Norms") ["self", "low", "high"] (sp_Norms_init K c)) (K_Region_init : Mkr P w K mg base 1 (c.cls "Region") ["self", "parent", "facts"] (sp_Region_init K c)) (D_is_partition : Dfn P w K mg base 1 "is_partition" ["regions"] (sp_is_partition K c)) (D_tops : Dfn P w K mg base 1 "tops" ["regions"] (sp_tops K c)) (D_law_way : Dfn P w K mg base 1 "_law_way" ["_law_parents", "_law_place"] (sp_law_way K)) (D_facts_at : Dfn P w K mg base 2 "facts_at" ["regions", "place"] (sp_facts_at K c)) (D_way_up : Dfn P w K mg base 1 "way_up" ["regions", "place"] (sp_way_up K c)) (M_Norms_eq : Mth P w K mg base 1 (c.cls "Norms") "__eq__" ["self", "other"] (sp_Norms_eq K c)) (D_lies_in : Dfn P w K mg base 2 "lies_in" ["regions", "place", "other"] (sp_lies_in K c)) (m_list : mg "list" = none) (m_range : mg "range" = none) (m_len : mg "len" = none) (m_isinstance : mg "isinstance" = none) (m_bool : mg "bool" = none) {f : Addr} {fd : FuncData} (F : Fun K "law" "law" s_law f fd) : FnOk P w K mg base CX0 3 f fd ["_law_script"] (sp_law K) := by
  have sc := sc_law
  refine F.ok sc_law (fun vs H Q E h => ((w_law (c := c)) vs H Q E h).1) (fun cdv A outer s H vs Q E hr h => ⟨T_law K c, ?_, ((w_law (c := c)) vs H Q E h).2⟩)
  exact (pss_cons (ps_set (i := 1) sc.nd rfl (by first | exact Or.inl rfl | exact Or.inr rfl) (pe_lst (pa_cons (pe_callTy call_uList (by rfl) m_list (by decide +kernel) (pa_cons (pv 0) pa_nil)) (pa_cons pe_int (pa_cons pe_int pa_nil)))))
      (pss_cons (ps_set (i := 2) sc.nd rfl (by first | exact Or.inl rfl | exact Or.inr rfl) (pe_lst pa_nil))
      (pss_cons (ps_for PassesOwn.never rfl (pi_range1 (by rfl) m_range (pa_cons (pe_op op_uAdd pe_int (z_call D_law_next (hr.mono (by decide)) (by rfl) (pa_cons (pv 1) (pa_cons pe_int pa_nil)))) pa_nil)) (pg_name (i := 3) sc.nd rfl (by first | exact Or.inl rfl | exact Or.inr rfl)) (pss_cons (ps_expr (pe_bm PySem.F.plainAttrs_list PySem.F.slot_list_append PySem.F.type_list_append mt_append (pv 2) (pa_cons pe_non pa_nil)))
      (pss_one (ps_if (PW.pt (pw_and (pt_cmpR op_uGt (pv 3) pe_int (nomark _)) (pw_and1 (pt_cmpR op_uGt (z_call D_law_next (hr.mono (by decide)) (by rfl) (pa_cons (pv 1) (pa_cons pe_int pa_nil))) pe_int (nomark _))))) (pss_one (ps_asg (z_call D_law_next (hr.mono (by decide)) (by rfl) (pa_cons (pv 1) (pa_cons (pv 3) pa_nil))) (pg_sub (pv 2) (pv 3) set_list))) pss_nil))))
      (pss_cons (by first | exact (ps_setLc (i := 4) (own := [("_law_k", 3)]) (g := (gName 3)) (tt := tYes) rfl sc.nd rfl rfl (sw_true rfl rfl rfl (by decide +kernel)) (pi_range1 (by rfl) m_range (pa_cons (pe_callB call_uLen (by rfl) m_len (by decide +kernel) (pa_cons (pv 2) pa_nil)) pa_nil)) (blkOk_by (N := N_law) (sc := defScope s_law) (by decide +kernel)) (fun _ _ _ _ _ => (pg_name (i := 3) sc.nd rfl (by first | exact Or.inl rfl | exact Or.inr rfl))) (fun _ _ _ _ _ => pts_nil) (fun _ _ _ _ _ => (pe_lc (own := [("_law_j", 5)]) (g := (gName 5)) (tt := tYes) rfl sc.nd (pi_range1 (by rfl) m_range (pa_cons (z_call D_law_next (hr.mono (by decide)) (by rfl) (pa_cons (pv 1) (pa_cons pe_int pa_nil))) pa_nil)) (blkOk_by (by with_unfolding_all rfl)) (fun _ _ _ _ _ => (pg_name (i := 5) sc.nd rfl (by first | exact Or.inl rfl | exact Or.inr rfl))) (fun _ _ _ _ _ => pts_nil) (fun _ _ _ _ _ => (z_make C_Norms K_Norms_init (hr.mono (by decide)) (by rfl) (pa_cons (pv 3) (pa_cons (pv 5) pa_nil))))))) | exact (ps_set (i := 4) sc.nd rfl (Or.inr rfl) (pe_lc (own := [("_law_k", 3)]) (g := (gName 3)) (tt := tYes) rfl sc.nd (pi_range1 (by rfl) m_range (pa_cons (pe_callB call_uLen (by rfl) m_len (by decide +kernel) (pa_cons (pv 2) pa_nil)) pa_nil)) (blkOk_by (N := N_law) (sc := defScope s_law) (by decide +kernel)) (fun _ _ _ _ _ => (pg_name (i := 3) sc.nd rfl (by first | exact Or.inl rfl | exact Or.inr rfl))) (fun _ _ _ _ _ => pts_nil) (fun _ _ _ _ _ => (pe_lc (own := [("_law_j", 5)]) (g := (gName 5)) (tt := tYes) rfl sc.nd (pi_range1 (by rfl) m_range (pa_cons (z_call D_law_next (hr.mono (by decide)) (by rfl) (pa_cons (pv 1) (pa_cons pe_int pa_nil))) pa_nil)) (blkOk_by (by with_unfolding_all rfl)) (fun _ _ _ _ _ => (pg_name (i := 5) sc.nd rfl (by first | exact Or.inl rfl | exact Or.inr rfl))) (fun _ _ _ _ _ => pts_nil) (fun _ _ _ _ _ => (z_make C_Norms K_Norms_init (hr.mono (by decide)) (by rfl) (pa_cons (pv 3) (pa_cons (pv 5) pa_nil)))))))))
      (pss_cons (by first | exact (ps_setLc (i := 6) (own := [("_law_k", 3)]) (g := (gName 3)) (tt := tYes) rfl sc.nd rfl rfl (sw_true rfl rfl rfl (by decide +kernel)) (pi_range1 (by rfl) m_range (pa_cons (pe_callB call_uLen (by rfl) m_len (by decide +kernel) (pa_cons (pv 2) pa_nil)) pa_nil)) (blkOk_by (N := N_law) (sc := defScope s_law) (by decide +kernel)) (fun _ _ _ _ _ => (pg_name (i := 3) sc.nd rfl (by first | exact Or.inl rfl | exact Or.inr rfl))) (fun _ _ _ _ _ => pts_nil) (fun _ _ _ _ _ => (z_make C_Region K_Region_init (hr.mono (by decide)) (by rfl) (pa_cons (pe_ix ix_uIx (pv 2) (pv 3) (fun _ _ => rfl)) (pa_cons (pe_callTy call_uList (by rfl) m_list (by decide +kernel) (pa_cons (pe_ix ix_uIx (pv 4) (pv 3) (fun _ _ => rfl)) pa_nil)) pa_nil))))) | exact (ps_set (i := 6) sc.nd rfl (Or.inr rfl) (pe_lc (own := [("_law_k", 3)]) (g := (gName 3)) (tt := tYes) rfl sc.nd (pi_range1 (by rfl) m_range (pa_cons (pe_callB call_uLen (by rfl) m_len (by decide +kernel) (pa_cons (pv 2) pa_nil)) pa_nil)) (blkOk_by (N := N_law) (sc := defScope s_law) (by decide +kernel)) (fun _ _ _ _ _ => (pg_name (i := 3) sc.nd rfl (by first | exact Or.inl rfl | exact Or.inr rfl))) (fun _ _ _ _ _ => pts_nil) (fun _ _ _ _ _ => (z_make C_Region K_Region_init (hr.mono (by decide)) (by rfl) (pa_cons (pe_ix ix_uIx (pv 2) (pv 3) (fun _ _ => rfl)) (pa_cons (pe_callTy call_uList (by rfl) m_list (by decide +kernel) (pa_cons (pe_ix ix_uIx (pv 4) (pv 3) (fun _ _ => rfl)) pa_nil)) pa_nil)))))))
      (pss_cons (ps_if (PW.pt (pw_or (pt_cmpR op_uIsNot (z_call D_is_partition (hr.mono (by decide)) (by rfl) (pa_cons (pv 6) pa_nil)) pe_bl (nomark _)) (pw_or1 (pt_cmpR (op_uNe hr.units) (z_call D_tops (hr.mono (by decide)) (by rfl) (pa_cons (pv 6) pa_nil)) (pe_lc (own := [("_law_k", 3)]) (g := (gName 3)) (tt := (tTest (tOp uIs (tOp (uIx K) (tVar 2) (tVar 3)) (tC .non)))) rfl sc.nd (pi_range1 (by rfl) m_range (pa_cons (pe_callB call_uLen (by rfl) m_len (by decide +kernel) (pa_cons (pv 2) pa_nil)) pa_nil)) (blkOk_by (N := N_law) (sc := defScope s_law) (by decide +kernel)) (fun _ _ _ _ _ => (pg_name (i := 3) sc.nd rfl (by first | exact Or.inl rfl | exact Or.inr rfl))) (fun _ _ _ _ _ => (pts_one (pt_cmpR op_uIs (pe_ix ix_uIx (pv 2) (pv 3) (fun _ _ => rfl)) pe_non (nomark _)))) (fun _ _ _ _ _ => (pv 3))) (nomark _))))) (pss_one (ps_ret pe_bl)) pss_nil)
      (pss_cons (ps_for PassesOwn.never rfl (pi_range1 (by rfl) m_range (pa_cons (pe_callB call_uLen (by rfl) m_len (by decide +kernel) (pa_cons (pv 2) pa_nil)) pa_nil)) (pg_name (i := 3) sc.nd rfl (by first | exact Or.inl rfl | exact Or.inr rfl)) (pss_cons (ps_set (i := 7) sc.nd rfl (by first | exact Or.inl rfl | exact Or.inr rfl) (z_call D_law_way (hr.mono (by decide)) (by rfl) (pa_cons (pv 2) (pa_cons (pv 3) pa_nil))))
      (pss_cons (ps_set (i := 8) sc.nd rfl (by first | exact Or.inl rfl | exact Or.inr rfl) (pe_lst pa_nil))
      (pss_cons (ps_for PassesOwn.never rfl (pi_sq (pv 7)) (pg_name (i := 9) sc.nd rfl (by first | exact Or.inl rfl | exact Or.inr rfl)) (pss_one (ps_set (i := 8) sc.nd rfl (by first | exact Or.inl rfl | exact Or.inr rfl) (pe_op op_uAdd (pv 8) (pe_ix ix_uIx (pv 4) (pv 9) (fun _ _ => rfl))))))
      (pss_cons (ps_set (i := 10) sc.nd rfl (by first | exact Or.inl rfl | exact Or.inr rfl) (z_call D_facts_at (hr.mono (by decide)) (by rfl) (pa_cons (pv 6) (pa_cons (pv 3) pa_nil))))
      (pss_cons (ps_if (PW.pt (pw_or (pt_cmpR (op_uNe hr.units) (z_call D_way_up (hr.mono (by decide)) (by rfl) (pa_cons (pv 6) (pa_cons (pv 3) pa_nil))) (pv 7) (nomark _)) (pw_or (pt_not (pt_u (pe_callB call_uIsi (by rfl) m_isinstance (by decide +kernel) (pa_cons (pv 10) (pa_cons (pe_bltn (by rfl) m_list (by decide +kernel) rfl) pa_nil))))) (pw_or1 (pt_cmpR (op_uNe hr.units) (pe_callB call_uLen (by rfl) m_len (by decide +kernel) (pa_cons (pv 10) pa_nil)) (pe_callB call_uLen (by rfl) m_len (by decide +kernel) (pa_cons (pv 8) pa_nil)) (nomark _)))))) (pss_one (ps_ret pe_bl)) pss_nil)
      (pss_cons (ps_for PassesOwn.never rfl (pi_range1 (by rfl) m_range (pa_cons (pe_callB call_uLen (by rfl) m_len (by decide +kernel) (pa_cons (pv 8) pa_nil)) pa_nil)) (pg_name (i := 5) sc.nd rfl (by first | exact Or.inl rfl | exact Or.inr rfl)) (pss_one (ps_if (pt_not (pt_cmpR (op_eqO C_Norms M_Norms_eq (hr.mono (by decide))) (pe_ix ix_uIx (pv 10) (pv 5) (fun _ _ => rfl)) (pe_ix ix_uIx (pv 8) (pv 5) (fun _ _ => rfl)) (nomark _))) (pss_one (ps_ret pe_bl)) pss_nil)))
      (pss_one (ps_for PassesOwn.never rfl (pi_range1 (by rfl) m_range (pa_cons (pe_callB call_uLen (by rfl) m_len (by decide +kernel) (pa_cons (pv 2) pa_nil)) pa_nil)) (pg_name (i := 5) sc.nd rfl (by first | exact Or.inl rfl | exact Or.inr rfl)) (pss_one (ps_if (PW.pt (pw_or (pt_not (pt_u (pe_callB call_uIsi (by rfl) m_isinstance (by decide +kernel) (pa_cons (z_call D_lies_in (hr.mono (by decide)) (by rfl) (pa_cons (pv 6) (pa_cons (pv 3) (pa_cons (pv 5) pa_nil)))) (pa_cons (pe_bltn (by rfl) m_bool (by decide +kernel) rfl) pa_nil))))) (pw_or1 (pt_cmpR (op_uNe hr.units) (z_call D_lies_in (hr.mono (by decide)) (by rfl) (pa_cons (pv 6) (pa_cons (pv 3) (pa_cons (pv 5) pa_nil)))) (pe_cmpR op_uIn (pv 5) (pv 7) (by rfl)) (nomark _))))) (pss_one (ps_ret pe_bl)) pss_nil)))))))))))
      (pss_cons (by first | exact (ps_setLc (i := 11) (own := [("_law_k", 3)]) (g := (gName 3)) (tt := tYes) rfl sc.nd rfl rfl (sw_true rfl rfl rfl (by decide +kernel)) (pi_range1 (by rfl) m_range (pa_cons (z_call D_law_next (hr.mono (by decide)) (by rfl) (pa_cons (pv 1) (pa_cons pe_int pa_nil))) pa_nil)) (blkOk_by (N := N_law) (sc := defScope s_law) (by decide +kernel)) (fun _ _ _ _ _ => (pg_name (i := 3) sc.nd rfl (by first | exact Or.inl rfl | exact Or.inr rfl))) (fun _ _ _ _ _ => pts_nil) (fun _ _ _ _ _ => (pe_ix ix_uIx (pe_lst (pa_cons pe_non (pa_cons (pe_un un_uNeg pe_int) (pa_cons (pe_un un_uNeg pe_int) (pa_cons pe_int (pa_cons pe_int (pa_cons pe_int (pa_cons pe_int (pa_cons pe_int pa_nil))))))))) (z_call D_law_next (hr.mono (by decide)) (by rfl) (pa_cons (pv 1) (pa_cons pe_int pa_nil))) (fun _ _ => rfl)))) | exact (ps_set (i := 11) sc.nd rfl (Or.inr rfl) (pe_lc (own := [("_law_k", 3)]) (g := (gName 3)) (tt := tYes) rfl sc.nd (pi_range1 (by rfl) m_range (pa_cons (z_call D_law_next (hr.mono (by decide)) (by rfl) (pa_cons (pv 1) (pa_cons pe_int pa_nil))) pa_nil)) (blkOk_by (N := N_law) (sc := defScope s_law) (by decide +kernel)) (fun _ _ _ _ _ => (pg_name (i := 3) sc.nd rfl (by first | exact Or.inl rfl | exact Or.inr rfl))) (fun _ _ _ _ _ => pts_nil) (fun _ _ _ _ _ => (pe_ix ix_uIx (pe_lst (pa_cons pe_non (pa_cons (pe_un un_uNeg pe_int) (pa_cons (pe_un un_uNeg pe_int) (pa_cons pe_int (pa_cons pe_int (pa_cons pe_int (pa_cons pe_int (pa_cons pe_int pa_nil))))))))) (z_call D_law_next (hr.mono (by decide)) (by rfl) (pa_cons (pv 1) (pa_cons pe_int pa_nil))) (fun _ _ => rfl))))))
      (pss_cons (ps_set (i := 12) sc.nd rfl (by first | exact Or.inl rfl | exact Or.inr rfl) pe_bl)
      (pss_cons (ps_for PassesOwn.never rfl (pi_range1 (by rfl) m_range (pa_cons (pe_callB call_uLen (by rfl) m_len (by decide +kernel) (pa_cons (pv 11) pa_nil)) pa_nil)) (pg_name (i := 3) sc.nd rfl (by first | exact Or.inl rfl | exact Or.inr rfl)) (pss_one (ps_set (i := 12) sc.nd rfl (by first | exact Or.inl rfl | exact Or.inr rfl) (pe_and (pv 12) (pe_one (pe_or (pe_cmpR op_uIs (pe_ix ix_uIx (pv 11) (pv 3) (fun _ _ => rfl)) pe_non (nomark _)) (pe_one (pe_chain op_uLe (op_uLt hr.units) pe_int (pe_ix ix_uIx (pv 11) (pv 3) (fun _ _ => rfl)) (pv 3)))))))))
      (pss_one (ps_ret (pe_cmpR (op_uEq hr.units) (z_call D_is_partition (hr.mono (by decide)) (by rfl) (pa_cons (pe_lc (own := [("_law_parent", 13)]) (g := (gName 13)) (tt := tYes) rfl sc.nd (pi_sq (pv 11)) (blkOk_by (N := N_law) (sc := defScope s_law) (by decide +kernel)) (fun _ _ _ _ _ => (pg_name (i := 13) sc.nd rfl (by first | exact Or.inl rfl | exact Or.inr rfl))) (fun _ _ _ _ _ => pts_nil) (fun _ _ _ _ _ => (z_make C_Region K_Region_init (hr.mono (by decide)) (by rfl) (pa_cons (pv 13) (pa_cons (pe_lst pa_nil) pa_nil))))) pa_nil)) (pv 12) (nomark _))))))))))))))
end
def cEnv (C0 C1 : Addr) : CEnv := ⟨fun x => (([("Norms", C0), ("Region", C1)] : List (Str × Addr)).lookup x).getD 0, fun y => y ∈ (["Norms"] : List Str)⟩
theorem all_mk {l : PySem.W.OpenLaw} {w : World} {K : PySem.W.Frag} {h : Heap} {mg : Str → Option Value} {fa f0 f1 f2 f3 f4 f5 f6 f7 f8 f9 f10 f11 C0 C1  : Addr} (X : K.In h) (G : h.Ns mainGlobals mg) (hfa : mg "law" = some (.ref fa))
    {od0 an0 od1 an1 od2 an2 od3 an3 od4 an4 od5 an5 od6 an6 od7 an7 od8 an8 od9 an9 od10 an10 od11 an11 : Option Addr} {sl0 sl1 sl2 sl3 sl4 sl5 sl6 sl7 sl8 sl9 sl10 sl11 : Array (Option Value)} {oc0 kV0 dc0 pm0 cd0 ct0 oc1 kV1 dc1 pm1 cd1 ct1 oc2 kV2 dc2 pm2 cd2 ct2 oc3 kV3 dc3 pm3 cd3 ct3 oc4 kV4 dc4 pm4 cd4 ct4 oc5 kV5 dc5 pm5 cd5 ct5 oc6 kV6 dc6 pm6 cd6 ct6 oc7 kV7 dc7 pm7 cd7 ct7 oc8 kV8 dc8 pm8 cd8 ct8 oc9 kV9 dc9 pm9 cd9 ct9 oc10 kV10 dc10 pm10 cd10 ct10 oc11 kV11 dc11 pm11 cd11 ct11 : Value}
    (b0 : PySem.W.nsIn K mainGlobals "Norms" = some (some (.ref C0)))
    (pg0 : PySem.W.plainGet K C0 Str.empty = true)
    (hd0 : PySem.W.hasDictIn K C0 = true)
    (po0 : PySem.W.plainOver K C0 = true)
    (sa0 : PySem.W.findIn K (.ref C0) "__setattr__" = some (some (.builtin "object.__setattr__")))
    (ha0 : PySem.W.findIn K (.ref C0) "__class__" = some (some (.builtin "object.__class__")))
    (hm0 : PySem.W.mroIn K C0 (.type "object") = some true)
    (mk0 : PySem.W.makesIn K C0 = true)
    (kc0 : PySem.W.keepIn K (.ref C0) = true)
    (n0_0 : PySem.W.findIn K (.ref C0) "low" = some none)
    (n0_1 : PySem.W.findIn K (.ref C0) "high" = some none)
    (q0_0 : PySem.W.subIn K (.ref C0) (.ref C0) = some true)
    (b1 : PySem.W.nsIn K mainGlobals "Region" = some (some (.ref C1)))
    (pg1 : PySem.W.plainGet K C1 Str.empty = true)
    (hd1 : PySem.W.hasDictIn K C1 = true)
    (po1 : PySem.W.plainOver K C1 = true)
    (sa1 : PySem.W.findIn K (.ref C1) "__setattr__" = some (some (.builtin "object.__setattr__")))
    (ha1 : PySem.W.findIn K (.ref C1) "__class__" = some (some (.builtin "object.__class__")))
    (hm1 : PySem.W.mroIn K C1 (.type "object") = some true)
    (mk1 : PySem.W.makesIn K C1 = true)
    (kc1 : PySem.W.keepIn K (.ref C1) = true)
    (n1_0 : PySem.W.findIn K (.ref C1) "parent" = some none)
    (n1_1 : PySem.W.findIn K (.ref C1) "facts" = some none)
    (q1_0 : PySem.W.subIn K (.ref C1) (.ref C0) = some false)
    (ic0 : PySem.W.isClsIn K C0 = true)
    (ty0 : PySem.W.typeIn K (.ref C0) = some (.type "type"))
    (r0_int : PySem.W.subIn K (.type "int") (.ref C0) = some false)
    (r0_bool : PySem.W.subIn K (.type "bool") (.ref C0) = some false)
    (r0_str : PySem.W.subIn K (.type "str") (.ref C0) = some false)
    (r0_NoneType : PySem.W.subIn K (.type "NoneType") (.ref C0) = some false)
    (r0_tuple : PySem.W.subIn K (.type "tuple") (.ref C0) = some false)
    (r0_list : PySem.W.subIn K (.type "list") (.ref C0) = some false)
    (r0_dict : PySem.W.subIn K (.type "dict") (.ref C0) = some false)
    (hn : PySem.W.specialIn K (.builtin "object.__class__") "__get__" = some (some (.builtin "getset_descriptor.__get__")))
    (htk : PySem.W.takesIn K (.builtin "object.__class__") = some true)
    (a0 : PySem.W.nsIn K mainGlobals "_law_row" = some (some (.ref f0)))
    (l0 : K.lookup f0 = some ⟨oc0, od0, .func (PySem.W.fnOf "_law_row" "_law_row" (defArgs s_law_row) (defBody s_law_row) (defScope s_law_row) .none kV0 dc0 pm0 an0 cd0 ct0), sl0⟩)
    (c0 : PySem.W.codeIn K cd0 "_law_row" = true)
    (k0 : PySem.W.keepIn K (.ref f0) = true)
    (a1 : PySem.W.nsIn K mainGlobals "_law_next" = some (some (.ref f1)))
    (l1 : K.lookup f1 = some ⟨oc1, od1, .func (PySem.W.fnOf "_law_next" "_law_next" (defArgs s_law_next) (defBody s_law_next) (defScope s_law_next) .none kV1 dc1 pm1 an1 cd1 ct1), sl1⟩)
    (c1 : PySem.W.codeIn K cd1 "_law_next" = true)
    (k1 : PySem.W.keepIn K (.ref f1) = true)
    (a2 : PySem.W.findIn K (.ref C0) "__init__" = some (some (.ref f2)))
    (i2 : PySem.W.isFn K (.ref f2) = true)
    (l2 : K.lookup f2 = some ⟨oc2, od2, .func (PySem.W.fnOf "__init__" "Norms.__init__" (defArgs s_Norms_init) (defBody s_Norms_init) (defScope s_Norms_init) .none kV2 dc2 pm2 an2 cd2 ct2), sl2⟩)
    (c2 : PySem.W.codeIn K cd2 "Norms.__init__" = true)
    (k2 : PySem.W.keepIn K (.ref f2) = true)
    (a3 : PySem.W.findIn K (.ref C1) "__init__" = some (some (.ref f3)))
    (i3 : PySem.W.isFn K (.ref f3) = true)
    (l3 : K.lookup f3 = some ⟨oc3, od3, .func (PySem.W.fnOf "__init__" "Region.__init__" (defArgs s_Region_init) (defBody s_Region_init) (defScope s_Region_init) .none kV3 dc3 pm3 an3 cd3 ct3), sl3⟩)
    (c3 : PySem.W.codeIn K cd3 "Region.__init__" = true)
    (k3 : PySem.W.keepIn K (.ref f3) = true)
    (a4 : PySem.W.nsIn K mainGlobals "is_partition" = some (some (.ref f4)))
    (l4 : K.lookup f4 = some ⟨oc4, od4, .func (PySem.W.fnOf "is_partition" "is_partition" (defArgs s_is_partition) (defBody s_is_partition) (defScope s_is_partition) .none kV4 dc4 pm4 an4 cd4 ct4), sl4⟩)
    (c4 : PySem.W.codeIn K cd4 "is_partition" = true)
    (k4 : PySem.W.keepIn K (.ref f4) = true)
    (a5 : PySem.W.nsIn K mainGlobals "tops" = some (some (.ref f5)))
    (l5 : K.lookup f5 = some ⟨oc5, od5, .func (PySem.W.fnOf "tops" "tops" (defArgs s_tops) (defBody s_tops) (defScope s_tops) .none kV5 dc5 pm5 an5 cd5 ct5), sl5⟩)
    (c5 : PySem.W.codeIn K cd5 "tops" = true)
    (k5 : PySem.W.keepIn K (.ref f5) = true)
    (a6 : PySem.W.nsIn K mainGlobals "_law_way" = some (some (.ref f6)))
    (l6 : K.lookup f6 = some ⟨oc6, od6, .func (PySem.W.fnOf "_law_way" "_law_way" (defArgs s_law_way) (defBody s_law_way) (defScope s_law_way) .none kV6 dc6 pm6 an6 cd6 ct6), sl6⟩)
    (c6 : PySem.W.codeIn K cd6 "_law_way" = true)
    (k6 : PySem.W.keepIn K (.ref f6) = true)
    (a7 : PySem.W.nsIn K mainGlobals "way_up" = some (some (.ref f7)))
    (l7 : K.lookup f7 = some ⟨oc7, od7, .func (PySem.W.fnOf "way_up" "way_up" (defArgs s_way_up) (defBody s_way_up) (defScope s_way_up) .none kV7 dc7 pm7 an7 cd7 ct7), sl7⟩)
    (c7 : PySem.W.codeIn K cd7 "way_up" = true)
    (k7 : PySem.W.keepIn K (.ref f7) = true)
    (a8 : PySem.W.nsIn K mainGlobals "facts_at" = some (some (.ref f8)))
    (l8 : K.lookup f8 = some ⟨oc8, od8, .func (PySem.W.fnOf "facts_at" "facts_at" (defArgs s_facts_at) (defBody s_facts_at) (defScope s_facts_at) .none kV8 dc8 pm8 an8 cd8 ct8), sl8⟩)
    (c8 : PySem.W.codeIn K cd8 "facts_at" = true)
    (k8 : PySem.W.keepIn K (.ref f8) = true)
    (a9 : PySem.W.findIn K (.ref C0) "__eq__" = some (some (.ref f9)))
    (i9 : PySem.W.isFn K (.ref f9) = true)
    (l9 : K.lookup f9 = some ⟨oc9, od9, .func (PySem.W.fnOf "__eq__" "Norms.__eq__" (defArgs s_Norms_eq) (defBody s_Norms_eq) (defScope s_Norms_eq) .none kV9 dc9 pm9 an9 cd9 ct9), sl9⟩)
    (c9 : PySem.W.codeIn K cd9 "Norms.__eq__" = true)
    (k9 : PySem.W.keepIn K (.ref f9) = true)
    (a10 : PySem.W.nsIn K mainGlobals "lies_in" = some (some (.ref f10)))
    (l10 : K.lookup f10 = some ⟨oc10, od10, .func (PySem.W.fnOf "lies_in" "lies_in" (defArgs s_lies_in) (defBody s_lies_in) (defScope s_lies_in) .none kV10 dc10 pm10 an10 cd10 ct10), sl10⟩)
    (c10 : PySem.W.codeIn K cd10 "lies_in" = true)
    (k10 : PySem.W.keepIn K (.ref f10) = true)
    (a11 : PySem.W.nsIn K mainGlobals "law" = some (some (.ref f11)))
    (l11 : K.lookup f11 = some ⟨oc11, od11, .func (PySem.W.fnOf "law" "law" (defArgs s_law) (defBody s_law) (defScope s_law) .none kV11 dc11 pm11 an11 cd11 ct11), sl11⟩)
    (c11 : PySem.W.codeIn K cd11 "law" = true)
    (k11 : PySem.W.keepIn K (.ref f11) = true)
    (z0 : PySem.W.nsIn K mainGlobals "len" = some none)
    (z1 : PySem.W.nsIn K mainGlobals "int" = some none)
    (z2 : PySem.W.nsIn K mainGlobals "tuple" = some none)
    (z3 : PySem.W.nsIn K mainGlobals "enumerate" = some none)
    (z4 : PySem.W.nsIn K mainGlobals "range" = some none)
    (z5 : PySem.W.nsIn K mainGlobals "list" = some none)
    (z6 : PySem.W.nsIn K mainGlobals "isinstance" = some none)
    (z7 : PySem.W.nsIn K mainGlobals "bool" = some none)
    : ∃ fd : FuncData, (∀ (s : Shared) (v : Value), BindsTo s fd ⟨[v], []⟩ [("_law_script", v)]) ∧ ∀ base : Heap, K.In base → base.Ns mainGlobals mg → FnOk l.prog w K mg base CX0 3 fa fd ["_law_script"] (sp_law K) := by
  have e := hfa.symm.trans (PySem.W.mg_of X G a11)
  cases e
  have m_len := PySem.W.mg_none_of X G z0
  have m_int := PySem.W.mg_none_of X G z1
  have m_tuple := PySem.W.mg_none_of X G z2
  have m_enumerate := PySem.W.mg_none_of X G z3
  have m_range := PySem.W.mg_none_of X G z4
  have m_list := PySem.W.mg_none_of X G z5
  have m_isinstance := PySem.W.mg_none_of X G z6
  have m_bool := PySem.W.mg_none_of X G z7
  have F0 := fun_mk (st := s_law_row) l0 c0 k0
  have F1 := fun_mk (st := s_law_next) l1 c1 k1
  have F2 := fun_mk (st := s_Norms_init) l2 c2 k2
  have F3 := fun_mk (st := s_Region_init) l3 c3 k3
  have F4 := fun_mk (st := s_is_partition) l4 c4 k4
  have F5 := fun_mk (st := s_tops) l5 c5 k5
  have F6 := fun_mk (st := s_law_way) l6 c6 k6
  have F7 := fun_mk (st := s_way_up) l7 c7 k7
  have F8 := fun_mk (st := s_facts_at) l8 c8 k8
  have F9 := fun_mk (st := s_Norms_eq) l9 c9 k9
  have F10 := fun_mk (st := s_lies_in) l10 c10 k10
  have F11 := fun_mk (st := s_law) l11 c11 k11
  have I_Norms : IsF K (cEnv C0 C1) "Norms" := ⟨(by show _ ∈ (["Norms"] : List Str); simp), ki_of (List.forall_mem_cons.mpr ⟨kit_own ic0 ty0 q0_0 r0_int, (List.forall_mem_cons.mpr ⟨kit_own ic0 ty0 q0_0 r0_bool, (List.forall_mem_cons.mpr ⟨kit_own ic0 ty0 q0_0 r0_str, (List.forall_mem_cons.mpr ⟨kit_own ic0 ty0 q0_0 r0_NoneType, (List.forall_mem_cons.mpr ⟨kit_own ic0 ty0 q0_0 r0_tuple, (List.forall_mem_cons.mpr ⟨kit_own ic0 ty0 q0_0 r0_list, (List.forall_mem_cons.mpr ⟨kit_own ic0 ty0 q0_0 r0_dict, (fun _ h => nomatch h)⟩)⟩)⟩)⟩)⟩)⟩)⟩)⟩
  have O_Norms : ClsOk K (cEnv C0 C1) "Norms" ["low", "high"] := ⟨⟨pg0, hd0, po0, sa0⟩, na_of (List.forall_mem_cons.mpr ⟨n0_0, (List.forall_mem_cons.mpr ⟨n0_1, (fun _ h => nomatch h)⟩)⟩), ha0, hn, htk, hm0, (List.forall_mem_cons.mpr ⟨(by rw [show SUB "Norms" "Norms" = true by decide +kernel]; exact kit_own ic0 ty0 q0_0 q0_0), (fun _ h => nomatch h)⟩)⟩
  have C_Norms : ClsF K mg (cEnv C0 C1) "Norms" ["low", "high"] := ⟨O_Norms, fun _ => I_Norms, PySem.W.mg_of X G b0⟩
  have O_Region : ClsOk K (cEnv C0 C1) "Region" ["parent", "facts"] := ⟨⟨pg1, hd1, po1, sa1⟩, na_of (List.forall_mem_cons.mpr ⟨n1_0, (List.forall_mem_cons.mpr ⟨n1_1, (fun _ h => nomatch h)⟩)⟩), ha1, hn, htk, hm1, (List.forall_mem_cons.mpr ⟨(by rw [show SUB "Region" "Norms" = false by decide +kernel]; exact kit_own ic0 ty0 q0_0 q1_0), (fun _ h => nomatch h)⟩)⟩
  have C_Region : ClsF K mg (cEnv C0 C1) "Region" ["parent", "facts"] := ⟨O_Region, fun h => absurd h (by show _ ∉ (["Norms"] : List Str); decide +kernel), PySem.W.mg_of X G b1⟩
  refine ⟨PySem.W.fnOf "law" "law" (defArgs s_law) (defBody s_law) (defScope s_law) .none kV11 dc11 pm11 an11 cd11 ct11, fun s v => .of_eq rfl, fun base _ _ => ?_⟩
  have D_law_row : Dfn l.prog w K mg base 1 "_law_row" ["_law_script", "_law_k"] (sp_law_row K) := ⟨_, _, PySem.W.mg_of X G a0, F0.kp, F0.binds (ps := ["_law_script", "_law_k"]) (fun _ _ _ _ _ _ us hl => match us, hl with | [_, _], _ => rfl), ok_law_row m_len m_int F0⟩
  have D_law_next : Dfn l.prog w K mg base 2 "_law_next" ["_law_state", "_law_many"] (sp_law_next K) := ⟨_, _, PySem.W.mg_of X G a1, F1.kp, F1.binds (ps := ["_law_state", "_law_many"]) (fun _ _ _ _ _ _ us hl => match us, hl with | [_, _], _ => rfl), ok_law_next D_law_row m_int F1⟩
  have K_Norms_init : Mkr l.prog w K mg base 1 ((cEnv C0 C1).cls "Norms") ["self", "low", "high"] (sp_Norms_init K (cEnv C0 C1)) := ⟨_, _, ⟨mk0, a2, i2, kc0⟩, F2.binds (ps := ["self", "low", "high"]) (fun _ _ _ _ _ _ us hl => match us, hl with | [_, _, _], _ => rfl), ok_Norms_init F2⟩
  have K_Region_init : Mkr l.prog w K mg base 1 ((cEnv C0 C1).cls "Region") ["self", "parent", "facts"] (sp_Region_init K (cEnv C0 C1)) := ⟨_, _, ⟨mk1, a3, i3, kc1⟩, F3.binds (ps := ["self", "parent", "facts"]) (fun _ _ _ _ _ _ us hl => match us, hl with | [_, _, _], _ => rfl), ok_Region_init m_tuple F3⟩
  have D_is_partition : Dfn l.prog w K mg base 1 "is_partition" ["regions"] (sp_is_partition K (cEnv C0 C1)) := ⟨_, _, PySem.W.mg_of X G a4, F4.kp, F4.binds (ps := ["regions"]) (fun _ _ _ _ _ _ us hl => match us, hl with | [_], _ => rfl), ok_is_partition m_enumerate F4⟩
  have D_tops : Dfn l.prog w K mg base 1 "tops" ["regions"] (sp_tops K (cEnv C0 C1)) := ⟨_, _, PySem.W.mg_of X G a5, F5.kp, F5.binds (ps := ["regions"]) (fun _ _ _ _ _ _ us hl => match us, hl with | [_], _ => rfl), ok_tops m_enumerate F5⟩
  have D_law_way : Dfn l.prog w K mg base 1 "_law_way" ["_law_parents", "_law_place"] (sp_law_way K) := ⟨_, _, PySem.W.mg_of X G a6, F6.kp, F6.binds (ps := ["_law_parents", "_law_place"]) (fun _ _ _ _ _ _ us hl => match us, hl with | [_, _], _ => rfl), ok_law_way m_len m_range F6⟩
  have D_way_up : Dfn l.prog w K mg base 1 "way_up" ["regions", "place"] (sp_way_up K (cEnv C0 C1)) := ⟨_, _, PySem.W.mg_of X G a7, F7.kp, F7.binds (ps := ["regions", "place"]) (fun _ _ _ _ _ _ us hl => match us, hl with | [_, _], _ => rfl), ok_way_up F7⟩
  have D_facts_at : Dfn l.prog w K mg base 2 "facts_at" ["regions", "place"] (sp_facts_at K (cEnv C0 C1)) := ⟨_, _, PySem.W.mg_of X G a8, F8.kp, F8.binds (ps := ["regions", "place"]) (fun _ _ _ _ _ _ us hl => match us, hl with | [_, _], _ => rfl), ok_facts_at D_way_up m_list F8⟩
  have M_Norms_eq : Mth l.prog w K mg base 1 ((cEnv C0 C1).cls "Norms") "__eq__" ["self", "other"] (sp_Norms_eq K (cEnv C0 C1)) := ⟨_, _, ⟨a9, i9, k9⟩, F9.binds (ps := ["self", "other"]) (fun _ _ _ _ _ _ us hl => match us, hl with | [_, _], _ => rfl), ok_Norms_eq C_Norms I_Norms m_isinstance F9⟩
  have D_lies_in : Dfn l.prog w K mg base 2 "lies_in" ["regions", "place", "other"] (sp_lies_in K (cEnv C0 C1)) := ⟨_, _, PySem.W.mg_of X G a10, F10.kp, F10.binds (ps := ["regions", "place", "other"]) (fun _ _ _ _ _ _ us hl => match us, hl with | [_, _, _], _ => rfl), ok_lies_in D_way_up F10⟩
  exact ok_law C_Norms C_Region D_law_next K_Norms_init K_Region_init D_is_partition D_tops D_law_way D_facts_at D_way_up M_Norms_eq D_lies_in m_list m_range m_len m_isinstance m_bool F11
theorem walk {l : PySem.W.OpenLaw} {q : Program} {loose : List Str} {XP : (Str → Option Value) → Heap → Prop} {YP : World → Heap → Prop} {d : DefRec} {K : Params → PySem.W.Frag} (hn : l.most = some 63) (hdf : d.params.defaults = [])
    (hY : ∀ (w : World) (h : Heap), YP w h → (K w.params).In h)
    (F : ∀ (w : World) (mg : Str → Option Value) (fa : Addr) (h : Heap), (K w.params).In h → h.Ns mainGlobals mg → mg d.name = some (.ref fa) →
      ∃ fd : FuncData, (∀ (s : Shared) (u : Value), BindsTo s fd ⟨[u], []⟩ [("_law_script", u)]) ∧ ∀ base : Heap, (K w.params).In base → base.Ns mainGlobals mg → FnOk l.prog w (K w.params) mg base CX0 3 fa fd ["_law_script"] (sp_law (K w.params))) :
    PySem.W.WalkO q loose XP YP l.row.toRowW d [] (fun f vs => PySem.call f vs) :=
  L2.walk_of (n := 63) (k := 3) (x := "_law_script") (CX := fun _ => CX0) (sp := fun w => sp_law (K w.params)) hn (by decide) hdf ⟨rfl, by decide, by decide⟩ hY F (fun _ _ a ns hl _ hS => ⟨a, ns, rfl, hS, hl, fun _ => rfl⟩) fun _ _ _ _ _ z => z
end Z
open PySem PySem.W PyProof.Rows
set_option maxRecDepth 100000 in
set_option maxHeartbeats 0 in
theorem PySem.Challenge.cw_surenear_k26_regions_lie_in_one_another_holds : PySem.Challenge.rw_surenear_k26_regions_lie_in_one_another.Holds := by
  w_on; o_law; k_head; (case hw => w_witness2)
  k_fill
  refine Z.walk (l := PySem.Challenge.rw_surenear_k26_regions_lie_in_one_another) rfl rfl (fun w h Y => PySem.W.kIn_of Y) ?F
  case F =>
    intro w mg fa h KX G hmg
    refine' Z.all_mk KX G hmg ?b0 ?pg0 ?hd0 ?po0 ?sa0 ?ha0 ?hm0 ?mk0 ?kc0 ?n0_0 ?n0_1 ?q0_0 ?b1 ?pg1 ?hd1 ?po1 ?sa1 ?ha1 ?hm1 ?mk1 ?kc1 ?n1_0 ?n1_1 ?q1_0 ?ic0 ?ty0 ?r0_int ?r0_bool ?r0_str ?r0_NoneType ?r0_tuple ?r0_list ?r0_dict ?hn ?htk ?a0 ?l0 ?c0 ?k0 ?a1 ?l1 ?c1 ?k1 ?a2 ?i2 ?l2 ?c2 ?k2 ?a3 ?i3 ?l3 ?c3 ?k3 ?a4 ?l4 ?c4 ?k4 ?a5 ?l5 ?c5 ?k5 ?a6 ?l6 ?c6 ?k6 ?a7 ?l7 ?c7 ?k7 ?a8 ?l8 ?c8 ?k8 ?a9 ?i9 ?l9 ?c9 ?k9 ?a10 ?l10 ?c10 ?k10 ?a11 ?l11 ?c11 ?k11 ?z0 ?z1 ?z2 ?z3 ?z4 ?z5 ?z6 ?z7
    (case b0 => k_is)
    (case pg0 => k_is)
    (case hd0 => k_is)
    (case po0 => k_is)
    (case sa0 => k_is)
    (case ha0 => k_is)
    (case hm0 => k_is)
    (case mk0 => k_is)
    (case kc0 => k_is)
    (case n0_0 => k_is)
    (case n0_1 => k_is)
    (case q0_0 => k_is)
    (case b1 => k_is)
    (case pg1 => k_is)
    (case hd1 => k_is)
    (case po1 => k_is)
    (case sa1 => k_is)
    (case ha1 => k_is)
    (case hm1 => k_is)
    (case mk1 => k_is)
    (case kc1 => k_is)
    (case n1_0 => k_is)
    (case n1_1 => k_is)
    (case q1_0 => k_is)
    (case ic0 => k_is)
    (case ty0 => k_is)
    (case r0_int => k_is)
    (case r0_bool => k_is)
    (case r0_str => k_is)
    (case r0_NoneType => k_is)
    (case r0_tuple => k_is)
    (case r0_list => k_is)
    (case r0_dict => k_is)
    (case hn => k_is)
    (case htk => k_is)
    (case a0 => k_is)
    (case l0 => k_is)
    (case c0 => k_is)
    (case k0 => k_is)
    (case a1 => k_is)
    (case l1 => k_is)
    (case c1 => k_is)
    (case k1 => k_is)
    (case a2 => k_is)
    (case i2 => k_is)
    (case l2 => k_is)
    (case c2 => k_is)
    (case k2 => k_is)
    (case a3 => k_is)
    (case i3 => k_is)
    (case l3 => k_is)
    (case c3 => k_is)
    (case k3 => k_is)
    (case a4 => k_is)
    (case l4 => k_is)
    (case c4 => k_is)
    (case k4 => k_is)
    (case a5 => k_is)
    (case l5 => k_is)
    (case c5 => k_is)
    (case k5 => k_is)
    (case a6 => k_is)
    (case l6 => k_is)
    (case c6 => k_is)
    (case k6 => k_is)
    (case a7 => k_is)
    (case l7 => k_is)
    (case c7 => k_is)
    (case k7 => k_is)
    (case a8 => k_is)
    (case l8 => k_is)
    (case c8 => k_is)
    (case k8 => k_is)
    (case a9 => k_is)
    (case i9 => k_is)
    (case l9 => k_is)
    (case c9 => k_is)
    (case k9 => k_is)
    (case a10 => k_is)
    (case l10 => k_is)
    (case c10 => k_is)
    (case k10 => k_is)
    (case a11 => k_is)
    (case l11 => k_is)
    (case c11 => k_is)
    (case k11 => k_is)
    (case z0 => k_is)
    (case z1 => k_is)
    (case z2 => k_is)
    (case z3 => k_is)
    (case z4 => k_is)
    (case z5 => k_is)
    (case z6 => k_is)
    (case z7 => k_is)

