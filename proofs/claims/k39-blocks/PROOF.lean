import PyProof.Rows.All
import Wide.All
import OpenK.AllK
import Wide.FinOn
import HandS.ForExc
import HandS.ForMost
import HandS.Wide
import HandS.IsInst
import HandS.TupAny
import HandS.Flow
import HandS.Codes
import HandS.Zip
import HandS.TupLe
import PySem.Challenge.RW_surenear_k39_blocks_are_read_back
set_option Elab.async false
set_option linter.all false
set_option maxRecDepth 100000
set_option maxHeartbeats 4000000
set_option exponentiation.threshold 100000
namespace Z
open PySem PySem.Spec L2
open C8 (tCut pss_cut)
/-! Z: one rule a construct, whatever the kinds of its values; and the steps of a reading. -/

/-! ### operators by the kinds of their values -/
def MulOk (i j : Int) : Prop := CMul i j ∨ CMulW i j
def uAdd (K : PySem.W.Frag) : R2 := fun x y H Q => match x, y with
  | .int i, .int j => Q (.int (i + j)) H
  | .str a, .str b => a.length + b.length ≤ sizeLine ∧ Q (.str (a ++ b)) H
  | .ref l, .ref b => rCat (.ref l) (.ref b) H Q ∨ rCatA K (.ref l) (.ref b) H Q
  | _, _ => False
def uSub : R2 := fun x y H Q => match x, y with
  | .int i, .int j => Q (.int (i - j)) H
  | _, _ => False
def uMul : R2 := fun x y H Q => match x, y with
  | .int i, .int j => MulOk i j ∧ Q (.int (i * j)) H
  | _, _ => False
def uDiv : R2 := fun x y H Q => match x, y with
  | .int i, .int j => CDivW i j ∧ Q (.int (i / j)) H
  | _, _ => False
def uMod : R2 := fun x y H Q => match x, y with
  | .int i, .int j => 0 < j ∧ Q (.int (i % j)) H
  | _, _ => False
def uPow : R2 := fun x y H Q => match x, y with
  | .int i, .int j => CPow i j ∧ Q (.int (i ^ j.toNat)) H
  | _, _ => False
def uNeg : V → Hp → VK → Prop := fun x H Q => match x with
  | .int i => Q (.int (-i)) H
  | _ => False
def uLt (K : PySem.W.Frag) : R2 := fun x y H Q => match x, y with
  | .int i, .int j => Q (.bl (decide (i < j))) H
  | .str i, .str j => Q (.bl (decide (i.cps.toList < j.cps.toList))) H
  | .ref a, .ref b => rLtT K (.ref a) (.ref b) H Q
  | _, _ => False
def uLe : R2 := fun x y H Q => match x, y with
  | .int i, .int j => Q (.bl (decide (i ≤ j))) H
  | .str i, .str j => Q (.bl (!decide (j.cps.toList < i.cps.toList))) H
  | _, _ => False
def uGt : R2 := fun x y H Q => match x, y with
  | .int i, .int j => Q (.bl (decide (j < i))) H
  | .str i, .str j => Q (.bl (decide (j.cps.toList < i.cps.toList))) H
  | _, _ => False
def uGe : R2 := fun x y H Q => match x, y with
  | .int i, .int j => Q (.bl (decide (j ≤ i))) H
  | .str i, .str j => Q (.bl (!decide (i.cps.toList < j.cps.toList))) H
  | _, _ => False
def uEq (K : PySem.W.Frag) : R2 := fun x y H Q => match x, y with
  | .int i, .int j => Q (.bl (decide (i = j))) H
  | .str i, .str j => Q (.bl (decide (i = j))) H
  | .bl i, .bl j => Q (.bl (decide (i = j))) H
  | .non, .non => Q (.bl true) H
  | .ref a, .ref b => rEqD K (.ref a) (.ref b) H Q
  | x, y => (scal x y = true ∧ Q (.bl (decide (x = y))) H) ∨ rEqD K x y H Q
def uNe (K : PySem.W.Frag) : R2 := fun x y H Q => match x, y with
  | .int i, .int j => Q (.bl (!decide (i = j))) H
  | .str i, .str j => Q (.bl (!decide (i = j))) H
  | .bl i, .bl j => Q (.bl (!decide (i = j))) H
  | .non, .non => Q (.bl false) H
  | .ref a, .ref b => rNeD K (.ref a) (.ref b) H Q
  | x, y => (scal x y = true ∧ Q (.bl (!decide (x = y))) H) ∨ rNeD K x y H Q
def uIs : R2 := fun x y H Q => match x, y with
  | x, .non => Q (.bl (decide (x = .non))) H
  | .bl a, .bl b => Q (.bl (decide (a = b))) H
  | _, _ => False
def uIsNot : R2 := fun x y H Q => match x, y with
  | x, .non => Q (.bl (!decide (x = .non))) H
  | .bl a, .bl b => Q (.bl (!decide (a = b))) H
  | _, _ => False
def uIn (K : PySem.W.Frag) : R2 := fun x y H Q => match x, y with
  | .str i, .str j => Q (.bl (!(Builtin.Str.occurrences j i 0 j.length 1).isEmpty)) H
  | x, y => rIn K false x y H Q
def uNotIn (K : PySem.W.Frag) : R2 := fun x y H Q => match x, y with
  | .str i, .str j => Q (.bl (!(!(Builtin.Str.occurrences j i 0 j.length 1).isEmpty))) H
  | x, y => rIn K true x y H Q

section
variable {X : Cx}
theorem op_uAdd : OpR X (binaryOp .Add) (uAdd X.K) := by
  intro pins s σ H x y v u Q I rx ry h
  cases x <;> cases y <;> first | exact h.elim | skip
  · exact op_add pins s σ H _ _ _ _ Q I rx ry ⟨_, _, rfl, rfl, h⟩
  · exact op_add_str pins s σ H _ _ _ _ Q I rx ry ⟨_, _, rfl, rfl, h.1, h.2⟩
  · rcases h with h | h
    · exact op_cat pins s σ H _ _ _ _ Q I rx ry h
    · exact op_catA pins s σ H _ _ _ _ Q I rx ry h
theorem op_uSub : OpR X (binaryOp .Sub) uSub := by
  intro pins s σ H x y v u Q I rx ry h
  cases x <;> cases y <;> first | exact h.elim | skip
  exact op_sub pins s σ H _ _ _ _ Q I rx ry ⟨_, _, rfl, rfl, h⟩
theorem op_uMul : OpR X (binaryOp .Mult) uMul := by
  intro pins s σ H x y v u Q I rx ry h
  cases x <;> cases y <;> first | exact h.elim | skip
  rcases h with ⟨h | h, q⟩
  · exact op_mul pins s σ H _ _ _ _ Q I rx ry ⟨_, _, rfl, rfl, h, q⟩
  · exact op_mulW pins s σ H _ _ _ _ Q I rx ry ⟨_, _, rfl, rfl, h, q⟩
theorem op_uDiv : OpR X (binaryOp .FloorDiv) uDiv := by
  intro pins s σ H x y v u Q I rx ry h
  cases x <;> cases y <;> first | exact h.elim | skip
  exact op_fdivW pins s σ H _ _ _ _ Q I rx ry ⟨_, _, rfl, rfl, h.1, h.2⟩
theorem op_uMod : OpR X (binaryOp .Mod) uMod := by
  intro pins s σ H x y v u Q I rx ry h
  cases x <;> cases y <;> first | exact h.elim | skip
  exact op_mod pins s σ H _ _ _ _ Q I rx ry ⟨_, _, rfl, rfl, h.1, h.2⟩
theorem op_uPow : OpR X (binaryOp .Pow) uPow := by
  intro pins s σ H x y v u Q I rx ry h
  cases x <;> cases y <;> first | exact h.elim | skip
  exact op_pow pins s σ H _ _ _ _ Q I rx ry ⟨_, _, rfl, rfl, h.1, h.2⟩
theorem un_uNeg : UnR X (unaryOp .USub) uNeg := by
  intro pins s σ H x v Q I rx h
  cases x <;> first | exact h.elim | skip
  exact un_neg pins s σ H _ _ Q I rx ⟨_, rfl, h⟩
theorem op_uLt (hu : X.A.units + 64 < cLine) : OpR X (compareOp .Lt) (uLt X.K) := by
  intro pins s σ H x y v u Q I rx ry h
  cases x <;> cases y <;> first | exact h.elim | skip
  · exact op_lt pins s σ H _ _ _ _ Q I rx ry ⟨_, _, rfl, rfl, h⟩
  · exact op_lt_str pins s σ H _ _ _ _ Q I rx ry ⟨_, _, rfl, rfl, h⟩
  · exact op_ltT (by omega) pins s σ H _ _ _ _ Q I rx ry h
theorem op_uLe : OpR X (compareOp .LtE) uLe := by
  intro pins s σ H x y v u Q I rx ry h
  cases x <;> cases y <;> first | exact h.elim | skip
  · exact op_le pins s σ H _ _ _ _ Q I rx ry ⟨_, _, rfl, rfl, h⟩
  · exact op_le_str pins s σ H _ _ _ _ Q I rx ry ⟨_, _, rfl, rfl, h⟩
theorem op_uGt : OpR X (compareOp .Gt) uGt := by
  intro pins s σ H x y v u Q I rx ry h
  cases x <;> cases y <;> first | exact h.elim | skip
  · exact op_gt pins s σ H _ _ _ _ Q I rx ry ⟨_, _, rfl, rfl, h⟩
  · exact op_gt_str pins s σ H _ _ _ _ Q I rx ry ⟨_, _, rfl, rfl, h⟩
theorem op_uGe : OpR X (compareOp .GtE) uGe := by
  intro pins s σ H x y v u Q I rx ry h
  cases x <;> cases y <;> first | exact h.elim | skip
  · exact op_ge pins s σ H _ _ _ _ Q I rx ry ⟨_, _, rfl, rfl, h⟩
  · exact op_ge_str pins s σ H _ _ _ _ Q I rx ry ⟨_, _, rfl, rfl, h⟩
theorem V_int_dec {i j : Int} : decide (V.int i = V.int j) = decide (i = j) := by
  rw [Bool.eq_iff_iff]; simp
theorem V_str_dec {i j : Str} : decide (V.str i = V.str j) = decide (i = j) := by
  rw [Bool.eq_iff_iff]; simp
theorem V_bl_dec {i j : Bool} : decide (V.bl i = V.bl j) = decide (i = j) := by
  rw [Bool.eq_iff_iff]; simp
theorem op_uEq (hu : X.A.units + 64 < cLine) : OpR X (compareOp .Eq) (uEq X.K) := by
  intro pins s σ H x y v u Q I rx ry h
  have gen : (scal x y = true ∧ Q (.bl (decide (x = y))) H) ∨ rEqD X.K x y H Q → _ := fun z => (op_eq.or (op_eqD hu)) pins s σ H x y v u Q I rx ry z
  refine gen ?_
  cases x <;> cases y <;> first | exact h | exact Or.inr h | skip
  · exact .inl ⟨rfl, h⟩
  · exact .inl ⟨rfl, by rw [V_bl_dec]; exact h⟩
  · exact .inl ⟨rfl, by rw [V_int_dec]; exact h⟩
  · exact .inl ⟨rfl, by rw [V_str_dec]; exact h⟩
theorem op_uNe (hu : X.A.units + 64 < cLine) : OpR X (compareOp .NotEq) (uNe X.K) := by
  intro pins s σ H x y v u Q I rx ry h
  have gen : (scal x y = true ∧ Q (.bl (!decide (x = y))) H) ∨ rNeD X.K x y H Q → _ := fun z => (op_ne.or (op_neD hu)) pins s σ H x y v u Q I rx ry z
  refine gen ?_
  cases x <;> cases y <;> first | exact h | exact Or.inr h | skip
  · exact .inl ⟨rfl, h⟩
  · exact .inl ⟨rfl, by rw [V_bl_dec]; exact h⟩
  · exact .inl ⟨rfl, by rw [V_int_dec]; exact h⟩
  · exact .inl ⟨rfl, by rw [V_str_dec]; exact h⟩
theorem op_uIs : OpR X (compareOp .Is) uIs := by
  intro pins s σ H x y v u Q I rx ry h
  cases y <;> first | (cases x <;> exact h.elim) | skip
  · exact op_isN pins s σ H _ _ _ _ Q I rx ry ⟨rfl, by cases x <;> exact h⟩
  · cases x <;> first | exact h.elim | skip
    exact op_is_bl pins s σ H _ _ _ _ Q I rx ry ⟨_, _, rfl, rfl, h⟩
theorem op_uIsNot : OpR X (compareOp .IsNot) uIsNot := by
  intro pins s σ H x y v u Q I rx ry h
  cases y <;> first | (cases x <;> exact h.elim) | skip
  · exact op_notN pins s σ H _ _ _ _ Q I rx ry ⟨rfl, by cases x <;> exact h⟩
  · cases x <;> first | exact h.elim | skip
    exact op_isnot_bl pins s σ H _ _ _ _ Q I rx ry ⟨_, _, rfl, rfl, h⟩
theorem op_uIn : OpR X (compareOp .In) (uIn X.K) := by
  intro pins s σ H x y v u Q I rx ry h
  cases x <;> cases y <;> first | exact op_in_str pins s σ H _ _ _ _ Q I rx ry ⟨_, _, rfl, rfl, h⟩ | exact op_in_seq pins s σ H _ _ _ _ Q I rx ry h
theorem op_uNotIn : OpR X (compareOp .NotIn) (uNotIn X.K) := by
  intro pins s σ H x y v u Q I rx ry h
  cases x <;> cases y <;> first | exact op_notin_str pins s σ H _ _ _ _ Q I rx ry ⟨_, _, rfl, rfl, h⟩ | exact op_notIn_seq pins s σ H _ _ _ _ Q I rx ry h
end

/-! ### items, lengths, kinds -/
def uIx (K : PySem.W.Frag) : R2 := fun x y H Q => match x, y with
  | .ref p, .int i => ∃ xs v, (SqL K H p xs ∨ SqT K H p xs) ∧ atI xs i = some v ∧ Q v H
  | .str z, .int i => ∃ c, z.length ≤ sizeLine ∧ atI z.cps.toList i = some c ∧ Q (.str ⟨#[c]⟩) H
  | _, _ => False
def uLen (K : PySem.W.Frag) : List V → Hp → VK → Prop := fun vs H Q => match vs with
  | [.ref p] => ∃ xs, (SqL K H p xs ∨ SqT K H p xs) ∧ Q (.int xs.length) H
  | [.str z] => z.length ≤ sizeLine ∧ Q (.int z.length) H
  | _ => False
def uInt : List V → Hp → VK → Prop := fun vs H Q => match vs with
  | [.int i] => Q (.int i) H
  | [.bl b] => Q (.int (if b then 1 else 0)) H
  | _ => False
def uMax : List V → Hp → VK → Prop := fun vs H Q => match vs with
  | [.int i, .int j] => Q (.int (if j > i then j else i)) H
  | _ => False
def uMin : List V → Hp → VK → Prop := fun vs H Q => match vs with
  | [.int i, .int j] => Q (.int (if j < i then j else i)) H
  | _ => False
def uAbs : List V → Hp → VK → Prop := fun vs H Q => match vs with
  | [.int i] => Q (.int (if i < 0 then -i else i)) H
  | _ => False
def uList (K : PySem.W.Frag) : List V → Hp → VK → Prop := fun vs H Q => match vs with
  | [.ref p] => ∃ xs, (SqL K H p xs ∨ SqT K H p xs) ∧ ∀ l, H l = none → Q (.ref l) (upd H l (.lst xs))
  | _ => False
def uTuple (K : PySem.W.Frag) : List V → Hp → VK → Prop := fun vs H Q => match vs with
  | [.ref p] => ∃ xs, (SqL K H p xs ∧ ∀ l, H l = none → Q (.ref l) (upd H l (.tup xs))) ∨ (SqT K H p xs ∧ Q (.ref p) H)
  | _ => False
/-- isinstance with one class -/
def uIsi (K : PySem.W.Frag) : List V → Hp → VK → Prop := fun vs H Q => match vs with
  | [x, c] => ∃ (t u : Value) (b : Bool), ClsV c u ∧ TyX K H x t ∧ PySem.W.kitOne K t u = some b ∧ Q (.bl b) H
  | _ => False
def tTru (K : PySem.W.Frag) (ta : TE) : TT := fun σ H Q => ta σ H fun x H' => ∃ k, TruV K x H' k ∧ Q k H'
def tCal (sp : Sp) (t : TA) : TE := fun σ H Q => t σ H fun vs H1 => sp vs H1 Q E0
section
variable {X : Cx}
theorem ix_uIx : IxR X (uIx X.K) := by
  intro ea eb pins s σ H x y v u Q I rx ry h hp
  cases x <;> cases y <;> first | exact h.elim | skip
  · obtain ⟨c, hz, ha, q⟩ := h
    exact ix_str ea eb pins s σ H _ _ _ _ Q I rx ry ⟨_, _, c, rfl, rfl, hz, ha, q⟩ hp
  · obtain ⟨xs, w, hl, ha, q⟩ := h
    rcases hl with hl | hl
    · exact ix_list ea eb pins s σ H _ _ _ _ Q I rx ry ⟨_, xs, _, w, rfl, rfl, hl, ha, q⟩ hp
    · exact ix_tup ea eb pins s σ H _ _ _ _ Q I rx ry ⟨_, xs, _, w, rfl, rfl, hl, ha, q⟩ hp
theorem call_uLen : CallR X (.builtin "len") (uLen X.K) := by
  intro pins s σ H vs us Q I r h
  rcases vs with _ | ⟨x, _ | ⟨y, t⟩⟩
  · exact h.elim
  · cases x <;> first | exact h.elim | skip
    · exact call_len pins s σ H _ _ Q I r ⟨_, _, rfl, ⟨h.1, rfl⟩, h.2⟩
    · obtain ⟨xs, hl, q⟩ := h
      refine call_len pins s σ H _ _ Q I r ⟨_, xs.length, rfl, ?_, q⟩
      rcases hl with hl | hl
      · exact .inl ⟨_, hl, rfl⟩
      · exact .inr ⟨_, hl, rfl⟩
  · cases x <;> exact h.elim
theorem call_uInt : CallR X (.type "int") uInt := by
  intro pins s σ H vs us Q I r h
  rcases vs with _ | ⟨x, _ | ⟨y, t⟩⟩
  · exact h.elim
  · cases x <;> first | exact h.elim | skip
    · exact call_int1 pins s σ H _ _ Q I r (.inr ⟨_, rfl, h⟩)
    · exact call_int1 pins s σ H _ _ Q I r (.inl ⟨_, rfl, h⟩)
  · cases x <;> exact h.elim
theorem call_uAbs : CallR X (.builtin "abs") uAbs := by
  intro pins s σ H vs us Q I r h
  rcases vs with _ | ⟨x, _ | ⟨y, t⟩⟩
  · exact h.elim
  · cases x <;> first | exact h.elim | skip
    exact call_abs pins s σ H _ _ Q I r ⟨_, rfl, h⟩
  · cases x <;> exact h.elim
theorem call_uMax (hc : X.calm = true) : CallR X (.builtin "max") uMax := by
  intro pins s σ H vs us Q I r h
  rcases vs with _ | ⟨x, _ | ⟨y, _ | ⟨z, t⟩⟩⟩
  · exact h.elim
  · cases x <;> exact h.elim
  · cases x <;> cases y <;> first | exact h.elim | skip
    exact call_max2 hc pins s σ H _ _ Q I r ⟨_, _, rfl, h⟩
  · cases x <;> cases y <;> exact h.elim
theorem call_uMin (hc : X.calm = true) : CallR X (.builtin "min") uMin := by
  intro pins s σ H vs us Q I r h
  rcases vs with _ | ⟨x, _ | ⟨y, _ | ⟨z, t⟩⟩⟩
  · exact h.elim
  · cases x <;> exact h.elim
  · cases x <;> cases y <;> first | exact h.elim | skip
    exact call_min2 hc pins s σ H _ _ Q I r ⟨_, _, rfl, h⟩
  · cases x <;> cases y <;> exact h.elim
theorem call_uList : CallR X (.type "list") (uList X.K) := by
  intro pins s σ H vs us Q I r h
  rcases vs with _ | ⟨x, _ | ⟨y, t⟩⟩
  · exact h.elim
  · cases x <;> first | exact h.elim | skip
    obtain ⟨xs, hl, q⟩ := h
    exact call_list_of pins s σ H _ _ Q I r ⟨_, xs, rfl, hl, q⟩
  · cases x <;> exact h.elim
theorem call_uTuple : CallR X (.type "tuple") (uTuple X.K) := by
  intro pins s σ H vs us Q I r h
  rcases vs with _ | ⟨x, _ | ⟨y, t⟩⟩
  · exact h.elim
  · cases x <;> first | exact h.elim | skip
    obtain ⟨xs, hl⟩ := h
    exact call_tuple_of pins s σ H _ _ Q I r ⟨_, xs, rfl, hl⟩
  · cases x <;> exact h.elim
theorem call_uIsi : CallR X (.builtin "isinstance") (uIsi X.K) := by
  intro pins s σ H vs us Q I r h
  rcases vs with _ | ⟨x, _ | ⟨y, _ | ⟨z, t⟩⟩⟩
  · exact h.elim
  · exact h.elim
  · obtain ⟨t, u, b, k, ty, e, q⟩ := h
    exact call_isi pins s σ H _ _ Q I r ⟨_, _, t, u, b, rfl, k, ty, e, q⟩
  · exact h.elim
theorem pt_u {a : Expr} {ta : TE} (ha : PE X a ta) (he : ∀ whole, isTrue a X.env whole = (do let v ← whole; standAt a.pos; holding [v] (truthy v)) := by intro _; rfl) : PT X a (tTru X.K ta) := pt_truth ha he
end

/-! ### a def of the text, as those who call it know it -/
structure Dfn (P : Program) (w : World) (K : PySem.W.Frag) (mg : Str → Option Value) (base : Heap) (k : Nat) (x : Str) (ps : List Str) (sp : Sp) : Prop where
  ex : ∃ (f : Addr) (fd : FuncData), mg x = some (.ref f) ∧ PySem.W.keepIn K (.ref f) = true ∧ Binds K fd ps [] ∧ FnOk P w K mg base CX0 k f fd ps sp
theorem nil_sp (sp : Sp) (t : TA) : tCall sp [] E0 t = tCal sp t := by
  funext σ H Q
  simp only [tCall, tCal, List.append_nil]
section
variable {X : Cx} {k : Nat} {x : Str} {ps : List Str} {sp : Sp} {p pos : Pos} {e : Expr} {es : List Expr} {t : TA}
theorem z_call (D : Dfn X.prog X.w X.K X.mg X.base k x ps sp) (hr : Room k X.A) (hg : Gl X x) (ha : PA X (e :: es) t) (hdb : (x == ("__debug__" : Str)) = false := by decide)
    (he : starEach (e :: es) X.env = (false, eval e X.env) :: starEach es X.env := by rfl) (hpl : (backTo pos (starEach es X.env)).any (·.1) = false := by rfl) : PE X (.Call (.Name x p) (e :: es) [] pos) (tCal sp t) := by
  obtain ⟨f, fd, hm, hk, hb, F⟩ := D.ex
  rw [← nil_sp]
  exact pe_call F hr hg hm hk hb .nil pass0 ha hdb he hpl
theorem z_call0 (D : Dfn X.prog X.w X.K X.mg X.base k x ps sp) (hr : Room k X.A) (hg : Gl X x) (hdb : (x == ("__debug__" : Str)) = false := by decide) : PE X (.Call (.Name x p) [] [] pos) (tCal sp tNil) := by
  obtain ⟨f, fd, hm, hk, hb, F⟩ := D.ex
  rw [← nil_sp]
  exact pe_call0 F hr hg hm hk hb .nil pass0 hdb
/-- a list or a tuple that is walked -/
def iSeq (K : PySem.W.Frag) (tl : TE) : TI := fun σ H R => iList K tl σ H R ∨ iTup K tl σ H R
theorem pi_seq {tg l : Expr} {tl : TE} (hl : PE X l tl) : PI X tg l (iSeq X.K tl) := by
  have h1 := pi_list (tg := tg) hl
  have h2 := pi_tup (tg := tg) hl
  refine ⟨fun pins s σ H R I h => ?_⟩
  rcases h with h | h
  · exact h1.run pins s σ H R I h
  · exact h2.run pins s σ H R I h
end

/-! ### the steps of a reading -/
def zNewL (xs : List V) (H : Hp) (Q : VK) : Prop := xs.length ≤ sizeLine ∧ ∀ p, H p = none → Q (.ref p) (upd H p (.lst xs))
def zNewT (xs : List V) (H : Hp) (Q : VK) : Prop := xs.length ≤ sizeLine ∧ ∀ p, H p = none → Q (.ref p) (upd H p (.tup xs))
section
variable {K : PySem.W.Frag} {σ : St} {H : Hp} {i : Nat} {v : V} {Q : VK} {QA : List V → Hp → Prop} {QB : Bool → Hp → Prop} {r : R2} {r1 : V → Hp → VK → Prop} {rl : List V → Hp → VK → Prop} {ta tb te : TE} {tr t : TA} {c u : TT} {sp : Sp} {xs : List V} {a b : Int} {x y : Str} {p q : Addr} {bb : Bool} {D : Ends} {t1 t2 : TS}
theorem z_var (h : σ[i]? = some (some v)) (k : Q v H) : tVar i σ H Q := ⟨v, h, k⟩
theorem z_c (k : Q v H) : tC v σ H Q := k
theorem z_op (k : ta σ H fun x H1 => tb σ H1 fun y H2 => r x y H2 Q) : tOp r ta tb σ H Q := k
theorem z_un (k : ta σ H fun x H1 => r1 x H1 Q) : tUn r1 ta σ H Q := k
theorem z_cb (k : t σ H fun vs H1 => rl vs H1 Q) : tCB rl t σ H Q := k
theorem z_cal (k : t σ H fun vs H1 => sp vs H1 Q E0) : tCal sp t σ H Q := k
theorem z_nil (k : QA [] H) : tNil σ H QA := k
theorem z_cons (k : ta σ H fun x H1 => tr σ H1 fun xs H2 => QA (x :: xs) H2) : tCons ta tr σ H QA := k
theorem z_lst (k : t σ H fun xs H1 => zNewL xs H1 Q) : tLst t σ H Q := k
theorem z_tup (k : t σ H fun xs H1 => zNewT xs H1 Q) : tTup t σ H Q := k
theorem z_newL (h : xs.length ≤ 100000) (k : ∀ p, H p = none → Q (.ref p) (upd H p (.lst xs))) : zNewL xs H Q := ⟨Nat.le_trans h (by decide), k⟩
theorem z_newT (h : xs.length ≤ 100000) (k : ∀ p, H p = none → Q (.ref p) (upd H p (.tup xs))) : zNewT xs H Q := ⟨Nat.le_trans h (by decide), k⟩
theorem z_test (k : te σ H fun x H' => ∃ k, x = .bl k ∧ QB k H') : tTest te σ H QB := k
theorem z_bl (k : QB bb H) : ∃ k, V.bl bb = .bl k ∧ QB k H := ⟨bb, rfl, k⟩
theorem z_tru (k : te σ H fun x H' => ∃ k, TruV K x H' k ∧ QB k H') : tTru K te σ H QB := k
theorem z_trub {P : Bool → Prop} (k : P bb) : ∃ k, TruV K (.bl bb) H k ∧ P k := ⟨bb, rfl, k⟩
theorem z_trui {P : Bool → Prop} (k : P (a != 0)) : ∃ k, TruV K (.int a) H k ∧ P k := ⟨_, rfl, k⟩
theorem z_and (k : c σ H fun b H1 => if b = true then u σ H1 QB else QB false H1) : tAnd c u σ H QB := k
theorem z_or (k : c σ H fun b H1 => if b = true then QB true H1 else u σ H1 QB) : tOr c u σ H QB := k
theorem z_not (k : c σ H fun b H1 => QB (!b) H1) : tNot c σ H QB := k
theorem z_andV (k : ta σ H fun x H1 => ∃ c, x = .bl c ∧ if c = true then tb σ H1 Q else Q (.bl false) H1) : tAndV ta tb σ H Q := k
theorem z_orV (k : ta σ H fun x H1 => ∃ c, x = .bl c ∧ if c = true then Q (.bl true) H1 else tb σ H1 Q) : tOrV ta tb σ H Q := k
theorem z_notV (k : ta σ H fun x H1 => ∃ c, x = .bl c ∧ Q (.bl (!c)) H1) : tNotV ta σ H Q := k
theorem z_if (k : c σ H fun b H1 => if b = true then ta σ H1 Q else tb σ H1 Q) : tIf c ta tb σ H Q := k
theorem z_bl1 {P : Bool → Prop} (k : P bb) : ∃ k, V.bl bb = .bl k ∧ P k := ⟨bb, rfl, k⟩
-- operators
theorem z_add (k : Q (.int (a + b)) H) : uAdd K (.int a) (.int b) H Q := k
theorem z_addS (h : x.length + y.length ≤ 100000) (k : Q (.str (x ++ y)) H) : uAdd K (.str x) (.str y) H Q := ⟨Nat.le_trans h (by decide), k⟩
theorem z_addL {xs ys : List V} (h1 : H p = some (.lst xs)) (h2 : H q = some (.lst ys)) (h : xs.length + ys.length ≤ 100000) (k : ∀ l, H l = none → Q (.ref l) (upd H l (.lst (xs ++ ys)))) : uAdd K (.ref p) (.ref q) H Q :=
  .inl ⟨p, q, xs, ys, rfl, rfl, h1, h2, Nat.le_trans h (by decide), k⟩
theorem z_sub (k : Q (.int (a - b)) H) : uSub (.int a) (.int b) H Q := k
theorem z_mul (h : MulOk a b) (k : Q (.int (a * b)) H) : uMul (.int a) (.int b) H Q := ⟨h, k⟩
theorem z_div (h : CDivW a b) (k : Q (.int (a / b)) H) : uDiv (.int a) (.int b) H Q := ⟨h, k⟩
theorem z_mod (h : 0 < b) (k : Q (.int (a % b)) H) : uMod (.int a) (.int b) H Q := ⟨h, k⟩
theorem z_pow (h : CPow a b) (k : Q (.int (a ^ b.toNat)) H) : uPow (.int a) (.int b) H Q := ⟨h, k⟩
theorem z_neg (k : Q (.int (-a)) H) : uNeg (.int a) H Q := k
theorem z_lt (k : Q (.bl (decide (a < b))) H) : uLt K (.int a) (.int b) H Q := k
theorem z_ltS (k : Q (.bl (decide (x.cps.toList < y.cps.toList))) H) : uLt K (.str x) (.str y) H Q := k
theorem z_le (k : Q (.bl (decide (a ≤ b))) H) : uLe (.int a) (.int b) H Q := k
theorem z_leS (k : Q (.bl (!decide (y.cps.toList < x.cps.toList))) H) : uLe (.str x) (.str y) H Q := k
theorem z_gt (k : Q (.bl (decide (b < a))) H) : uGt (.int a) (.int b) H Q := k
theorem z_gtS (k : Q (.bl (decide (y.cps.toList < x.cps.toList))) H) : uGt (.str x) (.str y) H Q := k
theorem z_ge (k : Q (.bl (decide (b ≤ a))) H) : uGe (.int a) (.int b) H Q := k
theorem z_geS (k : Q (.bl (!decide (x.cps.toList < y.cps.toList))) H) : uGe (.str x) (.str y) H Q := k
theorem z_eq (k : Q (.bl (decide (a = b))) H) : uEq K (.int a) (.int b) H Q := k
theorem z_eqS (k : Q (.bl (decide (x = y))) H) : uEq K (.str x) (.str y) H Q := k
theorem z_eqB {a b : Bool} (k : Q (.bl (decide (a = b))) H) : uEq K (.bl a) (.bl b) H Q := k
theorem z_eqN (k : Q (.bl true) H) : uEq K .non .non H Q := k
theorem z_eqIS (k : Q (.bl false) H) : uEq K (.int a) (.str x) H Q := .inl ⟨rfl, by rw [decide_eq_false (by intro z; cases z)]; exact k⟩
theorem z_eqSI (k : Q (.bl false) H) : uEq K (.str x) (.int a) H Q := .inl ⟨rfl, by rw [decide_eq_false (by intro z; cases z)]; exact k⟩
theorem z_eqD {d e : PyData} (h1 : Dp K H (.ref p) d) (h2 : Dp K H (.ref q) e) (s1 : SeqAt.shaped d = true) (s2 : SeqAt.shaped e = true) (k : Q (.bl (PyData.eqv d e)) H) : uEq K (.ref p) (.ref q) H Q := ⟨d, e, h1, h2, s1, s2, k⟩
theorem z_ne (k : Q (.bl (!decide (a = b))) H) : uNe K (.int a) (.int b) H Q := k
theorem z_neS (k : Q (.bl (!decide (x = y))) H) : uNe K (.str x) (.str y) H Q := k
theorem z_neB {a b : Bool} (k : Q (.bl (!decide (a = b))) H) : uNe K (.bl a) (.bl b) H Q := k
theorem z_neN (k : Q (.bl false) H) : uNe K .non .non H Q := k
theorem z_neIS (k : Q (.bl true) H) : uNe K (.int a) (.str x) H Q := .inl ⟨rfl, by rw [decide_eq_false (by intro z; cases z)]; exact k⟩
theorem z_neSI (k : Q (.bl true) H) : uNe K (.str x) (.int a) H Q := .inl ⟨rfl, by rw [decide_eq_false (by intro z; cases z)]; exact k⟩
theorem z_neD {d e : PyData} (h1 : Dp K H (.ref p) d) (h2 : Dp K H (.ref q) e) (s1 : SeqAt.shaped d = true) (s2 : SeqAt.shaped e = true) (k : Q (.bl (!PyData.eqv d e)) H) : uNe K (.ref p) (.ref q) H Q := ⟨d, e, h1, h2, s1, s2, k⟩
theorem z_is (k : Q (.bl (decide (v = .non))) H) : uIs v .non H Q := by cases v <;> exact k
theorem z_isNot (k : Q (.bl (!decide (v = .non))) H) : uIsNot v .non H Q := by cases v <;> exact k
theorem z_isB {a b : Bool} (k : Q (.bl (decide (a = b))) H) : uIs (.bl a) (.bl b) H Q := k
theorem z_isNotB {a b : Bool} (k : Q (.bl (!decide (a = b))) H) : uIsNot (.bl a) (.bl b) H Q := k
theorem z_in (h : SqL K H p xs ∨ SqT K H p xs) (hx : flatV v = true) (ha : xs.all flatV = true) (k : Q (.bl (inV v xs)) H) : uIn K v (.ref p) H Q := by
  cases v <;> exact ⟨p, xs, rfl, h, hx, ha, k⟩
theorem z_notIn (h : SqL K H p xs ∨ SqT K H p xs) (hx : flatV v = true) (ha : xs.all flatV = true) (k : Q (.bl (!inV v xs)) H) : uNotIn K v (.ref p) H Q := by
  cases v <;> exact ⟨p, xs, rfl, h, hx, ha, k⟩
theorem z_isbb {a : Bool} (k : Q (.bl true) H) : uIsi K [.bl a, .ty "bool"] H Q := ⟨_, _, true, .ty _, .base (.bl a), rfl, k⟩
theorem z_isbi {a : Bool} (k : Q (.bl true) H) : uIsi K [.bl a, .ty "int"] H Q := ⟨_, _, true, .ty _, .base (.bl a), rfl, k⟩
theorem z_isll (h : H p = some (.lst xs)) (k : Q (.bl true) H) : uIsi K [.ref p, .ty "list"] H Q := ⟨_, _, true, .ty _, .base (.lst h), rfl, k⟩
theorem z_istt (h : H p = some (.tup xs)) (k : Q (.bl true) H) : uIsi K [.ref p, .ty "tuple"] H Q := ⟨_, _, true, .ty _, .base (.tup h), rfl, k⟩
theorem z_chain {r r' : R2} {tc : TE} (k : ta σ H fun x H1 => tb σ H1 fun y H2 => r x y H2 fun z H3 => ∃ k, z = .bl k ∧ if k = true then tc σ H3 fun w H4 => r' y w H4 Q else Q (.bl false) H3) : tChain r r' ta tb tc σ H Q := k
-- items, built-ins
theorem z_ix (h : SqL K H p xs ∨ SqT K H p xs) (e : atI xs a = some v) (k : Q v H) : uIx K (.ref p) (.int a) H Q := ⟨xs, v, h, e, k⟩
theorem z_len (h : SqL K H p xs ∨ SqT K H p xs) (k : Q (.int xs.length) H) : uLen K [.ref p] H Q := ⟨xs, h, k⟩
theorem z_int (k : Q (.int a) H) : uInt [.int a] H Q := k
theorem z_max (k : Q (.int (if b > a then b else a)) H) : uMax [.int a, .int b] H Q := k
theorem z_min (k : Q (.int (if b < a then b else a)) H) : uMin [.int a, .int b] H Q := k
theorem z_abs (k : Q (.int (if a < 0 then -a else a)) H) : uAbs [.int a] H Q := k
theorem z_list (h : SqL K H p xs ∨ SqT K H p xs) (k : ∀ l, H l = none → Q (.ref l) (upd H l (.lst xs))) : uList K [.ref p] H Q := ⟨xs, h, k⟩
theorem z_tupleL (h : SqL K H p xs) (k : ∀ l, H l = none → Q (.ref l) (upd H l (.tup xs))) : uTuple K [.ref p] H Q := ⟨xs, .inl ⟨h, k⟩⟩
theorem z_tupleT (h : SqT K H p xs) (k : Q (.ref p) H) : uTuple K [.ref p] H Q := ⟨xs, .inr ⟨h, k⟩⟩
theorem z_isi {w : V} {t' u' : Value} (h1 : ClsV w u') (h2 : TyX K H v t') (h3 : PySem.W.kitOne K t' u' = some bb) (k : Q (.bl bb) H) : uIsi K [v, w] H Q := ⟨t', u', bb, h1, h2, h3, k⟩
theorem z_isii (k : Q (.bl true) H) : uIsi K [.int a, .ty "int"] H Q := ⟨_, _, true, .ty _, .base (.int a), rfl, k⟩
theorem z_isib (k : Q (.bl false) H) : uIsi K [.int a, .ty "bool"] H Q := ⟨_, _, false, .ty _, .base (.int a), rfl, k⟩
-- statements
theorem z_seq (k : t1 { D with nx := t2 D } σ H) : tSeq t1 t2 D σ H := k
theorem z_next (k : D.nx σ H) : tNext D σ H := k
theorem z_brk (k : D.bk σ H) : tBreak D σ H := k
theorem z_cont (k : D.ct σ H) : tCont D σ H := k
theorem z_ret (k : te σ H D.rt) : tRet te D σ H := k
theorem z_retN (k : D.rt .non H) : tRetN D σ H := k
theorem z_asg (k : te σ H fun x H1 => D.nx (σ.set i (some x)) H1) : tAsg te (gName i) D σ H := k
theorem z_drop (k : te σ H fun _ H1 => D.nx σ H1) : tDrop te D σ H := k
theorem z_ifS (k : c σ H fun b H1 => if b = true then t1 D σ H1 else t2 D σ H1) : tIfS c t1 t2 D σ H := k
theorem z_iteT {A B : Prop} (k : A) : if true = true then A else B := by rw [if_pos rfl]; exact k
theorem z_iteF {A B : Prop} (k : B) : if false = true then A else B := by rw [if_neg Bool.false_ne_true]; exact k
theorem z_iteT' {A B : Prop} (e : bb = true) (k : A) : if bb = true then A else B := by rw [if_pos e]; exact k
theorem z_iteF' {A B : Prop} (e : bb = false) (k : B) : if bb = true then A else B := by rw [if_neg (by rw [e]; exact Bool.false_ne_true)]; exact k
theorem z_ite {A B : Prop} (h1 : bb = true → A) (h2 : bb = false → B) : if bb = true then A else B := by
  cases bb with
  | true => rw [if_pos rfl]; exact h1 rfl
  | false => rw [if_neg Bool.false_ne_true]; exact h2 rfl
theorem z_itD {A B P : Prop} [Decidable P] (h1 : P → A) (h2 : ¬ P → B) : if decide P = true then A else B := by
  by_cases h : P
  · rw [if_pos (decide_eq_true h)]; exact h1 h
  · rw [if_neg (by rw [decide_eq_false h]; exact Bool.false_ne_true)]; exact h2 h
theorem z_itN {A B P : Prop} [Decidable P] (h1 : ¬ P → A) (h2 : P → B) : if (!decide P) = true then A else B := by
  by_cases h : P
  · rw [decide_eq_true h, if_neg (by decide)]; exact h2 h
  · rw [decide_eq_false h, if_pos (by decide)]; exact h1 h
-- loops
def zRng (g : TG) (tb : TS) (D : Ends) (σ : St) (lo : Int) (n : Nat) (H1 : Hp) : Prop := ∃ W : Nat → Nat → St → Hp → Prop, (∃ m, W 0 m σ H1) ∧ ∀ i m σ H, W i m σ H →
  ((Itr lo n).stop i H ∧ D.nx σ H) ∨ ((Itr lo n).go i H ∧ ∃ N : St → Hp → Prop, (∀ σ' H', N σ' H' → ∃ m', m' < m ∧ W (i + 1) m' σ' H') ∧ ∀ x H', (Itr lo n).yld i H x H' → g x σ H' fun σ2 H2 => tb { D with nx := N, ct := N, bk := D.nx } σ2 H2)
def zRng1 (g : TG) (tb : TS) (D : Ends) (σ : St) (vs : List V) (H1 : Hp) : Prop := ∃ j : Int, vs = [.int j] ∧ -(2 ^ 62) ≤ j ∧ j < 2 ^ 62 ∧ zRng g tb D σ 0 j.toNat H1
def zRng2 (g : TG) (tb : TS) (D : Ends) (σ : St) (vs : List V) (H1 : Hp) : Prop := ∃ i j : Int, vs = [.int i, .int j] ∧ (-(2 ^ 62) ≤ i ∧ i < 2 ^ 62 ∧ -(2 ^ 62) ≤ j ∧ j < 2 ^ 62) ∧ zRng g tb D σ i (j - i).toNat H1
def zIt (K : PySem.W.Frag) (g : TG) (tb : TS) (D : Ends) (σ : St) (v : V) (H1 : Hp) : Prop := ∃ a xs, v = .ref a ∧ ((SqL K H1 a xs ∧ ∃ W : Nat → Nat → St → Hp → Prop, (∃ m, W 0 m σ H1) ∧ ∀ i m σ H, W i m σ H →
  ((Itl K a).stop i H ∧ D.nx σ H) ∨ ((Itl K a).go i H ∧ ∃ N : St → Hp → Prop, (∀ σ' H', N σ' H' → ∃ m', m' < m ∧ W (i + 1) m' σ' H') ∧ ∀ x H', (Itl K a).yld i H x H' → g x σ H' fun σ2 H2 => tb { D with nx := N, ct := N, bk := D.nx } σ2 H2)) ∨
  (SqT K H1 a xs ∧ ∃ W : Nat → Nat → St → Hp → Prop, (∃ m, W 0 m σ H1) ∧ ∀ i m σ H, W i m σ H →
  ((Itt K a).stop i H ∧ D.nx σ H) ∨ ((Itt K a).go i H ∧ ∃ N : St → Hp → Prop, (∀ σ' H', N σ' H' → ∃ m', m' < m ∧ W (i + 1) m' σ' H') ∧ ∀ x H', (Itt K a).yld i H x H' → g x σ H' fun σ2 H2 => tb { D with nx := N, ct := N, bk := D.nx } σ2 H2)))
def iSq (K : PySem.W.Frag) (tl : TE) : TI := fun σ H R => tl σ H fun x H1 => ∃ a, x = .ref a ∧ (((∃ xs, SqL K H1 a xs) ∧ R (Itl K a) H1) ∨ ((∃ xs, SqT K H1 a xs) ∧ R (Itt K a) H1))
variable {g : TG} {ti : TS}
theorem z_for1 (k : t σ H fun vs H1 => zRng1 g ti D σ vs H1) : tFor (iRng1 t) g ti D σ H := k
theorem z_for2 (k : t σ H fun vs H1 => zRng2 g ti D σ vs H1) : tFor (iRng2 t) g ti D σ H := k
theorem z_rng1 {j : Int} (hb : j ≤ 1000000) (h : zRng g ti D σ 0 j.toNat H) (hb2 : -1000000 ≤ j) : zRng1 g ti D σ [.int j] H := ⟨j, rfl, by omega, by omega, h⟩
theorem z_rng2 {i j : Int} (h : zRng g ti D σ i (j - i).toNat H) (hb : -1000000 ≤ i ∧ i ≤ 1000000 ∧ -1000000 ≤ j ∧ j ≤ 1000000) : zRng2 g ti D σ [.int i, .int j] H := ⟨i, j, rfl, by omega, h⟩
/-- over a range: Pv by turns done, slots, heap -/
theorem z_rng {lo : Int} {n v : Nat} (Pv : Nat → St → Hp → Prop) (h0 : Pv 0 σ H)
    (hs : ∀ i σ H, i < n → Pv i σ H → ti { D with nx := Pv (i + 1), ct := Pv (i + 1), bk := D.nx } (σ.set v (some (.int (lo + i)))) H) (hd : ∀ σ H, Pv n σ H → D.nx σ H) : zRng (gName v) ti D σ lo n H :=
  for_range (g := gName v) (tb := ti) (D := D) Pv h0 hs hd
theorem z_while (Pv : Nat → St → Hp → Prop) (m : Nat) (h0 : Pv m σ H)
    (hs : ∀ m σ H, Pv m σ H → c σ H fun b H1 => if b = true then ∃ N : St → Hp → Prop, (∀ σ' H', N σ' H' → ∃ m', m' < m ∧ Pv m' σ' H') ∧ ti { D with nx := N, ct := N, bk := D.nx } σ H1 else D.nx σ H1) : tWhile c ti D σ H :=
  ⟨Pv, ⟨m, h0⟩, hs⟩
theorem z_turn {m : Nat} {Pv : Nat → St → Hp → Prop} {bk : St → Hp → Prop} (k : ti { D with nx := fun σ' H' => ∃ m', m' < m ∧ Pv m' σ' H', ct := fun σ' H' => ∃ m', m' < m ∧ Pv m' σ' H', bk := bk } σ H) :
    ∃ N : St → Hp → Prop, (∀ σ' H', N σ' H' → ∃ m', m' < m ∧ Pv m' σ' H') ∧ ti { D with nx := N, ct := N, bk := bk } σ H := ⟨_, fun _ _ h => h, k⟩
theorem mul1 (h : -1000000000000000000 < a ∧ a < 1000000000000000000) : MulOk a b := .inl (.inl (by omega))
theorem mul2 (h : -1000000000000000000 < b ∧ b < 1000000000000000000) : MulOk a b := .inl (.inr (by omega))
theorem div1 (h : 0 < b ∧ b < 1000000000000000000) : CDivW a b := wide_div h.1 (b := 64) (by omega) (by decide) (by decide)
end
/-! ### heaps -/
theorem lk_ne {H : Hp} {a b : Addr} {o u : HO} (h : a ≠ b) (e : H a = some u) : upd H b o a = some u := by rw [upd_ne h]; exact e
theorem ne_n {H : Hp} {a b : Addr} {o : HO} (h' : H b = none) (h : H a = some o) : a ≠ b := ne_of_none h h'
theorem sqL_new {K : PySem.W.Frag} {H : Hp} {a b : Addr} {o : HO} {xs : List V} (h : H b = none) (e : SqL K H a xs) : SqL K (upd H b o) a xs := by
  rcases e with (e | ⟨u, e⟩) | e
  · exact .inl (.inl (lk_ne (ne_of_none e h) e))
  · exact .inl (.inr ⟨u, lk_ne (ne_of_none e h) e⟩)
  · exact .inr e
theorem sqT_new {K : PySem.W.Frag} {H : Hp} {a b : Addr} {o : HO} {xs : List V} (h : H b = none) (e : SqT K H a xs) : SqT K (upd H b o) a xs := by
  rcases e with (e | ⟨u, e⟩) | e
  · exact .inl (.inl (lk_ne (ne_of_none e h) e))
  · exact .inl (.inr ⟨u, lk_ne (ne_of_none e h) e⟩)
  · exact .inr e
theorem sqL_ne {K : PySem.W.Frag} {H : Hp} {a b : Addr} {o : HO} {xs : List V} (h : a ≠ b) (e : SqL K H a xs) : SqL K (upd H b o) a xs := by
  rcases e with (e | ⟨u, e⟩) | e
  · exact .inl (.inl (lk_ne h e))
  · exact .inl (.inr ⟨u, lk_ne h e⟩)
  · exact .inr e
theorem sqT_ne {K : PySem.W.Frag} {H : Hp} {a b : Addr} {o : HO} {xs : List V} (h : a ≠ b) (e : SqT K H a xs) : SqT K (upd H b o) a xs := by
  rcases e with (e | ⟨u, e⟩) | e
  · exact .inl (.inl (lk_ne h e))
  · exact .inl (.inr ⟨u, lk_ne h e⟩)
  · exact .inr e
/-- what stands there is no state of draws -/
def NotSt (o : HO) : Prop := ∀ (L : Addr) (k a : Int), o ≠ .lst [.ref L, .int k, .int a]
theorem NotSt.ints {ns : List Int} : NotSt (.lst (ns.map V.int)) := fun L k a z => by
  cases ns with
  | nil => cases z
  | cons x r => injection z with z; injection z with z1 _; cases z1
theorem NotSt.refs {ps : List Addr} : NotSt (.lst (ps.map V.ref)) := fun L k a z => by
  cases ps with
  | nil => cases z
  | cons x r => cases r with
    | nil => cases z
    | cons y t => injection z with z; injection z with _ z; injection z with z _; cases z
theorem NotSt.strs {xs : List Str} : NotSt (.lst (xs.map V.str)) := fun L k a z => by
  cases xs with
  | nil => cases z
  | cons x r => injection z with z; injection z with z1 _; cases z1
/-- all that was tracked is as it was, but the states of draws -/
def ExD (H H' : Hp) : Prop := ∀ a o, NotSt o → H a = some o → H' a = some o
theorem ExD.lk {a : Addr} {H H' : Hp} {o : HO} (x : ExD H H') (e : H a = some o) (h : NotSt o) : H' a = some o := x a o h e
theorem ExD.refl (H : Hp) : ExD H H := fun _ _ _ e => e
theorem ExD.trans {H H1 H2 : Hp} (x : ExD H H1) (y : ExD H1 H2) : ExD H H2 := fun a o h e => y a o h (x a o h e)
theorem ExD.new {p : Addr} {H H1 : Hp} {o : HO} (h : H p = none) (x : ExD H H1) : ExD H (upd H1 p o) := fun a u ha e => lk_ne (ne_of_none e h) (x a u ha e)
theorem ExD.of {H H' : Hp} (x : Same H H') : ExD H H' := fun a o _ e => x a o e
theorem ExD.st {st L : Addr} {k a : Int} {H H1 : Hp} {o : HO} (e : H st = some (.lst [.ref L, .int k, .int a])) (x : ExD H H1) : ExD H (upd H1 st o) := fun b u hb f => by
  refine lk_ne (fun z => ?_) (x b u hb f)
  subst z; rw [e] at f; exact hb L k a (Option.some.inj f).symm
theorem Same.lk {a : Addr} {H H' : Hp} {o : HO} (x : Same H H') (e : H a = some o) : H' a = some o := x a o e
theorem lk_new {H : Hp} {a b : Addr} {o u : HO} (h : H b = none) (e : H a = some u) : upd H b o a = some u := lk_ne (ne_of_none e h) e
theorem lk_df {H : Hp} {a b : Addr} {o u w : HO} (e : H a = some u) (f : H b = some w) (d : u ≠ w) : upd H b o a = some u := lk_ne (fun z => by subst z; rw [e] at f; exact d (Option.some.inj f)) e

section
variable {K : PySem.W.Frag} {σ : St} {H : Hp} {Q : VK} {te ta tb : TE} {t u : TS} {D : Ends} {p : Addr} {xs : List V} {a : Int} {v : V} {j : Nat}
theorem z_cutI (k : t { D with nx := u D } σ H) : tCut t u D σ H := ⟨u D, k, fun _ _ h => h⟩
theorem z_cut (M : St → Hp → Prop) (k : t { D with nx := M } σ H) (h : ∀ σ' H', M σ' H' → u D σ' H') : tCut t u D σ H := ⟨M, k, h⟩
theorem z_asgS (k : te σ H fun x H1 => ta σ H1 fun o H2 => tb σ H2 fun i H3 => rSetL o i x H3 fun H4 => D.nx σ H4) : tAsg te (gSub ta tb rSetL) D σ H := k
theorem z_setL {Q : Hp → Prop} (h : H p = some (.lst xs)) (e : ixN xs.length a = some j) (k : Q (upd H p (.lst (xs.set j v)))) : rSetL (.ref p) (.int a) v H Q := ⟨p, xs, a, j, rfl, rfl, h, e, k⟩
theorem z_app (h : H p = some (.lst xs)) (hl : xs.length < 100000) (k : Q .non (upd H p (.lst (xs ++ [v])))) : rAppend (.ref p) [v] H Q := ⟨p, xs, v, rfl, rfl, h, Nat.lt_of_lt_of_le hl (by decide), k⟩
theorem tyL (h : H p = some (.lst xs)) : tyV K "list" (.ref p) H := Or.inl ⟨rfl, _, Or.inl (Or.inl h)⟩
theorem z_bm {T : String} {r : V → List V → Hp → VK → Prop} {to : TE} {t : TA} (k : to σ H fun x H1 => tyV K T x H1 ∧ t σ H1 fun xs H2 => r x xs H2 Q) : tBM K T r to t σ H Q := k
theorem upd_self {H : Hp} {a : Addr} {o : HO} (h : H a = some o) : upd H a o = H := by
  funext b; unfold upd; split
  · rename_i e; subst e; exact h.symm
  · rfl
theorem ix_at {α : Type} {xs : List α} {i : Int} (h0 : 0 ≤ i) (h1 : i < xs.length) : ixN xs.length i = some i.toNat := by
  unfold ixN; rw [if_pos h0, if_pos h1]
theorem at_int {ns : List Int} {i : Int} (h0 : 0 ≤ i) (h1 : i < ns.length) : atI (ns.map V.int) i = some (.int (ns.getD i.toNat 0)) := by
  unfold atI
  rw [ix_at h0 (by simpa using h1)]
  have : i.toNat < ns.length := by omega
  simp [List.getD, this]
end
/-- a body keeps its promise, from the promise as it was handed in -/
def Wd (T : TS) (N : List Str) (n : Nat) (sp : Sp) : Prop := ∀ (vs : List V) (H : Hp) (Q : VK) (E : XK), sp vs H Q E → vs.length = n ∧ T { nx := fun _ H' => Q .non H', rt := Q } (start N vs) H

/-! ### comprehensions -/
def zLcR (g : TG) (tt : TT) (te : TE) (vs : List Nat) (σ : St) (lo : Int) (n : Nat) (H1 : Hp) (Q : VK) : Prop := ∀ D, H1 D = none → ∃ W : Nat → Nat → Hp → Prop, (∃ m, W 0 m (upd H1 D (.lst []))) ∧ ∀ i m H, W i m H →
  ((Itr lo n).stop i H ∧ Q (.ref D) H) ∨ ((Itr lo n).go i H ∧ ∃ Nx : Hp → Prop, (∀ H', Nx H' → ∃ m', m' < m ∧ W (i + 1) m' H') ∧ ∀ x H', (Itr lo n).yld i H x H' → g x (wipe σ vs) H' fun σ2 H2 => wipe σ2 vs = wipe σ vs ∧ tt σ2 H2 fun b H3 =>
    if b = true then te σ2 H3 fun y H4 => ∃ acc, H4 D = some (.lst acc) ∧ acc.length < sizeLine ∧ Nx (upd H4 D (.lst (acc ++ [y]))) else Nx H3)
def zLcR1 (g : TG) (tt : TT) (te : TE) (vs : List Nat) (σ : St) (as : List V) (H1 : Hp) (Q : VK) : Prop := ∃ j : Int, as = [.int j] ∧ -(2 ^ 62) ≤ j ∧ j < 2 ^ 62 ∧ zLcR g tt te vs σ 0 j.toNat H1 Q
def zLcL (K : PySem.W.Frag) (g : TG) (tt : TT) (te : TE) (vs : List Nat) (σ : St) (a : Addr) (H1 : Hp) (Q : VK) : Prop := ∀ D, H1 D = none → ∃ W : Nat → Nat → Hp → Prop, (∃ m, W 0 m (upd H1 D (.lst []))) ∧ ∀ i m H, W i m H →
  ((Itl K a).stop i H ∧ Q (.ref D) H) ∨ ((Itl K a).go i H ∧ ∃ Nx : Hp → Prop, (∀ H', Nx H' → ∃ m', m' < m ∧ W (i + 1) m' H') ∧ ∀ x H', (Itl K a).yld i H x H' → g x (wipe σ vs) H' fun σ2 H2 => wipe σ2 vs = wipe σ vs ∧ tt σ2 H2 fun b H3 =>
    if b = true then te σ2 H3 fun y H4 => ∃ acc, H4 D = some (.lst acc) ∧ acc.length < sizeLine ∧ Nx (upd H4 D (.lst (acc ++ [y]))) else Nx H3)
def zLcT (K : PySem.W.Frag) (g : TG) (tt : TT) (te : TE) (vs : List Nat) (σ : St) (a : Addr) (H1 : Hp) (Q : VK) : Prop := ∀ D, H1 D = none → ∃ W : Nat → Nat → Hp → Prop, (∃ m, W 0 m (upd H1 D (.lst []))) ∧ ∀ i m H, W i m H →
  ((Itt K a).stop i H ∧ Q (.ref D) H) ∨ ((Itt K a).go i H ∧ ∃ Nx : Hp → Prop, (∀ H', Nx H' → ∃ m', m' < m ∧ W (i + 1) m' H') ∧ ∀ x H', (Itt K a).yld i H x H' → g x (wipe σ vs) H' fun σ2 H2 => wipe σ2 vs = wipe σ vs ∧ tt σ2 H2 fun b H3 =>
    if b = true then te σ2 H3 fun y H4 => ∃ acc, H4 D = some (.lst acc) ∧ acc.length < sizeLine ∧ Nx (upd H4 D (.lst (acc ++ [y]))) else Nx H3)
def zLcS (K : PySem.W.Frag) (g : TG) (tt : TT) (te : TE) (vs : List Nat) (σ : St) (x : V) (H1 : Hp) (Q : VK) : Prop := ∃ a, x = .ref a ∧ (((∃ xs, SqL K H1 a xs) ∧ zLcL K g tt te vs σ a H1 Q) ∨ ((∃ xs, SqT K H1 a xs) ∧ zLcT K g tt te vs σ a H1 Q))
def zForS (K : PySem.W.Frag) (g : TG) (tb : TS) (D : Ends) (σ : St) (x : V) (H1 : Hp) : Prop := ∃ a, x = .ref a ∧ (((∃ xs, SqL K H1 a xs) ∧ ∃ W : Nat → Nat → St → Hp → Prop, (∃ m, W 0 m σ H1) ∧ ∀ i m σ H, W i m σ H →
  ((Itl K a).stop i H ∧ D.nx σ H) ∨ ((Itl K a).go i H ∧ ∃ N : St → Hp → Prop, (∀ σ' H', N σ' H' → ∃ m', m' < m ∧ W (i + 1) m' σ' H') ∧ ∀ x H', (Itl K a).yld i H x H' → g x σ H' fun σ2 H2 => tb { D with nx := N, ct := N, bk := D.nx } σ2 H2)) ∨
  ((∃ xs, SqT K H1 a xs) ∧ ∃ W : Nat → Nat → St → Hp → Prop, (∃ m, W 0 m σ H1) ∧ ∀ i m σ H, W i m σ H →
  ((Itt K a).stop i H ∧ D.nx σ H) ∨ ((Itt K a).go i H ∧ ∃ N : St → Hp → Prop, (∀ σ' H', N σ' H' → ∃ m', m' < m ∧ W (i + 1) m' σ' H') ∧ ∀ x H', (Itt K a).yld i H x H' → g x σ H' fun σ2 H2 => tb { D with nx := N, ct := N, bk := D.nx } σ2 H2)))

section
open PyProof.Rows
theorem pi_sq {X : Cx} {tg l : Expr} {tl : TE} (hl : PE X l tl) : PI X tg l (iSq X.K tl) := by
  refine ⟨fun pins s σ H R I h => ?_⟩
  refine thn (hl.run pins s σ H _ I h) fun v s1 ⟨x, H1, I1, r1, q1⟩ => ?_
  obtain ⟨a, e, q1⟩ := q1
  subst e
  cases r1
  rcases q1 with ⟨⟨xs, hq⟩, q⟩ | ⟨⟨xs, hq⟩, q⟩
  · obtain ⟨its, rv, p, hz⟩ := I1.list hq
    refine wpAny_pyIter_list p.isList ?_
    refine ⟨s1.heap.objs.size, [s1.heap.objs.size], _, _, H1, rfl, I1.kept (t' := s1.toks) fun b o e => Heap.get?_push_of_some _ e, turn_list a _, ⟨_, Heap.get?_push_size _ rfl, rfl, rfl⟩, fun b hb => ?_, q⟩
    have e : b = s1.heap.objs.size := by simpa using hb
    subst e
    exact I1.fpOk (Nat.le_refl _) (I1.hok.fresh (Nat.le_refl _))
  · obtain ⟨its, rv, p, hz⟩ := I1.tuple hq
    refine wpAny_pyIter_tuple (show s1.heap.IsTuple a its.toArray from p) ?_
    refine ⟨s1.heap.objs.size, [s1.heap.objs.size], _, _, H1, rfl, I1.kept (t' := s1.toks) fun b o e => Heap.get?_push_of_some _ e, turn_tuple a _, ⟨_, Heap.get?_push_size _ rfl, rfl, rfl⟩, fun b hb => ?_, q⟩
    have e : b = s1.heap.objs.size := by simpa using hb
    subst e
    exact I1.fpOk (Nat.le_refl _) (I1.hok.fresh (Nat.le_refl _))
end
section
variable {K : PySem.W.Frag} {σ : L2.St} {H : Hp} {Q : VK} {D : Ends} {tt : TT} {te tl : TE} {ta : TA} {vs : List Nat} {g : TG} {tb : TS} {a : Addr} {xs : List V}
theorem z_forSq (k : tl σ H fun x H1 => zForS K g tb D σ x H1) : tFor (iSq K tl) g tb D σ H := k
theorem z_lcSq (k : tl σ H fun x H1 => zLcS K g tt te vs σ x H1 Q) : tLc (iSq K tl) g tt te vs σ H Q := k
theorem z_lc1 (k : ta σ H fun as H1 => zLcR1 g tt te vs σ as H1 Q) : tLc (iRng1 ta) g tt te vs σ H Q := k
theorem z_yes {QB : Bool → Hp → Prop} (k : QB true H) : tYes σ H QB := k
theorem z_accum {D : Addr} {acc : List V} {P : List V → Prop} (h : H D = some (.lst acc)) (hl : acc.length < 100000) (k : P acc) : ∃ acc, H D = some (.lst acc) ∧ acc.length < sizeLine ∧ P acc :=
  ⟨acc, h, Nat.lt_of_lt_of_le hl (by decide), k⟩
/-- over a list that stays -/
theorem z_forL (h : SqL K H a xs) (Pv : Nat → L2.St → Hp → Prop) (h0 : Pv 0 σ H) (hl : ∀ i σ' H', i ≤ xs.length → Pv i σ' H' → SqL K H' a xs)
    (hs : ∀ i x σ' H', xs[i]? = some x → Pv i σ' H' → g x σ' H' fun σ2 H2 => tb { D with nx := Pv (i + 1), ct := Pv (i + 1), bk := D.nx } σ2 H2) (hd : ∀ σ' H', Pv xs.length σ' H' → D.nx σ' H') : zForS K g tb D σ (.ref a) H :=
  ⟨a, rfl, .inl ⟨⟨xs, h⟩, for_list Pv h0 hl hs hd⟩⟩
theorem z_forT (h : SqT K H a xs) (Pv : Nat → L2.St → Hp → Prop) (h0 : Pv 0 σ H) (hl : ∀ i σ' H', i ≤ xs.length → Pv i σ' H' → SqT K H' a xs)
    (hs : ∀ i x σ' H', xs[i]? = some x → Pv i σ' H' → g x σ' H' fun σ2 H2 => tb { D with nx := Pv (i + 1), ct := Pv (i + 1), bk := D.nx } σ2 H2) (hd : ∀ σ' H', Pv xs.length σ' H' → D.nx σ' H') : zForS K g tb D σ (.ref a) H :=
  ⟨a, rfl, .inr ⟨⟨xs, h⟩, for_tup Pv h0 hl hs hd⟩⟩
theorem z_gName {v : V} {i : Nat} {P : L2.St → Hp → Prop} (k : P (σ.set i (some v)) H) : gName i v σ H P := k
theorem z_lcr1 {j : Int} (hb : -1000000 ≤ j ∧ j ≤ 1000000) (k : zLcR g tt te vs σ 0 j.toNat H Q) : zLcR1 g tt te vs σ [.int j] H Q := ⟨j, rfl, by omega, by omega, k⟩
theorem z_lcr {lo : Int} {n : Nat} (Pv : Addr → Nat → Hp → Prop) (h0 : ∀ D, H D = none → Pv D 0 (upd H D (.lst [])))
    (hs : ∀ D i H', H D = none → i < n → Pv D i H' → g (.int (lo + i)) (wipe σ vs) H' fun σ2 H2 => wipe σ2 vs = wipe σ vs ∧ tt σ2 H2 fun b H3 =>
      if b = true then te σ2 H3 fun y H4 => ∃ acc, H4 D = some (.lst acc) ∧ acc.length < sizeLine ∧ Pv D (i + 1) (upd H4 D (.lst (acc ++ [y]))) else Pv D (i + 1) H3)
    (hd : ∀ D H', H D = none → Pv D n H' → Q (.ref D) H') : zLcR g tt te vs σ lo n H Q :=
  fun D hD => lc_range (Pv D) (h0 D hD) (fun i H' hi p => hs D i H' hD hi p) (fun H' p => hd D H' hD p)
theorem z_lcl (h : SqL K H a xs) (Pv : Addr → Nat → Hp → Prop) (h0 : ∀ D, H D = none → Pv D 0 (upd H D (.lst []))) (hl : ∀ D i H', H D = none → i ≤ xs.length → Pv D i H' → SqL K H' a xs)
    (hs : ∀ D i x H', H D = none → xs[i]? = some x → Pv D i H' → g x (wipe σ vs) H' fun σ2 H2 => wipe σ2 vs = wipe σ vs ∧ tt σ2 H2 fun b H3 =>
      if b = true then te σ2 H3 fun y H4 => ∃ acc, H4 D = some (.lst acc) ∧ acc.length < sizeLine ∧ Pv D (i + 1) (upd H4 D (.lst (acc ++ [y]))) else Pv D (i + 1) H3)
    (hd : ∀ D H', H D = none → Pv D xs.length H' → Q (.ref D) H') : zLcS K g tt te vs σ (.ref a) H Q :=
  ⟨a, rfl, .inl ⟨⟨xs, h⟩, fun D hD => lc_list (Pv D) (h0 D hD) (fun i H' hi p => hl D i H' hD hi p) (fun i x H' hi p => hs D i x H' hD hi p) (fun H' p => hd D H' hD p)⟩⟩
theorem z_lct (h : SqT K H a xs) (Pv : Addr → Nat → Hp → Prop) (h0 : ∀ D, H D = none → Pv D 0 (upd H D (.lst []))) (hl : ∀ D i H', H D = none → i ≤ xs.length → Pv D i H' → SqT K H' a xs)
    (hs : ∀ D i x H', H D = none → xs[i]? = some x → Pv D i H' → g x (wipe σ vs) H' fun σ2 H2 => wipe σ2 vs = wipe σ vs ∧ tt σ2 H2 fun b H3 =>
      if b = true then te σ2 H3 fun y H4 => ∃ acc, H4 D = some (.lst acc) ∧ acc.length < sizeLine ∧ Pv D (i + 1) (upd H4 D (.lst (acc ++ [y]))) else Pv D (i + 1) H3)
    (hd : ∀ D H', H D = none → Pv D xs.length H' → Q (.ref D) H') : zLcS K g tt te vs σ (.ref a) H Q :=
  ⟨a, rfl, .inr ⟨⟨xs, h⟩, fun D hD => lc_tup (Pv D) (h0 D hD) (fun i H' hi p => hl D i H' hD hi p) (fun i x H' hi p => hs D i x H' hD hi p) (fun H' p => hd D H' hD p)⟩⟩
end
/-! ### zip -/
def zZip (K : PySem.W.Frag) (g : TG) (tb : TS) (D : Ends) (σ : L2.St) (vs : List V) (H1 : Hp) : Prop := ∃ a b xs ys, vs = [.ref a, .ref b] ∧ ((SqL K H1 a xs ∧ SqL K H1 b ys ∧ ∃ W : Nat → Nat → L2.St → Hp → Prop, (∃ m, W 0 m σ H1) ∧ ∀ i m σ H, W i m σ H →
  ((Itz K a b).stop i H ∧ D.nx σ H) ∨ ((Itz K a b).go i H ∧ ∃ N : L2.St → Hp → Prop, (∀ σ' H', N σ' H' → ∃ m', m' < m ∧ W (i + 1) m' σ' H') ∧ ∀ x H', (Itz K a b).yld i H x H' → g x σ H' fun σ2 H2 => tb { D with nx := N, ct := N, bk := D.nx } σ2 H2)) ∨
  (SqT K H1 a xs ∧ SqT K H1 b ys ∧ ∃ W : Nat → Nat → L2.St → Hp → Prop, (∃ m, W 0 m σ H1) ∧ ∀ i m σ H, W i m σ H →
  ((RZ.ItzT K a b).stop i H ∧ D.nx σ H) ∨ ((RZ.ItzT K a b).go i H ∧ ∃ N : L2.St → Hp → Prop, (∀ σ' H', N σ' H' → ∃ m', m' < m ∧ W (i + 1) m' σ' H') ∧ ∀ x H', (RZ.ItzT K a b).yld i H x H' → g x σ H' fun σ2 H2 => tb { D with nx := N, ct := N, bk := D.nx } σ2 H2)))
theorem Same.sqT {K : PySem.W.Frag} {H H' : Hp} {a : Addr} {xs : List V} (e : Same H H') (h : SqT K H a xs) : SqT K H' a xs := by
  rcases h with (h | ⟨o, h⟩) | h
  · exact .inl (.inl (e _ _ h))
  · exact .inl (.inr ⟨o, e _ _ h⟩)
  · exact .inr h
theorem Same.new {H H' : Hp} {p : Addr} {o : HO} (h : H' p = none) (e : Same H H') : Same H (upd H' p o) := fun b u q => lk_ne (ne_of_none (e b u q) h) (e b u q)
section
variable {K : PySem.W.Frag} {σ : L2.St} {H : Hp} {D : Ends} {ta : TA} {g : TG} {tb : TS} {a b : Addr} {xs ys : List V}
theorem z_forZ (k : ta σ H fun vs H1 => zZip K g tb D σ vs H1) : tFor (RZ.iZipA K ta) g tb D σ H := k
theorem z_zip {u v : Nat} (h : (SqL K H a xs ∧ SqL K H b ys) ∨ (SqT K H a xs ∧ SqT K H b ys)) (Pv : Nat → L2.St → Hp → Prop) (h0 : Pv 0 σ H) (hk : ∀ i σ' H', Pv i σ' H' → Same H H')
    (hs : ∀ i x y p σ' H', xs[i]? = some x → ys[i]? = some y → Pv i σ' H' → H' p = none → tb { D with nx := Pv (i + 1), ct := Pv (i + 1), bk := D.nx } ((σ'.set u (some x)).set v (some y)) (upd H' p (.tup [x, y])))
    (hd : ∀ σ' H', Pv (min xs.length ys.length) σ' H' → D.nx σ' H') : zZip K (gTup K 2 (gCons (gName u) (gCons (gName v) gNil))) tb D σ [.ref a, .ref b] H := by
  refine ⟨a, b, xs, ys, rfl, ?_⟩
  rcases h with ⟨h1, h2⟩ | ⟨h1, h2⟩
  · refine .inl ⟨h1, h2, fun i m σ H => m = min xs.length ys.length - i ∧ i ≤ min xs.length ys.length ∧ Pv i σ H, ⟨_, rfl, Nat.zero_le _, h0⟩, ?_⟩
    rintro i m σ' H' ⟨rfl, hi, p⟩
    have s := hk i σ' H' p
    have q1 := Same.seq s h1
    have q2 := Same.seq s h2
    by_cases hlt : i < min xs.length ys.length
    · have l1 : i < xs.length := by omega
      have l2 : i < ys.length := by omega
      refine .inr ⟨⟨xs, ys, xs[i], ys[i], q1, q2, by simp [l1], by simp [l2]⟩, Pv (i + 1), fun σ2 H2 p' => ⟨_, by omega, rfl, by omega, p'⟩, ?_⟩
      rintro x H2 ⟨T, x1, y1, rfl, hT, rfl, f1, f2⟩
      exact ⟨T, [x1, y1], rfl, .inl (.inl upd_same), rfl, x1, [y1], rfl, y1, [], rfl, rfl, hs i x1 y1 T σ' H' (f1 xs q1) (f2 ys q2) p hT⟩
    · have e : i = min xs.length ys.length := by omega
      subst e
      exact .inl ⟨⟨xs, ys, q1, q2, by omega⟩, hd σ' H' p⟩
  · refine .inr ⟨h1, h2, fun i m σ H => m = min xs.length ys.length - i ∧ i ≤ min xs.length ys.length ∧ Pv i σ H, ⟨_, rfl, Nat.zero_le _, h0⟩, ?_⟩
    rintro i m σ' H' ⟨rfl, hi, p⟩
    have s := hk i σ' H' p
    have q1 := Same.sqT s h1
    have q2 := Same.sqT s h2
    by_cases hlt : i < min xs.length ys.length
    · have l1 : i < xs.length := by omega
      have l2 : i < ys.length := by omega
      refine .inr ⟨⟨xs, ys, xs[i], ys[i], q1, q2, by simp [l1], by simp [l2]⟩, Pv (i + 1), fun σ2 H2 p' => ⟨_, by omega, rfl, by omega, p'⟩, ?_⟩
      rintro x H2 ⟨T, x1, y1, rfl, hT, rfl, f1, f2⟩
      exact ⟨T, [x1, y1], rfl, .inl (.inl upd_same), rfl, x1, [y1], rfl, y1, [], rfl, rfl, hs i x1 y1 T σ' H' (f1 xs q1) (f2 ys q2) p hT⟩
    · have e : i = min xs.length ys.length := by omega
      subst e
      exact .inl ⟨⟨xs, ys, q1, q2, by omega⟩, hd σ' H' p⟩
end
/-- an item of a list of ints -/
theorem map_int {xs : List Int} {i : Nat} {x : V} (h : (xs.map V.int)[i]? = some x) : i < xs.length ∧ x = .int (xs.getD i 0) := by
  rw [List.getElem?_map] at h
  cases e : xs[i]? with
  | none => rw [e] at h; cases h
  | some y =>
    rw [e] at h
    obtain ⟨l, _⟩ := List.getElem?_eq_some_iff.mp e
    exact ⟨l, by rw [List.getD_eq_getElem?_getD, e]; exact (Option.some.inj h).symm⟩
/-- a, b = a pair -/
theorem z_gTup2 {K : PySem.W.Frag} {H : Hp} {σ : L2.St} {P : L2.St → Hp → Prop} {t : Addr} {x y : V} {u v : Nat} (h : SqT K H t [x, y]) (k : P ((σ.set u (some x)).set v (some y)) H) : gTup K 2 (gCons (gName u) (gCons (gName v) gNil)) (.ref t) σ H P :=
  ⟨t, [x, y], rfl, h, rfl, x, [y], rfl, y, [], rfl, rfl, k⟩
/-! ### enumerate -/
def zEnum (K : PySem.W.Frag) (g : TG) (tb : TS) (D : Ends) (σ : L2.St) (vs : List V) (H1 : Hp) : Prop := ∃ a xs, vs = [.ref a] ∧ SqL K H1 a xs ∧ ∃ W : Nat → Nat → L2.St → Hp → Prop, (∃ m, W 0 m σ H1) ∧ ∀ i m σ H, W i m σ H →
  ((Ite K a).stop i H ∧ D.nx σ H) ∨ ((Ite K a).go i H ∧ ∃ N : L2.St → Hp → Prop, (∀ σ' H', N σ' H' → ∃ m', m' < m ∧ W (i + 1) m' σ' H') ∧ ∀ x H', (Ite K a).yld i H x H' → g x σ H' fun σ2 H2 => tb { D with nx := N, ct := N, bk := D.nx } σ2 H2)
def zLcE (K : PySem.W.Frag) (g : TG) (tt : TT) (te : TE) (vs : List Nat) (σ : L2.St) (as : List V) (H1 : Hp) (Q : VK) : Prop := ∃ a xs, as = [.ref a] ∧ SqL K H1 a xs ∧ ∀ D, H1 D = none → ∃ W : Nat → Nat → Hp → Prop, (∃ m, W 0 m (upd H1 D (.lst []))) ∧ ∀ i m H, W i m H →
  ((Ite K a).stop i H ∧ Q (.ref D) H) ∨ ((Ite K a).go i H ∧ ∃ Nx : Hp → Prop, (∀ H', Nx H' → ∃ m', m' < m ∧ W (i + 1) m' H') ∧ ∀ x H', (Ite K a).yld i H x H' → g x (wipe σ vs) H' fun σ2 H2 => wipe σ2 vs = wipe σ vs ∧ tt σ2 H2 fun b H3 =>
    if b = true then te σ2 H3 fun y H4 => ∃ acc, H4 D = some (.lst acc) ∧ acc.length < sizeLine ∧ Nx (upd H4 D (.lst (acc ++ [y]))) else Nx H3)
section
variable {K : PySem.W.Frag} {σ : L2.St} {H : Hp} {D : Ends} {ta : TA} {g : TG} {tb : TS} {a : Addr} {xs : List V} {tt : TT} {te : TE} {vs : List Nat} {Q : VK}
theorem z_forE (k : ta σ H fun vs H1 => zEnum K g tb D σ vs H1) : tFor (iEnum K ta) g tb D σ H := k
theorem z_lcE (k : ta σ H fun as H1 => zLcE K g tt te vs σ as H1 Q) : tLc (iEnum K ta) g tt te vs σ H Q := k
theorem z_enum {u v : Nat} (h : SqL K H a xs) (Pv : Nat → L2.St → Hp → Prop) (h0 : Pv 0 σ H) (hk : ∀ i σ' H', Pv i σ' H' → SqL K H' a xs)
    (hs : ∀ i x p σ' H', xs[i]? = some x → Pv i σ' H' → H' p = none → tb { D with nx := Pv (i + 1), ct := Pv (i + 1), bk := D.nx } ((σ'.set u (some (.int (i : Nat)))).set v (some x)) (upd H' p (.tup [.int (i : Nat), x])))
    (hd : ∀ σ' H', Pv xs.length σ' H' → D.nx σ' H') : zEnum K (gTup K 2 (gCons (gName u) (gCons (gName v) gNil))) tb D σ [.ref a] H := by
  refine ⟨a, xs, rfl, h, fun i m σ H => m = xs.length - i ∧ i ≤ xs.length ∧ Pv i σ H, ⟨_, rfl, Nat.zero_le _, h0⟩, ?_⟩
  rintro i m σ' H' ⟨rfl, hi, p⟩
  have q1 := hk i σ' H' p
  by_cases hlt : i < xs.length
  · refine .inr ⟨⟨xs, xs[i], q1, by simp [hlt]⟩, Pv (i + 1), fun σ2 H2 p' => ⟨_, by omega, rfl, by omega, p'⟩, ?_⟩
    rintro x H2 ⟨T, x1, rfl, hT, rfl, f1⟩
    exact ⟨T, [.int (i : Nat), x1], rfl, .inl (.inl upd_same), rfl, .int (i : Nat), [x1], rfl, x1, [], rfl, rfl, hs i x1 T σ' H' (f1 xs q1) p hT⟩
  · have e : i = xs.length := by omega
    subst e
    exact .inl ⟨⟨xs, q1, by omega⟩, hd σ' H' p⟩
theorem z_lce {u v : Nat} (h : SqL K H a xs) (Pv : Addr → Nat → Hp → Prop) (h0 : ∀ D, H D = none → Pv D 0 (upd H D (.lst []))) (hk : ∀ D i H', H D = none → Pv D i H' → SqL K H' a xs)
    (hs : ∀ D i x p H', H D = none → xs[i]? = some x → Pv D i H' → H' p = none → wipe (((wipe σ vs).set u (some (.int (i : Nat)))).set v (some x)) vs = wipe σ vs ∧ tt (((wipe σ vs).set u (some (.int (i : Nat)))).set v (some x)) (upd H' p (.tup [.int (i : Nat), x])) fun b H3 =>
      if b = true then te (((wipe σ vs).set u (some (.int (i : Nat)))).set v (some x)) H3 fun y H4 => ∃ acc, H4 D = some (.lst acc) ∧ acc.length < sizeLine ∧ Pv D (i + 1) (upd H4 D (.lst (acc ++ [y]))) else Pv D (i + 1) H3)
    (hd : ∀ D H', H D = none → Pv D xs.length H' → Q (.ref D) H') : zLcE K (gTup K 2 (gCons (gName u) (gCons (gName v) gNil))) tt te vs σ [.ref a] H Q := by
  refine ⟨a, xs, rfl, h, fun D hD => ⟨fun i m H => m = xs.length - i ∧ i ≤ xs.length ∧ Pv D i H, ⟨_, rfl, Nat.zero_le _, h0 D hD⟩, ?_⟩⟩
  rintro i m H' ⟨rfl, hi, p⟩
  have q1 := hk D i H' hD p
  by_cases hlt : i < xs.length
  · refine .inr ⟨⟨xs, xs[i], q1, by simp [hlt]⟩, Pv D (i + 1), fun H2 p' => ⟨_, by omega, rfl, by omega, p'⟩, ?_⟩
    rintro x H2 ⟨T, x1, rfl, hT, rfl, f1⟩
    exact ⟨T, [.int (i : Nat), x1], rfl, .inl (.inl upd_same), rfl, .int (i : Nat), [x1], rfl, x1, [], rfl, rfl, hs D i x1 T H' hD (f1 xs q1) p hT⟩
  · have e : i = xs.length := by omega
    subst e
    exact .inl ⟨⟨xs, q1, by omega⟩, hd D H' hD p⟩
end
/-! ### attributes -/
def zFld (K : PySem.W.Frag) (f : Str) (x : V) (H : Hp) (Q : VK) : Prop := ∃ a C dx fs v, x = .ref a ∧ H a = some (.ins C dx fs) ∧ Cls K C ∧ NoAttr K C f ∧ fs.lookup f = some v ∧ Q v H
def zSet (K : PySem.W.Frag) (f : Str) (y x : V) (H : Hp) (N : Hp → Prop) : Prop := ∃ a C dx fs, x = .ref a ∧ H a = some (.ins C dx fs) ∧ Cls K C ∧ NoAttr K C f ∧ fs.length < 1000 ∧ N (upd H a (.ins C dx (putF f y fs)))
theorem z_fldt {K : PySem.W.Frag} {σ : L2.St} {H : Hp} {ta : TE} {f : Str} {Q : VK} (k : ta σ H fun x H1 => zFld K f x H1 Q) : tFld K ta f σ H Q := k
theorem z_sett {K : PySem.W.Frag} {σ : L2.St} {H : Hp} {ta tv : TE} {f : Str} {D : Ends} (k : tv σ H fun y H1 => ta σ H1 fun x H2 => zSet K f y x H2 fun H3 => D.nx σ H3) : sFld K ta tv f D σ H := k
/-! ### slices -/
def uSl (K : PySem.W.Frag) : V → Option Int → Option Int → Hp → VK → Prop := fun x lo hi H Q => match x with
  | .ref a => rSlL K (.ref a) lo hi H Q ∨ rSlA K (.ref a) lo hi H Q
  | .str z => z.length ≤ sizeLine ∧ Q (.str (cutS z lo hi)) H
  | _ => False
theorem sl_uSl {X : Cx} : SlR X (uSl X.K) := by
  intro pins s σ H x v vl vu lo hi sl Q I rx hs pl pu h
  cases x <;> first | exact h.elim | skip
  · exact sl_str pins s σ H _ v vl vu lo hi sl Q I rx hs pl pu ⟨_, rfl, h.1, h.2⟩
  · exact (sl_list.or sl_tupA) pins s σ H _ v vl vu lo hi sl Q I rx hs pl pu h
section
variable {K : PySem.W.Frag} {σ : L2.St} {H : Hp} {Q : VK} {te : TE} {tl th : TO} {p : Addr} {xs : List V} {lo hi : Option Int} {QO : Option Int → Hp → Prop}
theorem z_sl {r : V → Option Int → Option Int → Hp → VK → Prop} (k : te σ H fun x H1 => tl σ H1 fun l H2 => th σ H2 fun u H3 => r x l u H3 Q) : tSl r te tl th σ H Q := k
theorem z_part (k : te σ H fun x H1 => ∃ i, x = .int i ∧ QO (some i) H1) : tPart te σ H QO := k
theorem z_noPart (k : QO none H) : tNoPart σ H QO := k
theorem z_parti {P : Int → Prop} {a : Int} (k : P a) : ∃ i, V.int a = .int i ∧ P i := ⟨a, rfl, k⟩
theorem z_slL (h : SqL K H p xs) (k : ∀ l, H l = none → Q (.ref l) (upd H l (.lst (cutV xs lo hi)))) : uSl K (.ref p) lo hi H Q := .inl ⟨p, xs, rfl, h, k⟩
theorem z_slS {x : Str} (h : x.length ≤ 100000) (k : Q (.str (cutS x lo hi)) H) : uSl K (.str x) lo hi H Q := ⟨Nat.le_trans h (by decide), k⟩
end
theorem cutV_ints (ns : List Int) (lo hi : Option Int) : cutV (ns.map V.int) lo hi = ((ns.drop (HT.sIx ns.length 0 lo)).take (HT.sIx ns.length ns.length hi - HT.sIx ns.length 0 lo)).map V.int := by
  unfold cutV; rw [List.length_map, List.map_take, List.map_drop]
theorem cutV_refs (ps : List Addr) (lo hi : Option Int) : cutV (ps.map V.ref) lo hi = ((ps.drop (HT.sIx ps.length 0 lo)).take (HT.sIx ps.length ps.length hi - HT.sIx ps.length 0 lo)).map V.ref := by
  unfold cutV; rw [List.length_map, List.map_take, List.map_drop]
theorem sIx_pos {n d : Nat} {i : Int} (h : 0 ≤ i) : HT.sIx n d (some i) = min i.toNat n := by
  show (if i < 0 then (i + (n : Int)).toNat else min i.toNat n) = _
  rw [if_neg (by omega)]
/-! ### comprehensions over zip -/
def zLcZ (K : PySem.W.Frag) (g : TG) (tt : TT) (te : TE) (vs : List Nat) (σ : L2.St) (as : List V) (H1 : Hp) (Q : VK) : Prop := ∃ a b xs ys, as = [.ref a, .ref b] ∧ ((SqL K H1 a xs ∧ SqL K H1 b ys ∧ ∀ D, H1 D = none → ∃ W : Nat → Nat → Hp → Prop, (∃ m, W 0 m (upd H1 D (.lst []))) ∧ ∀ i m H, W i m H →
  ((Itz K a b).stop i H ∧ Q (.ref D) H) ∨ ((Itz K a b).go i H ∧ ∃ Nx : Hp → Prop, (∀ H', Nx H' → ∃ m', m' < m ∧ W (i + 1) m' H') ∧ ∀ x H', (Itz K a b).yld i H x H' → g x (wipe σ vs) H' fun σ2 H2 => wipe σ2 vs = wipe σ vs ∧ tt σ2 H2 fun b H3 =>
    if b = true then te σ2 H3 fun y H4 => ∃ acc, H4 D = some (.lst acc) ∧ acc.length < sizeLine ∧ Nx (upd H4 D (.lst (acc ++ [y]))) else Nx H3)) ∨
  (SqT K H1 a xs ∧ SqT K H1 b ys ∧ ∀ D, H1 D = none → ∃ W : Nat → Nat → Hp → Prop, (∃ m, W 0 m (upd H1 D (.lst []))) ∧ ∀ i m H, W i m H →
  ((RZ.ItzT K a b).stop i H ∧ Q (.ref D) H) ∨ ((RZ.ItzT K a b).go i H ∧ ∃ Nx : Hp → Prop, (∀ H', Nx H' → ∃ m', m' < m ∧ W (i + 1) m' H') ∧ ∀ x H', (RZ.ItzT K a b).yld i H x H' → g x (wipe σ vs) H' fun σ2 H2 => wipe σ2 vs = wipe σ vs ∧ tt σ2 H2 fun b H3 =>
    if b = true then te σ2 H3 fun y H4 => ∃ acc, H4 D = some (.lst acc) ∧ acc.length < sizeLine ∧ Nx (upd H4 D (.lst (acc ++ [y]))) else Nx H3)))
section
variable {K : PySem.W.Frag} {σ : L2.St} {H : Hp} {ta : TA} {g : TG} {a b : Addr} {xs ys : List V} {tt : TT} {te : TE} {vs : List Nat} {Q : VK}
theorem z_lcZ (k : ta σ H fun as H1 => zLcZ K g tt te vs σ as H1 Q) : tLc (RZ.iZipA K ta) g tt te vs σ H Q := k
theorem z_lcz {u v : Nat} (h : (SqL K H a xs ∧ SqL K H b ys) ∨ (SqT K H a xs ∧ SqT K H b ys)) (Pv : Addr → Nat → Hp → Prop) (h0 : ∀ D, H D = none → Pv D 0 (upd H D (.lst []))) (hk : ∀ D i H', H D = none → Pv D i H' → Same H H')
    (hs : ∀ D i x y p H', H D = none → xs[i]? = some x → ys[i]? = some y → Pv D i H' → H' p = none → wipe (((wipe σ vs).set u (some x)).set v (some y)) vs = wipe σ vs ∧ tt (((wipe σ vs).set u (some x)).set v (some y)) (upd H' p (.tup [x, y])) fun b H3 =>
      if b = true then te (((wipe σ vs).set u (some x)).set v (some y)) H3 fun z H4 => ∃ acc, H4 D = some (.lst acc) ∧ acc.length < sizeLine ∧ Pv D (i + 1) (upd H4 D (.lst (acc ++ [z]))) else Pv D (i + 1) H3)
    (hd : ∀ D H', H D = none → Pv D (min xs.length ys.length) H' → Q (.ref D) H') : zLcZ K (gTup K 2 (gCons (gName u) (gCons (gName v) gNil))) tt te vs σ [.ref a, .ref b] H Q := by
  refine ⟨a, b, xs, ys, rfl, ?_⟩
  rcases h with ⟨h1, h2⟩ | ⟨h1, h2⟩
  · refine .inl ⟨h1, h2, fun D hD => ⟨fun i m H => m = min xs.length ys.length - i ∧ i ≤ min xs.length ys.length ∧ Pv D i H, ⟨_, rfl, Nat.zero_le _, h0 D hD⟩, ?_⟩⟩
    rintro i m H' ⟨rfl, hi, p⟩
    have s := hk D i H' hD p
    have q1 := Same.seq s h1
    have q2 := Same.seq s h2
    by_cases hlt : i < min xs.length ys.length
    · have l1 : i < xs.length := by omega
      have l2 : i < ys.length := by omega
      refine .inr ⟨⟨xs, ys, xs[i], ys[i], q1, q2, by simp [l1], by simp [l2]⟩, Pv D (i + 1), fun H2 p' => ⟨_, by omega, rfl, by omega, p'⟩, ?_⟩
      rintro x H2 ⟨T, x1, y1, rfl, hT, rfl, f1, f2⟩
      exact ⟨T, [x1, y1], rfl, .inl (.inl upd_same), rfl, x1, [y1], rfl, y1, [], rfl, rfl, hs D i x1 y1 T H' hD (f1 xs q1) (f2 ys q2) p hT⟩
    · have e : i = min xs.length ys.length := by omega
      subst e
      exact .inl ⟨⟨xs, ys, q1, q2, by omega⟩, hd D H' hD p⟩
  · refine .inr ⟨h1, h2, fun D hD => ⟨fun i m H => m = min xs.length ys.length - i ∧ i ≤ min xs.length ys.length ∧ Pv D i H, ⟨_, rfl, Nat.zero_le _, h0 D hD⟩, ?_⟩⟩
    rintro i m H' ⟨rfl, hi, p⟩
    have s := hk D i H' hD p
    have q1 := Same.sqT s h1
    have q2 := Same.sqT s h2
    by_cases hlt : i < min xs.length ys.length
    · have l1 : i < xs.length := by omega
      have l2 : i < ys.length := by omega
      refine .inr ⟨⟨xs, ys, xs[i], ys[i], q1, q2, by simp [l1], by simp [l2]⟩, Pv D (i + 1), fun H2 p' => ⟨_, by omega, rfl, by omega, p'⟩, ?_⟩
      rintro x H2 ⟨T, x1, y1, rfl, hT, rfl, f1, f2⟩
      exact ⟨T, [x1, y1], rfl, .inl (.inl upd_same), rfl, x1, [y1], rfl, y1, [], rfl, rfl, hs D i x1 y1 T H' hD (f1 xs q1) (f2 ys q2) p hT⟩
    · have e : i = min xs.length ys.length := by omega
      subst e
      exact .inl ⟨⟨xs, ys, q1, q2, by omega⟩, hd D H' hD p⟩
end
/-! ### constants of the module -/
theorem z_gint {X : Cx} {x : Str} {i : Int} {pos : Pos} (hm : ∃ t, X.mg x = some (.int i t)) (hg : Gl X x) (hd : (x == ("__debug__" : Str)) = false := by decide) : PE X (.Name x pos) (tC (.int i)) := by
  obtain ⟨t, hm⟩ := hm
  exact pe_glob hg hm ⟨t, rfl⟩ hd
theorem z_gstr {X : Cx} {x y : Str} {pos : Pos} (hm : ∃ t, X.mg x = some (.str y t)) (hg : Gl X x) (hd : (x == ("__debug__" : Str)) = false := by decide) : PE X (.Name x pos) (tC (.str y)) := by
  obtain ⟨t, hm⟩ := hm
  exact pe_glob hg hm ⟨t, rfl⟩ hd

local macro_rules | `(tactic| walk_at "ne") => `(tactic| with_reducible first | assumption | exact Ne.symm (by assumption) | exact ne_n (by assumption) (by assumption) | exact Ne.symm (ne_n (by assumption) (by assumption)))
local macro_rules | `(tactic| walk_at "df") => `(tactic| (intro zz; cases zz; done))
local macro_rules | `(tactic| walk_at "ns") => `(tactic| first | exact NotSt.ints | exact NotSt.refs | exact NotSt.strs | (intro _ _ _ zz; cases zz; done))
local macro_rules | `(tactic| walk_at "lk") => `(tactic| with_reducible first | assumption | ((show upd _ _ _ _ = _); first | exact upd_same | exact lk_new (by assumption) (by walk_at "lk") | ((fail_if_success refine lk_new (by assumption) ?_); first | exact lk_ne (by walk_at "ne") (by walk_at "lk") | exact lk_df (by walk_at "lk") (by walk_at "lk") (by with_unfolding_all walk_at "df"))) | exact ExD.lk (by assumption) (by walk_at "lk") (by with_unfolding_all walk_at "ns") | exact Same.lk (by assumption) (by walk_at "lk"))
local macro_rules | `(tactic| walk_at "sqL") => `(tactic| with_reducible first | assumption | exact SqL.of (by walk_at "lk") | ((show SqL _ (upd _ _ _) _ _); first | exact sqL_new (by assumption) (by walk_at "sqL") | exact sqL_ne (by walk_at "ne") (by walk_at "sqL")) | exact Same.seq (by assumption) (by walk_at "sqL"))
local macro_rules | `(tactic| walk_at "sqT") => `(tactic| with_reducible first | assumption | exact SqT.of (by walk_at "lk") | ((show SqT _ (upd _ _ _) _ _); first | exact sqT_new (by assumption) (by walk_at "sqT") | exact sqT_ne (by walk_at "ne") (by walk_at "sqT")))
local macro_rules | `(tactic| walk_at "sq") => `(tactic| first | exact Or.inl (by walk_at "sqL") | exact Or.inr (by walk_at "sqT"))
local macro_rules | `(tactic| walk_at "mulok") => `(tactic| first | exact mul1 (by omega) | exact mul2 (by omega))
local macro_rules | `(tactic| walk_at "few") => `(tactic| (simp only [List.length_cons, List.length_nil]; with_unfolding_all decide))
local macro_rules | `(tactic| walk_at "zo") => `(tactic| (with_reducible first
  | refine z_add ?_ | refine z_sub ?_ | refine z_lt ?_ | refine z_le ?_ | refine z_gt ?_ | refine z_ge ?_ | refine z_eq ?_ | refine z_ne ?_ | refine z_neg ?_ | refine z_int ?_ | refine z_max ?_ | refine z_min ?_ | refine z_abs ?_
  | refine z_eqS ?_ | refine z_neS ?_ | refine z_eqIS ?_ | refine z_eqSI ?_ | refine z_neIS ?_ | refine z_neSI ?_ | refine z_eqB ?_ | refine z_neB ?_ | refine z_eqN ?_ | refine z_neN ?_ | refine z_is ?_ | refine z_isNot ?_ | refine z_isB ?_ | refine z_isNotB ?_ | refine z_isbb ?_ | refine z_isbi ?_
  | refine z_ltS ?_ | refine z_leS ?_ | refine z_gtS ?_ | refine z_geS ?_ | refine z_isii ?_ | refine z_isib ?_))
local macro_rules | `(tactic| walk_at "zp") => `(tactic| with_reducible first
  | ((show uMul _ _ _ _); refine z_mul (by walk_at "mulok") ?_)
  | ((show uDiv _ _ _ _); refine z_div (by exact div1 (by omega)) ?_)
  | ((show uMod _ _ _ _); refine z_mod (by omega) ?_)
  | ((show uPow _ _ _ _); refine z_pow (by with_unfolding_all exact ⟨by decide, by decide, by decide⟩) ?_; (simp only [Int.reduceToNat, Int.reducePow]))
  | ((show uIx _ _ _ _ _); refine z_ix (by walk_at "sq") (by first | with_unfolding_all rfl | assumption) ?_)
  | ((show uLen _ _ _ _); refine z_len (by walk_at "sq") ?_)
  | ((show uList _ _ _ _); refine z_list (by walk_at "sq") ?_; intro _ _)
  | ((show uSl _ (V.ref _) _ _ _ _); refine z_slL (by walk_at "sqL") ?_; intro _ _)
  | ((show rSetL _ _ _ _ _); refine z_setL (by walk_at "lk") (by with_unfolding_all rfl) ?_)
  | ((show tyV _ "list" _ _ ∧ _); refine ⟨tyL (by walk_at "lk"), ?_⟩)
  | ((show uIsi _ [_, V.ty "list"] _ _); refine z_isll (by walk_at "lk") ?_)
  | ((show uIsi _ [_, V.ty "tuple"] _ _); refine z_istt (by walk_at "lk") ?_)
  | ((show zNewL _ _ _); refine z_newL (by walk_at "few") ?_; intro _ _)
  | ((show zNewT _ _ _); refine z_newT (by walk_at "few") ?_; intro _ _))
local macro_rules | `(tactic| walk_at "ze") => `(tactic| (with_reducible first
  | ((show tVar _ _ _ _); refine z_var (by with_unfolding_all rfl) ?_) | refine z_c ?_ | refine z_op ?_ | refine z_cons ?_ | refine z_nil ?_ | refine z_cal ?_ | refine z_cb ?_ | refine z_test ?_ | refine z_bl ?_ | refine z_un ?_
  | refine z_tru ?_ | refine z_trub ?_ | refine z_trui ?_ | refine z_and ?_ | refine z_or ?_ | refine z_not ?_ | refine z_andV ?_ | refine z_orV ?_ | refine z_notV ?_ | refine z_bl1 ?_ | refine z_if ?_ | refine z_lst ?_ | refine z_tup ?_ | refine z_chain ?_))
local macro_rules | `(tactic| walk_at "zs") => `(tactic| (with_reducible first
  | refine z_seq ?_ | refine z_asg ?_ | refine z_ifS ?_ | refine z_ret ?_ | refine z_drop ?_ | refine z_next ?_ | refine z_brk ?_ | refine z_cont ?_ | refine z_retN ?_ | refine z_iteT ?_ | refine z_iteF ?_ | refine z_for1 ?_ | refine z_for2 ?_ | refine z_asgS ?_ | refine z_bm ?_ | refine z_forSq ?_ | refine z_forZ ?_ | refine z_forE ?_ | refine z_lcE ?_ | refine z_lcZ ?_ | refine z_fldt ?_ | refine z_sett ?_ | refine z_lcSq ?_ | refine z_lc1 ?_ | refine z_yes ?_ | refine z_gName ?_ | refine z_sl ?_ | refine z_part ?_ | refine z_noPart ?_ | refine z_parti ?_))
local macro_rules | `(tactic| walk_at "z") => `(tactic| first | walk_at "ze" | walk_at "zo" | walk_at "zs" | walk_at "zp" | (dsimp only [List.set]))
local macro_rules | `(tactic| walk_at "zz") => `(tactic| repeat (walk_at "z"))
local macro_rules | `(tactic| walk_at "zd") => `(tactic| ((with_reducible show ite _ _ _); first | refine z_iteT' (by decide +kernel) ?_ | refine z_iteF' (by decide +kernel) ?_))
local macro_rules | `(tactic| walk_at "zx") => `(tactic| repeat (first | walk_at "z" | walk_at "zd"))

/-! ### the draws of a law -/
-- _law_row(_law_script, _law_k): slots 0:_law_script 1:_law_k 2:_law_cell 3:_law_a 4:_law_b 5:_law_c
def T_law_row (K : PySem.W.Frag) : TS :=
    (tSeq (tAsg (tC (.int 0)) (gName 2))
    (tCut (tIfS (tTest (tOp (uLt K) (tVar 1) (tCB (uLen K) (tCons (tVar 0) tNil)))) (tAsg (tOp (uIx K) (tVar 0) (tVar 1)) (gName 2)) tNext)
    (tCut (tIfS (tTest (tOp (uLt K) (tVar 2) (tC (.int 0)))) (tAsg (tOp uSub (tOp uMul (tUn uNeg (tC (.int 2))) (tVar 2)) (tC (.int 1))) (gName 2)) tNext)
    (tCut (tIfS (tTest (tOp (uLt K) (tVar 2) (tOp uPow (tC (.int 10)) (tC (.int 9))))) (tSeq (tAsg (tOp uMod (tCB uInt (tCons (tOp (uAdd K) (tOp (uAdd K) (tOp uMul (tVar 2) (tC (.int 48271))) (tOp uMul (tVar 1) (tC (.int 69621)))) (tC (.int 11))) tNil)) (tC (.int 2147483647))) (gName 3))
    (tSeq (tAsg (tOp uMod (tCB uInt (tCons (tOp (uAdd K) (tOp (uAdd K) (tOp (uAdd K) (tOp uMul (tVar 3) (tC (.int 16807))) (tOp uMul (tVar 2) (tC (.int 7)))) (tVar 1)) (tC (.int 5))) tNil)) (tC (.int 2147483629))) (gName 4))
    (tSeq (tAsg (tOp uMod (tCB uInt (tCons (tOp (uAdd K) (tOp (uAdd K) (tOp uMul (tVar 4) (tC (.int 39373))) (tOp uMul (tVar 3) (tVar 4))) (tC (.int 3))) tNil)) (tC (.int 2147483587))) (gName 5))
    (tAsg (tOp (uAdd K) (tOp (uAdd K) (tVar 3) (tOp uMul (tVar 4) (tC (.int 2147483647)))) (tOp uMul (tVar 5) (tOp uPow (tC (.int 2147483647)) (tC (.int 2))))) (gName 2))))) tNext)
    (tRet (tVar 2))))))
def sp_law_row (K : PySem.W.Frag) : Sp := fun vs H Q _ => ∃ (L : Addr) (ns : List Int) (k : Int), vs = [.ref L, .int k] ∧ SqL K H L (ns.map V.int) ∧ 0 ≤ k ∧ ∀ c : Int, 0 ≤ c → Q (.int c) H
theorem r_law_row {K : PySem.W.Frag} {L : Addr} {ns : List Int} {k : Int} {H : Hp} {D : Ends} (hL : SqL K H L (ns.map V.int)) (hk : 0 ≤ k) (q : ∀ c : Int, 0 ≤ c → D.rt (.int c) H) :
    T_law_row K D [some (.ref L), some (.int k), none, none, none, none] H := by
  unfold T_law_row
  walk_at "zz"
  refine z_cut (fun σ H' => H = H' ∧ ∃ c : Int, σ = [some (.ref L), some (.int k), some (.int c), none, none, none]) ?_ ?_
  · walk_at "zz"
    refine z_itD (fun c => ?_) (fun c => ?_)
    · walk_at "zz"
      refine z_ix (.inl hL) (at_int hk (by simpa using c)) ?_
      walk_at "zz"
      exact ⟨rfl, _, rfl⟩
    · walk_at "zz"
      exact ⟨rfl, _, rfl⟩
  rintro σ H' ⟨rfl, c, rfl⟩
  refine z_cut (fun σ H' => H = H' ∧ ∃ c : Int, 0 ≤ c ∧ σ = [some (.ref L), some (.int k), some (.int c), none, none, none]) ?_ ?_
  · walk_at "zz"
    refine z_itD (fun c => ?_) (fun c => ?_)
    · walk_at "zz"
      exact ⟨rfl, _, by omega, rfl⟩
    · walk_at "zz"
      exact ⟨rfl, _, by omega, rfl⟩
  rintro σ H' ⟨rfl, c, hc, rfl⟩
  refine z_cut (fun σ H' => H = H' ∧ ∃ (c : Int) (x y z : Option V), 0 ≤ c ∧ σ = [some (.ref L), some (.int k), some (.int c), x, y, z]) ?_ ?_
  · walk_at "zz"
    refine z_itD (fun h => ?_) (fun h => ?_)
    · walk_at "zz"
      refine ⟨rfl, _, _, _, _, ?_, rfl⟩
      omega
    · walk_at "zz"
      exact ⟨rfl, _, _, _, _, hc, rfl⟩
  rintro σ H' ⟨rfl, c, x, y, z, hc, rfl⟩
  walk_at "zz"
  exact q c hc
-- _law_next(_law_state, _law_many): slots 0:_law_state 1:_law_many 2:_law_drawn
def T_law_next (K : PySem.W.Frag) : TS :=
    (tCut (tIfS (tTest (tOp (uLt K) (tOp (uIx K) (tVar 0) (tC (.int 2))) (tVar 1))) (tSeq (tAsg (tCal (sp_law_row K) (tCons (tOp (uIx K) (tVar 0) (tC (.int 0))) (tCons (tOp (uIx K) (tVar 0) (tC (.int 1))) tNil))) (gSub (tVar 0) (tC (.int 2)) rSetL))
    (tAsg (tOp (uAdd K) (tOp (uIx K) (tVar 0) (tC (.int 1))) (tC (.int 1))) (gSub (tVar 0) (tC (.int 1)) rSetL))) tNext)
    (tSeq (tAsg (tOp uMod (tCB uInt (tCons (tOp (uIx K) (tVar 0) (tC (.int 2))) tNil)) (tVar 1)) (gName 2))
    (tSeq (tAsg (tOp uDiv (tOp (uIx K) (tVar 0) (tC (.int 2))) (tVar 1)) (gSub (tVar 0) (tC (.int 2)) rSetL))
    (tRet (tVar 2)))))
/-- the state of the draws stands at st, the script's copy at L -/
structure Draw (H : Hp) (st L : Addr) : Prop where
  ex : ∃ (ns : List Int) (k a : Int), H st = some (.lst [.ref L, .int k, .int a]) ∧ H L = some (.lst (ns.map V.int)) ∧ L ≠ st ∧ 0 ≤ k ∧ 0 ≤ a
theorem Draw.ne {H : Hp} {st L p : Addr} (h : H p = none) (d : Draw H st L) : p ≠ st := by
  obtain ⟨_, _, _, e, _⟩ := d.ex
  exact (ne_of_none e h).symm
theorem Draw.neL {H : Hp} {st L p : Addr} (h : H p = none) (d : Draw H st L) : p ≠ L := by
  obtain ⟨_, _, _, _, e, _⟩ := d.ex
  exact (ne_of_none e h).symm
theorem Draw.new {H : Hp} {st L p : Addr} {o : HO} (h : H p = none) (d : Draw H st L) : Draw (upd H p o) st L := by
  obtain ⟨ns, k, a, e, s, n, hk, ha⟩ := d.ex
  exact ⟨ns, k, a, lk_ne (ne_of_none e h) e, lk_ne (ne_of_none s h) s, n, hk, ha⟩
theorem Draw.same {H H' : Hp} {st L : Addr} (x : Same H H') (d : Draw H st L) : Draw H' st L := by
  obtain ⟨ns, k, a, e, s, n, hk, ha⟩ := d.ex
  exact ⟨ns, k, a, x _ _ e, x _ _ s, n, hk, ha⟩
theorem Draw.put {H : Hp} {st L p : Addr} {o : HO} (h1 : p ≠ st) (h2 : p ≠ L) (d : Draw H st L) : Draw (upd H p o) st L := by
  obtain ⟨ns, k, a, e, s, n, hk, ha⟩ := d.ex
  exact ⟨ns, k, a, lk_ne h1.symm e, lk_ne h2.symm s, n, hk, ha⟩
theorem Draw.back {H H' : Hp} {st L p : Addr} (d : Draw H' st L) (x : ExD H H') (h : H' p = none) (hs : ∀ L k a, H p = some (.lst [.ref L, .int k, .int a]) → p = st) : H p = none := by
  cases e : H p with
  | none => rfl
  | some o =>
    by_cases n : NotSt o
    · have := x p o n e
      rw [h] at this; cases this
    · exfalso
      apply n
      rintro L k a rfl
      exact Draw.ne h d (hs L k a e)
def sp_law_next (K : PySem.W.Frag) : Sp := fun vs H Q _ => ∃ (st L : Addr) (m : Int), vs = [.ref st, .int m] ∧ Draw H st L ∧ 0 < m ∧ m < 1000000000000000000 ∧ ∀ (r : Int) (H' : Hp), 0 ≤ r → r < m → Draw H' st L → ExD H H' → Q (.int r) H'
theorem law_row_c {K : PySem.W.Frag} {L : Addr} {k : Int} {H : Hp} {Q : VK} {E : XK} {ns : List Int} (hL : SqL K H L (ns.map V.int)) (hk : 0 ≤ k) (q : ∀ c : Int, 0 ≤ c → Q (.int c) H) : sp_law_row K [.ref L, .int k] H Q E := ⟨L, ns, k, rfl, hL, hk, q⟩
theorem r_law_next {K : PySem.W.Frag} {st L : Addr} {m : Int} {H : Hp} {D : Ends} (d : Draw H st L) (h0 : 0 < m) (h1 : m < 1000000000000000000) (q : ∀ (r : Int) (H' : Hp), 0 ≤ r → r < m → Draw H' st L → ExD H H' → D.rt (.int r) H') :
    T_law_next K D [some (.ref st), some (.int m), none] H := by
  obtain ⟨ns, k, a, e, sL, n, hk, ha⟩ := d.ex
  have s : SqL K H L (ns.map V.int) := SqL.of sL
  unfold T_law_next
  refine z_cut (fun σ H' => ∃ k a : Int, H' = upd H st (.lst [.ref L, .int k, .int a]) ∧ 0 ≤ k ∧ 0 ≤ a ∧ σ = [some (.ref st), some (.int m), none]) ?_ ?_
  · walk_at "zz"
    refine z_itD (fun h => ?_) (fun h => ?_)
    · walk_at "zz"
      refine law_row_c s hk fun c hc => ?_
      walk_at "zz"
      refine ⟨k + 1, c, ?_, by omega, hc, rfl⟩
      simp only [upd_upd]; rfl
    · walk_at "zz"
      exact ⟨k, a, (upd_self e).symm, hk, ha, rfl⟩
  rintro σ H' ⟨k, a, rfl, hk, ha, rfl⟩
  walk_at "zz"
  refine q _ _ (Int.emod_nonneg _ (by omega)) (Int.emod_lt_of_pos _ h0) ⟨ns, k, a / m, upd_same, ?_, n, hk, Int.ediv_nonneg ha (by omega)⟩ ?_
  · exact lk_ne n (lk_ne n sL)
  · exact ExD.st e (ExD.st e (ExD.refl H))
theorem law_next_c {K : PySem.W.Frag} {st L : Addr} {m : Int} {H : Hp} {Q : VK} {E : XK} (d : Draw H st L) (h0 : 0 < m) (h1 : m < 1000000000000000000) (q : ∀ (r : Int) (H' : Hp), 0 ≤ r → r < m → Draw H' st L → ExD H H' → Q (.int r) H') : sp_law_next K [.ref st, .int m] H Q E :=
  ⟨st, L, m, rfl, d, h0, h1, q⟩
-- _law_is_integer(_law_actual): slots 0:_law_actual
def T_law_is_integer (K : PySem.W.Frag) : TS :=
    (tRet (tAndV (tCB (uIsi K) (tCons (tVar 0) (tCons (tC (.ty "int")) tNil))) (tNotV (tCB (uIsi K) (tCons (tVar 0) (tCons (tC (.ty "bool")) tNil))))))
def sp_law_is_integer (K : PySem.W.Frag) : Sp := fun vs H Q _ => ∃ i : Int, vs = [.int i] ∧ Q (.bl true) H
theorem r_law_is_integer {K : PySem.W.Frag} {i : Int} {H : Hp} {D : Ends} (q : D.rt (.bl true) H) : T_law_is_integer K D [some (.int i)] H := by
  unfold T_law_is_integer
  walk_at "zz"
  exact q
theorem Draw.start {H : Hp} {l p : Addr} {ns : List Int} (h1 : H l = none) (h2 : upd H l (.lst (ns.map V.int)) p = none) : Draw (upd (upd H l (.lst (ns.map V.int))) p (.lst [.ref l, .int 0, .int 0])) p l := by
  have ne : l ≠ p := ne_of_none (H := upd H l (.lst (ns.map V.int))) upd_same h2
  exact ⟨ns, 0, 0, upd_same, lk_ne ne upd_same, ne, by decide, by decide⟩
def sp_law (K : PySem.W.Frag) : Sp := fun vs H Q _ => ∃ (a : Addr) (ns : List Int), vs = [.ref a] ∧ SqL K H a (ns.map V.int) ∧ ns.length ≤ 63 ∧ ∀ H', Q (.bl true) H'
abbrev N_law_row : List Str := ["_law_script", "_law_k", "_law_cell", "_law_a", "_law_b", "_law_c"]
theorem w_law_row {K : PySem.W.Frag} : Wd (T_law_row K) N_law_row 2 (sp_law_row K) := fun vs H Q E h => by
  obtain ⟨L, ns, k, rfl, h1, h2, q⟩ := h
  exact ⟨rfl, r_law_row h1 h2 q⟩
abbrev N_law_next : List Str := ["_law_state", "_law_many", "_law_drawn"]
theorem w_law_next {K : PySem.W.Frag} : Wd (T_law_next K) N_law_next 2 (sp_law_next K) := fun vs H Q E h => by
  obtain ⟨st, L, m, rfl, d, h0, h1, q⟩ := h
  exact ⟨rfl, r_law_next d h0 h1 q⟩
abbrev N_law_is_integer : List Str := ["_law_actual"]
theorem w_law_is_integer {K : PySem.W.Frag} : Wd (T_law_is_integer K) N_law_is_integer 1 (sp_law_is_integer K) := fun vs H Q E h => by
  obtain ⟨i, rfl, q⟩ := h
  exact ⟨rfl, r_law_is_integer q⟩

local macro_rules | `(tactic| walk_at "dr") => `(tactic| with_reducible first | assumption | ((show Draw (upd _ _ _) _ _); first | exact Draw.new (by assumption) (by walk_at "dr") | exact Draw.put (by walk_at "ne") (by walk_at "ne") (by walk_at "dr")) | exact Draw.same (by assumption) (by walk_at "dr"))
local macro_rules | `(tactic| walk_at "nx") => `(tactic| (refine law_next_c (by walk_at "dr") (by first | decide | omega) (by first | decide | omega) ?_))

/-! ### the root -/
def rootN : Nat → Nat
  | 0 => 0
  | n + 1 => if (rootN n + 1) * (rootN n + 1) ≤ n + 1 then rootN n + 1 else rootN n
theorem rootN_spec (n : Nat) : rootN n * rootN n ≤ n ∧ n < (rootN n + 1) * (rootN n + 1) := by
  induction n with
  | zero => exact ⟨Nat.le_refl _, by decide⟩
  | succ n ih =>
    obtain ⟨h1, h2⟩ := ih
    unfold rootN
    split
    · rename_i h
      refine ⟨h, ?_⟩
      generalize rootN n = r at *
      have e : (r + 1 + 1) * (r + 1 + 1) = (r + 1) * (r + 1) + 2 * (r + 1) + 1 := by
        simp only [Nat.add_mul, Nat.mul_add]; omega
      omega
    · rename_i h
      refine ⟨by omega, by omega⟩
def rootZ (n : Int) : Int := (rootN n.toNat : Nat)
theorem rootZ_nn (n : Int) : 0 ≤ rootZ n := Int.natCast_nonneg _
theorem rootZ_spec {n : Int} (h : 0 ≤ n) : rootZ n * rootZ n ≤ n ∧ n < (rootZ n + 1) * (rootZ n + 1) := by
  have s := rootN_spec n.toNat
  unfold rootZ
  generalize rootN n.toNat = r at *
  have e : ((n.toNat : Nat) : Int) = n := Int.toNat_of_nonneg h
  constructor
  · have := Int.ofNat_le.mpr s.1
    rw [← e]; push_cast at this ⊢; exact this
  · have := Int.ofNat_lt.mpr s.2
    rw [← e]; push_cast at this ⊢; exact this
theorem sq_lt {a b : Int} (h0 : 0 ≤ a) (hb : 0 ≤ b) (h : a * a < b * b) : a < b := by
  rcases Int.lt_or_le a b with h1 | h1
  · exact h1
  · have := Int.mul_le_mul h1 h1 hb h0
    omega
theorem rootZ_uniq {n r : Int} (h0 : 0 ≤ r) (h1 : r * r ≤ n) (h2 : n < (r + 1) * (r + 1)) : r = rootZ n := by
  have hn : 0 ≤ n := Int.le_trans (Int.mul_nonneg h0 h0) h1
  obtain ⟨s1, s2⟩ := rootZ_spec hn
  have s0 := rootZ_nn n
  have a := sq_lt h0 (by omega) (Int.lt_of_le_of_lt h1 s2)
  have b := sq_lt s0 (by omega) (Int.lt_of_le_of_lt s1 h2)
  omega
theorem rootZ_neg {n : Int} (h : n < 0) : rootZ n = 0 := by
  unfold rootZ
  rw [Int.toNat_of_nonpos (by omega)]; rfl
/-- a factor is short when its square is -/
theorem mul_sq {a n : Int} {b : Nat} (h0 : 0 ≤ a) (h : a * a ≤ n) (hn : n < 2 ^ b) (hb : 0 < b ∧ b ≤ 400000) : MulOk a a := by
  have h1 : a.natAbs < 2 ^ b := by
    have h3 : a ≤ a * a := by
      rcases Int.lt_or_le a 1 with z | z
      · have : a = 0 := by omega
        subst this; simp
      · have := Int.mul_le_mul_of_nonneg_right z h0
        omega
    have h4 : ((2 ^ b : Nat) : Int) = (2 : Int) ^ b := by simp
    omega
  exact .inr (wide_mul h1 h1 hb.1 hb.1 (by omega))
-- root(number): slots 0:number 1:low 2:high 3:middle
def T_root_b1 (K : PySem.W.Frag) : TS :=
    (tAsg (tOp uMul (tVar 2) (tC (.int 2))) (gName 2))
def T_root_b2 (K : PySem.W.Frag) : TS :=
    (tSeq (tAsg (tOp uDiv (tOp (uAdd K) (tVar 1) (tVar 2)) (tC (.int 2))) (gName 3))
    (tIfS (tTest (tOp uLe (tOp uMul (tVar 3) (tVar 3)) (tVar 0))) (tAsg (tVar 3) (gName 1)) (tAsg (tVar 3) (gName 2))))
def T_root (K : PySem.W.Frag) : TS :=
    (tSeq (tAsg (tC (.int 0)) (gName 1))
    (tSeq (tAsg (tC (.int 1)) (gName 2))
    (tSeq (tWhile (tTest (tOp uLe (tOp uMul (tVar 2) (tVar 2)) (tVar 0))) (T_root_b1 K))
    (tSeq (tWhile (tTest (tOp uGt (tOp uSub (tVar 2) (tVar 1)) (tC (.int 1)))) (T_root_b2 K))
    (tRet (tVar 1))))))
def sp_root (K : PySem.W.Frag) : Sp := fun vs H Q _ => ∃ n : Int, vs = [.int n] ∧ n < 2 ^ 100000 ∧ Q (.int (rootZ n)) H
theorem r_root {K : PySem.W.Frag} {n : Int} {H : Hp} {D : Ends} (hn : n < 2 ^ 100000) (k : D.rt (.int (rootZ n)) H) : T_root K D [some (.int n), none, none, none] H := by
  unfold T_root
  walk_at "zz"
  have p2 : (2 : Int) ^ 100000 > 0 := Int.pow_pos (by decide)
  have pe : (2 : Int) ^ 100000 * 4 + 1 < 2 ^ 100003 := by
    have : (2 : Int) ^ 100003 = 2 ^ 100000 * 8 := by rw [show (100003 : Nat) = 100000 + 3 from rfl, Int.pow_add]; rfl
    omega
  generalize hM : (2 : Int) ^ 100000 = M at *
  refine z_while (fun m σ H' => H = H' ∧ ∃ h : Int, σ = [some (.int n), some (.int 0), some (.int h), none] ∧ 1 ≤ h ∧ (h = 1 ∨ h * h ≤ 4 * n) ∧ m = (n + 1 - h).toNat) (n + 1 - 1).toNat ⟨rfl, 1, rfl, by decide, .inl rfl, rfl⟩ ?_
  rintro m σ H' ⟨rfl, h, rfl, h1, h2, rfl⟩
  walk_at "zz"
  refine z_mul ?_ ?_
  · have : h * h ≤ 4 * M + 1 := by
      rcases h2 with rfl | h2 <;> omega
    exact mul_sq (n := h * h) (b := 100003) (by omega) (Int.le_refl _) (by omega) (by decide)
  walk_at "zz"
  refine z_itD (fun c => z_turn ?_) (fun c => ?_)
  · unfold T_root_b1
    walk_at "zz"
    have h3 : h ≤ n := by
      have := Int.mul_le_mul_of_nonneg_left h1 (show 0 ≤ h by omega)
      omega
    refine ⟨_, ?_, rfl, h * 2, rfl, by omega, .inr ?_, rfl⟩
    · omega
    · have : h * 2 * (h * 2) = 4 * (h * h) := by
        rw [Int.mul_assoc, Int.mul_left_comm 2 h 2, ← Int.mul_assoc, Int.mul_comm (h * h)]; rfl
      omega
  walk_at "zz"
  refine z_while (fun m σ H' => H = H' ∧ ∃ (lo hi : Int) (v : Option V), σ = [some (.int n), some (.int lo), some (.int hi), v] ∧ 0 ≤ lo ∧ lo < hi ∧ n < hi * hi ∧ (0 ≤ n → lo * lo ≤ n) ∧ hi ≤ h ∧ m = (hi - lo).toNat) (h - 0).toNat ⟨rfl, 0, h, none, rfl, by omega, by omega, by omega, fun z => by omega, Int.le_refl _, rfl⟩ ?_
  rintro m σ H' ⟨rfl, lo, hi, v, rfl, g1, g2, g3, g4, g5, rfl⟩
  walk_at "zz"
  refine z_itD (fun c2 => z_turn ?_) (fun c2 => ?_)
  · unfold T_root_b2
    walk_at "zz"
    have e1 : lo < (lo + hi) / 2 := by omega
    have e2 : (lo + hi) / 2 < hi := by omega
    generalize (lo + hi) / 2 = md at *
    have hm : md * md ≤ h * h := Int.mul_le_mul (by omega) (by omega) (by omega) (by omega)
    refine z_mul ?_ ?_
    · refine mul_sq (n := h * h) (b := 100003) (by omega) hm ?_ (by decide)
      rcases h2 with rfl | h2 <;> omega
    walk_at "zz"
    refine z_itD (fun c3 => ?_) (fun c3 => ?_)
    · walk_at "zz"
      exact ⟨_, by omega, rfl, md, hi, _, rfl, by omega, by omega, g3, fun _ => c3, g5, rfl⟩
    · walk_at "zz"
      exact ⟨_, by omega, rfl, lo, md, _, rfl, by omega, by omega, by omega, g4, by omega, rfl⟩
  · walk_at "zz"
    have e : hi = lo + 1 := by omega
    subst e
    rcases Int.lt_or_le n 0 with hz | hz
    · have : lo = 0 := by
        rcases h2 with rfl | h2
        · omega
        · exfalso
          have := Int.mul_nonneg (show 0 ≤ h by omega) (show 0 ≤ h by omega)
          omega
      subst this
      rw [rootZ_neg hz] at k
      exact k
    · rw [← rootZ_uniq g1 (g4 hz) g3] at k
      exact k
theorem root_c {K : PySem.W.Frag} {n : Int} {H : Hp} {Q : VK} {E : XK} (hn : n < 2 ^ 100000) (k : Q (.int (rootZ n)) H) : sp_root K [.int n] H Q E := ⟨n, rfl, hn, k⟩
-- gap(far, near): slots 0:far 1:near
def T_gap (K : PySem.W.Frag) : TS :=
    (tSeq (tIfS (tTest (tOp uGe (tVar 1) (tVar 0))) (tRet (tC (.int 0))) tNext)
    (tRet (tOp uSub (tOp (uAdd K) (tVar 0) (tVar 1)) (tCal (sp_root K) (tCons (tOp uMul (tOp uMul (tC (.int 4)) (tVar 0)) (tVar 1)) tNil)))))
def gapZ (far near : Int) : Int := if near ≥ far then 0 else far + near - rootZ (4 * far * near)
def Short (a : Int) : Prop := a.natAbs < 2 ^ 40000
theorem Short.mul {a b : Int} (ha : Short a) (hb : Short b) : MulOk a b := .inr (wide_mul ha hb (by decide) (by decide) (by decide))
theorem pow_le_pow {a b : Nat} (h : a ≤ b) : (2 : Nat) ^ a ≤ 2 ^ b := Nat.pow_le_pow_right (by decide) h
theorem Short.of {a : Int} {b : Nat} (h : a.natAbs < 2 ^ b) (hb : b ≤ 40000) : Short a := Nat.lt_of_lt_of_le h (pow_le_pow hb)
theorem Short.four {a : Int} (ha : Short a) : (4 * a).natAbs < 2 ^ 40003 := by
  rw [Int.natAbs_mul, show (40003 : Nat) = 3 + 40000 from rfl, Nat.pow_add]
  exact Nat.mul_lt_mul'' (by decide) ha
theorem Short.mul4 {a b : Int} (ha : Short a) (hb : Short b) : MulOk (4 * a) b := .inr (wide_mul ha.four hb (by decide) (by decide) (by decide))
theorem mul4 {a b : Int} (ha : Short a) (hb : Short b) : 4 * a * b < 2 ^ 100000 := by
  have h1 : (4 * a * b).natAbs < 2 ^ (3 + 40000 + 40000) := by
    rw [Int.natAbs_mul, Int.natAbs_mul, Nat.pow_add, Nat.pow_add]
    exact Nat.mul_lt_mul'' (Nat.mul_lt_mul'' (by decide) ha) hb
  have h2 : (2 : Nat) ^ (3 + 40000 + 40000) ≤ 2 ^ 100000 := pow_le_pow (by decide)
  have h3 : ((2 ^ 100000 : Nat) : Int) = (2 : Int) ^ 100000 := by rw [Int.natCast_pow]; rfl
  rw [← h3]
  generalize (2 : Nat) ^ 100000 = M at *
  generalize (2 : Nat) ^ (3 + 40000 + 40000) = M2 at *
  omega
def sp_gap (K : PySem.W.Frag) : Sp := fun vs H Q _ => ∃ far near : Int, vs = [.int far, .int near] ∧ Short far ∧ Short near ∧ Q (.int (gapZ far near)) H
theorem r_gap {K : PySem.W.Frag} {far near : Int} {H : Hp} {D : Ends} (h1 : Short far) (h2 : Short near) (k : D.rt (.int (gapZ far near)) H) : T_gap K D [some (.int far), some (.int near)] H := by
  unfold T_gap
  walk_at "zz"
  refine z_itD (fun c => ?_) (fun c => ?_)
  · walk_at "zz"
    rw [show gapZ far near = 0 from if_pos c] at k
    exact k
  · walk_at "zz"
    refine z_mul ?_ ?_
    · exact Short.mul4 h1 h2
    walk_at "zz"
    refine root_c (mul4 h1 h2) ?_
    walk_at "zz"
    rw [show gapZ far near = far + near - rootZ (4 * far * near) from if_neg c] at k
    exact k
abbrev N_root : List Str := ["number", "low", "high", "middle"]
theorem w_root {K : PySem.W.Frag} : Wd (T_root K) N_root 1 (sp_root K) := fun vs H Q E h => by
  obtain ⟨n, rfl, hn, k⟩ := h
  exact ⟨rfl, r_root hn k⟩
abbrev N_gap : List Str := ["far", "near"]
theorem w_gap {K : PySem.W.Frag} : Wd (T_gap K) N_gap 2 (sp_gap K) := fun vs H Q E h => by
  obtain ⟨far, near, rfl, h1, h2, k⟩ := h
  exact ⟨rfl, r_gap h1 h2 k⟩

/-! ### vectors -/
def innerZ : List Int → List Int → Int
  | x :: xs, y :: ys => x * y + innerZ xs ys
  | _, _ => 0
def distZ : List Int → List Int → Int
  | x :: xs, y :: ys => (x - y) * (x - y) + distZ xs ys
  | _, _ => 0
def diffZ : List Int → List Int → Int
  | x :: xs, y :: ys => (if x = y then 0 else 1) + diffZ xs ys
  | _, _ => 0
theorem sq_nn (x : Int) : 0 ≤ x * x := by
  rcases Int.le_total 0 x with h | h
  · exact Int.mul_nonneg h h
  · exact Int.mul_nonneg_of_nonpos_of_nonpos h h
theorem distZ_nn : ∀ a b : List Int, 0 ≤ distZ a b
  | x :: xs, y :: ys => Int.add_nonneg (sq_nn _) (distZ_nn xs ys)
  | [], _ => Int.le_refl 0
  | _ :: _, [] => Int.le_refl 0
theorem distZ_comm : ∀ a b : List Int, distZ a b = distZ b a
  | x :: xs, y :: ys => by
    show (x - y) * (x - y) + _ = (y - x) * (y - x) + _
    rw [distZ_comm xs ys, show x - y = -(y - x) by omega, Int.neg_mul_neg]
  | [], [] => rfl
  | [], _ :: _ => rfl
  | _ :: _, [] => rfl
theorem take_s {xs : List Int} {i : Nat} (h : i < xs.length) : xs.take (i + 1) = xs.take i ++ [xs.getD i 0] := by
  rw [List.take_succ, List.getElem?_eq_getElem h]
  simp [List.getD, h]
theorem distZ_app : ∀ (a b : List Int) (x y : Int), a.length = b.length → distZ (a ++ [x]) (b ++ [y]) = distZ a b + (x - y) * (x - y)
  | [], [], x, y, _ => by show (x - y) * (x - y) + 0 = 0 + (x - y) * (x - y); omega
  | [], _ :: _, _, _, h => by cases h
  | _ :: _, [], _, _, h => by cases h
  | u :: a, v :: b, x, y, h => by
    show (u - v) * (u - v) + distZ (a ++ [x]) (b ++ [y]) = (u - v) * (u - v) + distZ a b + (x - y) * (x - y)
    rw [distZ_app a b x y (by simpa using h)]; omega
theorem innerZ_app : ∀ (a b : List Int) (x y : Int), a.length = b.length → innerZ (a ++ [x]) (b ++ [y]) = innerZ a b + x * y
  | [], [], x, y, _ => by show x * y + 0 = 0 + x * y; omega
  | [], _ :: _, _, _, h => by cases h
  | _ :: _, [], _, _, h => by cases h
  | u :: a, v :: b, x, y, h => by
    show u * v + innerZ (a ++ [x]) (b ++ [y]) = u * v + innerZ a b + x * y
    rw [innerZ_app a b x y (by simpa using h)]; omega
theorem diffZ_app : ∀ (a b : List Int) (x y : Int), a.length = b.length → diffZ (a ++ [x]) (b ++ [y]) = diffZ a b + (if x = y then 0 else 1)
  | [], [], x, y, _ => by show (if x = y then (0 : Int) else 1) + 0 = 0 + (if x = y then 0 else 1); omega
  | [], _ :: _, _, _, h => by cases h
  | _ :: _, [], _, _, h => by cases h
  | u :: a, v :: b, x, y, h => by
    show (if u = v then (0 : Int) else 1) + diffZ (a ++ [x]) (b ++ [y]) = (if u = v then 0 else 1) + diffZ a b + (if x = y then 0 else 1)
    rw [diffZ_app a b x y (by simpa using h)]; omega
theorem distZ_take {a b : List Int} {i : Nat} (h : a.length = b.length) (hi : i < a.length) : distZ (a.take (i + 1)) (b.take (i + 1)) = distZ (a.take i) (b.take i) + (a.getD i 0 - b.getD i 0) * (a.getD i 0 - b.getD i 0) := by
  rw [take_s hi, take_s (h ▸ hi), distZ_app _ _ _ _ (by simp [h])]
theorem innerZ_take {a b : List Int} {i : Nat} (h : a.length = b.length) (hi : i < a.length) : innerZ (a.take (i + 1)) (b.take (i + 1)) = innerZ (a.take i) (b.take i) + a.getD i 0 * b.getD i 0 := by
  rw [take_s hi, take_s (h ▸ hi), innerZ_app _ _ _ _ (by simp [h])]
theorem diffZ_take {a b : List Int} {i : Nat} (h : a.length = b.length) (hi : i < a.length) : diffZ (a.take (i + 1)) (b.take (i + 1)) = diffZ (a.take i) (b.take i) + (if a.getD i 0 = b.getD i 0 then 0 else 1) := by
  rw [take_s hi, take_s (h ▸ hi), diffZ_app _ _ _ _ (by simp [h])]
/-- all within b of nought -/
def Bd (b : Int) (ns : List Int) : Prop := ∀ x ∈ ns, -b ≤ x ∧ x ≤ b
theorem Bd.app {b x : Int} {ns : List Int} (h : Bd b ns) (h1 : -b ≤ x) (h2 : x ≤ b) : Bd b (ns ++ [x]) := fun y hy => by
  rcases List.mem_append.mp hy with hy | hy
  · exact h y hy
  · rw [List.mem_singleton.mp hy]; exact ⟨h1, h2⟩
theorem Bd.mono {b c : Int} {ns : List Int} (h : Bd b ns) (hbc : b ≤ c) : Bd c ns := fun y hy => by have := h y hy; omega
theorem getD_mem {ns : List Int} {i : Nat} (h : i < ns.length) : ns.getD i 0 ∈ ns := by
  rw [List.getD_eq_getElem?_getD, List.getElem?_eq_getElem h]; exact List.getElem_mem h
theorem Bd.at {b : Int} {ns : List Int} (h : Bd b ns) {i : Nat} (hi : i < ns.length) : -b ≤ ns.getD i 0 ∧ ns.getD i 0 ≤ b := h _ (getD_mem hi)
theorem sq_le {x b : Int} (h1 : -b ≤ x) (h2 : x ≤ b) : x * x ≤ b * b := by
  rcases Int.le_total 0 x with h | h
  · exact Int.mul_le_mul h2 h2 h (by omega)
  · have := Int.mul_le_mul (show -x ≤ b by omega) (show -x ≤ b by omega) (show 0 ≤ -x by omega) (show 0 ≤ b by omega)
    rw [Int.neg_mul_neg] at this; exact this
theorem distZ_le {b : Int} : ∀ {xs ys : List Int}, Bd b xs → Bd b ys → distZ xs ys ≤ xs.length * (4 * (b * b))
  | [], _, _, _ => by simp [distZ]
  | x :: xs, [], _, _ => by
    have := sq_nn b
    show (0 : Int) ≤ _
    exact Int.mul_nonneg (Int.natCast_nonneg _) (by omega)
  | x :: xs, y :: ys, h1, h2 => by
    have ih := distZ_le (b := b) (fun z hz => h1 z (List.mem_cons_of_mem _ hz)) (fun z hz => h2 z (List.mem_cons_of_mem _ hz)) (xs := xs) (ys := ys)
    have a := h1 x List.mem_cons_self
    have c := h2 y List.mem_cons_self
    have e := sq_le (x := x - y) (b := 2 * b) (by omega) (by omega)
    have e2 : 2 * b * (2 * b) = 4 * (b * b) := by rw [Int.mul_assoc, Int.mul_left_comm b 2 b, ← Int.mul_assoc]; rfl
    show (x - y) * (x - y) + distZ xs ys ≤ ((xs.length + 1 : Nat) : Int) * (4 * (b * b))
    rw [Int.natCast_add, Int.add_mul]
    generalize (xs.length : Int) * (4 * (b * b)) = u at *
    generalize b * b = v at *
    omega
/-- the quadratic form of two vectors -/
theorem quad : ∀ (a b : List Int) (l m : Int), a.length = b.length → 0 ≤ l * l * innerZ a a + 2 * (l * m) * innerZ a b + m * m * innerZ b b
  | [], [], l, m, _ => by show 0 ≤ l * l * 0 + 2 * (l * m) * 0 + m * m * 0; simp
  | [], _ :: _, _, _, h => by cases h
  | _ :: _, [], _, _, h => by cases h
  | x :: a, y :: b, l, m, h => by
    have ih := quad a b l m (by simpa using h)
    have s := sq_nn (l * x + m * y)
    show 0 ≤ l * l * (x * x + innerZ a a) + 2 * (l * m) * (x * y + innerZ a b) + m * m * (y * y + innerZ b b)
    have e : (l * x + m * y) * (l * x + m * y) = l * l * (x * x) + 2 * (l * m) * (x * y) + m * m * (y * y) := by
      have e1 : l * x * (l * x) = l * l * (x * x) := by ac_rfl
      have e2 : l * x * (m * y) = l * m * (x * y) := by ac_rfl
      have e3 : m * y * (l * x) = l * m * (x * y) := by ac_rfl
      have e4 : m * y * (m * y) = m * m * (y * y) := by ac_rfl
      rw [Int.add_mul, Int.mul_add, Int.mul_add, e1, e2, e3, e4, Int.mul_assoc 2]
      omega
    rw [e] at s
    simp only [Int.mul_add]
    omega
theorem inner_sq_nn : ∀ a : List Int, 0 ≤ innerZ a a
  | [] => Int.le_refl 0
  | x :: a => Int.add_nonneg (sq_nn x) (inner_sq_nn a)
/-- Cauchy, Schwarz -/
theorem cauchy {a b : List Int} (h : a.length = b.length) : innerZ a b * innerZ a b ≤ innerZ a a * innerZ b b := by
  have hA := inner_sq_nn a
  have hB := inner_sq_nn b
  have q1 := quad a b (innerZ b b) (-innerZ a b) h
  have q2 := quad a b (innerZ a b) (-(innerZ a a + 1)) h
  generalize innerZ a a = A at *
  generalize innerZ b b = B at *
  generalize innerZ a b = S at *
  rcases Int.lt_or_le 0 B with z | z
  · have e : B * B * A + 2 * (B * -S) * S + -S * -S * B = B * (A * B - S * S) := by
      have e1 : B * B * A = B * (A * B) := by ac_rfl
      have e2 : 2 * (B * -S) * S = -(2 * (B * (S * S))) := by
        rw [Int.mul_neg, Int.mul_neg, Int.neg_mul]; congr 1; ac_rfl
      have e3 : -S * -S * B = B * (S * S) := by rw [Int.neg_mul_neg]; ac_rfl
      rw [e1, e2, e3, Int.mul_sub]; omega
    rw [e] at q1
    have : 0 ≤ A * B - S * S := by
      rcases Int.lt_or_le (A * B - S * S) 0 with n | n
      · have := Int.mul_neg_of_pos_of_neg z n
        omega
      · exact n
    omega
  · have hB0 : B = 0 := by omega
    subst hB0
    have e : S * S * A + 2 * (S * -(A + 1)) * S + -(A + 1) * -(A + 1) * 0 = -(S * S * (A + 2)) := by
      have e1 : 2 * (S * -(A + 1)) * S = -(2 * (S * S * (A + 1))) := by
        rw [Int.mul_neg, Int.mul_neg, Int.neg_mul]; congr 1; ac_rfl
      rw [e1, Int.mul_zero]; simp only [Int.mul_add]; omega
    rw [e] at q2
    have s0 := sq_nn S
    rw [Int.mul_zero]
    rcases Int.lt_or_le 0 (S * S) with n | n
    · have := Int.mul_pos n (show 0 < A + 2 by omega)
      omega
    · exact n
/-- the distances of three points -/
theorem dist3 : ∀ (a b c : List Int), a.length = b.length → b.length = c.length → ∃ x y : List Int, x.length = y.length ∧ distZ a b = innerZ x x ∧ distZ b c = innerZ y y ∧ distZ a c = innerZ x x + innerZ y y + 2 * innerZ x y
  | [], [], [], _, _ => ⟨[], [], rfl, rfl, rfl, rfl⟩
  | u :: a, v :: b, w :: c, h1, h2 => by
    obtain ⟨x, y, e0, e1, e2, e3⟩ := dist3 a b c (by simpa using h1) (by simpa using h2)
    refine ⟨(u - v) :: x, (v - w) :: y, by simp [e0], ?_, ?_, ?_⟩
    · show _ + _ = _ + _; rw [e1]
    · show _ + _ = _ + _; rw [e2]
    · show (u - w) * (u - w) + distZ a c = ((u - v) * (u - v) + innerZ x x) + ((v - w) * (v - w) + innerZ y y) + 2 * ((u - v) * (v - w) + innerZ x y)
      rw [e3, show u - w = (u - v) + (v - w) by omega]
      generalize u - v = p
      generalize v - w = q
      simp only [Int.add_mul, Int.mul_add, Int.mul_comm q p]
      omega
  | [], [], _ :: _, _, h => by cases h
  | [], _ :: _, _, h, _ => by cases h
  | _ :: _, [], _, h, _ => by cases h
  | _ :: _, _ :: _, [], _, h => by cases h
/-- the heart of the gap: with A, B, C the three distances -/
theorem gap_core {A B C far near : Int} (hC : 0 ≤ C) (hB : 0 ≤ B) (h4 : (C - A - B) * (C - A - B) ≤ 4 * (A * B)) (h1 : far ≤ A) (h2 : B ≤ near) (h3 : near < far) (t : 0 < far + near - C) :
    (far + near - C) * (far + near - C) ≤ 4 * (far * near) := by
  have id : ∀ u v : Int, 4 * (u * v) - (u + v - C) * (u + v - C) = 2 * (C * (u + v)) - (u - v) * (u - v) - C * C := fun u v => by
    simp only [Int.add_mul, Int.sub_mul, Int.mul_add, Int.mul_sub, Int.mul_comm v u, Int.mul_comm C u, Int.mul_comm C v]; omega
  have hAB : 0 ≤ 2 * (C * (A + B)) - (A - B) * (A - B) - C * C := by
    rw [← id A B]
    have : (C - A - B) * (C - A - B) = (A + B - C) * (A + B - C) := by
      rw [show C - A - B = -(A + B - C) by omega, Int.neg_mul_neg]
    omega
  have hn : 0 ≤ near := by omega
  have goal : 0 ≤ 2 * (C * (far + near)) - (far - near) * (far - near) - C * C := by
    rcases Int.lt_or_le C (far - near) with c | c
    · -- far from it: first from B to near, then from A to far
      have s1 : 0 ≤ 2 * (C * (A + near)) - (A - near) * (A - near) - C * C := by
        have m := Int.mul_nonneg (show 0 ≤ near - B by omega) (show 0 ≤ 2 * A - B - near + 2 * C by omega)
        have e : (near - B) * (2 * A - B - near + 2 * C) = (2 * (C * (A + near)) - (A - near) * (A - near)) - (2 * (C * (A + B)) - (A - B) * (A - B)) := by
          simp only [Int.add_mul, Int.sub_mul, Int.mul_add, Int.mul_sub, Int.mul_comm near A, Int.mul_comm B A, Int.mul_comm near B, Int.mul_comm C A, Int.mul_comm C B, Int.mul_comm C near, Int.mul_left_comm near 2, Int.mul_left_comm B 2]; omega
        omega
      have m := Int.mul_nonneg (show 0 ≤ A - far by omega) (show 0 ≤ A + far - 2 * near - 2 * C by omega)
      have e : (A - far) * (A + far - 2 * near - 2 * C) = (2 * (C * (far + near)) - (far - near) * (far - near)) - (2 * (C * (A + near)) - (A - near) * (A - near)) := by
        simp only [Int.add_mul, Int.sub_mul, Int.mul_add, Int.mul_sub, Int.mul_comm near A, Int.mul_comm far A, Int.mul_comm near far, Int.mul_comm C A, Int.mul_comm C far, Int.mul_comm C near, Int.mul_left_comm A 2, Int.mul_left_comm far 2]; omega
      omega
    · have m1 := Int.mul_nonneg hC (show 0 ≤ far + 3 * near - C by omega)
      have m2 := Int.mul_nonneg (show 0 ≤ far - near by omega) (show 0 ≤ C - (far - near) by omega)
      have e1 : C * (far + 3 * near - C) = 2 * (C * (far + near)) - C * (far - near) - C * C := by
        simp only [Int.mul_add, Int.mul_sub, Int.mul_left_comm C 3]; omega
      have e2 : (far - near) * (C - (far - near)) = C * (far - near) - (far - near) * (far - near) := by
        rw [Int.mul_sub, Int.mul_comm (far - near) C]
      omega
  have := id far near
  omega
theorem le_root {t n : Int} (h0 : 0 ≤ t) (h : t * t ≤ n) : t ≤ rootZ n := by
  obtain ⟨s1, s2⟩ := rootZ_spec (Int.le_trans (Int.mul_nonneg h0 h0) h)
  have := sq_lt h0 (show 0 ≤ rootZ n + 1 by have := rootZ_nn n; omega) (Int.lt_of_le_of_lt h s2)
  omega
theorem root_le {t n : Int} (h0 : 0 ≤ t) (hn : 0 ≤ n) (h : n ≤ t * t) : rootZ n ≤ t := by
  obtain ⟨s1, s2⟩ := rootZ_spec hn
  rcases Int.lt_or_le t (rootZ n) with z | z
  · have := Int.mul_lt_mul z (Int.le_of_lt z)
    exfalso
    have h3 : t * t < rootZ n * rootZ n := by
      have a := Int.mul_le_mul_of_nonneg_left (Int.le_of_lt z) h0
      have b := Int.mul_lt_mul_of_pos_right z (show 0 < rootZ n by omega)
      omega
    omega
  · exact z
theorem gap_nn {far near : Int} (h : 0 ≤ near) : 0 ≤ gapZ far near := by
  unfold gapZ
  split
  · exact Int.le_refl 0
  · rename_i h1
    have hf : 0 ≤ far := by omega
    have e : 4 * far * near = 4 * (far * near) := Int.mul_assoc _ _ _
    have p := Int.mul_nonneg hf h
    have : rootZ (4 * far * near) ≤ far + near := by
      refine root_le (by omega) (by omega) ?_
      have s := sq_nn (far - near)
      have e2 : (far + near) * (far + near) = (far - near) * (far - near) + 4 * (far * near) := by
        simp only [Int.add_mul, Int.sub_mul, Int.mul_add, Int.mul_sub, Int.mul_comm near far]; omega
      omega
    omega
theorem gap_safe {a b c : List Int} {far near : Int} (e1 : a.length = b.length) (e2 : b.length = c.length) (h1 : far ≤ distZ a b) (h2 : distZ b c ≤ near) : gapZ far near ≤ distZ a c := by
  have hC := distZ_nn a c
  have hB := distZ_nn b c
  unfold gapZ
  split
  · exact hC
  · rename_i h3
    obtain ⟨x, y, e0, eA, eB, eC⟩ := dist3 a b c e1 e2
    have cs := cauchy e0
    have e : 4 * far * near = 4 * (far * near) := Int.mul_assoc _ _ _
    have p := Int.mul_nonneg (show 0 ≤ far by omega) (show 0 ≤ near by omega)
    rcases Int.lt_or_le 0 (far + near - distZ a c) with t | t
    · have g := gap_core (A := distZ a b) (B := distZ b c) hC hB (by
        rw [eA, eB, eC]
        generalize innerZ x x = A at *
        generalize innerZ y y = B at *
        generalize innerZ x y = S at *
        rw [show A + B + 2 * S - A - B = 2 * S by omega]
        have : 2 * S * (2 * S) = 4 * (S * S) := by rw [Int.mul_assoc, Int.mul_left_comm S 2 S, ← Int.mul_assoc]; rfl
        omega) h1 h2 (by omega) t
      have := le_root (t := far + near - distZ a c) (n := 4 * far * near) (by omega) (by omega)
      omega
    · have := rootZ_nn (4 * far * near)
      omega

/-! ### data of ints -/
def dInts (ns : List Int) : List PyData := ns.map PyData.int
theorem dp_ints {K : PySem.W.Frag} {H : Hp} : ∀ ns : List Int, DpAll K H (ns.map V.int) (dInts ns)
  | [] => .nil
  | n :: ns => .cons (.int n) (dp_ints ns)
theorem lay_ints : ∀ ns : List Int, PyData.canLayAll0 (dInts ns) = true
  | [] => by simp only [dInts, List.map_nil, PyData.canLayAll0]
  | n :: ns => by
    have ih := lay_ints ns
    simp only [dInts, List.map_cons, PyData.canLayAll0, PyData.canLay0, Bool.true_and] at ih ⊢
    exact ih
theorem dep_ints : ∀ ns : List Int, PyData.depthAll (dInts ns) ≤ 1
  | [] => by simp only [dInts, List.map_nil, PyData.depthAll]; omega
  | n :: ns => by
    have ih := dep_ints ns
    simp only [dInts, List.map_cons, PyData.depthAll, PyData.depth] at ih ⊢
    omega
theorem shp_ints (ns : List Int) : SeqAt.shaped (.list (dInts ns)) = true := by
  unfold SeqAt.shaped
  rw [Bool.and_eq_true, decide_eq_true_eq]
  refine ⟨?_, ?_⟩
  · simp only [PyData.canLay0]; exact lay_ints ns
  · have := dep_ints ns
    simp only [PyData.depth]; omega
theorem shp_intsT (ns : List Int) : SeqAt.shaped (.tuple (dInts ns)) = true := by
  unfold SeqAt.shaped
  rw [Bool.and_eq_true, decide_eq_true_eq]
  refine ⟨?_, ?_⟩
  · simp only [PyData.canLay0]; exact lay_ints ns
  · have := dep_ints ns
    simp only [PyData.depth]; omega
theorem eqv_intsA : ∀ a b : List Int, PyData.eqvAll (dInts a) (dInts b) = decide (a = b)
  | [], [] => by simp only [dInts, List.map_nil, PyData.eqvAll]; rfl
  | [], _ :: _ => by simp only [dInts, List.map_nil, List.map_cons, PyData.eqvAll]; rfl
  | _ :: _, [] => by simp only [dInts, List.map_nil, List.map_cons, PyData.eqvAll]; rfl
  | x :: a, y :: b => by
    have ih := eqv_intsA a b
    simp only [dInts, List.map_cons, PyData.eqvAll, PyData.eqv] at ih ⊢
    rw [ih, Bool.eq_iff_iff]; simp
theorem eqv_ints (a b : List Int) : PyData.eqv (.list (dInts a)) (.list (dInts b)) = decide (a = b) := by
  simp only [PyData.eqv]; exact eqv_intsA a b
theorem z_neInts {K : PySem.W.Frag} {H : Hp} {Q : VK} {p r : Addr} {a b : List Int} (h1 : SqL K H p (a.map V.int)) (h2 : SqL K H r (b.map V.int)) (k : Q (.bl (!decide (a = b))) H) : uNe K (.ref p) (.ref r) H Q :=
  z_neD (.lst h1 (dp_ints a)) (.lst h2 (dp_ints b)) (shp_ints a) (shp_ints b) (by rw [eqv_ints]; exact k)
theorem z_eqInts {K : PySem.W.Frag} {H : Hp} {Q : VK} {p r : Addr} {a b : List Int} (h1 : SqL K H p (a.map V.int)) (h2 : SqL K H r (b.map V.int)) (k : Q (.bl (decide (a = b))) H) : uEq K (.ref p) (.ref r) H Q :=
  z_eqD (.lst h1 (dp_ints a)) (.lst h2 (dp_ints b)) (shp_ints a) (shp_ints b) (by rw [eqv_ints]; exact k)

/-! ### rows of ints in a list -/
inductive All2 {α β : Type} (R : α → β → Prop) : List α → List β → Prop
  | nil : All2 R [] []
  | cons {a : α} {b : β} {as : List α} {bs : List β} (h : R a b) (t : All2 R as bs) : All2 R (a :: as) (b :: bs)
def RowsIn (H : Hp) (ps : List Addr) (xss : List (List Int)) : Prop := All2 (fun q (xs : List Int) => H q = some (.lst (xs.map V.int))) ps xss
def RowsAt (H : Hp) (p : Addr) (xss : List (List Int)) : Prop := ∃ ps : List Addr, H p = some (.lst (ps.map V.ref)) ∧ RowsIn H ps xss
theorem RowsIn.mono {H H' : Hp} {ps : List Addr} {xss : List (List Int)} (r : RowsIn H ps xss) (k : ∀ (q : Addr) (xs : List Int), H q = some (.lst (xs.map V.int)) → H' q = some (.lst (xs.map V.int))) : RowsIn H' ps xss := by
  unfold RowsIn at *
  induction r with
  | nil => exact .nil
  | cons h t ih => exact .cons (k _ _ h) ih
theorem RowsIn.exd {H H' : Hp} {ps : List Addr} {xss : List (List Int)} (x : ExD H H') (r : RowsIn H ps xss) : RowsIn H' ps xss := r.mono fun q xs e => x _ _ NotSt.ints e
theorem RowsIn.same {H H' : Hp} {ps : List Addr} {xss : List (List Int)} (x : Same H H') (r : RowsIn H ps xss) : RowsIn H' ps xss := r.mono fun q xs e => x _ _ e
theorem RowsIn.new {H : Hp} {ps : List Addr} {xss : List (List Int)} {p : Addr} {o : HO} (h : H p = none) (r : RowsIn H ps xss) : RowsIn (upd H p o) ps xss := r.mono fun q xs e => lk_new h e
theorem RowsIn.app {H : Hp} {ps : List Addr} {xss : List (List Int)} {q : Addr} {xs : List Int} (r : RowsIn H ps xss) (e : H q = some (.lst (xs.map V.int))) : RowsIn H (ps ++ [q]) (xss ++ [xs]) := by
  unfold RowsIn at *
  induction r with
  | nil => exact .cons e .nil
  | cons h t ih => exact .cons h ih
theorem RowsIn.mem {H : Hp} {ps : List Addr} {xss : List (List Int)} (r : RowsIn H ps xss) : ∀ q ∈ ps, ∃ xs : List Int, H q = some (.lst (xs.map V.int)) := by
  unfold RowsIn at r
  induction r with
  | nil => intro q h; cases h
  | cons h t ih =>
    intro q hq
    rcases List.mem_cons.mp hq with rfl | hq
    · exact ⟨_, h⟩
    · exact ih q hq
theorem RowsIn.ne {H : Hp} {ps : List Addr} {xss : List (List Int)} {p : Addr} (r : RowsIn H ps xss) (e : H p = some (.lst (ps.map V.ref))) : ∀ q ∈ ps, q ≠ p := by
  intro q hq z
  subst z
  obtain ⟨xs, h⟩ := r.mem q hq
  rw [e] at h
  cases ps with
  | nil => cases hq
  | cons a t => cases xs with
    | nil => cases Option.some.inj h
    | cons b u => have h := Option.some.inj h; injection h with h; injection h with h _; cases h
theorem RowsIn.put {H : Hp} {ps : List Addr} {xss : List (List Int)} {p : Addr} {o : HO} (r : RowsIn H ps xss) (n : ∀ q ∈ ps, q ≠ p) : RowsIn (upd H p o) ps xss := by
  unfold RowsIn at *
  induction r with
  | nil => exact .nil
  | cons h t ih => exact .cons (lk_ne (n _ (List.mem_cons_self ..)) h) (ih fun q hq => n q (List.mem_cons_of_mem _ hq))
theorem RowsIn.len {H : Hp} {ps : List Addr} {xss : List (List Int)} (r : RowsIn H ps xss) : ps.length = xss.length := by
  unfold RowsIn at r
  induction r with
  | nil => rfl
  | cons h t ih => simp [ih]
theorem RowsAt.exd {H H' : Hp} {p : Addr} {xss : List (List Int)} (x : ExD H H') (r : RowsAt H p xss) : RowsAt H' p xss := by
  obtain ⟨ps, e, r⟩ := r
  exact ⟨ps, x _ _ NotSt.refs e, RowsIn.exd x r⟩
theorem RowsAt.same {H H' : Hp} {p : Addr} {xss : List (List Int)} (x : Same H H') (r : RowsAt H p xss) : RowsAt H' p xss := by
  obtain ⟨ps, e, r⟩ := r
  exact ⟨ps, x _ _ e, RowsIn.same x r⟩
theorem RowsAt.new {H : Hp} {p q : Addr} {o : HO} {xss : List (List Int)} (h : H q = none) (r : RowsAt H p xss) : RowsAt (upd H q o) p xss := by
  obtain ⟨ps, e, r⟩ := r
  exact ⟨ps, lk_new h e, RowsIn.new h r⟩
theorem RowsIn.snoc {H : Hp} {p q : Addr} {xss : List (List Int)} {xs : List Int} {ps : List Addr} {o : HO} (e : H p = some (.lst (ps.map V.ref))) (r : RowsIn H ps xss) (f : H q = some (.lst (xs.map V.int))) (n : q ≠ p) :
    RowsIn (upd H p o) (ps ++ [q]) (xss ++ [xs]) := by
  refine RowsIn.put (RowsIn.app r f) fun a ha => ?_
  rcases List.mem_append.mp ha with h | h
  · exact RowsIn.ne r e a h
  · rw [List.mem_singleton.mp h]; exact n
theorem RowsAt.app {H : Hp} {p q : Addr} {xss : List (List Int)} {xs : List Int} {ps : List Addr} (e : H p = some (.lst (ps.map V.ref))) (r : RowsIn H ps xss) (f : H q = some (.lst (xs.map V.int))) (n : q ≠ p) :
    RowsAt (upd H p (.lst (ps.map V.ref ++ [.ref q]))) p (xss ++ [xs]) := by
  refine ⟨ps ++ [q], by rw [upd_same, List.map_append]; rfl, RowsIn.put (RowsIn.app r f) fun a ha => ?_⟩
  rcases List.mem_append.mp ha with h | h
  · exact RowsIn.ne r e a h
  · rw [List.mem_singleton.mp h]; exact n
/-! ### data of rows -/
def dRows (xss : List (List Int)) : List PyData := xss.map fun xs => .list (dInts xs)
theorem dp_rows {K : PySem.W.Frag} {H : Hp} {ps : List Addr} {xss : List (List Int)} (r : RowsIn H ps xss) : DpAll K H (ps.map V.ref) (dRows xss) := by
  unfold RowsIn at r
  induction r with
  | nil => exact .nil
  | cons h t ih => exact .cons (.lst (SqL.of h) (dp_ints _)) ih
theorem lay_rows : ∀ xss : List (List Int), PyData.canLayAll0 (dRows xss) = true
  | [] => by simp only [dRows, List.map_nil, PyData.canLayAll0]
  | xs :: r => by
    have ih := lay_rows r
    simp only [dRows, List.map_cons, PyData.canLayAll0, PyData.canLay0, Bool.and_eq_true] at ih ⊢
    exact ⟨lay_ints xs, ih⟩
theorem dep_rows : ∀ xss : List (List Int), PyData.depthAll (dRows xss) ≤ 2
  | [] => by simp only [dRows, List.map_nil, PyData.depthAll]; omega
  | xs :: r => by
    have ih := dep_rows r
    have h := dep_ints xs
    simp only [dRows, List.map_cons, PyData.depthAll, PyData.depth] at ih ⊢
    omega
theorem shp_rows (xss : List (List Int)) : SeqAt.shaped (.list (dRows xss)) = true := by
  unfold SeqAt.shaped
  rw [Bool.and_eq_true, decide_eq_true_eq]
  refine ⟨?_, ?_⟩
  · simp only [PyData.canLay0]; exact lay_rows xss
  · have := dep_rows xss
    simp only [PyData.depth]; omega
theorem eqv_rowsA : ∀ a b : List (List Int), PyData.eqvAll (dRows a) (dRows b) = decide (a = b)
  | [], [] => by simp only [dRows, List.map_nil, PyData.eqvAll]; rfl
  | [], _ :: _ => by simp only [dRows, List.map_nil, List.map_cons, PyData.eqvAll]; rfl
  | _ :: _, [] => by simp only [dRows, List.map_nil, List.map_cons, PyData.eqvAll]; rfl
  | x :: a, y :: b => by
    have ih := eqv_rowsA a b
    have h := eqv_ints x y
    simp only [dRows, List.map_cons, PyData.eqvAll] at ih ⊢
    rw [ih, h, Bool.eq_iff_iff]; simp
theorem z_neRows {K : PySem.W.Frag} {H : Hp} {Q : VK} {p r : Addr} {a b : List (List Int)} (h1 : RowsAt H p a) (h2 : RowsAt H r b) (k : Q (.bl (!decide (a = b))) H) : uNe K (.ref p) (.ref r) H Q := by
  obtain ⟨ps, e1, r1⟩ := h1
  obtain ⟨qs, e2, r2⟩ := h2
  exact z_neD (.lst (SqL.of e1) (dp_rows r1)) (.lst (SqL.of e2) (dp_rows r2)) (shp_rows a) (shp_rows b) (by simp only [PyData.eqv]; rw [eqv_rowsA]; exact k)
theorem z_eqRows {K : PySem.W.Frag} {H : Hp} {Q : VK} {p r : Addr} {a b : List (List Int)} (h1 : RowsAt H p a) (h2 : RowsAt H r b) (k : Q (.bl (decide (a = b))) H) : uEq K (.ref p) (.ref r) H Q := by
  obtain ⟨ps, e1, r1⟩ := h1
  obtain ⟨qs, e2, r2⟩ := h2
  exact z_eqD (.lst (SqL.of e1) (dp_rows r1)) (.lst (SqL.of e2) (dp_rows r2)) (shp_rows a) (shp_rows b) (by simp only [PyData.eqv]; rw [eqv_rowsA]; exact k)
theorem Same.put {H H' : Hp} {p : Addr} {o : HO} (h : H p = none) (x : Same H H') : Same H (upd H' p o) := fun a u e => lk_ne (ne_of_none e h) (x a u e)

/-! ### sums and blocks in plain -/
def sumZ (xs : List Int) : Int := xs.foldl (fun s n => (s * 257 + n + 1) % 4294967291) 0
theorem sumZ_take {xs : List Int} {i : Nat} (h : i < xs.length) : sumZ (xs.take (i + 1)) = (sumZ (xs.take i) * 257 + xs.getD i 0 + 1) % 4294967291 := by
  unfold sumZ
  rw [List.take_succ, List.foldl_append, List.getElem?_eq_getElem h, List.getD_eq_getElem?_getD, List.getElem?_eq_getElem h]
  rfl
def readW : List Int → List (List Int)
  | n :: s :: rest => if 0 ≤ n ∧ n ≤ rest.length then if sumZ (rest.take n.toNat) = s then rest.take n.toNat :: readW (rest.drop n.toNat) else [] else []
  | _ => []
termination_by l => l.length
decreasing_by simp; omega
theorem readW_cons (n s : Int) (rest : List Int) : readW (n :: s :: rest) = if 0 ≤ n ∧ n ≤ rest.length then if sumZ (rest.take n.toNat) = s then rest.take n.toNat :: readW (rest.drop n.toNat) else [] else [] := by
  rw [readW]
theorem readW_short {l : List Int} (h : l.length < 2) : readW l = [] := by
  cases l with
  | nil => rw [readW]; intros; contradiction
  | cons a t => cases t with
    | nil => rw [readW]; intro _ _ _ z; cases z
    | cons b u => simp at h; omega
def blkZ (xs : List Int) : List Int := (xs.length : Int) :: sumZ xs :: xs
/-- reading at a place -/
theorem read_stop {xs : List Int} {a : Nat} (h : xs.length < a + 2 ∨ xs.getD a 0 < 0 ∨ (xs.length : Int) < a + 2 + xs.getD a 0) : readW (xs.drop a) = [] := by
  by_cases hl : xs.length < a + 2
  · exact readW_short (by rw [List.length_drop]; omega)
  rw [List.drop_eq_getElem_cons (by omega : a < xs.length), List.drop_eq_getElem_cons (by omega : a + 1 < xs.length), readW_cons, if_neg]
  have e : xs.getD a 0 = xs[a]'(by omega) := by rw [List.getD_eq_getElem?_getD, List.getElem?_eq_getElem (by omega : a < xs.length)]; rfl
  rw [e] at h
  rw [List.length_drop]
  omega
theorem read_go {xs : List Int} {a : Nat} {n : Int} (hl : a + 2 ≤ xs.length) (e : xs.getD a 0 = n) (h0 : 0 ≤ n) (h1 : a + 2 + n ≤ (xs.length : Int)) :
    readW (xs.drop a) = if sumZ ((xs.drop (a + 2)).take n.toNat) = xs.getD (a + 1) 0 then (xs.drop (a + 2)).take n.toNat :: readW (xs.drop (a + 2 + n.toNat)) else [] := by
  have e1 : xs.getD a 0 = xs[a]'(by omega) := by rw [List.getD_eq_getElem?_getD, List.getElem?_eq_getElem (by omega : a < xs.length)]; rfl
  have e2 : xs.getD (a + 1) 0 = xs[a + 1]'(by omega) := by rw [List.getD_eq_getElem?_getD, List.getElem?_eq_getElem (by omega : a + 1 < xs.length)]; rfl
  rw [List.drop_eq_getElem_cons (by omega : a < xs.length), List.drop_eq_getElem_cons (by omega : a + 1 < xs.length), readW_cons, ← e1, e, if_pos (by rw [List.length_drop]; omega), e2, List.drop_drop]
abbrev N_sum_of : List Str := ["numbers", "state", "number"]
-- sum_of(numbers): slots 0:numbers 1:state 2:number
def T_sum_of_b1 (K : PySem.W.Frag) : TS :=
    (tAsg (tOp uMod (tOp (uAdd K) (tOp (uAdd K) (tOp uMul (tVar 1) (tC (.int 257))) (tVar 2)) (tC (.int 1))) (tC (.int 4294967291))) (gName 1))
def T_sum_of (K : PySem.W.Frag) : TS :=
    (tSeq (tAsg (tC (.int 0)) (gName 1))
    (tSeq (tFor (iSq K (tVar 0)) (gName 2) (T_sum_of_b1 K))
    (tRet (tVar 1))))
def sp_sum_of (K : PySem.W.Frag) : Sp := fun vs H Q _ => ∃ a ns, vs = [.ref a] ∧ SqL K H a (ns.map V.int) ∧ Q (.int (sumZ ns)) H
theorem r_sum_of {K : PySem.W.Frag} {a : Addr} {ns : List Int} {H : Hp} {D : Ends} (hS : SqL K H a (ns.map V.int)) (q : D.rt (.int (sumZ ns)) H) : T_sum_of K D [some (.ref a), none, none] H := by
  unfold T_sum_of
  walk_at "zz"
  refine z_forL hS (fun i σ H' => H' = H ∧ ∃ w, σ = [some (.ref a), some (.int (sumZ (ns.take i))), w]) ⟨rfl, _, rfl⟩ (fun i σ' H' hi h => by rw [h.1]; exact hS) ?_ ?_
  · rintro i x σ' H' hx ⟨rfl, w, rfl⟩
    obtain ⟨hi, rfl⟩ := map_int hx
    unfold T_sum_of_b1
    walk_at "zz"
    exact ⟨rfl, _, by rw [sumZ_take hi]⟩
  · rintro σ' H' ⟨rfl, w, rfl⟩
    rw [List.length_map, List.take_length]
    walk_at "zz"
    exact q
theorem sum_of_c {K : PySem.W.Frag} {a : Addr} {ns : List Int} {H : Hp} {Q : VK} {E : XK} (hS : SqL K H a (ns.map V.int)) (q : Q (.int (sumZ ns)) H) : sp_sum_of K [.ref a] H Q E := ⟨a, ns, rfl, hS, q⟩
theorem w_sum_of {K : PySem.W.Frag} : Wd (T_sum_of K) N_sum_of 1 (sp_sum_of K) := fun vs H Q E h => by
  obtain ⟨a, ns, rfl, hS, q⟩ := h
  exact ⟨rfl, r_sum_of hS q⟩
abbrev N_block_of : List Str := ["numbers"]
-- block_of(numbers): slots 0:numbers
def T_block_of (K : PySem.W.Frag) : TS :=
    (tRet (tOp (uAdd K) (tLst (tCons (tCB (uLen K) (tCons (tVar 0) tNil)) (tCons (tCal (sp_sum_of K) (tCons (tVar 0) tNil)) tNil))) (tCB (uList K) (tCons (tVar 0) tNil))))
def sp_block_of (K : PySem.W.Frag) : Sp := fun vs H Q _ => ∃ a ns, vs = [.ref a] ∧ SqL K H a (ns.map V.int) ∧ ns.length ≤ 10000 ∧ ∀ p H', H p = none → Same H H' → H' p = some (.lst ((blkZ ns).map V.int)) → Q (.ref p) H'
theorem r_block_of {K : PySem.W.Frag} {a : Addr} {ns : List Int} {H : Hp} {D : Ends} (hS : SqL K H a (ns.map V.int)) (hl : ns.length ≤ 10000) (q : ∀ p H', H p = none → Same H H' → H' p = some (.lst ((blkZ ns).map V.int)) → D.rt (.ref p) H') : T_block_of K D [some (.ref a)] H := by
  unfold T_block_of
  walk_at "zz"
  refine sum_of_c hS ?_
  walk_at "zz"
  rename_i l hl1 l2 hl2
  refine z_addL (by walk_at "lk") upd_same (by simp; omega) ?_
  intro r hr
  have n1 := (Same.new hl2 (Same.new hl1 (Same.refl H))).free hr
  refine q r _ n1 (Same.new hr (Same.new hl2 (Same.new hl1 (Same.refl H)))) ?_
  rw [upd_same]
  simp [blkZ]
theorem block_of_c {K : PySem.W.Frag} {a : Addr} {ns : List Int} {H : Hp} {Q : VK} {E : XK} (hS : SqL K H a (ns.map V.int)) (hl : ns.length ≤ 10000) (q : ∀ p H', H p = none → Same H H' → H' p = some (.lst ((blkZ ns).map V.int)) → Q (.ref p) H') : sp_block_of K [.ref a] H Q E := ⟨a, ns, rfl, hS, hl, q⟩
theorem w_block_of {K : PySem.W.Frag} : Wd (T_block_of K) N_block_of 1 (sp_block_of K) := fun vs H Q E h => by
  obtain ⟨a, ns, rfl, hS, hl, q⟩ := h
  exact ⟨rfl, r_block_of hS hl q⟩
abbrev N_read_blocks : List Str := ["numbers", "blocks", "at", "stop", "block"]
-- read_blocks(numbers): slots 0:numbers 1:blocks 2:at 3:stop 4:block
def T_read_blocks_b1 (K : PySem.W.Frag) : TS :=
    (tSeq (tAsg (tOp (uAdd K) (tOp (uAdd K) (tVar 2) (tC (.int 2))) (tOp (uIx K) (tVar 0) (tVar 2))) (gName 3))
    (tSeq (tAsg (tCB (uList K) (tCons (tSl (uSl K) (tVar 0) (tPart (tOp (uAdd K) (tVar 2) (tC (.int 2)))) (tPart (tVar 3))) tNil)) (gName 4))
    (tSeq (tIfS (tTest (tOp (uNe K) (tCal (sp_sum_of K) (tCons (tVar 4) tNil)) (tOp (uIx K) (tVar 0) (tOp (uAdd K) (tVar 2) (tC (.int 1)))))) (tRet (tVar 1)) tNext)
    (tSeq (tDrop (tBM K "list" rAppend (tVar 1) (tCons (tVar 4) tNil)))
    (tAsg (tVar 3) (gName 2))))))
def T_read_blocks (K : PySem.W.Frag) : TS :=
    (tSeq (tAsg (tLst tNil) (gName 1))
    (tSeq (tAsg (tC (.int 0)) (gName 2))
    (tSeq (tWhile (tAnd (tTest (tOp uLe (tOp (uAdd K) (tVar 2) (tC (.int 2))) (tCB (uLen K) (tCons (tVar 0) tNil)))) (tTest (tChain uLe uLe (tC (.int 0)) (tOp (uIx K) (tVar 0) (tVar 2)) (tOp uSub (tOp uSub (tCB (uLen K) (tCons (tVar 0) tNil)) (tVar 2)) (tC (.int 2)))))) (T_read_blocks_b1 K))
    (tRet (tVar 1)))))
def sp_read_blocks (K : PySem.W.Frag) : Sp := fun vs H Q _ => ∃ a ns, vs = [.ref a] ∧ SqL K H a (ns.map V.int) ∧ ns.length ≤ 10000 ∧ ∀ p H', H p = none → Same H H' → RowsAt H' p (readW ns) → Q (.ref p) H'
theorem r_read_blocks {K : PySem.W.Frag} {a : Addr} {ns : List Int} {H : Hp} {D : Ends} (hS : SqL K H a (ns.map V.int)) (hl : ns.length ≤ 10000) (q : ∀ p H', H p = none → Same H H' → RowsAt H' p (readW ns) → D.rt (.ref p) H') : T_read_blocks K D [some (.ref a), none, none, none, none] H := by
  unfold T_read_blocks
  walk_at "zz"
  rename_i p hp
  refine z_while (fun m σ H' => ∃ (at_ : Nat) (v3 v4 : Option V) (ps : List Addr) (xss : List (List Int)), σ = [some (.ref a), some (.ref p), some (.int at_), v3, v4] ∧ m + at_ = ns.length ∧ Same H H' ∧ H' p = some (.lst (ps.map V.ref)) ∧ RowsIn H' ps xss ∧ ps.length ≤ at_ ∧ xss ++ readW (ns.drop at_) = readW ns) ns.length
    ⟨0, none, none, [], [], rfl, rfl, Same.new hp (Same.refl H), upd_same, .nil, Nat.le_refl _, rfl⟩ ?_
  rintro m σ H1 ⟨k, v3, v4, ps, xss, rfl, hm, sm, ep, rw_, lps, er⟩
  have hS1 := Same.seq sm hS
  walk_at "zz"
  refine z_itD (fun c1 => ?_) (fun c1 => ?_)
  rotate_left
  · walk_at "zz"
    refine q p H1 hp sm ⟨ps, ep, ?_⟩
    rw [← er, read_stop (.inl (by rw [List.length_map] at c1; omega)), List.append_nil]
    exact rw_
  rw [List.length_map] at c1
  have hk : k + 2 ≤ ns.length := by omega
  walk_at "zz"
  refine z_ix (.inl hS1) (at_int (by omega) (by omega)) ?_
  rw [Int.toNat_natCast]
  generalize en : ns.getD k 0 = n
  walk_at "zz"
  refine z_itD (fun c2 => ?_) (fun c2 => ?_)
  rotate_left
  · walk_at "zz"
    refine q p H1 hp sm ⟨ps, ep, ?_⟩
    rw [← er, read_stop (.inr (.inl (by omega))), List.append_nil]
    exact rw_
  walk_at "zz"
  refine z_itD (fun c3 => ?_) (fun c3 => ?_)
  rotate_left
  · walk_at "zz"
    rw [List.length_map] at c3
    refine q p H1 hp sm ⟨ps, ep, ?_⟩
    rw [← er, read_stop (.inr (.inr (by omega))), List.append_nil]
    exact rw_
  rw [List.length_map] at c3
  refine z_turn ?_
  unfold T_read_blocks_b1
  walk_at "zz"
  refine z_ix (.inl hS1) (at_int (by omega) (by omega)) ?_
  rw [Int.toNat_natCast, en]
  walk_at "zz"
  rename_i l1 h1 l2 h2
  have ec : cutV (List.map V.int ns) (some (↑k + 2)) (some (↑k + 2 + n)) = ((ns.drop (k + 2)).take n.toNat).map V.int := by
    rw [cutV_ints, sIx_pos (by omega), sIx_pos (by omega), show min (((k : Int) + 2).toNat) ns.length = k + 2 by omega, show min (((k : Int) + 2 + n).toNat) ns.length - (k + 2) = n.toNat by omega]
  have go := read_go hk en c2 (by omega)
  rw [ec] at h2 ⊢
  generalize eb : (ns.drop (k + 2)).take n.toNat = b at *
  refine sum_of_c (SqL.of upd_same) ?_
  walk_at "zz"
  refine z_ix (.inl (sqL_new h2 (sqL_new h1 hS1))) (at_int (by omega) (by omega)) ?_
  rw [show ((k : Int) + 1).toNat = k + 1 by omega]
  walk_at "zz"
  have sm2 := Same.new (o := .lst (b.map V.int)) h2 (Same.new (o := .lst (b.map V.int)) h1 sm)
  have rw2 := RowsIn.new (o := .lst (b.map V.int)) h2 (RowsIn.new (o := .lst (b.map V.int)) h1 rw_)
  have ep2 : upd (upd H1 l1 (.lst (b.map V.int))) l2 (.lst (b.map V.int)) p = some (.lst (ps.map V.ref)) := lk_new h2 (lk_new h1 ep)
  refine z_itN (fun c4 => ?_) (fun c4 => ?_)
  · walk_at "zz"
    refine q p _ hp sm2 ⟨ps, ep2, ?_⟩
    rw [← er, go, if_neg c4, List.append_nil]
    exact rw2
  · rw [if_pos c4] at go
    walk_at "zz"
    refine z_app ep2 (by rw [List.length_map]; omega) ?_
    walk_at "zz"
    have rw3 := RowsIn.snoc (o := .lst (ps.map V.ref ++ [.ref l2])) ep2 rw2 (upd_same (H := upd H1 l1 (.lst (b.map V.int))) (a := l2) (o := .lst (b.map V.int))) (ne_of_none (lk_new h1 ep) h2).symm
    refine ⟨m - 2 - n.toNat, by omega, k + 2 + n.toNat, some (.int (k + 2 + n)), some (.ref l2), ps ++ [l2], xss ++ [b], ?_, by omega, Same.put hp sm2, ?_, ?_, ?_, ?_⟩
    · rw [show (((k + 2 + n.toNat : Nat)) : Int) = (k : Int) + 2 + n by omega]
    · rw [upd_same, List.map_append]; rfl
    · exact rw3
    · simp; omega
    · rw [← er, go, List.append_assoc]; rfl
theorem read_blocks_c {K : PySem.W.Frag} {a : Addr} {ns : List Int} {H : Hp} {Q : VK} {E : XK} (hS : SqL K H a (ns.map V.int)) (hl : ns.length ≤ 10000) (q : ∀ p H', H p = none → Same H H' → RowsAt H' p (readW ns) → Q (.ref p) H') : sp_read_blocks K [.ref a] H Q E := ⟨a, ns, rfl, hS, hl, q⟩
theorem w_read_blocks {K : PySem.W.Frag} : Wd (T_read_blocks K) N_read_blocks 1 (sp_read_blocks K) := fun vs H Q E h => by
  obtain ⟨a, ns, rfl, hS, hl, q⟩ := h
  exact ⟨rfl, r_read_blocks hS hl q⟩

abbrev N_law_sum : List Str := ["_law_numbers", "_law_total", "_law_number"]
-- _law_sum(_law_numbers): slots 0:_law_numbers 1:_law_total 2:_law_number
def T_law_sum_b1 (K : PySem.W.Frag) : TS :=
    (tAsg (tOp uMod (tOp (uAdd K) (tOp (uAdd K) (tOp uMul (tVar 1) (tC (.int 257))) (tVar 2)) (tC (.int 1))) (tC (.int 4294967291))) (gName 1))
def T_law_sum (K : PySem.W.Frag) : TS :=
    (tSeq (tAsg (tC (.int 0)) (gName 1))
    (tSeq (tFor (iSq K (tVar 0)) (gName 2) (T_law_sum_b1 K))
    (tRet (tVar 1))))
def sp_law_sum (K : PySem.W.Frag) : Sp := fun vs H Q _ => ∃ a ns, vs = [.ref a] ∧ SqL K H a (ns.map V.int) ∧ Q (.int (sumZ ns)) H
theorem r_law_sum {K : PySem.W.Frag} {a : Addr} {ns : List Int} {H : Hp} {D : Ends} (hS : SqL K H a (ns.map V.int)) (q : D.rt (.int (sumZ ns)) H) : T_law_sum K D [some (.ref a), none, none] H := by
  unfold T_law_sum
  walk_at "zz"
  refine z_forL hS (fun i σ H' => H' = H ∧ ∃ w, σ = [some (.ref a), some (.int (sumZ (ns.take i))), w]) ⟨rfl, _, rfl⟩ (fun i σ' H' hi h => by rw [h.1]; exact hS) ?_ ?_
  · rintro i x σ' H' hx ⟨rfl, w, rfl⟩
    obtain ⟨hi, rfl⟩ := map_int hx
    unfold T_law_sum_b1
    walk_at "zz"
    exact ⟨rfl, _, by rw [sumZ_take hi]⟩
  · rintro σ' H' ⟨rfl, w, rfl⟩
    rw [List.length_map, List.take_length]
    walk_at "zz"
    exact q
theorem law_sum_c {K : PySem.W.Frag} {a : Addr} {ns : List Int} {H : Hp} {Q : VK} {E : XK} (hS : SqL K H a (ns.map V.int)) (q : Q (.int (sumZ ns)) H) : sp_law_sum K [.ref a] H Q E := ⟨a, ns, rfl, hS, q⟩
theorem w_law_sum {K : PySem.W.Frag} : Wd (T_law_sum K) N_law_sum 1 (sp_law_sum K) := fun vs H Q E h => by
  obtain ⟨a, ns, rfl, hS, q⟩ := h
  exact ⟨rfl, r_law_sum hS q⟩
abbrev N_law_due : List Str := ["_law_numbers", "_law_blocks", "_law_at", "_law_turn", "_law_block"]
-- _law_due(_law_numbers): slots 0:_law_numbers 1:_law_blocks 2:_law_at 3:_law_turn 4:_law_block
def T_law_due_b1 (K : PySem.W.Frag) : TS :=
    (tSeq (tIfS (tOr (tTest (tOp uGt (tOp (uAdd K) (tVar 2) (tC (.int 2))) (tCB (uLen K) (tCons (tVar 0) tNil)))) (tOr (tTest (tOp (uLt K) (tOp (uIx K) (tVar 0) (tVar 2)) (tC (.int 0)))) (tTest (tOp uGt (tOp (uAdd K) (tOp (uAdd K) (tVar 2) (tC (.int 2))) (tOp (uIx K) (tVar 0) (tVar 2))) (tCB (uLen K) (tCons (tVar 0) tNil)))))) tBreak tNext)
    (tSeq (tAsg (tSl (uSl K) (tVar 0) (tPart (tOp (uAdd K) (tVar 2) (tC (.int 2)))) (tPart (tOp (uAdd K) (tOp (uAdd K) (tVar 2) (tC (.int 2))) (tOp (uIx K) (tVar 0) (tVar 2))))) (gName 4))
    (tSeq (tIfS (tTest (tOp (uNe K) (tCal (sp_law_sum K) (tCons (tVar 4) tNil)) (tOp (uIx K) (tVar 0) (tOp (uAdd K) (tVar 2) (tC (.int 1)))))) tBreak tNext)
    (tSeq (tDrop (tBM K "list" rAppend (tVar 1) (tCons (tVar 4) tNil)))
    (tAsg (tOp (uAdd K) (tOp (uAdd K) (tVar 2) (tC (.int 2))) (tOp (uIx K) (tVar 0) (tVar 2))) (gName 2))))))
def T_law_due (K : PySem.W.Frag) : TS :=
    (tSeq (tAsg (tLst tNil) (gName 1))
    (tSeq (tAsg (tC (.int 0)) (gName 2))
    (tCut (tFor (iRng1 (tCons (tCB (uLen K) (tCons (tVar 0) tNil)) tNil)) (gName 3) (T_law_due_b1 K))
    (tRet (tVar 1)))))
def sp_law_due (K : PySem.W.Frag) : Sp := fun vs H Q _ => ∃ a ns, vs = [.ref a] ∧ SqL K H a (ns.map V.int) ∧ ns.length ≤ 10000 ∧ ∀ p H', H p = none → Same H H' → RowsAt H' p (readW ns) → Q (.ref p) H'
theorem r_law_due {K : PySem.W.Frag} {a : Addr} {ns : List Int} {H : Hp} {D : Ends} (hS : SqL K H a (ns.map V.int)) (hl : ns.length ≤ 10000) (q : ∀ p H', H p = none → Same H H' → RowsAt H' p (readW ns) → D.rt (.ref p) H') : T_law_due K D [some (.ref a), none, none, none, none] H := by
  unfold T_law_due
  walk_at "zz"
  rename_i p hp
  refine z_cut (fun σ H' => ∃ v2 v3 v4, σ = [some (.ref a), some (.ref p), v2, v3, v4] ∧ Same H H' ∧ RowsAt H' p (readW ns)) ?_ ?_
  rotate_left
  · rintro σ H' ⟨v2, v3, v4, rfl, sm, r⟩
    walk_at "zz"
    exact q p H' hp sm r
  walk_at "zz"
  rw [List.length_map]
  refine z_rng1 (by omega) ?_ (by omega)
  rw [Int.toNat_natCast]
  refine z_rng (fun i σ H' => ∃ (at_ : Nat) (v3 v4 : Option V) (ps : List Addr) (xss : List (List Int)), σ = [some (.ref a), some (.ref p), some (.int at_), v3, v4] ∧ at_ ≤ ns.length ∧ i ≤ at_ ∧ Same H H' ∧ H' p = some (.lst (ps.map V.ref)) ∧ RowsIn H' ps xss ∧ ps.length ≤ at_ ∧ xss ++ readW (ns.drop at_) = readW ns)
    ⟨0, none, none, [], [], rfl, by omega, by omega, Same.new hp (Same.refl H), upd_same, .nil, Nat.le_refl _, rfl⟩ ?_ ?_
  rotate_left
  · rintro σ H' ⟨k, v3, v4, ps, xss, rfl, k1, k2, sm, ep, r, lps, er⟩
    refine ⟨_, _, _, rfl, sm, ps, ep, ?_⟩
    rw [← er, readW_short (by rw [List.length_drop]; omega), List.append_nil]
    exact r
  rintro i σ H1 hi ⟨k, v3, v4, ps, xss, rfl, k1, k2, sm, ep, rw_, lps, er⟩
  have hS1 := Same.seq sm hS
  unfold T_law_due_b1
  walk_at "zz"
  refine z_itD (fun c1 => ?_) (fun c1 => ?_)
  · walk_at "zz"
    rw [List.length_map] at c1
    refine ⟨_, _, _, rfl, sm, ps, ep, ?_⟩
    rw [← er, read_stop (.inl (by omega)), List.append_nil]
    exact rw_
  rw [List.length_map] at c1
  have hk : k + 2 ≤ ns.length := by omega
  walk_at "zz"
  refine z_ix (.inl hS1) (at_int (by omega) (by omega)) ?_
  rw [Int.toNat_natCast]
  generalize en : ns.getD k 0 = n
  walk_at "zz"
  refine z_itD (fun c2 => ?_) (fun c2 => ?_)
  · walk_at "zz"
    refine ⟨_, _, _, rfl, sm, ps, ep, ?_⟩
    rw [← er, read_stop (.inr (.inl (by omega))), List.append_nil]
    exact rw_
  walk_at "zz"
  refine z_ix (.inl hS1) (at_int (by omega) (by omega)) ?_
  rw [Int.toNat_natCast, en]
  walk_at "zz"
  refine z_itD (fun c3 => ?_) (fun c3 => ?_)
  · walk_at "zz"
    rw [List.length_map] at c3
    refine ⟨_, _, _, rfl, sm, ps, ep, ?_⟩
    rw [← er, read_stop (.inr (.inr (by omega))), List.append_nil]
    exact rw_
  rw [List.length_map] at c3
  walk_at "zz"
  refine z_ix (.inl hS1) (at_int (by omega) (by omega)) ?_
  rw [Int.toNat_natCast, en]
  walk_at "zz"
  rename_i l2 h2
  have ec : cutV (List.map V.int ns) (some (↑k + 2)) (some (↑k + 2 + n)) = ((ns.drop (k + 2)).take n.toNat).map V.int := by
    rw [cutV_ints, sIx_pos (by omega), sIx_pos (by omega), show min (((k : Int) + 2).toNat) ns.length = k + 2 by omega, show min (((k : Int) + 2 + n).toNat) ns.length - (k + 2) = n.toNat by omega]
  have go := read_go hk en (by omega) (by omega)
  rw [ec]
  generalize eb : (ns.drop (k + 2)).take n.toNat = b at *
  refine law_sum_c (SqL.of upd_same) ?_
  walk_at "zz"
  refine z_ix (.inl (sqL_new h2 hS1)) (at_int (by omega) (by omega)) ?_
  rw [show ((k : Int) + 1).toNat = k + 1 by omega]
  walk_at "zz"
  have sm2 := Same.new (o := .lst (b.map V.int)) h2 sm
  have rw2 := RowsIn.new (o := .lst (b.map V.int)) h2 rw_
  have ep2 : upd H1 l2 (.lst (b.map V.int)) p = some (.lst (ps.map V.ref)) := lk_new h2 ep
  refine z_itN (fun c4 => ?_) (fun c4 => ?_)
  · walk_at "zz"
    refine ⟨_, _, _, rfl, sm2, ps, ep2, ?_⟩
    rw [← er, go, if_neg c4, List.append_nil]
    exact rw2
  · rw [if_pos c4] at go
    walk_at "zz"
    refine z_app ep2 (by rw [List.length_map]; omega) ?_
    walk_at "zz"
    have rw3 := RowsIn.snoc (o := .lst (ps.map V.ref ++ [.ref l2])) ep2 rw2 (upd_same (H := H1) (a := l2) (o := .lst (b.map V.int))) (ne_of_none ep h2).symm
    have ne : p ≠ l2 := ne_of_none ep h2
    have hS2 : SqL K (upd (upd H1 l2 (.lst (b.map V.int))) p (.lst (ps.map V.ref ++ [.ref l2]))) a (ns.map V.int) := Same.seq (Same.put hp sm2) hS
    refine z_ix (.inl hS2) (at_int (by omega) (by omega)) ?_
    rw [Int.toNat_natCast, en]
    walk_at "zz"
    refine ⟨k + 2 + n.toNat, some (.int (0 + i)), some (.ref l2), ps ++ [l2], xss ++ [b], ?_, by omega, by omega, Same.put hp sm2, ?_, ?_, ?_, ?_⟩
    · rw [show (((k + 2 + n.toNat : Nat)) : Int) = (k : Int) + 2 + n by omega]
    · rw [upd_same, List.map_append]; rfl
    · exact rw3
    · simp; omega
    · rw [← er, go, List.append_assoc]; rfl
theorem law_due_c {K : PySem.W.Frag} {a : Addr} {ns : List Int} {H : Hp} {Q : VK} {E : XK} (hS : SqL K H a (ns.map V.int)) (hl : ns.length ≤ 10000) (q : ∀ p H', H p = none → Same H H' → RowsAt H' p (readW ns) → Q (.ref p) H') : sp_law_due K [.ref a] H Q E := ⟨a, ns, rfl, hS, hl, q⟩
theorem w_law_due {K : PySem.W.Frag} : Wd (T_law_due K) N_law_due 1 (sp_law_due K) := fun vs H Q E h => by
  obtain ⟨a, ns, rfl, hS, hl, q⟩ := h
  exact ⟨rfl, r_law_due hS hl q⟩

/-! ### the plain law -/
def wholeZ (xss : List (List Int)) : List Int := xss.flatMap blkZ
theorem read_blk (xs rest : List Int) : readW (blkZ xs ++ rest) = xs :: readW rest := by
  show readW ((xs.length : Int) :: sumZ xs :: (xs ++ rest)) = _
  rw [readW_cons, if_pos (by rw [List.length_append]; omega), Int.toNat_natCast, List.take_left, if_pos rfl, List.drop_left]
theorem read_whole : ∀ xss : List (List Int), readW (wholeZ xss) = xss
  | [] => readW_short (by simp [wholeZ])
  | x :: r => by
    have ih := read_whole r
    show readW (blkZ x ++ wholeZ r) = _
    rw [read_blk, ih]
theorem read_cut : ∀ (xss : List (List Int)) (c : Nat), readW ((wholeZ xss).take c) = xss.take (readW ((wholeZ xss).take c)).length
  | [], c => by rw [readW_short (by simp [wholeZ])]; rfl
  | x :: r, c => by
    have lb : (blkZ x).length = x.length + 2 := rfl
    show readW ((blkZ x ++ wholeZ r).take c) = (x :: r).take (readW ((blkZ x ++ wholeZ r).take c)).length
    by_cases h : c < x.length + 2
    · have e : readW ((blkZ x ++ wholeZ r).take c) = [] := by
        by_cases h2 : c < 2
        · exact readW_short (by rw [List.length_take]; omega)
        · obtain ⟨d, rfl⟩ : ∃ d, c = d + 2 := ⟨c - 2, by omega⟩
          show readW ((x.length : Int) :: sumZ x :: (x ++ wholeZ r).take d) = []
          rw [readW_cons, if_neg (by rw [List.length_take]; omega)]
      rw [e]; rfl
    · have e : (blkZ x ++ wholeZ r).take c = blkZ x ++ (wholeZ r).take (c - (x.length + 2)) := by
        rw [List.take_append, lb, List.take_of_length_le (by omega)]
      rw [e, read_blk]
      have ih := read_cut r (c - (x.length + 2))
      show x :: _ = x :: _
      rw [← ih]
theorem whole_len {xss : List (List Int)} {b : Nat} (h : ∀ xs ∈ xss, xs.length ≤ b) : (wholeZ xss).length ≤ (b + 2) * xss.length := by
  induction xss with
  | nil => simp [wholeZ]
  | cons x r ih =>
    have h1 := ih fun xs m => h xs (List.mem_cons_of_mem _ m)
    have h2 := h x (List.mem_cons_self ..)
    show (blkZ x ++ wholeZ r).length ≤ _
    have lb : (blkZ x).length = x.length + 2 := rfl
    rw [List.length_append, lb, List.length_cons, Nat.mul_succ]
    omega
theorem RowsIn.take {H : Hp} {ps : List Addr} {xss : List (List Int)} (r : RowsIn H ps xss) : ∀ k : Nat, RowsIn H (ps.take k) (xss.take k) := by
  unfold RowsIn at *
  induction r with
  | nil => intro k; rw [List.take_nil, List.take_nil]; exact .nil
  | cons h t ih => intro k; cases k with
    | zero => exact .nil
    | succ k => exact .cons h (ih k)
theorem whole_snoc (xss : List (List Int)) (x : List Int) : wholeZ (xss ++ [x]) = wholeZ xss ++ blkZ x := by simp [wholeZ]
abbrev N_law : List Str := ["_law_script", "_law_state", "_law_rows", "_law_whole", "_law_k", "_law_row_here", "_law_j", "_law_block", "_law_cut", "_law_actual", "_law_more", "_law_given"]
-- law(_law_script): slots 0:_law_script 1:_law_state 2:_law_rows 3:_law_whole 4:_law_k 5:_law_row_here 6:_law_j 7:_law_block 8:_law_cut 9:_law_actual 10:_law_more 11:_law_given
def T_law_b1 (K : PySem.W.Frag) : TS :=
    (tSeq (tAsg (tLc (iRng1 (tCons (tCal (sp_law_next K) (tCons (tVar 1) (tCons (tC (.int 6)) tNil))) tNil)) (gName 6) tYes (tOp uSub (tCal (sp_law_next K) (tCons (tVar 1) (tCons (tOp (uIx K) (tLst (tCons (tC (.int 3)) (tCons (tOp uPow (tC (.int 10)) (tC (.int 12))) tNil))) (tCal (sp_law_next K) (tCons (tVar 1) (tCons (tC (.int 2)) tNil)))) tNil))) (tC (.int 1))) [6]) (gName 5))
    (tSeq (tAsg (tCal (sp_block_of K) (tCons (tCB (uList K) (tCons (tVar 5) tNil)) tNil)) (gName 7))
    (tSeq (tIfS (tOr (tTest (tOp (uNe K) (tCal (sp_sum_of K) (tCons (tCB (uList K) (tCons (tVar 5) tNil)) tNil)) (tCal (sp_law_sum K) (tCons (tVar 5) tNil)))) (tTest (tOp (uNe K) (tVar 7) (tOp (uAdd K) (tLst (tCons (tCB (uLen K) (tCons (tVar 5) tNil)) (tCons (tCal (sp_law_sum K) (tCons (tVar 5) tNil)) tNil))) (tVar 5))))) (tRet (tC (.bl false))) tNext)
    (tSeq (tDrop (tBM K "list" rAppend (tVar 2) (tCons (tVar 5) tNil)))
    (tAsg (tOp (uAdd K) (tVar 3) (tVar 7)) (gName 3))))))
def T_law (K : PySem.W.Frag) : TS :=
    (tSeq (tAsg (tLst (tCons (tCB (uList K) (tCons (tVar 0) tNil)) (tCons (tC (.int 0)) (tCons (tC (.int 0)) tNil)))) (gName 1))
    (tSeq (tAsg (tLst tNil) (gName 2))
    (tSeq (tAsg (tLst tNil) (gName 3))
    (tSeq (tFor (iRng1 (tCons (tCal (sp_law_next K) (tCons (tVar 1) (tCons (tC (.int 6)) tNil))) tNil)) (gName 4) (T_law_b1 K))
    (tSeq (tIfS (tTest (tOp (uNe K) (tCal (sp_read_blocks K) (tCons (tCB (uList K) (tCons (tVar 3) tNil)) tNil)) (tVar 2))) (tRet (tC (.bl false))) tNext)
    (tSeq (tAsg (tCal (sp_law_next K) (tCons (tVar 1) (tCons (tOp (uAdd K) (tCB (uLen K) (tCons (tVar 3) tNil)) (tC (.int 1))) tNil))) (gName 8))
    (tSeq (tAsg (tCal (sp_read_blocks K) (tCons (tSl (uSl K) (tVar 3) tNoPart (tPart (tVar 8))) tNil)) (gName 9))
    (tSeq (tIfS (tOr (tNot (tTru K (tCB (uIsi K) (tCons (tVar 9) (tCons (tC (.ty "list")) tNil))))) (tOr (tTest (tOp (uNe K) (tVar 9) (tSl (uSl K) (tVar 2) tNoPart (tPart (tCB (uLen K) (tCons (tVar 9) tNil)))))) (tTest (tOp (uNe K) (tVar 9) (tCal (sp_law_due K) (tCons (tSl (uSl K) (tVar 3) tNoPart (tPart (tVar 8))) tNil)))))) (tRet (tC (.bl false))) tNext)
    (tSeq (tAsg (tOp (uAdd K) (tVar 3) (tLc (iRng1 (tCons (tCal (sp_law_next K) (tCons (tVar 1) (tCons (tC (.int 5)) tNil))) tNil)) (gName 4) tYes (tOp uSub (tCal (sp_law_next K) (tCons (tVar 1) (tCons (tC (.int 5)) tNil))) (tC (.int 1))) [4])) (gName 10))
    (tSeq (tIfS (tTest (tOp (uNe K) (tCal (sp_read_blocks K) (tCons (tCB (uList K) (tCons (tVar 10) tNil)) tNil)) (tCal (sp_law_due K) (tCons (tVar 10) tNil)))) (tRet (tC (.bl false))) tNext)
    (tCut (tIfS (tTest (tOp uGt (tCB (uLen K) (tCons (tVar 3) tNil)) (tC (.int 0)))) (tAsg (tOp uSub (tCal (sp_law_next K) (tCons (tVar 1) (tCons (tC (.int 9)) tNil))) (tC (.int 2))) (gSub (tVar 10) (tCal (sp_law_next K) (tCons (tVar 1) (tCons (tCB (uLen K) (tCons (tVar 10) tNil)) tNil))) rSetL)) tNext)
    (tSeq (tAsg (tCB (uList K) (tCons (tVar 10) tNil)) (gName 11))
    (tRet (tAndV (tOp (uEq K) (tCal (sp_read_blocks K) (tCons (tVar 11) tNil)) (tCal (sp_law_due K) (tCons (tVar 10) tNil))) (tOp (uEq K) (tVar 11) (tVar 10))))))))))))))))

theorem r_law {K : PySem.W.Frag} {a : Addr} {ns : List Int} {H : Hp} {D : Ends} (hS : SqL K H a (ns.map V.int)) (hl : ns.length ≤ 63) (q : ∀ H', D.rt (.bl true) H') : T_law K D [some (.ref a), none, none, none, none, none, none, none, none, none, none, none] H := by
  unfold T_law
  walk_at "zz"
  rename_i l hl1 p hp r hr w hw
  have d0 := Draw.new (o := .lst []) hw (Draw.new (o := .lst []) hr (Draw.start hl1 hp))
  have nr := Draw.ne hr (Draw.start hl1 hp)
  have nrL := Draw.neL hr (Draw.start hl1 hp)
  walk_at "nx"
  intro n1 H1 a1 b1 d1 x1
  have er1 := x1.lk (lk_new hw upd_same : _ = some (.lst (([] : List Addr).map V.ref))) NotSt.refs
  have ew1 := x1.lk (upd_same : _ = some (.lst ((wholeZ []).map V.int))) NotSt.ints
  walk_at "zz"
  refine z_rng1 (by omega) ?_ (by omega)
  refine z_rng (fun i σ H' => ∃ (v4 v5 v6 v7 : Option V) (w : Addr) (ps : List Addr) (xss : List (List Int)), σ = [some (.ref a), some (.ref p), some (.ref r), some (.ref w), v4, v5, v6, v7, none, none, none, none] ∧ Draw H' p l ∧ H' r = some (.lst (ps.map V.ref)) ∧ RowsIn H' ps xss ∧ H' w = some (.lst ((wholeZ xss).map V.int)) ∧ w ≠ r ∧ xss.length = i ∧ (∀ xs ∈ xss, xs.length ≤ 5))
    ⟨_, _, _, _, w, [], [], rfl, d1, er1, .nil, ew1, (ne_of_none upd_same hw).symm, rfl, by simp⟩ ?_ ?_
  · rintro i σ H2 hi ⟨v4, v5, v6, v7, w2, ps, xss, rfl, d2, er, rr, ew, nwr, lx, hx⟩
    have wl := whole_len hx
    unfold T_law_b1
    walk_at "zz"
    walk_at "nx"
    intro n3 H3 a3 b3 d3 x3
    walk_at "zz"
    refine z_lcr1 (by omega) ?_
    refine z_lcr (fun C i H' => ExD H3 H' ∧ Draw H' p l ∧ ∃ acc : List Int, H' C = some (.lst (acc.map V.int)) ∧ acc.length = i) (fun C hC => ⟨ExD.new hC (ExD.refl _), Draw.new hC d3, [], upd_same, rfl⟩) ?_ ?_
    · rintro C j H4 hC hj ⟨x4, d4, acc, eC, la⟩
      walk_at "zz"
      refine ⟨rfl, ?_⟩
      walk_at "zz"
      rename_i c5 hc5
      have d5 := Draw.new (o := .lst [.int 3, .int 1000000000000]) hc5 d4
      walk_at "nx"
      intro t H6 a6 b6 d6 x6
      have e6 := x6.lk upd_same (by walk_at "ns")
      have ht : ∃ s : Int, atI [V.int 3, V.int 1000000000000] t = some (.int s) ∧ 0 < s ∧ s ≤ 1000000000000 := by
        have : t = 0 ∨ t = 1 := by omega
        rcases this with rfl | rfl
        · exact ⟨3, rfl, by decide, by decide⟩
        · exact ⟨1000000000000, rfl, by decide, by decide⟩
      obtain ⟨s, es, s0, s1⟩ := ht
      refine z_ix (.inl (SqL.of e6)) es ?_
      walk_at "zz"
      walk_at "nx"
      intro u H7 a7 b7 d7 x7
      walk_at "zz"
      have eC7 := x7.lk (x6.lk (lk_new hc5 eC) NotSt.ints) NotSt.ints
      refine z_accum eC7 (by rw [List.length_map]; omega) ?_
      refine ⟨ExD.new hC ((x4.trans (ExD.new hc5 (ExD.refl _) |>.trans x6)).trans x7), Draw.put (Draw.ne hC d3) (Draw.neL hC d3) d7, acc ++ [u - 1], by rw [upd_same, List.map_append]; rfl, by simp [la]⟩
    rintro C H4 hC ⟨x4, d4, row, eC, la⟩
    have er4 := x4.lk (x3.lk er NotSt.refs) NotSt.refs
    have ew4 := x4.lk (x3.lk ew NotSt.ints) NotSt.ints
    have rr4 := (rr.exd x3).exd x4
    walk_at "zz"
    rename_i c1 hc1
    refine block_of_c (SqL.of upd_same) (by omega) fun bl H5 nbl sm5 ebl => ?_
    have s4 : Same H4 H5 := (Same.new hc1 (Same.refl H4)).trans sm5
    have eC5 := Same.lk s4 eC
    walk_at "zz"
    rename_i c2 hc2
    refine sum_of_c (SqL.of upd_same) ?_
    walk_at "zz"
    refine law_sum_c (sqL_new hc2 (SqL.of eC5)) ?_
    walk_at "zz"
    refine z_iteF' (by simp) ?_
    have eC6 : upd H5 c2 (.lst (row.map V.int)) C = some (.lst (row.map V.int)) := lk_new hc2 eC5
    walk_at "zz"
    refine law_sum_c (SqL.of eC6) ?_
    walk_at "zz"
    rename_i c3 hc3
    refine z_addL upd_same (lk_new hc3 eC6) (by simp; omega) ?_
    intro c4 hc4
    have ebl7 := lk_new (o := .lst ([V.int ((row.map V.int).length : Int), V.int (sumZ row)] ++ row.map V.int)) hc4 (lk_new (o := .lst [V.int ((row.map V.int).length : Int), V.int (sumZ row)]) hc3 (lk_new (o := .lst (row.map V.int)) hc2 ebl))
    refine z_neInts (a := blkZ row) (b := blkZ row) (SqL.of ebl7) (by
      have e : ([V.int ((row.map V.int).length : Int), V.int (sumZ row)] ++ row.map V.int) = (blkZ row).map V.int := by simp [blkZ]
      rw [e]; exact SqL.of upd_same) ?_
    walk_at "zz"
    refine z_iteF' (by simp) ?_
    have s7 : Same H4 _ := Same.new (o := .lst ([V.int ((row.map V.int).length : Int), V.int (sumZ row)] ++ row.map V.int)) hc4 (Same.new (o := .lst [V.int ((row.map V.int).length : Int), V.int (sumZ row)]) hc3 (Same.new (o := .lst (row.map V.int)) hc2 s4))
    have d7 := Draw.same s7 d4
    have er7 := Same.lk s7 er4
    have ew7 := Same.lk s7 ew4
    have rr7 := RowsIn.same s7 rr4
    have eC7 := Same.lk s7 eC
    have hCr : C ≠ r := (ne_of_none (x3.lk er NotSt.refs) hC).symm
    generalize upd (upd (upd H5 c2 (HO.lst (List.map V.int row))) c3 (HO.lst [V.int ↑(List.map V.int row).length, V.int (sumZ row)])) c4 (HO.lst ([V.int ((row.map V.int).length : Int), V.int (sumZ row)] ++ row.map V.int)) = H7 at *
    walk_at "zz"
    refine z_app er7 (by rw [List.length_map, rr7.len]; omega) ?_
    walk_at "zz"
    have rr8 := RowsIn.snoc (o := .lst (ps.map V.ref ++ [.ref C])) er7 rr7 eC7 hCr
    have ebl8 : H7 bl = some (.lst ((blkZ row).map V.int)) := ebl7
    have nbr : bl ≠ r := (ne_of_none (lk_new hc1 er4) nbl).symm
    refine z_addL (lk_ne nwr ew7) (lk_ne nbr ebl8) (by simp [blkZ]; omega) ?_
    intro w3 hw3
    walk_at "zz"
    refine ⟨_, _, _, _, w3, ps ++ [C], xss ++ [row], rfl, Draw.new hw3 (Draw.put nr nrL d7), ?_, RowsIn.new hw3 rr8, ?_, (ne_of_none upd_same hw3).symm, by simp [lx], ?_⟩
    · rw [lk_new hw3 upd_same, List.map_append]; rfl
    · rw [upd_same, whole_snoc, List.map_append]
    · intro xs hm
      rcases List.mem_append.mp hm with h | h
      · exact hx xs h
      · rw [List.mem_singleton.mp h]; omega
  rintro σ H2 ⟨v4, v5, v6, v7, w2, ps, xss, rfl, d2, er, rr, ew, nwr, lx, hx⟩
  have wl := whole_len hx
  walk_at "zz"
  rename_i c1 hc1
  refine read_blocks_c (SqL.of upd_same) (by omega) fun p1 H3 np1 s3 r1 => ?_
  rw [read_whole] at r1
  have s3' := (Same.new (o := .lst ((wholeZ xss).map V.int)) hc1 (Same.refl H2)).trans s3
  have R3 : RowsAt H3 r xss := RowsAt.same s3' ⟨ps, er, rr⟩
  walk_at "zz"
  refine z_neRows r1 R3 ?_
  walk_at "zz"
  refine z_iteF' (by simp) ?_
  have ew3 := Same.lk s3' ew
  have d3 := Draw.same s3' d2
  walk_at "zz"
  refine law_next_c d3 (by omega) (by rw [List.length_map]; omega) ?_
  intro cut H4 a4 b4 d4 x4
  rw [List.length_map] at b4
  have ew4 := x4.lk ew3 NotSt.ints
  have R4 := RowsAt.exd x4 R3
  walk_at "zz"
  rename_i c2 hc2
  have ec : cutV ((wholeZ xss).map V.int) none (some cut) = ((wholeZ xss).take cut.toNat).map V.int := by
    rw [cutV_ints, sIx_pos a4, show min cut.toNat (wholeZ xss).length = cut.toNat by omega]; rfl
  rw [ec]
  refine read_blocks_c (SqL.of upd_same) (by rw [List.length_take]; omega) fun p2 H5 np2 s5 r2 => ?_
  have s5' := (Same.new (o := .lst (((wholeZ xss).take cut.toNat).map V.int)) hc2 (Same.refl H4)).trans s5
  obtain ⟨qs, eq, rq⟩ := r2
  have r2 : RowsAt H5 p2 _ := ⟨qs, eq, rq⟩
  obtain ⟨ps5, er5, rr5⟩ := RowsAt.same s5' R4
  have ew5 := Same.lk s5' ew4
  have d5 := Draw.same s5' d4
  walk_at "zz"
  refine z_iteF' rfl ?_
  walk_at "zz"
  rename_i c3 hc3
  have e3 : cutV (ps5.map V.ref) none (some ((qs.map V.ref).length : Int)) = (ps5.take qs.length).map V.ref := by
    rw [cutV_refs, sIx_pos (by omega)]
    simp [HT.sIx_none]
  rw [e3] at *
  have lq := rq.len
  have r2n := RowsAt.new (o := .lst ((ps5.take qs.length).map V.ref)) hc3 r2
  have R5n : RowsAt (upd H5 c3 (.lst ((ps5.take qs.length).map V.ref))) c3 (xss.take qs.length) := ⟨_, upd_same, RowsIn.new hc3 (RowsIn.take rr5 _)⟩
  refine z_neRows r2n R5n ?_
  walk_at "zz"
  refine z_iteF' (by rw [lq, ← read_cut]; simp) ?_
  have ew6 : upd H5 c3 (.lst ((ps5.take qs.length).map V.ref)) w2 = some (.lst ((wholeZ xss).map V.int)) := lk_new hc3 ew5
  have d6 : Draw (upd H5 c3 (.lst ((ps5.take qs.length).map V.ref))) p l := Draw.new hc3 d5
  generalize upd H5 c3 (.lst ((ps5.take qs.length).map V.ref)) = H6 at *
  walk_at "zz"
  rename_i c4 hc4
  rw [ec]
  refine law_due_c (SqL.of upd_same) (by rw [List.length_take]; omega) fun p3 H7 np3 s7 r3 => ?_
  have s7' := (Same.new (o := .lst (((wholeZ xss).take cut.toNat).map V.int)) hc4 (Same.refl H6)).trans s7
  refine z_neRows (RowsAt.same s7' r2n) r3 ?_
  walk_at "zz"
  refine z_iteF' (by simp) ?_
  have ew7 := Same.lk s7' ew6
  have d7 := Draw.same s7' d6
  walk_at "zz"
  refine law_next_c d7 (by omega) (by omega) ?_
  intro n8 H8 a8 b8 d8 x8
  have ew8 := x8.lk ew7 NotSt.ints
  walk_at "zz"
  refine z_lcr1 (by omega) ?_
  refine z_lcr (fun C i H' => ExD H8 H' ∧ Draw H' p l ∧ ∃ acc : List Int, H' C = some (.lst (acc.map V.int)) ∧ acc.length = i) (fun C hC => ⟨ExD.new hC (ExD.refl _), Draw.new hC d8, [], upd_same, rfl⟩) ?_ ?_
  · rintro C j H9 hC hj ⟨x9, d9, acc, eC, la⟩
    walk_at "zz"
    refine ⟨rfl, ?_⟩
    walk_at "zz"
    walk_at "nx"
    intro u H10 a10 b10 d10 x10
    walk_at "zz"
    refine z_accum (x10.lk eC NotSt.ints) (by rw [List.length_map]; omega) ?_
    exact ⟨ExD.new hC (x9.trans x10), Draw.put (Draw.ne hC d8) (Draw.neL hC d8) d10, acc ++ [u - 1], by rw [upd_same, List.map_append]; rfl, by simp [la]⟩
  rintro C H9 hC ⟨x9, d9, acc, eC, la⟩
  have ew9 := x9.lk ew8 NotSt.ints
  refine z_addL ew9 eC (by simp; omega) ?_
  intro m hm
  have d10 := Draw.new (o := .lst ((wholeZ xss).map V.int ++ acc.map V.int)) hm d9
  have em : upd H9 m (.lst ((wholeZ xss).map V.int ++ acc.map V.int)) m = some (.lst ((wholeZ xss ++ acc).map V.int)) := by rw [upd_same, List.map_append]
  have ew10 := lk_new (o := .lst ((wholeZ xss).map V.int ++ acc.map V.int)) hm ew9
  have nmp := Draw.ne hm d9
  have nml := Draw.neL hm d9
  have lm : (wholeZ xss ++ acc).length ≤ 100 := by rw [List.length_append]; omega
  have lw : (wholeZ xss).length ≤ (wholeZ xss ++ acc).length := by rw [List.length_append]; omega
  generalize upd H9 m (.lst ((wholeZ xss).map V.int ++ acc.map V.int)) = H10 at *
  generalize (wholeZ xss ++ acc) = ms at *
  walk_at "zz"
  rename_i c5 hc5
  refine read_blocks_c (SqL.of upd_same) (by omega) fun p4 H11 np4 s11 r4 => ?_
  have s11' := (Same.new (o := .lst (ms.map V.int)) hc5 (Same.refl H10)).trans s11
  walk_at "zz"
  refine law_due_c (SqL.of (Same.lk s11' em)) (by omega) fun p5 H12 np5 s12 r5 => ?_
  refine z_neRows (RowsAt.same s12 r4) r5 ?_
  walk_at "zz"
  refine z_iteF' (by simp) ?_
  have d12 := Draw.same s12 (Draw.same s11' d10)
  have em12 := Same.lk s12 (Same.lk s11' em)
  have ew12 := Same.lk s12 (Same.lk s11' ew10)
  walk_at "zz"
  refine z_cut (fun σ H' => σ = [some (.ref a), some (.ref p), some (.ref r), some (.ref w2), v4, v5, v6, v7, some (.int cut), some (.ref p2), some (.ref m), none] ∧ ∃ ms' : List Int, H' m = some (.lst (ms'.map V.int)) ∧ ms'.length ≤ 100) ?_ ?_
  · walk_at "zz"
    refine z_itD (fun c => ?_) (fun c => ?_)
    · rw [List.length_map] at c
      walk_at "zz"
      walk_at "nx"
      intro t H13 a13 b13 d13 x13
      have em13 := x13.lk em12 NotSt.ints
      walk_at "zz"
      refine law_next_c d13 (by rw [List.length_map]; omega) (by rw [List.length_map]; omega) ?_
      intro k H14 a14 b14 d14 x14
      rw [List.length_map] at b14
      have em14 := x14.lk em13 NotSt.ints
      refine z_setL em14 (ix_at a14 (by rw [List.length_map]; omega)) ?_
      walk_at "zz"
      exact ⟨rfl, ms.set k.toNat (t - 2), by rw [upd_same, List.map_set], by simp; omega⟩
    · walk_at "zz"
      exact ⟨rfl, ms, em12, lm⟩
  rintro σ H13 ⟨rfl, ms', em13, lm'⟩
  walk_at "zz"
  rename_i g hg
  have eg : upd H13 g (.lst (ms'.map V.int)) g = some (.lst (ms'.map V.int)) := upd_same
  have em14 : upd H13 g (.lst (ms'.map V.int)) m = some (.lst (ms'.map V.int)) := lk_new hg em13
  generalize upd H13 g (.lst (ms'.map V.int)) = H14 at *
  refine read_blocks_c (SqL.of eg) (by omega) fun p6 H15 np6 s15 r6 => ?_
  walk_at "zz"
  refine law_due_c (SqL.of (Same.lk s15 em14)) (by omega) fun p7 H16 np7 s16 r7 => ?_
  refine z_eqRows (RowsAt.same s16 r6) r7 ?_
  walk_at "zz"
  refine z_iteT' (by simp) ?_
  walk_at "zz"
  refine z_eqInts (SqL.of (Same.lk s16 (Same.lk s15 eg))) (SqL.of (Same.lk s16 (Same.lk s15 em14))) ?_
  rw [decide_eq_true rfl]
  exact q _
theorem w_law {K : PySem.W.Frag} : Wd (T_law K) N_law 1 (sp_law K) := fun vs H Q E h => by
  obtain ⟨a, ns, rfl, hS, hl, q⟩ := h
  exact ⟨rfl, r_law hS hl q⟩
/-! ### the text by places, and its defs, each once -/
def topS (i : Nat) : Stmt := PySem.Challenge.pw_surenear_k39_blocks_are_read_back.main.body.getD i (.Pass ⟨0, 0, 0, 0⟩)
section
variable {P : Program} {w : World} {K : PySem.W.Frag} {mg : Str → Option Value} {base : Heap}
abbrev s_law_row : Stmt := (topS 6)
theorem sc_law_row : FnScope N_law_row ["_law_script", "_law_k"] (defScope s_law_row) := ⟨rfl, rfl, rfl, by decide +kernel, rfl, by decide +kernel, by decide +kernel⟩
theorem ok_law_row (m_len : mg "len" = none) (m_int : mg "int" = none) {f : Addr} {fd : FuncData} (F : Fun K "_law_row" "_law_row" s_law_row f fd) : FnOk P w K mg base CX0 1 f fd ["_law_script", "_law_k"] (sp_law_row K) := by
  have sc := sc_law_row
  refine F.ok sc_law_row (fun vs H Q E h => ((w_law_row) vs H Q E h).1) (fun cdv A outer s H vs Q E hr h => ⟨T_law_row K, ?_, ((w_law_row) vs H Q E h).2⟩)
  exact (pss_cons (ps_set (i := 2) sc.nd rfl (by first | exact Or.inl rfl | exact Or.inr rfl) pe_int)
      (pss_cut (ps_if (pt_cmpR (op_uLt hr.units) (pv 1) (pe_callB call_uLen (by rfl) m_len (by decide +kernel) (pa_cons (pv 0) pa_nil)) (nomark _)) (pss_one (ps_set (i := 2) sc.nd rfl (by first | exact Or.inl rfl | exact Or.inr rfl) (pe_ix ix_uIx (pv 0) (pv 1) (fun _ _ => rfl)))) pss_nil)
      (pss_cut (ps_if (pt_cmpR (op_uLt hr.units) (pv 2) pe_int (nomark _)) (pss_one (ps_set (i := 2) sc.nd rfl (by first | exact Or.inl rfl | exact Or.inr rfl) (pe_op op_uSub (pe_op op_uMul (pe_un un_uNeg pe_int) (pv 2)) pe_int))) pss_nil)
      (pss_cut (ps_if (pt_cmpR (op_uLt hr.units) (pv 2) (pe_op op_uPow pe_int pe_int) (nomark _)) (pss_cons (ps_set (i := 3) sc.nd rfl (by first | exact Or.inl rfl | exact Or.inr rfl) (pe_op op_uMod (pe_callTy call_uInt (by rfl) m_int (by decide +kernel) (pa_cons (pe_op op_uAdd (pe_op op_uAdd (pe_op op_uMul (pv 2) pe_int) (pe_op op_uMul (pv 1) pe_int)) pe_int) pa_nil)) pe_int))
      (pss_cons (ps_set (i := 4) sc.nd rfl (by first | exact Or.inl rfl | exact Or.inr rfl) (pe_op op_uMod (pe_callTy call_uInt (by rfl) m_int (by decide +kernel) (pa_cons (pe_op op_uAdd (pe_op op_uAdd (pe_op op_uAdd (pe_op op_uMul (pv 3) pe_int) (pe_op op_uMul (pv 2) pe_int)) (pv 1)) pe_int) pa_nil)) pe_int))
      (pss_cons (ps_set (i := 5) sc.nd rfl (by first | exact Or.inl rfl | exact Or.inr rfl) (pe_op op_uMod (pe_callTy call_uInt (by rfl) m_int (by decide +kernel) (pa_cons (pe_op op_uAdd (pe_op op_uAdd (pe_op op_uMul (pv 4) pe_int) (pe_op op_uMul (pv 3) (pv 4))) pe_int) pa_nil)) pe_int))
      (pss_one (ps_set (i := 2) sc.nd rfl (by first | exact Or.inl rfl | exact Or.inr rfl) (pe_op op_uAdd (pe_op op_uAdd (pv 3) (pe_op op_uMul (pv 4) pe_int)) (pe_op op_uMul (pv 5) (pe_op op_uPow pe_int pe_int)))))))) pss_nil)
      (pss_one (ps_ret (pv 2)))))))
abbrev s_law_next : Stmt := (topS 7)
theorem sc_law_next : FnScope N_law_next ["_law_state", "_law_many"] (defScope s_law_next) := ⟨rfl, rfl, rfl, by decide +kernel, rfl, by decide +kernel, by decide +kernel⟩
theorem ok_law_next (D_law_row : Dfn P w K mg base 1 "_law_row" ["_law_script", "_law_k"] (sp_law_row K)) (m_int : mg "int" = none) {f : Addr} {fd : FuncData} (F : Fun K "_law_next" "_law_next" s_law_next f fd) : FnOk P w K mg base CX0 2 f fd ["_law_state", "_law_many"] (sp_law_next K) := by
  have sc := sc_law_next
  refine F.ok sc_law_next (fun vs H Q E h => ((w_law_next) vs H Q E h).1) (fun cdv A outer s H vs Q E hr h => ⟨T_law_next K, ?_, ((w_law_next) vs H Q E h).2⟩)
  exact (pss_cut (ps_if (pt_cmpR (op_uLt hr.units) (pe_ix ix_uIx (pv 0) pe_int (fun _ _ => rfl)) (pv 1) (nomark _)) (pss_cons (ps_asg (z_call D_law_row (hr.mono (by decide)) (by rfl) (pa_cons (pe_ix ix_uIx (pv 0) pe_int (fun _ _ => rfl)) (pa_cons (pe_ix ix_uIx (pv 0) pe_int (fun _ _ => rfl)) pa_nil))) (pg_sub (pv 0) pe_int set_list))
      (pss_one (ps_asg (pe_op op_uAdd (pe_ix ix_uIx (pv 0) pe_int (fun _ _ => rfl)) pe_int) (pg_sub (pv 0) pe_int set_list)))) pss_nil)
      (pss_cons (ps_set (i := 2) sc.nd rfl (by first | exact Or.inl rfl | exact Or.inr rfl) (pe_op op_uMod (pe_callTy call_uInt (by rfl) m_int (by decide +kernel) (pa_cons (pe_ix ix_uIx (pv 0) pe_int (fun _ _ => rfl)) pa_nil)) (pv 1)))
      (pss_cons (ps_asg (pe_op op_uDiv (pe_ix ix_uIx (pv 0) pe_int (fun _ _ => rfl)) (pv 1)) (pg_sub (pv 0) pe_int set_list))
      (pss_one (ps_ret (pv 2))))))
abbrev s_sum_of : Stmt := (topS 2)
theorem sc_sum_of : FnScope N_sum_of ["numbers"] (defScope s_sum_of) := ⟨rfl, rfl, rfl, by decide +kernel, rfl, by decide +kernel, by decide +kernel⟩
theorem ok_sum_of (g_PRIME : ∃ t, mg "PRIME" = some (.int 4294967291 t)) {f : Addr} {fd : FuncData} (F : Fun K "sum_of" "sum_of" s_sum_of f fd) : FnOk P w K mg base CX0 1 f fd ["numbers"] (sp_sum_of K) := by
  have sc := sc_sum_of
  refine F.ok sc_sum_of (fun vs H Q E h => ((w_sum_of) vs H Q E h).1) (fun cdv A outer s H vs Q E hr h => ⟨T_sum_of K, ?_, ((w_sum_of) vs H Q E h).2⟩)
  exact (pss_cons (ps_set (i := 1) sc.nd rfl (by first | exact Or.inl rfl | exact Or.inr rfl) pe_int)
      (pss_cons (ps_for PassesOwn.never rfl (pi_sq (pv 0)) (pg_name (i := 2) sc.nd rfl (by first | exact Or.inl rfl | exact Or.inr rfl)) (pss_one (ps_set (i := 1) sc.nd rfl (by first | exact Or.inl rfl | exact Or.inr rfl) (pe_op op_uMod (pe_op op_uAdd (pe_op op_uAdd (pe_op op_uMul (pv 1) pe_int) (pv 2)) pe_int) (z_gint g_PRIME (by rfl))))))
      (pss_one (ps_ret (pv 1)))))
abbrev s_block_of : Stmt := (topS 3)
theorem sc_block_of : FnScope N_block_of ["numbers"] (defScope s_block_of) := ⟨rfl, rfl, rfl, by decide +kernel, rfl, by decide +kernel, by decide +kernel⟩
theorem ok_block_of (D_sum_of : Dfn P w K mg base 1 "sum_of" ["numbers"] (sp_sum_of K)) (m_len : mg "len" = none) (m_list : mg "list" = none) {f : Addr} {fd : FuncData} (F : Fun K "block_of" "block_of" s_block_of f fd) : FnOk P w K mg base CX0 2 f fd ["numbers"] (sp_block_of K) := by
  have sc := sc_block_of
  refine F.ok sc_block_of (fun vs H Q E h => ((w_block_of) vs H Q E h).1) (fun cdv A outer s H vs Q E hr h => ⟨T_block_of K, ?_, ((w_block_of) vs H Q E h).2⟩)
  exact (pss_one (ps_ret (pe_op op_uAdd (pe_lst (pa_cons (pe_callB call_uLen (by rfl) m_len (by decide +kernel) (pa_cons (pv 0) pa_nil)) (pa_cons (z_call D_sum_of (hr.mono (by decide)) (by rfl) (pa_cons (pv 0) pa_nil)) pa_nil))) (pe_callTy call_uList (by rfl) m_list (by decide +kernel) (pa_cons (pv 0) pa_nil)))))
abbrev s_law_sum : Stmt := (topS 8)
theorem sc_law_sum : FnScope N_law_sum ["_law_numbers"] (defScope s_law_sum) := ⟨rfl, rfl, rfl, by decide +kernel, rfl, by decide +kernel, by decide +kernel⟩
theorem ok_law_sum {f : Addr} {fd : FuncData} (F : Fun K "_law_sum" "_law_sum" s_law_sum f fd) : FnOk P w K mg base CX0 1 f fd ["_law_numbers"] (sp_law_sum K) := by
  have sc := sc_law_sum
  refine F.ok sc_law_sum (fun vs H Q E h => ((w_law_sum) vs H Q E h).1) (fun cdv A outer s H vs Q E hr h => ⟨T_law_sum K, ?_, ((w_law_sum) vs H Q E h).2⟩)
  exact (pss_cons (ps_set (i := 1) sc.nd rfl (by first | exact Or.inl rfl | exact Or.inr rfl) pe_int)
      (pss_cons (ps_for PassesOwn.never rfl (pi_sq (pv 0)) (pg_name (i := 2) sc.nd rfl (by first | exact Or.inl rfl | exact Or.inr rfl)) (pss_one (ps_set (i := 1) sc.nd rfl (by first | exact Or.inl rfl | exact Or.inr rfl) (pe_op op_uMod (pe_op op_uAdd (pe_op op_uAdd (pe_op op_uMul (pv 1) pe_int) (pv 2)) pe_int) pe_int))))
      (pss_one (ps_ret (pv 1)))))
abbrev s_read_blocks : Stmt := (topS 4)
theorem sc_read_blocks : FnScope N_read_blocks ["numbers"] (defScope s_read_blocks) := ⟨rfl, rfl, rfl, by decide +kernel, rfl, by decide +kernel, by decide +kernel⟩
theorem ok_read_blocks (D_sum_of : Dfn P w K mg base 1 "sum_of" ["numbers"] (sp_sum_of K)) (m_len : mg "len" = none) (m_list : mg "list" = none) {f : Addr} {fd : FuncData} (F : Fun K "read_blocks" "read_blocks" s_read_blocks f fd) : FnOk P w K mg base CX0 2 f fd ["numbers"] (sp_read_blocks K) := by
  have sc := sc_read_blocks
  refine F.ok sc_read_blocks (fun vs H Q E h => ((w_read_blocks) vs H Q E h).1) (fun cdv A outer s H vs Q E hr h => ⟨T_read_blocks K, ?_, ((w_read_blocks) vs H Q E h).2⟩)
  exact (pss_cons (ps_set (i := 1) sc.nd rfl (by first | exact Or.inl rfl | exact Or.inr rfl) (pe_lst pa_nil))
      (pss_cons (ps_set (i := 2) sc.nd rfl (by first | exact Or.inl rfl | exact Or.inr rfl) pe_int)
      (pss_cons (ps_while PassesOwn.never (PW.pt (pw_and (pt_cmpR op_uLe (pe_op op_uAdd (pv 2) pe_int) (pe_callB call_uLen (by rfl) m_len (by decide +kernel) (pa_cons (pv 0) pa_nil)) (nomark _)) (pw_and1 (pt_chain op_uLe op_uLe pe_int (pe_ix ix_uIx (pv 0) (pv 2) (fun _ _ => rfl)) (pe_op op_uSub (pe_op op_uSub (pe_callB call_uLen (by rfl) m_len (by decide +kernel) (pa_cons (pv 0) pa_nil)) (pv 2)) pe_int))))) (pss_cons (ps_set (i := 3) sc.nd rfl (by first | exact Or.inl rfl | exact Or.inr rfl) (pe_op op_uAdd (pe_op op_uAdd (pv 2) pe_int) (pe_ix ix_uIx (pv 0) (pv 2) (fun _ _ => rfl))))
      (pss_cons (ps_set (i := 4) sc.nd rfl (by first | exact Or.inl rfl | exact Or.inr rfl) (pe_callTy call_uList (by rfl) m_list (by decide +kernel) (pa_cons (pe_slice sl_uSl (pv 0) (po_some (pe_op op_uAdd (pv 2) pe_int)) (po_some (pv 3))) pa_nil)))
      (pss_cons (ps_if (pt_cmpR (op_uNe hr.units) (z_call D_sum_of (hr.mono (by decide)) (by rfl) (pa_cons (pv 4) pa_nil)) (pe_ix ix_uIx (pv 0) (pe_op op_uAdd (pv 2) pe_int) (fun _ _ => rfl)) (nomark _)) (pss_one (ps_ret (pv 1))) pss_nil)
      (pss_cons (ps_expr (pe_bm PySem.F.plainAttrs_list PySem.F.slot_list_append PySem.F.type_list_append mt_append (pv 1) (pa_cons (pv 4) pa_nil)))
      (pss_one (ps_set (i := 2) sc.nd rfl (by first | exact Or.inl rfl | exact Or.inr rfl) (pv 3))))))))
      (pss_one (ps_ret (pv 1))))))
abbrev s_law_due : Stmt := (topS 9)
theorem sc_law_due : FnScope N_law_due ["_law_numbers"] (defScope s_law_due) := ⟨rfl, rfl, rfl, by decide +kernel, rfl, by decide +kernel, by decide +kernel⟩
theorem ok_law_due (D_law_sum : Dfn P w K mg base 1 "_law_sum" ["_law_numbers"] (sp_law_sum K)) (m_len : mg "len" = none) (m_range : mg "range" = none) {f : Addr} {fd : FuncData} (F : Fun K "_law_due" "_law_due" s_law_due f fd) : FnOk P w K mg base CX0 2 f fd ["_law_numbers"] (sp_law_due K) := by
  have sc := sc_law_due
  refine F.ok sc_law_due (fun vs H Q E h => ((w_law_due) vs H Q E h).1) (fun cdv A outer s H vs Q E hr h => ⟨T_law_due K, ?_, ((w_law_due) vs H Q E h).2⟩)
  exact (pss_cons (ps_set (i := 1) sc.nd rfl (by first | exact Or.inl rfl | exact Or.inr rfl) (pe_lst pa_nil))
      (pss_cons (ps_set (i := 2) sc.nd rfl (by first | exact Or.inl rfl | exact Or.inr rfl) pe_int)
      (pss_cut (ps_for PassesOwn.never rfl (pi_range1 (by rfl) m_range (pa_cons (pe_callB call_uLen (by rfl) m_len (by decide +kernel) (pa_cons (pv 0) pa_nil)) pa_nil)) (pg_name (i := 3) sc.nd rfl (by first | exact Or.inl rfl | exact Or.inr rfl)) (pss_cons (ps_if (PW.pt (pw_or (pt_cmpR op_uGt (pe_op op_uAdd (pv 2) pe_int) (pe_callB call_uLen (by rfl) m_len (by decide +kernel) (pa_cons (pv 0) pa_nil)) (nomark _)) (pw_or (pt_cmpR (op_uLt hr.units) (pe_ix ix_uIx (pv 0) (pv 2) (fun _ _ => rfl)) pe_int (nomark _)) (pw_or1 (pt_cmpR op_uGt (pe_op op_uAdd (pe_op op_uAdd (pv 2) pe_int) (pe_ix ix_uIx (pv 0) (pv 2) (fun _ _ => rfl))) (pe_callB call_uLen (by rfl) m_len (by decide +kernel) (pa_cons (pv 0) pa_nil)) (nomark _)))))) (pss_one ps_break) pss_nil)
      (pss_cons (ps_set (i := 4) sc.nd rfl (by first | exact Or.inl rfl | exact Or.inr rfl) (pe_slice sl_uSl (pv 0) (po_some (pe_op op_uAdd (pv 2) pe_int)) (po_some (pe_op op_uAdd (pe_op op_uAdd (pv 2) pe_int) (pe_ix ix_uIx (pv 0) (pv 2) (fun _ _ => rfl))))))
      (pss_cons (ps_if (pt_cmpR (op_uNe hr.units) (z_call D_law_sum (hr.mono (by decide)) (by rfl) (pa_cons (pv 4) pa_nil)) (pe_ix ix_uIx (pv 0) (pe_op op_uAdd (pv 2) pe_int) (fun _ _ => rfl)) (nomark _)) (pss_one ps_break) pss_nil)
      (pss_cons (ps_expr (pe_bm PySem.F.plainAttrs_list PySem.F.slot_list_append PySem.F.type_list_append mt_append (pv 1) (pa_cons (pv 4) pa_nil)))
      (pss_one (ps_set (i := 2) sc.nd rfl (by first | exact Or.inl rfl | exact Or.inr rfl) (pe_op op_uAdd (pe_op op_uAdd (pv 2) pe_int) (pe_ix ix_uIx (pv 0) (pv 2) (fun _ _ => rfl))))))))))
      (pss_one (ps_ret (pv 1))))))
abbrev s_law : Stmt := (topS 10)
theorem sc_law : FnScope N_law ["_law_script"] (defScope s_law) := ⟨rfl, rfl, rfl, by decide +kernel, rfl, by decide +kernel, by decide +kernel⟩
theorem ok_law (D_law_next : Dfn P w K mg base 2 "_law_next" ["_law_state", "_law_many"] (sp_law_next K)) (D_block_of : Dfn P w K mg base 2 "block_of" ["numbers"] (sp_block_of K)) (D_sum_of : Dfn P w K mg base 1 "sum_of" ["numbers"] (sp_sum_of K)) (D_law_sum : Dfn P w K mg base 1 "_law_sum" ["_law_numbers"] (sp_law_sum K)) (D_read_blocks : Dfn P w K mg base 2 "read_blocks" ["numbers"] (sp_read_blocks K)) (D_law_due : Dfn P w K mg base 2 "_law_due" ["_law_numbers"] (sp_law_due K)) (m_list : mg "list" = none) (m_range : mg "range" = none) (m_len : mg "len" = none) (m_isinstance : mg "isinstance" = none) {f : Addr} {fd : FuncData} (F : Fun K "law" "law" s_law f fd) : FnOk P w K mg base CX0 3 f fd ["_law_script"] (sp_law K) := by
  have sc := sc_law
  refine F.ok sc_law (fun vs H Q E h => ((w_law) vs H Q E h).1) (fun cdv A outer s H vs Q E hr h => ⟨T_law K, ?_, ((w_law) vs H Q E h).2⟩)
  exact (pss_cons (ps_set (i := 1) sc.nd rfl (by first | exact Or.inl rfl | exact Or.inr rfl) (pe_lst (pa_cons (pe_callTy call_uList (by rfl) m_list (by decide +kernel) (pa_cons (pv 0) pa_nil)) (pa_cons pe_int (pa_cons pe_int pa_nil)))))
      (pss_cons (ps_set (i := 2) sc.nd rfl (by first | exact Or.inl rfl | exact Or.inr rfl) (pe_lst pa_nil))
      (pss_cons (ps_set (i := 3) sc.nd rfl (by first | exact Or.inl rfl | exact Or.inr rfl) (pe_lst pa_nil))
      (pss_cons (ps_for PassesOwn.never rfl (pi_range1 (by rfl) m_range (pa_cons (z_call D_law_next (hr.mono (by decide)) (by rfl) (pa_cons (pv 1) (pa_cons pe_int pa_nil))) pa_nil)) (pg_name (i := 4) sc.nd rfl (by first | exact Or.inl rfl | exact Or.inr rfl)) (pss_cons (by first | exact (ps_setLc (i := 5) (own := [("_law_j", 6)]) (g := (gName 6)) (tt := tYes) rfl sc.nd rfl rfl (sw_true rfl rfl rfl (by decide +kernel)) (pi_range1 (by rfl) m_range (pa_cons (z_call D_law_next (hr.mono (by decide)) (by rfl) (pa_cons (pv 1) (pa_cons pe_int pa_nil))) pa_nil)) (blkOk_by (N := N_law) (sc := defScope s_law) (by decide +kernel)) (fun _ _ _ _ _ => (pg_name (i := 6) sc.nd rfl (by first | exact Or.inl rfl | exact Or.inr rfl))) (fun _ _ _ _ _ => pts_nil) (fun _ _ _ _ _ => (pe_op op_uSub (z_call D_law_next (hr.mono (by decide)) (by rfl) (pa_cons (pv 1) (pa_cons (pe_ix ix_uIx (pe_lst (pa_cons pe_int (pa_cons (pe_op op_uPow pe_int pe_int) pa_nil))) (z_call D_law_next (hr.mono (by decide)) (by rfl) (pa_cons (pv 1) (pa_cons pe_int pa_nil))) (fun _ _ => rfl)) pa_nil))) pe_int))) | exact (ps_set (i := 5) sc.nd rfl (Or.inr rfl) (pe_lc (own := [("_law_j", 6)]) (g := (gName 6)) (tt := tYes) rfl sc.nd (pi_range1 (by rfl) m_range (pa_cons (z_call D_law_next (hr.mono (by decide)) (by rfl) (pa_cons (pv 1) (pa_cons pe_int pa_nil))) pa_nil)) (blkOk_by (N := N_law) (sc := defScope s_law) (by decide +kernel)) (fun _ _ _ _ _ => (pg_name (i := 6) sc.nd rfl (by first | exact Or.inl rfl | exact Or.inr rfl))) (fun _ _ _ _ _ => pts_nil) (fun _ _ _ _ _ => (pe_op op_uSub (z_call D_law_next (hr.mono (by decide)) (by rfl) (pa_cons (pv 1) (pa_cons (pe_ix ix_uIx (pe_lst (pa_cons pe_int (pa_cons (pe_op op_uPow pe_int pe_int) pa_nil))) (z_call D_law_next (hr.mono (by decide)) (by rfl) (pa_cons (pv 1) (pa_cons pe_int pa_nil))) (fun _ _ => rfl)) pa_nil))) pe_int)))))
      (pss_cons (ps_set (i := 7) sc.nd rfl (by first | exact Or.inl rfl | exact Or.inr rfl) (z_call D_block_of (hr.mono (by decide)) (by rfl) (pa_cons (pe_callTy call_uList (by rfl) m_list (by decide +kernel) (pa_cons (pv 5) pa_nil)) pa_nil)))
      (pss_cons (ps_if (PW.pt (pw_or (pt_cmpR (op_uNe hr.units) (z_call D_sum_of (hr.mono (by decide)) (by rfl) (pa_cons (pe_callTy call_uList (by rfl) m_list (by decide +kernel) (pa_cons (pv 5) pa_nil)) pa_nil)) (z_call D_law_sum (hr.mono (by decide)) (by rfl) (pa_cons (pv 5) pa_nil)) (nomark _)) (pw_or1 (pt_cmpR (op_uNe hr.units) (pv 7) (pe_op op_uAdd (pe_lst (pa_cons (pe_callB call_uLen (by rfl) m_len (by decide +kernel) (pa_cons (pv 5) pa_nil)) (pa_cons (z_call D_law_sum (hr.mono (by decide)) (by rfl) (pa_cons (pv 5) pa_nil)) pa_nil))) (pv 5)) (nomark _))))) (pss_one (ps_ret pe_bl)) pss_nil)
      (pss_cons (ps_expr (pe_bm PySem.F.plainAttrs_list PySem.F.slot_list_append PySem.F.type_list_append mt_append (pv 2) (pa_cons (pv 5) pa_nil)))
      (pss_one (ps_set (i := 3) sc.nd rfl (by first | exact Or.inl rfl | exact Or.inr rfl) (pe_op op_uAdd (pv 3) (pv 7)))))))))
      (pss_cons (ps_if (pt_cmpR (op_uNe hr.units) (z_call D_read_blocks (hr.mono (by decide)) (by rfl) (pa_cons (pe_callTy call_uList (by rfl) m_list (by decide +kernel) (pa_cons (pv 3) pa_nil)) pa_nil)) (pv 2) (nomark _)) (pss_one (ps_ret pe_bl)) pss_nil)
      (pss_cons (ps_set (i := 8) sc.nd rfl (by first | exact Or.inl rfl | exact Or.inr rfl) (z_call D_law_next (hr.mono (by decide)) (by rfl) (pa_cons (pv 1) (pa_cons (pe_op op_uAdd (pe_callB call_uLen (by rfl) m_len (by decide +kernel) (pa_cons (pv 3) pa_nil)) pe_int) pa_nil))))
      (pss_cons (ps_set (i := 9) sc.nd rfl (by first | exact Or.inl rfl | exact Or.inr rfl) (z_call D_read_blocks (hr.mono (by decide)) (by rfl) (pa_cons (pe_slice sl_uSl (pv 3) po_none (po_some (pv 8))) pa_nil)))
      (pss_cons (ps_if (PW.pt (pw_or (pt_not (pt_u (pe_callB call_uIsi (by rfl) m_isinstance (by decide +kernel) (pa_cons (pv 9) (pa_cons (pe_bltn (by rfl) m_list (by decide +kernel) rfl) pa_nil))))) (pw_or (pt_cmpR (op_uNe hr.units) (pv 9) (pe_slice sl_uSl (pv 2) po_none (po_some (pe_callB call_uLen (by rfl) m_len (by decide +kernel) (pa_cons (pv 9) pa_nil)))) (nomark _)) (pw_or1 (pt_cmpR (op_uNe hr.units) (pv 9) (z_call D_law_due (hr.mono (by decide)) (by rfl) (pa_cons (pe_slice sl_uSl (pv 3) po_none (po_some (pv 8))) pa_nil)) (nomark _)))))) (pss_one (ps_ret pe_bl)) pss_nil)
      (pss_cons (ps_set (i := 10) sc.nd rfl (by first | exact Or.inl rfl | exact Or.inr rfl) (pe_op op_uAdd (pv 3) (pe_lc (own := [("_law_k", 4)]) (g := (gName 4)) (tt := tYes) rfl sc.nd (pi_range1 (by rfl) m_range (pa_cons (z_call D_law_next (hr.mono (by decide)) (by rfl) (pa_cons (pv 1) (pa_cons pe_int pa_nil))) pa_nil)) (blkOk_by (N := N_law) (sc := defScope s_law) (by decide +kernel)) (fun _ _ _ _ _ => (pg_name (i := 4) sc.nd rfl (by first | exact Or.inl rfl | exact Or.inr rfl))) (fun _ _ _ _ _ => pts_nil) (fun _ _ _ _ _ => (pe_op op_uSub (z_call D_law_next (hr.mono (by decide)) (by rfl) (pa_cons (pv 1) (pa_cons pe_int pa_nil))) pe_int)))))
      (pss_cons (ps_if (pt_cmpR (op_uNe hr.units) (z_call D_read_blocks (hr.mono (by decide)) (by rfl) (pa_cons (pe_callTy call_uList (by rfl) m_list (by decide +kernel) (pa_cons (pv 10) pa_nil)) pa_nil)) (z_call D_law_due (hr.mono (by decide)) (by rfl) (pa_cons (pv 10) pa_nil)) (nomark _)) (pss_one (ps_ret pe_bl)) pss_nil)
      (pss_cut (ps_if (pt_cmpR op_uGt (pe_callB call_uLen (by rfl) m_len (by decide +kernel) (pa_cons (pv 3) pa_nil)) pe_int (nomark _)) (pss_one (ps_asg (pe_op op_uSub (z_call D_law_next (hr.mono (by decide)) (by rfl) (pa_cons (pv 1) (pa_cons pe_int pa_nil))) pe_int) (pg_sub (pv 10) (z_call D_law_next (hr.mono (by decide)) (by rfl) (pa_cons (pv 1) (pa_cons (pe_callB call_uLen (by rfl) m_len (by decide +kernel) (pa_cons (pv 10) pa_nil)) pa_nil))) set_list))) pss_nil)
      (pss_cons (ps_set (i := 11) sc.nd rfl (by first | exact Or.inl rfl | exact Or.inr rfl) (pe_callTy call_uList (by rfl) m_list (by decide +kernel) (pa_cons (pv 10) pa_nil)))
      (pss_one (ps_ret (pe_and (pe_cmpR (op_uEq hr.units) (z_call D_read_blocks (hr.mono (by decide)) (by rfl) (pa_cons (pv 11) pa_nil)) (z_call D_law_due (hr.mono (by decide)) (by rfl) (pa_cons (pv 10) pa_nil)) (nomark _)) (pe_one (pe_cmpR (op_uEq hr.units) (pv 11) (pv 10) (nomark _))))))))))))))))))
end
theorem all_mk {l : PySem.W.OpenLaw} {w : World} {K : PySem.W.Frag} {h : Heap} {mg : Str → Option Value} {fa f0 f1 f2 f3 f4 f5 f6 f7   : Addr} (X : K.In h) (G : h.Ns mainGlobals mg) (hfa : mg "law" = some (.ref fa))
    {tg0 : Tok}
    {od0 an0 od1 an1 od2 an2 od3 an3 od4 an4 od5 an5 od6 an6 od7 an7 : Option Addr} {sl0 sl1 sl2 sl3 sl4 sl5 sl6 sl7 : Array (Option Value)} {oc0 kV0 dc0 pm0 cd0 ct0 oc1 kV1 dc1 pm1 cd1 ct1 oc2 kV2 dc2 pm2 cd2 ct2 oc3 kV3 dc3 pm3 cd3 ct3 oc4 kV4 dc4 pm4 cd4 ct4 oc5 kV5 dc5 pm5 cd5 ct5 oc6 kV6 dc6 pm6 cd6 ct6 oc7 kV7 dc7 pm7 cd7 ct7 : Value}
    (a0 : PySem.W.nsIn K mainGlobals "_law_row" = some (some (.ref f0)))
    (l0 : K.lookup f0 = some ⟨oc0, od0, .func (PySem.W.fnOf "_law_row" "_law_row" (defArgs s_law_row) (defBody s_law_row) (defScope s_law_row) .none kV0 dc0 pm0 an0 cd0 ct0), sl0⟩)
    (c0 : PySem.W.codeIn K cd0 "_law_row" = true)
    (k0 : PySem.W.keepIn K (.ref f0) = true)
    (a1 : PySem.W.nsIn K mainGlobals "_law_next" = some (some (.ref f1)))
    (l1 : K.lookup f1 = some ⟨oc1, od1, .func (PySem.W.fnOf "_law_next" "_law_next" (defArgs s_law_next) (defBody s_law_next) (defScope s_law_next) .none kV1 dc1 pm1 an1 cd1 ct1), sl1⟩)
    (c1 : PySem.W.codeIn K cd1 "_law_next" = true)
    (k1 : PySem.W.keepIn K (.ref f1) = true)
    (a2 : PySem.W.nsIn K mainGlobals "sum_of" = some (some (.ref f2)))
    (l2 : K.lookup f2 = some ⟨oc2, od2, .func (PySem.W.fnOf "sum_of" "sum_of" (defArgs s_sum_of) (defBody s_sum_of) (defScope s_sum_of) .none kV2 dc2 pm2 an2 cd2 ct2), sl2⟩)
    (c2 : PySem.W.codeIn K cd2 "sum_of" = true)
    (k2 : PySem.W.keepIn K (.ref f2) = true)
    (a3 : PySem.W.nsIn K mainGlobals "block_of" = some (some (.ref f3)))
    (l3 : K.lookup f3 = some ⟨oc3, od3, .func (PySem.W.fnOf "block_of" "block_of" (defArgs s_block_of) (defBody s_block_of) (defScope s_block_of) .none kV3 dc3 pm3 an3 cd3 ct3), sl3⟩)
    (c3 : PySem.W.codeIn K cd3 "block_of" = true)
    (k3 : PySem.W.keepIn K (.ref f3) = true)
    (a4 : PySem.W.nsIn K mainGlobals "_law_sum" = some (some (.ref f4)))
    (l4 : K.lookup f4 = some ⟨oc4, od4, .func (PySem.W.fnOf "_law_sum" "_law_sum" (defArgs s_law_sum) (defBody s_law_sum) (defScope s_law_sum) .none kV4 dc4 pm4 an4 cd4 ct4), sl4⟩)
    (c4 : PySem.W.codeIn K cd4 "_law_sum" = true)
    (k4 : PySem.W.keepIn K (.ref f4) = true)
    (a5 : PySem.W.nsIn K mainGlobals "read_blocks" = some (some (.ref f5)))
    (l5 : K.lookup f5 = some ⟨oc5, od5, .func (PySem.W.fnOf "read_blocks" "read_blocks" (defArgs s_read_blocks) (defBody s_read_blocks) (defScope s_read_blocks) .none kV5 dc5 pm5 an5 cd5 ct5), sl5⟩)
    (c5 : PySem.W.codeIn K cd5 "read_blocks" = true)
    (k5 : PySem.W.keepIn K (.ref f5) = true)
    (a6 : PySem.W.nsIn K mainGlobals "_law_due" = some (some (.ref f6)))
    (l6 : K.lookup f6 = some ⟨oc6, od6, .func (PySem.W.fnOf "_law_due" "_law_due" (defArgs s_law_due) (defBody s_law_due) (defScope s_law_due) .none kV6 dc6 pm6 an6 cd6 ct6), sl6⟩)
    (c6 : PySem.W.codeIn K cd6 "_law_due" = true)
    (k6 : PySem.W.keepIn K (.ref f6) = true)
    (a7 : PySem.W.nsIn K mainGlobals "law" = some (some (.ref f7)))
    (l7 : K.lookup f7 = some ⟨oc7, od7, .func (PySem.W.fnOf "law" "law" (defArgs s_law) (defBody s_law) (defScope s_law) .none kV7 dc7 pm7 an7 cd7 ct7), sl7⟩)
    (c7 : PySem.W.codeIn K cd7 "law" = true)
    (k7 : PySem.W.keepIn K (.ref f7) = true)
    (z0 : PySem.W.nsIn K mainGlobals "len" = some none)
    (z1 : PySem.W.nsIn K mainGlobals "int" = some none)
    (z2 : PySem.W.nsIn K mainGlobals "list" = some none)
    (z3 : PySem.W.nsIn K mainGlobals "range" = some none)
    (z4 : PySem.W.nsIn K mainGlobals "isinstance" = some none)
    (kg0 : PySem.W.nsIn K mainGlobals "PRIME" = some (some (.int 4294967291 tg0)))
    : ∃ fd : FuncData, (∀ (s : Shared) (v : Value), BindsTo s fd ⟨[v], []⟩ [("_law_script", v)]) ∧ ∀ base : Heap, K.In base → base.Ns mainGlobals mg → FnOk l.prog w K mg base CX0 3 fa fd ["_law_script"] (sp_law K) := by
  have e := hfa.symm.trans (PySem.W.mg_of X G a7)
  cases e
  have m_len := PySem.W.mg_none_of X G z0
  have m_int := PySem.W.mg_none_of X G z1
  have m_list := PySem.W.mg_none_of X G z2
  have m_range := PySem.W.mg_none_of X G z3
  have m_isinstance := PySem.W.mg_none_of X G z4
  have g_PRIME : ∃ t, mg "PRIME" = some (.int 4294967291 t) := ⟨_, PySem.W.mg_of X G kg0⟩
  have F0 := fun_mk (st := s_law_row) l0 c0 k0
  have F1 := fun_mk (st := s_law_next) l1 c1 k1
  have F2 := fun_mk (st := s_sum_of) l2 c2 k2
  have F3 := fun_mk (st := s_block_of) l3 c3 k3
  have F4 := fun_mk (st := s_law_sum) l4 c4 k4
  have F5 := fun_mk (st := s_read_blocks) l5 c5 k5
  have F6 := fun_mk (st := s_law_due) l6 c6 k6
  have F7 := fun_mk (st := s_law) l7 c7 k7
  refine ⟨PySem.W.fnOf "law" "law" (defArgs s_law) (defBody s_law) (defScope s_law) .none kV7 dc7 pm7 an7 cd7 ct7, fun s v => .of_eq rfl, fun base _ _ => ?_⟩
  have D_law_row : Dfn l.prog w K mg base 1 "_law_row" ["_law_script", "_law_k"] (sp_law_row K) := ⟨_, _, PySem.W.mg_of X G a0, F0.kp, F0.binds (ps := ["_law_script", "_law_k"]) (fun _ _ _ _ _ _ us hl => match us, hl with | [_, _], _ => rfl), ok_law_row m_len m_int F0⟩
  have D_law_next : Dfn l.prog w K mg base 2 "_law_next" ["_law_state", "_law_many"] (sp_law_next K) := ⟨_, _, PySem.W.mg_of X G a1, F1.kp, F1.binds (ps := ["_law_state", "_law_many"]) (fun _ _ _ _ _ _ us hl => match us, hl with | [_, _], _ => rfl), ok_law_next D_law_row m_int F1⟩
  have D_sum_of : Dfn l.prog w K mg base 1 "sum_of" ["numbers"] (sp_sum_of K) := ⟨_, _, PySem.W.mg_of X G a2, F2.kp, F2.binds (ps := ["numbers"]) (fun _ _ _ _ _ _ us hl => match us, hl with | [_], _ => rfl), ok_sum_of g_PRIME F2⟩
  have D_block_of : Dfn l.prog w K mg base 2 "block_of" ["numbers"] (sp_block_of K) := ⟨_, _, PySem.W.mg_of X G a3, F3.kp, F3.binds (ps := ["numbers"]) (fun _ _ _ _ _ _ us hl => match us, hl with | [_], _ => rfl), ok_block_of D_sum_of m_len m_list F3⟩
  have D_law_sum : Dfn l.prog w K mg base 1 "_law_sum" ["_law_numbers"] (sp_law_sum K) := ⟨_, _, PySem.W.mg_of X G a4, F4.kp, F4.binds (ps := ["_law_numbers"]) (fun _ _ _ _ _ _ us hl => match us, hl with | [_], _ => rfl), ok_law_sum F4⟩
  have D_read_blocks : Dfn l.prog w K mg base 2 "read_blocks" ["numbers"] (sp_read_blocks K) := ⟨_, _, PySem.W.mg_of X G a5, F5.kp, F5.binds (ps := ["numbers"]) (fun _ _ _ _ _ _ us hl => match us, hl with | [_], _ => rfl), ok_read_blocks D_sum_of m_len m_list F5⟩
  have D_law_due : Dfn l.prog w K mg base 2 "_law_due" ["_law_numbers"] (sp_law_due K) := ⟨_, _, PySem.W.mg_of X G a6, F6.kp, F6.binds (ps := ["_law_numbers"]) (fun _ _ _ _ _ _ us hl => match us, hl with | [_], _ => rfl), ok_law_due D_law_sum m_len m_range F6⟩
  exact ok_law D_law_next D_block_of D_sum_of D_law_sum D_read_blocks D_law_due m_list m_range m_len m_isinstance F7
theorem walk {l : PySem.W.OpenLaw} {q : Program} {loose : List Str} {XP : (Str → Option Value) → Heap → Prop} {YP : World → Heap → Prop} {d : DefRec} {K : Params → PySem.W.Frag} (hn : l.most = some 63) (hdf : d.params.defaults = [])
    (hY : ∀ (w : World) (h : Heap), YP w h → (K w.params).In h)
    (F : ∀ (w : World) (mg : Str → Option Value) (fa : Addr) (h : Heap), (K w.params).In h → h.Ns mainGlobals mg → mg d.name = some (.ref fa) →
      ∃ fd : FuncData, (∀ (s : Shared) (u : Value), BindsTo s fd ⟨[u], []⟩ [("_law_script", u)]) ∧ ∀ base : Heap, (K w.params).In base → base.Ns mainGlobals mg → FnOk l.prog w (K w.params) mg base CX0 3 fa fd ["_law_script"] (sp_law (K w.params))) :
    PySem.W.WalkO q loose XP YP l.row.toRowW d [] (fun f vs => PySem.call f vs) :=
  L2.walk_of (n := 63) (k := 3) (x := "_law_script") (CX := fun _ => CX0) (sp := fun w => sp_law (K w.params)) hn (by decide) hdf ⟨rfl, by decide, by decide⟩ hY F (fun _ _ a ns hl _ hS => ⟨a, ns, rfl, hS, hl, fun _ => rfl⟩) fun _ _ _ _ _ z => z
end Z
open PySem PySem.W PyProof.Rows
set_option maxRecDepth 100000 in
set_option maxHeartbeats 0 in
theorem PySem.Challenge.cw_surenear_k39_blocks_are_read_back_holds : PySem.Challenge.rw_surenear_k39_blocks_are_read_back.Holds := by
  w_on; o_law; k_head; (case hw => w_witness2)
  k_fill
  refine Z.walk (l := PySem.Challenge.rw_surenear_k39_blocks_are_read_back) rfl rfl (fun w h Y => PySem.W.kIn_of Y) ?F
  case F =>
    intro w mg fa h KX G hmg
    refine' Z.all_mk KX G hmg ?a0 ?l0 ?c0 ?k0 ?a1 ?l1 ?c1 ?k1 ?a2 ?l2 ?c2 ?k2 ?a3 ?l3 ?c3 ?k3 ?a4 ?l4 ?c4 ?k4 ?a5 ?l5 ?c5 ?k5 ?a6 ?l6 ?c6 ?k6 ?a7 ?l7 ?c7 ?k7 ?z0 ?z1 ?z2 ?z3 ?z4 ?kg0
    (case a0 => k_is)
    (case l0 => k_is)
    (case c0 => k_is)
    (case k0 => k_is)
    (case a1 => k_is)
    (case l1 => k_is)
    (case c1 => k_is)
    (case k1 => k_is)
    (case a2 => k_is)
    (case l2 => k_is)
    (case c2 => k_is)
    (case k2 => k_is)
    (case a3 => k_is)
    (case l3 => k_is)
    (case c3 => k_is)
    (case k3 => k_is)
    (case a4 => k_is)
    (case l4 => k_is)
    (case c4 => k_is)
    (case k4 => k_is)
    (case a5 => k_is)
    (case l5 => k_is)
    (case c5 => k_is)
    (case k5 => k_is)
    (case a6 => k_is)
    (case l6 => k_is)
    (case c6 => k_is)
    (case k6 => k_is)
    (case a7 => k_is)
    (case l7 => k_is)
    (case c7 => k_is)
    (case k7 => k_is)
    (case z0 => k_is)
    (case z1 => k_is)
    (case z2 => k_is)
    (case z3 => k_is)
    (case z4 => k_is)
    (case kg0 => k_is)

