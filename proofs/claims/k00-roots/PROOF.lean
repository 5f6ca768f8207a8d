import PyProof.Rows.All
import Wide.All
import OpenK.AllK
import Wide.FinOn
import HandS.ForExc
import HandS.ForMost
import HandS.Wide
import HandS.IsInst
import HandS.TupAny
import HandS.Flow
import HandS.Codes
import HandS.Zip
import PySem.Challenge.RW_surenear_k00_roots
set_option Elab.async false
set_option linter.all false
set_option maxRecDepth 100000
set_option maxHeartbeats 4000000
set_option exponentiation.threshold 100000
namespace Z
open PySem PySem.Spec L2
open C8 (tCut pss_cut)
/-! Z: one rule a construct, whatever the kinds of its values; and the steps of a reading. -/

/-! ### operators by the kinds of their values -/
def MulOk (i j : Int) : Prop := CMul i j ∨ CMulW i j
def uAdd (K : PySem.W.Frag) : R2 := fun x y H Q => match x, y with
  | .int i, .int j => Q (.int (i + j)) H
  | .str a, .str b => a.length + b.length ≤ sizeLine ∧ Q (.str (a ++ b)) H
  | .ref l, .ref b => rCat (.ref l) (.ref b) H Q ∨ rCatA K (.ref l) (.ref b) H Q
  | _, _ => False
def uSub : R2 := fun x y H Q => match x, y with
  | .int i, .int j => Q (.int (i - j)) H
  | _, _ => False
def uMul : R2 := fun x y H Q => match x, y with
  | .int i, .int j => MulOk i j ∧ Q (.int (i * j)) H
  | _, _ => False
def uDiv : R2 := fun x y H Q => match x, y with
  | .int i, .int j => CDivW i j ∧ Q (.int (i / j)) H
  | _, _ => False
def uMod : R2 := fun x y H Q => match x, y with
  | .int i, .int j => 0 < j ∧ Q (.int (i % j)) H
  | _, _ => False
def uPow : R2 := fun x y H Q => match x, y with
  | .int i, .int j => CPow i j ∧ Q (.int (i ^ j.toNat)) H
  | _, _ => False
def uNeg : V → Hp → VK → Prop := fun x H Q => match x with
  | .int i => Q (.int (-i)) H
  | _ => False
def uLt (K : PySem.W.Frag) : R2 := fun x y H Q => match x, y with
  | .int i, .int j => Q (.bl (decide (i < j))) H
  | .str i, .str j => Q (.bl (decide (i.cps.toList < j.cps.toList))) H
  | .ref a, .ref b => rLtT K (.ref a) (.ref b) H Q
  | _, _ => False
def uLe : R2 := fun x y H Q => match x, y with
  | .int i, .int j => Q (.bl (decide (i ≤ j))) H
  | .str i, .str j => Q (.bl (!decide (j.cps.toList < i.cps.toList))) H
  | _, _ => False
def uGt : R2 := fun x y H Q => match x, y with
  | .int i, .int j => Q (.bl (decide (j < i))) H
  | .str i, .str j => Q (.bl (decide (j.cps.toList < i.cps.toList))) H
  | _, _ => False
def uGe : R2 := fun x y H Q => match x, y with
  | .int i, .int j => Q (.bl (decide (j ≤ i))) H
  | .str i, .str j => Q (.bl (!decide (i.cps.toList < j.cps.toList))) H
  | _, _ => False
def uEq (K : PySem.W.Frag) : R2 := fun x y H Q => match x, y with
  | .int i, .int j => Q (.bl (decide (i = j))) H
  | .str i, .str j => Q (.bl (decide (i = j))) H
  | .bl i, .bl j => Q (.bl (decide (i = j))) H
  | .non, .non => Q (.bl true) H
  | .ref a, .ref b => rEqD K (.ref a) (.ref b) H Q
  | x, y => (scal x y = true ∧ Q (.bl (decide (x = y))) H) ∨ rEqD K x y H Q
def uNe (K : PySem.W.Frag) : R2 := fun x y H Q => match x, y with
  | .int i, .int j => Q (.bl (!decide (i = j))) H
  | .str i, .str j => Q (.bl (!decide (i = j))) H
  | .bl i, .bl j => Q (.bl (!decide (i = j))) H
  | .non, .non => Q (.bl false) H
  | .ref a, .ref b => rNeD K (.ref a) (.ref b) H Q
  | x, y => (scal x y = true ∧ Q (.bl (!decide (x = y))) H) ∨ rNeD K x y H Q
def uIs : R2 := fun x y H Q => y = .non ∧ Q (.bl (decide (x = .non))) H
def uIsNot : R2 := fun x y H Q => y = .non ∧ Q (.bl (!decide (x = .non))) H

section
variable {X : Cx}
theorem op_uAdd : OpR X (binaryOp .Add) (uAdd X.K) := by
  intro pins s σ H x y v u Q I rx ry h
  cases x <;> cases y <;> first | exact h.elim | skip
  · exact op_add pins s σ H _ _ _ _ Q I rx ry ⟨_, _, rfl, rfl, h⟩
  · exact op_add_str pins s σ H _ _ _ _ Q I rx ry ⟨_, _, rfl, rfl, h.1, h.2⟩
  · rcases h with h | h
    · exact op_cat pins s σ H _ _ _ _ Q I rx ry h
    · exact op_catA pins s σ H _ _ _ _ Q I rx ry h
theorem op_uSub : OpR X (binaryOp .Sub) uSub := by
  intro pins s σ H x y v u Q I rx ry h
  cases x <;> cases y <;> first | exact h.elim | skip
  exact op_sub pins s σ H _ _ _ _ Q I rx ry ⟨_, _, rfl, rfl, h⟩
theorem op_uMul : OpR X (binaryOp .Mult) uMul := by
  intro pins s σ H x y v u Q I rx ry h
  cases x <;> cases y <;> first | exact h.elim | skip
  rcases h with ⟨h | h, q⟩
  · exact op_mul pins s σ H _ _ _ _ Q I rx ry ⟨_, _, rfl, rfl, h, q⟩
  · exact op_mulW pins s σ H _ _ _ _ Q I rx ry ⟨_, _, rfl, rfl, h, q⟩
theorem op_uDiv : OpR X (binaryOp .FloorDiv) uDiv := by
  intro pins s σ H x y v u Q I rx ry h
  cases x <;> cases y <;> first | exact h.elim | skip
  exact op_fdivW pins s σ H _ _ _ _ Q I rx ry ⟨_, _, rfl, rfl, h.1, h.2⟩
theorem op_uMod : OpR X (binaryOp .Mod) uMod := by
  intro pins s σ H x y v u Q I rx ry h
  cases x <;> cases y <;> first | exact h.elim | skip
  exact op_mod pins s σ H _ _ _ _ Q I rx ry ⟨_, _, rfl, rfl, h.1, h.2⟩
theorem op_uPow : OpR X (binaryOp .Pow) uPow := by
  intro pins s σ H x y v u Q I rx ry h
  cases x <;> cases y <;> first | exact h.elim | skip
  exact op_pow pins s σ H _ _ _ _ Q I rx ry ⟨_, _, rfl, rfl, h.1, h.2⟩
theorem un_uNeg : UnR X (unaryOp .USub) uNeg := by
  intro pins s σ H x v Q I rx h
  cases x <;> first | exact h.elim | skip
  exact un_neg pins s σ H _ _ Q I rx ⟨_, rfl, h⟩
theorem op_uLt (hu : X.A.units + 64 < cLine) : OpR X (compareOp .Lt) (uLt X.K) := by
  intro pins s σ H x y v u Q I rx ry h
  cases x <;> cases y <;> first | exact h.elim | skip
  · exact op_lt pins s σ H _ _ _ _ Q I rx ry ⟨_, _, rfl, rfl, h⟩
  · exact op_lt_str pins s σ H _ _ _ _ Q I rx ry ⟨_, _, rfl, rfl, h⟩
  · exact op_ltT (by omega) pins s σ H _ _ _ _ Q I rx ry h
theorem op_uLe : OpR X (compareOp .LtE) uLe := by
  intro pins s σ H x y v u Q I rx ry h
  cases x <;> cases y <;> first | exact h.elim | skip
  · exact op_le pins s σ H _ _ _ _ Q I rx ry ⟨_, _, rfl, rfl, h⟩
  · exact op_le_str pins s σ H _ _ _ _ Q I rx ry ⟨_, _, rfl, rfl, h⟩
theorem op_uGt : OpR X (compareOp .Gt) uGt := by
  intro pins s σ H x y v u Q I rx ry h
  cases x <;> cases y <;> first | exact h.elim | skip
  · exact op_gt pins s σ H _ _ _ _ Q I rx ry ⟨_, _, rfl, rfl, h⟩
  · exact op_gt_str pins s σ H _ _ _ _ Q I rx ry ⟨_, _, rfl, rfl, h⟩
theorem op_uGe : OpR X (compareOp .GtE) uGe := by
  intro pins s σ H x y v u Q I rx ry h
  cases x <;> cases y <;> first | exact h.elim | skip
  · exact op_ge pins s σ H _ _ _ _ Q I rx ry ⟨_, _, rfl, rfl, h⟩
  · exact op_ge_str pins s σ H _ _ _ _ Q I rx ry ⟨_, _, rfl, rfl, h⟩
theorem V_int_dec {i j : Int} : decide (V.int i = V.int j) = decide (i = j) := by
  rw [Bool.eq_iff_iff]; simp
theorem V_str_dec {i j : Str} : decide (V.str i = V.str j) = decide (i = j) := by
  rw [Bool.eq_iff_iff]; simp
theorem V_bl_dec {i j : Bool} : decide (V.bl i = V.bl j) = decide (i = j) := by
  rw [Bool.eq_iff_iff]; simp
theorem op_uEq (hu : X.A.units + 64 < cLine) : OpR X (compareOp .Eq) (uEq X.K) := by
  intro pins s σ H x y v u Q I rx ry h
  have gen : (scal x y = true ∧ Q (.bl (decide (x = y))) H) ∨ rEqD X.K x y H Q → _ := fun z => (op_eq.or (op_eqD hu)) pins s σ H x y v u Q I rx ry z
  refine gen ?_
  cases x <;> cases y <;> first | exact h | exact Or.inr h | skip
  · exact .inl ⟨rfl, h⟩
  · exact .inl ⟨rfl, by rw [V_bl_dec]; exact h⟩
  · exact .inl ⟨rfl, by rw [V_int_dec]; exact h⟩
  · exact .inl ⟨rfl, by rw [V_str_dec]; exact h⟩
theorem op_uNe (hu : X.A.units + 64 < cLine) : OpR X (compareOp .NotEq) (uNe X.K) := by
  intro pins s σ H x y v u Q I rx ry h
  have gen : (scal x y = true ∧ Q (.bl (!decide (x = y))) H) ∨ rNeD X.K x y H Q → _ := fun z => (op_ne.or (op_neD hu)) pins s σ H x y v u Q I rx ry z
  refine gen ?_
  cases x <;> cases y <;> first | exact h | exact Or.inr h | skip
  · exact .inl ⟨rfl, h⟩
  · exact .inl ⟨rfl, by rw [V_bl_dec]; exact h⟩
  · exact .inl ⟨rfl, by rw [V_int_dec]; exact h⟩
  · exact .inl ⟨rfl, by rw [V_str_dec]; exact h⟩
theorem op_uIs : OpR X (compareOp .Is) uIs := op_isN
theorem op_uIsNot : OpR X (compareOp .IsNot) uIsNot := op_notN
end

/-! ### items, lengths, kinds -/
def uIx (K : PySem.W.Frag) : R2 := fun x y H Q => match x, y with
  | .ref p, .int i => ∃ xs v, (SqL K H p xs ∨ SqT K H p xs) ∧ atI xs i = some v ∧ Q v H
  | .str z, .int i => ∃ c, z.length ≤ sizeLine ∧ atI z.cps.toList i = some c ∧ Q (.str ⟨#[c]⟩) H
  | _, _ => False
def uLen (K : PySem.W.Frag) : List V → Hp → VK → Prop := fun vs H Q => match vs with
  | [.ref p] => ∃ xs, (SqL K H p xs ∨ SqT K H p xs) ∧ Q (.int xs.length) H
  | [.str z] => z.length ≤ sizeLine ∧ Q (.int z.length) H
  | _ => False
def uInt : List V → Hp → VK → Prop := fun vs H Q => match vs with
  | [.int i] => Q (.int i) H
  | [.bl b] => Q (.int (if b then 1 else 0)) H
  | _ => False
def uMax : List V → Hp → VK → Prop := fun vs H Q => match vs with
  | [.int i, .int j] => Q (.int (if j > i then j else i)) H
  | _ => False
def uMin : List V → Hp → VK → Prop := fun vs H Q => match vs with
  | [.int i, .int j] => Q (.int (if j < i then j else i)) H
  | _ => False
def uAbs : List V → Hp → VK → Prop := fun vs H Q => match vs with
  | [.int i] => Q (.int (if i < 0 then -i else i)) H
  | _ => False
def uList (K : PySem.W.Frag) : List V → Hp → VK → Prop := fun vs H Q => match vs with
  | [.ref p] => ∃ xs, (SqL K H p xs ∨ SqT K H p xs) ∧ ∀ l, H l = none → Q (.ref l) (upd H l (.lst xs))
  | _ => False
def uTuple (K : PySem.W.Frag) : List V → Hp → VK → Prop := fun vs H Q => match vs with
  | [.ref p] => ∃ xs, (SqL K H p xs ∧ ∀ l, H l = none → Q (.ref l) (upd H l (.tup xs))) ∨ (SqT K H p xs ∧ Q (.ref p) H)
  | _ => False
/-- isinstance with one class -/
def uIsi (K : PySem.W.Frag) : List V → Hp → VK → Prop := fun vs H Q => match vs with
  | [x, c] => ∃ (t u : Value) (b : Bool), ClsV c u ∧ TyX K H x t ∧ PySem.W.kitOne K t u = some b ∧ Q (.bl b) H
  | _ => False
def tTru (K : PySem.W.Frag) (ta : TE) : TT := fun σ H Q => ta σ H fun x H' => ∃ k, TruV K x H' k ∧ Q k H'
def tCal (sp : Sp) (t : TA) : TE := fun σ H Q => t σ H fun vs H1 => sp vs H1 Q E0
section
variable {X : Cx}
theorem ix_uIx : IxR X (uIx X.K) := by
  intro ea eb pins s σ H x y v u Q I rx ry h hp
  cases x <;> cases y <;> first | exact h.elim | skip
  · obtain ⟨c, hz, ha, q⟩ := h
    exact ix_str ea eb pins s σ H _ _ _ _ Q I rx ry ⟨_, _, c, rfl, rfl, hz, ha, q⟩ hp
  · obtain ⟨xs, w, hl, ha, q⟩ := h
    rcases hl with hl | hl
    · exact ix_list ea eb pins s σ H _ _ _ _ Q I rx ry ⟨_, xs, _, w, rfl, rfl, hl, ha, q⟩ hp
    · exact ix_tup ea eb pins s σ H _ _ _ _ Q I rx ry ⟨_, xs, _, w, rfl, rfl, hl, ha, q⟩ hp
theorem call_uLen : CallR X (.builtin "len") (uLen X.K) := by
  intro pins s σ H vs us Q I r h
  rcases vs with _ | ⟨x, _ | ⟨y, t⟩⟩
  · exact h.elim
  · cases x <;> first | exact h.elim | skip
    · exact call_len pins s σ H _ _ Q I r ⟨_, _, rfl, ⟨h.1, rfl⟩, h.2⟩
    · obtain ⟨xs, hl, q⟩ := h
      refine call_len pins s σ H _ _ Q I r ⟨_, xs.length, rfl, ?_, q⟩
      rcases hl with hl | hl
      · exact .inl ⟨_, hl, rfl⟩
      · exact .inr ⟨_, hl, rfl⟩
  · cases x <;> exact h.elim
theorem call_uInt : CallR X (.type "int") uInt := by
  intro pins s σ H vs us Q I r h
  rcases vs with _ | ⟨x, _ | ⟨y, t⟩⟩
  · exact h.elim
  · cases x <;> first | exact h.elim | skip
    · exact call_int1 pins s σ H _ _ Q I r (.inr ⟨_, rfl, h⟩)
    · exact call_int1 pins s σ H _ _ Q I r (.inl ⟨_, rfl, h⟩)
  · cases x <;> exact h.elim
theorem call_uAbs : CallR X (.builtin "abs") uAbs := by
  intro pins s σ H vs us Q I r h
  rcases vs with _ | ⟨x, _ | ⟨y, t⟩⟩
  · exact h.elim
  · cases x <;> first | exact h.elim | skip
    exact call_abs pins s σ H _ _ Q I r ⟨_, rfl, h⟩
  · cases x <;> exact h.elim
theorem call_uMax (hc : X.calm = true) : CallR X (.builtin "max") uMax := by
  intro pins s σ H vs us Q I r h
  rcases vs with _ | ⟨x, _ | ⟨y, _ | ⟨z, t⟩⟩⟩
  · exact h.elim
  · cases x <;> exact h.elim
  · cases x <;> cases y <;> first | exact h.elim | skip
    exact call_max2 hc pins s σ H _ _ Q I r ⟨_, _, rfl, h⟩
  · cases x <;> cases y <;> exact h.elim
theorem call_uMin (hc : X.calm = true) : CallR X (.builtin "min") uMin := by
  intro pins s σ H vs us Q I r h
  rcases vs with _ | ⟨x, _ | ⟨y, _ | ⟨z, t⟩⟩⟩
  · exact h.elim
  · cases x <;> exact h.elim
  · cases x <;> cases y <;> first | exact h.elim | skip
    exact call_min2 hc pins s σ H _ _ Q I r ⟨_, _, rfl, h⟩
  · cases x <;> cases y <;> exact h.elim
theorem call_uList : CallR X (.type "list") (uList X.K) := by
  intro pins s σ H vs us Q I r h
  rcases vs with _ | ⟨x, _ | ⟨y, t⟩⟩
  · exact h.elim
  · cases x <;> first | exact h.elim | skip
    obtain ⟨xs, hl, q⟩ := h
    exact call_list_of pins s σ H _ _ Q I r ⟨_, xs, rfl, hl, q⟩
  · cases x <;> exact h.elim
theorem call_uTuple : CallR X (.type "tuple") (uTuple X.K) := by
  intro pins s σ H vs us Q I r h
  rcases vs with _ | ⟨x, _ | ⟨y, t⟩⟩
  · exact h.elim
  · cases x <;> first | exact h.elim | skip
    obtain ⟨xs, hl⟩ := h
    exact call_tuple_of pins s σ H _ _ Q I r ⟨_, xs, rfl, hl⟩
  · cases x <;> exact h.elim
theorem call_uIsi : CallR X (.builtin "isinstance") (uIsi X.K) := by
  intro pins s σ H vs us Q I r h
  rcases vs with _ | ⟨x, _ | ⟨y, _ | ⟨z, t⟩⟩⟩
  · exact h.elim
  · exact h.elim
  · obtain ⟨t, u, b, k, ty, e, q⟩ := h
    exact call_isi pins s σ H _ _ Q I r ⟨_, _, t, u, b, rfl, k, ty, e, q⟩
  · exact h.elim
theorem pt_u {a : Expr} {ta : TE} (ha : PE X a ta) (he : ∀ whole, isTrue a X.env whole = (do let v ← whole; standAt a.pos; holding [v] (truthy v)) := by intro _; rfl) : PT X a (tTru X.K ta) := pt_truth ha he
end

/-! ### a def of the text, as those who call it know it -/
structure Dfn (P : Program) (w : World) (K : PySem.W.Frag) (mg : Str → Option Value) (base : Heap) (k : Nat) (x : Str) (ps : List Str) (sp : Sp) : Prop where
  ex : ∃ (f : Addr) (fd : FuncData), mg x = some (.ref f) ∧ PySem.W.keepIn K (.ref f) = true ∧ Binds K fd ps [] ∧ FnOk P w K mg base CX0 k f fd ps sp
theorem nil_sp (sp : Sp) (t : TA) : tCall sp [] E0 t = tCal sp t := by
  funext σ H Q
  simp only [tCall, tCal, List.append_nil]
section
variable {X : Cx} {k : Nat} {x : Str} {ps : List Str} {sp : Sp} {p pos : Pos} {e : Expr} {es : List Expr} {t : TA}
theorem z_call (D : Dfn X.prog X.w X.K X.mg X.base k x ps sp) (hr : Room k X.A) (hg : Gl X x) (ha : PA X (e :: es) t) (hdb : (x == ("__debug__" : Str)) = false := by decide)
    (he : starEach (e :: es) X.env = (false, eval e X.env) :: starEach es X.env := by rfl) (hpl : (backTo pos (starEach es X.env)).any (·.1) = false := by rfl) : PE X (.Call (.Name x p) (e :: es) [] pos) (tCal sp t) := by
  obtain ⟨f, fd, hm, hk, hb, F⟩ := D.ex
  rw [← nil_sp]
  exact pe_call F hr hg hm hk hb .nil pass0 ha hdb he hpl
theorem z_call0 (D : Dfn X.prog X.w X.K X.mg X.base k x ps sp) (hr : Room k X.A) (hg : Gl X x) (hdb : (x == ("__debug__" : Str)) = false := by decide) : PE X (.Call (.Name x p) [] [] pos) (tCal sp tNil) := by
  obtain ⟨f, fd, hm, hk, hb, F⟩ := D.ex
  rw [← nil_sp]
  exact pe_call0 F hr hg hm hk hb .nil pass0 hdb
/-- a list or a tuple that is walked -/
def iSeq (K : PySem.W.Frag) (tl : TE) : TI := fun σ H R => iList K tl σ H R ∨ iTup K tl σ H R
theorem pi_seq {tg l : Expr} {tl : TE} (hl : PE X l tl) : PI X tg l (iSeq X.K tl) := by
  have h1 := pi_list (tg := tg) hl
  have h2 := pi_tup (tg := tg) hl
  refine ⟨fun pins s σ H R I h => ?_⟩
  rcases h with h | h
  · exact h1.run pins s σ H R I h
  · exact h2.run pins s σ H R I h
end

/-! ### the steps of a reading -/
def zNewL (xs : List V) (H : Hp) (Q : VK) : Prop := xs.length ≤ sizeLine ∧ ∀ p, H p = none → Q (.ref p) (upd H p (.lst xs))
def zNewT (xs : List V) (H : Hp) (Q : VK) : Prop := xs.length ≤ sizeLine ∧ ∀ p, H p = none → Q (.ref p) (upd H p (.tup xs))
section
variable {K : PySem.W.Frag} {σ : St} {H : Hp} {i : Nat} {v : V} {Q : VK} {QA : List V → Hp → Prop} {QB : Bool → Hp → Prop} {r : R2} {r1 : V → Hp → VK → Prop} {rl : List V → Hp → VK → Prop} {ta tb te : TE} {tr t : TA} {c u : TT} {sp : Sp} {xs : List V} {a b : Int} {x y : Str} {p q : Addr} {bb : Bool} {D : Ends} {t1 t2 : TS}
theorem z_var (h : σ[i]? = some (some v)) (k : Q v H) : tVar i σ H Q := ⟨v, h, k⟩
theorem z_c (k : Q v H) : tC v σ H Q := k
theorem z_op (k : ta σ H fun x H1 => tb σ H1 fun y H2 => r x y H2 Q) : tOp r ta tb σ H Q := k
theorem z_un (k : ta σ H fun x H1 => r1 x H1 Q) : tUn r1 ta σ H Q := k
theorem z_cb (k : t σ H fun vs H1 => rl vs H1 Q) : tCB rl t σ H Q := k
theorem z_cal (k : t σ H fun vs H1 => sp vs H1 Q E0) : tCal sp t σ H Q := k
theorem z_nil (k : QA [] H) : tNil σ H QA := k
theorem z_cons (k : ta σ H fun x H1 => tr σ H1 fun xs H2 => QA (x :: xs) H2) : tCons ta tr σ H QA := k
theorem z_lst (k : t σ H fun xs H1 => zNewL xs H1 Q) : tLst t σ H Q := k
theorem z_tup (k : t σ H fun xs H1 => zNewT xs H1 Q) : tTup t σ H Q := k
theorem z_newL (h : xs.length ≤ 100000) (k : ∀ p, H p = none → Q (.ref p) (upd H p (.lst xs))) : zNewL xs H Q := ⟨Nat.le_trans h (by decide), k⟩
theorem z_newT (h : xs.length ≤ 100000) (k : ∀ p, H p = none → Q (.ref p) (upd H p (.tup xs))) : zNewT xs H Q := ⟨Nat.le_trans h (by decide), k⟩
theorem z_test (k : te σ H fun x H' => ∃ k, x = .bl k ∧ QB k H') : tTest te σ H QB := k
theorem z_bl (k : QB bb H) : ∃ k, V.bl bb = .bl k ∧ QB k H := ⟨bb, rfl, k⟩
theorem z_tru (k : te σ H fun x H' => ∃ k, TruV K x H' k ∧ QB k H') : tTru K te σ H QB := k
theorem z_trub {P : Bool → Prop} (k : P bb) : ∃ k, TruV K (.bl bb) H k ∧ P k := ⟨bb, rfl, k⟩
theorem z_trui {P : Bool → Prop} (k : P (a != 0)) : ∃ k, TruV K (.int a) H k ∧ P k := ⟨_, rfl, k⟩
theorem z_and (k : c σ H fun b H1 => if b = true then u σ H1 QB else QB false H1) : tAnd c u σ H QB := k
theorem z_or (k : c σ H fun b H1 => if b = true then QB true H1 else u σ H1 QB) : tOr c u σ H QB := k
theorem z_not (k : c σ H fun b H1 => QB (!b) H1) : tNot c σ H QB := k
theorem z_andV (k : ta σ H fun x H1 => ∃ c, x = .bl c ∧ if c = true then tb σ H1 Q else Q (.bl false) H1) : tAndV ta tb σ H Q := k
theorem z_orV (k : ta σ H fun x H1 => ∃ c, x = .bl c ∧ if c = true then Q (.bl true) H1 else tb σ H1 Q) : tOrV ta tb σ H Q := k
theorem z_notV (k : ta σ H fun x H1 => ∃ c, x = .bl c ∧ Q (.bl (!c)) H1) : tNotV ta σ H Q := k
theorem z_if (k : c σ H fun b H1 => if b = true then ta σ H1 Q else tb σ H1 Q) : tIf c ta tb σ H Q := k
theorem z_bl1 {P : Bool → Prop} (k : P bb) : ∃ k, V.bl bb = .bl k ∧ P k := ⟨bb, rfl, k⟩
-- operators
theorem z_add (k : Q (.int (a + b)) H) : uAdd K (.int a) (.int b) H Q := k
theorem z_addS (h : x.length + y.length ≤ 100000) (k : Q (.str (x ++ y)) H) : uAdd K (.str x) (.str y) H Q := ⟨Nat.le_trans h (by decide), k⟩
theorem z_addL {xs ys : List V} (h1 : H p = some (.lst xs)) (h2 : H q = some (.lst ys)) (h : xs.length + ys.length ≤ 100000) (k : ∀ l, H l = none → Q (.ref l) (upd H l (.lst (xs ++ ys)))) : uAdd K (.ref p) (.ref q) H Q :=
  .inl ⟨p, q, xs, ys, rfl, rfl, h1, h2, Nat.le_trans h (by decide), k⟩
theorem z_sub (k : Q (.int (a - b)) H) : uSub (.int a) (.int b) H Q := k
theorem z_mul (h : MulOk a b) (k : Q (.int (a * b)) H) : uMul (.int a) (.int b) H Q := ⟨h, k⟩
theorem z_div (h : CDivW a b) (k : Q (.int (a / b)) H) : uDiv (.int a) (.int b) H Q := ⟨h, k⟩
theorem z_mod (h : 0 < b) (k : Q (.int (a % b)) H) : uMod (.int a) (.int b) H Q := ⟨h, k⟩
theorem z_pow (h : CPow a b) (k : Q (.int (a ^ b.toNat)) H) : uPow (.int a) (.int b) H Q := ⟨h, k⟩
theorem z_neg (k : Q (.int (-a)) H) : uNeg (.int a) H Q := k
theorem z_lt (k : Q (.bl (decide (a < b))) H) : uLt K (.int a) (.int b) H Q := k
theorem z_ltS (k : Q (.bl (decide (x.cps.toList < y.cps.toList))) H) : uLt K (.str x) (.str y) H Q := k
theorem z_le (k : Q (.bl (decide (a ≤ b))) H) : uLe (.int a) (.int b) H Q := k
theorem z_leS (k : Q (.bl (!decide (y.cps.toList < x.cps.toList))) H) : uLe (.str x) (.str y) H Q := k
theorem z_gt (k : Q (.bl (decide (b < a))) H) : uGt (.int a) (.int b) H Q := k
theorem z_gtS (k : Q (.bl (decide (y.cps.toList < x.cps.toList))) H) : uGt (.str x) (.str y) H Q := k
theorem z_ge (k : Q (.bl (decide (b ≤ a))) H) : uGe (.int a) (.int b) H Q := k
theorem z_geS (k : Q (.bl (!decide (x.cps.toList < y.cps.toList))) H) : uGe (.str x) (.str y) H Q := k
theorem z_eq (k : Q (.bl (decide (a = b))) H) : uEq K (.int a) (.int b) H Q := k
theorem z_eqS (k : Q (.bl (decide (x = y))) H) : uEq K (.str x) (.str y) H Q := k
theorem z_eqB {a b : Bool} (k : Q (.bl (decide (a = b))) H) : uEq K (.bl a) (.bl b) H Q := k
theorem z_eqN (k : Q (.bl true) H) : uEq K .non .non H Q := k
theorem z_eqIS (k : Q (.bl false) H) : uEq K (.int a) (.str x) H Q := .inl ⟨rfl, by rw [decide_eq_false (by intro z; cases z)]; exact k⟩
theorem z_eqSI (k : Q (.bl false) H) : uEq K (.str x) (.int a) H Q := .inl ⟨rfl, by rw [decide_eq_false (by intro z; cases z)]; exact k⟩
theorem z_eqD {d e : PyData} (h1 : Dp K H (.ref p) d) (h2 : Dp K H (.ref q) e) (s1 : SeqAt.shaped d = true) (s2 : SeqAt.shaped e = true) (k : Q (.bl (PyData.eqv d e)) H) : uEq K (.ref p) (.ref q) H Q := ⟨d, e, h1, h2, s1, s2, k⟩
theorem z_ne (k : Q (.bl (!decide (a = b))) H) : uNe K (.int a) (.int b) H Q := k
theorem z_neS (k : Q (.bl (!decide (x = y))) H) : uNe K (.str x) (.str y) H Q := k
theorem z_neB {a b : Bool} (k : Q (.bl (!decide (a = b))) H) : uNe K (.bl a) (.bl b) H Q := k
theorem z_neN (k : Q (.bl false) H) : uNe K .non .non H Q := k
theorem z_neIS (k : Q (.bl true) H) : uNe K (.int a) (.str x) H Q := .inl ⟨rfl, by rw [decide_eq_false (by intro z; cases z)]; exact k⟩
theorem z_neSI (k : Q (.bl true) H) : uNe K (.str x) (.int a) H Q := .inl ⟨rfl, by rw [decide_eq_false (by intro z; cases z)]; exact k⟩
theorem z_neD {d e : PyData} (h1 : Dp K H (.ref p) d) (h2 : Dp K H (.ref q) e) (s1 : SeqAt.shaped d = true) (s2 : SeqAt.shaped e = true) (k : Q (.bl (!PyData.eqv d e)) H) : uNe K (.ref p) (.ref q) H Q := ⟨d, e, h1, h2, s1, s2, k⟩
theorem z_is (k : Q (.bl (decide (v = .non))) H) : uIs v .non H Q := ⟨rfl, k⟩
theorem z_isNot (k : Q (.bl (!decide (v = .non))) H) : uIsNot v .non H Q := ⟨rfl, k⟩
-- items, built-ins
theorem z_ix (h : SqL K H p xs ∨ SqT K H p xs) (e : atI xs a = some v) (k : Q v H) : uIx K (.ref p) (.int a) H Q := ⟨xs, v, h, e, k⟩
theorem z_len (h : SqL K H p xs ∨ SqT K H p xs) (k : Q (.int xs.length) H) : uLen K [.ref p] H Q := ⟨xs, h, k⟩
theorem z_int (k : Q (.int a) H) : uInt [.int a] H Q := k
theorem z_max (k : Q (.int (if b > a then b else a)) H) : uMax [.int a, .int b] H Q := k
theorem z_min (k : Q (.int (if b < a then b else a)) H) : uMin [.int a, .int b] H Q := k
theorem z_abs (k : Q (.int (if a < 0 then -a else a)) H) : uAbs [.int a] H Q := k
theorem z_list (h : SqL K H p xs ∨ SqT K H p xs) (k : ∀ l, H l = none → Q (.ref l) (upd H l (.lst xs))) : uList K [.ref p] H Q := ⟨xs, h, k⟩
theorem z_tupleL (h : SqL K H p xs) (k : ∀ l, H l = none → Q (.ref l) (upd H l (.tup xs))) : uTuple K [.ref p] H Q := ⟨xs, .inl ⟨h, k⟩⟩
theorem z_tupleT (h : SqT K H p xs) (k : Q (.ref p) H) : uTuple K [.ref p] H Q := ⟨xs, .inr ⟨h, k⟩⟩
theorem z_isi {w : V} {t' u' : Value} (h1 : ClsV w u') (h2 : TyX K H v t') (h3 : PySem.W.kitOne K t' u' = some bb) (k : Q (.bl bb) H) : uIsi K [v, w] H Q := ⟨t', u', bb, h1, h2, h3, k⟩
theorem z_isii (k : Q (.bl true) H) : uIsi K [.int a, .ty "int"] H Q := ⟨_, _, true, .ty _, .base (.int a), rfl, k⟩
theorem z_isib (k : Q (.bl false) H) : uIsi K [.int a, .ty "bool"] H Q := ⟨_, _, false, .ty _, .base (.int a), rfl, k⟩
-- statements
theorem z_seq (k : t1 { D with nx := t2 D } σ H) : tSeq t1 t2 D σ H := k
theorem z_next (k : D.nx σ H) : tNext D σ H := k
theorem z_brk (k : D.bk σ H) : tBreak D σ H := k
theorem z_cont (k : D.ct σ H) : tCont D σ H := k
theorem z_ret (k : te σ H D.rt) : tRet te D σ H := k
theorem z_retN (k : D.rt .non H) : tRetN D σ H := k
theorem z_asg (k : te σ H fun x H1 => D.nx (σ.set i (some x)) H1) : tAsg te (gName i) D σ H := k
theorem z_drop (k : te σ H fun _ H1 => D.nx σ H1) : tDrop te D σ H := k
theorem z_ifS (k : c σ H fun b H1 => if b = true then t1 D σ H1 else t2 D σ H1) : tIfS c t1 t2 D σ H := k
theorem z_iteT {A B : Prop} (k : A) : if true = true then A else B := by rw [if_pos rfl]; exact k
theorem z_iteF {A B : Prop} (k : B) : if false = true then A else B := by rw [if_neg Bool.false_ne_true]; exact k
theorem z_iteT' {A B : Prop} (e : bb = true) (k : A) : if bb = true then A else B := by rw [if_pos e]; exact k
theorem z_iteF' {A B : Prop} (e : bb = false) (k : B) : if bb = true then A else B := by rw [if_neg (by rw [e]; exact Bool.false_ne_true)]; exact k
theorem z_ite {A B : Prop} (h1 : bb = true → A) (h2 : bb = false → B) : if bb = true then A else B := by
  cases bb with
  | true => rw [if_pos rfl]; exact h1 rfl
  | false => rw [if_neg Bool.false_ne_true]; exact h2 rfl
theorem z_itD {A B P : Prop} [Decidable P] (h1 : P → A) (h2 : ¬ P → B) : if decide P = true then A else B := by
  by_cases h : P
  · rw [if_pos (decide_eq_true h)]; exact h1 h
  · rw [if_neg (by rw [decide_eq_false h]; exact Bool.false_ne_true)]; exact h2 h
theorem z_itN {A B P : Prop} [Decidable P] (h1 : ¬ P → A) (h2 : P → B) : if (!decide P) = true then A else B := by
  by_cases h : P
  · rw [decide_eq_true h, if_neg (by decide)]; exact h2 h
  · rw [decide_eq_false h, if_pos (by decide)]; exact h1 h
-- loops
def zRng (g : TG) (tb : TS) (D : Ends) (σ : St) (lo : Int) (n : Nat) (H1 : Hp) : Prop := ∃ W : Nat → Nat → St → Hp → Prop, (∃ m, W 0 m σ H1) ∧ ∀ i m σ H, W i m σ H →
  ((Itr lo n).stop i H ∧ D.nx σ H) ∨ ((Itr lo n).go i H ∧ ∃ N : St → Hp → Prop, (∀ σ' H', N σ' H' → ∃ m', m' < m ∧ W (i + 1) m' σ' H') ∧ ∀ x H', (Itr lo n).yld i H x H' → g x σ H' fun σ2 H2 => tb { D with nx := N, ct := N, bk := D.nx } σ2 H2)
def zRng1 (g : TG) (tb : TS) (D : Ends) (σ : St) (vs : List V) (H1 : Hp) : Prop := ∃ j : Int, vs = [.int j] ∧ -(2 ^ 62) ≤ j ∧ j < 2 ^ 62 ∧ zRng g tb D σ 0 j.toNat H1
def zRng2 (g : TG) (tb : TS) (D : Ends) (σ : St) (vs : List V) (H1 : Hp) : Prop := ∃ i j : Int, vs = [.int i, .int j] ∧ (-(2 ^ 62) ≤ i ∧ i < 2 ^ 62 ∧ -(2 ^ 62) ≤ j ∧ j < 2 ^ 62) ∧ zRng g tb D σ i (j - i).toNat H1
def zIt (K : PySem.W.Frag) (g : TG) (tb : TS) (D : Ends) (σ : St) (v : V) (H1 : Hp) : Prop := ∃ a xs, v = .ref a ∧ ((SqL K H1 a xs ∧ ∃ W : Nat → Nat → St → Hp → Prop, (∃ m, W 0 m σ H1) ∧ ∀ i m σ H, W i m σ H →
  ((Itl K a).stop i H ∧ D.nx σ H) ∨ ((Itl K a).go i H ∧ ∃ N : St → Hp → Prop, (∀ σ' H', N σ' H' → ∃ m', m' < m ∧ W (i + 1) m' σ' H') ∧ ∀ x H', (Itl K a).yld i H x H' → g x σ H' fun σ2 H2 => tb { D with nx := N, ct := N, bk := D.nx } σ2 H2)) ∨
  (SqT K H1 a xs ∧ ∃ W : Nat → Nat → St → Hp → Prop, (∃ m, W 0 m σ H1) ∧ ∀ i m σ H, W i m σ H →
  ((Itt K a).stop i H ∧ D.nx σ H) ∨ ((Itt K a).go i H ∧ ∃ N : St → Hp → Prop, (∀ σ' H', N σ' H' → ∃ m', m' < m ∧ W (i + 1) m' σ' H') ∧ ∀ x H', (Itt K a).yld i H x H' → g x σ H' fun σ2 H2 => tb { D with nx := N, ct := N, bk := D.nx } σ2 H2)))
def iSq (K : PySem.W.Frag) (tl : TE) : TI := fun σ H R => tl σ H fun x H1 => ∃ a, x = .ref a ∧ (((∃ xs, SqL K H1 a xs) ∧ R (Itl K a) H1) ∨ ((∃ xs, SqT K H1 a xs) ∧ R (Itt K a) H1))
variable {g : TG} {ti : TS}
theorem z_for1 (k : t σ H fun vs H1 => zRng1 g ti D σ vs H1) : tFor (iRng1 t) g ti D σ H := k
theorem z_for2 (k : t σ H fun vs H1 => zRng2 g ti D σ vs H1) : tFor (iRng2 t) g ti D σ H := k
theorem z_rng1 {j : Int} (hb : j ≤ 1000000) (h : zRng g ti D σ 0 j.toNat H) (hb2 : -1000000 ≤ j) : zRng1 g ti D σ [.int j] H := ⟨j, rfl, by omega, by omega, h⟩
theorem z_rng2 {i j : Int} (h : zRng g ti D σ i (j - i).toNat H) (hb : -1000000 ≤ i ∧ i ≤ 1000000 ∧ -1000000 ≤ j ∧ j ≤ 1000000) : zRng2 g ti D σ [.int i, .int j] H := ⟨i, j, rfl, by omega, h⟩
/-- over a range: Pv by turns done, slots, heap -/
theorem z_rng {lo : Int} {n v : Nat} (Pv : Nat → St → Hp → Prop) (h0 : Pv 0 σ H)
    (hs : ∀ i σ H, i < n → Pv i σ H → ti { D with nx := Pv (i + 1), ct := Pv (i + 1), bk := D.nx } (σ.set v (some (.int (lo + i)))) H) (hd : ∀ σ H, Pv n σ H → D.nx σ H) : zRng (gName v) ti D σ lo n H :=
  for_range (g := gName v) (tb := ti) (D := D) Pv h0 hs hd
theorem z_while (Pv : Nat → St → Hp → Prop) (m : Nat) (h0 : Pv m σ H)
    (hs : ∀ m σ H, Pv m σ H → c σ H fun b H1 => if b = true then ∃ N : St → Hp → Prop, (∀ σ' H', N σ' H' → ∃ m', m' < m ∧ Pv m' σ' H') ∧ ti { D with nx := N, ct := N, bk := D.nx } σ H1 else D.nx σ H1) : tWhile c ti D σ H :=
  ⟨Pv, ⟨m, h0⟩, hs⟩
theorem z_turn {m : Nat} {Pv : Nat → St → Hp → Prop} {bk : St → Hp → Prop} (k : ti { D with nx := fun σ' H' => ∃ m', m' < m ∧ Pv m' σ' H', ct := fun σ' H' => ∃ m', m' < m ∧ Pv m' σ' H', bk := bk } σ H) :
    ∃ N : St → Hp → Prop, (∀ σ' H', N σ' H' → ∃ m', m' < m ∧ Pv m' σ' H') ∧ ti { D with nx := N, ct := N, bk := bk } σ H := ⟨_, fun _ _ h => h, k⟩
theorem mul1 (h : -1000000000000000000 < a ∧ a < 1000000000000000000) : MulOk a b := .inl (.inl (by omega))
theorem mul2 (h : -1000000000000000000 < b ∧ b < 1000000000000000000) : MulOk a b := .inl (.inr (by omega))
theorem div1 (h : 0 < b ∧ b < 1000000000000000000) : CDivW a b := wide_div h.1 (b := 64) (by omega) (by decide) (by decide)
end
/-! ### heaps -/
theorem lk_ne {H : Hp} {a b : Addr} {o u : HO} (h : a ≠ b) (e : H a = some u) : upd H b o a = some u := by rw [upd_ne h]; exact e
theorem ne_n {H : Hp} {a b : Addr} {o : HO} (h' : H b = none) (h : H a = some o) : a ≠ b := ne_of_none h h'
theorem sqL_new {K : PySem.W.Frag} {H : Hp} {a b : Addr} {o : HO} {xs : List V} (h : H b = none) (e : SqL K H a xs) : SqL K (upd H b o) a xs := by
  rcases e with (e | ⟨u, e⟩) | e
  · exact .inl (.inl (lk_ne (ne_of_none e h) e))
  · exact .inl (.inr ⟨u, lk_ne (ne_of_none e h) e⟩)
  · exact .inr e
theorem sqT_new {K : PySem.W.Frag} {H : Hp} {a b : Addr} {o : HO} {xs : List V} (h : H b = none) (e : SqT K H a xs) : SqT K (upd H b o) a xs := by
  rcases e with (e | ⟨u, e⟩) | e
  · exact .inl (.inl (lk_ne (ne_of_none e h) e))
  · exact .inl (.inr ⟨u, lk_ne (ne_of_none e h) e⟩)
  · exact .inr e
theorem sqL_ne {K : PySem.W.Frag} {H : Hp} {a b : Addr} {o : HO} {xs : List V} (h : a ≠ b) (e : SqL K H a xs) : SqL K (upd H b o) a xs := by
  rcases e with (e | ⟨u, e⟩) | e
  · exact .inl (.inl (lk_ne h e))
  · exact .inl (.inr ⟨u, lk_ne h e⟩)
  · exact .inr e
theorem sqT_ne {K : PySem.W.Frag} {H : Hp} {a b : Addr} {o : HO} {xs : List V} (h : a ≠ b) (e : SqT K H a xs) : SqT K (upd H b o) a xs := by
  rcases e with (e | ⟨u, e⟩) | e
  · exact .inl (.inl (lk_ne h e))
  · exact .inl (.inr ⟨u, lk_ne h e⟩)
  · exact .inr e
/-- all that was tracked is as it was, but what stands at st -/
def ExB (st : Addr) (H H' : Hp) : Prop := ∀ a o, a ≠ st → H a = some o → H' a = some o
theorem ExB.lk {st a : Addr} {H H' : Hp} {o : HO} (x : ExB st H H') (h : a ≠ st) (e : H a = some o) : H' a = some o := x a o h e
theorem Same.lk {a : Addr} {H H' : Hp} {o : HO} (x : Same H H') (e : H a = some o) : H' a = some o := x a o e
theorem ExB.sqL {K : PySem.W.Frag} {st a : Addr} {H H' : Hp} {xs : List V} (x : ExB st H H') (h : a ≠ st) (e : SqL K H a xs) : SqL K H' a xs := by
  rcases e with (e | ⟨u, e⟩) | e
  · exact .inl (.inl (x _ _ h e))
  · exact .inl (.inr ⟨u, x _ _ h e⟩)
  · exact .inr e
theorem ExB.sqT {K : PySem.W.Frag} {st a : Addr} {H H' : Hp} {xs : List V} (x : ExB st H H') (h : a ≠ st) (e : SqT K H a xs) : SqT K H' a xs := by
  rcases e with (e | ⟨u, e⟩) | e
  · exact .inl (.inl (x _ _ h e))
  · exact .inl (.inr ⟨u, x _ _ h e⟩)
  · exact .inr e
theorem ExB.refl (st : Addr) (H : Hp) : ExB st H H := fun _ _ _ e => e
theorem ExB.trans {st : Addr} {H H1 H2 : Hp} (x : ExB st H H1) (y : ExB st H1 H2) : ExB st H H2 := fun a o h e => y a o h (x a o h e)
theorem ExB.upd {st : Addr} {H H1 : Hp} {o : HO} (x : ExB st H H1) : ExB st H (upd H1 st o) := fun a u h e => lk_ne h (x a u h e)
theorem ExB.new {st p : Addr} {H H1 : Hp} {o : HO} (x : ExB st H H1) (h : H p = none) : ExB st H (L2.upd H1 p o) := fun a u ha e => lk_ne (ne_of_none e h) (x a u ha e)

section
variable {K : PySem.W.Frag} {σ : St} {H : Hp} {Q : VK} {te ta tb : TE} {t u : TS} {D : Ends} {p : Addr} {xs : List V} {a : Int} {v : V} {j : Nat}
theorem z_cutI (k : t { D with nx := u D } σ H) : tCut t u D σ H := ⟨u D, k, fun _ _ h => h⟩
theorem z_cut (M : St → Hp → Prop) (k : t { D with nx := M } σ H) (h : ∀ σ' H', M σ' H' → u D σ' H') : tCut t u D σ H := ⟨M, k, h⟩
theorem z_asgS (k : te σ H fun x H1 => ta σ H1 fun o H2 => tb σ H2 fun i H3 => rSetL o i x H3 fun H4 => D.nx σ H4) : tAsg te (gSub ta tb rSetL) D σ H := k
theorem z_setL {Q : Hp → Prop} (h : H p = some (.lst xs)) (e : ixN xs.length a = some j) (k : Q (upd H p (.lst (xs.set j v)))) : rSetL (.ref p) (.int a) v H Q := ⟨p, xs, a, j, rfl, rfl, h, e, k⟩
theorem z_app {l : Addr} {r : List V → Hp → Prop} (h : H p = some (.lst xs)) (hl : xs.length < 100000) (k : Q .non (upd H p (.lst (xs ++ [v])))) : rAppend (.ref p) [v] H Q := ⟨p, xs, v, rfl, rfl, h, Nat.lt_of_lt_of_le hl (by decide), k⟩
theorem tyL (h : H p = some (.lst xs)) : tyV K "list" (.ref p) H := Or.inl ⟨rfl, _, Or.inl (Or.inl h)⟩
theorem z_bm {T : String} {r : V → List V → Hp → VK → Prop} {to : TE} {t : TA} (k : to σ H fun x H1 => tyV K T x H1 ∧ t σ H1 fun xs H2 => r x xs H2 Q) : tBM K T r to t σ H Q := k
theorem upd_self {H : Hp} {a : Addr} {o : HO} (h : H a = some o) : upd H a o = H := by
  funext b; unfold upd; split
  · rename_i e; subst e; exact h.symm
  · rfl
theorem ix_at {α : Type} {xs : List α} {i : Int} (h0 : 0 ≤ i) (h1 : i < xs.length) : ixN xs.length i = some i.toNat := by
  unfold ixN; rw [if_pos h0, if_pos h1]
theorem at_int {ns : List Int} {i : Int} (h0 : 0 ≤ i) (h1 : i < ns.length) : atI (ns.map V.int) i = some (.int (ns.getD i.toNat 0)) := by
  unfold atI
  rw [ix_at h0 (by simpa using h1)]
  have : i.toNat < ns.length := by omega
  simp [List.getD, this]
end
/-- a body keeps its promise, from the promise as it was handed in -/
def Wd (T : TS) (N : List Str) (n : Nat) (sp : Sp) : Prop := ∀ (vs : List V) (H : Hp) (Q : VK) (E : XK), sp vs H Q E → vs.length = n ∧ T { nx := fun _ H' => Q .non H', rt := Q } (start N vs) H

local macro_rules | `(tactic| walk_at "ne") => `(tactic| first | (with_reducible assumption) | (with_reducible exact Ne.symm (by assumption)) | (exact ne_n (by with_reducible assumption) (by walk_at "lk")) | (exact Ne.symm (ne_n (by with_reducible assumption) (by walk_at "lk"))))
local macro_rules | `(tactic| walk_at "lk") => `(tactic| first | (with_reducible assumption) | (with_reducible exact upd_same) | (with_reducible exact lk_ne (by walk_at "ne") (by walk_at "lk")) | (with_reducible exact ExB.lk (by assumption) (by walk_at "ne") (by walk_at "lk")) | (with_reducible exact Same.lk (by assumption) (by walk_at "lk")))
local macro_rules | `(tactic| walk_at "sqL") => `(tactic| first | (with_reducible assumption) | (exact SqL.of (by walk_at "lk")) | (with_reducible exact sqL_new (by assumption) (by walk_at "sqL")) | (with_reducible exact sqL_ne (by walk_at "ne") (by walk_at "sqL")) | (with_reducible exact ExB.sqL (by assumption) (by walk_at "ne") (by walk_at "sqL")) | (with_reducible exact Same.seq (by assumption) (by walk_at "sqL")))
local macro_rules | `(tactic| walk_at "sqT") => `(tactic| first | (with_reducible assumption) | (exact SqT.of (by walk_at "lk")) | (with_reducible exact sqT_new (by assumption) (by walk_at "sqT")) | (with_reducible exact sqT_ne (by walk_at "ne") (by walk_at "sqT")) | (with_reducible exact ExB.sqT (by assumption) (by walk_at "ne") (by walk_at "sqT")))
local macro_rules | `(tactic| walk_at "sq") => `(tactic| first | exact Or.inl (by walk_at "sqL") | exact Or.inr (by walk_at "sqT"))
local macro_rules | `(tactic| walk_at "mulok") => `(tactic| first | exact mul1 (by omega) | exact mul2 (by omega))
local macro_rules | `(tactic| walk_at "few") => `(tactic| (simp only [List.length_cons, List.length_nil]; with_unfolding_all decide))
local macro_rules | `(tactic| walk_at "zo") => `(tactic| (with_reducible first
  | refine z_add ?_ | refine z_sub ?_ | refine z_lt ?_ | refine z_le ?_ | refine z_gt ?_ | refine z_ge ?_ | refine z_eq ?_ | refine z_ne ?_ | refine z_neg ?_ | refine z_int ?_ | refine z_max ?_ | refine z_min ?_ | refine z_abs ?_
  | refine z_eqS ?_ | refine z_neS ?_ | refine z_eqIS ?_ | refine z_eqSI ?_ | refine z_neIS ?_ | refine z_neSI ?_ | refine z_eqB ?_ | refine z_neB ?_ | refine z_eqN ?_ | refine z_neN ?_ | refine z_is ?_ | refine z_isNot ?_
  | refine z_ltS ?_ | refine z_leS ?_ | refine z_gtS ?_ | refine z_geS ?_ | refine z_isii ?_ | refine z_isib ?_))
local macro_rules | `(tactic| walk_at "zp") => `(tactic| with_reducible first
  | ((show uMul _ _ _ _); refine z_mul (by walk_at "mulok") ?_)
  | ((show uDiv _ _ _ _); refine z_div (by exact div1 (by omega)) ?_)
  | ((show uMod _ _ _ _); refine z_mod (by omega) ?_)
  | ((show uPow _ _ _ _); refine z_pow (by with_unfolding_all exact ⟨by decide, by decide, by decide⟩) ?_; (simp only [Int.reduceToNat, Int.reducePow]))
  | ((show uIx _ _ _ _ _); refine z_ix (by walk_at "sq") (by first | with_unfolding_all rfl | assumption) ?_)
  | ((show uLen _ _ _ _); refine z_len (by walk_at "sq") ?_)
  | ((show uList _ _ _ _); refine z_list (by walk_at "sq") ?_; intro _ _)
  | ((show rSetL _ _ _ _ _); refine z_setL (by walk_at "lk") (by with_unfolding_all rfl) ?_)
  | ((show zNewL _ _ _); refine z_newL (by walk_at "few") ?_; intro _ _)
  | ((show zNewT _ _ _); refine z_newT (by walk_at "few") ?_; intro _ _))
local macro_rules | `(tactic| walk_at "ze") => `(tactic| (with_reducible first
  | ((show tVar _ _ _ _); refine z_var (by with_unfolding_all rfl) ?_) | refine z_c ?_ | refine z_op ?_ | refine z_cons ?_ | refine z_nil ?_ | refine z_cal ?_ | refine z_cb ?_ | refine z_test ?_ | refine z_bl ?_ | refine z_un ?_
  | refine z_tru ?_ | refine z_trub ?_ | refine z_trui ?_ | refine z_and ?_ | refine z_or ?_ | refine z_not ?_ | refine z_andV ?_ | refine z_orV ?_ | refine z_notV ?_ | refine z_bl1 ?_ | refine z_if ?_ | refine z_lst ?_ | refine z_tup ?_))
local macro_rules | `(tactic| walk_at "zs") => `(tactic| (with_reducible first
  | refine z_seq ?_ | refine z_asg ?_ | refine z_ifS ?_ | refine z_ret ?_ | refine z_drop ?_ | refine z_next ?_ | refine z_brk ?_ | refine z_cont ?_ | refine z_retN ?_ | refine z_iteT ?_ | refine z_iteF ?_ | refine z_for1 ?_ | refine z_for2 ?_ | refine z_asgS ?_ | refine z_bm ?_))
local macro_rules | `(tactic| walk_at "z") => `(tactic| first | walk_at "ze" | walk_at "zo" | walk_at "zs" | walk_at "zp" | (dsimp only [List.set]))
local macro_rules | `(tactic| walk_at "zz") => `(tactic| repeat (walk_at "z"))

/-! ### the draws of a law -/
-- _law_row(_law_script, _law_k): slots 0:_law_script 1:_law_k 2:_law_cell 3:_law_a 4:_law_b 5:_law_c
def T_law_row (K : PySem.W.Frag) : TS :=
    (tSeq (tAsg (tC (.int 0)) (gName 2))
    (tCut (tIfS (tTest (tOp (uLt K) (tVar 1) (tCB (uLen K) (tCons (tVar 0) tNil)))) (tAsg (tOp (uIx K) (tVar 0) (tVar 1)) (gName 2)) tNext)
    (tCut (tIfS (tTest (tOp (uLt K) (tVar 2) (tC (.int 0)))) (tAsg (tOp uSub (tOp uMul (tUn uNeg (tC (.int 2))) (tVar 2)) (tC (.int 1))) (gName 2)) tNext)
    (tCut (tIfS (tTest (tOp (uLt K) (tVar 2) (tOp uPow (tC (.int 10)) (tC (.int 9))))) (tSeq (tAsg (tOp uMod (tCB uInt (tCons (tOp (uAdd K) (tOp (uAdd K) (tOp uMul (tVar 2) (tC (.int 48271))) (tOp uMul (tVar 1) (tC (.int 69621)))) (tC (.int 11))) tNil)) (tC (.int 2147483647))) (gName 3))
    (tSeq (tAsg (tOp uMod (tCB uInt (tCons (tOp (uAdd K) (tOp (uAdd K) (tOp (uAdd K) (tOp uMul (tVar 3) (tC (.int 16807))) (tOp uMul (tVar 2) (tC (.int 7)))) (tVar 1)) (tC (.int 5))) tNil)) (tC (.int 2147483629))) (gName 4))
    (tSeq (tAsg (tOp uMod (tCB uInt (tCons (tOp (uAdd K) (tOp (uAdd K) (tOp uMul (tVar 4) (tC (.int 39373))) (tOp uMul (tVar 3) (tVar 4))) (tC (.int 3))) tNil)) (tC (.int 2147483587))) (gName 5))
    (tAsg (tOp (uAdd K) (tOp (uAdd K) (tVar 3) (tOp uMul (tVar 4) (tC (.int 2147483647)))) (tOp uMul (tVar 5) (tOp uPow (tC (.int 2147483647)) (tC (.int 2))))) (gName 2))))) tNext)
    (tRet (tVar 2))))))
def sp_law_row (K : PySem.W.Frag) : Sp := fun vs H Q _ => ∃ (L : Addr) (ns : List Int) (k : Int), vs = [.ref L, .int k] ∧ SqL K H L (ns.map V.int) ∧ 0 ≤ k ∧ ∀ c : Int, 0 ≤ c → Q (.int c) H
theorem r_law_row {K : PySem.W.Frag} {L : Addr} {ns : List Int} {k : Int} {H : Hp} {D : Ends} (hL : SqL K H L (ns.map V.int)) (hk : 0 ≤ k) (q : ∀ c : Int, 0 ≤ c → D.rt (.int c) H) :
    T_law_row K D [some (.ref L), some (.int k), none, none, none, none] H := by
  unfold T_law_row
  walk_at "zz"
  refine z_cut (fun σ H' => H = H' ∧ ∃ c : Int, σ = [some (.ref L), some (.int k), some (.int c), none, none, none]) ?_ ?_
  · walk_at "zz"
    refine z_itD (fun c => ?_) (fun c => ?_)
    · walk_at "zz"
      refine z_ix (.inl hL) (at_int hk (by simpa using c)) ?_
      walk_at "zz"
      exact ⟨rfl, _, rfl⟩
    · walk_at "zz"
      exact ⟨rfl, _, rfl⟩
  rintro σ H' ⟨rfl, c, rfl⟩
  refine z_cut (fun σ H' => H = H' ∧ ∃ c : Int, 0 ≤ c ∧ σ = [some (.ref L), some (.int k), some (.int c), none, none, none]) ?_ ?_
  · walk_at "zz"
    refine z_itD (fun c => ?_) (fun c => ?_)
    · walk_at "zz"
      exact ⟨rfl, _, by omega, rfl⟩
    · walk_at "zz"
      exact ⟨rfl, _, by omega, rfl⟩
  rintro σ H' ⟨rfl, c, hc, rfl⟩
  refine z_cut (fun σ H' => H = H' ∧ ∃ (c : Int) (x y z : Option V), 0 ≤ c ∧ σ = [some (.ref L), some (.int k), some (.int c), x, y, z]) ?_ ?_
  · walk_at "zz"
    refine z_itD (fun h => ?_) (fun h => ?_)
    · walk_at "zz"
      refine ⟨rfl, _, _, _, _, ?_, rfl⟩
      omega
    · walk_at "zz"
      exact ⟨rfl, _, _, _, _, hc, rfl⟩
  rintro σ H' ⟨rfl, c, x, y, z, hc, rfl⟩
  walk_at "zz"
  exact q c hc
-- _law_next(_law_state, _law_many): slots 0:_law_state 1:_law_many 2:_law_drawn
def T_law_next (K : PySem.W.Frag) : TS :=
    (tCut (tIfS (tTest (tOp (uLt K) (tOp (uIx K) (tVar 0) (tC (.int 2))) (tVar 1))) (tSeq (tAsg (tCal (sp_law_row K) (tCons (tOp (uIx K) (tVar 0) (tC (.int 0))) (tCons (tOp (uIx K) (tVar 0) (tC (.int 1))) tNil))) (gSub (tVar 0) (tC (.int 2)) rSetL))
    (tAsg (tOp (uAdd K) (tOp (uIx K) (tVar 0) (tC (.int 1))) (tC (.int 1))) (gSub (tVar 0) (tC (.int 1)) rSetL))) tNext)
    (tSeq (tAsg (tOp uMod (tCB uInt (tCons (tOp (uIx K) (tVar 0) (tC (.int 2))) tNil)) (tVar 1)) (gName 2))
    (tSeq (tAsg (tOp uDiv (tOp (uIx K) (tVar 0) (tC (.int 2))) (tVar 1)) (gSub (tVar 0) (tC (.int 2)) rSetL))
    (tRet (tVar 2)))))
/-- the state of the draws stands at st -/
structure Draw (K : PySem.W.Frag) (H : Hp) (st : Addr) : Prop where
  ex : ∃ (L : Addr) (ns : List Int) (k a : Int), H st = some (.lst [.ref L, .int k, .int a]) ∧ SqL K H L (ns.map V.int) ∧ L ≠ st ∧ 0 ≤ k ∧ 0 ≤ a
theorem Draw.ne {K : PySem.W.Frag} {H : Hp} {st p : Addr} (d : Draw K H st) (h : H p = none) : p ≠ st := by
  obtain ⟨_, _, _, _, e, _⟩ := d.ex
  exact (ne_of_none e h).symm
theorem Draw.new {K : PySem.W.Frag} {H : Hp} {st p : Addr} {o : HO} (d : Draw K H st) (h : H p = none) : Draw K (upd H p o) st := by
  obtain ⟨L, ns, k, a, e, s, n, hk, ha⟩ := d.ex
  exact ⟨L, ns, k, a, lk_ne (ne_of_none e h) e, sqL_new h s, n, hk, ha⟩
theorem Draw.put {K : PySem.W.Frag} {H : Hp} {st p : Addr} {xs ys : List V} (d : Draw K H st) (h : H p = some (.lst xs)) (hn : p ≠ st) (hL : ∀ (L : Addr) (ns : List Int) (k a : Int), H st = some (.lst [.ref L, .int k, .int a]) → SqL K H L (List.map V.int ns) → p ≠ L) : Draw K (upd H p (.lst ys)) st := by
  obtain ⟨L, ns, k, a, e, s, n, hk, ha⟩ := d.ex
  exact ⟨L, ns, k, a, lk_ne hn.symm e, sqL_ne (hL L ns k a e s).symm s, n, hk, ha⟩
theorem Draw.back {K : PySem.W.Frag} {H H' : Hp} {st p : Addr} (d : Draw K H' st) (x : ExB st H H') (h : H' p = none) : H p = none := by
  cases e : H p with
  | none => rfl
  | some o =>
    have := x p o (d.ne h) e
    rw [h] at this; cases this
def sp_law_next (K : PySem.W.Frag) : Sp := fun vs H Q _ => ∃ (st : Addr) (m : Int), vs = [.ref st, .int m] ∧ Draw K H st ∧ 0 < m ∧ m < 1000000000000000000 ∧ ∀ (r : Int) (H' : Hp), 0 ≤ r → r < m → Draw K H' st → ExB st H H' → Q (.int r) H'
theorem law_row_c {K : PySem.W.Frag} {L : Addr} {k : Int} {H : Hp} {Q : VK} {E : XK} {ns : List Int} (hL : SqL K H L (ns.map V.int)) (hk : 0 ≤ k) (q : ∀ c : Int, 0 ≤ c → Q (.int c) H) : sp_law_row K [.ref L, .int k] H Q E := ⟨L, ns, k, rfl, hL, hk, q⟩
theorem r_law_next {K : PySem.W.Frag} {st : Addr} {m : Int} {H : Hp} {D : Ends} (d : Draw K H st) (h0 : 0 < m) (h1 : m < 1000000000000000000) (q : ∀ (r : Int) (H' : Hp), 0 ≤ r → r < m → Draw K H' st → ExB st H H' → D.rt (.int r) H') :
    T_law_next K D [some (.ref st), some (.int m), none] H := by
  obtain ⟨L, ns, k, a, e, s, n, hk, ha⟩ := d.ex
  unfold T_law_next
  refine z_cut (fun σ H' => ∃ k a : Int, H' = upd H st (.lst [.ref L, .int k, .int a]) ∧ 0 ≤ k ∧ 0 ≤ a ∧ σ = [some (.ref st), some (.int m), none]) ?_ ?_
  · walk_at "zz"
    refine z_itD (fun h => ?_) (fun h => ?_)
    · walk_at "zz"
      refine law_row_c s hk fun c hc => ?_
      walk_at "zz"
      refine ⟨k + 1, c, ?_, by omega, hc, rfl⟩
      simp only [upd_upd]; rfl
    · walk_at "zz"
      exact ⟨k, a, (upd_self e).symm, hk, ha, rfl⟩
  rintro σ H' ⟨k, a, rfl, hk, ha, rfl⟩
  walk_at "zz"
  refine q _ _ (Int.emod_nonneg _ (by omega)) (Int.emod_lt_of_pos _ h0) ⟨L, ns, k, a / m, upd_same, ?_, n, hk, Int.ediv_nonneg ha (by omega)⟩ ?_
  · exact sqL_ne n (sqL_ne n s)
  · exact (ExB.refl st H).upd.upd
theorem law_next_c {K : PySem.W.Frag} {st : Addr} {m : Int} {H : Hp} {Q : VK} {E : XK} (d : Draw K H st) (h0 : 0 < m) (h1 : m < 1000000000000000000) (q : ∀ (r : Int) (H' : Hp), 0 ≤ r → r < m → Draw K H' st → ExB st H H' → Q (.int r) H') : sp_law_next K [.ref st, .int m] H Q E :=
  ⟨st, m, rfl, d, h0, h1, q⟩
-- _law_is_integer(_law_actual): slots 0:_law_actual
def T_law_is_integer (K : PySem.W.Frag) : TS :=
    (tRet (tAndV (tCB (uIsi K) (tCons (tVar 0) (tCons (tC (.ty "int")) tNil))) (tNotV (tCB (uIsi K) (tCons (tVar 0) (tCons (tC (.ty "bool")) tNil))))))
def sp_law_is_integer (K : PySem.W.Frag) : Sp := fun vs H Q _ => ∃ i : Int, vs = [.int i] ∧ Q (.bl true) H
theorem r_law_is_integer {K : PySem.W.Frag} {i : Int} {H : Hp} {D : Ends} (q : D.rt (.bl true) H) : T_law_is_integer K D [some (.int i)] H := by
  unfold T_law_is_integer
  walk_at "zz"
  exact q
theorem Draw.start {K : PySem.W.Frag} {H : Hp} {l p : Addr} {ns : List Int} (h1 : H l = none) (h2 : upd H l (.lst (ns.map V.int)) p = none) : Draw K (upd (upd H l (.lst (ns.map V.int))) p (.lst [.ref l, .int 0, .int 0])) p := by
  have ne : l ≠ p := ne_of_none (H := upd H l (.lst (ns.map V.int))) upd_same h2
  exact ⟨l, ns, 0, 0, upd_same, sqL_ne ne (SqL.of upd_same), ne, by decide, by decide⟩
def sp_law (K : PySem.W.Frag) : Sp := fun vs H Q _ => ∃ (a : Addr) (ns : List Int), vs = [.ref a] ∧ SqL K H a (ns.map V.int) ∧ ns.length ≤ 63 ∧ ∀ H', Q (.bl true) H'
abbrev N_law_row : List Str := ["_law_script", "_law_k", "_law_cell", "_law_a", "_law_b", "_law_c"]
theorem w_law_row {K : PySem.W.Frag} : Wd (T_law_row K) N_law_row 2 (sp_law_row K) := fun vs H Q E h => by
  obtain ⟨L, ns, k, rfl, h1, h2, q⟩ := h
  exact ⟨rfl, r_law_row h1 h2 q⟩
abbrev N_law_next : List Str := ["_law_state", "_law_many", "_law_drawn"]
theorem w_law_next {K : PySem.W.Frag} : Wd (T_law_next K) N_law_next 2 (sp_law_next K) := fun vs H Q E h => by
  obtain ⟨st, m, rfl, d, h0, h1, q⟩ := h
  exact ⟨rfl, r_law_next d h0 h1 q⟩
abbrev N_law_is_integer : List Str := ["_law_actual"]
theorem w_law_is_integer {K : PySem.W.Frag} : Wd (T_law_is_integer K) N_law_is_integer 1 (sp_law_is_integer K) := fun vs H Q E h => by
  obtain ⟨i, rfl, q⟩ := h
  exact ⟨rfl, r_law_is_integer q⟩

local macro_rules | `(tactic| walk_at "nx") => `(tactic| (refine law_next_c (by assumption) (by first | decide | omega) (by first | decide | omega) ?_))

/-! ### the root -/
def rootN : Nat → Nat
  | 0 => 0
  | n + 1 => if (rootN n + 1) * (rootN n + 1) ≤ n + 1 then rootN n + 1 else rootN n
theorem rootN_spec (n : Nat) : rootN n * rootN n ≤ n ∧ n < (rootN n + 1) * (rootN n + 1) := by
  induction n with
  | zero => exact ⟨Nat.le_refl _, by decide⟩
  | succ n ih =>
    obtain ⟨h1, h2⟩ := ih
    unfold rootN
    split
    · rename_i h
      refine ⟨h, ?_⟩
      generalize rootN n = r at *
      have e : (r + 1 + 1) * (r + 1 + 1) = (r + 1) * (r + 1) + 2 * (r + 1) + 1 := by
        simp only [Nat.add_mul, Nat.mul_add]; omega
      omega
    · rename_i h
      refine ⟨by omega, by omega⟩
def rootZ (n : Int) : Int := (rootN n.toNat : Nat)
theorem rootZ_nn (n : Int) : 0 ≤ rootZ n := Int.natCast_nonneg _
theorem rootZ_spec {n : Int} (h : 0 ≤ n) : rootZ n * rootZ n ≤ n ∧ n < (rootZ n + 1) * (rootZ n + 1) := by
  have s := rootN_spec n.toNat
  unfold rootZ
  generalize rootN n.toNat = r at *
  have e : ((n.toNat : Nat) : Int) = n := Int.toNat_of_nonneg h
  constructor
  · have := Int.ofNat_le.mpr s.1
    rw [← e]; push_cast at this ⊢; exact this
  · have := Int.ofNat_lt.mpr s.2
    rw [← e]; push_cast at this ⊢; exact this
theorem sq_lt {a b : Int} (h0 : 0 ≤ a) (hb : 0 ≤ b) (h : a * a < b * b) : a < b := by
  rcases Int.lt_or_le a b with h1 | h1
  · exact h1
  · have := Int.mul_le_mul h1 h1 hb h0
    omega
theorem rootZ_uniq {n r : Int} (h0 : 0 ≤ r) (h1 : r * r ≤ n) (h2 : n < (r + 1) * (r + 1)) : r = rootZ n := by
  have hn : 0 ≤ n := Int.le_trans (Int.mul_nonneg h0 h0) h1
  obtain ⟨s1, s2⟩ := rootZ_spec hn
  have s0 := rootZ_nn n
  have a := sq_lt h0 (by omega) (Int.lt_of_le_of_lt h1 s2)
  have b := sq_lt s0 (by omega) (Int.lt_of_le_of_lt s1 h2)
  omega
theorem rootZ_neg {n : Int} (h : n < 0) : rootZ n = 0 := by
  unfold rootZ
  rw [Int.toNat_of_nonpos (by omega)]; rfl
/-- a factor is short when its square is -/
theorem mul_sq {a n : Int} {b : Nat} (h0 : 0 ≤ a) (h : a * a ≤ n) (hn : n < 2 ^ b) (hb : 0 < b ∧ b ≤ 400000) : MulOk a a := by
  have h1 : a.natAbs < 2 ^ b := by
    have h3 : a ≤ a * a := by
      rcases Int.lt_or_le a 1 with z | z
      · have : a = 0 := by omega
        subst this; simp
      · have := Int.mul_le_mul_of_nonneg_right z h0
        omega
    have h4 : ((2 ^ b : Nat) : Int) = (2 : Int) ^ b := by simp
    omega
  exact .inr (wide_mul h1 h1 hb.1 hb.1 (by omega))
-- root(number): slots 0:number 1:low 2:high 3:middle
def T_root_b1 (K : PySem.W.Frag) : TS :=
    (tAsg (tOp uMul (tVar 2) (tC (.int 2))) (gName 2))
def T_root_b2 (K : PySem.W.Frag) : TS :=
    (tSeq (tAsg (tOp uDiv (tOp (uAdd K) (tVar 1) (tVar 2)) (tC (.int 2))) (gName 3))
    (tIfS (tTest (tOp uLe (tOp uMul (tVar 3) (tVar 3)) (tVar 0))) (tAsg (tVar 3) (gName 1)) (tAsg (tVar 3) (gName 2))))
def T_root (K : PySem.W.Frag) : TS :=
    (tSeq (tAsg (tC (.int 0)) (gName 1))
    (tSeq (tAsg (tC (.int 1)) (gName 2))
    (tSeq (tWhile (tTest (tOp uLe (tOp uMul (tVar 2) (tVar 2)) (tVar 0))) (T_root_b1 K))
    (tSeq (tWhile (tTest (tOp uGt (tOp uSub (tVar 2) (tVar 1)) (tC (.int 1)))) (T_root_b2 K))
    (tRet (tVar 1))))))
def sp_root (K : PySem.W.Frag) : Sp := fun vs H Q _ => ∃ n : Int, vs = [.int n] ∧ n < 2 ^ 100000 ∧ Q (.int (rootZ n)) H
theorem r_root {K : PySem.W.Frag} {n : Int} {H : Hp} {D : Ends} (hn : n < 2 ^ 100000) (k : D.rt (.int (rootZ n)) H) : T_root K D [some (.int n), none, none, none] H := by
  unfold T_root
  walk_at "zz"
  have p2 : (2 : Int) ^ 100000 > 0 := Int.pow_pos (by decide)
  have pe : (2 : Int) ^ 100000 * 4 + 1 < 2 ^ 100003 := by
    have : (2 : Int) ^ 100003 = 2 ^ 100000 * 8 := by rw [show (100003 : Nat) = 100000 + 3 from rfl, Int.pow_add]; rfl
    omega
  generalize hM : (2 : Int) ^ 100000 = M at *
  refine z_while (fun m σ H' => H = H' ∧ ∃ h : Int, σ = [some (.int n), some (.int 0), some (.int h), none] ∧ 1 ≤ h ∧ (h = 1 ∨ h * h ≤ 4 * n) ∧ m = (n + 1 - h).toNat) (n + 1 - 1).toNat ⟨rfl, 1, rfl, by decide, .inl rfl, rfl⟩ ?_
  rintro m σ H' ⟨rfl, h, rfl, h1, h2, rfl⟩
  walk_at "zz"
  refine z_mul ?_ ?_
  · have : h * h ≤ 4 * M + 1 := by
      rcases h2 with rfl | h2 <;> omega
    exact mul_sq (n := h * h) (b := 100003) (by omega) (Int.le_refl _) (by omega) (by decide)
  walk_at "zz"
  refine z_itD (fun c => z_turn ?_) (fun c => ?_)
  · unfold T_root_b1
    walk_at "zz"
    have h3 : h ≤ n := by
      have := Int.mul_le_mul_of_nonneg_left h1 (show 0 ≤ h by omega)
      omega
    refine ⟨_, ?_, rfl, h * 2, rfl, by omega, .inr ?_, rfl⟩
    · omega
    · have : h * 2 * (h * 2) = 4 * (h * h) := by
        rw [Int.mul_assoc, Int.mul_left_comm 2 h 2, ← Int.mul_assoc, Int.mul_comm (h * h)]; rfl
      omega
  walk_at "zz"
  refine z_while (fun m σ H' => H = H' ∧ ∃ (lo hi : Int) (v : Option V), σ = [some (.int n), some (.int lo), some (.int hi), v] ∧ 0 ≤ lo ∧ lo < hi ∧ n < hi * hi ∧ (0 ≤ n → lo * lo ≤ n) ∧ hi ≤ h ∧ m = (hi - lo).toNat) (h - 0).toNat ⟨rfl, 0, h, none, rfl, by omega, by omega, by omega, fun z => by omega, Int.le_refl _, rfl⟩ ?_
  rintro m σ H' ⟨rfl, lo, hi, v, rfl, g1, g2, g3, g4, g5, rfl⟩
  walk_at "zz"
  refine z_itD (fun c2 => z_turn ?_) (fun c2 => ?_)
  · unfold T_root_b2
    walk_at "zz"
    have e1 : lo < (lo + hi) / 2 := by omega
    have e2 : (lo + hi) / 2 < hi := by omega
    generalize (lo + hi) / 2 = md at *
    have hm : md * md ≤ h * h := Int.mul_le_mul (by omega) (by omega) (by omega) (by omega)
    refine z_mul ?_ ?_
    · refine mul_sq (n := h * h) (b := 100003) (by omega) hm ?_ (by decide)
      rcases h2 with rfl | h2 <;> omega
    walk_at "zz"
    refine z_itD (fun c3 => ?_) (fun c3 => ?_)
    · walk_at "zz"
      exact ⟨_, by omega, rfl, md, hi, _, rfl, by omega, by omega, g3, fun _ => c3, g5, rfl⟩
    · walk_at "zz"
      exact ⟨_, by omega, rfl, lo, md, _, rfl, by omega, by omega, by omega, g4, by omega, rfl⟩
  · walk_at "zz"
    have e : hi = lo + 1 := by omega
    subst e
    rcases Int.lt_or_le n 0 with hz | hz
    · have : lo = 0 := by
        rcases h2 with rfl | h2
        · omega
        · exfalso
          have := Int.mul_nonneg (show 0 ≤ h by omega) (show 0 ≤ h by omega)
          omega
      subst this
      rw [rootZ_neg hz] at k
      exact k
    · rw [← rootZ_uniq g1 (g4 hz) g3] at k
      exact k
theorem root_c {K : PySem.W.Frag} {n : Int} {H : Hp} {Q : VK} {E : XK} (hn : n < 2 ^ 100000) (k : Q (.int (rootZ n)) H) : sp_root K [.int n] H Q E := ⟨n, rfl, hn, k⟩
-- gap(far, near): slots 0:far 1:near
def T_gap (K : PySem.W.Frag) : TS :=
    (tSeq (tIfS (tTest (tOp uGe (tVar 1) (tVar 0))) (tRet (tC (.int 0))) tNext)
    (tRet (tOp uSub (tOp (uAdd K) (tVar 0) (tVar 1)) (tCal (sp_root K) (tCons (tOp uMul (tOp uMul (tC (.int 4)) (tVar 0)) (tVar 1)) tNil)))))
def gapZ (far near : Int) : Int := if near ≥ far then 0 else far + near - rootZ (4 * far * near)
def Short (a : Int) : Prop := a.natAbs < 2 ^ 40000
theorem Short.mul {a b : Int} (ha : Short a) (hb : Short b) : MulOk a b := .inr (wide_mul ha hb (by decide) (by decide) (by decide))
theorem pow_le_pow {a b : Nat} (h : a ≤ b) : (2 : Nat) ^ a ≤ 2 ^ b := Nat.pow_le_pow_right (by decide) h
theorem Short.of {a : Int} {b : Nat} (h : a.natAbs < 2 ^ b) (hb : b ≤ 40000) : Short a := Nat.lt_of_lt_of_le h (pow_le_pow hb)
theorem Short.four {a : Int} (ha : Short a) : (4 * a).natAbs < 2 ^ 40003 := by
  rw [Int.natAbs_mul, show (40003 : Nat) = 3 + 40000 from rfl, Nat.pow_add]
  exact Nat.mul_lt_mul'' (by decide) ha
theorem Short.mul4 {a b : Int} (ha : Short a) (hb : Short b) : MulOk (4 * a) b := .inr (wide_mul ha.four hb (by decide) (by decide) (by decide))
theorem mul4 {a b : Int} (ha : Short a) (hb : Short b) : 4 * a * b < 2 ^ 100000 := by
  have h1 : (4 * a * b).natAbs < 2 ^ (3 + 40000 + 40000) := by
    rw [Int.natAbs_mul, Int.natAbs_mul, Nat.pow_add, Nat.pow_add]
    exact Nat.mul_lt_mul'' (Nat.mul_lt_mul'' (by decide) ha) hb
  have h2 : (2 : Nat) ^ (3 + 40000 + 40000) ≤ 2 ^ 100000 := pow_le_pow (by decide)
  have h3 : ((2 ^ 100000 : Nat) : Int) = (2 : Int) ^ 100000 := by rw [Int.natCast_pow]; rfl
  rw [← h3]
  generalize (2 : Nat) ^ 100000 = M at *
  generalize (2 : Nat) ^ (3 + 40000 + 40000) = M2 at *
  omega
def sp_gap (K : PySem.W.Frag) : Sp := fun vs H Q _ => ∃ far near : Int, vs = [.int far, .int near] ∧ Short far ∧ Short near ∧ Q (.int (gapZ far near)) H
theorem r_gap {K : PySem.W.Frag} {far near : Int} {H : Hp} {D : Ends} (h1 : Short far) (h2 : Short near) (k : D.rt (.int (gapZ far near)) H) : T_gap K D [some (.int far), some (.int near)] H := by
  unfold T_gap
  walk_at "zz"
  refine z_itD (fun c => ?_) (fun c => ?_)
  · walk_at "zz"
    rw [show gapZ far near = 0 from if_pos c] at k
    exact k
  · walk_at "zz"
    refine z_mul ?_ ?_
    · exact Short.mul4 h1 h2
    walk_at "zz"
    refine root_c (mul4 h1 h2) ?_
    walk_at "zz"
    rw [show gapZ far near = far + near - rootZ (4 * far * near) from if_neg c] at k
    exact k
abbrev N_root : List Str := ["number", "low", "high", "middle"]
theorem w_root {K : PySem.W.Frag} : Wd (T_root K) N_root 1 (sp_root K) := fun vs H Q E h => by
  obtain ⟨n, rfl, hn, k⟩ := h
  exact ⟨rfl, r_root hn k⟩
abbrev N_gap : List Str := ["far", "near"]
theorem w_gap {K : PySem.W.Frag} : Wd (T_gap K) N_gap 2 (sp_gap K) := fun vs H Q E h => by
  obtain ⟨far, near, rfl, h1, h2, k⟩ := h
  exact ⟨rfl, r_gap h1 h2 k⟩

-- _law_root(_law_number_here): slots 0:_law_number_here 1:_law_low 2:_law_high 3:_law_k 4:_law_middle
def T_law_root_b1 (K : PySem.W.Frag) : TS :=
    (tSeq (tIfS (tTest (tOp uGt (tOp uMul (tVar 2) (tVar 2)) (tVar 0))) tBreak tNext)
    (tAsg (tOp uMul (tVar 2) (tC (.int 2))) (gName 2)))
def T_law_root_b2 (K : PySem.W.Frag) : TS :=
    (tSeq (tIfS (tTest (tOp uLe (tOp uSub (tVar 2) (tVar 1)) (tC (.int 1)))) tBreak tNext)
    (tSeq (tAsg (tOp uDiv (tOp (uAdd K) (tVar 1) (tVar 2)) (tC (.int 2))) (gName 4))
    (tIfS (tTest (tOp uLe (tOp uMul (tVar 4) (tVar 4)) (tVar 0))) (tAsg (tVar 4) (gName 1)) (tAsg (tVar 4) (gName 2)))))
def T_law_root (K : PySem.W.Frag) : TS :=
    (tSeq (tAsg (tC (.int 0)) (gName 1))
    (tSeq (tAsg (tC (.int 1)) (gName 2))
    (tCut (tFor (iRng1 (tCons (tC (.int 400)) tNil)) (gName 3) (T_law_root_b1 K))
    (tCut (tFor (iRng1 (tCons (tC (.int 400)) tNil)) (gName 3) (T_law_root_b2 K))
    (tRet (tVar 1))))))

theorem rt_half {k : Nat} (h : k < 400) : (2 : Int) ^ (400 - k) = 2 * 2 ^ (400 - (k + 1)) := by
  rw [show 400 - k = (400 - (k + 1)) + 1 by omega, Int.pow_succ, Int.mul_comm]
def sp_law_root (K : PySem.W.Frag) : Sp := fun vs H Q _ => ∃ n : Int, vs = [.int n] ∧ 0 ≤ n ∧ n < 2 ^ 800 ∧ Q (.int (rootZ n)) H
theorem r_law_root {K : PySem.W.Frag} {n : Int} {H : Hp} {D : Ends} (h0 : 0 ≤ n) (hn : n < 2 ^ 800) (k : D.rt (.int (rootZ n)) H) : T_law_root K D [some (.int n), none, none, none, none] H := by
  unfold T_law_root
  have ph : ∀ j : Nat, (0 : Int) < 2 ^ j := fun j => Int.pow_pos (by decide)
  have e800 : (2 : Int) ^ 800 = 2 ^ 400 * 2 ^ 400 := by rw [← Int.pow_add]
  have e802 : (2 : Int) ^ 802 = 2 ^ 800 * 4 := by rw [show (802 : Nat) = 800 + 2 from rfl, Int.pow_add]; rfl
  have mk : ∀ h : Int, 0 ≤ h → h * h ≤ 4 * n ∨ h = 1 → MulOk h h := fun h z1 z2 => by
    refine mul_sq (n := h * h) (b := 802) z1 (Int.le_refl _) ?_ (by decide)
    rw [e802]
    have := ph 800
    generalize (2 : Int) ^ 800 = M at *
    rcases z2 with z | z
    · omega
    · rw [z]; omega
  walk_at "zz"
  refine z_cut (fun σ H' => H = H' ∧ ∃ (h : Int) (v : Option V), σ = [some (.int n), some (.int 0), some (.int h), v, none] ∧ 0 < h ∧ h ≤ 2 ^ 400 ∧ n < h * h ∧ (h * h ≤ 4 * n ∨ h = 1)) ?_ ?_
  · walk_at "zz"
    refine z_rng1 (by decide) ?_ (by decide)
    refine z_rng (fun i σ H' => H = H' ∧ ∃ (h : Int) (v : Option V), i ≤ 400 ∧ σ = [some (.int n), some (.int 0), some (.int h), v, none] ∧ h = 2 ^ i ∧ (h * h ≤ 4 * n ∨ h = 1)) ⟨rfl, 1, none, by decide, rfl, rfl, .inr rfl⟩ ?_ ?_
    · rintro i σ H' hi ⟨rfl, h, v, hi', rfl, eh, h2⟩
      have h1 : 0 < h := by rw [eh]; exact ph i
      have hi2 : i < 400 := hi
      unfold T_law_root_b1
      walk_at "zz"
      refine z_mul (mk h (by omega) h2) ?_
      walk_at "zz"
      refine z_itD (fun c => ?_) (fun c => ?_)
      · walk_at "zz"
        refine ⟨rfl, h, _, rfl, h1, ?_, c, h2⟩
        have e : (2 : Int) ^ 400 = 2 ^ i * 2 ^ (400 - i) := by rw [← Int.pow_add]; congr 1; omega
        have z := Int.mul_le_mul_of_nonneg_left (show (1 : Int) ≤ 2 ^ (400 - i) from ph (400 - i)) (show 0 ≤ h by omega)
        rw [e, ← eh]
        generalize (2 : Int) ^ (400 - i) = w at *
        generalize h * w = hw at *
        omega
      · walk_at "zz"
        refine ⟨rfl, h * 2, _, by omega, rfl, by rw [Int.pow_succ, eh], .inl ?_⟩
        have : h * 2 * (h * 2) = 4 * (h * h) := by
          rw [Int.mul_assoc, Int.mul_left_comm 2 h 2, ← Int.mul_assoc, Int.mul_comm (h * h)]; rfl
        omega
    · rintro σ H' ⟨rfl, h, v, hi', rfl, eh, h2⟩
      have eh : h = 2 ^ 400 := eh
      have h1 : 0 < h := by rw [eh]; exact ph _
      exact ⟨rfl, h, v, rfl, h1, by rw [eh]; exact Int.le_refl _, by rw [eh, ← e800]; exact hn, h2⟩
  rintro σ H' ⟨rfl, h, v, rfl, h1, h400, hh, h2⟩
  walk_at "zz"
  refine z_cut (fun σ H' => H = H' ∧ ∃ (lo hi : Int) (v w : Option V), σ = [some (.int n), some (.int lo), some (.int hi), v, w] ∧ 0 ≤ lo ∧ lo * lo ≤ n ∧ n < (lo + 1) * (lo + 1)) ?_ ?_
  · walk_at "zz"
    refine z_rng1 (by decide) ?_ (by decide)
    refine z_rng (fun i σ H' => H = H' ∧ ∃ (lo hi : Int) (v w : Option V), i ≤ 400 ∧ σ = [some (.int n), some (.int lo), some (.int hi), v, w] ∧ 0 ≤ lo ∧ lo < hi ∧ hi ≤ h ∧ lo * lo ≤ n ∧ n < hi * hi ∧ hi - lo ≤ 2 ^ (400 - i)) ⟨rfl, 0, h, _, _, by decide, rfl, by decide, h1, Int.le_refl _, h0, hh, by simpa using h400⟩ ?_ ?_
    · rintro i σ H' hi ⟨rfl, lo, hi, v, w, hi', rfl, g1, g2, g3, g4, g5, g6⟩
      have hi2 : i < 400 := by assumption
      unfold T_law_root_b2
      walk_at "zz"
      refine z_itD (fun c => ?_) (fun c => ?_)
      · walk_at "zz"
        have e : hi = lo + 1 := by omega
        subst e
        exact ⟨rfl, lo, _, _, _, rfl, g1, g4, g5⟩
      · walk_at "zz"
        have pe := rt_half hi2
        have p0 := ph (400 - (i + 1))
        generalize (2 : Int) ^ (400 - i) = P at *
        generalize (2 : Int) ^ (400 - (i + 1)) = P2 at *
        have e1 : lo < (lo + hi) / 2 := by omega
        have e2 : (lo + hi) / 2 < hi := by omega
        have e3 : (lo + hi) / 2 - lo ≤ P2 := by omega
        have e4 : hi - (lo + hi) / 2 ≤ P2 := by omega
        generalize (lo + hi) / 2 = md at *
        have hm : md * md ≤ h * h := Int.mul_le_mul (by omega) (by omega) (by omega) (by omega)
        refine z_mul (mk md (by omega) ?_) ?_
        · rcases h2 with h2 | h2
          · left; omega
          · exfalso; omega
        walk_at "zz"
        refine z_itD (fun c => ?_) (fun c => ?_)
        · walk_at "zz"
          exact ⟨rfl, md, hi, _, _, by omega, rfl, by omega, e2, g3, c, g5, e4⟩
        · walk_at "zz"
          exact ⟨rfl, lo, md, _, _, by omega, rfl, g1, e1, by omega, g4, by omega, e3⟩
    · rintro σ H' ⟨rfl, lo, hi, v, w, hi', rfl, g1, g2, g3, g4, g5, g6⟩
      have g6 : hi - lo ≤ 1 := g6
      have e : hi = lo + 1 := by omega
      subst e
      exact ⟨rfl, lo, _, _, _, rfl, g1, g4, g5⟩
  rintro σ H' ⟨rfl, lo, hi, v, w, rfl, g1, g2, g3⟩
  walk_at "zz"
  rw [← rootZ_uniq g1 g2 g3] at k
  exact k
-- _law_is_root(_law_actual, _law_number_here): slots 0:_law_actual 1:_law_number_here
def T_law_is_root (K : PySem.W.Frag) : TS :=
    (tRet (tAndV (tCal (sp_law_is_integer K) (tCons (tVar 0) tNil)) (tAndV (tOp uGe (tVar 0) (tC (.int 0))) (tAndV (tOp uLe (tOp uMul (tVar 0) (tVar 0)) (tVar 1)) (tOp uGt (tOp uMul (tOp (uAdd K) (tVar 0) (tC (.int 1))) (tOp (uAdd K) (tVar 0) (tC (.int 1)))) (tVar 1))))))

def sp_law_is_root (K : PySem.W.Frag) : Sp := fun vs H Q _ => ∃ r n : Int, vs = [.int r, .int n] ∧ 0 ≤ r ∧ r * r ≤ n ∧ n < (r + 1) * (r + 1) ∧ n < 2 ^ 800 ∧ Q (.bl true) H
theorem r_law_is_root {K : PySem.W.Frag} {r n : Int} {H : Hp} {D : Ends} (h0 : 0 ≤ r) (h1 : r * r ≤ n) (h2 : n < (r + 1) * (r + 1)) (hn : n < 2 ^ 800) (k : D.rt (.bl true) H) : T_law_is_root K D [some (.int r), some (.int n)] H := by
  unfold T_law_is_root
  walk_at "zz"
  refine ⟨_, rfl, ?_⟩
  walk_at "zz"
  refine z_iteT' (decide_eq_true h0) ?_
  walk_at "zz"
  refine z_mul (mul_sq h0 h1 hn (by decide)) ?_
  walk_at "zz"
  refine z_iteT' (decide_eq_true h1) ?_
  walk_at "zz"
  refine z_mul (mul_sq (n := (r + 1) * (r + 1)) (b := 804) (by omega) (Int.le_refl _) ?_ (by decide)) ?_
  · have e : (r + 1) * (r + 1) = r * r + 2 * r + 1 := by simp only [Int.add_mul, Int.mul_add]; omega
    have h3 : r ≤ r * r := by
      rcases Int.lt_or_le r 1 with z | z
      · have : r = 0 := by omega
        subst this; simp
      · have := Int.mul_le_mul_of_nonneg_right z h0
        omega
    have e4 : (2 : Int) ^ 804 = 2 ^ 800 * 16 := by rw [show (804 : Nat) = 800 + 4 from rfl, Int.pow_add]; rfl
    have p0 : (0 : Int) < 2 ^ 800 := Int.pow_pos (by decide)
    rw [e4]
    generalize (2 : Int) ^ 800 = M at *
    omega
  walk_at "zz"
  rw [decide_eq_true h2]
  exact k
-- _law_number(_law_state): slots 0:_law_state 1:_law_kind 2:_law_drawn
def T_law_number (K : PySem.W.Frag) : TS :=
    (tSeq (tAsg (tCal (sp_law_next K) (tCons (tVar 0) (tCons (tC (.int 5)) tNil))) (gName 1))
    (tSeq (tAsg (tOp (uAdd K) (tOp uMul (tCal (sp_law_next K) (tCons (tVar 0) (tCons (tOp uPow (tC (.int 10)) (tC (.int 6))) tNil))) (tCal (sp_law_next K) (tCons (tVar 0) (tCons (tOp uPow (tC (.int 10)) (tC (.int 9))) tNil)))) (tCal (sp_law_next K) (tCons (tVar 0) (tCons (tC (.int 1000)) tNil)))) (gName 2))
    (tSeq (tIfS (tTest (tOp (uEq K) (tVar 1) (tC (.int 0)))) (tRet (tCal (sp_law_next K) (tCons (tVar 0) (tCons (tC (.int 20)) tNil)))) tNext)
    (tSeq (tIfS (tTest (tOp (uEq K) (tVar 1) (tC (.int 1)))) (tRet (tOp uMul (tVar 2) (tVar 2))) tNext)
    (tSeq (tIfS (tTest (tOp (uEq K) (tVar 1) (tC (.int 2)))) (tRet (tCB uMax (tCons (tC (.int 0)) (tCons (tOp uSub (tOp uMul (tVar 2) (tVar 2)) (tC (.int 1))) tNil)))) tNext)
    (tSeq (tIfS (tTest (tOp (uEq K) (tVar 1) (tC (.int 3)))) (tRet (tOp (uAdd K) (tOp uMul (tVar 2) (tVar 2)) (tC (.int 1)))) tNext)
    (tRet (tOp (uAdd K) (tOp uMul (tOp uMul (tOp uMul (tOp uMul (tVar 2) (tVar 2)) (tVar 2)) (tVar 2)) (tVar 2)) (tCal (sp_law_next K) (tCons (tVar 0) (tCons (tOp uPow (tC (.int 10)) (tC (.int 9))) tNil)))))))))))

theorem mul_bd {a b A B : Int} (ha : 0 ≤ a) (hb : 0 ≤ b) (hA : a < A) (hB : b < B) : 0 ≤ a * b ∧ a * b < A * B :=
  ⟨Int.mul_nonneg ha hb, Int.lt_of_le_of_lt (Int.mul_le_mul_of_nonneg_left (Int.le_of_lt hB) ha) (Int.mul_lt_mul_of_pos_right hA (by omega))⟩
def sp_law_number (K : PySem.W.Frag) : Sp := fun vs H Q _ => ∃ st : Addr, vs = [.ref st] ∧ Draw K H st ∧ ∀ (n : Int) (H' : Hp), 0 ≤ n → n < 2 ^ 300 → Draw K H' st → ExB st H H' → Q (.int n) H'
theorem law_number_c {K : PySem.W.Frag} {st : Addr} {H : Hp} {Q : VK} {E : XK} (d : Draw K H st) (q : ∀ (n : Int) (H' : Hp), 0 ≤ n → n < 2 ^ 300 → Draw K H' st → ExB st H H' → Q (.int n) H') : sp_law_number K [.ref st] H Q E := ⟨st, rfl, d, q⟩
theorem r_law_number {K : PySem.W.Frag} {st : Addr} {H : Hp} {D : Ends} (d : Draw K H st) (q : ∀ (n : Int) (H' : Hp), 0 ≤ n → n < 2 ^ 300 → Draw K H' st → ExB st H H' → D.rt (.int n) H') : T_law_number K D [some (.ref st), none, none] H := by
  unfold T_law_number
  walk_at "zz"
  walk_at "nx"
  intro k H1 k0 k1 d1 x1
  walk_at "zz"
  walk_at "nx"
  intro r2 H2 a2 b2 d2 x2
  walk_at "zz"
  walk_at "nx"
  intro r3 H3 a3 b3 d3 x3
  walk_at "zz"
  walk_at "nx"
  intro r4 H4 a4 b4 d4 x4
  have hx : ExB st H H4 := ((x1.trans x2).trans x3).trans x4
  have hb := mul_bd a2 a3 b2 b3
  have e300 : (2 : Int) ^ 300 = 2037035976334486086268445688409378161051468393665936250636140449354381299763336706183397376 := by decide +kernel
  walk_at "zz"
  obtain ⟨m, hm⟩ : ∃ m, r2 * r3 + r4 = m := ⟨_, rfl⟩
  rw [hm]
  have m0 : 0 ≤ m := by omega
  have m1 : m < 10000000000000000 := by omega
  have s1 := mul_bd m0 m0 m1 m1
  have s2 := mul_bd s1.1 m0 s1.2 m1
  have s3 := mul_bd s2.1 m0 s2.2 m1
  have s4 := mul_bd s3.1 m0 s3.2 m1
  refine z_itD (fun c => ?_) (fun c => ?_)
  · walk_at "zz"
    walk_at "nx"
    intro r H5 a5 b5 d5 x5
    exact q _ _ a5 (by omega) d5 (hx.trans x5)
  walk_at "zz"
  refine z_itD (fun c => ?_) (fun c => ?_)
  · walk_at "zz"
    exact q _ _ s1.1 (by omega) d4 hx
  walk_at "zz"
  refine z_itD (fun c => ?_) (fun c => ?_)
  · walk_at "zz"
    refine q _ _ ?_ ?_ d4 hx
    · split <;> omega
    · split <;> omega
  walk_at "zz"
  refine z_itD (fun c => ?_) (fun c => ?_)
  · walk_at "zz"
    exact q _ _ (by omega) (by omega) d4 hx
  walk_at "zz"
  walk_at "nx"
  intro r H5 a5 b5 d5 x5
  walk_at "zz"
  exact q _ _ (by omega) (by omega) d5 (hx.trans x5)
-- law(_law_script): slots 0:_law_script 1:_law_state 2:_law_k 3:_law_number_here 4:_law_far 5:_law_near 6:_law_due 7:_law_actual
def T_law_b1 (K : PySem.W.Frag) : TS :=
    (tSeq (tAsg (tCal (sp_law_number K) (tCons (tVar 1) tNil)) (gName 3))
    (tSeq (tIfS (tNot (tTru K (tCal (sp_law_is_root K) (tCons (tCal (sp_root K) (tCons (tVar 3) tNil)) (tCons (tVar 3) tNil))))) (tRet (tC (.bl false))) tNext)
    (tSeq (tAsg (tCal (sp_law_number K) (tCons (tVar 1) tNil)) (gName 4))
    (tSeq (tAsg (tCal (sp_law_number K) (tCons (tVar 1) tNil)) (gName 5))
    (tCut (tIfS (tTest (tOp (uEq K) (tCal (sp_law_next K) (tCons (tVar 1) (tCons (tC (.int 4)) tNil))) (tC (.int 0)))) (tAsg (tVar 4) (gName 5)) tNext)
    (tSeq (tAsg (tC (.int 0)) (gName 6))
    (tCut (tIfS (tTest (tOp (uLt K) (tVar 5) (tVar 4))) (tAsg (tOp uSub (tOp (uAdd K) (tVar 4) (tVar 5)) (tCal (sp_law_root K) (tCons (tOp uMul (tOp uMul (tC (.int 4)) (tVar 4)) (tVar 5)) tNil))) (gName 6)) tNext)
    (tSeq (tAsg (tCal (sp_gap K) (tCons (tVar 4) (tCons (tVar 5) tNil))) (gName 7))
    (tIfS (tOr (tNot (tTru K (tCal (sp_law_is_integer K) (tCons (tVar 7) tNil)))) (tTest (tOp (uNe K) (tVar 7) (tVar 6)))) (tRet (tC (.bl false))) tNext)))))))))
def T_law (K : PySem.W.Frag) : TS :=
    (tSeq (tAsg (tLst (tCons (tCB (uList K) (tCons (tVar 0) tNil)) (tCons (tC (.int 0)) (tCons (tC (.int 0)) tNil)))) (gName 1))
    (tSeq (tFor (iRng1 (tCons (tC (.int 4)) tNil)) (gName 2) (T_law_b1 K))
    (tRet (tC (.bl true)))))

theorem short_of {n : Int} (h0 : 0 ≤ n) (h : n < 2 ^ 300) : Short n := by
  refine Short.of (b := 300) ?_ (by decide)
  have : ((2 ^ 300 : Nat) : Int) = (2 : Int) ^ 300 := by rw [Int.natCast_pow]; rfl
  omega
theorem p8 : (2 : Int) ^ 300 < 2 ^ 100000 := by
  rw [show (100000 : Nat) = 300 + 99700 from rfl, Int.pow_add]
  have h1 : (0 : Int) < 2 ^ 300 := Int.pow_pos (by decide)
  have h2 : (1 : Int) < 2 ^ 99700 := by
    rw [show (99700 : Nat) = 99699 + 1 from rfl, Int.pow_succ]
    have : (0 : Int) < 2 ^ 99699 := Int.pow_pos (by decide)
    generalize (2 : Int) ^ 99699 = z at *
    omega
  have := Int.mul_lt_mul_of_pos_left h2 h1
  rw [Int.mul_one] at this
  exact this
theorem p9 : (2 : Int) ^ 300 < 2 ^ 800 := by decide +kernel
theorem r_law {K : PySem.W.Frag} {a : Addr} {ns : List Int} {H : Hp} {D : Ends} (hS : SqL K H a (ns.map V.int)) (hl : ns.length ≤ 63) (q : ∀ H', D.rt (.bl true) H') : T_law K D [some (.ref a), none, none, none, none, none, none, none] H := by
  unfold T_law
  walk_at "zz"
  rename_i l hl p hp
  have d0 := Draw.start (K := K) hl hp
  refine z_rng1 (by decide) ?_ (by decide)
  refine z_rng (fun i σ H' => ∃ v2 v3 v4 v5 v6 v7, σ = [some (.ref a), some (.ref p), v2, v3, v4, v5, v6, v7] ∧ Draw K H' p) ⟨_, _, _, _, _, _, rfl, d0⟩ ?_ ?_
  · rintro i σ H1 hi ⟨v2, v3, v4, v5, v6, v7, rfl, d1⟩
    unfold T_law_b1
    walk_at "zz"
    refine law_number_c d1 fun n H2 n0 n1 d2 x2 => ?_
    walk_at "zz"
    refine root_c (Int.lt_trans n1 p8) ?_
    walk_at "zz"
    have rs := rootZ_spec n0
    refine ⟨_, _, rfl, rootZ_nn n, rs.1, rs.2, Int.lt_trans n1 p9, ?_⟩
    walk_at "zz"
    refine z_iteF' rfl ?_
    walk_at "zz"
    refine law_number_c d2 fun far H3 f0 f1 d3 x3 => ?_
    walk_at "zz"
    refine law_number_c d3 fun near H4 g0 g1 d4 x4 => ?_
    walk_at "zz"
    refine z_cut (fun σ H' => Draw K H' p ∧ ∃ near : Int, 0 ≤ near ∧ near < 2 ^ 300 ∧ σ = [some (.ref a), some (.ref p), some (.int (0 + i)), some (.int n), some (.int far), some (.int near), v6, v7]) ?_ ?_
    · walk_at "zz"
      walk_at "nx"
      intro r H5 a5 b5 d5 x5
      walk_at "zz"
      refine z_itD (fun c => ?_) (fun c => ?_)
      · walk_at "zz"
        exact ⟨d5, _, f0, f1, rfl⟩
      · walk_at "zz"
        exact ⟨d5, _, g0, g1, rfl⟩
    rintro σ H5 ⟨d5, near, g0, g1, rfl⟩
    walk_at "zz"
    refine z_cut (fun σ H' => H5 = H' ∧ σ = [some (.ref a), some (.ref p), some (.int (0 + i)), some (.int n), some (.int far), some (.int near), some (.int (gapZ far near)), v7]) ?_ ?_
    · walk_at "zz"
      refine z_itD (fun c => ?_) (fun c => ?_)
      · have s1 := short_of f0 f1
        have s2 := short_of g0 g1
        walk_at "zz"
        refine z_mul (Short.mul4 s1 s2) ?_
        walk_at "zz"
        have hb := mul_bd f0 g0 f1 g1
        have hm : 4 * far * near = 4 * (far * near) := Int.mul_assoc _ _ _
        refine ⟨_, rfl, by omega, ?_, ?_⟩
        · have : (4 : Int) * (2 ^ 300 * 2 ^ 300) < 2 ^ 800 := by decide +kernel
          omega
        walk_at "zz"
        rw [show gapZ far near = far + near - rootZ (4 * far * near) from if_neg (by omega)]
        exact ⟨rfl, rfl⟩
      · walk_at "zz"
        rw [show gapZ far near = 0 from if_pos (by omega)]
        exact ⟨rfl, rfl⟩
    rintro σ H' ⟨rfl, rfl⟩
    walk_at "zz"
    refine ⟨_, _, rfl, short_of f0 f1, short_of g0 g1, ?_⟩
    walk_at "zz"
    refine ⟨_, rfl, ?_⟩
    walk_at "zz"
    refine z_iteF' rfl ?_
    walk_at "zz"
    refine z_iteF' (by rw [decide_eq_true rfl]; rfl) ?_
    walk_at "zz"
    exact ⟨_, _, _, _, _, _, rfl, d5⟩
  · rintro σ H' ⟨v2, v3, v4, v5, v6, v7, rfl, d1⟩
    walk_at "zz"
    exact q _
abbrev N_law_root : List Str := ["_law_number_here", "_law_low", "_law_high", "_law_k", "_law_middle"]
theorem w_law_root {K : PySem.W.Frag} : Wd (T_law_root K) N_law_root 1 (sp_law_root K) := fun vs H Q E h => by
  obtain ⟨n, rfl, h0, hn, k⟩ := h
  exact ⟨rfl, r_law_root h0 hn k⟩
abbrev N_law_is_root : List Str := ["_law_actual", "_law_number_here"]
theorem w_law_is_root {K : PySem.W.Frag} : Wd (T_law_is_root K) N_law_is_root 2 (sp_law_is_root K) := fun vs H Q E h => by
  obtain ⟨r, n, rfl, h0, h1, h2, hn, k⟩ := h
  exact ⟨rfl, r_law_is_root h0 h1 h2 hn k⟩
abbrev N_law_number : List Str := ["_law_state", "_law_kind", "_law_drawn"]
theorem w_law_number {K : PySem.W.Frag} : Wd (T_law_number K) N_law_number 1 (sp_law_number K) := fun vs H Q E h => by
  obtain ⟨st, rfl, d, q⟩ := h
  exact ⟨rfl, r_law_number d q⟩
abbrev N_law : List Str := ["_law_script", "_law_state", "_law_k", "_law_number_here", "_law_far", "_law_near", "_law_due", "_law_actual"]
theorem w_law {K : PySem.W.Frag} : Wd (T_law K) N_law 1 (sp_law K) := fun vs H Q E h => by
  obtain ⟨a, ns, rfl, hS, hl, q⟩ := h
  exact ⟨rfl, r_law hS hl q⟩
/-! ### the text by places, and its defs, each once -/
def topS (i : Nat) : Stmt := PySem.Challenge.pw_surenear_k00_roots.main.body.getD i (.Pass ⟨0, 0, 0, 0⟩)
section
variable {P : Program} {w : World} {K : PySem.W.Frag} {mg : Str → Option Value} {base : Heap}
abbrev s_root : Stmt := (topS 1)
theorem sc_root : FnScope N_root ["number"] (defScope s_root) := ⟨rfl, rfl, rfl, by decide +kernel, rfl, by decide +kernel, by decide +kernel⟩
theorem ok_root {f : Addr} {fd : FuncData} (F : Fun K "root" "root" s_root f fd) : FnOk P w K mg base CX0 1 f fd ["number"] (sp_root K) := by
  have sc := sc_root
  refine F.ok sc_root (fun vs H Q E h => (w_root vs H Q E h).1) (fun cdv A outer s H vs Q E hr h => ⟨T_root K, ?_, (w_root vs H Q E h).2⟩)
  exact (pss_cons (ps_set (i := 1) sc.nd rfl (by first | exact Or.inl rfl | exact Or.inr rfl) pe_int)
      (pss_cons (ps_set (i := 2) sc.nd rfl (by first | exact Or.inl rfl | exact Or.inr rfl) pe_int)
      (pss_cons (ps_while PassesOwn.never (pt_cmpR op_uLe (pe_op op_uMul (pv 2) (pv 2)) (pv 0) (nomark _)) (pss_one (ps_set (i := 2) sc.nd rfl (by first | exact Or.inl rfl | exact Or.inr rfl) (pe_op op_uMul (pv 2) pe_int))))
      (pss_cons (ps_while PassesOwn.never (pt_cmpR op_uGt (pe_op op_uSub (pv 2) (pv 1)) pe_int (nomark _)) (pss_cons (ps_set (i := 3) sc.nd rfl (by first | exact Or.inl rfl | exact Or.inr rfl) (pe_op op_uDiv (pe_op op_uAdd (pv 1) (pv 2)) pe_int))
      (pss_one (ps_if (pt_cmpR op_uLe (pe_op op_uMul (pv 3) (pv 3)) (pv 0) (nomark _)) (pss_one (ps_set (i := 1) sc.nd rfl (by first | exact Or.inl rfl | exact Or.inr rfl) (pv 3))) (pss_one (ps_set (i := 2) sc.nd rfl (by first | exact Or.inl rfl | exact Or.inr rfl) (pv 3)))))))
      (pss_one (ps_ret (pv 1)))))))
abbrev s_gap : Stmt := (topS 2)
theorem sc_gap : FnScope N_gap ["far", "near"] (defScope s_gap) := ⟨rfl, rfl, rfl, by decide +kernel, rfl, by decide +kernel, by decide +kernel⟩
theorem ok_gap (D_root : Dfn P w K mg base 1 "root" ["number"] (sp_root K)) {f : Addr} {fd : FuncData} (F : Fun K "gap" "gap" s_gap f fd) : FnOk P w K mg base CX0 2 f fd ["far", "near"] (sp_gap K) := by
  have sc := sc_gap
  refine F.ok sc_gap (fun vs H Q E h => (w_gap vs H Q E h).1) (fun cdv A outer s H vs Q E hr h => ⟨T_gap K, ?_, (w_gap vs H Q E h).2⟩)
  exact (pss_cons (ps_if (pt_cmpR op_uGe (pv 1) (pv 0) (nomark _)) (pss_one (ps_ret pe_int)) pss_nil)
      (pss_one (ps_ret (pe_op op_uSub (pe_op op_uAdd (pv 0) (pv 1)) (z_call D_root (hr.mono (by decide)) (by rfl) (pa_cons (pe_op op_uMul (pe_op op_uMul pe_int (pv 0)) (pv 1)) pa_nil))))))
abbrev s_law_row : Stmt := (topS 4)
theorem sc_law_row : FnScope N_law_row ["_law_script", "_law_k"] (defScope s_law_row) := ⟨rfl, rfl, rfl, by decide +kernel, rfl, by decide +kernel, by decide +kernel⟩
theorem ok_law_row (m_len : mg "len" = none) (m_int : mg "int" = none) {f : Addr} {fd : FuncData} (F : Fun K "_law_row" "_law_row" s_law_row f fd) : FnOk P w K mg base CX0 1 f fd ["_law_script", "_law_k"] (sp_law_row K) := by
  have sc := sc_law_row
  refine F.ok sc_law_row (fun vs H Q E h => (w_law_row vs H Q E h).1) (fun cdv A outer s H vs Q E hr h => ⟨T_law_row K, ?_, (w_law_row vs H Q E h).2⟩)
  exact (pss_cons (ps_set (i := 2) sc.nd rfl (by first | exact Or.inl rfl | exact Or.inr rfl) pe_int)
      (pss_cut (ps_if (pt_cmpR (op_uLt hr.units) (pv 1) (pe_callB call_uLen (by rfl) m_len (by decide +kernel) (pa_cons (pv 0) pa_nil)) (nomark _)) (pss_one (ps_set (i := 2) sc.nd rfl (by first | exact Or.inl rfl | exact Or.inr rfl) (pe_ix ix_uIx (pv 0) (pv 1) (fun _ _ => rfl)))) pss_nil)
      (pss_cut (ps_if (pt_cmpR (op_uLt hr.units) (pv 2) pe_int (nomark _)) (pss_one (ps_set (i := 2) sc.nd rfl (by first | exact Or.inl rfl | exact Or.inr rfl) (pe_op op_uSub (pe_op op_uMul (pe_un un_uNeg pe_int) (pv 2)) pe_int))) pss_nil)
      (pss_cut (ps_if (pt_cmpR (op_uLt hr.units) (pv 2) (pe_op op_uPow pe_int pe_int) (nomark _)) (pss_cons (ps_set (i := 3) sc.nd rfl (by first | exact Or.inl rfl | exact Or.inr rfl) (pe_op op_uMod (pe_callTy call_uInt (by rfl) m_int (by decide +kernel) (pa_cons (pe_op op_uAdd (pe_op op_uAdd (pe_op op_uMul (pv 2) pe_int) (pe_op op_uMul (pv 1) pe_int)) pe_int) pa_nil)) pe_int))
      (pss_cons (ps_set (i := 4) sc.nd rfl (by first | exact Or.inl rfl | exact Or.inr rfl) (pe_op op_uMod (pe_callTy call_uInt (by rfl) m_int (by decide +kernel) (pa_cons (pe_op op_uAdd (pe_op op_uAdd (pe_op op_uAdd (pe_op op_uMul (pv 3) pe_int) (pe_op op_uMul (pv 2) pe_int)) (pv 1)) pe_int) pa_nil)) pe_int))
      (pss_cons (ps_set (i := 5) sc.nd rfl (by first | exact Or.inl rfl | exact Or.inr rfl) (pe_op op_uMod (pe_callTy call_uInt (by rfl) m_int (by decide +kernel) (pa_cons (pe_op op_uAdd (pe_op op_uAdd (pe_op op_uMul (pv 4) pe_int) (pe_op op_uMul (pv 3) (pv 4))) pe_int) pa_nil)) pe_int))
      (pss_one (ps_set (i := 2) sc.nd rfl (by first | exact Or.inl rfl | exact Or.inr rfl) (pe_op op_uAdd (pe_op op_uAdd (pv 3) (pe_op op_uMul (pv 4) pe_int)) (pe_op op_uMul (pv 5) (pe_op op_uPow pe_int pe_int)))))))) pss_nil)
      (pss_one (ps_ret (pv 2)))))))
abbrev s_law_next : Stmt := (topS 5)
theorem sc_law_next : FnScope N_law_next ["_law_state", "_law_many"] (defScope s_law_next) := ⟨rfl, rfl, rfl, by decide +kernel, rfl, by decide +kernel, by decide +kernel⟩
theorem ok_law_next (D_law_row : Dfn P w K mg base 1 "_law_row" ["_law_script", "_law_k"] (sp_law_row K)) (m_int : mg "int" = none) {f : Addr} {fd : FuncData} (F : Fun K "_law_next" "_law_next" s_law_next f fd) : FnOk P w K mg base CX0 2 f fd ["_law_state", "_law_many"] (sp_law_next K) := by
  have sc := sc_law_next
  refine F.ok sc_law_next (fun vs H Q E h => (w_law_next vs H Q E h).1) (fun cdv A outer s H vs Q E hr h => ⟨T_law_next K, ?_, (w_law_next vs H Q E h).2⟩)
  exact (pss_cut (ps_if (pt_cmpR (op_uLt hr.units) (pe_ix ix_uIx (pv 0) pe_int (fun _ _ => rfl)) (pv 1) (nomark _)) (pss_cons (ps_asg (z_call D_law_row (hr.mono (by decide)) (by rfl) (pa_cons (pe_ix ix_uIx (pv 0) pe_int (fun _ _ => rfl)) (pa_cons (pe_ix ix_uIx (pv 0) pe_int (fun _ _ => rfl)) pa_nil))) (pg_sub (pv 0) pe_int set_list))
      (pss_one (ps_asg (pe_op op_uAdd (pe_ix ix_uIx (pv 0) pe_int (fun _ _ => rfl)) pe_int) (pg_sub (pv 0) pe_int set_list)))) pss_nil)
      (pss_cons (ps_set (i := 2) sc.nd rfl (by first | exact Or.inl rfl | exact Or.inr rfl) (pe_op op_uMod (pe_callTy call_uInt (by rfl) m_int (by decide +kernel) (pa_cons (pe_ix ix_uIx (pv 0) pe_int (fun _ _ => rfl)) pa_nil)) (pv 1)))
      (pss_cons (ps_asg (pe_op op_uDiv (pe_ix ix_uIx (pv 0) pe_int (fun _ _ => rfl)) (pv 1)) (pg_sub (pv 0) pe_int set_list))
      (pss_one (ps_ret (pv 2))))))
abbrev s_law_is_integer : Stmt := (topS 6)
theorem sc_law_is_integer : FnScope N_law_is_integer ["_law_actual"] (defScope s_law_is_integer) := ⟨rfl, rfl, rfl, by decide +kernel, rfl, by decide +kernel, by decide +kernel⟩
theorem ok_law_is_integer (m_int : mg "int" = none) (m_isinstance : mg "isinstance" = none) (m_bool : mg "bool" = none) {f : Addr} {fd : FuncData} (F : Fun K "_law_is_integer" "_law_is_integer" s_law_is_integer f fd) : FnOk P w K mg base CX0 1 f fd ["_law_actual"] (sp_law_is_integer K) := by
  have sc := sc_law_is_integer
  refine F.ok sc_law_is_integer (fun vs H Q E h => (w_law_is_integer vs H Q E h).1) (fun cdv A outer s H vs Q E hr h => ⟨T_law_is_integer K, ?_, (w_law_is_integer vs H Q E h).2⟩)
  exact (pss_one (ps_ret (pe_and (pe_callB call_uIsi (by rfl) m_isinstance (by decide +kernel) (pa_cons (pv 0) (pa_cons (pe_bltn (by rfl) m_int (by decide +kernel) rfl) pa_nil))) (pe_one (pe_not (pe_callB call_uIsi (by rfl) m_isinstance (by decide +kernel) (pa_cons (pv 0) (pa_cons (pe_bltn (by rfl) m_bool (by decide +kernel) rfl) pa_nil))))))))
abbrev s_law_root : Stmt := (topS 7)
theorem sc_law_root : FnScope N_law_root ["_law_number_here"] (defScope s_law_root) := ⟨rfl, rfl, rfl, by decide +kernel, rfl, by decide +kernel, by decide +kernel⟩
theorem ok_law_root (m_range : mg "range" = none) {f : Addr} {fd : FuncData} (F : Fun K "_law_root" "_law_root" s_law_root f fd) : FnOk P w K mg base CX0 1 f fd ["_law_number_here"] (sp_law_root K) := by
  have sc := sc_law_root
  refine F.ok sc_law_root (fun vs H Q E h => (w_law_root vs H Q E h).1) (fun cdv A outer s H vs Q E hr h => ⟨T_law_root K, ?_, (w_law_root vs H Q E h).2⟩)
  exact (pss_cons (ps_set (i := 1) sc.nd rfl (by first | exact Or.inl rfl | exact Or.inr rfl) pe_int)
      (pss_cons (ps_set (i := 2) sc.nd rfl (by first | exact Or.inl rfl | exact Or.inr rfl) pe_int)
      (pss_cut (ps_for PassesOwn.never rfl (pi_range1 (by rfl) m_range (pa_cons pe_int pa_nil)) (pg_name (i := 3) sc.nd rfl (by first | exact Or.inl rfl | exact Or.inr rfl)) (pss_cons (ps_if (pt_cmpR op_uGt (pe_op op_uMul (pv 2) (pv 2)) (pv 0) (nomark _)) (pss_one ps_break) pss_nil)
      (pss_one (ps_set (i := 2) sc.nd rfl (by first | exact Or.inl rfl | exact Or.inr rfl) (pe_op op_uMul (pv 2) pe_int)))))
      (pss_cut (ps_for PassesOwn.never rfl (pi_range1 (by rfl) m_range (pa_cons pe_int pa_nil)) (pg_name (i := 3) sc.nd rfl (by first | exact Or.inl rfl | exact Or.inr rfl)) (pss_cons (ps_if (pt_cmpR op_uLe (pe_op op_uSub (pv 2) (pv 1)) pe_int (nomark _)) (pss_one ps_break) pss_nil)
      (pss_cons (ps_set (i := 4) sc.nd rfl (by first | exact Or.inl rfl | exact Or.inr rfl) (pe_op op_uDiv (pe_op op_uAdd (pv 1) (pv 2)) pe_int))
      (pss_one (ps_if (pt_cmpR op_uLe (pe_op op_uMul (pv 4) (pv 4)) (pv 0) (nomark _)) (pss_one (ps_set (i := 1) sc.nd rfl (by first | exact Or.inl rfl | exact Or.inr rfl) (pv 4))) (pss_one (ps_set (i := 2) sc.nd rfl (by first | exact Or.inl rfl | exact Or.inr rfl) (pv 4))))))))
      (pss_one (ps_ret (pv 1)))))))
abbrev s_law_is_root : Stmt := (topS 8)
theorem sc_law_is_root : FnScope N_law_is_root ["_law_actual", "_law_number_here"] (defScope s_law_is_root) := ⟨rfl, rfl, rfl, by decide +kernel, rfl, by decide +kernel, by decide +kernel⟩
theorem ok_law_is_root (D_law_is_integer : Dfn P w K mg base 1 "_law_is_integer" ["_law_actual"] (sp_law_is_integer K)) {f : Addr} {fd : FuncData} (F : Fun K "_law_is_root" "_law_is_root" s_law_is_root f fd) : FnOk P w K mg base CX0 2 f fd ["_law_actual", "_law_number_here"] (sp_law_is_root K) := by
  have sc := sc_law_is_root
  refine F.ok sc_law_is_root (fun vs H Q E h => (w_law_is_root vs H Q E h).1) (fun cdv A outer s H vs Q E hr h => ⟨T_law_is_root K, ?_, (w_law_is_root vs H Q E h).2⟩)
  exact (pss_one (ps_ret (pe_and (z_call D_law_is_integer (hr.mono (by decide)) (by rfl) (pa_cons (pv 0) pa_nil)) (pe_and (pe_cmpR op_uGe (pv 0) pe_int (nomark _)) (pe_and (pe_cmpR op_uLe (pe_op op_uMul (pv 0) (pv 0)) (pv 1) (nomark _)) (pe_one (pe_cmpR op_uGt (pe_op op_uMul (pe_op op_uAdd (pv 0) pe_int) (pe_op op_uAdd (pv 0) pe_int)) (pv 1) (nomark _))))))))
abbrev s_law_number : Stmt := (topS 9)
theorem sc_law_number : FnScope N_law_number ["_law_state"] (defScope s_law_number) := ⟨rfl, rfl, rfl, by decide +kernel, rfl, by decide +kernel, by decide +kernel⟩
theorem ok_law_number (D_law_next : Dfn P w K mg base 2 "_law_next" ["_law_state", "_law_many"] (sp_law_next K)) (m_max : mg "max" = none) {f : Addr} {fd : FuncData} (F : Fun K "_law_number" "_law_number" s_law_number f fd) : FnOk P w K mg base CX0 3 f fd ["_law_state"] (sp_law_number K) := by
  have sc := sc_law_number
  refine F.ok sc_law_number (fun vs H Q E h => (w_law_number vs H Q E h).1) (fun cdv A outer s H vs Q E hr h => ⟨T_law_number K, ?_, (w_law_number vs H Q E h).2⟩)
  exact (pss_cons (ps_set (i := 1) sc.nd rfl (by first | exact Or.inl rfl | exact Or.inr rfl) (z_call D_law_next (hr.mono (by decide)) (by rfl) (pa_cons (pv 0) (pa_cons pe_int pa_nil))))
      (pss_cons (ps_set (i := 2) sc.nd rfl (by first | exact Or.inl rfl | exact Or.inr rfl) (pe_op op_uAdd (pe_op op_uMul (z_call D_law_next (hr.mono (by decide)) (by rfl) (pa_cons (pv 0) (pa_cons (pe_op op_uPow pe_int pe_int) pa_nil))) (z_call D_law_next (hr.mono (by decide)) (by rfl) (pa_cons (pv 0) (pa_cons (pe_op op_uPow pe_int pe_int) pa_nil)))) (z_call D_law_next (hr.mono (by decide)) (by rfl) (pa_cons (pv 0) (pa_cons pe_int pa_nil)))))
      (pss_cons (ps_if (pt_cmpR (op_uEq hr.units) (pv 1) pe_int (nomark _)) (pss_one (ps_ret (z_call D_law_next (hr.mono (by decide)) (by rfl) (pa_cons (pv 0) (pa_cons pe_int pa_nil))))) pss_nil)
      (pss_cons (ps_if (pt_cmpR (op_uEq hr.units) (pv 1) pe_int (nomark _)) (pss_one (ps_ret (pe_op op_uMul (pv 2) (pv 2)))) pss_nil)
      (pss_cons (ps_if (pt_cmpR (op_uEq hr.units) (pv 1) pe_int (nomark _)) (pss_one (ps_ret (pe_callB (call_uMax rfl) (by rfl) m_max (by decide +kernel) (pa_cons pe_int (pa_cons (pe_op op_uSub (pe_op op_uMul (pv 2) (pv 2)) pe_int) pa_nil))))) pss_nil)
      (pss_cons (ps_if (pt_cmpR (op_uEq hr.units) (pv 1) pe_int (nomark _)) (pss_one (ps_ret (pe_op op_uAdd (pe_op op_uMul (pv 2) (pv 2)) pe_int))) pss_nil)
      (pss_one (ps_ret (pe_op op_uAdd (pe_op op_uMul (pe_op op_uMul (pe_op op_uMul (pe_op op_uMul (pv 2) (pv 2)) (pv 2)) (pv 2)) (pv 2)) (z_call D_law_next (hr.mono (by decide)) (by rfl) (pa_cons (pv 0) (pa_cons (pe_op op_uPow pe_int pe_int) pa_nil))))))))))))
abbrev s_law : Stmt := (topS 10)
theorem sc_law : FnScope N_law ["_law_script"] (defScope s_law) := ⟨rfl, rfl, rfl, by decide +kernel, rfl, by decide +kernel, by decide +kernel⟩
theorem ok_law (D_law_number : Dfn P w K mg base 3 "_law_number" ["_law_state"] (sp_law_number K)) (D_root : Dfn P w K mg base 1 "root" ["number"] (sp_root K)) (D_law_is_root : Dfn P w K mg base 2 "_law_is_root" ["_law_actual", "_law_number_here"] (sp_law_is_root K)) (D_law_next : Dfn P w K mg base 2 "_law_next" ["_law_state", "_law_many"] (sp_law_next K)) (D_law_root : Dfn P w K mg base 1 "_law_root" ["_law_number_here"] (sp_law_root K)) (D_gap : Dfn P w K mg base 2 "gap" ["far", "near"] (sp_gap K)) (D_law_is_integer : Dfn P w K mg base 1 "_law_is_integer" ["_law_actual"] (sp_law_is_integer K)) (m_list : mg "list" = none) (m_range : mg "range" = none) {f : Addr} {fd : FuncData} (F : Fun K "law" "law" s_law f fd) : FnOk P w K mg base CX0 4 f fd ["_law_script"] (sp_law K) := by
  have sc := sc_law
  refine F.ok sc_law (fun vs H Q E h => (w_law vs H Q E h).1) (fun cdv A outer s H vs Q E hr h => ⟨T_law K, ?_, (w_law vs H Q E h).2⟩)
  exact (pss_cons (ps_set (i := 1) sc.nd rfl (by first | exact Or.inl rfl | exact Or.inr rfl) (pe_lst (pa_cons (pe_callTy call_uList (by rfl) m_list (by decide +kernel) (pa_cons (pv 0) pa_nil)) (pa_cons pe_int (pa_cons pe_int pa_nil)))))
      (pss_cons (ps_for PassesOwn.never rfl (pi_range1 (by rfl) m_range (pa_cons pe_int pa_nil)) (pg_name (i := 2) sc.nd rfl (by first | exact Or.inl rfl | exact Or.inr rfl)) (pss_cons (ps_set (i := 3) sc.nd rfl (by first | exact Or.inl rfl | exact Or.inr rfl) (z_call D_law_number (hr.mono (by decide)) (by rfl) (pa_cons (pv 1) pa_nil)))
      (pss_cons (ps_if (pt_not (pt_u (z_call D_law_is_root (hr.mono (by decide)) (by rfl) (pa_cons (z_call D_root (hr.mono (by decide)) (by rfl) (pa_cons (pv 3) pa_nil)) (pa_cons (pv 3) pa_nil))))) (pss_one (ps_ret pe_bl)) pss_nil)
      (pss_cons (ps_set (i := 4) sc.nd rfl (by first | exact Or.inl rfl | exact Or.inr rfl) (z_call D_law_number (hr.mono (by decide)) (by rfl) (pa_cons (pv 1) pa_nil)))
      (pss_cons (ps_set (i := 5) sc.nd rfl (by first | exact Or.inl rfl | exact Or.inr rfl) (z_call D_law_number (hr.mono (by decide)) (by rfl) (pa_cons (pv 1) pa_nil)))
      (pss_cut (ps_if (pt_cmpR (op_uEq hr.units) (z_call D_law_next (hr.mono (by decide)) (by rfl) (pa_cons (pv 1) (pa_cons pe_int pa_nil))) pe_int (nomark _)) (pss_one (ps_set (i := 5) sc.nd rfl (by first | exact Or.inl rfl | exact Or.inr rfl) (pv 4))) pss_nil)
      (pss_cons (ps_set (i := 6) sc.nd rfl (by first | exact Or.inl rfl | exact Or.inr rfl) pe_int)
      (pss_cut (ps_if (pt_cmpR (op_uLt hr.units) (pv 5) (pv 4) (nomark _)) (pss_one (ps_set (i := 6) sc.nd rfl (by first | exact Or.inl rfl | exact Or.inr rfl) (pe_op op_uSub (pe_op op_uAdd (pv 4) (pv 5)) (z_call D_law_root (hr.mono (by decide)) (by rfl) (pa_cons (pe_op op_uMul (pe_op op_uMul pe_int (pv 4)) (pv 5)) pa_nil))))) pss_nil)
      (pss_cons (ps_set (i := 7) sc.nd rfl (by first | exact Or.inl rfl | exact Or.inr rfl) (z_call D_gap (hr.mono (by decide)) (by rfl) (pa_cons (pv 4) (pa_cons (pv 5) pa_nil))))
      (pss_one (ps_if (PW.pt (pw_or (pt_not (pt_u (z_call D_law_is_integer (hr.mono (by decide)) (by rfl) (pa_cons (pv 7) pa_nil)))) (pw_or1 (pt_cmpR (op_uNe hr.units) (pv 7) (pv 6) (nomark _))))) (pss_one (ps_ret pe_bl)) pss_nil)))))))))))
      (pss_one (ps_ret pe_bl))))
end
theorem all_mk {l : PySem.W.OpenLaw} {w : World} {K : PySem.W.Frag} {h : Heap} {mg : Str → Option Value} {fa f0 f1 f2 f3 f4 f5 f6 f7 f8 : Addr} (X : K.In h) (G : h.Ns mainGlobals mg) (hfa : mg "law" = some (.ref fa))
    {od0 an0 od1 an1 od2 an2 od3 an3 od4 an4 od5 an5 od6 an6 od7 an7 od8 an8 : Option Addr} {sl0 sl1 sl2 sl3 sl4 sl5 sl6 sl7 sl8 : Array (Option Value)} {oc0 kV0 dc0 pm0 cd0 ct0 oc1 kV1 dc1 pm1 cd1 ct1 oc2 kV2 dc2 pm2 cd2 ct2 oc3 kV3 dc3 pm3 cd3 ct3 oc4 kV4 dc4 pm4 cd4 ct4 oc5 kV5 dc5 pm5 cd5 ct5 oc6 kV6 dc6 pm6 cd6 ct6 oc7 kV7 dc7 pm7 cd7 ct7 oc8 kV8 dc8 pm8 cd8 ct8 : Value}
    (a0 : PySem.W.nsIn K mainGlobals "root" = some (some (.ref f0))) (l0 : K.lookup f0 = some ⟨oc0, od0, .func (PySem.W.fnOf "root" "root" (defArgs s_root) (defBody s_root) (defScope s_root) .none kV0 dc0 pm0 an0 cd0 ct0), sl0⟩) (c0 : PySem.W.codeIn K cd0 "root" = true) (k0 : PySem.W.keepIn K (.ref f0) = true)
    (a1 : PySem.W.nsIn K mainGlobals "gap" = some (some (.ref f1))) (l1 : K.lookup f1 = some ⟨oc1, od1, .func (PySem.W.fnOf "gap" "gap" (defArgs s_gap) (defBody s_gap) (defScope s_gap) .none kV1 dc1 pm1 an1 cd1 ct1), sl1⟩) (c1 : PySem.W.codeIn K cd1 "gap" = true) (k1 : PySem.W.keepIn K (.ref f1) = true)
    (a2 : PySem.W.nsIn K mainGlobals "_law_row" = some (some (.ref f2))) (l2 : K.lookup f2 = some ⟨oc2, od2, .func (PySem.W.fnOf "_law_row" "_law_row" (defArgs s_law_row) (defBody s_law_row) (defScope s_law_row) .none kV2 dc2 pm2 an2 cd2 ct2), sl2⟩) (c2 : PySem.W.codeIn K cd2 "_law_row" = true) (k2 : PySem.W.keepIn K (.ref f2) = true)
    (a3 : PySem.W.nsIn K mainGlobals "_law_next" = some (some (.ref f3))) (l3 : K.lookup f3 = some ⟨oc3, od3, .func (PySem.W.fnOf "_law_next" "_law_next" (defArgs s_law_next) (defBody s_law_next) (defScope s_law_next) .none kV3 dc3 pm3 an3 cd3 ct3), sl3⟩) (c3 : PySem.W.codeIn K cd3 "_law_next" = true) (k3 : PySem.W.keepIn K (.ref f3) = true)
    (a4 : PySem.W.nsIn K mainGlobals "_law_is_integer" = some (some (.ref f4))) (l4 : K.lookup f4 = some ⟨oc4, od4, .func (PySem.W.fnOf "_law_is_integer" "_law_is_integer" (defArgs s_law_is_integer) (defBody s_law_is_integer) (defScope s_law_is_integer) .none kV4 dc4 pm4 an4 cd4 ct4), sl4⟩) (c4 : PySem.W.codeIn K cd4 "_law_is_integer" = true) (k4 : PySem.W.keepIn K (.ref f4) = true)
    (a5 : PySem.W.nsIn K mainGlobals "_law_root" = some (some (.ref f5))) (l5 : K.lookup f5 = some ⟨oc5, od5, .func (PySem.W.fnOf "_law_root" "_law_root" (defArgs s_law_root) (defBody s_law_root) (defScope s_law_root) .none kV5 dc5 pm5 an5 cd5 ct5), sl5⟩) (c5 : PySem.W.codeIn K cd5 "_law_root" = true) (k5 : PySem.W.keepIn K (.ref f5) = true)
    (a6 : PySem.W.nsIn K mainGlobals "_law_is_root" = some (some (.ref f6))) (l6 : K.lookup f6 = some ⟨oc6, od6, .func (PySem.W.fnOf "_law_is_root" "_law_is_root" (defArgs s_law_is_root) (defBody s_law_is_root) (defScope s_law_is_root) .none kV6 dc6 pm6 an6 cd6 ct6), sl6⟩) (c6 : PySem.W.codeIn K cd6 "_law_is_root" = true) (k6 : PySem.W.keepIn K (.ref f6) = true)
    (a7 : PySem.W.nsIn K mainGlobals "_law_number" = some (some (.ref f7))) (l7 : K.lookup f7 = some ⟨oc7, od7, .func (PySem.W.fnOf "_law_number" "_law_number" (defArgs s_law_number) (defBody s_law_number) (defScope s_law_number) .none kV7 dc7 pm7 an7 cd7 ct7), sl7⟩) (c7 : PySem.W.codeIn K cd7 "_law_number" = true) (k7 : PySem.W.keepIn K (.ref f7) = true)
    (a8 : PySem.W.nsIn K mainGlobals "law" = some (some (.ref f8))) (l8 : K.lookup f8 = some ⟨oc8, od8, .func (PySem.W.fnOf "law" "law" (defArgs s_law) (defBody s_law) (defScope s_law) .none kV8 dc8 pm8 an8 cd8 ct8), sl8⟩) (c8 : PySem.W.codeIn K cd8 "law" = true) (k8 : PySem.W.keepIn K (.ref f8) = true)
    (z0 : PySem.W.nsIn K mainGlobals "len" = some none) (z1 : PySem.W.nsIn K mainGlobals "int" = some none) (z2 : PySem.W.nsIn K mainGlobals "isinstance" = some none) (z3 : PySem.W.nsIn K mainGlobals "bool" = some none) (z4 : PySem.W.nsIn K mainGlobals "range" = some none) (z5 : PySem.W.nsIn K mainGlobals "max" = some none) (z6 : PySem.W.nsIn K mainGlobals "list" = some none) :
    ∃ fd : FuncData, (∀ (s : Shared) (v : Value), BindsTo s fd ⟨[v], []⟩ [("_law_script", v)]) ∧ ∀ base : Heap, K.In base → base.Ns mainGlobals mg → FnOk l.prog w K mg base CX0 4 fa fd ["_law_script"] (sp_law K) := by
  have e := hfa.symm.trans (PySem.W.mg_of X G a8)
  cases e
  have m_len := PySem.W.mg_none_of X G z0
  have m_int := PySem.W.mg_none_of X G z1
  have m_isinstance := PySem.W.mg_none_of X G z2
  have m_bool := PySem.W.mg_none_of X G z3
  have m_range := PySem.W.mg_none_of X G z4
  have m_max := PySem.W.mg_none_of X G z5
  have m_list := PySem.W.mg_none_of X G z6
  have F0 := fun_mk (st := s_root) l0 c0 k0
  have F1 := fun_mk (st := s_gap) l1 c1 k1
  have F2 := fun_mk (st := s_law_row) l2 c2 k2
  have F3 := fun_mk (st := s_law_next) l3 c3 k3
  have F4 := fun_mk (st := s_law_is_integer) l4 c4 k4
  have F5 := fun_mk (st := s_law_root) l5 c5 k5
  have F6 := fun_mk (st := s_law_is_root) l6 c6 k6
  have F7 := fun_mk (st := s_law_number) l7 c7 k7
  have F8 := fun_mk (st := s_law) l8 c8 k8
  refine ⟨PySem.W.fnOf "law" "law" (defArgs s_law) (defBody s_law) (defScope s_law) .none kV8 dc8 pm8 an8 cd8 ct8, fun s v => .of_eq rfl, fun base _ _ => ?_⟩
  have D_root : Dfn l.prog w K mg base 1 "root" ["number"] (sp_root K) := ⟨_, _, PySem.W.mg_of X G a0, F0.kp, F0.binds (ps := ["number"]) (fun _ _ _ _ _ _ us hl => match us, hl with | [_], _ => rfl), ok_root F0⟩
  have D_gap : Dfn l.prog w K mg base 2 "gap" ["far", "near"] (sp_gap K) := ⟨_, _, PySem.W.mg_of X G a1, F1.kp, F1.binds (ps := ["far", "near"]) (fun _ _ _ _ _ _ us hl => match us, hl with | [_, _], _ => rfl), ok_gap D_root F1⟩
  have D_law_row : Dfn l.prog w K mg base 1 "_law_row" ["_law_script", "_law_k"] (sp_law_row K) := ⟨_, _, PySem.W.mg_of X G a2, F2.kp, F2.binds (ps := ["_law_script", "_law_k"]) (fun _ _ _ _ _ _ us hl => match us, hl with | [_, _], _ => rfl), ok_law_row m_len m_int F2⟩
  have D_law_next : Dfn l.prog w K mg base 2 "_law_next" ["_law_state", "_law_many"] (sp_law_next K) := ⟨_, _, PySem.W.mg_of X G a3, F3.kp, F3.binds (ps := ["_law_state", "_law_many"]) (fun _ _ _ _ _ _ us hl => match us, hl with | [_, _], _ => rfl), ok_law_next D_law_row m_int F3⟩
  have D_law_is_integer : Dfn l.prog w K mg base 1 "_law_is_integer" ["_law_actual"] (sp_law_is_integer K) := ⟨_, _, PySem.W.mg_of X G a4, F4.kp, F4.binds (ps := ["_law_actual"]) (fun _ _ _ _ _ _ us hl => match us, hl with | [_], _ => rfl), ok_law_is_integer m_int m_isinstance m_bool F4⟩
  have D_law_root : Dfn l.prog w K mg base 1 "_law_root" ["_law_number_here"] (sp_law_root K) := ⟨_, _, PySem.W.mg_of X G a5, F5.kp, F5.binds (ps := ["_law_number_here"]) (fun _ _ _ _ _ _ us hl => match us, hl with | [_], _ => rfl), ok_law_root m_range F5⟩
  have D_law_is_root : Dfn l.prog w K mg base 2 "_law_is_root" ["_law_actual", "_law_number_here"] (sp_law_is_root K) := ⟨_, _, PySem.W.mg_of X G a6, F6.kp, F6.binds (ps := ["_law_actual", "_law_number_here"]) (fun _ _ _ _ _ _ us hl => match us, hl with | [_, _], _ => rfl), ok_law_is_root D_law_is_integer F6⟩
  have D_law_number : Dfn l.prog w K mg base 3 "_law_number" ["_law_state"] (sp_law_number K) := ⟨_, _, PySem.W.mg_of X G a7, F7.kp, F7.binds (ps := ["_law_state"]) (fun _ _ _ _ _ _ us hl => match us, hl with | [_], _ => rfl), ok_law_number D_law_next m_max F7⟩
  exact ok_law D_law_number D_root D_law_is_root D_law_next D_law_root D_gap D_law_is_integer m_list m_range F8
theorem walk {l : PySem.W.OpenLaw} {q : Program} {loose : List Str} {XP : (Str → Option Value) → Heap → Prop} {YP : World → Heap → Prop} {d : DefRec} {K : Params → PySem.W.Frag} (hn : l.most = some 63) (hdf : d.params.defaults = [])
    (hY : ∀ (w : World) (h : Heap), YP w h → (K w.params).In h)
    (F : ∀ (w : World) (mg : Str → Option Value) (fa : Addr) (h : Heap), (K w.params).In h → h.Ns mainGlobals mg → mg d.name = some (.ref fa) →
      ∃ fd : FuncData, (∀ (s : Shared) (u : Value), BindsTo s fd ⟨[u], []⟩ [("_law_script", u)]) ∧ ∀ base : Heap, (K w.params).In base → base.Ns mainGlobals mg → FnOk l.prog w (K w.params) mg base CX0 4 fa fd ["_law_script"] (sp_law (K w.params))) :
    PySem.W.WalkO q loose XP YP l.row.toRowW d [] (fun f vs => PySem.call f vs) :=
  L2.walk_of (n := 63) (k := 4) (x := "_law_script") (CX := fun _ => CX0) (sp := fun w => sp_law (K w.params)) hn (by decide) hdf ⟨rfl, by decide, by decide⟩ hY F (fun _ _ a ns hl _ hS => ⟨a, ns, rfl, hS, hl, fun _ => rfl⟩) fun _ _ _ _ _ z => z
end Z
open PySem PySem.W PyProof.Rows
set_option maxRecDepth 100000 in
set_option maxHeartbeats 0 in
theorem PySem.Challenge.cw_surenear_k00_roots_holds : PySem.Challenge.rw_surenear_k00_roots.Holds := by
  w_on; o_law; k_head; (case hw => w_witness2)
  k_fill
  refine Z.walk (l := PySem.Challenge.rw_surenear_k00_roots) rfl rfl (fun w h Y => PySem.W.kIn_of Y) ?F
  case F =>
    intro w mg fa h KX G hmg
    refine' Z.all_mk KX G hmg ?a0 ?l0 ?c0 ?k0 ?a1 ?l1 ?c1 ?k1 ?a2 ?l2 ?c2 ?k2 ?a3 ?l3 ?c3 ?k3 ?a4 ?l4 ?c4 ?k4 ?a5 ?l5 ?c5 ?k5 ?a6 ?l6 ?c6 ?k6 ?a7 ?l7 ?c7 ?k7 ?a8 ?l8 ?c8 ?k8 ?z0 ?z1 ?z2 ?z3 ?z4 ?z5 ?z6
    (case a0 => k_is); (case l0 => k_is); (case c0 => k_is); (case k0 => k_is); (case a1 => k_is); (case l1 => k_is); (case c1 => k_is); (case k1 => k_is); (case a2 => k_is); (case l2 => k_is); (case c2 => k_is); (case k2 => k_is); (case a3 => k_is); (case l3 => k_is); (case c3 => k_is); (case k3 => k_is); (case a4 => k_is); (case l4 => k_is); (case c4 => k_is); (case k4 => k_is); (case a5 => k_is); (case l5 => k_is); (case c5 => k_is); (case k5 => k_is); (case a6 => k_is); (case l6 => k_is); (case c6 => k_is); (case k6 => k_is); (case a7 => k_is); (case l7 => k_is); (case c7 => k_is); (case k7 => k_is); (case a8 => k_is); (case l8 => k_is); (case c8 => k_is); (case k8 => k_is); (case z0 => k_is); (case z1 => k_is); (case z2 => k_is); (case z3 => k_is); (case z4 => k_is); (case z5 => k_is); (case z6 => k_is)

