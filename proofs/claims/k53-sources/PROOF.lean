import PyProof.Rows.All
import Wide.All
import OpenK.AllK
import Wide.FinOn
import HandS.ForExc
import HandS.ForMost
import HandS.Wide
import HandS.IsInst
import HandS.TupAny
import HandS.Flow
import HandS.Codes
import HandS.Zip
import HandS.TupLe
import KE.GoesMore
import HandS.Property
import HandS.OwnEq
import HandS.Defaults
import HandS.MakeKwOnly
import PySem.Challenge.RW_surenear_k53_sources_are_checked
set_option Elab.async false
set_option linter.all false
set_option maxRecDepth 100000
set_option maxHeartbeats 4000000
set_option exponentiation.threshold 100000
namespace Z
open PySem PySem.Spec L2
open C8 (tCut pss_cut)
/-! Z: one rule a construct, whatever the kinds of its values; and the steps of a reading. -/

/-! ### operators by the kinds of their values -/
def MulOk (i j : Int) : Prop := CMul i j ∨ CMulW i j
def uAdd (K : PySem.W.Frag) : R2 := fun x y H Q => match x, y with
  | .int i, .int j => Q (.int (i + j)) H
  | .str a, .str b => a.length + b.length ≤ sizeLine ∧ Q (.str (a ++ b)) H
  | .ref l, .ref b => rCat (.ref l) (.ref b) H Q ∨ rCatA K (.ref l) (.ref b) H Q
  | _, _ => False
def uSub : R2 := fun x y H Q => match x, y with
  | .int i, .int j => Q (.int (i - j)) H
  | _, _ => False
def uMul : R2 := fun x y H Q => match x, y with
  | .int i, .int j => MulOk i j ∧ Q (.int (i * j)) H
  | _, _ => False
def uDiv : R2 := fun x y H Q => match x, y with
  | .int i, .int j => CDivW i j ∧ Q (.int (i / j)) H
  | _, _ => False
def uMod : R2 := fun x y H Q => match x, y with
  | .int i, .int j => 0 < j ∧ Q (.int (i % j)) H
  | _, _ => False
def uPow : R2 := fun x y H Q => match x, y with
  | .int i, .int j => CPow i j ∧ Q (.int (i ^ j.toNat)) H
  | _, _ => False
def uNeg : V → Hp → VK → Prop := fun x H Q => match x with
  | .int i => Q (.int (-i)) H
  | _ => False
/-! tuples of numbers and texts, one before the other -/
def ltV1 : V → V → Bool
  | .int i, .int j => decide (i < j)
  | .str a, .str b => decide (a.cps.toList < b.cps.toList)
  | _, _ => false
def same1 : V → V → Bool
  | .int _, .int _ => true
  | .str _, .str _ => true
  | _, _ => false
def ltV2 (xs ys : List V) (j : Nat) : Bool := match xs[j]?, ys[j]? with | some u, some v => ltV1 u v | _, _ => false
def rLtP (K : PySem.W.Frag) (a b : Addr) (H : Hp) (Q : VK) : Prop := ∃ xs ys : List V, SqT K H a xs ∧ SqT K H b ys ∧ (∀ (j : Nat) (u v : V), xs[j]? = some u → ys[j]? = some v → same1 u v = true) ∧
  Q (.bl (Ob.lexAt (fun j => decide (xs[j]? = ys[j]?)) (ltV2 xs ys) (decide (xs.length < ys.length)) 0 (min xs.length ys.length))) H
def uLt (K : PySem.W.Frag) : R2 := fun x y H Q => match x, y with
  | .int i, .int j => Q (.bl (decide (i < j))) H
  | .str i, .str j => Q (.bl (decide (i.cps.toList < j.cps.toList))) H
  | .ref a, .ref b => rLtT K (.ref a) (.ref b) H Q ∨ rLtP K a b H Q
  | _, _ => False
def uLe : R2 := fun x y H Q => match x, y with
  | .int i, .int j => Q (.bl (decide (i ≤ j))) H
  | .str i, .str j => Q (.bl (!decide (j.cps.toList < i.cps.toList))) H
  | _, _ => False
def uGt : R2 := fun x y H Q => match x, y with
  | .int i, .int j => Q (.bl (decide (j < i))) H
  | .str i, .str j => Q (.bl (decide (j.cps.toList < i.cps.toList))) H
  | _, _ => False
def uGe : R2 := fun x y H Q => match x, y with
  | .int i, .int j => Q (.bl (decide (j ≤ i))) H
  | .str i, .str j => Q (.bl (!decide (i.cps.toList < j.cps.toList))) H
  | _, _ => False
/-! ### == of lists and tuples, place by place; the same object is equal to itself -/
def sameSq (K : PySem.W.Frag) (H : Hp) (a c : Addr) (xs ys : List V) : Prop := (SqT K H a xs ∧ SqT K H c ys) ∨ (SqL K H a xs ∧ SqL K H c ys)
def allB (xs ys : List V) (e : Nat → Bool) : Bool := (List.range (min xs.length ys.length)).all e && (xs.length == ys.length)
def EqB (K : PySem.W.Frag) (H : Hp) : Nat → V → V → Bool → Prop
  | 0 => fun x y b => (flatV x = true ∧ flatV y = true ∧ b = eqV x y) ∨ (∃ a, x = .ref a ∧ y = .ref a ∧ b = true)
  | n + 1 => fun x y b => EqB K H n x y b ∨ ∃ a c xs ys e, x = .ref a ∧ y = .ref c ∧ (a = c → b = true) ∧ sameSq K H a c xs ys ∧ (∀ (i : Nat) (x y : V), xs[i]? = some x → ys[i]? = some y → EqB K H n x y (e i)) ∧ b = allB xs ys e
def rSqB (K : PySem.W.Frag) (a c : Addr) (H : Hp) (Q : Bool → Prop) : Prop := ∃ n xs ys e, n ≤ 16 ∧ sameSq K H a c xs ys ∧ (∀ (i : Nat) (x y : V), xs[i]? = some x → ys[i]? = some y → EqB K H n x y (e i)) ∧ Q (allB xs ys e)
theorem sq_both {X : Cx} {pins : List (Addr × Obj)} {σ : L2.St} {H : Hp} {s : Shared} {A : Around} {a c : Addr} {xs ys : List V} {e : Nat → Bool} (I : Inv X pins σ H s) (hu : A.units < cLine) (h : sameSq X.K H a c xs ys)
    (he : ∀ (i : Nat) (x y : V), xs[i]? = some x → ys[i]? = some y → ∀ u v, RelV x u → RelV y v → SeqAt.EqAt A.in1 s u v (e i)) : SeqAt.RcAt A s (.ref a) (.ref c) (allB xs ys e) ∧ SeqAt.RcNeAt A s (.ref a) (.ref c) (!allB xs ys e) := by
  have items : ∀ {us vs : List Value}, Vals xs us → Vals ys vs → ∀ (j : Nat) (h1 : j < us.toArray.size) (h2 : j < vs.toArray.size), SeqAt.EqAt A.in1 s us.toArray[j] vs.toArray[j] (e j) := by
    intro us vs r1 r2 j h1 h2
    have l1 := r1.length
    have l2 := r2.length
    have k1 : j < us.length := by simpa using h1
    have k2 : j < vs.length := by simpa using h2
    obtain ⟨u, eu, ru⟩ := Vals.get r1 (List.getElem?_eq_getElem (show j < xs.length by omega))
    obtain ⟨v, ev, rv⟩ := Vals.get r2 (List.getElem?_eq_getElem (show j < ys.length by omega))
    have z1 : us.toArray[j] = u := by rw [List.getElem?_eq_getElem k1] at eu; simpa using Option.some.inj eu
    have z2 : vs.toArray[j] = v := by rw [List.getElem?_eq_getElem k2] at ev; simpa using Option.some.inj ev
    rw [z1, z2]
    exact he j _ _ (List.getElem?_eq_getElem (show j < xs.length by omega)) (List.getElem?_eq_getElem (show j < ys.length by omega)) u v ru rv
  rcases h with ⟨ha, hc⟩ | ⟨ha, hc⟩
  · obtain ⟨us, r1, p1, _⟩ := I.tuple ha
    obtain ⟨vs, r2, p2, _⟩ := I.tuple hc
    have z : ((List.range (min us.toArray.size vs.toArray.size)).all e && us.toArray.size == vs.toArray.size) = allB xs ys e := by
      unfold allB
      rw [show us.toArray.size = xs.length by simpa using r1.length.symm, show vs.toArray.size = ys.length by simpa using r2.length.symm]
    refine ⟨?_, ?_⟩
    · rw [← z]; exact SeqAt.RcAt.tuples p1 p2 hu (items r1 r2)
    · rw [← z]; exact SeqAt.RcNeAt.tuples p1 p2 hu (items r1 r2)
  · obtain ⟨us, r1, p1, _⟩ := I.list ha
    obtain ⟨vs, r2, p2, _⟩ := I.list hc
    have n1 : us.toArray.size = xs.length := by simpa using r1.length.symm
    have n2 : vs.toArray.size = ys.length := by simpa using r2.length.symm
    by_cases hl : xs.length = ys.length
    · have z : (List.range us.toArray.size).all e = allB xs ys e := by
        unfold allB
        rw [n1, hl, Nat.min_self, beq_self_eq_true, Bool.and_true]
      refine ⟨?_, ?_⟩
      · rw [← z]; exact SeqAt.RcAt.lists p1.isList p2.isList (by omega) hu (items r1 r2)
      · rw [← z]; exact SeqAt.RcNeAt.lists p1.isList p2.isList (by omega) hu (items r1 r2)
    · have z : allB xs ys e = false := by unfold allB; simp [hl]
      have ne : (us.toArray.size != vs.toArray.size) = true := by rw [n1, n2]; simpa using hl
      rw [z]
      exact ⟨SeqAt.RcAt.lists_lengths p1.isList p2.isList ne hu, SeqAt.RcNeAt.lists_lengths p1.isList p2.isList ne hu⟩
theorem EqB.at {X : Cx} {pins : List (Addr × Obj)} {σ : L2.St} {H : Hp} {s : Shared} (I : Inv X pins σ H s) : ∀ (n : Nat) (x y : V) (b : Bool) (u v : Value) (A : Around), A.units + n < cLine → EqB X.K H n x y b → RelV x u → RelV y v → SeqAt.EqAt A s u v b
  | 0, x, y, b, u, v, A, _, h, rx, ry => by
    rcases h with ⟨fx, fy, rfl⟩ | ⟨a, rfl, rfl, rfl⟩
    · exact eqAt_V rx ry fx fy
    · cases rx; cases ry; exact SeqAt.EqAt.same _
  | n + 1, x, y, b, u, v, A, hu, h, rx, ry => by
    rcases h with h | ⟨a, c, xs, ys, e, rfl, rfl, hac, hs, he, hb⟩
    · exact EqB.at I n x y b u v A (by omega) h rx ry
    · cases rx; cases ry
      by_cases q : a = c
      · rw [hac q]; subst q; exact SeqAt.EqAt.same _
      · rw [hb]
        refine SeqAt.EqAt.of_refs q (sq_both I (by omega) hs fun i x y e1 e2 u v r1 r2 => EqB.at I n x y (e i) u v A.in1 ?_ (he i x y e1 e2) r1 r2).1
        show A.units + 1 + n < cLine
        omega
theorem op_sqB {X : Cx} (hu : X.A.units + 64 < cLine) {pins : List (Addr × Obj)} {σ : L2.St} {H : Hp} {s : Shared} {a c : Addr} {Q : VK} (I : Inv X pins σ H s) :
    (rSqB X.K a c H (fun b => Q (.bl b) H) → wpAny (model X.prog X.w) X.A (compareOp .Eq (.ref a) (.ref c)) (EP X pins σ Q) X.xe s) ∧ (rSqB X.K a c H (fun b => Q (.bl (!b)) H) → wpAny (model X.prog X.w) X.A (compareOp .NotEq (.ref a) (.ref c)) (EP X pins σ Q) X.xe s) := by
  have key : ∀ {n : Nat} {xs ys : List V} {e : Nat → Bool}, n ≤ 16 → sameSq X.K H a c xs ys → (∀ (i : Nat) (x y : V), xs[i]? = some x → ys[i]? = some y → EqB X.K H n x y (e i)) → _ := fun {n xs ys e} hn hs he => sq_both (A := X.A) I (by omega) hs fun i x y e1 e2 u v r1 r2 => EqB.at I n x y (e i) u v X.A.in1 (by show X.A.units + 1 + n < cLine; omega) (he i x y e1 e2) r1 r2
  refine ⟨fun ⟨n, xs, ys, e, hn, hs, he, q⟩ => ?_, fun ⟨n, xs, ys, e, hn, hs, he, q⟩ => ?_⟩
  · exact (key hn hs he).1 X.prog X.w X.xe _ ⟨.bl _, H, I, rfl, q⟩
  · exact (key hn hs he).2 X.prog X.w X.xe _ ⟨.bl _, H, I, rfl, q⟩
def uEq (K : PySem.W.Frag) : R2 := fun x y H Q => match x, y with
  | .int i, .int j => Q (.bl (decide (i = j))) H
  | .str i, .str j => Q (.bl (decide (i = j))) H
  | .bl i, .bl j => Q (.bl (decide (i = j))) H
  | .non, .non => Q (.bl true) H
  | .ref a, .ref b => rEqD K (.ref a) (.ref b) H Q ∨ rSqB K a b H (fun k => Q (.bl k) H)
  | x, y => (scal x y = true ∧ Q (.bl (decide (x = y))) H) ∨ rEqD K x y H Q
def uNe (K : PySem.W.Frag) : R2 := fun x y H Q => match x, y with
  | .int i, .int j => Q (.bl (!decide (i = j))) H
  | .str i, .str j => Q (.bl (!decide (i = j))) H
  | .bl i, .bl j => Q (.bl (!decide (i = j))) H
  | .non, .non => Q (.bl false) H
  | .ref a, .ref b => rNeD K (.ref a) (.ref b) H Q ∨ rSqB K a b H (fun k => Q (.bl (!k)) H)
  | x, y => (scal x y = true ∧ Q (.bl (!decide (x = y))) H) ∨ rNeD K x y H Q
def uIs : R2 := fun x y H Q => match x, y with
  | x, .non => Q (.bl (decide (x = .non))) H
  | .bl a, .bl b => Q (.bl (decide (a = b))) H
  | _, _ => False
def uIsNot : R2 := fun x y H Q => match x, y with
  | x, .non => Q (.bl (!decide (x = .non))) H
  | .bl a, .bl b => Q (.bl (!decide (a = b))) H
  | _, _ => False
def uIn (K : PySem.W.Frag) : R2 := fun x y H Q => match x, y with
  | .str i, .str j => Q (.bl (!(Builtin.Str.occurrences j i 0 j.length 1).isEmpty)) H
  | x, y => rIn K false x y H Q
def uNotIn (K : PySem.W.Frag) : R2 := fun x y H Q => match x, y with
  | .str i, .str j => Q (.bl (!(!(Builtin.Str.occurrences j i 0 j.length 1).isEmpty))) H
  | x, y => rIn K true x y H Q

section
variable {X : Cx}
theorem op_uAdd : OpR X (binaryOp .Add) (uAdd X.K) := by
  intro pins s σ H x y v u Q I rx ry h
  cases x <;> cases y <;> first | exact h.elim | skip
  · exact op_add pins s σ H _ _ _ _ Q I rx ry ⟨_, _, rfl, rfl, h⟩
  · exact op_add_str pins s σ H _ _ _ _ Q I rx ry ⟨_, _, rfl, rfl, h.1, h.2⟩
  · rcases h with h | h
    · exact op_cat pins s σ H _ _ _ _ Q I rx ry h
    · exact op_catA pins s σ H _ _ _ _ Q I rx ry h
theorem op_uSub : OpR X (binaryOp .Sub) uSub := by
  intro pins s σ H x y v u Q I rx ry h
  cases x <;> cases y <;> first | exact h.elim | skip
  exact op_sub pins s σ H _ _ _ _ Q I rx ry ⟨_, _, rfl, rfl, h⟩
theorem op_uMul : OpR X (binaryOp .Mult) uMul := by
  intro pins s σ H x y v u Q I rx ry h
  cases x <;> cases y <;> first | exact h.elim | skip
  rcases h with ⟨h | h, q⟩
  · exact op_mul pins s σ H _ _ _ _ Q I rx ry ⟨_, _, rfl, rfl, h, q⟩
  · exact op_mulW pins s σ H _ _ _ _ Q I rx ry ⟨_, _, rfl, rfl, h, q⟩
theorem op_uDiv : OpR X (binaryOp .FloorDiv) uDiv := by
  intro pins s σ H x y v u Q I rx ry h
  cases x <;> cases y <;> first | exact h.elim | skip
  exact op_fdivW pins s σ H _ _ _ _ Q I rx ry ⟨_, _, rfl, rfl, h.1, h.2⟩
theorem op_uMod : OpR X (binaryOp .Mod) uMod := by
  intro pins s σ H x y v u Q I rx ry h
  cases x <;> cases y <;> first | exact h.elim | skip
  exact op_mod pins s σ H _ _ _ _ Q I rx ry ⟨_, _, rfl, rfl, h.1, h.2⟩
theorem op_uPow : OpR X (binaryOp .Pow) uPow := by
  intro pins s σ H x y v u Q I rx ry h
  cases x <;> cases y <;> first | exact h.elim | skip
  exact op_pow pins s σ H _ _ _ _ Q I rx ry ⟨_, _, rfl, rfl, h.1, h.2⟩
theorem un_uNeg : UnR X (unaryOp .USub) uNeg := by
  intro pins s σ H x v Q I rx h
  cases x <;> first | exact h.elim | skip
  exact un_neg pins s σ H _ _ Q I rx ⟨_, rfl, h⟩
theorem op_ltP (hu : X.A.units < cLine) {pins : List (Addr × Obj)} {s : Shared} {σ : L2.St} {H : Hp} {a b : Addr} {Q : VK} (I : Inv X pins σ H s) (h : rLtP X.K a b H Q) :
    wpAny (model X.prog X.w) X.A (compareOp .Lt (.ref a) (.ref b)) (EP X pins σ Q) X.xe s := by
  obtain ⟨xs, ys, ha, hb, hk, q⟩ := h
  obtain ⟨us, r1, p1, _⟩ := I.tuple ha
  obtain ⟨vs, r2, p2, _⟩ := I.tuple hb
  have l1 := r1.length
  have l2 := r2.length
  have both : ∀ (j : Nat) (h1 : j < us.toArray.size) (h2 : j < vs.toArray.size), ∃ x y : V, xs[j]? = some x ∧ ys[j]? = some y ∧ RelV x us.toArray[j] ∧ RelV y vs.toArray[j] := by
    intro j h1 h2
    have k1 : j < us.length := by simpa using h1
    have k2 : j < vs.length := by simpa using h2
    obtain ⟨u, eu, ru⟩ := Vals.get r1 (List.getElem?_eq_getElem (show j < xs.length by omega))
    obtain ⟨v, ev, rv⟩ := Vals.get r2 (List.getElem?_eq_getElem (show j < ys.length by omega))
    refine ⟨_, _, List.getElem?_eq_getElem (show j < xs.length by omega), List.getElem?_eq_getElem (show j < ys.length by omega), ?_, ?_⟩
    · rw [List.getElem?_eq_getElem k1] at eu
      have : us.toArray[j] = u := by simpa using Option.some.inj eu
      rw [this]; exact ru
    · rw [List.getElem?_eq_getElem k2] at ev
      have : vs.toArray[j] = v := by simpa using Option.some.inj ev
      rw [this]; exact rv
  have R := Ob.RcOp.tuples_lt (A := X.A) (s := s) (e := fun j => decide (xs[j]? = ys[j]?)) (r := ltV2 xs ys) p1 p2 hu (fun j h1 h2 => by
    obtain ⟨x, y, ex, ey, rx, ry⟩ := both j h1 h2
    have k := hk j x y ex ey
    rw [ex, ey]
    cases x <;> cases y <;> first | exact Bool.noConfusion (show false = true from k) | skip
    · rename_i i i'
      obtain ⟨t, et⟩ := rx
      obtain ⟨t', et'⟩ := ry
      rw [et, et', show decide (some (V.int i) = some (V.int i')) = (i == i') by rw [Bool.eq_iff_iff]; simp]
      exact SeqAt.EqAt.int_int _ _ _ _
    · rename_i i i'
      obtain ⟨t, et⟩ := rx
      obtain ⟨t', et'⟩ := ry
      rw [et, et', show decide (some (V.str i) = some (V.str i')) = (i == i') by rw [Bool.eq_iff_iff]; simp]
      exact SeqAt.EqAt.str_str _ _ _ _) (fun j h1 h2 _ => by
    obtain ⟨x, y, ex, ey, rx, ry⟩ := both j h1 h2
    have k := hk j x y ex ey
    rw [show ltV2 xs ys j = ltV1 x y by unfold ltV2; rw [ex, ey]]
    cases x <;> cases y <;> first | exact Bool.noConfusion (show false = true from k) | skip
    · obtain ⟨t, et⟩ := rx
      obtain ⟨t', et'⟩ := ry
      rw [et, et']
      exact Ob.RcOp.lt_int _ _ _ _
    · obtain ⟨t, et⟩ := rx
      obtain ⟨t', et'⟩ := ry
      rw [et, et']
      exact fun _ _ _ _ h => PyProof.Rows.lt_str (by simpa [ltV1] using h))
  rw [show us.toArray.size = xs.length by simpa using l1.symm, show vs.toArray.size = ys.length by simpa using l2.symm] at R
  exact R X.prog X.w X.xe (EP X pins σ Q) ⟨.bl _, H, I, rfl, q⟩
theorem op_uLt (hu : X.A.units + 64 < cLine) : OpR X (compareOp .Lt) (uLt X.K) := by
  intro pins s σ H x y v u Q I rx ry h
  cases x <;> cases y <;> first | exact h.elim | skip
  · exact op_lt pins s σ H _ _ _ _ Q I rx ry ⟨_, _, rfl, rfl, h⟩
  · exact op_lt_str pins s σ H _ _ _ _ Q I rx ry ⟨_, _, rfl, rfl, h⟩
  · rcases h with h | h
    · exact op_ltT (by omega) pins s σ H _ _ _ _ Q I rx ry h
    · cases rx; cases ry; exact op_ltP (by omega) I h
theorem op_uLe : OpR X (compareOp .LtE) uLe := by
  intro pins s σ H x y v u Q I rx ry h
  cases x <;> cases y <;> first | exact h.elim | skip
  · exact op_le pins s σ H _ _ _ _ Q I rx ry ⟨_, _, rfl, rfl, h⟩
  · exact op_le_str pins s σ H _ _ _ _ Q I rx ry ⟨_, _, rfl, rfl, h⟩
theorem op_uGt : OpR X (compareOp .Gt) uGt := by
  intro pins s σ H x y v u Q I rx ry h
  cases x <;> cases y <;> first | exact h.elim | skip
  · exact op_gt pins s σ H _ _ _ _ Q I rx ry ⟨_, _, rfl, rfl, h⟩
  · exact op_gt_str pins s σ H _ _ _ _ Q I rx ry ⟨_, _, rfl, rfl, h⟩
theorem op_uGe : OpR X (compareOp .GtE) uGe := by
  intro pins s σ H x y v u Q I rx ry h
  cases x <;> cases y <;> first | exact h.elim | skip
  · exact op_ge pins s σ H _ _ _ _ Q I rx ry ⟨_, _, rfl, rfl, h⟩
  · exact op_ge_str pins s σ H _ _ _ _ Q I rx ry ⟨_, _, rfl, rfl, h⟩
theorem V_int_dec {i j : Int} : decide (V.int i = V.int j) = decide (i = j) := by
  rw [Bool.eq_iff_iff]; simp
theorem V_str_dec {i j : Str} : decide (V.str i = V.str j) = decide (i = j) := by
  rw [Bool.eq_iff_iff]; simp
theorem V_bl_dec {i j : Bool} : decide (V.bl i = V.bl j) = decide (i = j) := by
  rw [Bool.eq_iff_iff]; simp
theorem op_uEq (hu : X.A.units + 64 < cLine) : OpR X (compareOp .Eq) (uEq X.K) := by
  intro pins s σ H x y v u Q I rx ry h
  have gen : (scal x y = true ∧ Q (.bl (decide (x = y))) H) ∨ rEqD X.K x y H Q → _ := fun z => (op_eq.or (op_eqD hu)) pins s σ H x y v u Q I rx ry z
  cases x <;> cases y <;> first | exact gen h | skip
  · exact gen (.inl ⟨rfl, h⟩)
  · exact gen (.inl ⟨rfl, by rw [V_bl_dec]; exact h⟩)
  · exact gen (.inl ⟨rfl, by rw [V_int_dec]; exact h⟩)
  · exact gen (.inl ⟨rfl, by rw [V_str_dec]; exact h⟩)
  · rcases h with h | h
    · exact gen (.inr h)
    · cases rx; cases ry; exact (op_sqB hu I).1 h
theorem op_uNe (hu : X.A.units + 64 < cLine) : OpR X (compareOp .NotEq) (uNe X.K) := by
  intro pins s σ H x y v u Q I rx ry h
  have gen : (scal x y = true ∧ Q (.bl (!decide (x = y))) H) ∨ rNeD X.K x y H Q → _ := fun z => (op_ne.or (op_neD hu)) pins s σ H x y v u Q I rx ry z
  cases x <;> cases y <;> first | exact gen h | skip
  · exact gen (.inl ⟨rfl, h⟩)
  · exact gen (.inl ⟨rfl, by rw [V_bl_dec]; exact h⟩)
  · exact gen (.inl ⟨rfl, by rw [V_int_dec]; exact h⟩)
  · exact gen (.inl ⟨rfl, by rw [V_str_dec]; exact h⟩)
  · rcases h with h | h
    · exact gen (.inr h)
    · cases rx; cases ry; exact (op_sqB hu I).2 h
theorem op_uIs : OpR X (compareOp .Is) uIs := by
  intro pins s σ H x y v u Q I rx ry h
  cases y <;> first | (cases x <;> exact h.elim) | skip
  · exact op_isN pins s σ H _ _ _ _ Q I rx ry ⟨rfl, by cases x <;> exact h⟩
  · cases x <;> first | exact h.elim | skip
    exact op_is_bl pins s σ H _ _ _ _ Q I rx ry ⟨_, _, rfl, rfl, h⟩
theorem op_uIsNot : OpR X (compareOp .IsNot) uIsNot := by
  intro pins s σ H x y v u Q I rx ry h
  cases y <;> first | (cases x <;> exact h.elim) | skip
  · exact op_notN pins s σ H _ _ _ _ Q I rx ry ⟨rfl, by cases x <;> exact h⟩
  · cases x <;> first | exact h.elim | skip
    exact op_isnot_bl pins s σ H _ _ _ _ Q I rx ry ⟨_, _, rfl, rfl, h⟩
theorem op_uIn : OpR X (compareOp .In) (uIn X.K) := by
  intro pins s σ H x y v u Q I rx ry h
  cases x <;> cases y <;> first | exact op_in_str pins s σ H _ _ _ _ Q I rx ry ⟨_, _, rfl, rfl, h⟩ | exact op_in_seq pins s σ H _ _ _ _ Q I rx ry h
theorem op_uNotIn : OpR X (compareOp .NotIn) (uNotIn X.K) := by
  intro pins s σ H x y v u Q I rx ry h
  cases x <;> cases y <;> first | exact op_notin_str pins s σ H _ _ _ _ Q I rx ry ⟨_, _, rfl, rfl, h⟩ | exact op_notIn_seq pins s σ H _ _ _ _ Q I rx ry h
end

/-! ### items, lengths, kinds -/
def uIx (K : PySem.W.Frag) : R2 := fun x y H Q => match x, y with
  | .ref p, .int i => ∃ xs v, (SqL K H p xs ∨ SqT K H p xs) ∧ atI xs i = some v ∧ Q v H
  | .str z, .int i => ∃ c, z.length ≤ sizeLine ∧ atI z.cps.toList i = some c ∧ Q (.str ⟨#[c]⟩) H
  | _, _ => False
def uLen (K : PySem.W.Frag) : List V → Hp → VK → Prop := fun vs H Q => match vs with
  | [.ref p] => ∃ xs, (SqL K H p xs ∨ SqT K H p xs) ∧ Q (.int xs.length) H
  | [.str z] => z.length ≤ sizeLine ∧ Q (.int z.length) H
  | _ => False
def uInt : List V → Hp → VK → Prop := fun vs H Q => match vs with
  | [.int i] => Q (.int i) H
  | [.bl b] => Q (.int (if b then 1 else 0)) H
  | _ => False
def uMax : List V → Hp → VK → Prop := fun vs H Q => match vs with
  | [.int i, .int j] => Q (.int (if j > i then j else i)) H
  | _ => False
def uMin : List V → Hp → VK → Prop := fun vs H Q => match vs with
  | [.int i, .int j] => Q (.int (if j < i then j else i)) H
  | _ => False
def uAbs : List V → Hp → VK → Prop := fun vs H Q => match vs with
  | [.int i] => Q (.int (if i < 0 then -i else i)) H
  | _ => False
def uList (K : PySem.W.Frag) : List V → Hp → VK → Prop := fun vs H Q => match vs with
  | [.ref p] => ∃ xs, (SqL K H p xs ∨ SqT K H p xs) ∧ ∀ l, H l = none → Q (.ref l) (upd H l (.lst xs))
  | _ => False
def uTuple (K : PySem.W.Frag) : List V → Hp → VK → Prop := fun vs H Q => match vs with
  | [.ref p] => ∃ xs, (SqL K H p xs ∧ ∀ l, H l = none → Q (.ref l) (upd H l (.tup xs))) ∨ (SqT K H p xs ∧ Q (.ref p) H)
  | _ => False
/-- isinstance with one class -/
def uIsi (K : PySem.W.Frag) : List V → Hp → VK → Prop := fun vs H Q => match vs with
  | [x, c] => ∃ (t u : Value) (b : Bool), ClsV c u ∧ TyX K H x t ∧ PySem.W.kitOne K t u = some b ∧ Q (.bl b) H
  | _ => False
def tTru (K : PySem.W.Frag) (ta : TE) : TT := fun σ H Q => ta σ H fun x H' => ∃ k, TruV K x H' k ∧ Q k H'
def tCal (sp : Sp) (t : TA) : TE := fun σ H Q => t σ H fun vs H1 => sp vs H1 Q E0
section
variable {X : Cx}
theorem ix_uIx : IxR X (uIx X.K) := by
  intro ea eb pins s σ H x y v u Q I rx ry h hp
  cases x <;> cases y <;> first | exact h.elim | skip
  · obtain ⟨c, hz, ha, q⟩ := h
    exact ix_str ea eb pins s σ H _ _ _ _ Q I rx ry ⟨_, _, c, rfl, rfl, hz, ha, q⟩ hp
  · obtain ⟨xs, w, hl, ha, q⟩ := h
    rcases hl with hl | hl
    · exact ix_list ea eb pins s σ H _ _ _ _ Q I rx ry ⟨_, xs, _, w, rfl, rfl, hl, ha, q⟩ hp
    · exact ix_tup ea eb pins s σ H _ _ _ _ Q I rx ry ⟨_, xs, _, w, rfl, rfl, hl, ha, q⟩ hp
theorem call_uLen : CallR X (.builtin "len") (uLen X.K) := by
  intro pins s σ H vs us Q I r h
  rcases vs with _ | ⟨x, _ | ⟨y, t⟩⟩
  · exact h.elim
  · cases x <;> first | exact h.elim | skip
    · exact call_len pins s σ H _ _ Q I r ⟨_, _, rfl, ⟨h.1, rfl⟩, h.2⟩
    · obtain ⟨xs, hl, q⟩ := h
      refine call_len pins s σ H _ _ Q I r ⟨_, xs.length, rfl, ?_, q⟩
      rcases hl with hl | hl
      · exact .inl ⟨_, hl, rfl⟩
      · exact .inr ⟨_, hl, rfl⟩
  · cases x <;> exact h.elim
theorem call_uInt : CallR X (.type "int") uInt := by
  intro pins s σ H vs us Q I r h
  rcases vs with _ | ⟨x, _ | ⟨y, t⟩⟩
  · exact h.elim
  · cases x <;> first | exact h.elim | skip
    · exact call_int1 pins s σ H _ _ Q I r (.inr ⟨_, rfl, h⟩)
    · exact call_int1 pins s σ H _ _ Q I r (.inl ⟨_, rfl, h⟩)
  · cases x <;> exact h.elim
theorem call_uAbs : CallR X (.builtin "abs") uAbs := by
  intro pins s σ H vs us Q I r h
  rcases vs with _ | ⟨x, _ | ⟨y, t⟩⟩
  · exact h.elim
  · cases x <;> first | exact h.elim | skip
    exact call_abs pins s σ H _ _ Q I r ⟨_, rfl, h⟩
  · cases x <;> exact h.elim
theorem call_uMax (hc : X.calm = true) : CallR X (.builtin "max") uMax := by
  intro pins s σ H vs us Q I r h
  rcases vs with _ | ⟨x, _ | ⟨y, _ | ⟨z, t⟩⟩⟩
  · exact h.elim
  · cases x <;> exact h.elim
  · cases x <;> cases y <;> first | exact h.elim | skip
    exact call_max2 hc pins s σ H _ _ Q I r ⟨_, _, rfl, h⟩
  · cases x <;> cases y <;> exact h.elim
theorem call_uMin (hc : X.calm = true) : CallR X (.builtin "min") uMin := by
  intro pins s σ H vs us Q I r h
  rcases vs with _ | ⟨x, _ | ⟨y, _ | ⟨z, t⟩⟩⟩
  · exact h.elim
  · cases x <;> exact h.elim
  · cases x <;> cases y <;> first | exact h.elim | skip
    exact call_min2 hc pins s σ H _ _ Q I r ⟨_, _, rfl, h⟩
  · cases x <;> cases y <;> exact h.elim
theorem call_uList : CallR X (.type "list") (uList X.K) := by
  intro pins s σ H vs us Q I r h
  rcases vs with _ | ⟨x, _ | ⟨y, t⟩⟩
  · exact h.elim
  · cases x <;> first | exact h.elim | skip
    obtain ⟨xs, hl, q⟩ := h
    exact call_list_of pins s σ H _ _ Q I r ⟨_, xs, rfl, hl, q⟩
  · cases x <;> exact h.elim
theorem call_uTuple : CallR X (.type "tuple") (uTuple X.K) := by
  intro pins s σ H vs us Q I r h
  rcases vs with _ | ⟨x, _ | ⟨y, t⟩⟩
  · exact h.elim
  · cases x <;> first | exact h.elim | skip
    obtain ⟨xs, hl⟩ := h
    exact call_tuple_of pins s σ H _ _ Q I r ⟨_, xs, rfl, hl⟩
  · cases x <;> exact h.elim
theorem call_uIsi : CallR X (.builtin "isinstance") (uIsi X.K) := by
  intro pins s σ H vs us Q I r h
  rcases vs with _ | ⟨x, _ | ⟨y, _ | ⟨z, t⟩⟩⟩
  · exact h.elim
  · exact h.elim
  · obtain ⟨t, u, b, k, ty, e, q⟩ := h
    exact call_isi pins s σ H _ _ Q I r ⟨_, _, t, u, b, rfl, k, ty, e, q⟩
  · exact h.elim
theorem pt_u {a : Expr} {ta : TE} (ha : PE X a ta) (he : ∀ whole, isTrue a X.env whole = (do let v ← whole; standAt a.pos; holding [v] (truthy v)) := by intro _; rfl) : PT X a (tTru X.K ta) := pt_truth ha he
end

/-! ### a def of the text, as those who call it know it -/
structure Dfn (P : Program) (w : World) (K : PySem.W.Frag) (mg : Str → Option Value) (base : Heap) (k : Nat) (x : Str) (ps : List Str) (sp : Sp) : Prop where
  ex : ∃ (f : Addr) (fd : FuncData), mg x = some (.ref f) ∧ PySem.W.keepIn K (.ref f) = true ∧ Binds K fd ps [] ∧ FnOk P w K mg base CX0 k f fd ps sp
theorem nil_sp (sp : Sp) (t : TA) : tCall sp [] E0 t = tCal sp t := by
  funext σ H Q
  simp only [tCall, tCal, List.append_nil]
section
variable {X : Cx} {k : Nat} {x : Str} {ps : List Str} {sp : Sp} {p pos : Pos} {e : Expr} {es : List Expr} {t : TA}
theorem z_call (D : Dfn X.prog X.w X.K X.mg X.base k x ps sp) (hr : Room k X.A) (hg : Gl X x) (ha : PA X (e :: es) t) (hdb : (x == ("__debug__" : Str)) = false := by decide)
    (he : starEach (e :: es) X.env = (false, eval e X.env) :: starEach es X.env := by rfl) (hpl : (backTo pos (starEach es X.env)).any (·.1) = false := by rfl) : PE X (.Call (.Name x p) (e :: es) [] pos) (tCal sp t) := by
  obtain ⟨f, fd, hm, hk, hb, F⟩ := D.ex
  rw [← nil_sp]
  exact pe_call F hr hg hm hk hb .nil pass0 ha hdb he hpl
theorem z_call0 (D : Dfn X.prog X.w X.K X.mg X.base k x ps sp) (hr : Room k X.A) (hg : Gl X x) (hdb : (x == ("__debug__" : Str)) = false := by decide) : PE X (.Call (.Name x p) [] [] pos) (tCal sp tNil) := by
  obtain ⟨f, fd, hm, hk, hb, F⟩ := D.ex
  rw [← nil_sp]
  exact pe_call0 F hr hg hm hk hb .nil pass0 hdb
/-- a list or a tuple that is walked -/
def iSeq (K : PySem.W.Frag) (tl : TE) : TI := fun σ H R => iList K tl σ H R ∨ iTup K tl σ H R
theorem pi_seq {tg l : Expr} {tl : TE} (hl : PE X l tl) : PI X tg l (iSeq X.K tl) := by
  have h1 := pi_list (tg := tg) hl
  have h2 := pi_tup (tg := tg) hl
  refine ⟨fun pins s σ H R I h => ?_⟩
  rcases h with h | h
  · exact h1.run pins s σ H R I h
  · exact h2.run pins s σ H R I h
end

/-! ### the steps of a reading -/
def zNewL (xs : List V) (H : Hp) (Q : VK) : Prop := xs.length ≤ sizeLine ∧ ∀ p, H p = none → Q (.ref p) (upd H p (.lst xs))
def zNewT (xs : List V) (H : Hp) (Q : VK) : Prop := xs.length ≤ sizeLine ∧ ∀ p, H p = none → Q (.ref p) (upd H p (.tup xs))
section
variable {K : PySem.W.Frag} {σ : St} {H : Hp} {i : Nat} {v : V} {Q : VK} {QA : List V → Hp → Prop} {QB : Bool → Hp → Prop} {r : R2} {r1 : V → Hp → VK → Prop} {rl : List V → Hp → VK → Prop} {ta tb te : TE} {tr t : TA} {c u : TT} {sp : Sp} {xs : List V} {a b : Int} {x y : Str} {p q : Addr} {bb : Bool} {D : Ends} {t1 t2 : TS}
theorem z_var (h : σ[i]? = some (some v)) (k : Q v H) : tVar i σ H Q := ⟨v, h, k⟩
theorem z_c (k : Q v H) : tC v σ H Q := k
theorem z_op (k : ta σ H fun x H1 => tb σ H1 fun y H2 => r x y H2 Q) : tOp r ta tb σ H Q := k
theorem z_un (k : ta σ H fun x H1 => r1 x H1 Q) : tUn r1 ta σ H Q := k
theorem z_cb (k : t σ H fun vs H1 => rl vs H1 Q) : tCB rl t σ H Q := k
theorem z_cal (k : t σ H fun vs H1 => sp vs H1 Q E0) : tCal sp t σ H Q := k
theorem z_nil (k : QA [] H) : tNil σ H QA := k
theorem z_cons (k : ta σ H fun x H1 => tr σ H1 fun xs H2 => QA (x :: xs) H2) : tCons ta tr σ H QA := k
theorem z_lst (k : t σ H fun xs H1 => zNewL xs H1 Q) : tLst t σ H Q := k
theorem z_tup (k : t σ H fun xs H1 => zNewT xs H1 Q) : tTup t σ H Q := k
theorem z_newL (h : xs.length ≤ 100000) (k : ∀ p, H p = none → Q (.ref p) (upd H p (.lst xs))) : zNewL xs H Q := ⟨Nat.le_trans h (by decide), k⟩
theorem z_newT (h : xs.length ≤ 100000) (k : ∀ p, H p = none → Q (.ref p) (upd H p (.tup xs))) : zNewT xs H Q := ⟨Nat.le_trans h (by decide), k⟩
theorem z_test (k : te σ H fun x H' => ∃ k, x = .bl k ∧ QB k H') : tTest te σ H QB := k
theorem z_bl (k : QB bb H) : ∃ k, V.bl bb = .bl k ∧ QB k H := ⟨bb, rfl, k⟩
theorem z_tru (k : te σ H fun x H' => ∃ k, TruV K x H' k ∧ QB k H') : tTru K te σ H QB := k
theorem z_trub {P : Bool → Prop} (k : P bb) : ∃ k, TruV K (.bl bb) H k ∧ P k := ⟨bb, rfl, k⟩
theorem z_trui {P : Bool → Prop} (k : P (a != 0)) : ∃ k, TruV K (.int a) H k ∧ P k := ⟨_, rfl, k⟩
theorem z_and (k : c σ H fun b H1 => if b = true then u σ H1 QB else QB false H1) : tAnd c u σ H QB := k
theorem z_or (k : c σ H fun b H1 => if b = true then QB true H1 else u σ H1 QB) : tOr c u σ H QB := k
theorem z_not (k : c σ H fun b H1 => QB (!b) H1) : tNot c σ H QB := k
theorem z_andV (k : ta σ H fun x H1 => ∃ c, x = .bl c ∧ if c = true then tb σ H1 Q else Q (.bl false) H1) : tAndV ta tb σ H Q := k
theorem z_orV (k : ta σ H fun x H1 => ∃ c, x = .bl c ∧ if c = true then Q (.bl true) H1 else tb σ H1 Q) : tOrV ta tb σ H Q := k
theorem z_notV (k : ta σ H fun x H1 => ∃ c, x = .bl c ∧ Q (.bl (!c)) H1) : tNotV ta σ H Q := k
theorem z_if (k : c σ H fun b H1 => if b = true then ta σ H1 Q else tb σ H1 Q) : tIf c ta tb σ H Q := k
theorem z_bl1 {P : Bool → Prop} (k : P bb) : ∃ k, V.bl bb = .bl k ∧ P k := ⟨bb, rfl, k⟩
-- operators
theorem z_add (k : Q (.int (a + b)) H) : uAdd K (.int a) (.int b) H Q := k
theorem z_addS (h : x.length + y.length ≤ 100000) (k : Q (.str (x ++ y)) H) : uAdd K (.str x) (.str y) H Q := ⟨Nat.le_trans h (by decide), k⟩
theorem z_addL {xs ys : List V} (h1 : H p = some (.lst xs)) (h2 : H q = some (.lst ys)) (h : xs.length + ys.length ≤ 100000) (k : ∀ l, H l = none → Q (.ref l) (upd H l (.lst (xs ++ ys)))) : uAdd K (.ref p) (.ref q) H Q :=
  .inl ⟨p, q, xs, ys, rfl, rfl, h1, h2, Nat.le_trans h (by decide), k⟩
theorem z_sub (k : Q (.int (a - b)) H) : uSub (.int a) (.int b) H Q := k
theorem z_mul (h : MulOk a b) (k : Q (.int (a * b)) H) : uMul (.int a) (.int b) H Q := ⟨h, k⟩
theorem z_div (h : CDivW a b) (k : Q (.int (a / b)) H) : uDiv (.int a) (.int b) H Q := ⟨h, k⟩
theorem z_mod (h : 0 < b) (k : Q (.int (a % b)) H) : uMod (.int a) (.int b) H Q := ⟨h, k⟩
theorem z_pow (h : CPow a b) (k : Q (.int (a ^ b.toNat)) H) : uPow (.int a) (.int b) H Q := ⟨h, k⟩
theorem z_neg (k : Q (.int (-a)) H) : uNeg (.int a) H Q := k
theorem z_lt (k : Q (.bl (decide (a < b))) H) : uLt K (.int a) (.int b) H Q := k
theorem z_ltS (k : Q (.bl (decide (x.cps.toList < y.cps.toList))) H) : uLt K (.str x) (.str y) H Q := k
theorem z_ltIS {i j : Int} {x y : Str} (h1 : SqT K H p [.int i, .str x]) (h2 : SqT K H q [.int j, .str y]) (k : Q (.bl (if i = j then decide (x.cps.toList < y.cps.toList) else decide (i < j))) H) : uLt K (.ref p) (.ref q) H Q := by
  refine .inr ⟨_, _, h1, h2, ?_, ?_⟩
  · intro n u v hu hv
    match n with
    | 0 => cases hu; cases hv; rfl
    | 1 => cases hu; cases hv; rfl
    | n + 2 => cases hu
  · have e : Ob.lexAt (fun n => decide (([V.int i, .str x])[n]? = ([V.int j, .str y])[n]?)) (ltV2 [.int i, .str x] [.int j, .str y]) (decide (([V.int i, .str x] : List V).length < ([V.int j, .str y] : List V).length)) 0 (min ([V.int i, .str x] : List V).length ([V.int j, .str y] : List V).length) = (if i = j then decide (x.cps.toList < y.cps.toList) else decide (i < j)) := by
      show Ob.lexAt _ _ false 0 2 = _
      rw [Ob.lexAt_succ, Ob.lexAt_succ, Ob.lexAt_zero]
      by_cases h : i = j
      · subst h
        rw [if_pos (by simp), if_pos rfl]
        by_cases h2 : x = y
        · subst h2
          rw [if_pos (by simp), decide_eq_false (List.lt_irrefl _)]
        · rw [if_neg (by simp [h2])]; rfl
      · rw [if_neg (by simp [h]), if_neg h]; rfl
    rw [e]; exact k
theorem z_le (k : Q (.bl (decide (a ≤ b))) H) : uLe (.int a) (.int b) H Q := k
theorem z_leS (k : Q (.bl (!decide (y.cps.toList < x.cps.toList))) H) : uLe (.str x) (.str y) H Q := k
theorem z_gt (k : Q (.bl (decide (b < a))) H) : uGt (.int a) (.int b) H Q := k
theorem z_gtS (k : Q (.bl (decide (y.cps.toList < x.cps.toList))) H) : uGt (.str x) (.str y) H Q := k
theorem z_ge (k : Q (.bl (decide (b ≤ a))) H) : uGe (.int a) (.int b) H Q := k
theorem z_geS (k : Q (.bl (!decide (x.cps.toList < y.cps.toList))) H) : uGe (.str x) (.str y) H Q := k
theorem z_eq (k : Q (.bl (decide (a = b))) H) : uEq K (.int a) (.int b) H Q := k
theorem z_eqS (k : Q (.bl (decide (x = y))) H) : uEq K (.str x) (.str y) H Q := k
theorem z_eqB {a b : Bool} (k : Q (.bl (decide (a = b))) H) : uEq K (.bl a) (.bl b) H Q := k
theorem z_eqN (k : Q (.bl true) H) : uEq K .non .non H Q := k
theorem z_eqIS (k : Q (.bl false) H) : uEq K (.int a) (.str x) H Q := .inl ⟨rfl, by rw [decide_eq_false (by intro z; cases z)]; exact k⟩
theorem z_eqSI (k : Q (.bl false) H) : uEq K (.str x) (.int a) H Q := .inl ⟨rfl, by rw [decide_eq_false (by intro z; cases z)]; exact k⟩
theorem z_eqD {d e : PyData} (h1 : Dp K H (.ref p) d) (h2 : Dp K H (.ref q) e) (s1 : SeqAt.shaped d = true) (s2 : SeqAt.shaped e = true) (k : Q (.bl (PyData.eqv d e)) H) : uEq K (.ref p) (.ref q) H Q := .inl ⟨d, e, h1, h2, s1, s2, k⟩
theorem z_ne (k : Q (.bl (!decide (a = b))) H) : uNe K (.int a) (.int b) H Q := k
theorem z_neS (k : Q (.bl (!decide (x = y))) H) : uNe K (.str x) (.str y) H Q := k
theorem z_neB {a b : Bool} (k : Q (.bl (!decide (a = b))) H) : uNe K (.bl a) (.bl b) H Q := k
theorem z_neN (k : Q (.bl false) H) : uNe K .non .non H Q := k
theorem z_neIS (k : Q (.bl true) H) : uNe K (.int a) (.str x) H Q := .inl ⟨rfl, by rw [decide_eq_false (by intro z; cases z)]; exact k⟩
theorem z_neSI (k : Q (.bl true) H) : uNe K (.str x) (.int a) H Q := .inl ⟨rfl, by rw [decide_eq_false (by intro z; cases z)]; exact k⟩
theorem z_neD {d e : PyData} (h1 : Dp K H (.ref p) d) (h2 : Dp K H (.ref q) e) (s1 : SeqAt.shaped d = true) (s2 : SeqAt.shaped e = true) (k : Q (.bl (!PyData.eqv d e)) H) : uNe K (.ref p) (.ref q) H Q := .inl ⟨d, e, h1, h2, s1, s2, k⟩
theorem allB_true {xs ys : List V} {e : Nat → Bool} (hl : xs.length = ys.length) (h : ∀ i, i < xs.length → e i = true) : allB xs ys e = true := by
  unfold allB
  rw [← hl, Nat.min_self, beq_self_eq_true, Bool.and_true, List.all_eq_true]
  exact fun i hi => h i (List.mem_range.mp hi)
/-- surely equal -/
theorem z_eqSame {n : Nat} {xs ys : List V} (hn : n ≤ 16) (hs : sameSq K H p q xs ys) (hl : xs.length = ys.length) (he : ∀ (i : Nat) (x y : V), xs[i]? = some x → ys[i]? = some y → EqB K H n x y true) (k : Q (.bl true) H) : uEq K (.ref p) (.ref q) H Q :=
  .inr ⟨n, xs, ys, fun _ => true, hn, hs, he, by rw [allB_true hl fun _ _ => rfl]; exact k⟩
theorem z_neSame {n : Nat} {xs ys : List V} (hn : n ≤ 16) (hs : sameSq K H p q xs ys) (hl : xs.length = ys.length) (he : ∀ (i : Nat) (x y : V), xs[i]? = some x → ys[i]? = some y → EqB K H n x y true) (k : Q (.bl false) H) : uNe K (.ref p) (.ref q) H Q :=
  .inr ⟨n, xs, ys, fun _ => true, hn, hs, he, by rw [allB_true hl fun _ _ => rfl]; exact k⟩
theorem EqB.self : ∀ {v : V}, (flatV v = true ∨ ∃ a, v = .ref a) → EqB K H 0 v v true := by
  intro v h
  rcases h with h | ⟨a, rfl⟩
  · refine .inl ⟨h, h, ?_⟩
    cases v <;> first | (cases h; done) | (simp [eqV]; done)
  · exact .inr ⟨a, rfl, rfl, rfl⟩
theorem EqB.up {v w : V} {b : Bool} : ∀ {n m : Nat}, n ≤ m → EqB K H n v w b → EqB K H m v w b := by
  intro n m h e
  induction h with
  | refl => exact e
  | step _ ih => exact .inl ih
theorem EqB.sq {n : Nat} {a c : Addr} {xs ys : List V} (hs : sameSq K H a c xs ys) (hl : xs.length = ys.length) (he : ∀ (i : Nat) (x y : V), xs[i]? = some x → ys[i]? = some y → EqB K H n x y true) : EqB K H (n + 1) (.ref a) (.ref c) true :=
  .inr ⟨a, c, xs, ys, fun _ => true, rfl, rfl, fun _ => rfl, hs, he, (allB_true hl fun _ _ => rfl).symm⟩
theorem z_is (k : Q (.bl (decide (v = .non))) H) : uIs v .non H Q := by cases v <;> exact k
theorem z_isNot (k : Q (.bl (!decide (v = .non))) H) : uIsNot v .non H Q := by cases v <;> exact k
theorem z_isB {a b : Bool} (k : Q (.bl (decide (a = b))) H) : uIs (.bl a) (.bl b) H Q := k
theorem z_isNotB {a b : Bool} (k : Q (.bl (!decide (a = b))) H) : uIsNot (.bl a) (.bl b) H Q := k
theorem z_in (h : SqL K H p xs ∨ SqT K H p xs) (hx : flatV v = true) (ha : xs.all flatV = true) (k : Q (.bl (inV v xs)) H) : uIn K v (.ref p) H Q := by
  cases v <;> exact ⟨p, xs, rfl, h, hx, ha, k⟩
theorem z_notIn (h : SqL K H p xs ∨ SqT K H p xs) (hx : flatV v = true) (ha : xs.all flatV = true) (k : Q (.bl (!inV v xs)) H) : uNotIn K v (.ref p) H Q := by
  cases v <;> exact ⟨p, xs, rfl, h, hx, ha, k⟩
theorem z_isbb {a : Bool} (k : Q (.bl true) H) : uIsi K [.bl a, .ty "bool"] H Q := ⟨_, _, true, .ty _, .base (.bl a), rfl, k⟩
theorem z_isbi {a : Bool} (k : Q (.bl true) H) : uIsi K [.bl a, .ty "int"] H Q := ⟨_, _, true, .ty _, .base (.bl a), rfl, k⟩
theorem z_isll (h : H p = some (.lst xs)) (k : Q (.bl true) H) : uIsi K [.ref p, .ty "list"] H Q := ⟨_, _, true, .ty _, .base (.lst h), rfl, k⟩
theorem z_istt (h : H p = some (.tup xs)) (k : Q (.bl true) H) : uIsi K [.ref p, .ty "tuple"] H Q := ⟨_, _, true, .ty _, .base (.tup h), rfl, k⟩
theorem z_chain {r r' : R2} {tc : TE} (k : ta σ H fun x H1 => tb σ H1 fun y H2 => r x y H2 fun z H3 => ∃ k, z = .bl k ∧ if k = true then tc σ H3 fun w H4 => r' y w H4 Q else Q (.bl false) H3) : tChain r r' ta tb tc σ H Q := k
-- items, built-ins
theorem z_ix (h : SqL K H p xs ∨ SqT K H p xs) (e : atI xs a = some v) (k : Q v H) : uIx K (.ref p) (.int a) H Q := ⟨xs, v, h, e, k⟩
theorem z_len (h : SqL K H p xs ∨ SqT K H p xs) (k : Q (.int xs.length) H) : uLen K [.ref p] H Q := ⟨xs, h, k⟩
theorem z_int (k : Q (.int a) H) : uInt [.int a] H Q := k
theorem z_max (k : Q (.int (if b > a then b else a)) H) : uMax [.int a, .int b] H Q := k
theorem z_min (k : Q (.int (if b < a then b else a)) H) : uMin [.int a, .int b] H Q := k
theorem z_abs (k : Q (.int (if a < 0 then -a else a)) H) : uAbs [.int a] H Q := k
theorem z_list (h : SqL K H p xs ∨ SqT K H p xs) (k : ∀ l, H l = none → Q (.ref l) (upd H l (.lst xs))) : uList K [.ref p] H Q := ⟨xs, h, k⟩
theorem z_tupleL (h : SqL K H p xs) (k : ∀ l, H l = none → Q (.ref l) (upd H l (.tup xs))) : uTuple K [.ref p] H Q := ⟨xs, .inl ⟨h, k⟩⟩
theorem z_tupleT (h : SqT K H p xs) (k : Q (.ref p) H) : uTuple K [.ref p] H Q := ⟨xs, .inr ⟨h, k⟩⟩
theorem z_isi {w : V} {t' u' : Value} (h1 : ClsV w u') (h2 : TyX K H v t') (h3 : PySem.W.kitOne K t' u' = some bb) (k : Q (.bl bb) H) : uIsi K [v, w] H Q := ⟨t', u', bb, h1, h2, h3, k⟩
theorem z_isii (k : Q (.bl true) H) : uIsi K [.int a, .ty "int"] H Q := ⟨_, _, true, .ty _, .base (.int a), rfl, k⟩
theorem z_isib (k : Q (.bl false) H) : uIsi K [.int a, .ty "bool"] H Q := ⟨_, _, false, .ty _, .base (.int a), rfl, k⟩
-- statements
theorem z_seq (k : t1 { D with nx := t2 D } σ H) : tSeq t1 t2 D σ H := k
theorem z_next (k : D.nx σ H) : tNext D σ H := k
theorem z_brk (k : D.bk σ H) : tBreak D σ H := k
theorem z_cont (k : D.ct σ H) : tCont D σ H := k
theorem z_ret (k : te σ H D.rt) : tRet te D σ H := k
theorem z_retN (k : D.rt .non H) : tRetN D σ H := k
theorem z_asg (k : te σ H fun x H1 => D.nx (σ.set i (some x)) H1) : tAsg te (gName i) D σ H := k
theorem z_drop (k : te σ H fun _ H1 => D.nx σ H1) : tDrop te D σ H := k
theorem z_ifS (k : c σ H fun b H1 => if b = true then t1 D σ H1 else t2 D σ H1) : tIfS c t1 t2 D σ H := k
theorem z_iteT {A B : Prop} (k : A) : if true = true then A else B := by rw [if_pos rfl]; exact k
theorem z_iteF {A B : Prop} (k : B) : if false = true then A else B := by rw [if_neg Bool.false_ne_true]; exact k
theorem z_iteT' {A B : Prop} (e : bb = true) (k : A) : if bb = true then A else B := by rw [if_pos e]; exact k
theorem z_iteF' {A B : Prop} (e : bb = false) (k : B) : if bb = true then A else B := by rw [if_neg (by rw [e]; exact Bool.false_ne_true)]; exact k
theorem z_ite {A B : Prop} (h1 : bb = true → A) (h2 : bb = false → B) : if bb = true then A else B := by
  cases bb with
  | true => rw [if_pos rfl]; exact h1 rfl
  | false => rw [if_neg Bool.false_ne_true]; exact h2 rfl
theorem z_itD {A B P : Prop} [Decidable P] (h1 : P → A) (h2 : ¬ P → B) : if decide P = true then A else B := by
  by_cases h : P
  · rw [if_pos (decide_eq_true h)]; exact h1 h
  · rw [if_neg (by rw [decide_eq_false h]; exact Bool.false_ne_true)]; exact h2 h
theorem z_itN {A B P : Prop} [Decidable P] (h1 : ¬ P → A) (h2 : P → B) : if (!decide P) = true then A else B := by
  by_cases h : P
  · rw [decide_eq_true h, if_neg (by decide)]; exact h2 h
  · rw [decide_eq_false h, if_pos (by decide)]; exact h1 h
-- loops
def zRng (g : TG) (tb : TS) (D : Ends) (σ : St) (lo : Int) (n : Nat) (H1 : Hp) : Prop := ∃ W : Nat → Nat → St → Hp → Prop, (∃ m, W 0 m σ H1) ∧ ∀ i m σ H, W i m σ H →
  ((Itr lo n).stop i H ∧ D.nx σ H) ∨ ((Itr lo n).go i H ∧ ∃ N : St → Hp → Prop, (∀ σ' H', N σ' H' → ∃ m', m' < m ∧ W (i + 1) m' σ' H') ∧ ∀ x H', (Itr lo n).yld i H x H' → g x σ H' fun σ2 H2 => tb { D with nx := N, ct := N, bk := D.nx } σ2 H2)
def zRng1 (g : TG) (tb : TS) (D : Ends) (σ : St) (vs : List V) (H1 : Hp) : Prop := ∃ j : Int, vs = [.int j] ∧ -(2 ^ 62) ≤ j ∧ j < 2 ^ 62 ∧ zRng g tb D σ 0 j.toNat H1
def zRng2 (g : TG) (tb : TS) (D : Ends) (σ : St) (vs : List V) (H1 : Hp) : Prop := ∃ i j : Int, vs = [.int i, .int j] ∧ (-(2 ^ 62) ≤ i ∧ i < 2 ^ 62 ∧ -(2 ^ 62) ≤ j ∧ j < 2 ^ 62) ∧ zRng g tb D σ i (j - i).toNat H1
def zIt (K : PySem.W.Frag) (g : TG) (tb : TS) (D : Ends) (σ : St) (v : V) (H1 : Hp) : Prop := ∃ a xs, v = .ref a ∧ ((SqL K H1 a xs ∧ ∃ W : Nat → Nat → St → Hp → Prop, (∃ m, W 0 m σ H1) ∧ ∀ i m σ H, W i m σ H →
  ((Itl K a).stop i H ∧ D.nx σ H) ∨ ((Itl K a).go i H ∧ ∃ N : St → Hp → Prop, (∀ σ' H', N σ' H' → ∃ m', m' < m ∧ W (i + 1) m' σ' H') ∧ ∀ x H', (Itl K a).yld i H x H' → g x σ H' fun σ2 H2 => tb { D with nx := N, ct := N, bk := D.nx } σ2 H2)) ∨
  (SqT K H1 a xs ∧ ∃ W : Nat → Nat → St → Hp → Prop, (∃ m, W 0 m σ H1) ∧ ∀ i m σ H, W i m σ H →
  ((Itt K a).stop i H ∧ D.nx σ H) ∨ ((Itt K a).go i H ∧ ∃ N : St → Hp → Prop, (∀ σ' H', N σ' H' → ∃ m', m' < m ∧ W (i + 1) m' σ' H') ∧ ∀ x H', (Itt K a).yld i H x H' → g x σ H' fun σ2 H2 => tb { D with nx := N, ct := N, bk := D.nx } σ2 H2)))
def iSq (K : PySem.W.Frag) (tl : TE) : TI := fun σ H R => tl σ H fun x H1 => ∃ a, x = .ref a ∧ (((∃ xs, SqL K H1 a xs) ∧ R (Itl K a) H1) ∨ ((∃ xs, SqT K H1 a xs) ∧ R (Itt K a) H1))
variable {g : TG} {ti : TS}
theorem z_for1 (k : t σ H fun vs H1 => zRng1 g ti D σ vs H1) : tFor (iRng1 t) g ti D σ H := k
theorem z_for2 (k : t σ H fun vs H1 => zRng2 g ti D σ vs H1) : tFor (iRng2 t) g ti D σ H := k
theorem z_rng1 {j : Int} (hb : j ≤ 1000000) (h : zRng g ti D σ 0 j.toNat H) (hb2 : -1000000 ≤ j) : zRng1 g ti D σ [.int j] H := ⟨j, rfl, by omega, by omega, h⟩
theorem z_rng2 {i j : Int} (h : zRng g ti D σ i (j - i).toNat H) (hb : -1000000 ≤ i ∧ i ≤ 1000000 ∧ -1000000 ≤ j ∧ j ≤ 1000000) : zRng2 g ti D σ [.int i, .int j] H := ⟨i, j, rfl, by omega, h⟩
/-- over a range: Pv by turns done, slots, heap -/
theorem z_rng {lo : Int} {n v : Nat} (Pv : Nat → St → Hp → Prop) (h0 : Pv 0 σ H)
    (hs : ∀ i σ H, i < n → Pv i σ H → ti { D with nx := Pv (i + 1), ct := Pv (i + 1), bk := D.nx } (σ.set v (some (.int (lo + i)))) H) (hd : ∀ σ H, Pv n σ H → D.nx σ H) : zRng (gName v) ti D σ lo n H :=
  for_range (g := gName v) (tb := ti) (D := D) Pv h0 hs hd
theorem z_while (Pv : Nat → St → Hp → Prop) (m : Nat) (h0 : Pv m σ H)
    (hs : ∀ m σ H, Pv m σ H → c σ H fun b H1 => if b = true then ∃ N : St → Hp → Prop, (∀ σ' H', N σ' H' → ∃ m', m' < m ∧ Pv m' σ' H') ∧ ti { D with nx := N, ct := N, bk := D.nx } σ H1 else D.nx σ H1) : tWhile c ti D σ H :=
  ⟨Pv, ⟨m, h0⟩, hs⟩
theorem z_turn {m : Nat} {Pv : Nat → St → Hp → Prop} {bk : St → Hp → Prop} (k : ti { D with nx := fun σ' H' => ∃ m', m' < m ∧ Pv m' σ' H', ct := fun σ' H' => ∃ m', m' < m ∧ Pv m' σ' H', bk := bk } σ H) :
    ∃ N : St → Hp → Prop, (∀ σ' H', N σ' H' → ∃ m', m' < m ∧ Pv m' σ' H') ∧ ti { D with nx := N, ct := N, bk := bk } σ H := ⟨_, fun _ _ h => h, k⟩
theorem mul1 (h : -1000000000000000000 < a ∧ a < 1000000000000000000) : MulOk a b := .inl (.inl (by omega))
theorem mul2 (h : -1000000000000000000 < b ∧ b < 1000000000000000000) : MulOk a b := .inl (.inr (by omega))
theorem div1 (h : 0 < b ∧ b < 1000000000000000000) : CDivW a b := wide_div h.1 (b := 64) (by omega) (by decide) (by decide)
end
/-! ### heaps -/
theorem lk_ne {H : Hp} {a b : Addr} {o u : HO} (h : a ≠ b) (e : H a = some u) : upd H b o a = some u := by rw [upd_ne h]; exact e
theorem ne_n {H : Hp} {a b : Addr} {o : HO} (h' : H b = none) (h : H a = some o) : a ≠ b := ne_of_none h h'
theorem sqL_new {K : PySem.W.Frag} {H : Hp} {a b : Addr} {o : HO} {xs : List V} (h : H b = none) (e : SqL K H a xs) : SqL K (upd H b o) a xs := by
  rcases e with (e | ⟨u, e⟩) | e
  · exact .inl (.inl (lk_ne (ne_of_none e h) e))
  · exact .inl (.inr ⟨u, lk_ne (ne_of_none e h) e⟩)
  · exact .inr e
theorem sqT_new {K : PySem.W.Frag} {H : Hp} {a b : Addr} {o : HO} {xs : List V} (h : H b = none) (e : SqT K H a xs) : SqT K (upd H b o) a xs := by
  rcases e with (e | ⟨u, e⟩) | e
  · exact .inl (.inl (lk_ne (ne_of_none e h) e))
  · exact .inl (.inr ⟨u, lk_ne (ne_of_none e h) e⟩)
  · exact .inr e
theorem sqL_ne {K : PySem.W.Frag} {H : Hp} {a b : Addr} {o : HO} {xs : List V} (h : a ≠ b) (e : SqL K H a xs) : SqL K (upd H b o) a xs := by
  rcases e with (e | ⟨u, e⟩) | e
  · exact .inl (.inl (lk_ne h e))
  · exact .inl (.inr ⟨u, lk_ne h e⟩)
  · exact .inr e
theorem sqT_ne {K : PySem.W.Frag} {H : Hp} {a b : Addr} {o : HO} {xs : List V} (h : a ≠ b) (e : SqT K H a xs) : SqT K (upd H b o) a xs := by
  rcases e with (e | ⟨u, e⟩) | e
  · exact .inl (.inl (lk_ne h e))
  · exact .inl (.inr ⟨u, lk_ne h e⟩)
  · exact .inr e
/-- what stands there is no state of draws -/
def NotSt (o : HO) : Prop := ∀ (L : Addr) (k a : Int), o ≠ .lst [.ref L, .int k, .int a]
theorem NotSt.ints {ns : List Int} : NotSt (.lst (ns.map V.int)) := fun L k a z => by
  cases ns with
  | nil => cases z
  | cons x r => injection z with z; injection z with z1 _; cases z1
theorem NotSt.refs {ps : List Addr} : NotSt (.lst (ps.map V.ref)) := fun L k a z => by
  cases ps with
  | nil => cases z
  | cons x r => cases r with
    | nil => cases z
    | cons y t => injection z with z; injection z with _ z; injection z with z _; cases z
theorem NotSt.strs {xs : List Str} : NotSt (.lst (xs.map V.str)) := fun L k a z => by
  cases xs with
  | nil => cases z
  | cons x r => injection z with z; injection z with z1 _; cases z1
/-- all that was tracked is as it was, but the states of draws -/
def ExD (H H' : Hp) : Prop := ∀ a o, NotSt o → H a = some o → H' a = some o
theorem ExD.lk {a : Addr} {H H' : Hp} {o : HO} (x : ExD H H') (e : H a = some o) (h : NotSt o) : H' a = some o := x a o h e
theorem ExD.refl (H : Hp) : ExD H H := fun _ _ _ e => e
theorem ExD.trans {H H1 H2 : Hp} (x : ExD H H1) (y : ExD H1 H2) : ExD H H2 := fun a o h e => y a o h (x a o h e)
theorem ExD.new {p : Addr} {H H1 : Hp} {o : HO} (h : H p = none) (x : ExD H H1) : ExD H (upd H1 p o) := fun a u ha e => lk_ne (ne_of_none e h) (x a u ha e)
theorem ExD.of {H H' : Hp} (x : Same H H') : ExD H H' := fun a o _ e => x a o e
theorem ExD.st {st L : Addr} {k a : Int} {H H1 : Hp} {o : HO} (e : H st = some (.lst [.ref L, .int k, .int a])) (x : ExD H H1) : ExD H (upd H1 st o) := fun b u hb f => by
  refine lk_ne (fun z => ?_) (x b u hb f)
  subst z; rw [e] at f; exact hb L k a (Option.some.inj f).symm
theorem Same.lk {a : Addr} {H H' : Hp} {o : HO} (x : Same H H') (e : H a = some o) : H' a = some o := x a o e
theorem lk_new {H : Hp} {a b : Addr} {o u : HO} (h : H b = none) (e : H a = some u) : upd H b o a = some u := lk_ne (ne_of_none e h) e
theorem lk_df {H : Hp} {a b : Addr} {o u w : HO} (e : H a = some u) (f : H b = some w) (d : u ≠ w) : upd H b o a = some u := lk_ne (fun z => by subst z; rw [e] at f; exact d (Option.some.inj f)) e

section
variable {K : PySem.W.Frag} {σ : St} {H : Hp} {Q : VK} {te ta tb : TE} {t u : TS} {D : Ends} {p : Addr} {xs : List V} {a : Int} {v : V} {j : Nat}
theorem z_cutI (k : t { D with nx := u D } σ H) : tCut t u D σ H := ⟨u D, k, fun _ _ h => h⟩
theorem z_cut (M : St → Hp → Prop) (k : t { D with nx := M } σ H) (h : ∀ σ' H', M σ' H' → u D σ' H') : tCut t u D σ H := ⟨M, k, h⟩
theorem z_asgS (k : te σ H fun x H1 => ta σ H1 fun o H2 => tb σ H2 fun i H3 => rSetL o i x H3 fun H4 => D.nx σ H4) : tAsg te (gSub ta tb rSetL) D σ H := k
theorem z_setL {Q : Hp → Prop} (h : H p = some (.lst xs)) (e : ixN xs.length a = some j) (k : Q (upd H p (.lst (xs.set j v)))) : rSetL (.ref p) (.int a) v H Q := ⟨p, xs, a, j, rfl, rfl, h, e, k⟩
theorem z_app (h : H p = some (.lst xs)) (hl : xs.length < 100000) (k : Q .non (upd H p (.lst (xs ++ [v])))) : rAppend (.ref p) [v] H Q := ⟨p, xs, v, rfl, rfl, h, Nat.lt_of_lt_of_le hl (by decide), k⟩
theorem tyL (h : H p = some (.lst xs)) : tyV K "list" (.ref p) H := Or.inl ⟨rfl, _, Or.inl (Or.inl h)⟩
theorem z_bm {T : String} {r : V → List V → Hp → VK → Prop} {to : TE} {t : TA} (k : to σ H fun x H1 => tyV K T x H1 ∧ t σ H1 fun xs H2 => r x xs H2 Q) : tBM K T r to t σ H Q := k
theorem upd_self {H : Hp} {a : Addr} {o : HO} (h : H a = some o) : upd H a o = H := by
  funext b; unfold upd; split
  · rename_i e; subst e; exact h.symm
  · rfl
theorem ix_at {α : Type} {xs : List α} {i : Int} (h0 : 0 ≤ i) (h1 : i < xs.length) : ixN xs.length i = some i.toNat := by
  unfold ixN; rw [if_pos h0, if_pos h1]
theorem at_int {ns : List Int} {i : Int} (h0 : 0 ≤ i) (h1 : i < ns.length) : atI (ns.map V.int) i = some (.int (ns.getD i.toNat 0)) := by
  unfold atI
  rw [ix_at h0 (by simpa using h1)]
  have : i.toNat < ns.length := by omega
  simp [List.getD, this]
end
/-- a body keeps its promise, from the promise as it was handed in -/
def Wd (T : TS) (N : List Str) (n : Nat) (sp : Sp) : Prop := ∀ (vs : List V) (H : Hp) (Q : VK) (E : XK), sp vs H Q E → vs.length = n ∧ T { nx := fun _ H' => Q .non H', rt := Q } (start N vs) H

/-! ### comprehensions -/
def zLcR (g : TG) (tt : TT) (te : TE) (vs : List Nat) (σ : St) (lo : Int) (n : Nat) (H1 : Hp) (Q : VK) : Prop := ∀ D, H1 D = none → ∃ W : Nat → Nat → Hp → Prop, (∃ m, W 0 m (upd H1 D (.lst []))) ∧ ∀ i m H, W i m H →
  ((Itr lo n).stop i H ∧ Q (.ref D) H) ∨ ((Itr lo n).go i H ∧ ∃ Nx : Hp → Prop, (∀ H', Nx H' → ∃ m', m' < m ∧ W (i + 1) m' H') ∧ ∀ x H', (Itr lo n).yld i H x H' → g x (wipe σ vs) H' fun σ2 H2 => wipe σ2 vs = wipe σ vs ∧ tt σ2 H2 fun b H3 =>
    if b = true then te σ2 H3 fun y H4 => ∃ acc, H4 D = some (.lst acc) ∧ acc.length < sizeLine ∧ Nx (upd H4 D (.lst (acc ++ [y]))) else Nx H3)
def zLcR1 (g : TG) (tt : TT) (te : TE) (vs : List Nat) (σ : St) (as : List V) (H1 : Hp) (Q : VK) : Prop := ∃ j : Int, as = [.int j] ∧ -(2 ^ 62) ≤ j ∧ j < 2 ^ 62 ∧ zLcR g tt te vs σ 0 j.toNat H1 Q
def zLcL (K : PySem.W.Frag) (g : TG) (tt : TT) (te : TE) (vs : List Nat) (σ : St) (a : Addr) (H1 : Hp) (Q : VK) : Prop := ∀ D, H1 D = none → ∃ W : Nat → Nat → Hp → Prop, (∃ m, W 0 m (upd H1 D (.lst []))) ∧ ∀ i m H, W i m H →
  ((Itl K a).stop i H ∧ Q (.ref D) H) ∨ ((Itl K a).go i H ∧ ∃ Nx : Hp → Prop, (∀ H', Nx H' → ∃ m', m' < m ∧ W (i + 1) m' H') ∧ ∀ x H', (Itl K a).yld i H x H' → g x (wipe σ vs) H' fun σ2 H2 => wipe σ2 vs = wipe σ vs ∧ tt σ2 H2 fun b H3 =>
    if b = true then te σ2 H3 fun y H4 => ∃ acc, H4 D = some (.lst acc) ∧ acc.length < sizeLine ∧ Nx (upd H4 D (.lst (acc ++ [y]))) else Nx H3)
def zLcT (K : PySem.W.Frag) (g : TG) (tt : TT) (te : TE) (vs : List Nat) (σ : St) (a : Addr) (H1 : Hp) (Q : VK) : Prop := ∀ D, H1 D = none → ∃ W : Nat → Nat → Hp → Prop, (∃ m, W 0 m (upd H1 D (.lst []))) ∧ ∀ i m H, W i m H →
  ((Itt K a).stop i H ∧ Q (.ref D) H) ∨ ((Itt K a).go i H ∧ ∃ Nx : Hp → Prop, (∀ H', Nx H' → ∃ m', m' < m ∧ W (i + 1) m' H') ∧ ∀ x H', (Itt K a).yld i H x H' → g x (wipe σ vs) H' fun σ2 H2 => wipe σ2 vs = wipe σ vs ∧ tt σ2 H2 fun b H3 =>
    if b = true then te σ2 H3 fun y H4 => ∃ acc, H4 D = some (.lst acc) ∧ acc.length < sizeLine ∧ Nx (upd H4 D (.lst (acc ++ [y]))) else Nx H3)
def zLcS (K : PySem.W.Frag) (g : TG) (tt : TT) (te : TE) (vs : List Nat) (σ : St) (x : V) (H1 : Hp) (Q : VK) : Prop := ∃ a, x = .ref a ∧ (((∃ xs, SqL K H1 a xs) ∧ zLcL K g tt te vs σ a H1 Q) ∨ ((∃ xs, SqT K H1 a xs) ∧ zLcT K g tt te vs σ a H1 Q))
def zForS (K : PySem.W.Frag) (g : TG) (tb : TS) (D : Ends) (σ : St) (x : V) (H1 : Hp) : Prop := ∃ a, x = .ref a ∧ (((∃ xs, SqL K H1 a xs) ∧ ∃ W : Nat → Nat → St → Hp → Prop, (∃ m, W 0 m σ H1) ∧ ∀ i m σ H, W i m σ H →
  ((Itl K a).stop i H ∧ D.nx σ H) ∨ ((Itl K a).go i H ∧ ∃ N : St → Hp → Prop, (∀ σ' H', N σ' H' → ∃ m', m' < m ∧ W (i + 1) m' σ' H') ∧ ∀ x H', (Itl K a).yld i H x H' → g x σ H' fun σ2 H2 => tb { D with nx := N, ct := N, bk := D.nx } σ2 H2)) ∨
  ((∃ xs, SqT K H1 a xs) ∧ ∃ W : Nat → Nat → St → Hp → Prop, (∃ m, W 0 m σ H1) ∧ ∀ i m σ H, W i m σ H →
  ((Itt K a).stop i H ∧ D.nx σ H) ∨ ((Itt K a).go i H ∧ ∃ N : St → Hp → Prop, (∀ σ' H', N σ' H' → ∃ m', m' < m ∧ W (i + 1) m' σ' H') ∧ ∀ x H', (Itt K a).yld i H x H' → g x σ H' fun σ2 H2 => tb { D with nx := N, ct := N, bk := D.nx } σ2 H2)))

section
open PyProof.Rows
theorem pi_sq {X : Cx} {tg l : Expr} {tl : TE} (hl : PE X l tl) : PI X tg l (iSq X.K tl) := by
  refine ⟨fun pins s σ H R I h => ?_⟩
  refine thn (hl.run pins s σ H _ I h) fun v s1 ⟨x, H1, I1, r1, q1⟩ => ?_
  obtain ⟨a, e, q1⟩ := q1
  subst e
  cases r1
  rcases q1 with ⟨⟨xs, hq⟩, q⟩ | ⟨⟨xs, hq⟩, q⟩
  · obtain ⟨its, rv, p, hz⟩ := I1.list hq
    refine wpAny_pyIter_list p.isList ?_
    refine ⟨s1.heap.objs.size, [s1.heap.objs.size], _, _, H1, rfl, I1.kept (t' := s1.toks) fun b o e => Heap.get?_push_of_some _ e, turn_list a _, ⟨_, Heap.get?_push_size _ rfl, rfl, rfl⟩, fun b hb => ?_, q⟩
    have e : b = s1.heap.objs.size := by simpa using hb
    subst e
    exact I1.fpOk (Nat.le_refl _) (I1.hok.fresh (Nat.le_refl _))
  · obtain ⟨its, rv, p, hz⟩ := I1.tuple hq
    refine wpAny_pyIter_tuple (show s1.heap.IsTuple a its.toArray from p) ?_
    refine ⟨s1.heap.objs.size, [s1.heap.objs.size], _, _, H1, rfl, I1.kept (t' := s1.toks) fun b o e => Heap.get?_push_of_some _ e, turn_tuple a _, ⟨_, Heap.get?_push_size _ rfl, rfl, rfl⟩, fun b hb => ?_, q⟩
    have e : b = s1.heap.objs.size := by simpa using hb
    subst e
    exact I1.fpOk (Nat.le_refl _) (I1.hok.fresh (Nat.le_refl _))
end
section
variable {K : PySem.W.Frag} {σ : L2.St} {H : Hp} {Q : VK} {D : Ends} {tt : TT} {te tl : TE} {ta : TA} {vs : List Nat} {g : TG} {tb : TS} {a : Addr} {xs : List V}
theorem z_forSq (k : tl σ H fun x H1 => zForS K g tb D σ x H1) : tFor (iSq K tl) g tb D σ H := k
theorem z_lcSq (k : tl σ H fun x H1 => zLcS K g tt te vs σ x H1 Q) : tLc (iSq K tl) g tt te vs σ H Q := k
theorem z_lc1 (k : ta σ H fun as H1 => zLcR1 g tt te vs σ as H1 Q) : tLc (iRng1 ta) g tt te vs σ H Q := k
theorem z_yes {QB : Bool → Hp → Prop} (k : QB true H) : tYes σ H QB := k
theorem z_accum {D : Addr} {acc : List V} {P : List V → Prop} (h : H D = some (.lst acc)) (hl : acc.length < 100000) (k : P acc) : ∃ acc, H D = some (.lst acc) ∧ acc.length < sizeLine ∧ P acc :=
  ⟨acc, h, Nat.lt_of_lt_of_le hl (by decide), k⟩
/-- over a list that stays -/
theorem z_forL (h : SqL K H a xs) (Pv : Nat → L2.St → Hp → Prop) (h0 : Pv 0 σ H) (hl : ∀ i σ' H', i ≤ xs.length → Pv i σ' H' → SqL K H' a xs)
    (hs : ∀ i x σ' H', xs[i]? = some x → Pv i σ' H' → g x σ' H' fun σ2 H2 => tb { D with nx := Pv (i + 1), ct := Pv (i + 1), bk := D.nx } σ2 H2) (hd : ∀ σ' H', Pv xs.length σ' H' → D.nx σ' H') : zForS K g tb D σ (.ref a) H :=
  ⟨a, rfl, .inl ⟨⟨xs, h⟩, for_list Pv h0 hl hs hd⟩⟩
theorem z_forT (h : SqT K H a xs) (Pv : Nat → L2.St → Hp → Prop) (h0 : Pv 0 σ H) (hl : ∀ i σ' H', i ≤ xs.length → Pv i σ' H' → SqT K H' a xs)
    (hs : ∀ i x σ' H', xs[i]? = some x → Pv i σ' H' → g x σ' H' fun σ2 H2 => tb { D with nx := Pv (i + 1), ct := Pv (i + 1), bk := D.nx } σ2 H2) (hd : ∀ σ' H', Pv xs.length σ' H' → D.nx σ' H') : zForS K g tb D σ (.ref a) H :=
  ⟨a, rfl, .inr ⟨⟨xs, h⟩, for_tup Pv h0 hl hs hd⟩⟩
theorem z_gName {v : V} {i : Nat} {P : L2.St → Hp → Prop} (k : P (σ.set i (some v)) H) : gName i v σ H P := k
theorem z_lcr1 {j : Int} (hb : -1000000 ≤ j ∧ j ≤ 1000000) (k : zLcR g tt te vs σ 0 j.toNat H Q) : zLcR1 g tt te vs σ [.int j] H Q := ⟨j, rfl, by omega, by omega, k⟩
theorem z_lcr {lo : Int} {n : Nat} (Pv : Addr → Nat → Hp → Prop) (h0 : ∀ D, H D = none → Pv D 0 (upd H D (.lst [])))
    (hs : ∀ D i H', H D = none → i < n → Pv D i H' → g (.int (lo + i)) (wipe σ vs) H' fun σ2 H2 => wipe σ2 vs = wipe σ vs ∧ tt σ2 H2 fun b H3 =>
      if b = true then te σ2 H3 fun y H4 => ∃ acc, H4 D = some (.lst acc) ∧ acc.length < sizeLine ∧ Pv D (i + 1) (upd H4 D (.lst (acc ++ [y]))) else Pv D (i + 1) H3)
    (hd : ∀ D H', H D = none → Pv D n H' → Q (.ref D) H') : zLcR g tt te vs σ lo n H Q :=
  fun D hD => lc_range (Pv D) (h0 D hD) (fun i H' hi p => hs D i H' hD hi p) (fun H' p => hd D H' hD p)
theorem z_lcl (h : SqL K H a xs) (Pv : Addr → Nat → Hp → Prop) (h0 : ∀ D, H D = none → Pv D 0 (upd H D (.lst []))) (hl : ∀ D i H', H D = none → i ≤ xs.length → Pv D i H' → SqL K H' a xs)
    (hs : ∀ D i x H', H D = none → xs[i]? = some x → Pv D i H' → g x (wipe σ vs) H' fun σ2 H2 => wipe σ2 vs = wipe σ vs ∧ tt σ2 H2 fun b H3 =>
      if b = true then te σ2 H3 fun y H4 => ∃ acc, H4 D = some (.lst acc) ∧ acc.length < sizeLine ∧ Pv D (i + 1) (upd H4 D (.lst (acc ++ [y]))) else Pv D (i + 1) H3)
    (hd : ∀ D H', H D = none → Pv D xs.length H' → Q (.ref D) H') : zLcS K g tt te vs σ (.ref a) H Q :=
  ⟨a, rfl, .inl ⟨⟨xs, h⟩, fun D hD => lc_list (Pv D) (h0 D hD) (fun i H' hi p => hl D i H' hD hi p) (fun i x H' hi p => hs D i x H' hD hi p) (fun H' p => hd D H' hD p)⟩⟩
theorem z_lct (h : SqT K H a xs) (Pv : Addr → Nat → Hp → Prop) (h0 : ∀ D, H D = none → Pv D 0 (upd H D (.lst []))) (hl : ∀ D i H', H D = none → i ≤ xs.length → Pv D i H' → SqT K H' a xs)
    (hs : ∀ D i x H', H D = none → xs[i]? = some x → Pv D i H' → g x (wipe σ vs) H' fun σ2 H2 => wipe σ2 vs = wipe σ vs ∧ tt σ2 H2 fun b H3 =>
      if b = true then te σ2 H3 fun y H4 => ∃ acc, H4 D = some (.lst acc) ∧ acc.length < sizeLine ∧ Pv D (i + 1) (upd H4 D (.lst (acc ++ [y]))) else Pv D (i + 1) H3)
    (hd : ∀ D H', H D = none → Pv D xs.length H' → Q (.ref D) H') : zLcS K g tt te vs σ (.ref a) H Q :=
  ⟨a, rfl, .inr ⟨⟨xs, h⟩, fun D hD => lc_tup (Pv D) (h0 D hD) (fun i H' hi p => hl D i H' hD hi p) (fun i x H' hi p => hs D i x H' hD hi p) (fun H' p => hd D H' hD p)⟩⟩
end
/-! ### zip -/
def zZip (K : PySem.W.Frag) (g : TG) (tb : TS) (D : Ends) (σ : L2.St) (vs : List V) (H1 : Hp) : Prop := ∃ a b xs ys, vs = [.ref a, .ref b] ∧ ((SqL K H1 a xs ∧ SqL K H1 b ys ∧ ∃ W : Nat → Nat → L2.St → Hp → Prop, (∃ m, W 0 m σ H1) ∧ ∀ i m σ H, W i m σ H →
  ((Itz K a b).stop i H ∧ D.nx σ H) ∨ ((Itz K a b).go i H ∧ ∃ N : L2.St → Hp → Prop, (∀ σ' H', N σ' H' → ∃ m', m' < m ∧ W (i + 1) m' σ' H') ∧ ∀ x H', (Itz K a b).yld i H x H' → g x σ H' fun σ2 H2 => tb { D with nx := N, ct := N, bk := D.nx } σ2 H2)) ∨
  (SqT K H1 a xs ∧ SqT K H1 b ys ∧ ∃ W : Nat → Nat → L2.St → Hp → Prop, (∃ m, W 0 m σ H1) ∧ ∀ i m σ H, W i m σ H →
  ((RZ.ItzT K a b).stop i H ∧ D.nx σ H) ∨ ((RZ.ItzT K a b).go i H ∧ ∃ N : L2.St → Hp → Prop, (∀ σ' H', N σ' H' → ∃ m', m' < m ∧ W (i + 1) m' σ' H') ∧ ∀ x H', (RZ.ItzT K a b).yld i H x H' → g x σ H' fun σ2 H2 => tb { D with nx := N, ct := N, bk := D.nx } σ2 H2)))
theorem Same.sqT {K : PySem.W.Frag} {H H' : Hp} {a : Addr} {xs : List V} (e : Same H H') (h : SqT K H a xs) : SqT K H' a xs := by
  rcases h with (h | ⟨o, h⟩) | h
  · exact .inl (.inl (e _ _ h))
  · exact .inl (.inr ⟨o, e _ _ h⟩)
  · exact .inr h
theorem Same.new {H H' : Hp} {p : Addr} {o : HO} (h : H' p = none) (e : Same H H') : Same H (upd H' p o) := fun b u q => lk_ne (ne_of_none (e b u q) h) (e b u q)
section
variable {K : PySem.W.Frag} {σ : L2.St} {H : Hp} {D : Ends} {ta : TA} {g : TG} {tb : TS} {a b : Addr} {xs ys : List V}
theorem z_forZ (k : ta σ H fun vs H1 => zZip K g tb D σ vs H1) : tFor (RZ.iZipA K ta) g tb D σ H := k
theorem z_zip {u v : Nat} (h : (SqL K H a xs ∧ SqL K H b ys) ∨ (SqT K H a xs ∧ SqT K H b ys)) (Pv : Nat → L2.St → Hp → Prop) (h0 : Pv 0 σ H) (hk : ∀ i σ' H', Pv i σ' H' → Same H H')
    (hs : ∀ i x y p σ' H', xs[i]? = some x → ys[i]? = some y → Pv i σ' H' → H' p = none → tb { D with nx := Pv (i + 1), ct := Pv (i + 1), bk := D.nx } ((σ'.set u (some x)).set v (some y)) (upd H' p (.tup [x, y])))
    (hd : ∀ σ' H', Pv (min xs.length ys.length) σ' H' → D.nx σ' H') : zZip K (gTup K 2 (gCons (gName u) (gCons (gName v) gNil))) tb D σ [.ref a, .ref b] H := by
  refine ⟨a, b, xs, ys, rfl, ?_⟩
  rcases h with ⟨h1, h2⟩ | ⟨h1, h2⟩
  · refine .inl ⟨h1, h2, fun i m σ H => m = min xs.length ys.length - i ∧ i ≤ min xs.length ys.length ∧ Pv i σ H, ⟨_, rfl, Nat.zero_le _, h0⟩, ?_⟩
    rintro i m σ' H' ⟨rfl, hi, p⟩
    have s := hk i σ' H' p
    have q1 := Same.seq s h1
    have q2 := Same.seq s h2
    by_cases hlt : i < min xs.length ys.length
    · have l1 : i < xs.length := by omega
      have l2 : i < ys.length := by omega
      refine .inr ⟨⟨xs, ys, xs[i], ys[i], q1, q2, by simp [l1], by simp [l2]⟩, Pv (i + 1), fun σ2 H2 p' => ⟨_, by omega, rfl, by omega, p'⟩, ?_⟩
      rintro x H2 ⟨T, x1, y1, rfl, hT, rfl, f1, f2⟩
      exact ⟨T, [x1, y1], rfl, .inl (.inl upd_same), rfl, x1, [y1], rfl, y1, [], rfl, rfl, hs i x1 y1 T σ' H' (f1 xs q1) (f2 ys q2) p hT⟩
    · have e : i = min xs.length ys.length := by omega
      subst e
      exact .inl ⟨⟨xs, ys, q1, q2, by omega⟩, hd σ' H' p⟩
  · refine .inr ⟨h1, h2, fun i m σ H => m = min xs.length ys.length - i ∧ i ≤ min xs.length ys.length ∧ Pv i σ H, ⟨_, rfl, Nat.zero_le _, h0⟩, ?_⟩
    rintro i m σ' H' ⟨rfl, hi, p⟩
    have s := hk i σ' H' p
    have q1 := Same.sqT s h1
    have q2 := Same.sqT s h2
    by_cases hlt : i < min xs.length ys.length
    · have l1 : i < xs.length := by omega
      have l2 : i < ys.length := by omega
      refine .inr ⟨⟨xs, ys, xs[i], ys[i], q1, q2, by simp [l1], by simp [l2]⟩, Pv (i + 1), fun σ2 H2 p' => ⟨_, by omega, rfl, by omega, p'⟩, ?_⟩
      rintro x H2 ⟨T, x1, y1, rfl, hT, rfl, f1, f2⟩
      exact ⟨T, [x1, y1], rfl, .inl (.inl upd_same), rfl, x1, [y1], rfl, y1, [], rfl, rfl, hs i x1 y1 T σ' H' (f1 xs q1) (f2 ys q2) p hT⟩
    · have e : i = min xs.length ys.length := by omega
      subst e
      exact .inl ⟨⟨xs, ys, q1, q2, by omega⟩, hd σ' H' p⟩
end
/-- an item of a list of ints -/
theorem map_int {xs : List Int} {i : Nat} {x : V} (h : (xs.map V.int)[i]? = some x) : i < xs.length ∧ x = .int (xs.getD i 0) := by
  rw [List.getElem?_map] at h
  cases e : xs[i]? with
  | none => rw [e] at h; cases h
  | some y =>
    rw [e] at h
    obtain ⟨l, _⟩ := List.getElem?_eq_some_iff.mp e
    exact ⟨l, by rw [List.getD_eq_getElem?_getD, e]; exact (Option.some.inj h).symm⟩
/-- a, b = a pair -/
theorem z_gTup2 {K : PySem.W.Frag} {H : Hp} {σ : L2.St} {P : L2.St → Hp → Prop} {t : Addr} {x y : V} {u v : Nat} (h : SqT K H t [x, y]) (k : P ((σ.set u (some x)).set v (some y)) H) : gTup K 2 (gCons (gName u) (gCons (gName v) gNil)) (.ref t) σ H P :=
  ⟨t, [x, y], rfl, h, rfl, x, [y], rfl, y, [], rfl, rfl, k⟩
/-! ### enumerate -/
def zEnum (K : PySem.W.Frag) (g : TG) (tb : TS) (D : Ends) (σ : L2.St) (vs : List V) (H1 : Hp) : Prop := ∃ a xs, vs = [.ref a] ∧ SqL K H1 a xs ∧ ∃ W : Nat → Nat → L2.St → Hp → Prop, (∃ m, W 0 m σ H1) ∧ ∀ i m σ H, W i m σ H →
  ((Ite K a).stop i H ∧ D.nx σ H) ∨ ((Ite K a).go i H ∧ ∃ N : L2.St → Hp → Prop, (∀ σ' H', N σ' H' → ∃ m', m' < m ∧ W (i + 1) m' σ' H') ∧ ∀ x H', (Ite K a).yld i H x H' → g x σ H' fun σ2 H2 => tb { D with nx := N, ct := N, bk := D.nx } σ2 H2)
def zLcE (K : PySem.W.Frag) (g : TG) (tt : TT) (te : TE) (vs : List Nat) (σ : L2.St) (as : List V) (H1 : Hp) (Q : VK) : Prop := ∃ a xs, as = [.ref a] ∧ SqL K H1 a xs ∧ ∀ D, H1 D = none → ∃ W : Nat → Nat → Hp → Prop, (∃ m, W 0 m (upd H1 D (.lst []))) ∧ ∀ i m H, W i m H →
  ((Ite K a).stop i H ∧ Q (.ref D) H) ∨ ((Ite K a).go i H ∧ ∃ Nx : Hp → Prop, (∀ H', Nx H' → ∃ m', m' < m ∧ W (i + 1) m' H') ∧ ∀ x H', (Ite K a).yld i H x H' → g x (wipe σ vs) H' fun σ2 H2 => wipe σ2 vs = wipe σ vs ∧ tt σ2 H2 fun b H3 =>
    if b = true then te σ2 H3 fun y H4 => ∃ acc, H4 D = some (.lst acc) ∧ acc.length < sizeLine ∧ Nx (upd H4 D (.lst (acc ++ [y]))) else Nx H3)
section
variable {K : PySem.W.Frag} {σ : L2.St} {H : Hp} {D : Ends} {ta : TA} {g : TG} {tb : TS} {a : Addr} {xs : List V} {tt : TT} {te : TE} {vs : List Nat} {Q : VK}
theorem z_forE (k : ta σ H fun vs H1 => zEnum K g tb D σ vs H1) : tFor (iEnum K ta) g tb D σ H := k
theorem z_lcE (k : ta σ H fun as H1 => zLcE K g tt te vs σ as H1 Q) : tLc (iEnum K ta) g tt te vs σ H Q := k
theorem z_enum {u v : Nat} (h : SqL K H a xs) (Pv : Nat → L2.St → Hp → Prop) (h0 : Pv 0 σ H) (hk : ∀ i σ' H', Pv i σ' H' → SqL K H' a xs)
    (hs : ∀ i x p σ' H', xs[i]? = some x → Pv i σ' H' → H' p = none → tb { D with nx := Pv (i + 1), ct := Pv (i + 1), bk := D.nx } ((σ'.set u (some (.int (i : Nat)))).set v (some x)) (upd H' p (.tup [.int (i : Nat), x])))
    (hd : ∀ σ' H', Pv xs.length σ' H' → D.nx σ' H') : zEnum K (gTup K 2 (gCons (gName u) (gCons (gName v) gNil))) tb D σ [.ref a] H := by
  refine ⟨a, xs, rfl, h, fun i m σ H => m = xs.length - i ∧ i ≤ xs.length ∧ Pv i σ H, ⟨_, rfl, Nat.zero_le _, h0⟩, ?_⟩
  rintro i m σ' H' ⟨rfl, hi, p⟩
  have q1 := hk i σ' H' p
  by_cases hlt : i < xs.length
  · refine .inr ⟨⟨xs, xs[i], q1, by simp [hlt]⟩, Pv (i + 1), fun σ2 H2 p' => ⟨_, by omega, rfl, by omega, p'⟩, ?_⟩
    rintro x H2 ⟨T, x1, rfl, hT, rfl, f1⟩
    exact ⟨T, [.int (i : Nat), x1], rfl, .inl (.inl upd_same), rfl, .int (i : Nat), [x1], rfl, x1, [], rfl, rfl, hs i x1 T σ' H' (f1 xs q1) p hT⟩
  · have e : i = xs.length := by omega
    subst e
    exact .inl ⟨⟨xs, q1, by omega⟩, hd σ' H' p⟩
theorem z_lce {u v : Nat} (h : SqL K H a xs) (Pv : Addr → Nat → Hp → Prop) (h0 : ∀ D, H D = none → Pv D 0 (upd H D (.lst []))) (hk : ∀ D i H', H D = none → Pv D i H' → SqL K H' a xs)
    (hs : ∀ D i x p H', H D = none → xs[i]? = some x → Pv D i H' → H' p = none → wipe (((wipe σ vs).set u (some (.int (i : Nat)))).set v (some x)) vs = wipe σ vs ∧ tt (((wipe σ vs).set u (some (.int (i : Nat)))).set v (some x)) (upd H' p (.tup [.int (i : Nat), x])) fun b H3 =>
      if b = true then te (((wipe σ vs).set u (some (.int (i : Nat)))).set v (some x)) H3 fun y H4 => ∃ acc, H4 D = some (.lst acc) ∧ acc.length < sizeLine ∧ Pv D (i + 1) (upd H4 D (.lst (acc ++ [y]))) else Pv D (i + 1) H3)
    (hd : ∀ D H', H D = none → Pv D xs.length H' → Q (.ref D) H') : zLcE K (gTup K 2 (gCons (gName u) (gCons (gName v) gNil))) tt te vs σ [.ref a] H Q := by
  refine ⟨a, xs, rfl, h, fun D hD => ⟨fun i m H => m = xs.length - i ∧ i ≤ xs.length ∧ Pv D i H, ⟨_, rfl, Nat.zero_le _, h0 D hD⟩, ?_⟩⟩
  rintro i m H' ⟨rfl, hi, p⟩
  have q1 := hk D i H' hD p
  by_cases hlt : i < xs.length
  · refine .inr ⟨⟨xs, xs[i], q1, by simp [hlt]⟩, Pv D (i + 1), fun H2 p' => ⟨_, by omega, rfl, by omega, p'⟩, ?_⟩
    rintro x H2 ⟨T, x1, rfl, hT, rfl, f1⟩
    exact ⟨T, [.int (i : Nat), x1], rfl, .inl (.inl upd_same), rfl, .int (i : Nat), [x1], rfl, x1, [], rfl, rfl, hs D i x1 T H' hD (f1 xs q1) p hT⟩
  · have e : i = xs.length := by omega
    subst e
    exact .inl ⟨⟨xs, q1, by omega⟩, hd D H' hD p⟩
end
/-! ### attributes -/
def zFld (K : PySem.W.Frag) (f : Str) (x : V) (H : Hp) (Q : VK) : Prop := ∃ a C dx fs v, x = .ref a ∧ H a = some (.ins C dx fs) ∧ Cls K C ∧ NoAttr K C f ∧ fs.lookup f = some v ∧ Q v H
def zSet (K : PySem.W.Frag) (f : Str) (y x : V) (H : Hp) (N : Hp → Prop) : Prop := ∃ a C dx fs, x = .ref a ∧ H a = some (.ins C dx fs) ∧ Cls K C ∧ NoAttr K C f ∧ fs.length < 1000 ∧ N (upd H a (.ins C dx (putF f y fs)))
theorem z_fldt {K : PySem.W.Frag} {σ : L2.St} {H : Hp} {ta : TE} {f : Str} {Q : VK} (k : ta σ H fun x H1 => zFld K f x H1 Q) : tFld K ta f σ H Q := k
theorem z_sett {K : PySem.W.Frag} {σ : L2.St} {H : Hp} {ta tv : TE} {f : Str} {D : Ends} (k : tv σ H fun y H1 => ta σ H1 fun x H2 => zSet K f y x H2 fun H3 => D.nx σ H3) : sFld K ta tv f D σ H := k
/-! ### slices -/
def uSl (K : PySem.W.Frag) : V → Option Int → Option Int → Hp → VK → Prop := fun x lo hi H Q => match x with
  | .ref a => rSlL K (.ref a) lo hi H Q ∨ rSlA K (.ref a) lo hi H Q
  | .str z => z.length ≤ sizeLine ∧ Q (.str (cutS z lo hi)) H
  | _ => False
theorem sl_uSl {X : Cx} : SlR X (uSl X.K) := by
  intro pins s σ H x v vl vu lo hi sl Q I rx hs pl pu h
  cases x <;> first | exact h.elim | skip
  · exact sl_str pins s σ H _ v vl vu lo hi sl Q I rx hs pl pu ⟨_, rfl, h.1, h.2⟩
  · exact (sl_list.or sl_tupA) pins s σ H _ v vl vu lo hi sl Q I rx hs pl pu h
section
variable {K : PySem.W.Frag} {σ : L2.St} {H : Hp} {Q : VK} {te : TE} {tl th : TO} {p : Addr} {xs : List V} {lo hi : Option Int} {QO : Option Int → Hp → Prop}
theorem z_sl {r : V → Option Int → Option Int → Hp → VK → Prop} (k : te σ H fun x H1 => tl σ H1 fun l H2 => th σ H2 fun u H3 => r x l u H3 Q) : tSl r te tl th σ H Q := k
theorem z_part (k : te σ H fun x H1 => ∃ i, x = .int i ∧ QO (some i) H1) : tPart te σ H QO := k
theorem z_noPart (k : QO none H) : tNoPart σ H QO := k
theorem z_parti {P : Int → Prop} {a : Int} (k : P a) : ∃ i, V.int a = .int i ∧ P i := ⟨a, rfl, k⟩
theorem z_slL (h : SqL K H p xs) (k : ∀ l, H l = none → Q (.ref l) (upd H l (.lst (cutV xs lo hi)))) : uSl K (.ref p) lo hi H Q := .inl ⟨p, xs, rfl, h, k⟩
theorem z_slS {x : Str} (h : x.length ≤ 100000) (k : Q (.str (cutS x lo hi)) H) : uSl K (.str x) lo hi H Q := ⟨Nat.le_trans h (by decide), k⟩
end
theorem cutV_ints (ns : List Int) (lo hi : Option Int) : cutV (ns.map V.int) lo hi = ((ns.drop (HT.sIx ns.length 0 lo)).take (HT.sIx ns.length ns.length hi - HT.sIx ns.length 0 lo)).map V.int := by
  unfold cutV; rw [List.length_map, List.map_take, List.map_drop]
theorem cutV_refs (ps : List Addr) (lo hi : Option Int) : cutV (ps.map V.ref) lo hi = ((ps.drop (HT.sIx ps.length 0 lo)).take (HT.sIx ps.length ps.length hi - HT.sIx ps.length 0 lo)).map V.ref := by
  unfold cutV; rw [List.length_map, List.map_take, List.map_drop]
theorem sIx_pos {n d : Nat} {i : Int} (h : 0 ≤ i) : HT.sIx n d (some i) = min i.toNat n := by
  show (if i < 0 then (i + (n : Int)).toNat else min i.toNat n) = _
  rw [if_neg (by omega)]
/-! ### comprehensions over zip -/
def zLcZ (K : PySem.W.Frag) (g : TG) (tt : TT) (te : TE) (vs : List Nat) (σ : L2.St) (as : List V) (H1 : Hp) (Q : VK) : Prop := ∃ a b xs ys, as = [.ref a, .ref b] ∧ ((SqL K H1 a xs ∧ SqL K H1 b ys ∧ ∀ D, H1 D = none → ∃ W : Nat → Nat → Hp → Prop, (∃ m, W 0 m (upd H1 D (.lst []))) ∧ ∀ i m H, W i m H →
  ((Itz K a b).stop i H ∧ Q (.ref D) H) ∨ ((Itz K a b).go i H ∧ ∃ Nx : Hp → Prop, (∀ H', Nx H' → ∃ m', m' < m ∧ W (i + 1) m' H') ∧ ∀ x H', (Itz K a b).yld i H x H' → g x (wipe σ vs) H' fun σ2 H2 => wipe σ2 vs = wipe σ vs ∧ tt σ2 H2 fun b H3 =>
    if b = true then te σ2 H3 fun y H4 => ∃ acc, H4 D = some (.lst acc) ∧ acc.length < sizeLine ∧ Nx (upd H4 D (.lst (acc ++ [y]))) else Nx H3)) ∨
  (SqT K H1 a xs ∧ SqT K H1 b ys ∧ ∀ D, H1 D = none → ∃ W : Nat → Nat → Hp → Prop, (∃ m, W 0 m (upd H1 D (.lst []))) ∧ ∀ i m H, W i m H →
  ((RZ.ItzT K a b).stop i H ∧ Q (.ref D) H) ∨ ((RZ.ItzT K a b).go i H ∧ ∃ Nx : Hp → Prop, (∀ H', Nx H' → ∃ m', m' < m ∧ W (i + 1) m' H') ∧ ∀ x H', (RZ.ItzT K a b).yld i H x H' → g x (wipe σ vs) H' fun σ2 H2 => wipe σ2 vs = wipe σ vs ∧ tt σ2 H2 fun b H3 =>
    if b = true then te σ2 H3 fun y H4 => ∃ acc, H4 D = some (.lst acc) ∧ acc.length < sizeLine ∧ Nx (upd H4 D (.lst (acc ++ [y]))) else Nx H3)))
section
variable {K : PySem.W.Frag} {σ : L2.St} {H : Hp} {ta : TA} {g : TG} {a b : Addr} {xs ys : List V} {tt : TT} {te : TE} {vs : List Nat} {Q : VK}
theorem z_lcZ (k : ta σ H fun as H1 => zLcZ K g tt te vs σ as H1 Q) : tLc (RZ.iZipA K ta) g tt te vs σ H Q := k
theorem z_lcz {u v : Nat} (h : (SqL K H a xs ∧ SqL K H b ys) ∨ (SqT K H a xs ∧ SqT K H b ys)) (Pv : Addr → Nat → Hp → Prop) (h0 : ∀ D, H D = none → Pv D 0 (upd H D (.lst []))) (hk : ∀ D i H', H D = none → Pv D i H' → Same H H')
    (hs : ∀ D i x y p H', H D = none → xs[i]? = some x → ys[i]? = some y → Pv D i H' → H' p = none → wipe (((wipe σ vs).set u (some x)).set v (some y)) vs = wipe σ vs ∧ tt (((wipe σ vs).set u (some x)).set v (some y)) (upd H' p (.tup [x, y])) fun b H3 =>
      if b = true then te (((wipe σ vs).set u (some x)).set v (some y)) H3 fun z H4 => ∃ acc, H4 D = some (.lst acc) ∧ acc.length < sizeLine ∧ Pv D (i + 1) (upd H4 D (.lst (acc ++ [z]))) else Pv D (i + 1) H3)
    (hd : ∀ D H', H D = none → Pv D (min xs.length ys.length) H' → Q (.ref D) H') : zLcZ K (gTup K 2 (gCons (gName u) (gCons (gName v) gNil))) tt te vs σ [.ref a, .ref b] H Q := by
  refine ⟨a, b, xs, ys, rfl, ?_⟩
  rcases h with ⟨h1, h2⟩ | ⟨h1, h2⟩
  · refine .inl ⟨h1, h2, fun D hD => ⟨fun i m H => m = min xs.length ys.length - i ∧ i ≤ min xs.length ys.length ∧ Pv D i H, ⟨_, rfl, Nat.zero_le _, h0 D hD⟩, ?_⟩⟩
    rintro i m H' ⟨rfl, hi, p⟩
    have s := hk D i H' hD p
    have q1 := Same.seq s h1
    have q2 := Same.seq s h2
    by_cases hlt : i < min xs.length ys.length
    · have l1 : i < xs.length := by omega
      have l2 : i < ys.length := by omega
      refine .inr ⟨⟨xs, ys, xs[i], ys[i], q1, q2, by simp [l1], by simp [l2]⟩, Pv D (i + 1), fun H2 p' => ⟨_, by omega, rfl, by omega, p'⟩, ?_⟩
      rintro x H2 ⟨T, x1, y1, rfl, hT, rfl, f1, f2⟩
      exact ⟨T, [x1, y1], rfl, .inl (.inl upd_same), rfl, x1, [y1], rfl, y1, [], rfl, rfl, hs D i x1 y1 T H' hD (f1 xs q1) (f2 ys q2) p hT⟩
    · have e : i = min xs.length ys.length := by omega
      subst e
      exact .inl ⟨⟨xs, ys, q1, q2, by omega⟩, hd D H' hD p⟩
  · refine .inr ⟨h1, h2, fun D hD => ⟨fun i m H => m = min xs.length ys.length - i ∧ i ≤ min xs.length ys.length ∧ Pv D i H, ⟨_, rfl, Nat.zero_le _, h0 D hD⟩, ?_⟩⟩
    rintro i m H' ⟨rfl, hi, p⟩
    have s := hk D i H' hD p
    have q1 := Same.sqT s h1
    have q2 := Same.sqT s h2
    by_cases hlt : i < min xs.length ys.length
    · have l1 : i < xs.length := by omega
      have l2 : i < ys.length := by omega
      refine .inr ⟨⟨xs, ys, xs[i], ys[i], q1, q2, by simp [l1], by simp [l2]⟩, Pv D (i + 1), fun H2 p' => ⟨_, by omega, rfl, by omega, p'⟩, ?_⟩
      rintro x H2 ⟨T, x1, y1, rfl, hT, rfl, f1, f2⟩
      exact ⟨T, [x1, y1], rfl, .inl (.inl upd_same), rfl, x1, [y1], rfl, y1, [], rfl, rfl, hs D i x1 y1 T H' hD (f1 xs q1) (f2 ys q2) p hT⟩
    · have e : i = min xs.length ys.length := by omega
      subst e
      exact .inl ⟨⟨xs, ys, q1, q2, by omega⟩, hd D H' hD p⟩
end
/-! ### constants of the module -/
theorem z_gint {X : Cx} {x : Str} {i : Int} {pos : Pos} (hm : ∃ t, X.mg x = some (.int i t)) (hg : Gl X x) (hd : (x == ("__debug__" : Str)) = false := by decide) : PE X (.Name x pos) (tC (.int i)) := by
  obtain ⟨t, hm⟩ := hm
  exact pe_glob hg hm ⟨t, rfl⟩ hd
theorem z_gstr {X : Cx} {x y : Str} {pos : Pos} (hm : ∃ t, X.mg x = some (.str y t)) (hg : Gl X x) (hd : (x == ("__debug__" : Str)) = false := by decide) : PE X (.Name x pos) (tC (.str y)) := by
  obtain ⟨t, hm⟩ := hm
  exact pe_glob hg hm ⟨t, rfl⟩ hd

local macro_rules | `(tactic| walk_at "ne") => `(tactic| with_reducible first | assumption | exact Ne.symm (by assumption) | exact ne_n (by assumption) (by assumption) | exact Ne.symm (ne_n (by assumption) (by assumption)))
local macro_rules | `(tactic| walk_at "df") => `(tactic| (intro zz; cases zz; done))
local macro_rules | `(tactic| walk_at "ns") => `(tactic| first | exact NotSt.ints | exact NotSt.refs | exact NotSt.strs | (intro _ _ _ zz; cases zz; done))
local macro_rules | `(tactic| walk_at "lk") => `(tactic| with_reducible first | assumption | ((show upd _ _ _ _ = _); first | exact upd_same | exact lk_new (by assumption) (by walk_at "lk") | ((fail_if_success refine lk_new (by assumption) ?_); first | exact lk_ne (by walk_at "ne") (by walk_at "lk") | exact lk_df (by walk_at "lk") (by walk_at "lk") (by with_unfolding_all walk_at "df"))) | exact ExD.lk (by assumption) (by walk_at "lk") (by with_unfolding_all walk_at "ns") | exact Same.lk (by assumption) (by walk_at "lk"))
local macro_rules | `(tactic| walk_at "sqL") => `(tactic| with_reducible first | assumption | exact SqL.of (by walk_at "lk") | ((show SqL _ (upd _ _ _) _ _); first | exact sqL_new (by assumption) (by walk_at "sqL") | exact sqL_ne (by walk_at "ne") (by walk_at "sqL")) | exact Same.seq (by assumption) (by walk_at "sqL"))
local macro_rules | `(tactic| walk_at "sqT") => `(tactic| with_reducible first | assumption | exact SqT.of (by walk_at "lk") | ((show SqT _ (upd _ _ _) _ _); first | exact sqT_new (by assumption) (by walk_at "sqT") | exact sqT_ne (by walk_at "ne") (by walk_at "sqT")))
local macro_rules | `(tactic| walk_at "sq") => `(tactic| first | exact Or.inl (by walk_at "sqL") | exact Or.inr (by walk_at "sqT"))
local macro_rules | `(tactic| walk_at "mulok") => `(tactic| first | exact mul1 (by omega) | exact mul2 (by omega))
local macro_rules | `(tactic| walk_at "few") => `(tactic| (simp only [List.length_cons, List.length_nil]; with_unfolding_all decide))
local macro_rules | `(tactic| walk_at "zo") => `(tactic| (with_reducible first
  | refine z_add ?_ | refine z_sub ?_ | refine z_lt ?_ | refine z_le ?_ | refine z_gt ?_ | refine z_ge ?_ | refine z_eq ?_ | refine z_ne ?_ | refine z_neg ?_ | refine z_int ?_ | refine z_max ?_ | refine z_min ?_ | refine z_abs ?_
  | refine z_eqS ?_ | refine z_neS ?_ | refine z_eqIS ?_ | refine z_eqSI ?_ | refine z_neIS ?_ | refine z_neSI ?_ | refine z_eqB ?_ | refine z_neB ?_ | refine z_eqN ?_ | refine z_neN ?_ | refine z_is ?_ | refine z_isNot ?_ | refine z_isB ?_ | refine z_isNotB ?_ | refine z_isbb ?_ | refine z_isbi ?_
  | refine z_ltS ?_ | refine z_leS ?_ | refine z_gtS ?_ | refine z_geS ?_ | refine z_isii ?_ | refine z_isib ?_))
local macro_rules | `(tactic| walk_at "zp") => `(tactic| with_reducible first
  | ((show uMul _ _ _ _); refine z_mul (by walk_at "mulok") ?_)
  | ((show uDiv _ _ _ _); refine z_div (by exact div1 (by omega)) ?_)
  | ((show uMod _ _ _ _); refine z_mod (by omega) ?_)
  | ((show uPow _ _ _ _); refine z_pow (by with_unfolding_all exact ⟨by decide, by decide, by decide⟩) ?_; (simp only [Int.reduceToNat, Int.reducePow]))
  | ((show uIx _ _ _ _ _); refine z_ix (by walk_at "sq") (by first | with_unfolding_all rfl | assumption) ?_)
  | ((show uLen _ _ _ _); refine z_len (by walk_at "sq") ?_)
  | ((show uList _ _ _ _); refine z_list (by walk_at "sq") ?_; intro _ _)
  | ((show uSl _ (V.ref _) _ _ _ _); refine z_slL (by walk_at "sqL") ?_; intro _ _)
  | ((show rSetL _ _ _ _ _); refine z_setL (by walk_at "lk") (by with_unfolding_all rfl) ?_)
  | ((show tyV _ "list" _ _ ∧ _); refine ⟨tyL (by walk_at "lk"), ?_⟩)
  | ((show uIsi _ [_, V.ty "list"] _ _); refine z_isll (by walk_at "lk") ?_)
  | ((show uIsi _ [_, V.ty "tuple"] _ _); refine z_istt (by walk_at "lk") ?_)
  | ((show zNewL _ _ _); refine z_newL (by walk_at "few") ?_; intro _ _)
  | ((show zNewT _ _ _); refine z_newT (by walk_at "few") ?_; intro _ _))
local macro_rules | `(tactic| walk_at "ze") => `(tactic| (with_reducible first
  | ((show tVar _ _ _ _); refine z_var (by with_unfolding_all rfl) ?_) | refine z_c ?_ | refine z_op ?_ | refine z_cons ?_ | refine z_nil ?_ | refine z_cal ?_ | refine z_cb ?_ | refine z_test ?_ | refine z_bl ?_ | refine z_un ?_
  | refine z_tru ?_ | refine z_trub ?_ | refine z_trui ?_ | refine z_and ?_ | refine z_or ?_ | refine z_not ?_ | refine z_andV ?_ | refine z_orV ?_ | refine z_notV ?_ | refine z_bl1 ?_ | refine z_if ?_ | refine z_lst ?_ | refine z_tup ?_ | refine z_chain ?_))
local macro_rules | `(tactic| walk_at "zs") => `(tactic| (with_reducible first
  | refine z_seq ?_ | refine z_asg ?_ | refine z_ifS ?_ | refine z_ret ?_ | refine z_drop ?_ | refine z_next ?_ | refine z_brk ?_ | refine z_cont ?_ | refine z_retN ?_ | refine z_iteT ?_ | refine z_iteF ?_ | refine z_for1 ?_ | refine z_for2 ?_ | refine z_asgS ?_ | refine z_bm ?_ | refine z_forSq ?_ | refine z_forZ ?_ | refine z_forE ?_ | refine z_lcE ?_ | refine z_lcZ ?_ | refine z_fldt ?_ | refine z_sett ?_ | refine z_lcSq ?_ | refine z_lc1 ?_ | refine z_yes ?_ | refine z_gName ?_ | refine z_sl ?_ | refine z_part ?_ | refine z_noPart ?_ | refine z_parti ?_))
local macro_rules | `(tactic| walk_at "z") => `(tactic| first | walk_at "ze" | walk_at "zo" | walk_at "zs" | walk_at "zp" | (dsimp only [List.set]))
local macro_rules | `(tactic| walk_at "zz") => `(tactic| repeat (walk_at "z"))
local macro_rules | `(tactic| walk_at "zd") => `(tactic| ((with_reducible show ite _ _ _); first | refine z_iteT' (by decide +kernel) ?_ | refine z_iteF' (by decide +kernel) ?_))
local macro_rules | `(tactic| walk_at "zx") => `(tactic| repeat (first | walk_at "z" | walk_at "zd"))

/-! ### the draws of a law -/
-- _law_row(_law_script, _law_k): slots 0:_law_script 1:_law_k 2:_law_cell 3:_law_a 4:_law_b 5:_law_c
def T_law_row (K : PySem.W.Frag) : TS :=
    (tSeq (tAsg (tC (.int 0)) (gName 2))
    (tCut (tIfS (tTest (tOp (uLt K) (tVar 1) (tCB (uLen K) (tCons (tVar 0) tNil)))) (tAsg (tOp (uIx K) (tVar 0) (tVar 1)) (gName 2)) tNext)
    (tCut (tIfS (tTest (tOp (uLt K) (tVar 2) (tC (.int 0)))) (tAsg (tOp uSub (tOp uMul (tUn uNeg (tC (.int 2))) (tVar 2)) (tC (.int 1))) (gName 2)) tNext)
    (tCut (tIfS (tTest (tOp (uLt K) (tVar 2) (tOp uPow (tC (.int 10)) (tC (.int 9))))) (tSeq (tAsg (tOp uMod (tCB uInt (tCons (tOp (uAdd K) (tOp (uAdd K) (tOp uMul (tVar 2) (tC (.int 48271))) (tOp uMul (tVar 1) (tC (.int 69621)))) (tC (.int 11))) tNil)) (tC (.int 2147483647))) (gName 3))
    (tSeq (tAsg (tOp uMod (tCB uInt (tCons (tOp (uAdd K) (tOp (uAdd K) (tOp (uAdd K) (tOp uMul (tVar 3) (tC (.int 16807))) (tOp uMul (tVar 2) (tC (.int 7)))) (tVar 1)) (tC (.int 5))) tNil)) (tC (.int 2147483629))) (gName 4))
    (tSeq (tAsg (tOp uMod (tCB uInt (tCons (tOp (uAdd K) (tOp (uAdd K) (tOp uMul (tVar 4) (tC (.int 39373))) (tOp uMul (tVar 3) (tVar 4))) (tC (.int 3))) tNil)) (tC (.int 2147483587))) (gName 5))
    (tAsg (tOp (uAdd K) (tOp (uAdd K) (tVar 3) (tOp uMul (tVar 4) (tC (.int 2147483647)))) (tOp uMul (tVar 5) (tOp uPow (tC (.int 2147483647)) (tC (.int 2))))) (gName 2))))) tNext)
    (tRet (tVar 2))))))
def sp_law_row (K : PySem.W.Frag) : Sp := fun vs H Q _ => ∃ (L : Addr) (ns : List Int) (k : Int), vs = [.ref L, .int k] ∧ SqL K H L (ns.map V.int) ∧ 0 ≤ k ∧ ∀ c : Int, 0 ≤ c → Q (.int c) H
theorem r_law_row {K : PySem.W.Frag} {L : Addr} {ns : List Int} {k : Int} {H : Hp} {D : Ends} (hL : SqL K H L (ns.map V.int)) (hk : 0 ≤ k) (q : ∀ c : Int, 0 ≤ c → D.rt (.int c) H) :
    T_law_row K D [some (.ref L), some (.int k), none, none, none, none] H := by
  unfold T_law_row
  walk_at "zz"
  refine z_cut (fun σ H' => H = H' ∧ ∃ c : Int, σ = [some (.ref L), some (.int k), some (.int c), none, none, none]) ?_ ?_
  · walk_at "zz"
    refine z_itD (fun c => ?_) (fun c => ?_)
    · walk_at "zz"
      refine z_ix (.inl hL) (at_int hk (by simpa using c)) ?_
      walk_at "zz"
      exact ⟨rfl, _, rfl⟩
    · walk_at "zz"
      exact ⟨rfl, _, rfl⟩
  rintro σ H' ⟨rfl, c, rfl⟩
  refine z_cut (fun σ H' => H = H' ∧ ∃ c : Int, 0 ≤ c ∧ σ = [some (.ref L), some (.int k), some (.int c), none, none, none]) ?_ ?_
  · walk_at "zz"
    refine z_itD (fun c => ?_) (fun c => ?_)
    · walk_at "zz"
      exact ⟨rfl, _, by omega, rfl⟩
    · walk_at "zz"
      exact ⟨rfl, _, by omega, rfl⟩
  rintro σ H' ⟨rfl, c, hc, rfl⟩
  refine z_cut (fun σ H' => H = H' ∧ ∃ (c : Int) (x y z : Option V), 0 ≤ c ∧ σ = [some (.ref L), some (.int k), some (.int c), x, y, z]) ?_ ?_
  · walk_at "zz"
    refine z_itD (fun h => ?_) (fun h => ?_)
    · walk_at "zz"
      refine ⟨rfl, _, _, _, _, ?_, rfl⟩
      omega
    · walk_at "zz"
      exact ⟨rfl, _, _, _, _, hc, rfl⟩
  rintro σ H' ⟨rfl, c, x, y, z, hc, rfl⟩
  walk_at "zz"
  exact q c hc
-- _law_next(_law_state, _law_many): slots 0:_law_state 1:_law_many 2:_law_drawn
def T_law_next (K : PySem.W.Frag) : TS :=
    (tCut (tIfS (tTest (tOp (uLt K) (tOp (uIx K) (tVar 0) (tC (.int 2))) (tVar 1))) (tSeq (tAsg (tCal (sp_law_row K) (tCons (tOp (uIx K) (tVar 0) (tC (.int 0))) (tCons (tOp (uIx K) (tVar 0) (tC (.int 1))) tNil))) (gSub (tVar 0) (tC (.int 2)) rSetL))
    (tAsg (tOp (uAdd K) (tOp (uIx K) (tVar 0) (tC (.int 1))) (tC (.int 1))) (gSub (tVar 0) (tC (.int 1)) rSetL))) tNext)
    (tSeq (tAsg (tOp uMod (tCB uInt (tCons (tOp (uIx K) (tVar 0) (tC (.int 2))) tNil)) (tVar 1)) (gName 2))
    (tSeq (tAsg (tOp uDiv (tOp (uIx K) (tVar 0) (tC (.int 2))) (tVar 1)) (gSub (tVar 0) (tC (.int 2)) rSetL))
    (tRet (tVar 2)))))
/-- the state of the draws stands at st, the script's copy at L -/
structure Draw (H : Hp) (st L : Addr) : Prop where
  ex : ∃ (ns : List Int) (k a : Int), H st = some (.lst [.ref L, .int k, .int a]) ∧ H L = some (.lst (ns.map V.int)) ∧ L ≠ st ∧ 0 ≤ k ∧ 0 ≤ a
theorem Draw.ne {H : Hp} {st L p : Addr} (h : H p = none) (d : Draw H st L) : p ≠ st := by
  obtain ⟨_, _, _, e, _⟩ := d.ex
  exact (ne_of_none e h).symm
theorem Draw.neL {H : Hp} {st L p : Addr} (h : H p = none) (d : Draw H st L) : p ≠ L := by
  obtain ⟨_, _, _, _, e, _⟩ := d.ex
  exact (ne_of_none e h).symm
theorem Draw.new {H : Hp} {st L p : Addr} {o : HO} (h : H p = none) (d : Draw H st L) : Draw (upd H p o) st L := by
  obtain ⟨ns, k, a, e, s, n, hk, ha⟩ := d.ex
  exact ⟨ns, k, a, lk_ne (ne_of_none e h) e, lk_ne (ne_of_none s h) s, n, hk, ha⟩
theorem Draw.same {H H' : Hp} {st L : Addr} (x : Same H H') (d : Draw H st L) : Draw H' st L := by
  obtain ⟨ns, k, a, e, s, n, hk, ha⟩ := d.ex
  exact ⟨ns, k, a, x _ _ e, x _ _ s, n, hk, ha⟩
theorem Draw.put {H : Hp} {st L p : Addr} {o : HO} (h1 : p ≠ st) (h2 : p ≠ L) (d : Draw H st L) : Draw (upd H p o) st L := by
  obtain ⟨ns, k, a, e, s, n, hk, ha⟩ := d.ex
  exact ⟨ns, k, a, lk_ne h1.symm e, lk_ne h2.symm s, n, hk, ha⟩
theorem Draw.back {H H' : Hp} {st L p : Addr} (d : Draw H' st L) (x : ExD H H') (h : H' p = none) (hs : ∀ L k a, H p = some (.lst [.ref L, .int k, .int a]) → p = st) : H p = none := by
  cases e : H p with
  | none => rfl
  | some o =>
    by_cases n : NotSt o
    · have := x p o n e
      rw [h] at this; cases this
    · exfalso
      apply n
      rintro L k a rfl
      exact Draw.ne h d (hs L k a e)
def sp_law_next (K : PySem.W.Frag) : Sp := fun vs H Q _ => ∃ (st L : Addr) (m : Int), vs = [.ref st, .int m] ∧ Draw H st L ∧ 0 < m ∧ m < 1000000000000000000 ∧ ∀ (r : Int) (H' : Hp), 0 ≤ r → r < m → Draw H' st L → ExD H H' → Q (.int r) H'
theorem law_row_c {K : PySem.W.Frag} {L : Addr} {k : Int} {H : Hp} {Q : VK} {E : XK} {ns : List Int} (hL : SqL K H L (ns.map V.int)) (hk : 0 ≤ k) (q : ∀ c : Int, 0 ≤ c → Q (.int c) H) : sp_law_row K [.ref L, .int k] H Q E := ⟨L, ns, k, rfl, hL, hk, q⟩
theorem r_law_next {K : PySem.W.Frag} {st L : Addr} {m : Int} {H : Hp} {D : Ends} (d : Draw H st L) (h0 : 0 < m) (h1 : m < 1000000000000000000) (q : ∀ (r : Int) (H' : Hp), 0 ≤ r → r < m → Draw H' st L → ExD H H' → D.rt (.int r) H') :
    T_law_next K D [some (.ref st), some (.int m), none] H := by
  obtain ⟨ns, k, a, e, sL, n, hk, ha⟩ := d.ex
  have s : SqL K H L (ns.map V.int) := SqL.of sL
  unfold T_law_next
  refine z_cut (fun σ H' => ∃ k a : Int, H' = upd H st (.lst [.ref L, .int k, .int a]) ∧ 0 ≤ k ∧ 0 ≤ a ∧ σ = [some (.ref st), some (.int m), none]) ?_ ?_
  · walk_at "zz"
    refine z_itD (fun h => ?_) (fun h => ?_)
    · walk_at "zz"
      refine law_row_c s hk fun c hc => ?_
      walk_at "zz"
      refine ⟨k + 1, c, ?_, by omega, hc, rfl⟩
      simp only [upd_upd]; rfl
    · walk_at "zz"
      exact ⟨k, a, (upd_self e).symm, hk, ha, rfl⟩
  rintro σ H' ⟨k, a, rfl, hk, ha, rfl⟩
  walk_at "zz"
  refine q _ _ (Int.emod_nonneg _ (by omega)) (Int.emod_lt_of_pos _ h0) ⟨ns, k, a / m, upd_same, ?_, n, hk, Int.ediv_nonneg ha (by omega)⟩ ?_
  · exact lk_ne n (lk_ne n sL)
  · exact ExD.st e (ExD.st e (ExD.refl H))
theorem law_next_c {K : PySem.W.Frag} {st L : Addr} {m : Int} {H : Hp} {Q : VK} {E : XK} (d : Draw H st L) (h0 : 0 < m) (h1 : m < 1000000000000000000) (q : ∀ (r : Int) (H' : Hp), 0 ≤ r → r < m → Draw H' st L → ExD H H' → Q (.int r) H') : sp_law_next K [.ref st, .int m] H Q E :=
  ⟨st, L, m, rfl, d, h0, h1, q⟩
-- _law_is_integer(_law_actual): slots 0:_law_actual
def T_law_is_integer (K : PySem.W.Frag) : TS :=
    (tRet (tAndV (tCB (uIsi K) (tCons (tVar 0) (tCons (tC (.ty "int")) tNil))) (tNotV (tCB (uIsi K) (tCons (tVar 0) (tCons (tC (.ty "bool")) tNil))))))
def sp_law_is_integer (K : PySem.W.Frag) : Sp := fun vs H Q _ => ∃ i : Int, vs = [.int i] ∧ Q (.bl true) H
theorem r_law_is_integer {K : PySem.W.Frag} {i : Int} {H : Hp} {D : Ends} (q : D.rt (.bl true) H) : T_law_is_integer K D [some (.int i)] H := by
  unfold T_law_is_integer
  walk_at "zz"
  exact q
theorem Draw.start {H : Hp} {l p : Addr} {ns : List Int} (h1 : H l = none) (h2 : upd H l (.lst (ns.map V.int)) p = none) : Draw (upd (upd H l (.lst (ns.map V.int))) p (.lst [.ref l, .int 0, .int 0])) p l := by
  have ne : l ≠ p := ne_of_none (H := upd H l (.lst (ns.map V.int))) upd_same h2
  exact ⟨ns, 0, 0, upd_same, lk_ne ne upd_same, ne, by decide, by decide⟩
def sp_law (K : PySem.W.Frag) : Sp := fun vs H Q _ => ∃ (a : Addr) (ns : List Int), vs = [.ref a] ∧ SqL K H a (ns.map V.int) ∧ ns.length ≤ 63 ∧ ∀ H', Q (.bl true) H'
abbrev N_law_row : List Str := ["_law_script", "_law_k", "_law_cell", "_law_a", "_law_b", "_law_c"]
theorem w_law_row {K : PySem.W.Frag} : Wd (T_law_row K) N_law_row 2 (sp_law_row K) := fun vs H Q E h => by
  obtain ⟨L, ns, k, rfl, h1, h2, q⟩ := h
  exact ⟨rfl, r_law_row h1 h2 q⟩
abbrev N_law_next : List Str := ["_law_state", "_law_many", "_law_drawn"]
theorem w_law_next {K : PySem.W.Frag} : Wd (T_law_next K) N_law_next 2 (sp_law_next K) := fun vs H Q E h => by
  obtain ⟨st, L, m, rfl, d, h0, h1, q⟩ := h
  exact ⟨rfl, r_law_next d h0 h1 q⟩
abbrev N_law_is_integer : List Str := ["_law_actual"]
theorem w_law_is_integer {K : PySem.W.Frag} : Wd (T_law_is_integer K) N_law_is_integer 1 (sp_law_is_integer K) := fun vs H Q E h => by
  obtain ⟨i, rfl, q⟩ := h
  exact ⟨rfl, r_law_is_integer q⟩

local macro_rules | `(tactic| walk_at "dr") => `(tactic| with_reducible first | assumption | ((show Draw (upd _ _ _) _ _); first | exact Draw.new (by assumption) (by walk_at "dr") | exact Draw.put (by walk_at "ne") (by walk_at "ne") (by walk_at "dr")) | exact Draw.same (by assumption) (by walk_at "dr"))
local macro_rules | `(tactic| walk_at "nx") => `(tactic| (refine law_next_c (by walk_at "dr") (by first | decide | omega) (by first | decide | omega) ?_))

/-! enumerate over a list or a tuple -/
section
open PySem.AutoSeq1 (wpAny_loadPart')
abbrev itT (l : Addr) : Obj := { cls := .type "tuple_iterator", data := .fields #[.ref l, .int 0 0] }
abbrev enT (h : Heap) : Obj := { cls := .type "enumerate", data := .fields #[.none, .bool false, .ref h.objs.size, rawInt 0, .none, .none] }
theorem new_enumT (l : Addr) (us : Array Value) (n : Nat) (dd : Option Addr) (ss : Array (Option Value)) :
    Meets (Builtin.«enumerate.__new__» ⟨[.type "enumerate", .ref l], []⟩) (fun _ R s => s.heap.get? l = some { cls := .type "tuple", dict := dd, data := .seq us n, slots := ss } ∧
      R (.ok (.ret (.ref (s.heap.push (itT l)).objs.size))) { s with heap := (s.heap.push (itT l)).push (enT s.heap) }) :=
  .of_wp fun prog w A R s h => by
    obtain ⟨hp, gg, dr, tk, os⟩ := s
    obtain ⟨hl, q⟩ := h
    have se := sub_enumerate
    have isT : Heap.IsTuple (Shared.heap ⟨hp, gg, dr, tk, os⟩) l us := ⟨_, hl, rfl, n, rfl⟩
    wp_walk using wpAny_loadPart' hl
    refine wpAny_stack_any fun st => wpAny_pure ?_
    split
    · rename_i cc _ _ _ _ _
      cases (cc == Value.type "enumerate") <;> (wp_walk using wpAny_loadPart' hl, wpAny_pyIter_tuple isT; exact ⟨_, rfl, q⟩)
    · wp_walk using wpAny_loadPart' hl, wpAny_pyIter_tuple isT
      exact ⟨_, rfl, q⟩
theorem call_enumT {prog : Program} {w : World} {A : Around} {E : Value → Shared → Prop} {s : Shared} {l : Addr} {us : Array Value} {Q : Value → Shared → Prop} (hT : s.heap.IsTuple l us)
    (h : ∀ h', IsEnum h' (s.heap.objs.size + 1) s.heap.objs.size 0 .none → h'.IsTupleIter s.heap.objs.size l 0 → (∀ b o, s.heap.get? b = some o → h'.get? b = some o) → Q (.ref (s.heap.objs.size + 1)) { s with heap := h' }) :
    wpAny (model prog w) A (call (.type "enumerate") [.ref l]) Q E s := by
  obtain ⟨⟨cc, dd, dt, ss⟩, hl, h1, n, h2⟩ := hT
  simp only at h1 h2
  subst h1 h2
  have zz : (s.heap.push (itT l)).objs.size = s.heap.objs.size + 1 := Heap.size_push ..
  have en : IsEnum ((s.heap.push (itT l)).push (enT s.heap)) (s.heap.objs.size + 1) s.heap.objs.size 0 .none := by
    have g := Heap.get?_push_size (s.heap.push (itT l)) (o := enT s.heap) rfl
    rw [zz] at g; exact g
  refine callType_new F.called_enumerate (by decide) (F.typeCall_enumerate_1 _) (F.newCall_enumerate_1 _) (fun obj => F.args_object_init_2 obj _) F.entry_enumerate_new (new_enumT l us n dd ss) ⟨hl, ?_⟩
  show _ ∧ _
  rw [zz]
  exact ⟨⟨_, en, rfl⟩, h _ en ⟨_, Heap.get?_push_of_some _ (Heap.get?_push_size _ rfl), rfl, rfl⟩ fun b o x => Heap.get?_push_of_some _ (Heap.get?_push_of_some _ x)⟩
end
/-- the tuple at a as it stands at each turn, place and item in a new pair -/
def IteT (K : PySem.W.Frag) (a : Addr) : It :=
  ⟨fun i H => ∃ (xs : List V) (x : V), SqT K H a xs ∧ xs[i]? = some x, fun i H v H' => ∃ T x, v = .ref T ∧ H T = none ∧ H' = upd H T (.tup [.int (i : Nat), x]) ∧ ∀ xs, SqT K H a xs → xs[i]? = some x, fun i H => ∃ xs : List V, SqT K H a xs ∧ xs.length ≤ i⟩
theorem turn_enumT {P : Program} {w : World} {K : PySem.W.Frag} {elts : List Expr} {kk : Nat} {tpos : Pos} (a e it : Addr) :
    Turn P w K (.Tuple elts kk tpos) (IteT K a) [e, it] e (fun i h => (∃ old, IsEnum h e it ((i : Nat) : Int) old) ∧ h.IsTupleIter it a i ∧ e ≠ it) where
  mem := by simp
  obj := fun i h st b hb => by
    obtain ⟨⟨old, en⟩, ⟨o, ho, _, dt⟩, _⟩ := st
    rcases (show b = e ∨ b = it by simpa using hb) with z | z
    · rw [z]; exact ⟨_, en, fun v q => nomatch q⟩
    · rw [z]; exact ⟨o, ho, fun v q => by rw [dt] at q; cases q⟩
  keep := fun i h h' st k => let ⟨⟨old, en⟩, ⟨o, ho, hi⟩, ne⟩ := st; ⟨⟨old, k e (by simp) _ en⟩, ⟨o, k it (by simp) _ ho, hi⟩, ne⟩
  item := by
    intro X hP hw hK hc i pins s σ H E I hf st hg
    subst hP hw hK
    obtain ⟨⟨old, en⟩, hit, ne⟩ := st
    obtain ⟨xs, x, hq, hx⟩ := hg
    obtain ⟨us, rv, p, _⟩ := I.tuple hq
    obtain ⟨u, hu, ru⟩ := rv.get hx
    have p2 : s.heap.IsTuple a us.toArray := p
    have lt1 : e < s.heap.objs.size := Heap.lt_size en
    have lt2 : it < s.heap.objs.size := by obtain ⟨_, q, _⟩ := hit; exact Heap.lt_size q
    have ne2 : a ≠ it := fun z => by
      obtain ⟨o1, g1, c1, _⟩ := hit
      obtain ⟨o2, g2, c2, _⟩ := id p2
      rw [z, g1] at g2; cases g2; rw [c1] at c2; exact absurd c2 (by decide)
    have ne3 : e ≠ a := fun z => by
      obtain ⟨o2, g2, c2, _⟩ := id p2
      rw [← z, show s.heap.get? e = _ from en] at g2; cases g2; exact absurd (show Value.type "enumerate" = Value.type "tuple" from c2) (by decide)
    have hlt : i < us.toArray.size := by
      obtain ⟨l, _⟩ := List.getElem?_eq_some_iff.mp hu
      simpa using l
    refine wpAny_pyNext_enum_itemD (Draws.tuple (A := X.A.in1) (I.ok.hd hc) it a ne2 us.toArray) en ⟨hit, p2⟩ hlt ne (by simp [ne, ne3]) fun y h' tk hy out st2 hT _ hk => ?_
    have ey : y = u := by
      have z : us.toArray[i]? = some y := hy
      rw [show us.toArray[i]? = us[i]? by simp] at z
      rw [hu] at z; exact (Option.some.inj z).symm
    subst ey
    refine ⟨_, rfl, wpAny_letOwnedTupleGo_enum (s := { s with heap := h', toks := tk + 1 }) out fun h'' en2 sb => ?_⟩
    have hT2 : h''.get? s.heap.objs.size = some { cls := .type "tuple", data := .seq #[.int i tk, y] } := (sb.2 _ (Nat.ne_of_gt lt1)).trans hT
    have nw : ObjOk X.prog X.w (upd H s.heap.objs.size (.tup [.int (i : Nat), x])) h'' s.heap.objs.size (.tup [.int (i : Nat), x]) :=
      ⟨by show 2 ≤ sizeLine; decide, [.int i tk, y], .cons ⟨_, rfl⟩ (.cons ru .nil), ⟨_, hT2, rfl, _, rfl⟩⟩
    have J : Inv X pins σ (upd H s.heap.objs.size (.tup [.int (i : Nat), x])) { s with heap := h'', toks := tk + 1 } :=
      I.turnedNew (ch := [e, it]) (fun b ob hb q => (sb.2 b (fun z => hb (by simp [z]))).trans (hk b ob (fun z => hb (by simp [z])) (fun z => hb (by simp [z])) q)) hf (Nat.le_refl _) nw
    have hit2 : h''.IsTupleIter it a (i + 1) := by
      obtain ⟨o, g, r⟩ := st2.1
      exact ⟨o, (sb.2 it (Ne.symm ne)).trans g, r⟩
    refine ⟨.ref s.heap.objs.size, _, J, rfl, ⟨_, x, rfl, I.hok.fresh (Nat.le_refl _), rfl, fun ys hy => by rw [I.tuple_inj hy hq]; exact hx⟩, ⟨⟨y, ?_⟩, hit2, ne⟩, fun b hb => ?_⟩
    · rw [show ((i + 1 : Nat) : Int) = (i : Int) + 1 by omega]; exact en2
    · have lt : b < s.heap.objs.size := by
        rcases (show b = e ∨ b = it by simpa using hb) with z | z
        · rw [z]; exact lt1
        · rw [z]; exact lt2
      rw [upd_ne (Nat.ne_of_lt lt)]
      exact (hf b hb).1
  done := by
    intro X hP hw hK hc i pins s σ H E I hf st hg
    subst hP hw hK
    obtain ⟨⟨old, en⟩, hit, ne⟩ := st
    obtain ⟨xs, hq, hx⟩ := hg
    obtain ⟨us, rv, p, _⟩ := I.tuple hq
    have p2 : s.heap.IsTuple a us.toArray := p
    have len := rv.length
    obtain ⟨f0, f1, f2, f3, f4, f5⟩ := hf it (by simp)
    have hT : s.TypeIs (.ref e) "enumerate" := ⟨_, en, rfl⟩
    unfold pyNext
    refine wpAny_bind (wpAny_attempt (wpAny_callSpecial?_slot (name := Str.ofString "__next__") hT F.slot_enumerate_next (wpAny_call_entry F.slot_enumerate_next hT F.entry_enumerate_next ?_ (F.args_enumerate_next_1 _))))
    show wpAny _ _ (field (.ref e) 2 >>= _) _ _ _
    refine wpAny_bind (wpAny_field en rfl (x := .ref it) rfl ?_)
    refine wpAny_bind (wpAny_nextOf_tuple_end (I.ok.hd hc) hit p2 (by simp; omega) fun h' x eb hx' => ?_)
    obtain ⟨o, ho, co⟩ := hx'
    refine wpAny_bind (wpAny_isInstance (T := "StopIteration") (b := true) ⟨o, ho, co⟩ isSubtype_stop ?_)
    exact wpAny_pure ⟨rfl, I.turned (t' := s.toks) (fun b o hb q => eb b o hb q) f0 f1 f3 f4 f5⟩
  self := fun A i s Q E st h => let ⟨⟨_, en⟩, _⟩ := st; wpAny_pyIter_enum en h
def iEnumA (K : PySem.W.Frag) (ta : TA) : TI := fun σ H R => ta σ H fun vs H1 => ∃ a xs, vs = [.ref a] ∧ ((SqL K H1 a xs ∧ R (Ite K a) H1) ∨ (SqT K H1 a xs ∧ R (IteT K a) H1))
theorem pi_enumA {X : Cx} {e : Expr} {ta : TA} {p pos tpos : Pos} {elts : List Expr} {kk : Nat} (hg : Gl X "enumerate") (hm : X.mg "enumerate" = none) (ha : PA X [e] ta) (hs : starEach [e] X.env = [(false, eval e X.env)] := by rfl) :
    PI X (.Tuple elts kk tpos) (.Call (.Name "enumerate" p) [e] [] pos) (iEnumA X.K ta) := by
  refine ⟨fun pins s σ H R I h => PyProof.Rows.Call_ (ld_blt I hg hm PyProof.Rows.boot_enumerate (PyProof.Rows.callWith_type1 (thn (ha.run pos pins s σ H _ I h) fun us s1 ⟨vs, H1, I1, r1, q1⟩ => ?_) hs rfl))⟩
  obtain ⟨a, xs, ex, q1⟩ := q1
  subst ex
  obtain ⟨u, eu, r⟩ := Vals.one r1
  subst eu
  cases r
  have fr : ∀ b, b ∈ [s1.heap.objs.size + 1, s1.heap.objs.size] → FpOk X pins H1 b := fun b hb => by
    have le : s1.heap.objs.size ≤ b := by
      rcases (show b = s1.heap.objs.size + 1 ∨ b = s1.heap.objs.size by simpa using hb) with z | z <;> omega
    exact I1.fpOk le (I1.hok.fresh le)
  rcases q1 with ⟨hq, q⟩ | ⟨hq, q⟩
  · obtain ⟨us, rv, p, _⟩ := I1.list hq
    refine call_enumerate_list p.isList fun h' en hit _ hk => wpAny_pyIter_enum en ?_
    exact ⟨s1.heap.objs.size + 1, [s1.heap.objs.size + 1, s1.heap.objs.size], _, _, H1, rfl, I1.kept (t' := s1.toks) hk, turn_enum a (s1.heap.objs.size + 1) s1.heap.objs.size, ⟨⟨.none, en⟩, hit, Nat.succ_ne_self _⟩, fr, q⟩
  · obtain ⟨us, rv, p, _⟩ := I1.tuple hq
    refine call_enumT (show s1.heap.IsTuple a us.toArray from p) fun h' en hit hk => wpAny_pyIter_enum en ?_
    exact ⟨s1.heap.objs.size + 1, [s1.heap.objs.size + 1, s1.heap.objs.size], _, _, H1, rfl, I1.kept (t' := s1.toks) hk, turn_enumT a (s1.heap.objs.size + 1) s1.heap.objs.size, ⟨⟨.none, en⟩, hit, Nat.succ_ne_self _⟩, fr, q⟩
/-! the steps -/
def zEnumA (K : PySem.W.Frag) (g : TG) (tb : TS) (D : Ends) (σ : L2.St) (vs : List V) (H1 : Hp) : Prop := ∃ a xs, vs = [.ref a] ∧ ((SqL K H1 a xs ∧ ∃ W : Nat → Nat → L2.St → Hp → Prop, (∃ m, W 0 m σ H1) ∧ ∀ i m σ H, W i m σ H →
  ((Ite K a).stop i H ∧ D.nx σ H) ∨ ((Ite K a).go i H ∧ ∃ N : L2.St → Hp → Prop, (∀ σ' H', N σ' H' → ∃ m', m' < m ∧ W (i + 1) m' σ' H') ∧ ∀ x H', (Ite K a).yld i H x H' → g x σ H' fun σ2 H2 => tb { D with nx := N, ct := N, bk := D.nx } σ2 H2)) ∨
  (SqT K H1 a xs ∧ ∃ W : Nat → Nat → L2.St → Hp → Prop, (∃ m, W 0 m σ H1) ∧ ∀ i m σ H, W i m σ H →
  ((IteT K a).stop i H ∧ D.nx σ H) ∨ ((IteT K a).go i H ∧ ∃ N : L2.St → Hp → Prop, (∀ σ' H', N σ' H' → ∃ m', m' < m ∧ W (i + 1) m' σ' H') ∧ ∀ x H', (IteT K a).yld i H x H' → g x σ H' fun σ2 H2 => tb { D with nx := N, ct := N, bk := D.nx } σ2 H2)))
section
variable {K : PySem.W.Frag} {σ : L2.St} {H : Hp} {D : Ends} {ta : TA} {g : TG} {tb : TS} {a : Addr} {xs : List V}
theorem z_forEA (k : ta σ H fun vs H1 => zEnumA K g tb D σ vs H1) : tFor (iEnumA K ta) g tb D σ H := k
theorem z_enumA {u v : Nat} (h : SqL K H a xs ∨ SqT K H a xs) (Pv : Nat → L2.St → Hp → Prop) (h0 : Pv 0 σ H) (hk : ∀ i σ' H', Pv i σ' H' → Same H H')
    (hs : ∀ i x p σ' H', xs[i]? = some x → Pv i σ' H' → H' p = none → tb { D with nx := Pv (i + 1), ct := Pv (i + 1), bk := D.nx } ((σ'.set u (some (.int (i : Nat)))).set v (some x)) (upd H' p (.tup [.int (i : Nat), x])))
    (hd : ∀ σ' H', Pv xs.length σ' H' → D.nx σ' H') : zEnumA K (gTup K 2 (gCons (gName u) (gCons (gName v) gNil))) tb D σ [.ref a] H := by
  refine ⟨a, xs, rfl, ?_⟩
  rcases h with h | h
  · refine .inl ⟨h, fun i m σ H => m = xs.length - i ∧ i ≤ xs.length ∧ Pv i σ H, ⟨_, rfl, Nat.zero_le _, h0⟩, ?_⟩
    rintro i m σ' H' ⟨rfl, hi, p⟩
    have q1 := Same.seq (hk i σ' H' p) h
    by_cases hlt : i < xs.length
    · refine .inr ⟨⟨xs, xs[i], q1, by simp [hlt]⟩, Pv (i + 1), fun σ2 H2 p' => ⟨_, by omega, rfl, by omega, p'⟩, ?_⟩
      rintro x H2 ⟨T, x1, rfl, hT, rfl, f1⟩
      exact ⟨T, [.int (i : Nat), x1], rfl, .inl (.inl upd_same), rfl, .int (i : Nat), [x1], rfl, x1, [], rfl, rfl, hs i x1 T σ' H' (f1 xs q1) p hT⟩
    · have e : i = xs.length := by omega
      subst e
      exact .inl ⟨⟨xs, q1, by omega⟩, hd σ' H' p⟩
  · refine .inr ⟨h, fun i m σ H => m = xs.length - i ∧ i ≤ xs.length ∧ Pv i σ H, ⟨_, rfl, Nat.zero_le _, h0⟩, ?_⟩
    rintro i m σ' H' ⟨rfl, hi, p⟩
    have q1 := Same.sqT (hk i σ' H' p) h
    by_cases hlt : i < xs.length
    · refine .inr ⟨⟨xs, xs[i], q1, by simp [hlt]⟩, Pv (i + 1), fun σ2 H2 p' => ⟨_, by omega, rfl, by omega, p'⟩, ?_⟩
      rintro x H2 ⟨T, x1, rfl, hT, rfl, f1⟩
      exact ⟨T, [.int (i : Nat), x1], rfl, .inl (.inl upd_same), rfl, .int (i : Nat), [x1], rfl, x1, [], rfl, rfl, hs i x1 T σ' H' (f1 xs q1) p hT⟩
    · have e : i = xs.length := by omega
      subst e
      exact .inl ⟨⟨xs, q1, by omega⟩, hd σ' H' p⟩
end

/-! len(set(xs)) of numbers that may repeat -/
/-- the different ones, in the order in which they come -/
def ddZ (acc : List Int) : List Int → List Int
  | [] => acc
  | x :: xs => ddZ (if acc.any (· == x) then acc else acc ++ [x]) xs
theorem ddZ_snoc (x : Int) : ∀ (xs acc : List Int), ddZ acc (xs ++ [x]) = if (ddZ acc xs).any (· == x) then ddZ acc xs else ddZ acc xs ++ [x]
  | [], acc => rfl
  | y :: ys, acc => ddZ_snoc x ys _
theorem firstMet_ddZ (ns : List Int) : ∀ i, i ≤ ns.length → PyProof.Rows.firstMet (fun i => ns.getD i 0) i = ddZ [] (ns.take i)
  | 0, _ => rfl
  | i + 1, h => by
    have e : ns.take (i + 1) = ns.take i ++ [ns.getD i 0] := by
      rw [List.take_succ, List.getD_eq_getElem?_getD, List.getElem?_eq_getElem (show i < ns.length by omega)]; rfl
    rw [PyProof.Rows.firstMet_succ, firstMet_ddZ ns i (by omega), e, ddZ_snoc]
    rfl
theorem ddZ_le : ∀ (xs acc : List Int), (ddZ acc xs).length ≤ acc.length + xs.length
  | [], acc => Nat.le_refl _
  | x :: xs, acc => by
    have := ddZ_le xs (if acc.any (· == x) then acc else acc ++ [x])
    show (ddZ _ xs).length ≤ _
    split at this <;> rename_i h
    · rw [if_pos h]; simp; omega
    · rw [if_neg h]; simp at this ⊢; omega
theorem ddZ_eq : ∀ (xs acc : List Int), (ddZ acc xs).length = acc.length + xs.length ↔ xs.Nodup ∧ ∀ x ∈ xs, x ∉ acc
  | [], acc => by simp [ddZ]
  | x :: xs, acc => by
    show (ddZ _ xs).length = _ ↔ _
    by_cases h : acc.any (· == x) = true
    · rw [if_pos h]
      have := ddZ_le xs acc
      have hx : x ∈ acc := by
        obtain ⟨y, hy, e⟩ := List.any_eq_true.mp h
        rw [← eq_of_beq e]; exact hy
      constructor
      · intro z; simp at z; omega
      · intro z; exact absurd hx (z.2 x (List.mem_cons_self ..))
    · rw [if_neg h]
      have ih := ddZ_eq xs (acc ++ [x])
      have hx : x ∉ acc := fun hx => h (List.any_eq_true.mpr ⟨x, hx, beq_self_eq_true x⟩)
      rw [show acc.length + (x :: xs).length = (acc ++ [x]).length + xs.length by simp; omega, ih, List.nodup_cons]
      constructor
      · rintro ⟨h1, h2⟩
        refine ⟨⟨fun m => ?_, h1⟩, fun y hy => ?_⟩
        · exact h2 x m (by simp)
        · rcases List.mem_cons.mp hy with rfl | hy
          · exact hx
          · exact fun m => h2 y hy (by simp [m])
      · rintro ⟨⟨h1, h2⟩, h3⟩
        refine ⟨h2, fun y hy m => ?_⟩
        rcases List.mem_append.mp m with m | m
        · exact h3 y (List.mem_cons_of_mem _ hy) m
        · rw [List.mem_singleton.mp m] at hy; exact h1 hy
def setN (ns : List Int) : Nat := (ddZ [] ns).length
theorem setN_le (ns : List Int) : setN ns ≤ ns.length := by have := ddZ_le ns []; simpa [setN] using this
theorem setN_eq (ns : List Int) : setN ns = ns.length ↔ ns.Nodup := by
  have := ddZ_eq ns []
  simp only [List.length_nil, Nat.zero_add, List.not_mem_nil, not_false_eq_true, implies_true, and_true] at this
  exact this
theorem setN_lt (ns : List Int) : setN ns < ns.length ↔ ¬ ns.Nodup := by
  have h1 := setN_le ns
  have h2 := setN_eq ns
  constructor
  · intro h z; rw [← h2] at z; omega
  · intro h
    rcases Nat.lt_or_ge (setN ns) ns.length with q | q
    · exact q
    · exact absurd (h2.mp (by omega)) h
def tLenSet (K : PySem.W.Frag) (ta : TE) : TE := fun σ H Q => ta σ H fun x H1 => ∃ (l : Addr) (ns : List Int), x = .ref l ∧ SqL K H1 l (ns.map V.int) ∧ ns.length ≤ 4000 ∧ Q (.int (setN ns : Nat)) H1
theorem z_lenSetE {X : Cx} {a : Expr} {ta : TE} {p p2 q pos : Pos} (hg : Gl X "len") (m_len : X.mg "len" = none) (hg2 : Gl X "set") (m_set : X.mg "set" = none) (ha : PE X a ta) (hc : X.calm = true := by rfl)
    (na : starEach [a] X.env = (false, eval a X.env) :: starEach [] X.env := by rfl) : PE X (.Call (.Name "len" p) [.Call (.Name "set" p2) [a] [] q] [] pos) (tLenSet X.K ta) := by
  refine ⟨fun pins s σ H Q I h => PyProof.Rows.Call_ (ld_blt I hg m_len boot_len (PyProof.Rows.callWith_builtin1 (PyProof.Rows.args_cons (PyProof.Rows.Call_ (ld_blt I hg2 m_set PyProof.Rows.boot_set (PyProof.Rows.callWith_type1 (PyProof.Rows.args_cons (thn (ha.run pins s σ H _ I h) fun v s1 ⟨x, H1, I1, r1, q1⟩ => PyProof.Rows.args_nil ?_) na) na rfl))) rfl) rfl rfl))⟩
  obtain ⟨l, ns, rfl, hq, hl, q1⟩ := q1
  cases r1
  obtain ⟨us, r, pl, _⟩ := I1.list hq
  have nn : us.toArray.size = ns.length := by rw [List.size_toArray, ← r.length, List.length_map]
  refine PySem.call_set_list (I1.ok.hd hc) pl.isList (by simpa using RZ.intsAre_vals r) (by rw [nn]; unfold scanBound; omega) fun h' tk hS hk => PyProof.Rows.args_nil ?_
  rw [nn, firstMet_ddZ ns ns.length (Nat.le_refl _), List.take_length] at hS
  obtain ⟨o, es, ep, t, ho, hex, hd, _, _, _, hf, hn⟩ := hS
  have lt : (ddZ [] ns).length ≤ 4000 := Nat.le_trans (setN_le ns) hl
  have J : Inv X pins σ H1 { s1 with heap := h', toks := tk } := I1.kept fun b o e => hk b o (Heap.lt_size e) e
  exact call_len_set ho hex hd hf (by rw [hn]; omega) ⟨.int (setN ns : Nat), H1, J.tok _, ⟨_, by rw [hn]; rfl⟩, q1⟩
theorem z_lenSet {K : PySem.W.Frag} {ta : TE} {σ : L2.St} {H : Hp} {Q : VK} (k : ta σ H fun x H1 => ∃ (l : Addr) (ns : List Int), x = .ref l ∧ SqL K H1 l (ns.map V.int) ∧ ns.length ≤ 4000 ∧ Q (.int (setN ns : Nat)) H1) : tLenSet K ta σ H Q := k

/-! own classes: what is known of each, by its name -/
/-- where the classes stand, and which there are -/
structure CEnv where
  cls : Str → Addr
  has : Str → Prop
/-- the package's classes below another one -/
def SUBE : List (Str × Str) := [("InvalidSchema", "SurenearError"), ("InvalidRecord", "SurenearError"), ("InvalidKey", "SurenearError"), ("InvalidFilter", "SurenearError"), ("InvalidQuery", "SurenearError"), ("InvalidRule", "SurenearError"), ("InvalidCode", "SurenearError")]
def SUBE2 : List (Str × Str) := [("InvalidOperation", "SurenearError"), ("InvalidSource", "SurenearError"), ("NoSuchMoment", "SurenearError"), ("NotPinned", "SurenearError"), ("NoSuchQuery", "SurenearError"), ("NotNow", "SurenearError"), ("NotUp", "SurenearError")]
def SUBP : List (Str × Str) := [("Norms", "Fact"), ("Parts", "Fact"), ("Cell", "Fact"), ("Box", "Fact"), ("Differ", "Fact"), ("Counts", "Fact"), ("Names", "Fact"), ("Range", "FieldFact"), ("Values", "FieldFact"), ("Range", "Fact"), ("Values", "Fact"), ("FieldFact", "Fact"),
  ("Every", "Condition"), ("Has", "Condition"), ("Compare", "Condition"), ("OneOf", "Condition"), ("Both", "Condition"), ("Either", "Condition"), ("Negation", "Condition")]
def SUB (x y : Str) : Bool := x == y || SUBP.contains (x, y) || SUBE.contains (x, y) || SUBE2.contains (x, y)
structure ClsOk (K : PySem.W.Frag) (c : CEnv) (x : Str) (gs : List Str) : Prop where
  cl : Cls K (c.cls x)
  na : ∀ f, gs.contains f = true → NoAttr K (c.cls x) f
  ha : PySem.W.findIn K (.ref (c.cls x)) "__class__" = some (some (.builtin "object.__class__"))
  hn : PySem.W.specialIn K (.builtin "object.__class__") "__get__" = some (some (.builtin "getset_descriptor.__get__"))
  htk : PySem.W.takesIn K (.builtin "object.__class__") = some true
  hm : PySem.W.mroIn K (c.cls x) (.type "object") = some true
  sub : ∀ y, c.has y → PySem.W.kitOne K (.ref (c.cls x)) (.ref (c.cls y)) = some (SUB x y)
  sb : ∀ y, c.has y → PySem.W.subIn K (.ref (c.cls x)) (.ref (c.cls y)) = some (SUB x y)
/-- the class named, as isinstance asks of it -/
structure IsF (K : PySem.W.Frag) (c : CEnv) (x : Str) : Prop where
  has : c.has x
  ki : ∀ n, ["int", "bool", "str", "NoneType", "tuple", "list", "dict"].contains n = true → PySem.W.kitOne K (.type n) (.ref (c.cls x)) = some false
  si : ∀ n, ["int", "bool", "str", "NoneType", "tuple", "list", "dict"].contains n = true → PySem.W.subIn K (.type n) (.ref (c.cls x)) = some false
/-- an instance stands at p -/
def InsAt (K : PySem.W.Frag) (c : CEnv) (H : Hp) (p : Addr) (x : Str) (fs : List (Str × V)) : Prop := ClsOk K c x (fs.map (·.1)) ∧ ∃ dx, H p = some (.ins (c.cls x) dx fs)
theorem InsAt.same {K : PySem.W.Frag} {c : CEnv} {H H' : Hp} {p : Addr} {x : Str} {fs : List (Str × V)} (s : Same H H') (i : InsAt K c H p x fs) : InsAt K c H' p x fs := ⟨i.1, i.2.choose, s _ _ i.2.choose_spec⟩
theorem NotSt.ins {C dx : Addr} {fs : List (Str × V)} : NotSt (.ins C dx fs) := fun _ _ _ z => by cases z
theorem NotSt.tup {xs : List V} : NotSt (.tup xs) := fun _ _ _ z => by cases z
theorem InsAt.exd {K : PySem.W.Frag} {c : CEnv} {H H' : Hp} {p : Addr} {x : Str} {fs : List (Str × V)} (s : ExD H H') (i : InsAt K c H p x fs) : InsAt K c H' p x fs := ⟨i.1, i.2.choose, s _ _ NotSt.ins i.2.choose_spec⟩
theorem InsAt.new {K : PySem.W.Frag} {c : CEnv} {H : Hp} {p r : Addr} {x : Str} {fs : List (Str × V)} {o : HO} (h : H r = none) (i : InsAt K c H p x fs) : InsAt K c (upd H r o) p x fs := ⟨i.1, i.2.choose, lk_new h i.2.choose_spec⟩
theorem InsAt.putL {K : PySem.W.Frag} {c : CEnv} {H : Hp} {p r : Addr} {x : Str} {fs : List (Str × V)} {xs : List V} {o : HO} (h : H r = some (.lst xs)) (i : InsAt K c H p x fs) : InsAt K c (upd H r o) p x fs := ⟨i.1, i.2.choose, lk_df i.2.choose_spec h (fun z => by cases z)⟩
/-! ### making, methods, properties, == -/
structure Mkr (P : Program) (w : World) (K : PySem.W.Frag) (mg : Str → Option Value) (base : Heap) (k : Nat) (C : Addr) (ps : List Str) (sp : Sp) : Prop where
  ex : ∃ (f : Addr) (fd : FuncData), Mk K C f ∧ Binds K fd ps [] ∧ FnOk P w K mg base CX0 k f fd ps sp
structure Mth (P : Program) (w : World) (K : PySem.W.Frag) (mg : Str → Option Value) (base : Heap) (k : Nat) (C : Addr) (m : Str) (ps : List Str) (sp : Sp) : Prop where
  ex : ∃ (f : Addr) (fd : FuncData), Meth K C m f ∧ Binds K fd ps [] ∧ FnOk P w K mg base CX0 k f fd ps sp
structure Prp (P : Program) (w : World) (K : PySem.W.Frag) (mg : Str → Option Value) (base : Heap) (k : Nat) (C : Addr) (m : Str) (ps : List Str) (sp : Sp) : Prop where
  ex : ∃ (p f : Addr) (fd : FuncData), PropOf K C m p f ∧ Binds K fd ps [] ∧ FnOk P w K mg base CX0 k f fd ps sp
structure ClsF (K : PySem.W.Frag) (mg : Str → Option Value) (c : CEnv) (x : Str) (gs : List Str) : Prop where
  ok : ClsOk K c x gs
  is : c.has x → IsF K c x
  mg : mg x = some (.ref (c.cls x))
def tMk (K : PySem.W.Frag) (c : CEnv) (x : Str) (gs : List Str) (sp : Sp) (t : TA) : TE := fun σ H Q => t σ H fun vs H1 => ClsOk K c x gs → ∀ p dx, H1 p = none → H1 dx = none → dx ≠ p →
  sp (.ref p :: vs) (upd (upd H1 dx (.own p)) p (.ins (c.cls x) dx [])) (fun v H2 => v = .non ∧ Q (.ref p) H2) E0
def tMt (c : CEnv) (x m : Str) (sp : Sp) (ta : TE) (t : TA) : TE := fun σ H Q => ta σ H fun v H1 => ∃ a dx fs, v = .ref a ∧ H1 a = some (.ins (c.cls x) dx fs) ∧ fs.lookup m = none ∧ t σ H1 fun vs H2 => sp (v :: vs) H2 Q E0
def tPr (c : CEnv) (x : Str) (sp : Sp) (ta : TE) : TE := fun σ H Q => ta σ H fun v H1 => ∃ a dx fs, v = .ref a ∧ H1 a = some (.ins (c.cls x) dx fs) ∧ sp [.ref a] H1 Q E0
def tCls (K : PySem.W.Frag) (c : CEnv) (x : Str) : TE := fun _ H Q => IsF K c x → Q (.ref (c.cls x)) H
/-- == of two instances of one class, by its own __eq__ -/
def uEqO (c : CEnv) (x : Str) (sp : Sp) : R2 := fun u v H Q => ∃ a b dx dy fs gs, u = .ref a ∧ v = .ref b ∧ H a = some (.ins (c.cls x) dx fs) ∧ H b = some (.ins (c.cls x) dy gs) ∧ sp [.ref a, .ref b] H (fun z H' => ∃ k, z = .bl k ∧ Q (.bl k) H') E0
section
variable {X : Cx} {c : CEnv} {k : Nat} {x m : Str} {ps gs : List Str} {sp : Sp} {p pos apos : Pos} {e o : Expr} {es : List Expr} {t : TA} {ta : TE}
theorem z_make (CF : ClsF X.K X.mg c x gs) (M : Mkr X.prog X.w X.K X.mg X.base k (c.cls x) ps sp) (hr : Room (k + 1) X.A) (hg : Gl X x) (ha : PA X (e :: es) t) (hdb : (x == ("__debug__" : Str)) = false := by decide)
    (he : starEach (e :: es) X.env = (false, eval e X.env) :: starEach es X.env := by rfl) (hpl : (backTo pos (starEach es X.env)).any (·.1) = false := by rfl) : PE X (.Call (.Name x p) (e :: es) [] pos) (tMk X.K c x gs sp t) := by
  obtain ⟨f, fd, hM, hb, F⟩ := M.ex
  have h := pe_make (E := E0) (dvs := []) (p := p) (pos := pos) hM F hr hg CF.mg hb .nil pass0 ha hdb he hpl
  refine ⟨fun pins s σ H Q I q => h.run pins s σ H Q I ?_⟩
  simp only [tMake, List.append_nil]
  have e : (t σ H fun vs H1 => ClsOk X.K c x gs → ∀ p dx, H1 p = none → H1 dx = none → dx ≠ p → sp (.ref p :: vs) (upd (upd H1 dx (.own p)) p (.ins (c.cls x) dx [])) (fun v H2 => v = .non ∧ Q (.ref p) H2) E0)
      = (t σ H fun vs H1 => ∀ p dx, H1 p = none → H1 dx = none → dx ≠ p → sp (.ref p :: vs) (upd (upd H1 dx (.own p)) p (.ins (c.cls x) dx [])) (fun v H2 => v = .non ∧ Q (.ref p) H2) E0) := by
    congr 1; funext vs H1; exact propext ⟨fun h => h CF.ok, fun h _ => h⟩
  rw [← e]; exact q
theorem z_meth {pl : Sem Bool} (he : PE X o ta) (CF : ClsF X.K X.mg c x gs) (M : Mth X.prog X.w X.K X.mg X.base k (c.cls x) m ps sp) (hr : Room k X.A) (ha : PA X (e :: es) t)
    (hst : starEach (e :: es) X.env = (false, eval e X.env) :: starEach es X.env := by rfl) (hpl : (backTo pos (starEach es X.env)).any (·.1) = false := by rfl)
    (ht : eval (.Call (.Attribute o m apos) (e :: es) [] pos) X.env = (do
      let ov ← eval o X.env
      standAt apos.atName
      let (f, first) ← holding [ov] (getMethod ov m pl)
      callWith pos f first (backTo pos (starEach (e :: es) X.env)) (backToKw pos (keywordEach [] X.env))) := by rfl) : PE X (.Call (.Attribute o m apos) (e :: es) [] pos) (tMt c x m sp ta t) := by
  obtain ⟨f, fd, hM, hb, F⟩ := M.ex
  have h := pe_meth (E := E0) (dvs := []) he CF.ok.cl hM F hr hb .nil pass0 ha hst hpl ht
  have e : tMeth (c.cls x) m sp [] E0 ta t = tMt c x m sp ta t := by
    funext σ H Q; simp only [tMeth, tMt, List.append_nil]
  rw [← e]; exact h
theorem z_meth0 {pl : Sem Bool} (he : PE X o ta) (CF : ClsF X.K X.mg c x gs) (M : Mth X.prog X.w X.K X.mg X.base k (c.cls x) m ps sp) (hr : Room k X.A)
    (ht : eval (.Call (.Attribute o m apos) [] [] pos) X.env = (do
      let ov ← eval o X.env
      standAt apos.atName
      let (f, first) ← holding [ov] (getMethod ov m pl)
      callWith pos f first (backTo pos (starEach [] X.env)) (backToKw pos (keywordEach [] X.env))) := by rfl) : PE X (.Call (.Attribute o m apos) [] [] pos) (tMt c x m sp ta tNil) := by
  obtain ⟨f, fd, hM, hb, F⟩ := M.ex
  have h := pe_meth0 (E := E0) (dvs := []) he CF.ok.cl hM F hr hb .nil pass0 ht
  refine ⟨fun pins s σ H Q I q => h.run pins s σ H Q I ?_⟩
  first
    | exact q
    | (simp only [List.append_nil] at *; exact q)
theorem z_prop (he : PE X e ta) (CF : ClsF X.K X.mg c x gs) (M : Prp X.prog X.w X.K X.mg X.base k (c.cls x) m ps sp) (hr : Room (k + 1) X.A) (hab : attributeBase e m X.env (eval e X.env) = eval e X.env) : PE X (.Attribute e m pos) (tPr c x sp ta) := by
  obtain ⟨q, f, fd, hM, hb, F⟩ := M.ex
  exact pe_prop (E := E0) (dvs := []) he CF.ok.cl hM F hr hb .nil pass0 hab
theorem z_cls (CF : ClsF X.K X.mg c x gs) (I' : IsF X.K c x) (hg : Gl X x) (hdb : (x == ("__debug__" : Str)) = false := by decide) : PE X (.Name x pos) (tCls X.K c x) :=
  ⟨fun _ _ _ H _ I h => ld_glob I hg CF.mg ⟨.ref (c.cls x), H, I, rfl, h I'⟩ hdb⟩
theorem op_eqO (CF : ClsF X.K X.mg c x gs) (M : Mth X.prog X.w X.K X.mg X.base k (c.cls x) "__eq__" ps sp) (hr : Room k X.A) : OpR X (compareOp .Eq) (uEqO c x sp) := by
  intro pins s σ H u v y z Q I rx ry hq
  obtain ⟨f, fd, hM, hb, F⟩ := M.ex
  obtain ⟨a, b, dx, dy, fs, hs, rfl, rfl, ha, hb', q⟩ := hq
  cases rx
  cases ry
  obtain ⟨mA, J, _⟩ := ins_get I.hok ha
  obtain ⟨mB, J', _⟩ := ins_get I.hok hb'
  obtain ⟨od, J, _⟩ := J.look
  obtain ⟨od', J', _⟩ := J'.look
  obtain ⟨m, hF⟩ := I.fr
  show wpAny (model X.prog X.w) X.A (richCompare .Eq (.ref a) (.ref b)) (EP X pins σ Q) X.xe s
  refine PySem.W.cmp_K (op := .Eq) (tb := .ref (c.cls x)) hr.units0 hF I.ok.mod.kin J J'.type (by simp [PySem.W.notFirst]) hM.at_ hM.fn ?_
  have r2 : Vals [V.ref a, V.ref b] [Value.ref a, Value.ref b] := .cons rfl (.cons rfl .nil)
  refine thn (run_fn (Q := fun z H' => ∃ k, z = .bl k ∧ Q (.bl k) H') (E := E0) (dvs := []) F hr hb .nil pass0 I r2 (by simpa using q)) fun w s' hw => ?_
  obtain ⟨zv, H', I', rz, hq⟩ := hw
  obtain ⟨kk, ez, q'⟩ := hq
  subst ez
  have rz2 : w = Value.bool kk := rz
  subst rz2
  exact ⟨.bl kk, H', I', rfl, q'⟩
end
/-- == of an instance and a tuple, by the instance's own __eq__ -/
def uEqT (K : PySem.W.Frag) (c : CEnv) (x : Str) (sp : Sp) : R2 := fun u v H Q => ∃ a b dx fs xs, u = .ref a ∧ v = .ref b ∧ H a = some (.ins (c.cls x) dx fs) ∧ SqT K H b xs ∧ sp [.ref a, .ref b] H (fun z H' => ∃ k, z = .bl k ∧ Q (.bl k) H') E0
section
variable {X : Cx} {c : CEnv} {k : Nat} {x : Str} {ps gs : List Str} {sp : Sp}
theorem op_eqT (CF : ClsF X.K X.mg c x gs) (IF : IsF X.K c x) (M : Mth X.prog X.w X.K X.mg X.base k (c.cls x) "__eq__" ps sp) (hr : Room k X.A) : OpR X (compareOp .Eq) (uEqT X.K c x sp) := by
  intro pins s σ H u v y z Q I rx ry hq
  obtain ⟨f, fd, hM, hb, F⟩ := M.ex
  obtain ⟨a, b, dx, fs, xs, rfl, rfl, ha, hb', q⟩ := hq
  cases rx
  cases ry
  obtain ⟨mA, J, _⟩ := ins_get I.hok ha
  obtain ⟨od, J, _⟩ := J.look
  obtain ⟨its, r, hT, _⟩ := I.tuple hb'
  have hT : s.heap.IsTuple b its.toArray := hT
  obtain ⟨oT, hoT, hcT, _⟩ := id hT
  have LT : PySem.W.Looks (model X.prog X.w) s.heap (typeOf (.ref b)) (.type "tuple") := fun A Q E s k q => wpAny_typeOf_ref (k _ _ hoT) (by rw [hcT]; exact q)
  obtain ⟨m, hF⟩ := I.fr
  show wpAny (model X.prog X.w) X.A (richCompare .Eq (.ref a) (.ref b)) (EP X pins σ Q) X.xe s
  have hn : PySem.W.notFirst X.K (c.cls x) (.type "tuple") = true := by
    unfold PySem.W.notFirst
    rw [IF.si "tuple" (by decide)]
    simp
  refine PySem.W.cmp_K (op := .Eq) (tb := .type "tuple") hr.units0 hF I.ok.mod.kin J LT hn hM.at_ hM.fn ?_
  have r2 : Vals [V.ref a, V.ref b] [Value.ref a, Value.ref b] := .cons rfl (.cons rfl .nil)
  refine thn (run_fn (Q := fun z H' => ∃ k, z = .bl k ∧ Q (.bl k) H') (E := E0) (dvs := []) F hr hb .nil pass0 I r2 (by simpa using q)) fun w s' hw => ?_
  obtain ⟨zv, H', I', rz, hq⟩ := hw
  obtain ⟨kk, ez, q'⟩ := hq
  subst ez
  have rz2 : w = Value.bool kk := rz
  subst rz2
  exact ⟨.bl kk, H', I', rfl, q'⟩
end
section
variable {K : PySem.W.Frag} {c : CEnv} {x f : Str} {gs : List Str} {H : Hp} {Q : VK} {p dx : Addr} {fs : List (Str × V)} {v : V} {σ : L2.St} {t : TA} {ta : TE} {sp : Sp} {m : Str}
theorem z_fld (ok : ClsOk K c x gs) (h : H p = some (.ins (c.cls x) dx fs)) (l : fs.lookup f = some v) (n : gs.contains f = true) (k : Q v H) : zFld K f (.ref p) H Q := ⟨p, _, dx, fs, v, rfl, h, ok.cl, ok.na f n, l, k⟩
theorem z_set {N : Hp → Prop} {y : V} (ok : ClsOk K c x gs) (h : H p = some (.ins (c.cls x) dx fs)) (n : gs.contains f = true) (l : fs.length < 1000) (k : N (upd H p (.ins (c.cls x) dx (putF f y fs)))) : zSet K f y (.ref p) H N := ⟨p, _, dx, fs, rfl, h, ok.cl, ok.na f n, l, k⟩
theorem z_mk (k : t σ H fun vs H1 => ClsOk K c x gs → ∀ p dx, H1 p = none → H1 dx = none → dx ≠ p → sp (.ref p :: vs) (upd (upd H1 dx (.own p)) p (.ins (c.cls x) dx [])) (fun v H2 => v = .non ∧ Q (.ref p) H2) E0) : tMk K c x gs sp t σ H Q := k
theorem z_mt (k : ta σ H fun v H1 => ∃ a dx fs, v = .ref a ∧ H1 a = some (.ins (c.cls x) dx fs) ∧ fs.lookup m = none ∧ t σ H1 fun vs H2 => sp (v :: vs) H2 Q E0) : tMt c x m sp ta t σ H Q := k
theorem z_pr (k : ta σ H fun v H1 => ∃ a dx fs, v = .ref a ∧ H1 a = some (.ins (c.cls x) dx fs) ∧ sp [.ref a] H1 Q E0) : tPr c x sp ta σ H Q := k
theorem z_clsv (k : IsF K c x → Q (.ref (c.cls x)) H) : tCls K c x σ H Q := k
theorem z_isIns {y : Str} (i : IsF K c y) (ok : ClsOk K c x gs) (h : H p = some (.ins (c.cls x) dx fs)) (k : Q (.bl (SUB x y)) H) : uIsi K [.ref p, .ref (c.cls y)] H Q :=
  z_isi (ClsV.own _) (TyX.base (TyOf.ins h ok.cl ok.ha ok.hn ok.htk ok.hm)) (ok.sub y i.has) k
end
theorem na_of {P : Str → Prop} {gs : List Str} (h : ∀ f ∈ gs, P f) : ∀ f, gs.contains f = true → P f := fun f hf => h f (by simpa using hf)
theorem ki_of {K : PySem.W.Frag} {C : Addr} (h : ∀ n ∈ ["int", "bool", "str", "NoneType", "tuple", "list", "dict"], PySem.W.kitOne K (.type n) (.ref C) = some false) : ∀ n, ["int", "bool", "str", "NoneType", "tuple", "list", "dict"].contains n = true → PySem.W.kitOne K (.type n) (.ref C) = some false := fun n hn => h n (by simpa using hn)
theorem si_of {K : PySem.W.Frag} {C : Addr} (h : ∀ n ∈ ["int", "bool", "str", "NoneType", "tuple", "list", "dict"], PySem.W.subIn K (.type n) (.ref C) = some false) : ∀ n, ["int", "bool", "str", "NoneType", "tuple", "list", "dict"].contains n = true → PySem.W.subIn K (.type n) (.ref C) = some false := fun n hn => h n (by simpa using hn)
theorem kit_own {K : PySem.W.Frag} {t : Value} {C : Addr} {b : Bool} (ic : PySem.W.isClsIn K C = true) (ty : PySem.W.typeIn K (.ref C) = some (.type "type")) (ss : PySem.W.subIn K (.ref C) (.ref C) = some true) (sb : PySem.W.subIn K t (.ref C) = some b) : PySem.W.kitOne K t (.ref C) = some b := by
  unfold PySem.W.kitOne
  split
  · rename_i h
    have e : t = .ref C := eq_of_beq h
    subst e
    rw [ss] at sb; exact sb
  · unfold PySem.W.kitCls
    have h1 : (PySem.W.clsIn K C).isSome = true := ic
    dsimp only
    rw [h1, ty]
    exact sb

local macro_rules | `(tactic| walk_at "z") => `(tactic| with_reducible first
  | ((show zFld _ _ _ _ _); refine z_fld (by assumption) (by walk_at "lk") (by with_unfolding_all rfl) (by with_unfolding_all rfl) ?_)
  | ((show zSet _ _ _ _ _ _); refine z_set (by assumption) (by walk_at "lk") (by with_unfolding_all rfl) (by with_unfolding_all exact of_decide_eq_true rfl) ?_)
  | (refine z_mk ?_) | (refine z_mt ?_) | (refine z_pr ?_) | (refine z_clsv ?_; intro _))

/-! ### lists place by place -/
inductive All2 {α β : Type} (R : α → β → Prop) : List α → List β → Prop
  | nil : All2 R [] []
  | cons {a : α} {b : β} {as : List α} {bs : List β} (h : R a b) (t : All2 R as bs) : All2 R (a :: as) (b :: bs)
section
variable {α β : Type} {R S : α → β → Prop} {as : List α} {bs : List β} {a : α} {b : β}
theorem All2.imp (f : ∀ a b, R a b → S a b) (h : All2 R as bs) : All2 S as bs := by
  induction h with
  | nil => exact .nil
  | cons h t ih => exact .cons (f _ _ h) ih
theorem All2.app (h : All2 R as bs) (e : R a b) : All2 R (as ++ [a]) (bs ++ [b]) := by
  induction h with
  | nil => exact .cons e .nil
  | cons h t ih => exact .cons h ih
theorem All2.len (h : All2 R as bs) : as.length = bs.length := by
  induction h with
  | nil => rfl
  | cons h t ih => simp [ih]
theorem All2.get (h : All2 R as bs) : ∀ {i : Nat} (hi : i < as.length) (hj : i < bs.length), R as[i] bs[i] := by
  induction h with
  | nil => intro i hi; cases hi
  | cons h t ih => intro i hi hj; cases i with
    | zero => exact h
    | succ i => exact ih (by simpa using hi) (by simpa using hj)
theorem All2.of {n : Nat} (ha : as.length = n) (hb : bs.length = n) (f : ∀ i (hi : i < as.length) (hj : i < bs.length), R as[i] bs[i]) : All2 R as bs := by
  induction as generalizing bs n with
  | nil => cases bs with
    | nil => exact .nil
    | cons b t => simp at ha hb; omega
  | cons a t ih => cases bs with
    | nil => simp at ha hb; omega
    | cons b u => exact .cons (f 0 (by simp) (by simp)) (ih (n := n - 1) (by simp at ha; omega) (by simp at hb; omega) fun i hi hj => f (i + 1) (by simpa using hi) (by simpa using hj))
end
theorem at_ref {ps : List Addr} {i : Int} (h0 : 0 ≤ i) (h1 : i < ps.length) : atI (ps.map V.ref) i = some (.ref (ps.getD i.toNat 0)) := by
  unfold atI
  rw [ix_at h0 (by simpa using h1)]
  have : i.toNat < ps.length := by omega
  simp [List.getD, this]
theorem map_ref {ps : List Addr} {i : Nat} {x : V} (h : (ps.map V.ref)[i]? = some x) : i < ps.length ∧ x = .ref (ps.getD i 0) := by
  rw [List.getElem?_map] at h
  cases e : ps[i]? with
  | none => rw [e] at h; cases h
  | some y =>
    rw [e] at h
    obtain ⟨l, _⟩ := List.getElem?_eq_some_iff.mp e
    exact ⟨l, by rw [List.getD_eq_getElem?_getD, e]; exact (Option.some.inj h).symm⟩
theorem ref_app {ps : List Addr} {q : Addr} : ps.map V.ref ++ [V.ref q] = (ps ++ [q]).map V.ref := by simp
section
variable {α β : Type} {R : α → β → Prop} {as : List α} {bs : List β} {a : α} {b : β}
theorem All2.atD (h : All2 R as bs) (d : α) (e : β) {i : Nat} (hi : i < bs.length) : R (as.getD i d) (bs.getD i e) := by
  have hj : i < as.length := by rw [All2.len h]; exact hi
  have q := All2.get h hj hi
  rw [List.getD_eq_getElem?_getD, List.getD_eq_getElem?_getD, List.getElem?_eq_getElem hi, List.getElem?_eq_getElem hj]
  exact q
theorem All2.take (h : All2 R as bs) : ∀ k : Nat, All2 R (as.take k) (bs.take k) := by
  induction h with
  | nil => intro k; rw [List.take_nil, List.take_nil]; exact .nil
  | cons h t ih => intro k; cases k with
    | zero => exact .nil
    | succ k => exact .cons h (ih k)
theorem All2.drop (h : All2 R as bs) : ∀ k : Nat, All2 R (as.drop k) (bs.drop k) := by
  induction h with
  | nil => intro k; rw [List.drop_nil, List.drop_nil]; exact .nil
  | cons h t ih => intro k; cases k with
    | zero => exact .cons h t
    | succ k => exact ih k
theorem All2.mem (h : All2 R as bs) (ha : a ∈ as) : ∃ b ∈ bs, R a b := by
  induction h with
  | nil => cases ha
  | cons h t ih =>
    rcases List.mem_cons.mp ha with rfl | ha
    · exact ⟨_, List.mem_cons_self .., h⟩
    · obtain ⟨b, hb, r⟩ := ih ha; exact ⟨b, List.mem_cons_of_mem _ hb, r⟩
end
theorem Same.put {H H' : Hp} {p : Addr} {o : HO} (h : H p = none) (x : Same H H') : Same H (upd H' p o) := fun a u e => lk_ne (ne_of_none e h) (x a u e)
theorem fresh_same {H H' : Hp} {p : Addr} (s : Same H H') (h : H' p = none) : H p = none := by
  cases e : H p with
  | none => rfl
  | some o => rw [s _ _ e] at h; cases h
theorem take_dS {α : Type} {l : List α} {i : Nat} (d : α) (h : i < l.length) : l.take (i + 1) = l.take i ++ [l.getD i d] := by
  rw [List.take_succ, List.getD_eq_getElem?_getD, List.getElem?_eq_getElem h]; rfl
theorem getD_mem' {α : Type} {l : List α} {i : Nat} (d : α) (h : i < l.length) : l.getD i d ∈ l := by
  rw [List.getD_eq_getElem?_getD, List.getElem?_eq_getElem h]; exact List.getElem_mem h

/-! what may be raised; keywords -/
/-- no way out -/
abbrev W0 : WX := fun _ _ _ _ => False
theorem passF {X : Cx} : ∀ σ, PassesAt (L2.CX X.prog X.w) X σ (WE W0 σ) := fun σ => passAt takes0 σ
theorem passW {X : Cx} {W : WX} (tk : Takes X W) : ∀ σ, PassesAt (L2.CX X.prog X.w) X σ (WE W σ) := fun σ => passAt tk σ
theorem pass00 {X : Cx} : ∀ σ, PassesAt CX0 X σ (WE W0 σ) := fun σ pins H s e s' I c => pass0 pins σ H s e s' I c
/-- a body that may raise keeps its promise -/
def WdX (T : WX → TS) (N : List Str) (n : Nat) (sp : Sp) : Prop := ∀ (vs : List V) (H : Hp) (Q : VK) (E : XK), sp vs H Q E → vs.length = n ∧ T (fun cls d _ H => E cls d H) { nx := fun _ H' => Q .non H', rt := Q } (start N vs) H
structure DfnX (P : Program) (w : World) (K : PySem.W.Frag) (mg : Str → Option Value) (base : Heap) (k : Nat) (x : Str) (ps : List Str) (sp : Sp) : Prop where
  ex : ∃ (f : Addr) (fd : FuncData), mg x = some (.ref f) ∧ PySem.W.keepIn K (.ref f) = true ∧ Binds K fd ps [] ∧ FnOk P w K mg base (L2.CX P w) k f fd ps sp
structure MkrX (P : Program) (w : World) (K : PySem.W.Frag) (mg : Str → Option Value) (base : Heap) (k : Nat) (C : Addr) (ps : List Str) (sp : Sp) : Prop where
  ex : ∃ (f : Addr) (fd : FuncData), Mk K C f ∧ Binds K fd ps [] ∧ FnOk P w K mg base (L2.CX P w) k f fd ps sp
structure MthX (P : Program) (w : World) (K : PySem.W.Frag) (mg : Str → Option Value) (base : Heap) (k : Nat) (C : Addr) (m : Str) (ps : List Str) (sp : Sp) : Prop where
  ex : ∃ (f : Addr) (fd : FuncData), Meth K C m f ∧ Binds K fd ps [] ∧ FnOk P w K mg base (L2.CX P w) k f fd ps sp
/-- a constant: a value, or the empty tuple -/
inductive Cst where
  | v (x : V)
  | e
def Cst.Is (K : PySem.W.Frag) : Cst → V → Prop
  | .v x, u => u = x
  | .e, u => ∃ T, u = .ref T ∧ ∀ H, SqT K H T []
/-- keyword-only values by places: true: given, false: lacking -/
def gSel (sel : List (Bool × Nat)) {α : Type} (vs mz zs : List α) : List α := vs ++ sel.filterMap fun z => if z.1 then zs[z.2]? else mz[z.2]?
theorem gSel_rel (sel : List (Bool × Nat)) {vs mz zs : List V} {us mv ws : List Value} (h1 : Vals vs us) (h2 : Vals mz mv) (h3 : Vals zs ws) : Vals (gSel sel vs mz zs) (gSel sel us mv ws) := by
  unfold gSel
  refine h1.append ?_
  have one : ∀ {xs : List V} {as : List Value} (i : Nat), Vals xs as → (xs[i]? = none ∧ as[i]? = none) ∨ ∃ x a, xs[i]? = some x ∧ as[i]? = some a ∧ RelV x a := by
    intro xs as i r
    cases e : xs[i]? with
    | none => exact .inl ⟨rfl, Vals.none_of r e⟩
    | some x => obtain ⟨a, ea, ra⟩ := Vals.get r e; exact .inr ⟨x, a, rfl, ea, ra⟩
  induction sel with
  | nil => exact .nil
  | cons z t ih =>
    obtain ⟨b, i⟩ := z
    cases b with
    | true =>
      rcases one i h3 with ⟨e1, e2⟩ | ⟨x, a, e1, e2, r⟩
      · simp only [List.filterMap_cons, if_pos, e1, e2]; exact ih
      · simp only [List.filterMap_cons, if_pos, e1, e2]; exact .cons r ih
    | false =>
      rcases one i h2 with ⟨e1, e2⟩ | ⟨x, a, e1, e2, r⟩
      · simp only [List.filterMap_cons, Bool.false_eq_true, if_false, e1, e2]; exact ih
      · simp only [List.filterMap_cons, Bool.false_eq_true, if_false, e1, e2]; exact .cons r ih
/-- making by n values and the keywords ks; ms: what is lacking -/
structure MkrK (CX : CXT) (P : Program) (w : World) (K : PySem.W.Frag) (mg : Str → Option Value) (base : Heap) (k : Nat) (C : Addr) (ps : List Str) (sp : Sp) (n : Nat) (ks : List Str) (ms : List Cst) (sel : List (Bool × Nat)) : Prop where
  ex : ∃ (f : Addr) (fd : FuncData) (g : List Value → List Value → List Value) (ds : List V), Mk K C f ∧ All2 (Cst.Is K) ms ds ∧ KBn K fd ps (n + 1) ks g (fun vs zs => gSel sel vs ds zs) ∧ FnOk P w K mg base CX k f fd ps sp
def tMkX (K : PySem.W.Frag) (c : CEnv) (x : Str) (gs : List Str) (sp : Sp) (W : WX) (t : TA) : TE := fun σ H Q => t σ H fun vs H1 => ClsOk K c x gs → ∀ p dx, H1 p = none → H1 dx = none → dx ≠ p →
  sp (.ref p :: vs) (upd (upd H1 dx (.own p)) p (.ins (c.cls x) dx [])) (fun v H2 => v = .non ∧ Q (.ref p) H2) (WE W σ)
def tMkK (K : PySem.W.Frag) (c : CEnv) (x : Str) (gs : List Str) (n m : Nat) (ms : List Cst) (sel : List (Bool × Nat)) (sp : Sp) (W : WX) (t tk : TA) : TE := fun σ H Q => t σ H fun vs H1 => tk σ H1 fun zs H2 => vs.length = n ∧ zs.length = m ∧ (ClsOk K c x gs → ∀ ds, All2 (Cst.Is K) ms ds → ∀ p dx, H2 p = none → H2 dx = none → dx ≠ p →
  sp (gSel sel (.ref p :: vs) ds zs) (upd (upd H2 dx (.own p)) p (.ins (c.cls x) dx [])) (fun v H3 => v = .non ∧ Q (.ref p) H3) (WE W σ))
def tMtX (c : CEnv) (x m : Str) (sp : Sp) (W : WX) (ta : TE) (t : TA) : TE := fun σ H Q => ta σ H fun v H1 => ∃ a dx fs, v = .ref a ∧ H1 a = some (.ins (c.cls x) dx fs) ∧ fs.lookup m = none ∧ t σ H1 fun vs H2 => sp (v :: vs) H2 Q (WE W σ)
/-! own exceptions -/
structure ExcF (K : PySem.W.Frag) (mg : Str → Option Value) (c : CEnv) (x : Str) : Prop where
  q : PySem.W.excIn K (c.cls x) [.type "ValueError", .type "Exception", .type "BaseException", .type "object"] "ValueError.__new__" = true
  mg : mg x = some (.ref (c.cls x))
  kp : PySem.W.keepIn K (.ref (c.cls x)) = true
  sb : PySem.W.subIn K (.ref (c.cls x)) (.type "BaseException") = some true
  ty : PySem.W.typeIn K (.ref (c.cls x)) = some (.type "type")
def sRaise (c : CEnv) (x : Str) (W : WX) : TS := fun _ σ H => W (.ref (c.cls x)) none σ H
def sTry (K : PySem.W.Frag) (c : CEnv) (x : Str) (ys : List Str) (tb : WX → TS) (ts : TS) (Wo : WX) : TS := fun D σ H =>
  (∀ y ∈ ys, PySem.W.exmOne K (.ref (c.cls y)) (.ref (c.cls x)) = some (SUB y x)) → tb (wOnly K (.ref (c.cls x)) (fun _ _ _ => ts) Wo D) D σ H
section
variable {X : Cx} {c : CEnv} {k n : Nat} {x m : Str} {ps gs : List Str} {sp : Sp} {W : WX} {p pos apos : Pos} {e o : Expr} {es : List Expr} {t tk : TA} {ta : TE}
theorem z_callX (D : DfnX X.prog X.w X.K X.mg X.base k x ps sp) (hx : ∀ σ, PassesAt (L2.CX X.prog X.w) X σ (WE W σ)) (hr : Room k X.A) (hg : Gl X x) (ha : PA X (e :: es) t) (hdb : (x == ("__debug__" : Str)) = false := by decide)
    (he : starEach (e :: es) X.env = (false, eval e X.env) :: starEach es X.env := by rfl) (hpl : (backTo pos (starEach es X.env)).any (·.1) = false := by rfl) : PE X (.Call (.Name x p) (e :: es) [] pos) (tCallS sp (WE W) t) := by
  obtain ⟨f, fd, hm, hk, hb, F⟩ := D.ex
  exact pe_callS F hr hg hm hk hb hx ha hdb he hpl
/-- a made instance: what __init__ raises is wished for at the slots as they stand -/
theorem run_mkS {CX : CXT} {C f : Addr} {fd : FuncData} {ks : List Str} {g : List Value → List Value → List Value} {gV : List V → List V → List V} {E : XK} {pins : List (Addr × Obj)} {σ : L2.St} {H : Hp} {s : Shared} {Q : VK} {us ws : List Value} {vs zs : List V}
    (M : Mk X.K C f) (F : FnOk X.prog X.w X.K X.mg X.base CX k f fd ps sp) (hr : Room (k + 1) X.A) (bind : ∀ s : Shared, X.K.In s.heap → BindsTo s fd ⟨Value.ref (s.heap.objs.size - 1) :: us, ks.zip ws⟩ (ps.zip (g (Value.ref (s.heap.objs.size - 1) :: us) ws)))
    (rel : ∀ q, Vals (gV (V.ref q :: vs) zs) (g (Value.ref q :: us) ws)) (hx : PassesAt CX X σ E) (I : Inv X pins σ H s)
    (h : ∀ q dx, H q = none → H dx = none → dx ≠ q → sp (gV (.ref q :: vs) zs) (upd (upd H dx (.own q)) q (.ins C dx [])) (fun v H2 => v = .non ∧ Q (.ref q) H2) E)
    (bind2 : ∀ (s2 : Shared) (q : Addr), X.K.In s2.heap → BindsTo s2 fd ⟨Value.ref q :: us, ks.zip ws⟩ (ps.zip (g (Value.ref q :: us) ws))) :
    wpAny (model X.prog X.w) X.A (call (.ref C) us (ks.zip ws)) (EP X pins σ Q) X.xe s := by
  have want := h (s.heap.objs.size + 1) s.heap.objs.size (I.hok.fresh (Nat.le_succ _)) (I.hok.fresh (Nat.le_refl _)) (Nat.ne_of_lt (Nat.lt_succ_self _))
  have J := Inv.made (C := C) I
  have go := F.run _ X.stack _ _ ⟨Value.ref (s.heap.objs.size + 1) :: us, ks.zip ws⟩ (g (Value.ref (s.heap.objs.size + 1) :: us) ws) _ _ E (hr.make C us (ks.zip ws)) (J.env0.make C us (ks.zip ws)) (bind2 _ _ J.kIn) (rel _) want
  refine wpAny_call (make_map (f := f) I.kIn M.makes M.init (beq_iff_eq.mp M.fn) (codeAny_mono go fun r s' hr' => ?_))
  match r, hr' with
  | .error e, hr' => exact hx pins _ _ e s' J hr'
  | .ok (.ret u), hr' =>
    obtain ⟨v, H', I3, rv, ev, q3⟩ := J.after hr'
    subst ev
    exact ⟨rv, ⟨V.ref (s.heap.objs.size + 1), H', I3, rfl, q3⟩⟩
  | .ok .next, hr' => exact hr'.elim
  | .ok .brk, hr' => exact hr'.elim
  | .ok .cont, hr' => exact hr'.elim
theorem z_makeX (CF : ClsF X.K X.mg c x gs) (M : MkrX X.prog X.w X.K X.mg X.base k (c.cls x) ps sp) (hx : ∀ σ, PassesAt (L2.CX X.prog X.w) X σ (WE W σ)) (hr : Room (k + 1) X.A) (hg : Gl X x) (ha : PA X (e :: es) t) (hdb : (x == ("__debug__" : Str)) = false := by decide)
    (he : starEach (e :: es) X.env = (false, eval e X.env) :: starEach es X.env := by rfl) (hpl : (backTo pos (starEach es X.env)).any (·.1) = false := by rfl) : PE X (.Call (.Name x p) (e :: es) [] pos) (tMkX X.K c x gs sp W t) := by
  obtain ⟨f, fd, hM, hb, F⟩ := M.ex
  refine ⟨fun pins s σ H Q I h => ?_⟩
  refine wpAny_Call_Name_kw (ld_glob I hg CF.mg ?_ hdb)
  refine PySem.W.callWith_K (h₀ := X.base) I.ok.mod.kin hM.kp (thn (ha.run pos pins s σ H _ I h) fun us s1 ⟨vs, H1, I1, r, q⟩ => ⟨I1.kIn, ?_⟩) he hpl
  have hl : ∀ a : Addr, (Value.ref a :: us).length = ps.length := fun a => by
    have w := F.len _ _ _ _ (q CF.ok (s1.heap.objs.size + 1) s1.heap.objs.size (I1.hok.fresh (Nat.le_succ _)) (I1.hok.fresh (Nat.le_refl _)) (Nat.ne_of_lt (Nat.lt_succ_self _)))
    have l := r.length
    simp only [List.length_cons] at w ⊢
    omega
  have b : ∀ (s2 : Shared) (a : Addr), X.K.In s2.heap → BindsTo s2 fd ⟨Value.ref a :: us, ([] : List Str).zip ([] : List Value)⟩ (ps.zip (Value.ref a :: us)) := fun s2 a ki => by
    have z := hb s2 (Value.ref a :: us) ki (by rw [List.append_nil]; exact hl a)
    rw [List.append_nil] at z
    exact z
  exact run_mkS (ks := []) (ws := []) (zs := []) (g := fun us _ => us) (gV := fun vs _ => vs) hM F hr (fun s2 ki => b s2 _ ki) (fun _ => .cons rfl r) (hx σ) I1 (q CF.ok) b
theorem z_makeK {CX : CXT} {ks : List Str} {kws : List Keyword} {ms : List Cst} {sel : List (Bool × Nat)} {nk : Nat} (CF : ClsF X.K X.mg c x gs) (M : MkrK CX X.prog X.w X.K X.mg X.base k (c.cls x) ps sp n ks ms sel) (hx : ∀ σ, PassesAt CX X σ (WE W σ)) (hr : Room (k + 1) X.A) (hg : Gl X x) (ha : PA X (e :: es) t) (hkw : PK X kws tk)
    (hnk : ks.length = nk := by rfl) (hall : (backToKw pos (keywordEach kws X.env)).all (·.1.isSome) = true := by rfl) (hks : (backToKw pos (keywordEach kws X.env)).filterMap (·.1) = ks := by rfl) (hdb : (x == ("__debug__" : Str)) = false := by decide)
    (he : starEach (e :: es) X.env = (false, eval e X.env) :: starEach es X.env := by rfl) (hpl : ((backTo pos (starEach (e :: es) X.env)).any (·.1) || (backToKw pos (keywordEach kws X.env)).any (·.1.isNone)) = false := by rfl) :
    PE X (.Call (.Name x p) (e :: es) kws pos) (tMkK X.K c x gs n nk ms sel sp W t tk) := by
  subst hnk
  obtain ⟨f, fd, g, ds, hM, hds, hb, F⟩ := M.ex
  refine ⟨fun pins s σ H Q I h => ?_⟩
  refine wpAny_Call_Name_kw (ld_glob I hg CF.mg ?_ hdb)
  refine PySem.W.callWith_KW (h₀ := X.base) I.ok.mod.kin hM.kp hall (thn (ha.run pos pins s σ H _ I h) fun us s1 ⟨vs, H1, I1, r, q⟩ => ?_) hpl he
  refine thn (hkw.run pos pins s1 σ H1 _ I1 q) fun ws s2 ⟨zs, H2, I2, rz, l1, l2, q2⟩ => ⟨I2.kIn, ?_⟩
  rw [hks]
  have n1 : ∀ a : Addr, (Value.ref a :: us).length = n + 1 := fun a => by rw [List.length_cons, ← r.length, l1]
  exact run_mkS (g := g) (gV := fun vs zs => gSel sel vs ds zs) hM F hr (fun s3 ki => hb.to s3 _ ws ki (n1 _) (rz.length.symm.trans l2)) (fun a => hb.rel (.cons rfl r) rz) (hx σ) I2 (q2 CF.ok ds hds) (fun s3 a ki => hb.to s3 _ ws ki (n1 _) (rz.length.symm.trans l2))
theorem z_raise {j : Nat} {p2 pos' : Pos} (hc : X.calm = true) (E : ExcF X.K X.mg c x) (tk : Takes X W) (hg : Gl X x) (hdb : (x == ("__debug__" : Str)) = false := by decide) : PS X (.Raise (some (.Call (.Name x p) [.Constant (.str m) j p2] [] pos)) none pos') (sRaise c x W) :=
  ps_raise hc tk (pmk_own F.excBase_ValueError E.q E.mg E.kp (raises_own E.sb E.ty) hg hdb)
theorem z_try {x : Str} {ys : List Str} {body suite : List Stmt} {b₀ : Stmt} {np pos pos' : Pos} {tb : WX → TS} {ts : TS} {Wo : WX} (hs : X.stack = X.env :: X.outer) (hf : X.env.frame = some X.env.locals) (hg : Gl X x) (hm : X.mg x = some (.ref (c.cls x))) (he : ∀ y ∈ ys, PySem.W.exmOne X.K (.ref (c.cls y)) (.ref (c.cls x)) = some (SUB y x)) (tk : Takes X Wo)
    (hb : ∀ (W : WX) (pn : List (Addr × Obj)) (xe : Value → Shared → Prop), Takes (X.tr pn xe) W → PassesOwn (model X.prog X.w) X.A X.env xe → PSs (X.tr pn xe) body (tb W))
    (hsu : ∀ (a : Addr) (oe : Obj) (cls : Value) (d : Option Addr) (pn : List (Addr × Obj)), Zc cls d oe → (∃ vs, oe.data = .fields vs) → PSs (X.suite a ((a, oe) :: pn)) (b₀ :: suite) ts) (hdb : (x == ("__debug__" : Str)) = false := by decide) :
    PS X (.Try body [.ExceptHandler (some (.Name x np)) none (b₀ :: suite) pos'] [] [] pos) (sTry X.K c x ys tb ts Wo) :=
  ⟨fun pins s σ H D I h => (ps_try_only (ts := fun _ _ _ => ts) hs hf ⟨hg, hdb, .inl hm⟩ tk hb hsu).run pins s σ H D I (h he)⟩
end
section
variable {K : PySem.W.Frag} {c : CEnv} {x y m : Str} {gs : List Str} {H : Hp} {Q : VK} {σ : L2.St} {t tk : TA} {ta : TE} {sp : Sp} {W : WX} {D : Ends}
theorem z_calS (k : t σ H fun vs H1 => sp vs H1 Q (WE W σ)) : tCallS sp (WE W) t σ H Q := k
theorem z_mkX (k : t σ H fun vs H1 => ClsOk K c x gs → ∀ p dx, H1 p = none → H1 dx = none → dx ≠ p → sp (.ref p :: vs) (upd (upd H1 dx (.own p)) p (.ins (c.cls x) dx [])) (fun v H2 => v = .non ∧ Q (.ref p) H2) (WE W σ)) : tMkX K c x gs sp W t σ H Q := k
theorem z_mkK {n nk : Nat} {ms : List Cst} {sel : List (Bool × Nat)} (k : t σ H fun vs H1 => tk σ H1 fun zs H2 => vs.length = n ∧ zs.length = nk ∧ (ClsOk K c x gs → ∀ ds, All2 (Cst.Is K) ms ds → ∀ p dx, H2 p = none → H2 dx = none → dx ≠ p →
  sp (gSel sel (.ref p :: vs) ds zs) (upd (upd H2 dx (.own p)) p (.ins (c.cls x) dx [])) (fun v H3 => v = .non ∧ Q (.ref p) H3) (WE W σ))) : tMkK K c x gs n nk ms sel sp W t tk σ H Q := k
theorem z_mtX (k : ta σ H fun v H1 => ∃ a dx fs, v = .ref a ∧ H1 a = some (.ins (c.cls x) dx fs) ∧ fs.lookup m = none ∧ t σ H1 fun vs H2 => sp (v :: vs) H2 Q (WE W σ)) : tMtX c x m sp W ta t σ H Q := k
theorem z_rse (k : W (.ref (c.cls x)) none σ H) : sRaise c x W D σ H := k
theorem z_tr {ys : List Str} {tb : WX → TS} {ts : TS} {Wo : WX} (k : (∀ y ∈ ys, PySem.W.exmOne K (.ref (c.cls y)) (.ref (c.cls x)) = some (SUB y x)) → tb (wOnly K (.ref (c.cls x)) (fun _ _ _ => ts) Wo D) D σ H) : sTry K c x ys tb ts Wo D σ H := k
/-- an exception of the clause's class -/
theorem z_caught {ts : TS} {Wo : WX} {d : Option Addr} (h : PySem.W.exmOne K (.ref (c.cls y)) (.ref (c.cls x)) = some (SUB y x)) (e : SUB y x = true) (k : ts D σ H) : wOnly K (.ref (c.cls x)) (fun _ _ _ => ts) Wo D (.ref (c.cls y)) d σ H :=
  ⟨true, by rw [h, e], fun _ _ _ => k, fun z => nomatch z⟩
theorem cst0 {ds : List V} (h : All2 (Cst.Is K) [] ds) : ds = [] := by cases h; rfl
theorem cstE {ms : List Cst} {ds : List V} (h : All2 (Cst.Is K) (.e :: ms) ds) : ∃ T ds', ds = .ref T :: ds' ∧ (∀ H, SqT K H T []) ∧ All2 (Cst.Is K) ms ds' := by
  cases h with
  | cons h t => obtain ⟨T, rfl, e⟩ := h; exact ⟨T, _, rfl, e, t⟩
theorem cstV {v : V} {ms : List Cst} {ds : List V} (h : All2 (Cst.Is K) (.v v :: ms) ds) : ∃ ds', ds = v :: ds' ∧ All2 (Cst.Is K) ms ds' := by
  cases h with
  | cons h t => cases h; exact ⟨_, rfl, t⟩
end
section
variable {K : PySem.W.Frag} {H : Hp} {σ : L2.St}
theorem z_gTup3 {t' : Addr} {a b d : V} {u v w : Nat} {P : L2.St → Hp → Prop} (h : SqT K H t' [a, b, d]) (k : P (((σ.set u (some a)).set v (some b)).set w (some d)) H) : gTup K 3 (gCons (gName u) (gCons (gName v) (gCons (gName w) gNil))) (.ref t') σ H P :=
  ⟨t', [a, b, d], rfl, h, rfl, a, [b, d], rfl, b, [d], rfl, d, [], rfl, rfl, k⟩
end
theorem dec_rn {a : Addr} : decide (V.ref a = V.non) = false := decide_eq_false (fun z => by cases z)
theorem dec_in {a : Int} : decide (V.int a = V.non) = false := decide_eq_false (fun z => by cases z)
theorem dec_sn {a : Str} : decide (V.str a = V.non) = false := decide_eq_false (fun z => by cases z)
theorem dec_bn {a : Bool} : decide (V.bl a = V.non) = false := decide_eq_false (fun z => by cases z)
/-! constants: tuples of the module -/
def tCstT (K : PySem.W.Frag) (xs : List V) : TE := fun σ H Q => ∀ T, (∀ H, SqT K H T xs) → Q (.ref T) H
theorem z_gtup {X : Cx} {x : Str} {xs : List V} {pos : Pos} (hm : ∃ T, X.mg x = some (.ref T) ∧ ∀ H, SqT X.K H T xs) (hg : Gl X x) (hd : (x == ("__debug__" : Str)) = false := by decide) : PE X (.Name x pos) (tCstT X.K xs) := by
  obtain ⟨T, hm, hs⟩ := hm
  exact ⟨fun pins s σ H Q I h => ld_glob I hg hm ⟨.ref T, H, I, rfl, h T hs⟩ hd⟩
theorem z_cstT {K : PySem.W.Frag} {xs : List V} {σ : L2.St} {H : Hp} {Q : VK} (k : ∀ T, (∀ H, SqT K H T xs) → Q (.ref T) H) : tCstT K xs σ H Q := k
theorem sqT_lit {K : PySem.W.Frag} {T : Addr} {dd : Option Addr} {its : List Value} {n : Nat} {sl : Array (Option Value)} {xs : List V} (l : K.lookup T = some ⟨.type "tuple", dd, .seq its.toArray n, sl⟩) (h : Vals xs its) (hs : xs.length ≤ 1000) : ∀ H, SqT K H T xs := fun H =>
  .inr ⟨_, _, _, l, rfl, rfl, by have := h.length; simp; exact Nat.le_trans (by omega : its.length ≤ 1000) (by decide), by simpa using h⟩
/-- an error of the class y, as «except x» asks -/
theorem exm_of {K : PySem.W.Frag} {C D : Addr} {b : Bool} (h1 : PySem.W.subIn K (.ref C) (.type "BaseException") = some true) (h2 : PySem.W.isClsIn K C = true) (h3 : PySem.W.typeIn K (.ref C) = some (.type "type")) (h4 : PySem.W.subIn K (.ref D) (.ref C) = some b) :
    PySem.W.exmOne K (.ref D) (.ref C) = some b := by
  have e1 : (PySem.W.subIn K (.ref C) (.type "BaseException") == some true) = true := by rw [h1] <;> rfl
  have e2 : ((PySem.W.clsIn K C).isSome && PySem.W.typeIn K (.ref C) == some (.type "type")) = true := by
    have q : (PySem.W.clsIn K C).isSome = true := h2
    rw [q, h3] <;> rfl
  show (if (PySem.W.subIn K (.ref C) (.type "BaseException") == some true) = true then (if ((PySem.W.clsIn K C).isSome && PySem.W.typeIn K (.ref C) == some (.type "type")) = true then PySem.W.subIn K (.ref D) (.ref C) else none) else none) = some b
  rw [if_pos e1, if_pos e2]
  exact h4

local macro_rules | `(tactic| walk_at "z") => `(tactic| with_reducible first
  | refine z_calS ?_ | refine z_mkX ?_ | refine z_mkK ?_ | refine z_mtX ?_ | refine z_rse ?_ | (refine z_tr ?_; intro _) | (refine z_cstT ?_; intro _ _) | refine z_forEA ?_ | refine z_lenSet ?_)
local macro_rules | `(tactic| walk_at "zy") => `(tactic| repeat (first | walk_at "z" | walk_at "zd" | rw [decide_eq_true rfl] | rw [dec_rn] | rw [dec_in] | rw [dec_sn] | rw [dec_bn]))

/-! ### objects while they are made -/
/-- all but p stays -/
def SameB (p : Addr) (H H' : Hp) : Prop := ∀ a o, a ≠ p → H a = some o → H' a = some o
theorem SameB.refl (p : Addr) (H : Hp) : SameB p H H := fun _ _ _ e => e
theorem SameB.same {p : Addr} {H H1 H2 : Hp} (s : SameB p H H1) (t : Same H1 H2) : SameB p H H2 := fun a o n e => t _ _ (s a o n e)
theorem SameB.put {p : Addr} {H H1 : Hp} {o : HO} (s : SameB p H H1) : SameB p H (upd H1 p o) := fun a u n e => lk_ne n (s a u n e)
theorem SameB.new {p q : Addr} {H H1 : Hp} {o : HO} (h : H1 q = none) (s : SameB p H H1) : SameB p H (upd H1 q o) := fun a u n e => lk_new h (s a u n e)
theorem SameB.putN {p q : Addr} {H H1 : Hp} {o : HO} (h : H q = none) (s : SameB p H H1) : SameB p H (upd H1 q o) := fun a u n e => lk_ne (ne_of_none e h) (s a u n e)
theorem SameB.out {p dx : Addr} {H H' : Hp} {o1 o2 : HO} (h1 : H p = none) (h2 : H dx = none) (s : SameB p (upd (upd H dx o1) p o2) H') : Same H H' := fun a o e => s a o (ne_of_none e h1) (lk_ne (ne_of_none e h1) (lk_ne (ne_of_none e h2) e))
theorem SqL.putI {K : PySem.W.Frag} {H : Hp} {p a C dx : Addr} {fs : List (Str × V)} {xs : List V} {o : HO} (hp : H p = some (.ins C dx fs)) (h : SqL K H a xs) : SqL K (upd H p o) a xs := by
  rcases h with (e | ⟨u, e⟩) | e
  · exact .inl (.inl (lk_df e hp (fun z => by cases z)))
  · exact .inl (.inr ⟨u, lk_df e hp (fun z => by cases z)⟩)
  · exact .inr e
theorem SqT.putI {K : PySem.W.Frag} {H : Hp} {p a C dx : Addr} {fs : List (Str × V)} {xs : List V} {o : HO} (hp : H p = some (.ins C dx fs)) (h : SqT K H a xs) : SqT K (upd H p o) a xs := by
  rcases h with (e | ⟨u, e⟩) | e
  · exact .inl (.inl (lk_df e hp (fun z => by cases z)))
  · exact .inl (.inr ⟨u, lk_df e hp (fun z => by cases z)⟩)
  · exact .inr e
/-- a list or a tuple -/
def SqA (K : PySem.W.Frag) (H : Hp) (a : Addr) (xs : List V) : Prop := SqL K H a xs ∨ SqT K H a xs
theorem SqA.same {K : PySem.W.Frag} {H H' : Hp} {a : Addr} {xs : List V} (s : Same H H') (h : SqA K H a xs) : SqA K H' a xs := h.imp (Same.seq s) (Same.sqT s)
theorem SqA.putI {K : PySem.W.Frag} {H : Hp} {p a C dx : Addr} {fs : List (Str × V)} {xs : List V} {o : HO} (hp : H p = some (.ins C dx fs)) (h : SqA K H a xs) : SqA K (upd H p o) a xs := h.imp (SqL.putI hp) (SqT.putI hp)
theorem z_tupleA {K : PySem.W.Frag} {H : Hp} {Q : VK} {a : Addr} {xs : List V} (h : SqA K H a xs) (k : ∀ t H', Same H H' → SqT K H' t xs → Q (.ref t) H') : uTuple K [.ref a] H Q := by
  rcases h with h | h
  · exact z_tupleL h fun t ht => k t _ (Same.new ht (Same.refl H)) (SqT.of upd_same)
  · exact z_tupleT h (k a H (Same.refl H) h)
/-! ### pairs, given and kept -/
abbrev PairAt (K : PySem.W.Frag) (H : Hp) (q : Addr) (x : V × V) : Prop := SqT K H q [x.1, x.2]
def PairsA (K : PySem.W.Frag) (H : Hp) (a : Addr) (l : List (V × V)) : Prop := ∃ ps : List Addr, SqA K H a (ps.map V.ref) ∧ All2 (PairAt K H) ps l
def PairsT (K : PySem.W.Frag) (H : Hp) (a : Addr) (l : List (V × V)) : Prop := ∃ ps : List Addr, SqT K H a (ps.map V.ref) ∧ All2 (PairAt K H) ps l
theorem PairsA.same {K : PySem.W.Frag} {H H' : Hp} {a : Addr} {l : List (V × V)} (s : Same H H') (h : PairsA K H a l) : PairsA K H' a l := ⟨h.choose, h.choose_spec.1.same s, All2.imp (fun _ _ e => Same.sqT s e) h.choose_spec.2⟩
theorem PairsT.same {K : PySem.W.Frag} {H H' : Hp} {a : Addr} {l : List (V × V)} (s : Same H H') (h : PairsT K H a l) : PairsT K H' a l := ⟨h.choose, Same.sqT s h.choose_spec.1, All2.imp (fun _ _ e => Same.sqT s e) h.choose_spec.2⟩
theorem PairsA.putI {K : PySem.W.Frag} {H : Hp} {p a C dx : Addr} {fs : List (Str × V)} {l : List (V × V)} {o : HO} (hp : H p = some (.ins C dx fs)) (h : PairsA K H a l) : PairsA K (upd H p o) a l := ⟨h.choose, h.choose_spec.1.putI hp, All2.imp (fun _ _ e => SqT.putI hp e) h.choose_spec.2⟩
theorem PairsT.putI {K : PySem.W.Frag} {H : Hp} {p a C dx : Addr} {fs : List (Str × V)} {l : List (V × V)} {o : HO} (hp : H p = some (.ins C dx fs)) (h : PairsT K H a l) : PairsT K (upd H p o) a l := ⟨h.choose, SqT.putI hp h.choose_spec.1, All2.imp (fun _ _ e => SqT.putI hp e) h.choose_spec.2⟩
theorem PairsA.e {K : PySem.W.Frag} {H : Hp} {a : Addr} (h : SqT K H a []) : PairsA K H a [] := ⟨[], .inr h, .nil⟩
/-- [(x, y) for x, y in pairs] -/
theorem z_lcPairs {K : PySem.W.Frag} {a : Addr} {l : List (V × V)} {σ : L2.St} {u v : Nat} {H : Hp} {Q : VK} (e : PairsA K H a l) (hn : l.length ≤ 1000) (hu : u < σ.length) (hv : v < σ.length) (huv : u ≠ v)
    (q : ∀ (r : Addr) H', H r = none → Same H H' → (∃ ps : List Addr, H' r = some (.lst (ps.map V.ref)) ∧ All2 (PairAt K H') ps l) → Q (.ref r) H') :
    zLcS K (gTup K 2 (gCons (gName u) (gCons (gName v) gNil))) tYes (tTup (tCons (tVar u) (tCons (tVar v) tNil))) [u, v] σ (.ref a) H Q := by
  obtain ⟨ps, e, r⟩ := e
  have hl := All2.len r
  have wp : ∀ x y : Option V, wipe (((wipe σ [u, v]).set u x).set v y) [u, v] = wipe σ [u, v] := fun x y => by
    show ((((((σ.set v none).set u none).set u x).set v y).set v none).set u none) = (σ.set v none).set u none
    rw [List.set_set, List.set_set, List.set_comm _ _ huv, List.set_set, List.set_set]
  have vu : ∀ x y : V, (((wipe σ [u, v]).set u (some x)).set v (some y))[u]? = some (some x) := fun x y => by
    show ((((σ.set v none).set u none).set u (some x)).set v (some y))[u]? = _
    rw [List.getElem?_set_ne huv.symm, List.getElem?_set_self (by simpa using hu)]
  have vv : ∀ x y : V, (((wipe σ [u, v]).set u (some x)).set v (some y))[v]? = some (some y) := fun x y => by
    show ((((σ.set v none).set u none).set u (some x)).set v (some y))[v]? = _
    rw [List.getElem?_set_self (by simpa using hv)]
  have turn : ∀ (C : Addr) (i : Nat) (x : V) (H' : Hp), H C = none → (ps.map V.ref)[i]? = some x → (Same H H' ∧ ∃ ms : List Addr, H' C = some (.lst (ms.map V.ref)) ∧ All2 (PairAt K H') ms (l.take i)) →
      gTup K 2 (gCons (gName u) (gCons (gName v) gNil)) x (wipe σ [u, v]) H' fun σ2 H2 => wipe σ2 [u, v] = wipe σ [u, v] ∧ tYes σ2 H2 fun b H3 =>
        if b = true then tTup (tCons (tVar u) (tCons (tVar v) tNil)) σ2 H3 fun y H4 => ∃ acc, H4 C = some (.lst acc) ∧ acc.length < sizeLine ∧ (Same H (upd H4 C (.lst (acc ++ [y]))) ∧ ∃ ms : List Addr, upd H4 C (.lst (acc ++ [y])) C = some (.lst (ms.map V.ref)) ∧ All2 (PairAt K (upd H4 C (.lst (acc ++ [y])))) ms (l.take (i + 1))) else (Same H H3 ∧ ∃ ms : List Addr, H3 C = some (.lst (ms.map V.ref)) ∧ All2 (PairAt K H3) ms (l.take (i + 1))) := by
    rintro C i x H' hC hx ⟨s, ms, eC, rm⟩
    obtain ⟨hi, rfl⟩ := map_ref hx
    have hi2 : i < l.length := by omega
    have lm := All2.len rm
    refine z_gTup2 (Same.sqT s (All2.atD r 0 (V.non, V.non) hi2)) ?_
    refine ⟨wp _ _, ?_⟩
    refine z_yes ?_
    rw [if_pos rfl]
    refine z_tup (z_cons (z_var (vu _ _) (z_cons (z_var (vv _ _) (z_nil ?_)))))
    refine z_newT (by simp) fun t ht => ?_
    refine z_accum (lk_new ht eC) (by rw [List.length_map, lm, List.length_take]; omega) ?_
    refine ⟨Same.put hC (Same.new ht s), ms ++ [t], by rw [upd_same, ref_app], ?_⟩
    rw [take_dS (V.non, V.non) hi2]
    have eC2 := lk_new (o := .tup [(l.getD i (V.non, V.non)).1, (l.getD i (V.non, V.non)).2]) ht eC
    have put : ∀ {q : Addr} {xs : List V}, SqT K (upd H' t (.tup [(l.getD i (V.non, V.non)).1, (l.getD i (V.non, V.non)).2])) q xs → SqT K (upd (upd H' t (.tup [(l.getD i (V.non, V.non)).1, (l.getD i (V.non, V.non)).2])) C (.lst (ms.map V.ref ++ [.ref t]))) q xs := fun {q xs} h => by
      rcases h with (h | ⟨o, h⟩) | h
      · exact .inl (.inl (lk_df h eC2 (fun z => by cases z)))
      · exact .inl (.inr ⟨o, lk_df h eC2 (fun z => by cases z)⟩)
      · exact .inr h
    exact (All2.imp (fun _ _ h => put (sqT_new ht h)) rm).app (put (SqT.of upd_same))
  have fin : ∀ (C : Addr) (H' : Hp), H C = none → (Same H H' ∧ ∃ ms : List Addr, H' C = some (.lst (ms.map V.ref)) ∧ All2 (PairAt K H') ms (l.take (ps.map V.ref).length)) → Q (.ref C) H' := by
    rintro C H' hC ⟨s, ms, eC, rm⟩
    rw [List.length_map, hl, List.take_length] at rm
    exact q C H' hC s ⟨ms, eC, rm⟩
  have st : ∀ C, H C = none → (Same H (upd H C (.lst [])) ∧ ∃ ms : List Addr, upd H C (.lst []) C = some (.lst (ms.map V.ref)) ∧ All2 (PairAt K (upd H C (.lst []))) ms (l.take 0)) := fun C hC => ⟨Same.new hC (Same.refl H), [], upd_same, .nil⟩
  rcases e with e | e
  · exact z_lcl e (fun C i H' => Same H H' ∧ ∃ ms : List Addr, H' C = some (.lst (ms.map V.ref)) ∧ All2 (PairAt K H') ms (l.take i)) st (fun C i H' _ _ z => Same.seq z.1 e) turn fin
  · exact z_lct e (fun C i H' => Same H H' ∧ ∃ ms : List Addr, H' C = some (.lst (ms.map V.ref)) ∧ All2 (PairAt K H') ms (l.take i)) st (fun C i H' _ _ z => Same.sqT z.1 e) turn fin
/-! ### records -/
abbrev recF (n : Str) (tv tf tw : Addr) : List (Str × V) := [("name", .str n), ("vector", .ref tv), ("fields", .ref tf), ("words", .ref tw)]
abbrev REC : List Str := ["name", "vector", "fields", "words"]
def RecAt (K : PySem.W.Frag) (c : CEnv) (H : Hp) (p : Addr) (n : Str) (xs : List Int) (fl ws : List (V × V)) : Prop := ∃ tv tf tw, InsAt K c H p "Record" (recF n tv tf tw) ∧ SqT K H tv (xs.map V.int) ∧ PairsT K H tf fl ∧ PairsT K H tw ws
theorem RecAt.same {K : PySem.W.Frag} {c : CEnv} {H H' : Hp} {p : Addr} {n : Str} {xs : List Int} {fl ws : List (V × V)} (s : Same H H') (h : RecAt K c H p n xs fl ws) : RecAt K c H' p n xs fl ws := by
  obtain ⟨tv, tf, tw, a, b, d, e⟩ := h
  exact ⟨tv, tf, tw, a.same s, Same.sqT s b, d.same s, e.same s⟩
abbrev N_Record_init : List Str := ["self", "name", "vector", "fields", "words", "field", "worth", "word", "count"]
-- Record.__init__(self, name, vector, fields, words): slots 0:self 1:name 2:vector 3:fields 4:words 5:field 6:worth 7:word 8:count
def T_Record_init (K : PySem.W.Frag) : TS :=
    (tSeq (sFld K (tVar 0) (tVar 1) "name")
    (tSeq (sFld K (tVar 0) (tCB (uTuple K) (tCons (tVar 2) tNil)) "vector")
    (tSeq (sFld K (tVar 0) (tCB (uTuple K) (tCons (tLc (iSq K (tVar 3)) (gTup K 2 (gCons (gName 5) (gCons (gName 6) gNil))) tYes (tTup (tCons (tVar 5) (tCons (tVar 6) tNil))) [5, 6]) tNil)) "fields")
    (sFld K (tVar 0) (tCB (uTuple K) (tCons (tLc (iSq K (tVar 4)) (gTup K 2 (gCons (gName 7) (gCons (gName 8) gNil))) tYes (tTup (tCons (tVar 7) (tCons (tVar 8) tNil))) [7, 8]) tNil)) "words"))))

def sp_Record_init (K : PySem.W.Frag) (c : CEnv) : Sp := fun vs H Q _ => ∃ (p dx v f w : Addr) (n : Str) (xs : List Int) (fl ws : List (V × V)), vs = [.ref p, .str n, .ref v, .ref f, .ref w] ∧ ClsOk K c "Record" ["name", "vector", "fields", "words"] ∧ H p = some (.ins (c.cls "Record") dx []) ∧ SqA K H v (xs.map V.int) ∧ PairsA K H f fl ∧ PairsA K H w ws ∧ fl.length ≤ 1000 ∧ ws.length ≤ 1000 ∧
  ∀ H', SameB p H H' → RecAt K c H' p n xs fl ws → Q .non H'
theorem Record_init_c {K : PySem.W.Frag} {c : CEnv} {p dx v f w : Addr} {n : Str} {xs : List Int} {fl ws : List (V × V)} {H : Hp} {Q : VK} {E : XK} (ok : ClsOk K c "Record" ["name", "vector", "fields", "words"]) (hp : H p = some (.ins (c.cls "Record") dx [])) (hv : SqA K H v (xs.map V.int)) (hf : PairsA K H f fl) (hw : PairsA K H w ws) (lf : fl.length ≤ 1000) (lw : ws.length ≤ 1000)
    (q : ∀ H', SameB p H H' → RecAt K c H' p n xs fl ws → Q .non H') : sp_Record_init K c [.ref p, .str n, .ref v, .ref f, .ref w] H Q E := ⟨p, dx, v, f, w, n, xs, fl, ws, rfl, ok, hp, hv, hf, hw, lf, lw, q⟩
theorem w_Record_init {K : PySem.W.Frag} {c : CEnv} : Wd (T_Record_init K) N_Record_init 5 (sp_Record_init K c) := fun vs H Q E h => by
  obtain ⟨p, dx, v, f, w, n, xs, fl, ws, rfl, ok, hp, hv, hf, hw, lf, lw, q⟩ := h
  refine ⟨rfl, ?_⟩
  show T_Record_init K _ [some (.ref p), some (.str n), some (.ref v), some (.ref f), some (.ref w), none, none, none, none] H
  unfold T_Record_init
  have s1 := (SameB.refl p H).put (o := .ins (c.cls "Record") dx [("name", .str n)])
  have hv1 := hv.putI (o := .ins (c.cls "Record") dx [("name", .str n)]) hp
  have hf1 := hf.putI (o := .ins (c.cls "Record") dx [("name", .str n)]) hp
  have hw1 := hw.putI (o := .ins (c.cls "Record") dx [("name", .str n)]) hp
  walk_at "zz"
  rw [show putF "name" (V.str n) ([] : List (Str × V)) = ([("name", .str n)] : List (Str × V)) from rfl]
  have e1 : upd H p (.ins (c.cls "Record") dx [("name", .str n)]) p = some (.ins (c.cls "Record") dx [("name", .str n)]) := upd_same
  generalize upd H p (.ins (c.cls "Record") dx [("name", .str n)]) = H1 at *
  refine z_tupleA hv1 fun t H2 s2 et => ?_
  have e2 := s2 _ _ e1
  have b2 := SameB.same s1 s2
  have hf2 := hf1.same s2
  have hw2 := hw1.same s2
  walk_at "zz"
  have b3 := b2.put (o := .ins (c.cls "Record") dx [("name", .str n), ("vector", .ref t)])
  have et3 := SqT.putI (o := .ins (c.cls "Record") dx [("name", .str n), ("vector", .ref t)]) e2 et
  have hf3 := hf2.putI (o := .ins (c.cls "Record") dx [("name", .str n), ("vector", .ref t)]) e2
  have hw3 := hw2.putI (o := .ins (c.cls "Record") dx [("name", .str n), ("vector", .ref t)]) e2
  rw [show putF "vector" (V.ref t) ([("name", .str n)] : List (Str × V)) = ([("name", .str n), ("vector", .ref t)] : List (Str × V)) from rfl]
  have e3 : upd H2 p (.ins (c.cls "Record") dx [("name", .str n), ("vector", .ref t)]) p = some (.ins (c.cls "Record") dx [("name", .str n), ("vector", .ref t)]) := upd_same
  generalize upd H2 p (.ins (c.cls "Record") dx [("name", .str n), ("vector", .ref t)]) = H3 at *
  refine z_lcPairs hf3 lf (by walk_at "few") (by walk_at "few") (by decide) fun r H4 nr s4 hr => ?_
  obtain ⟨ps, er, rp⟩ := hr
  refine z_nil ?_
  refine z_tupleL (SqL.of er) fun u hu => ?_
  have s5 := Same.new (o := .tup (ps.map V.ref)) hu s4
  have ru5 : PairsT K (upd H4 u (.tup (ps.map V.ref))) u fl := ⟨ps, SqT.of upd_same, All2.imp (fun _ _ h => sqT_new hu h) rp⟩
  have e5 := s5 _ _ e3
  have b5 := SameB.same b3 s5
  have et5 := Same.sqT s5 et3
  have hw5 := hw3.same s5
  generalize upd H4 u (.tup (ps.map V.ref)) = H5 at *
  walk_at "zz"
  have b6 := b5.put (o := .ins (c.cls "Record") dx [("name", .str n), ("vector", .ref t), ("fields", .ref u)])
  have et6 := SqT.putI (o := .ins (c.cls "Record") dx [("name", .str n), ("vector", .ref t), ("fields", .ref u)]) e5 et5
  have ru6 := ru5.putI (o := .ins (c.cls "Record") dx [("name", .str n), ("vector", .ref t), ("fields", .ref u)]) e5
  have hw6 := hw5.putI (o := .ins (c.cls "Record") dx [("name", .str n), ("vector", .ref t), ("fields", .ref u)]) e5
  rw [show putF "fields" (V.ref u) ([("name", .str n), ("vector", .ref t)] : List (Str × V)) = ([("name", .str n), ("vector", .ref t), ("fields", .ref u)] : List (Str × V)) from rfl]
  have e6 : upd H5 p (.ins (c.cls "Record") dx [("name", .str n), ("vector", .ref t), ("fields", .ref u)]) p = some (.ins (c.cls "Record") dx [("name", .str n), ("vector", .ref t), ("fields", .ref u)]) := upd_same
  generalize upd H5 p (.ins (c.cls "Record") dx [("name", .str n), ("vector", .ref t), ("fields", .ref u)]) = H6 at *
  refine z_lcPairs hw6 lw (by walk_at "few") (by walk_at "few") (by decide) fun r2 H7 nr2 s7 hr2 => ?_
  obtain ⟨qs, er2, rq⟩ := hr2
  refine z_nil ?_
  refine z_tupleL (SqL.of er2) fun y hy => ?_
  have s8 := Same.new (o := .tup (qs.map V.ref)) hy s7
  have rw8 : PairsT K (upd H7 y (.tup (qs.map V.ref))) y ws := ⟨qs, SqT.of upd_same, All2.imp (fun _ _ h => sqT_new hy h) rq⟩
  have e8 := s8 _ _ e6
  have b8 := SameB.same b6 s8
  have et8 := Same.sqT s8 et6
  have ru8 := ru6.same s8
  generalize upd H7 y (.tup (qs.map V.ref)) = H8 at *
  walk_at "zz"
  refine q _ (b8.put) ⟨t, u, y, ⟨ok, dx, ?_⟩, SqT.putI e8 et8, ru8.putI e8, rw8.putI e8⟩
  rw [upd_same]; rfl

/-! ### regions -/
def pV : Option Int → V
  | none => .non
  | some i => .int i
def RegAt (K : PySem.W.Frag) (c : CEnv) (H : Hp) (p : Addr) (par : Option Int) (fs : List Addr) : Prop := ∃ t, InsAt K c H p "Region" [("parent", pV par), ("facts", .ref t)] ∧ SqT K H t (fs.map V.ref)
theorem RegAt.same {K : PySem.W.Frag} {c : CEnv} {H H' : Hp} {p : Addr} {par : Option Int} {fs : List Addr} (s : Same H H') (i : RegAt K c H p par fs) : RegAt K c H' p par fs := let ⟨t, a, b⟩ := i; ⟨t, a.same s, Same.sqT s b⟩
structure RegsAt (K : PySem.W.Frag) (c : CEnv) (H : Hp) (r : Addr) (rs : List (Option Int × List Addr)) : Prop where
  ex : ∃ ps : List Addr, (SqL K H r (ps.map V.ref) ∨ SqT K H r (ps.map V.ref)) ∧ ps.length = rs.length ∧ ∀ (i : Nat) p e, ps[i]? = some p → rs[i]? = some e → RegAt K c H p e.1 e.2
theorem RegsAt.same {K : PySem.W.Frag} {c : CEnv} {H H' : Hp} {r : Addr} {rs : List (Option Int × List Addr)} (s : Same H H') (i : RegsAt K c H r rs) : RegsAt K c H' r rs := by
  obtain ⟨ps, a, b, d⟩ := i.ex
  exact ⟨ps, a.imp (Same.seq s) (Same.sqT s), b, fun i p e h1 h2 => (d i p e h1 h2).same s⟩
/-- the region at a place -/
theorem RegsAt.at {K : PySem.W.Frag} {c : CEnv} {H : Hp} {r : Addr} {rs : List (Option Int × List Addr)} (h : RegsAt K c H r rs) {i : Int} (h0 : 0 ≤ i) (h1 : i < rs.length) :
    ∃ (xs : List V) (p : Addr) (e : Option Int × List Addr), (SqL K H r xs ∨ SqT K H r xs) ∧ atI xs i = some (.ref p) ∧ rs[i.toNat]? = some e ∧ RegAt K c H p e.1 e.2 := by
  obtain ⟨ps, a, b, d⟩ := h.ex
  have l1 : i.toNat < ps.length := by omega
  have l2 : i.toNat < rs.length := by omega
  refine ⟨_, ps[i.toNat], rs[i.toNat], a, ?_, List.getElem?_eq_getElem l2, d _ _ _ (List.getElem?_eq_getElem l1) (List.getElem?_eq_getElem l2)⟩
  unfold atI
  rw [ix_at h0 (by simpa using by omega)]
  simp [l1]
theorem map_refE {xs : List Addr} {i : Nat} {x : V} (h : (xs.map V.ref)[i]? = some x) : ∃ p, xs[i]? = some p ∧ x = .ref p := by
  rw [List.getElem?_map] at h
  cases e : xs[i]? with
  | none => rw [e] at h; cases h
  | some y => rw [e] at h; exact ⟨y, rfl, (Option.some.inj h).symm⟩
abbrev N_Region_init : List Str := ["self", "parent", "facts"]
-- Region.__init__(self, parent, facts): slots 0:self 1:parent 2:facts
def T_Region_init (K : PySem.W.Frag) : TS :=
    (tSeq (sFld K (tVar 0) (tVar 1) "parent")
    (sFld K (tVar 0) (tCB (uTuple K) (tCons (tVar 2) tNil)) "facts"))

def sp_Region_init (K : PySem.W.Frag) (c : CEnv) : Sp := fun vs H Q _ => ∃ (p dx q : Addr) (par : Option Int) (fs : List Addr), vs = [.ref p, pV par, .ref q] ∧ ClsOk K c "Region" ["parent", "facts"] ∧ H p = some (.ins (c.cls "Region") dx []) ∧ SqL K H q (fs.map V.ref) ∧ q ≠ p ∧
  ∀ H', (∀ a o, a ≠ p → H a = some o → H' a = some o) → RegAt K c H' p par fs → Q .non H'
theorem r_Region_init {K : PySem.W.Frag} {c : CEnv} {p dx q : Addr} {par : Option Int} {fs : List Addr} {H : Hp} {D : Ends} (ok : ClsOk K c "Region" ["parent", "facts"]) (hp : H p = some (.ins (c.cls "Region") dx [])) (hq : SqL K H q (fs.map V.ref)) (ne : q ≠ p)
    (k : ∀ H', (∀ a o, a ≠ p → H a = some o → H' a = some o) → RegAt K c H' p par fs → ∀ σ, D.nx σ H') : T_Region_init K D [some (.ref p), some (pV par), some (.ref q)] H := by
  unfold T_Region_init
  walk_at "zz"
  refine z_tupleL (sqL_ne ne hq) fun t ht => ?_
  have npt : p ≠ t := ne_of_none upd_same ht
  walk_at "zz"
  refine k _ (fun a o h e => ?_) ⟨t, ⟨ok, dx, ?_⟩, ?_⟩ _
  · exact lk_ne h (lk_ne (ne_of_none (lk_ne h e) ht) (lk_ne h e))
  · rw [upd_same]; rfl
  · exact SqT.of (lk_ne npt.symm upd_same)
theorem w_Region_init {K : PySem.W.Frag} {c : CEnv} : Wd (T_Region_init K) N_Region_init 3 (sp_Region_init K c) := fun vs H Q E h => by
  obtain ⟨p, dx, q, par, fs, rfl, ok, hp, hq, ne, k⟩ := h
  exact ⟨rfl, r_Region_init ok hp hq ne fun H' a b σ => k H' a b⟩
abbrev N_is_partition : List Str := ["regions", "place", "region"]
-- is_partition(regions): slots 0:regions 1:place 2:region
def T_is_partition_b1 (K : PySem.W.Frag) : TS :=
    (tIfS (tAnd (tTest (tOp uIsNot (tFld K (tVar 2) "parent") (tC .non))) (tNot (tTest (tChain uLe (uLt K) (tC (.int 0)) (tFld K (tVar 2) "parent") (tVar 1))))) (tRet (tC (.bl false))) tNext)
def T_is_partition (K : PySem.W.Frag) : TS :=
    (tSeq (tFor (iEnumA K (tCons (tVar 0) tNil)) (gTup K 2 (gCons (gName 1) (gCons (gName 2) gNil))) (T_is_partition_b1 K))
    (tRet (tC (.bl true))))

def IsPart (ps : List (Option Int)) : Prop := ∀ (i : Nat) (q : Int), ps[i]? = some (some q) → 0 ≤ q ∧ q < i
def pars (rs : List (Option Int × List Addr)) : List (Option Int) := rs.map (·.1)
def sp_is_partition (K : PySem.W.Frag) (c : CEnv) : Sp := fun vs H Q _ => ∃ (r : Addr) (rs : List (Option Int × List Addr)), vs = [.ref r] ∧ RegsAt K c H r rs ∧ ∀ (b : Bool) H', (b = true ↔ IsPart (pars rs)) → Same H H' → Q (.bl b) H'
theorem r_is_partition {K : PySem.W.Frag} {c : CEnv} {r : Addr} {rs : List (Option Int × List Addr)} {H : Hp} {D : Ends} (hr : RegsAt K c H r rs) (k : ∀ (b : Bool) H', (b = true ↔ IsPart (pars rs)) → Same H H' → D.rt (.bl b) H') : T_is_partition K D [some (.ref r), none, none] H := by
  obtain ⟨ps, hl, hn, hat⟩ := hr.ex
  unfold T_is_partition
  walk_at "zz"
  refine z_enumA hl (fun i σ H' => Same H H' ∧ (∀ j q, j < i → (pars rs)[j]? = some (some q) → 0 ≤ q ∧ q < j) ∧ ∃ v w, σ = [some (.ref r), v, w]) ⟨Same.refl H, fun j q hj => absurd hj (Nat.not_lt_zero _), none, none, rfl⟩ (fun i σ H' h => h.1) ?_ ?_
  · rintro i x t σ H' hx ⟨s, hj, v, w, rfl⟩ ht
    obtain ⟨p, hp, rfl⟩ := map_refE hx
    have li : i < rs.length := by rw [← hn]; exact (List.getElem?_eq_some_iff.mp hp).1
    obtain ⟨tt, ⟨ok, dx, e⟩, _⟩ := (hat i p _ hp (List.getElem?_eq_getElem li)).same (Same.new (o := .tup [.int (i : Nat), .ref p]) ht s)
    have ep : (pars rs)[i]? = some rs[i].1 := by simp [pars, li]
    generalize rs[i].1 = par at *
    have ok' : ClsOk K c "Region" ["parent", "facts"] := ok
    unfold T_is_partition_b1
    walk_at "zz"
    cases par with
    | none =>
      refine z_iteF' rfl ?_
      walk_at "zz"
      refine ⟨Same.new ht s, fun j q hji h => ?_, _, _, rfl⟩
      by_cases c : j = i
      · subst c; rw [ep] at h; cases h
      · exact hj j q (by omega) h
    | some q =>
      simp only [pV] at e ⊢
      refine z_iteT' rfl ?_
      walk_at "zz"
      by_cases c1 : 0 ≤ q
      · refine z_iteT' (decide_eq_true c1) ?_
        walk_at "zz"
        by_cases c2 : q < i
        · refine z_iteF' (by rw [decide_eq_true c2]; rfl) ?_
          walk_at "zz"
          refine ⟨Same.new ht s, fun j q' hji h => ?_, _, _, rfl⟩
          by_cases c : j = i
          · subst c; rw [ep] at h; cases h; exact ⟨c1, c2⟩
          · exact hj j q' (by omega) h
        · refine z_iteT' (by rw [decide_eq_false c2]; rfl) ?_
          walk_at "zz"
          exact k false _ ⟨fun z => (nomatch z), fun z => absurd (z i q ep).2 c2⟩ (Same.new ht s)
      · refine z_iteF' (decide_eq_false c1) ?_
        walk_at "zz"
        refine z_iteT' rfl ?_
        walk_at "zz"
        exact k false _ ⟨fun z => (nomatch z), fun z => absurd (z i q ep).1 c1⟩ (Same.new ht s)
  · rintro σ H' ⟨s, hj, v, w, rfl⟩
    walk_at "zz"
    refine k true H' ⟨fun _ i q h => hj i q ?_ h, fun _ => rfl⟩ s
    have := (List.getElem?_eq_some_iff.mp h).1
    simp [pars] at this
    simp [hn, this]
theorem w_is_partition {K : PySem.W.Frag} {c : CEnv} : Wd (T_is_partition K) N_is_partition 1 (sp_is_partition K c) := fun vs H Q E h => by
  obtain ⟨r, rs, rfl, hr, k⟩ := h
  exact ⟨rfl, r_is_partition hr k⟩

/-! ### sources -/
abbrev Ent := Int × Addr × Int
abbrev EntAt (K : PySem.W.Frag) (H : Hp) (q : Addr) (x : Ent) : Prop := SqT K H q [.int x.1, .ref x.2.1, .int x.2.2]
def EntsA (K : PySem.W.Frag) (H : Hp) (a : Addr) (l : List Ent) : Prop := ∃ ps : List Addr, SqA K H a (ps.map V.ref) ∧ All2 (EntAt K H) ps l
def EntsT (K : PySem.W.Frag) (H : Hp) (a : Addr) (l : List Ent) : Prop := ∃ ps : List Addr, SqT K H a (ps.map V.ref) ∧ All2 (EntAt K H) ps l
theorem EntsA.same {K : PySem.W.Frag} {H H' : Hp} {a : Addr} {l : List Ent} (s : Same H H') (h : EntsA K H a l) : EntsA K H' a l := ⟨h.choose, h.choose_spec.1.same s, All2.imp (fun _ _ e => Same.sqT s e) h.choose_spec.2⟩
theorem EntsT.same {K : PySem.W.Frag} {H H' : Hp} {a : Addr} {l : List Ent} (s : Same H H') (h : EntsT K H a l) : EntsT K H' a l := ⟨h.choose, Same.sqT s h.choose_spec.1, All2.imp (fun _ _ e => Same.sqT s e) h.choose_spec.2⟩
theorem EntsT.putI {K : PySem.W.Frag} {H : Hp} {p a C dx : Addr} {fs : List (Str × V)} {l : List Ent} {o : HO} (hp : H p = some (.ins C dx fs)) (h : EntsT K H a l) : EntsT K (upd H p o) a l := ⟨h.choose, SqT.putI hp h.choose_spec.1, All2.imp (fun _ _ e => SqT.putI hp e) h.choose_spec.2⟩
abbrev dE : Ent := (0, 0, 0)
theorem SqT.putL {K : PySem.W.Frag} {H : Hp} {p a : Addr} {us xs : List V} {o : HO} (hp : H p = some (.lst us)) (h : SqT K H a xs) : SqT K (upd H p o) a xs := by
  rcases h with (e | ⟨u, e⟩) | e
  · exact .inl (.inl (lk_df e hp (fun z => by cases z)))
  · exact .inl (.inr ⟨u, lk_df e hp (fun z => by cases z)⟩)
  · exact .inr e
/-- [(a, b, d) for a, b, d in entries] -/
theorem z_lcTrip {K : PySem.W.Frag} {a : Addr} {l : List Ent} {s0 s1 s2 s3 s4 s5 s6 s7 s8 s9 : Option V} {H : Hp} {Q : VK} (e : EntsA K H a l) (hn : l.length ≤ 1000)
    (q : ∀ (r : Addr) H', H r = none → Same H H' → (∃ ps : List Addr, H' r = some (.lst (ps.map V.ref)) ∧ All2 (EntAt K H') ps l) → Q (.ref r) H') :
    zLcS K (gTup K 3 (gCons (gName 5) (gCons (gName 6) (gCons (gName 7) gNil)))) tYes (tTup (tCons (tVar 5) (tCons (tVar 6) (tCons (tVar 7) tNil)))) [5, 6, 7] [s0, s1, s2, s3, s4, s5, s6, s7, s8, s9] (.ref a) H Q := by
  obtain ⟨ps, e, r⟩ := e
  have hl := All2.len r
  have turn : ∀ (C : Addr) (i : Nat) (x : V) (H' : Hp), H C = none → (ps.map V.ref)[i]? = some x → (Same H H' ∧ ∃ ms : List Addr, H' C = some (.lst (ms.map V.ref)) ∧ All2 (EntAt K H') ms (l.take i)) →
      gTup K 3 (gCons (gName 5) (gCons (gName 6) (gCons (gName 7) gNil))) x (wipe [s0, s1, s2, s3, s4, s5, s6, s7, s8, s9] [5, 6, 7]) H' fun σ2 H2 => wipe σ2 [5, 6, 7] = wipe [s0, s1, s2, s3, s4, s5, s6, s7, s8, s9] [5, 6, 7] ∧ tYes σ2 H2 fun b H3 =>
        if b = true then tTup (tCons (tVar 5) (tCons (tVar 6) (tCons (tVar 7) tNil))) σ2 H3 fun y H4 => ∃ acc, H4 C = some (.lst acc) ∧ acc.length < sizeLine ∧ (Same H (upd H4 C (.lst (acc ++ [y]))) ∧ ∃ ms : List Addr, upd H4 C (.lst (acc ++ [y])) C = some (.lst (ms.map V.ref)) ∧ All2 (EntAt K (upd H4 C (.lst (acc ++ [y])))) ms (l.take (i + 1))) else (Same H H3 ∧ ∃ ms : List Addr, H3 C = some (.lst (ms.map V.ref)) ∧ All2 (EntAt K H3) ms (l.take (i + 1))) := by
    rintro C i x H' hC hx ⟨s, ms, eC, rm⟩
    obtain ⟨hi, rfl⟩ := map_ref hx
    have hi2 : i < l.length := by omega
    have lm := All2.len rm
    refine z_gTup3 (Same.sqT s (All2.atD r 0 dE hi2)) ?_
    refine ⟨rfl, ?_⟩
    walk_at "zz"
    rename_i t ht
    refine z_accum (lk_new ht eC) (by rw [List.length_map, lm, List.length_take]; omega) ?_
    refine ⟨Same.put hC (Same.new ht s), ms ++ [t], by rw [upd_same, ref_app], ?_⟩
    rw [take_dS dE hi2]
    exact (All2.imp (fun _ _ h => SqT.putL (lk_new ht eC) (sqT_new ht h)) rm).app (SqT.putL (lk_new ht eC) (SqT.of upd_same))
  have fin : ∀ (C : Addr) (H' : Hp), H C = none → (Same H H' ∧ ∃ ms : List Addr, H' C = some (.lst (ms.map V.ref)) ∧ All2 (EntAt K H') ms (l.take (ps.map V.ref).length)) → Q (.ref C) H' := by
    rintro C H' hC ⟨s, ms, eC, rm⟩
    rw [List.length_map, hl, List.take_length] at rm
    exact q C H' hC s ⟨ms, eC, rm⟩
  have st : ∀ C, H C = none → (Same H (upd H C (.lst [])) ∧ ∃ ms : List Addr, upd H C (.lst []) C = some (.lst (ms.map V.ref)) ∧ All2 (EntAt K (upd H C (.lst []))) ms (l.take 0)) := fun C hC => ⟨Same.new hC (Same.refl H), [], upd_same, .nil⟩
  rcases e with e | e
  · exact z_lcl e (fun C i H' => Same H H' ∧ ∃ ms : List Addr, H' C = some (.lst (ms.map V.ref)) ∧ All2 (EntAt K H') ms (l.take i)) st (fun C i H' _ _ z => Same.seq z.1 e) turn fin
  · exact z_lct e (fun C i H' => Same H H' ∧ ∃ ms : List Addr, H' C = some (.lst (ms.map V.ref)) ∧ All2 (EntAt K H') ms (l.take i)) st (fun C i H' _ _ z => Same.sqT z.1 e) turn fin
abbrev SRC : List Str := ["segment", "partition", "regions", "entries"]
abbrev srcF (seg part : V) (T U : Addr) : List (Str × V) := [("segment", seg), ("partition", part), ("regions", .ref T), ("entries", .ref U)]
def nums (l : List Ent) : List Int := l.map (·.1)
def SrcGood (rs : List (Option Int × List Addr)) (l : List Ent) : Prop := IsPart (pars rs) ∧ (nums l).Nodup ∧ ∀ x ∈ l, 0 ≤ x.2.2 ∧ x.2.2 < rs.length
def SrcAt (K : PySem.W.Frag) (c : CEnv) (H : Hp) (p : Addr) (seg part : V) (rps : List Addr) (l : List Ent) : Prop := ∃ T U, InsAt K c H p "Source" (srcF seg part T U) ∧ SqT K H T (rps.map V.ref) ∧ EntsT K H U l
abbrev N_Source_init : List Str := ["self", "segment", "partition", "regions", "entries", "number", "record", "leaf", "numbers", "_"]
-- Source.__init__(self, segment, partition, regions, entries): slots 0:self 1:segment 2:partition 3:regions 4:entries 5:number 6:record 7:leaf 8:numbers 9:_
def T_Source_init_b1 (K : PySem.W.Frag) (c : CEnv) (W : WX) : TS :=
    (tIfS (tNot (tTest (tChain uLe (uLt K) (tC (.int 0)) (tVar 7) (tCB (uLen K) (tCons (tFld K (tVar 0) "regions") tNil))))) (sRaise c "InvalidSource" W) tNext)
def T_Source_init (K : PySem.W.Frag) (c : CEnv) (W : WX) : TS :=
    (tSeq (sFld K (tVar 0) (tVar 1) "segment")
    (tSeq (sFld K (tVar 0) (tVar 2) "partition")
    (tSeq (sFld K (tVar 0) (tCB (uTuple K) (tCons (tVar 3) tNil)) "regions")
    (tSeq (sFld K (tVar 0) (tCB (uTuple K) (tCons (tLc (iSq K (tVar 4)) (gTup K 3 (gCons (gName 5) (gCons (gName 6) (gCons (gName 7) gNil)))) tYes (tTup (tCons (tVar 5) (tCons (tVar 6) (tCons (tVar 7) tNil)))) [5, 6, 7]) tNil)) "entries")
    (tSeq (tIfS (tNot (tTru K (tCal (sp_is_partition K c) (tCons (tFld K (tVar 0) "regions") tNil)))) (sRaise c "InvalidSource" W) tNext)
    (tSeq (tAsg (tLc (iSq K (tFld K (tVar 0) "entries")) (gTup K 3 (gCons (gName 5) (gCons (gName 9) (gCons (gName 9) gNil)))) tYes (tVar 5) [5, 9]) (gName 8))
    (tSeq (tIfS (tTest (tOp (uLt K) (tLenSet K (tVar 8)) (tCB (uLen K) (tCons (tVar 8) tNil)))) (sRaise c "InvalidSource" W) tNext)
    (tFor (iSq K (tFld K (tVar 0) "entries")) (gTup K 3 (gCons (gName 9) (gCons (gName 9) (gCons (gName 7) gNil)))) (T_Source_init_b1 K c W)))))))))

def sp_Source_init (K : PySem.W.Frag) (c : CEnv) : Sp := fun vs H Q E => ∃ (p dx r a : Addr) (seg part : V) (rs : List (Option Int × List Addr)) (rps : List Addr) (l : List Ent), vs = [.ref p, seg, part, .ref r, .ref a] ∧ ClsOk K c "Source" ["segment", "partition", "regions", "entries"] ∧ H p = some (.ins (c.cls "Source") dx []) ∧
  (∀ H', SameB p H H' → SqA K H' r (rps.map V.ref) ∧ rps.length = rs.length ∧ ∀ (i : Nat) q e, rps[i]? = some q → rs[i]? = some e → RegAt K c H' q e.1 e.2) ∧ (∀ H', SameB p H H' → EntsA K H' a l) ∧ l.length ≤ 1000 ∧
  (SrcGood rs l → ∀ H', SameB p H H' → SrcAt K c H' p seg part rps l → Q .non H') ∧ (¬ SrcGood rs l → ∀ H', SameB p H H' → E (.ref (c.cls "InvalidSource")) none H')
theorem w_Source_init {K : PySem.W.Frag} {c : CEnv} : WdX (T_Source_init K c) N_Source_init 5 (sp_Source_init K c) := fun vs H Q E h => by
  obtain ⟨p, dx, r, a, seg, part, rs, rps, l, rfl, ok, hp, hr, ha, hn, good, bad⟩ := h
  refine ⟨rfl, ?_⟩
  show T_Source_init K c _ _ [some (.ref p), some seg, some part, some (.ref r), some (.ref a), none, none, none, none, none] H
  unfold T_Source_init
  walk_at "zz"
  rw [upd_upd, show putF "partition" part (putF "segment" seg []) = ([("segment", seg), ("partition", part)] : List (Str × V)) from rfl]
  have b1 := (SameB.refl p H).put (o := .ins (c.cls "Source") dx [("segment", seg), ("partition", part)])
  have e1 : upd H p (.ins (c.cls "Source") dx [("segment", seg), ("partition", part)]) p = some (.ins (c.cls "Source") dx [("segment", seg), ("partition", part)]) := upd_same
  generalize upd H p (.ins (c.cls "Source") dx [("segment", seg), ("partition", part)]) = H1 at *
  refine z_tupleA (hr _ b1).1 fun T H2 s2 eT => ?_
  have b2 := SameB.same b1 s2
  have e2 := s2 _ _ e1
  walk_at "zz"
  rw [show putF "regions" (V.ref T) ([("segment", seg), ("partition", part)] : List (Str × V)) = ([("segment", seg), ("partition", part), ("regions", .ref T)] : List (Str × V)) from rfl]
  have b3 := b2.put (o := .ins (c.cls "Source") dx [("segment", seg), ("partition", part), ("regions", .ref T)])
  have eT3 := SqT.putI (o := .ins (c.cls "Source") dx [("segment", seg), ("partition", part), ("regions", .ref T)]) e2 eT
  have e3 : upd H2 p (.ins (c.cls "Source") dx [("segment", seg), ("partition", part), ("regions", .ref T)]) p = some (.ins (c.cls "Source") dx [("segment", seg), ("partition", part), ("regions", .ref T)]) := upd_same
  generalize upd H2 p (.ins (c.cls "Source") dx [("segment", seg), ("partition", part), ("regions", .ref T)]) = H3 at *
  refine z_lcTrip (ha _ b3) hn fun C H4 nC s4 hC => ?_
  obtain ⟨ps, eC, rp⟩ := hC
  refine z_nil ?_
  refine z_tupleL (SqL.of eC) fun U hU => ?_
  have s5 := Same.new (o := .tup (ps.map V.ref)) hU s4
  have eU5 : EntsT K (upd H4 U (.tup (ps.map V.ref))) U l := ⟨ps, SqT.of upd_same, All2.imp (fun _ _ h => sqT_new hU h) rp⟩
  have e5 := s5 _ _ e3
  have b5 := SameB.same b3 s5
  have eT5 := Same.sqT s5 eT3
  generalize upd H4 U (.tup (ps.map V.ref)) = H5 at *
  walk_at "zz"
  rw [show putF "entries" (V.ref U) ([("segment", seg), ("partition", part), ("regions", .ref T)] : List (Str × V)) = srcF seg part T U from rfl]
  have b6 := b5.put (o := .ins (c.cls "Source") dx (srcF seg part T U))
  have eT6 := SqT.putI (o := .ins (c.cls "Source") dx (srcF seg part T U)) e5 eT5
  have eU6 := eU5.putI (o := .ins (c.cls "Source") dx (srcF seg part T U)) e5
  have e6 : upd H5 p (.ins (c.cls "Source") dx (srcF seg part T U)) p = some (.ins (c.cls "Source") dx (srcF seg part T U)) := upd_same
  generalize upd H5 p (.ins (c.cls "Source") dx (srcF seg part T U)) = H6 at *
  refine ⟨T, rs, rfl, ⟨rps, .inr eT6, (hr _ b6).2.1, (hr _ b6).2.2⟩, fun b H7 hb s7 => ?_⟩
  have b7 := SameB.same b6 s7
  have e7 := s7 _ _ e6
  have eT7 := Same.sqT s7 eT6
  have eU7 := eU6.same s7
  walk_at "zz"
  cases b with
  | false =>
    walk_at "zx"
    exact bad (fun g => absurd (hb.mpr g.1) (by simp)) H7 b7
  | true =>
  have hP := hb.mp rfl
  walk_at "zx"
  obtain ⟨us, eU, ru⟩ := eU7
  have lu := All2.len ru
  refine z_lct eU (fun C i H' => Same H7 H' ∧ H' C = some (.lst (((nums l).take i).map V.int))) (fun C hC => ⟨Same.new hC (Same.refl H7), upd_same⟩) (fun C i H' _ _ z => Same.sqT z.1 eU) ?_ ?_
  · rintro C2 i x H' hC2 hx ⟨s, eC2⟩
    obtain ⟨hi, rfl⟩ := map_ref hx
    have hi2 : i < l.length := by omega
    refine z_gTup3 (Same.sqT s (All2.atD ru 0 dE hi2)) ?_
    refine ⟨rfl, ?_⟩
    walk_at "zz"
    refine z_accum eC2 (by rw [List.length_map, List.length_take]; simp [nums]; omega) ?_
    refine ⟨Same.put hC2 s, ?_⟩
    rw [upd_same, take_dS 0 (by simpa [nums] using hi2), List.map_append]
    have : (nums l).getD i 0 = (l.getD i dE).1 := by
      unfold nums
      rw [List.getD_eq_getElem?_getD, List.getElem?_map, List.getD_eq_getElem?_getD, List.getElem?_eq_getElem hi2]; rfl
    rw [this]; rfl
  rintro N H8 hN ⟨s8, eN⟩
  rw [List.length_map, lu, List.take_of_length_le (by simp [nums])] at eN
  walk_at "zz"
  refine ⟨N, nums l, rfl, SqL.of eN, by simp [nums]; omega, ?_⟩
  walk_at "zz"
  rw [List.length_map]
  have b8 := SameB.same b7 s8
  have e8 := s8 _ _ e7
  have eT8 := Same.sqT s8 eT7
  have eU8 := Same.sqT s8 eU
  have ru8 := All2.imp (fun _ _ e => Same.sqT s8 e) ru
  refine z_itD (fun h => ?_) (fun h => ?_)
  · walk_at "zz"
    refine bad (fun g => ?_) H8 b8
    have := (setN_lt (nums l)).mp (by omega)
    exact this g.2.1
  have hD : (nums l).Nodup := by
    rcases Classical.em (nums l).Nodup with z | z
    · exact z
    · have := (setN_lt (nums l)).mpr z
      omega
  walk_at "zz"
  refine z_forT eU8 (fun i σ H' => H' = H8 ∧ (∀ x ∈ l.take i, 0 ≤ x.2.2 ∧ x.2.2 < rs.length) ∧ ∃ (w5 w6 w7 w9 : Option V), σ = [some (.ref p), some seg, some part, some (.ref r), some (.ref a), w5, w6, w7, some (.ref N), w9]) ⟨rfl, (fun _ h => nomatch h), _, _, _, _, rfl⟩ (fun i σ' H' hi h => by rw [h.1]; exact eU8) ?_ ?_
  · rintro i x σ' H' hx ⟨rfl, hok, w5, w6, w7, w9, rfl⟩
    obtain ⟨hi, rfl⟩ := map_ref hx
    have hi2 : i < l.length := by omega
    refine z_gTup3 (All2.atD ru8 0 dE hi2) ?_
    unfold T_Source_init_b1
    walk_at "zz"
    have lr := (hr _ b6).2.1
    by_cases c1 : 0 ≤ (l.getD i dE).2.2
    · rw [decide_eq_true c1]
      walk_at "zx"
      rw [List.length_map, lr]
      by_cases c2 : (l.getD i dE).2.2 < rs.length
      · rw [decide_eq_true c2]
        walk_at "zx"
        refine ⟨rfl, ?_, _, _, _, _, rfl⟩
        rw [take_dS dE hi2]
        intro x hx
        rcases List.mem_append.mp hx with h | h
        · exact hok x h
        · rw [List.mem_singleton.mp h]; exact ⟨c1, c2⟩
      · rw [decide_eq_false c2]
        walk_at "zx"
        exact bad (fun g => c2 (g.2.2 _ (getD_mem' dE hi2)).2) _ b8
    · rw [decide_eq_false c1]
      walk_at "zx"
      exact bad (fun g => c1 (g.2.2 _ (getD_mem' dE hi2)).1) _ b8
  · rintro σ' H' ⟨rfl, hok, w5, w6, w7, w9, rfl⟩
    rw [List.length_map, lu, List.take_length] at hok
    exact good ⟨hP, hD, hok⟩ _ b8 ⟨T, U, ⟨ok, dx, e8⟩, eT8, us, eU8, ru8⟩
abbrev N_law_source : List Str := ["_law_segment", "_law_regions", "_law_entries"]
-- _law_source(_law_segment, _law_regions, _law_entries): slots 0:_law_segment 1:_law_regions 2:_law_entries
def T_law_source (K : PySem.W.Frag) (c : CEnv) : TS :=
    (sTry K c "InvalidSource" ["InvalidSource"] (fun W => (tRet (tMkX K c "Source" ["segment", "partition", "regions", "entries"] (sp_Source_init K c) W (tCons (tVar 0) (tCons (tC (.int 1)) (tCons (tVar 1) (tCons (tVar 2) tNil))))))) (tRet (tC .non)) W0)

def sp_law_source (K : PySem.W.Frag) (c : CEnv) : Sp := fun vs H Q _ => ∃ (r a : Addr) (seg : V) (rs : List (Option Int × List Addr)) (rps : List Addr) (l : List Ent), vs = [seg, .ref r, .ref a] ∧ SqA K H r (rps.map V.ref) ∧ rps.length = rs.length ∧ (∀ (i : Nat) q e, rps[i]? = some q → rs[i]? = some e → RegAt K c H q e.1 e.2) ∧ EntsA K H a l ∧ l.length ≤ 1000 ∧
  (SrcGood rs l → ∀ (p : Addr) H', Same H H' → SrcAt K c H' p seg (.int 1) rps l → Q (.ref p) H') ∧ (¬ SrcGood rs l → ∀ H', Same H H' → Q .non H')
theorem w_law_source {K : PySem.W.Frag} {c : CEnv} : Wd (T_law_source K c) N_law_source 3 (sp_law_source K c) := fun vs H Q E h => by
  obtain ⟨r, a, seg, rs, rps, l, rfl, hr, hl, hat, ha, hn, good, bad⟩ := h
  refine ⟨rfl, ?_⟩
  show T_law_source K c _ [some seg, some (.ref r), some (.ref a)] H
  unfold T_law_source
  walk_at "zz"
  rename_i hex
  rintro ok p dx hp hdx ne
  refine ⟨p, dx, r, a, seg, _, rs, rps, l, rfl, ok, upd_same, fun H' b => ?_, fun H' b => ha.same (b.out hp hdx), hn, fun g H' b at' => ⟨rfl, good g p H' (b.out hp hdx) at'⟩, fun g H' b => ?_⟩
  · have s := b.out hp hdx
    exact ⟨hr.same s, hl, fun i q e h1 h2 => (hat i q e h1 h2).same s⟩
  · refine z_caught (hex _ (by simp)) (by decide +kernel) ?_
    walk_at "zz"
    exact bad g H' (b.out hp hdx)

theorem SqT.exd {K : PySem.W.Frag} {H H' : Hp} {a : Addr} {xs : List V} (x : ExD H H') (h : SqT K H a xs) : SqT K H' a xs := by
  rcases h with (e | ⟨u, e⟩) | e
  · exact .inl (.inl (x _ _ NotSt.tup e))
  · exact .inl (.inr ⟨u, x _ _ (fun _ _ _ z => by cases z) e⟩)
  · exact .inr e
theorem RegAt.exd {K : PySem.W.Frag} {c : CEnv} {H H' : Hp} {p : Addr} {par : Option Int} {fs : List Addr} (s : ExD H H') (i : RegAt K c H p par fs) : RegAt K c H' p par fs := let ⟨t, a, b⟩ := i; ⟨t, a.exd s, SqT.exd s b⟩
theorem RegAt.putL {K : PySem.W.Frag} {c : CEnv} {H : Hp} {p r : Addr} {par : Option Int} {fs : List Addr} {us : List V} {o : HO} (e : H r = some (.lst us)) (i : RegAt K c H p par fs) : RegAt K c (upd H r o) p par fs := let ⟨t, a, b⟩ := i; ⟨t, a.putL e, SqT.putL e b⟩
abbrev Rg := Option Int × List Addr
def RegsIn (K : PySem.W.Frag) (c : CEnv) (H : Hp) (ps : List Addr) (rs : List Rg) : Prop := All2 (fun q (e : Rg) => RegAt K c H q e.1 e.2) ps rs
theorem RegsIn.get {K : PySem.W.Frag} {c : CEnv} {H : Hp} {ps : List Addr} {rs : List Rg} (h : RegsIn K c H ps rs) : ∀ (i : Nat) q e, ps[i]? = some q → rs[i]? = some e → RegAt K c H q e.1 e.2 := fun i q e h1 h2 => by
  obtain ⟨l1, e1⟩ := List.getElem?_eq_some_iff.mp h1
  obtain ⟨l2, e2⟩ := List.getElem?_eq_some_iff.mp h2
  have := All2.get h l1 l2
  rw [e1, e2] at this; exact this
theorem IsPart.snoc {ps : List (Option Int)} {par : Option Int} : IsPart (ps ++ [par]) ↔ IsPart ps ∧ ∀ q, par = some q → 0 ≤ q ∧ q < ps.length := by
  constructor
  · intro h
    refine ⟨fun i q e => h i q ?_, fun q e => h ps.length q (by rw [List.getElem?_append_right (Nat.le_refl _)]; simp [e])⟩
    obtain ⟨l, _⟩ := List.getElem?_eq_some_iff.mp e
    rw [List.getElem?_append_left l]; exact e
  · rintro ⟨h1, h2⟩ i q e
    rcases Nat.lt_or_ge i ps.length with l | l
    · rw [List.getElem?_append_left l] at e; exact h1 i q e
    · rw [List.getElem?_append_right l] at e
      have : i - ps.length = 0 := by
        rcases Nat.eq_zero_or_pos (i - ps.length) with z | z
        · exact z
        · rw [List.getElem?_eq_none (by simp; omega)] at e; cases e
      rw [this] at e
      have e : par = some q := by simpa using e
      have := h2 q e
      omega
theorem inV_int (n : Int) (ns : List Int) : inV (.int n) (ns.map V.int) = decide (n ∈ ns) := by
  unfold inV
  rw [Bool.eq_iff_iff, List.any_eq_true, decide_eq_true_iff]
  constructor
  · rintro ⟨y, hy, e⟩
    obtain ⟨m, hm, rfl⟩ := List.mem_map.mp hy
    have : m = n := by simpa [eqV] using e
    rw [← this]; exact hm
  · intro h
    exact ⟨.int n, List.mem_map.mpr ⟨n, h, rfl⟩, by simp [eqV]⟩
theorem flat_ints (ns : List Int) : (ns.map V.int).all flatV = true := by
  rw [List.all_eq_true]
  intro x hx
  obtain ⟨m, _, rfl⟩ := List.mem_map.mp hx
  rfl
def LOk (n : Nat) (l : List Ent) : Prop := (nums l).Nodup ∧ ∀ x ∈ l, 0 ≤ x.2.2 ∧ x.2.2 < n
theorem LOk.snoc {n : Nat} {l : List Ent} {x : Ent} : LOk n (l ++ [x]) ↔ LOk n l ∧ x.1 ∉ nums l ∧ 0 ≤ x.2.2 ∧ x.2.2 < n := by
  unfold LOk nums
  rw [List.map_append, List.nodup_append]
  simp only [List.map_cons, List.map_nil, List.mem_append, List.mem_singleton]
  constructor
  · rintro ⟨⟨h1, _, h3⟩, h4⟩
    exact ⟨⟨h1, fun y hy => h4 y (.inl hy)⟩, fun m => h3 _ m _ rfl rfl, h4 x (.inr rfl)⟩
  · rintro ⟨⟨h1, h2⟩, h3, h4⟩
    refine ⟨⟨h1, by simp, fun a ha b hb e => ?_⟩, fun y hy => ?_⟩
    · subst hb; subst e; exact h3 ha
    · rcases hy with hy | rfl
      · exact h2 y hy
      · exact h4
abbrev N_law : List Str := ["_law_script", "_law_state", "_law_turn", "_law_regions", "_law_right", "_law_place", "_law_parent", "_law_entries", "_law_numbers", "_law_k", "_law_number", "_law_leaf", "_law_source_here"]
-- law(_law_script): slots 0:_law_script 1:_law_state 2:_law_turn 3:_law_regions 4:_law_right 5:_law_place 6:_law_parent 7:_law_entries 8:_law_numbers 9:_law_k 10:_law_number 11:_law_leaf 12:_law_source_here
def T_law_b1 (K : PySem.W.Frag) (c : CEnv) : TS :=
    (tSeq (tAsg (tC .non) (gName 6))
    (tCut (tIfS (tTest (tOp (uEq K) (tCal (sp_law_next K) (tCons (tVar 1) (tCons (tC (.int 2)) tNil))) (tC (.int 0)))) (tSeq (tAsg (tOp uSub (tOp uDiv (tCal (sp_law_next K) (tCons (tVar 1) (tCons (tC (.int 12)) tNil))) (tC (.int 2))) (tC (.int 1))) (gName 6))
    (tAsg (tAndV (tVar 4) (tAndV (tOp uLe (tC (.int 0)) (tVar 6)) (tOp (uLt K) (tVar 6) (tVar 5)))) (gName 4))) tNext)
    (tDrop (tBM K "list" rAppend (tVar 3) (tCons (tMk K c "Region" ["parent", "facts"] (sp_Region_init K c) (tCons (tVar 6) (tCons (tLst tNil) tNil))) tNil)))))
def T_law_b2 (K : PySem.W.Frag) (c : CEnv) : TS :=
    (tSeq (tAsg (tCal (sp_law_next K) (tCons (tVar 1) (tCons (tC (.int 40)) tNil))) (gName 10))
    (tSeq (tAsg (tOp uDiv (tCal (sp_law_next K) (tCons (tVar 1) (tCons (tOp (uAdd K) (tOp uMul (tCB (uLen K) (tCons (tVar 3) tNil)) (tC (.int 4))) (tC (.int 1))) tNil))) (tC (.int 4))) (gName 11))
    (tCut (tIfS (tTest (tOp (uEq K) (tCal (sp_law_next K) (tCons (tVar 1) (tCons (tC (.int 9)) tNil))) (tC (.int 0)))) (tAsg (tUn uNeg (tC (.int 1))) (gName 11)) tNext)
    (tSeq (tAsg (tAndV (tVar 4) (tAndV (tOp (uNotIn K) (tVar 10) (tVar 8)) (tAndV (tOp uLe (tC (.int 0)) (tVar 11)) (tOp (uLt K) (tVar 11) (tCB (uLen K) (tCons (tVar 3) tNil)))))) (gName 4))
    (tSeq (tDrop (tBM K "list" rAppend (tVar 8) (tCons (tVar 10) tNil)))
    (tDrop (tBM K "list" rAppend (tVar 7) (tCons (tTup (tCons (tVar 10) (tCons (tMkK K c "Record" ["name", "vector", "fields", "words"] 2 0 [.e, .e] [(false, 0), (false, 1)] (sp_Record_init K c) W0 (tCons (tC (.str "a")) (tCons (tLst (tCons (tVar 9) tNil)) tNil)) tNil) (tCons (tVar 11) tNil)))) tNil))))))))
def T_law_b3 (K : PySem.W.Frag) (c : CEnv) : TS :=
    (tSeq (tAsg (tLst tNil) (gName 3))
    (tSeq (tAsg (tC (.bl true)) (gName 4))
    (tSeq (tFor (iRng1 (tCons (tCal (sp_law_next K) (tCons (tVar 1) (tCons (tC (.int 5)) tNil))) tNil)) (gName 5) (T_law_b1 K c))
    (tSeq (tAsg (tLst tNil) (gName 7))
    (tSeq (tAsg (tLst tNil) (gName 8))
    (tSeq (tFor (iRng1 (tCons (tCal (sp_law_next K) (tCons (tVar 1) (tCons (tC (.int 5)) tNil))) tNil)) (gName 9) (T_law_b2 K c))
    (tSeq (tAsg (tCal (sp_law_source K c) (tCons (tVar 2) (tCons (tVar 3) (tCons (tVar 7) tNil)))) (gName 12))
    (tSeq (tIfS (tTest (tOp (uNe K) (tOp uIsNot (tVar 12) (tC .non)) (tVar 4))) (tRet (tC (.bl false))) tNext)
    (tIfS (tTest (tOp uIsNot (tVar 12) (tC .non))) (tSeq (tIfS (tOr (tTest (tOp (uNe K) (tFld K (tVar 12) "segment") (tVar 2))) (tOr (tTest (tOp (uNe K) (tFld K (tVar 12) "partition") (tC (.int 1)))) (tTest (tOp (uNe K) (tFld K (tVar 12) "regions") (tCB (uTuple K) (tCons (tVar 3) tNil)))))) (tRet (tC (.bl false))) tNext)
    (tIfS (tTest (tOp (uNe K) (tFld K (tVar 12) "entries") (tCB (uTuple K) (tCons (tVar 7) tNil)))) (tRet (tC (.bl false))) tNext)) tNext)))))))))
def T_law (K : PySem.W.Frag) (c : CEnv) : TS :=
    (tSeq (tAsg (tLst (tCons (tCB (uList K) (tCons (tVar 0) tNil)) (tCons (tC (.int 0)) (tCons (tC (.int 0)) tNil)))) (gName 1))
    (tSeq (tFor (iRng1 (tCons (tC (.int 6)) tNil)) (gName 2) (T_law_b3 K c))
    (tRet (tC (.bl true)))))

theorem r_law {K : PySem.W.Frag} {c : CEnv} {a : Addr} {ns : List Int} {H : Hp} {D : Ends} (hS : SqL K H a (ns.map V.int)) (hl : ns.length ≤ 63) (q : ∀ H', D.rt (.bl true) H') : T_law K c D [some (.ref a), none, none, none, none, none, none, none, none, none, none, none, none] H := by
  unfold T_law
  walk_at "zz"
  rename_i l hl1 p hp
  have d0 := Draw.start hl1 hp
  generalize upd (upd H l (.lst (ns.map V.int))) p (.lst [.ref l, .int 0, .int 0]) = H0 at *
  refine z_rng1 (by omega) ?_ (by omega)
  refine z_rng (fun i σ H' => ∃ (v2 v3 v4 v5 v6 v7 v8 v9 v10 v11 v12 : Option V), σ = [some (.ref a), some (.ref p), v2, v3, v4, v5, v6, v7, v8, v9, v10, v11, v12] ∧ Draw H' p l) ⟨_, _, _, _, _, _, _, _, _, _, _, rfl, d0⟩ ?_ ?_
  · rintro turn σ H1 hturn ⟨v2, v3, v4, v5, v6, v7, v8, v9, v10, v11, v12, rfl, d1⟩
    unfold T_law_b3
    walk_at "zz"
    rename_i R hR
    have nR := Draw.ne hR d1
    have nRL := Draw.neL hR d1
    have d2 := Draw.new (o := .lst []) hR d1
    have eR2 : upd H1 R (.lst []) R = some (.lst (([] : List Addr).map V.ref)) := upd_same
    generalize upd H1 R (.lst []) = H2 at *
    walk_at "nx"
    intro n3 H3 a3 b3 d3 x3
    have eR3 := x3.lk eR2 NotSt.refs
    walk_at "zz"
    refine z_rng1 (by omega) ?_ (by omega)
    refine z_rng (fun i σ H' => ∃ (w5 w6 : Option V) (rps : List Addr) (rs : List Rg) (rt : Bool), σ = [some (.ref a), some (.ref p), some (.int (0 + (turn : Int))), some (.ref R), some (.bl rt), w5, w6, v7, v8, v9, v10, v11, v12] ∧ Draw H' p l ∧ H' R = some (.lst (rps.map V.ref)) ∧ RegsIn K c H' rps rs ∧ rs.length = i ∧ (rt = true ↔ IsPart (pars rs)))
      ⟨_, _, [], [], true, rfl, d3, eR3, .nil, rfl, ⟨(fun _ i q e => nomatch e), (fun _ => rfl)⟩⟩ ?_ ?_
    · rintro i σ H4 hi ⟨w5, w6, rps, rs, rt, rfl, d4, eR4, rg4, lr, hrt⟩
      unfold T_law_b1
      walk_at "zz"
      refine z_cut (fun σ H' => ∃ (par : Option Int) (rt : Bool), σ = [some (.ref a), some (.ref p), some (.int (0 + (turn : Int))), some (.ref R), some (.bl rt), some (.int (0 + (i : Int))), some (pV par), v7, v8, v9, v10, v11, v12] ∧ Draw H' p l ∧ ExD H4 H' ∧ (rt = true ↔ IsPart (pars rs) ∧ ∀ q, par = some q → 0 ≤ q ∧ q < i)) ?_ ?_
      · walk_at "zz"
        walk_at "nx"
        intro n5 H5 a5 b5 d5 x5
        walk_at "zz"
        refine z_itD (fun h => ?_) (fun h => ?_)
        · walk_at "zz"
          walk_at "nx"
          intro n6 H6 a6 b6 d6 x6
          walk_at "zz"
          have x56 := x5.trans x6
          generalize n6 / 2 - 1 = q0 at *
          have key : ∀ b : Bool, (b = true ↔ rt = true ∧ 0 ≤ q0 ∧ q0 < i) → (b = true ↔ IsPart (pars rs) ∧ ∀ q, some q0 = some q → 0 ≤ q ∧ q < (i : Int)) := fun b hb => by
            rw [hb, hrt]
            constructor
            · rintro ⟨z1, z2, z3⟩; exact ⟨z1, fun q e => by cases e; exact ⟨z2, z3⟩⟩
            · rintro ⟨z1, z2⟩; exact ⟨z1, z2 q0 rfl⟩
          cases rt with
          | false =>
            walk_at "zx"
            exact ⟨some q0, false, rfl, d6, x56, key false (by simp)⟩
          | true =>
            walk_at "zx"
            by_cases c1 : 0 ≤ q0
            · rw [decide_eq_true c1]
              walk_at "zx"
              exact ⟨some q0, _, rfl, d6, x56, key _ (by simp [c1])⟩
            · rw [decide_eq_false c1]
              walk_at "zx"
              exact ⟨some q0, false, rfl, d6, x56, key false (by simp [c1])⟩
        · walk_at "zz"
          exact ⟨none, rt, rfl, d5, x5, by rw [hrt]; exact ⟨fun z => ⟨z, fun q e => by cases e⟩, fun z => z.1⟩⟩
      rintro σ H5 ⟨par, rt5, rfl, d5, x5, hrt5⟩
      have eR5 := x5.lk eR4 NotSt.refs
      have rg5 : RegsIn K c H5 rps rs := All2.imp (fun _ _ h => h.exd x5) rg4
      walk_at "zz"
      rename_i u hu
      rintro ok g dx hg hdx ne
      refine ⟨g, dx, u, par, [], rfl, ok, upd_same, SqL.of (lk_ne (ne_of_none upd_same hg) (lk_ne (ne_of_none upd_same hdx) upd_same)), ne_of_none upd_same hg, fun H6 b6 r6 => ?_⟩
      refine ⟨rfl, ?_⟩
      have s6 : Same H5 H6 := (Same.new hu (Same.refl H5)).trans (SameB.out hg hdx b6)
      have d6 := d5.same s6
      have eR6 := s6 _ _ eR5
      have rg6 : RegsIn K c H6 rps rs := All2.imp (fun _ _ h => h.same s6) rg5
      have lrp := All2.len rg6
      refine z_nil ?_
      refine z_app eR6 (by rw [List.length_map]; omega) ?_
      refine ⟨_, _, rps ++ [g], rs ++ [(par, [])], rt5, rfl, Draw.put nR nRL d6, by rw [upd_same, ref_app], All2.app (All2.imp (fun _ _ h => h.putL eR6) rg6) (r6.putL eR6), by simp [lr], ?_⟩
      rw [hrt5, show pars (rs ++ [(par, ([] : List Addr))]) = pars rs ++ [par] by simp [pars], IsPart.snoc]
      have : (pars rs).length = i := by simp [pars, lr]
      rw [this]
    rintro σ H4 ⟨w5, w6, rps, rs, rt, rfl, d4, eR4, rg4, lr, hrt⟩
    have lrp := All2.len rg4
    walk_at "zz"
    rename_i E hE N hN
    have nE := Draw.ne hE d4
    have nEL := Draw.neL hE d4
    have d4' := Draw.new (o := .lst []) hE d4
    have nN := Draw.ne hN d4'
    have nNL := Draw.neL hN d4'
    have nRE : R ≠ E := ne_of_none eR4 hE
    have nRN : R ≠ N := ne_of_none (lk_ne nRE eR4) hN
    have nEN : E ≠ N := ne_of_none upd_same hN
    have s5 : Same H4 (upd (upd H4 E (.lst [])) N (.lst [])) := Same.new hN (Same.new hE (Same.refl H4))
    have d5 := Draw.new (o := .lst []) hN d4'
    have eE5 : upd (upd H4 E (.lst [])) N (.lst []) E = some (.lst (([] : List Addr).map V.ref)) := lk_ne nEN upd_same
    have eN5 : upd (upd H4 E (.lst [])) N (.lst []) N = some (.lst ((nums []).map V.int)) := upd_same
    have eR5 := s5 _ _ eR4
    have rg5 : RegsIn K c (upd (upd H4 E (.lst [])) N (.lst [])) rps rs := All2.imp (fun _ _ h => h.same s5) rg4
    generalize upd (upd H4 E (.lst [])) N (.lst []) = H5 at *
    walk_at "nx"
    intro n6 H6 a6 b6 d6 x6
    walk_at "zz"
    refine z_rng1 (by omega) ?_ (by omega)
    refine z_rng (fun i σ H' => ∃ (w9 w10 w11 : Option V) (eps : List Addr) (es : List Ent) (rt : Bool), σ = [some (.ref a), some (.ref p), some (.int (0 + (turn : Int))), some (.ref R), some (.bl rt), w5, w6, some (.ref E), some (.ref N), w9, w10, w11, v12] ∧ Draw H' p l ∧ H' R = some (.lst (rps.map V.ref)) ∧ RegsIn K c H' rps rs ∧ H' E = some (.lst (eps.map V.ref)) ∧ H' N = some (.lst ((nums es).map V.int)) ∧ All2 (EntAt K H') eps es ∧ es.length = i ∧ (rt = true ↔ IsPart (pars rs) ∧ LOk rs.length es))
      ⟨_, _, _, [], [], rt, rfl, d6, x6.lk eR5 NotSt.refs, All2.imp (fun _ _ h => h.exd x6) rg5, x6.lk eE5 NotSt.refs, x6.lk eN5 NotSt.ints, .nil, rfl, by rw [hrt]; exact ⟨fun z => ⟨z, by simp [nums], fun _ h => nomatch h⟩, fun z => z.1⟩⟩ ?_ ?_
    · rintro i σ H7 hi ⟨w9, w10, w11, eps, es, rt, rfl, d7, eR7, rg7, eE7, eN7, ee7, le, hrt7⟩
      unfold T_law_b2
      walk_at "zz"
      walk_at "nx"
      intro nb H8 a8 b8 d8 x8
      have eR8 := x8.lk eR7 NotSt.refs
      walk_at "zz"
      rw [List.length_map]
      have hl4 : rps.length ≤ 5 := by omega
      refine law_next_c d8 (by omega) (by omega) fun lf H9 a9 b9 d9 x9 => ?_
      have eR9 := x9.lk eR8 NotSt.refs
      walk_at "zz"
      refine z_cut (fun σ H' => ∃ lf : Int, σ = [some (.ref a), some (.ref p), some (.int (0 + (turn : Int))), some (.ref R), some (.bl rt), w5, w6, some (.ref E), some (.ref N), some (.int (0 + (i : Int))), some (.int nb), some (.int lf), v12] ∧ Draw H' p l ∧ ExD H7 H') ?_ ?_
      · walk_at "zz"
        walk_at "nx"
        intro n10 H10 a10 b10 d10 x10
        have xx := (x8.trans x9).trans x10
        walk_at "zz"
        refine z_itD (fun h => ?_) (fun h => ?_)
        · walk_at "zz"
          exact ⟨_, rfl, d10, xx⟩
        · walk_at "zz"
          exact ⟨_, rfl, d10, xx⟩
      rintro σ H10 ⟨lf, rfl, d10, x10⟩
      have eR10 := x10.lk eR7 NotSt.refs
      have eE10 := x10.lk eE7 NotSt.refs
      have eN10 := x10.lk eN7 NotSt.ints
      have rg10 : RegsIn K c H10 rps rs := All2.imp (fun _ _ h => h.exd x10) rg7
      have ee10 : All2 (EntAt K H10) eps es := All2.imp (fun _ _ h => SqT.exd x10 h) ee7
      have lep := All2.len ee10
      have rest : ∀ (b : Bool), (b = true ↔ rt = true ∧ nb ∉ nums es ∧ 0 ≤ lf ∧ lf < rs.length) →
          ∀ D' : Ends, D'.nx = (fun σ H' => ∃ (w9 w10 w11 : Option V) (eps : List Addr) (es : List Ent) (rt : Bool), σ = [some (.ref a), some (.ref p), some (.int (0 + (turn : Int))), some (.ref R), some (.bl rt), w5, w6, some (.ref E), some (.ref N), w9, w10, w11, v12] ∧ Draw H' p l ∧ H' R = some (.lst (rps.map V.ref)) ∧ RegsIn K c H' rps rs ∧ H' E = some (.lst (eps.map V.ref)) ∧ H' N = some (.lst ((nums es).map V.int)) ∧ All2 (EntAt K H') eps es ∧ es.length = i + 1 ∧ (rt = true ↔ IsPart (pars rs) ∧ LOk rs.length es)) → rAppend (.ref N) [.int nb] H10 fun _ H1 => (tDrop (tBM K "list" rAppend (tVar 7) (tCons (tTup (tCons (tVar 10) (tCons (tMkK K c "Record" ["name", "vector", "fields", "words"] 2 0 [.e, .e] [(false, 0), (false, 1)] (sp_Record_init K c) W0 (tCons (tC (.str "a")) (tCons (tLst (tCons (tVar 9) tNil)) tNil)) tNil) (tCons (tVar 11) tNil)))) tNil))) D' [some (.ref a), some (.ref p), some (.int (0 + (turn : Int))), some (.ref R), some (.bl b), w5, w6, some (.ref E), some (.ref N), some (.int (0 + (i : Int))), some (.int nb), some (.int lf), v12] H1 := by
        intro b hb D' hD'
        refine z_app eN10 (by rw [List.length_map]; simp [nums]; omega) ?_
        have eN11 : upd H10 N (.lst ((nums es).map V.int ++ [V.int nb])) N = some (.lst ((nums es ++ [nb]).map V.int)) := by rw [upd_same]; simp
        have eR11 := lk_ne (o := .lst ((nums es).map V.int ++ [V.int nb])) nRN eR10
        have eE11 := lk_ne (o := .lst ((nums es).map V.int ++ [V.int nb])) nEN eE10
        have rg11 : RegsIn K c (upd H10 N (.lst ((nums es).map V.int ++ [V.int nb]))) rps rs := All2.imp (fun _ _ h => h.putL eN10) rg10
        have ee11 : All2 (EntAt K (upd H10 N (.lst ((nums es).map V.int ++ [V.int nb])))) eps es := All2.imp (fun _ _ h => SqT.putL eN10 h) ee10
        have d11 := Draw.put (o := .lst ((nums es).map V.int ++ [V.int nb])) nN nNL d10
        generalize upd H10 N (.lst ((nums es).map V.int ++ [V.int nb])) = H11 at *
        walk_at "zz"
        rename_i u hu
        refine ⟨rfl, rfl, ?_⟩
        rintro ok ds hds g dx hg hdx ne
        obtain ⟨T1, ds1, rfl, hT1, h2⟩ := cstE hds
        obtain ⟨T2, ds2, rfl, hT2, h3⟩ := cstE h2
        have h4 := cst0 h3
        subst h4
        show sp_Record_init K c [.ref g, .str "a", .ref u, .ref T1, .ref T2] _ _ _
        refine Record_init_c (xs := [0 + (i : Int)]) (fl := []) (ws := []) ok upd_same (.inl (SqL.of (lk_ne (ne_of_none upd_same hg) (lk_ne (ne_of_none upd_same hdx) upd_same)))) (PairsA.e (hT1 _)) (PairsA.e (hT2 _)) (by simp) (by simp) fun H12 b12 r12 => ?_
        refine ⟨rfl, ?_⟩
        have s12 : Same H11 H12 := (Same.new hu (Same.refl H11)).trans (SameB.out hg hdx b12)
        walk_at "zz"
        rename_i t ht
        have s13 := Same.new (o := .tup [.int nb, .ref g, .int lf]) ht s12
        have et : SqT K (upd H12 t (.tup [.int nb, .ref g, .int lf])) t [.int nb, .ref g, .int lf] := SqT.of upd_same
        generalize upd H12 t (.tup [.int nb, .ref g, .int lf]) = H13 at *
        have eE13 := s13 _ _ eE11
        refine z_app eE13 (by rw [List.length_map]; omega) ?_
        rw [hD']
        refine ⟨_, _, _, eps ++ [t], es ++ [(nb, g, lf)], b, rfl, Draw.put nE nEL (d11.same s13), lk_ne nRE (s13 _ _ eR11), All2.imp (fun _ _ h => (h.same s13).putL eE13) rg11, by rw [upd_same, ref_app], ?_, All2.app (All2.imp (fun _ _ h => SqT.putL eE13 (Same.sqT s13 h)) ee11) (SqT.putL eE13 et), by simp [le], ?_⟩
        · rw [show nums (es ++ [(nb, g, lf)]) = nums es ++ [nb] by simp [nums]]
          exact lk_ne nEN.symm (s13 _ _ eN11)
        · rw [hb, hrt7, LOk.snoc]
          exact ⟨fun z => ⟨z.1.1, z.1.2, z.2.1, z.2.2⟩, fun z => ⟨⟨z.1, z.2.1⟩, z.2.2.1, z.2.2.2⟩⟩
      walk_at "zz"
      cases rt with
      | false =>
        walk_at "zx"
        exact rest false (by simp) _ rfl
      | true =>
        walk_at "zx"
        refine z_notIn (.inl (SqL.of eN10)) rfl (flat_ints _) ?_
        rw [inV_int]
        by_cases c1 : nb ∈ nums es
        · rw [decide_eq_true c1]
          walk_at "zx"
          exact rest false (by simp [c1]) _ rfl
        · rw [decide_eq_false c1]
          walk_at "zx"
          by_cases c2 : 0 ≤ lf
          · rw [decide_eq_true c2]
            walk_at "zx"
            rw [List.length_map, lrp]
            exact rest _ (by simp [c1, c2]) _ rfl
          · rw [decide_eq_false c2]
            walk_at "zx"
            exact rest false (by simp [c2]) _ rfl
    rintro σ H7 ⟨w9, w10, w11, eps, es, rt, rfl, d7, eR7, rg7, eE7, eN7, ee7, le, hrt7⟩
    walk_at "zz"
    refine ⟨R, E, .int (0 + (turn : Int)), rs, rps, es, rfl, .inl (SqL.of eR7), lrp, rg7.get, ⟨eps, .inl (SqL.of eE7), ee7⟩, by omega, fun good g H8 s8 at8 => ?_, fun bad H8 s8 => ?_⟩
    · have hr : rt = true := hrt7.mpr ⟨good.1, good.2.1, good.2.2⟩
      subst hr
      obtain ⟨T, U, ⟨ok, dx, eg⟩, eT, us, eU, ru⟩ := at8
      have eR8 := s8 _ _ eR7
      have eE8 := s8 _ _ eE7
      have ee8 := All2.imp (fun _ _ h => Same.sqT s8 h) ee7
      walk_at "zy"
      refine z_tupleL (SqL.of eR8) fun t ht => ?_
      have s9 : Same H8 (upd H8 t (.tup (rps.map V.ref))) := Same.new ht (Same.refl H8)
      have et : SqT K (upd H8 t (.tup (rps.map V.ref))) t (rps.map V.ref) := SqT.of upd_same
      generalize upd H8 t (.tup (rps.map V.ref)) = H9 at *
      have eg9 := s9 _ _ eg
      refine z_neSame (n := 0) (by decide) (.inl ⟨Same.sqT s9 eT, et⟩) rfl (fun j x y e1 e2 => ?_) ?_
      · obtain ⟨_, rfl⟩ := map_ref e1
        rw [e1] at e2; cases e2
        exact EqB.self (.inr ⟨_, rfl⟩)
      walk_at "zx"
      refine z_tupleL (SqL.of (s9 _ _ eE8)) fun y hy => ?_
      have s10 := Same.new (o := .tup (eps.map V.ref)) hy s9
      have ey : SqT K (upd H9 y (.tup (eps.map V.ref))) y (eps.map V.ref) := SqT.of upd_same
      generalize upd H9 y (.tup (eps.map V.ref)) = H10 at *
      have l1 := All2.len ru
      have l2 := All2.len ee8
      refine z_neSame (n := 1) (by decide) (.inl ⟨Same.sqT s10 eU, ey⟩) (by simp; omega) (fun j x y e1 e2 => ?_) ?_
      · obtain ⟨k1, rfl⟩ := map_ref e1
        obtain ⟨k2, rfl⟩ := map_ref e2
        have h1 := Same.sqT s10 (All2.atD ru 0 dE (show j < es.length by omega))
        have h2 := Same.sqT s10 (All2.atD ee8 0 dE (show j < es.length by omega))
        refine EqB.sq (.inl ⟨h1, h2⟩) rfl fun m x y e1 e2 => ?_
        rw [e1] at e2; cases e2
        match m with
        | 0 => cases e1; exact EqB.self (.inl rfl)
        | 1 => cases e1; exact EqB.self (.inr ⟨_, rfl⟩)
        | 2 => cases e1; exact EqB.self (.inl rfl)
        | m + 3 => cases e1
      walk_at "zx"
      exact ⟨_, _, _, _, _, _, _, _, _, _, _, rfl, d7.same (s8.trans s10)⟩
    · have hr : rt = false := by
        cases rt with
        | false => rfl
        | true => exact absurd (hrt7.mp rfl) fun z => bad ⟨z.1, z.2.1, z.2.2⟩
      subst hr
      walk_at "zy"
      exact ⟨_, _, _, _, _, _, _, _, _, _, _, rfl, d7.same s8⟩
  · rintro σ H1 ⟨v2, v3, v4, v5, v6, v7, v8, v9, v10, v11, v12, rfl, d1⟩
    walk_at "zz"
    exact q _
theorem w_law {K : PySem.W.Frag} {c : CEnv} : Wd (T_law K c) N_law 1 (sp_law K) := fun vs H Q E h => by
  obtain ⟨a, ns, rfl, hS, hl, q⟩ := h
  exact ⟨rfl, r_law hS hl q⟩
/-! ### the text by places, and its defs, each once -/
def topS (i : Nat) : Stmt := PySem.Challenge.pw_surenear_k53_sources_are_checked.main.body.getD i (.Pass ⟨0, 0, 0, 0⟩)
section
variable {P : Program} {w : World} {K : PySem.W.Frag} {mg : Str → Option Value} {base : Heap} {c : CEnv}
abbrev s_law_row : Stmt := (topS 14)
theorem sc_law_row : FnScope N_law_row ["_law_script", "_law_k"] (defScope s_law_row) := ⟨rfl, rfl, rfl, by decide +kernel, rfl, by decide +kernel, by decide +kernel⟩
theorem ok_law_row (m_len : mg "len" = none) (m_int : mg "int" = none) {f : Addr} {fd : FuncData} (F : Fun K "_law_row" "_law_row" s_law_row f fd) : FnOk P w K mg base CX0 1 f fd ["_law_script", "_law_k"] (sp_law_row K) := by
  have sc := sc_law_row
  refine F.ok sc_law_row (fun vs H Q E h => ((w_law_row) vs H Q E h).1) (fun cdv A outer s H vs Q E hr h => ⟨T_law_row K, ?_, ((w_law_row) vs H Q E h).2⟩)
  exact (pss_cons (ps_set (i := 2) sc.nd rfl (by first | exact Or.inl rfl | exact Or.inr rfl) pe_int)
      (pss_cut (ps_if (pt_cmpR (op_uLt hr.units) (pv 1) (pe_callB call_uLen (by rfl) m_len (by decide +kernel) (pa_cons (pv 0) pa_nil)) (nomark _)) (pss_one (ps_set (i := 2) sc.nd rfl (by first | exact Or.inl rfl | exact Or.inr rfl) (pe_ix ix_uIx (pv 0) (pv 1) (fun _ _ => rfl)))) pss_nil)
      (pss_cut (ps_if (pt_cmpR (op_uLt hr.units) (pv 2) pe_int (nomark _)) (pss_one (ps_set (i := 2) sc.nd rfl (by first | exact Or.inl rfl | exact Or.inr rfl) (pe_op op_uSub (pe_op op_uMul (pe_un un_uNeg pe_int) (pv 2)) pe_int))) pss_nil)
      (pss_cut (ps_if (pt_cmpR (op_uLt hr.units) (pv 2) (pe_op op_uPow pe_int pe_int) (nomark _)) (pss_cons (ps_set (i := 3) sc.nd rfl (by first | exact Or.inl rfl | exact Or.inr rfl) (pe_op op_uMod (pe_callTy call_uInt (by rfl) m_int (by decide +kernel) (pa_cons (pe_op op_uAdd (pe_op op_uAdd (pe_op op_uMul (pv 2) pe_int) (pe_op op_uMul (pv 1) pe_int)) pe_int) pa_nil)) pe_int))
      (pss_cons (ps_set (i := 4) sc.nd rfl (by first | exact Or.inl rfl | exact Or.inr rfl) (pe_op op_uMod (pe_callTy call_uInt (by rfl) m_int (by decide +kernel) (pa_cons (pe_op op_uAdd (pe_op op_uAdd (pe_op op_uAdd (pe_op op_uMul (pv 3) pe_int) (pe_op op_uMul (pv 2) pe_int)) (pv 1)) pe_int) pa_nil)) pe_int))
      (pss_cons (ps_set (i := 5) sc.nd rfl (by first | exact Or.inl rfl | exact Or.inr rfl) (pe_op op_uMod (pe_callTy call_uInt (by rfl) m_int (by decide +kernel) (pa_cons (pe_op op_uAdd (pe_op op_uAdd (pe_op op_uMul (pv 4) pe_int) (pe_op op_uMul (pv 3) (pv 4))) pe_int) pa_nil)) pe_int))
      (pss_one (ps_set (i := 2) sc.nd rfl (by first | exact Or.inl rfl | exact Or.inr rfl) (pe_op op_uAdd (pe_op op_uAdd (pv 3) (pe_op op_uMul (pv 4) pe_int)) (pe_op op_uMul (pv 5) (pe_op op_uPow pe_int pe_int)))))))) pss_nil)
      (pss_one (ps_ret (pv 2)))))))
abbrev s_law_next : Stmt := (topS 15)
theorem sc_law_next : FnScope N_law_next ["_law_state", "_law_many"] (defScope s_law_next) := ⟨rfl, rfl, rfl, by decide +kernel, rfl, by decide +kernel, by decide +kernel⟩
theorem ok_law_next (D_law_row : Dfn P w K mg base 1 "_law_row" ["_law_script", "_law_k"] (sp_law_row K)) (m_int : mg "int" = none) {f : Addr} {fd : FuncData} (F : Fun K "_law_next" "_law_next" s_law_next f fd) : FnOk P w K mg base CX0 2 f fd ["_law_state", "_law_many"] (sp_law_next K) := by
  have sc := sc_law_next
  refine F.ok sc_law_next (fun vs H Q E h => ((w_law_next) vs H Q E h).1) (fun cdv A outer s H vs Q E hr h => ⟨T_law_next K, ?_, ((w_law_next) vs H Q E h).2⟩)
  exact (pss_cut (ps_if (pt_cmpR (op_uLt hr.units) (pe_ix ix_uIx (pv 0) pe_int (fun _ _ => rfl)) (pv 1) (nomark _)) (pss_cons (ps_asg (z_call D_law_row (hr.mono (by decide)) (by rfl) (pa_cons (pe_ix ix_uIx (pv 0) pe_int (fun _ _ => rfl)) (pa_cons (pe_ix ix_uIx (pv 0) pe_int (fun _ _ => rfl)) pa_nil))) (pg_sub (pv 0) pe_int set_list))
      (pss_one (ps_asg (pe_op op_uAdd (pe_ix ix_uIx (pv 0) pe_int (fun _ _ => rfl)) pe_int) (pg_sub (pv 0) pe_int set_list)))) pss_nil)
      (pss_cons (ps_set (i := 2) sc.nd rfl (by first | exact Or.inl rfl | exact Or.inr rfl) (pe_op op_uMod (pe_callTy call_uInt (by rfl) m_int (by decide +kernel) (pa_cons (pe_ix ix_uIx (pv 0) pe_int (fun _ _ => rfl)) pa_nil)) (pv 1)))
      (pss_cons (ps_asg (pe_op op_uDiv (pe_ix ix_uIx (pv 0) pe_int (fun _ _ => rfl)) (pv 1)) (pg_sub (pv 0) pe_int set_list))
      (pss_one (ps_ret (pv 2))))))
abbrev s_Region_init : Stmt := (inClass (topS 9) 0)
theorem sc_Region_init : FnScope N_Region_init ["self", "parent", "facts"] (defScope s_Region_init) := ⟨rfl, rfl, rfl, by decide +kernel, rfl, by decide +kernel, by decide +kernel⟩
theorem ok_Region_init (m_tuple : mg "tuple" = none) {f : Addr} {fd : FuncData} (F : Fun K "__init__" "Region.__init__" s_Region_init f fd) : FnOk P w K mg base CX0 1 f fd ["self", "parent", "facts"] (sp_Region_init K c) := by
  have sc := sc_Region_init
  refine F.ok sc_Region_init (fun vs H Q E h => ((w_Region_init (c := c)) vs H Q E h).1) (fun cdv A outer s H vs Q E hr h => ⟨T_Region_init K, ?_, ((w_Region_init (c := c)) vs H Q E h).2⟩)
  exact (pss_cons (ps_fld (pv 0) (pv 1) rfl)
      (pss_one (ps_fld (pv 0) (pe_callTy call_uTuple (by rfl) m_tuple (by decide +kernel) (pa_cons (pv 2) pa_nil)) rfl)))
abbrev s_Record_init : Stmt := (inClass (topS 7) 0)
theorem sc_Record_init : FnScope N_Record_init ["self", "name", "vector", "fields", "words"] (defScope s_Record_init) := ⟨rfl, rfl, rfl, by decide +kernel, rfl, by decide +kernel, by decide +kernel⟩
theorem ok_Record_init (m_tuple : mg "tuple" = none) {f : Addr} {fd : FuncData} (F : Fun K "__init__" "Record.__init__" s_Record_init f fd) : FnOk P w K mg base CX0 1 f fd ["self", "name", "vector", "fields", "words"] (sp_Record_init K c) := by
  have sc := sc_Record_init
  refine F.ok sc_Record_init (fun vs H Q E h => ((w_Record_init (c := c)) vs H Q E h).1) (fun cdv A outer s H vs Q E hr h => ⟨T_Record_init K, ?_, ((w_Record_init (c := c)) vs H Q E h).2⟩)
  exact (pss_cons (ps_fld (pv 0) (pv 1) rfl)
      (pss_cons (ps_fld (pv 0) (pe_callTy call_uTuple (by rfl) m_tuple (by decide +kernel) (pa_cons (pv 2) pa_nil)) rfl)
      (pss_cons (ps_fld (pv 0) (pe_callTy call_uTuple (by rfl) m_tuple (by decide +kernel) (pa_cons (pe_lc (own := [("field", 5), ("worth", 6)]) (g := (gTup K 2 (gCons (gName 5) (gCons (gName 6) gNil)))) (tt := tYes) rfl sc.nd (pi_sq (pv 3)) (blkOk_by (N := N_Record_init) (sc := defScope s_Record_init) (by decide +kernel)) (fun _ _ _ _ _ => (pg_tup rfl (pgs_cons (pg_name (i := 5) sc.nd rfl (by first | exact Or.inl rfl | exact Or.inr rfl)) (pgs_cons (pg_name (i := 6) sc.nd rfl (by first | exact Or.inl rfl | exact Or.inr rfl)) pgs_nil)))) (fun _ _ _ _ _ => pts_nil) (fun _ _ _ _ _ => (pe_tup (pa_cons (pv 5) (pa_cons (pv 6) pa_nil))))) pa_nil)) rfl)
      (pss_one (ps_fld (pv 0) (pe_callTy call_uTuple (by rfl) m_tuple (by decide +kernel) (pa_cons (pe_lc (own := [("word", 7), ("count", 8)]) (g := (gTup K 2 (gCons (gName 7) (gCons (gName 8) gNil)))) (tt := tYes) rfl sc.nd (pi_sq (pv 4)) (blkOk_by (N := N_Record_init) (sc := defScope s_Record_init) (by decide +kernel)) (fun _ _ _ _ _ => (pg_tup rfl (pgs_cons (pg_name (i := 7) sc.nd rfl (by first | exact Or.inl rfl | exact Or.inr rfl)) (pgs_cons (pg_name (i := 8) sc.nd rfl (by first | exact Or.inl rfl | exact Or.inr rfl)) pgs_nil)))) (fun _ _ _ _ _ => pts_nil) (fun _ _ _ _ _ => (pe_tup (pa_cons (pv 7) (pa_cons (pv 8) pa_nil))))) pa_nil)) rfl)))))
abbrev s_is_partition : Stmt := (topS 10)
theorem sc_is_partition : FnScope N_is_partition ["regions"] (defScope s_is_partition) := ⟨rfl, rfl, rfl, by decide +kernel, rfl, by decide +kernel, by decide +kernel⟩
theorem ok_is_partition (m_enumerate : mg "enumerate" = none) {f : Addr} {fd : FuncData} (F : Fun K "is_partition" "is_partition" s_is_partition f fd) : FnOk P w K mg base CX0 1 f fd ["regions"] (sp_is_partition K c) := by
  have sc := sc_is_partition
  refine F.ok sc_is_partition (fun vs H Q E h => ((w_is_partition (c := c)) vs H Q E h).1) (fun cdv A outer s H vs Q E hr h => ⟨T_is_partition K, ?_, ((w_is_partition (c := c)) vs H Q E h).2⟩)
  exact (pss_cons (ps_for PassesOwn.never rfl (pi_enumA (by rfl) m_enumerate (pa_cons (pv 0) pa_nil)) (pg_tup rfl (pgs_cons (pg_name (i := 1) sc.nd rfl (by first | exact Or.inl rfl | exact Or.inr rfl)) (pgs_cons (pg_name (i := 2) sc.nd rfl (by first | exact Or.inl rfl | exact Or.inr rfl)) pgs_nil))) (pss_one (ps_if (PW.pt (pw_and (pt_cmpR op_uIsNot (pe_fld (pv 2) rfl) pe_non (nomark _)) (pw_and1 (pt_not (pt_chain op_uLe (op_uLt hr.units) pe_int (pe_fld (pv 2) rfl) (pv 1)))))) (pss_one (ps_ret pe_bl)) pss_nil)))
      (pss_one (ps_ret pe_bl)))
abbrev s_Source_init : Stmt := (inClass (topS 12) 0)
theorem sc_Source_init : FnScope N_Source_init ["self", "segment", "partition", "regions", "entries"] (defScope s_Source_init) := ⟨rfl, rfl, rfl, by decide +kernel, rfl, by decide +kernel, by decide +kernel⟩
theorem ok_Source_init (E_InvalidSource : ExcF K mg c "InvalidSource") (D_is_partition : Dfn P w K mg base 1 "is_partition" ["regions"] (sp_is_partition K c)) (m_tuple : mg "tuple" = none) (m_len : mg "len" = none) (m_set : mg "set" = none) {f : Addr} {fd : FuncData} (F : Fun K "__init__" "Source.__init__" s_Source_init f fd) : FnOk P w K mg base (L2.CX P w) 2 f fd ["self", "segment", "partition", "regions", "entries"] (sp_Source_init K c) := by
  have sc := sc_Source_init
  refine F.okX sc_Source_init (fun vs H Q E h => ((w_Source_init (c := c)) vs H Q E h).1) (fun cdv A outer s H vs Q E hr h => ⟨T_Source_init K c (fun cls d _ H => E cls d H), ?_, ((w_Source_init (c := c)) vs H Q E h).2⟩)
  exact (pss_cons (ps_fld (pv 0) (pv 1) rfl)
      (pss_cons (ps_fld (pv 0) (pv 2) rfl)
      (pss_cons (ps_fld (pv 0) (pe_callTy call_uTuple (by rfl) m_tuple (by decide +kernel) (pa_cons (pv 3) pa_nil)) rfl)
      (pss_cons (ps_fld (pv 0) (pe_callTy call_uTuple (by rfl) m_tuple (by decide +kernel) (pa_cons (pe_lc (own := [("number", 5), ("record", 6), ("leaf", 7)]) (g := (gTup K 3 (gCons (gName 5) (gCons (gName 6) (gCons (gName 7) gNil))))) (tt := tYes) rfl sc.nd (pi_sq (pv 4)) (blkOk_by (N := N_Source_init) (sc := defScope s_Source_init) (by decide +kernel)) (fun _ _ _ _ _ => (pg_tup rfl (pgs_cons (pg_name (i := 5) sc.nd rfl (by first | exact Or.inl rfl | exact Or.inr rfl)) (pgs_cons (pg_name (i := 6) sc.nd rfl (by first | exact Or.inl rfl | exact Or.inr rfl)) (pgs_cons (pg_name (i := 7) sc.nd rfl (by first | exact Or.inl rfl | exact Or.inr rfl)) pgs_nil))))) (fun _ _ _ _ _ => pts_nil) (fun _ _ _ _ _ => (pe_tup (pa_cons (pv 5) (pa_cons (pv 6) (pa_cons (pv 7) pa_nil)))))) pa_nil)) rfl)
      (pss_cons (ps_if (pt_not (pt_u (z_call D_is_partition (hr.mono (by decide)) (by rfl) (pa_cons (pe_fld (pv 0) rfl) pa_nil)))) (pss_one (z_raise rfl E_InvalidSource (takes_of rfl rfl rfl rfl) (by rfl))) pss_nil)
      (pss_cons (by first | exact (ps_setLc (i := 8) (own := [("number", 5), ("_", 9)]) (g := (gTup K 3 (gCons (gName 5) (gCons (gName 9) (gCons (gName 9) gNil))))) (tt := tYes) rfl sc.nd rfl rfl (sw_true rfl rfl rfl (by decide +kernel)) (pi_sq (pe_fld (pv 0) rfl)) (blkOk_by (N := N_Source_init) (sc := defScope s_Source_init) (by decide +kernel)) (fun _ _ _ _ _ => (pg_tup rfl (pgs_cons (pg_name (i := 5) sc.nd rfl (by first | exact Or.inl rfl | exact Or.inr rfl)) (pgs_cons (pg_name (i := 9) sc.nd rfl (by first | exact Or.inl rfl | exact Or.inr rfl)) (pgs_cons (pg_name (i := 9) sc.nd rfl (by first | exact Or.inl rfl | exact Or.inr rfl)) pgs_nil))))) (fun _ _ _ _ _ => pts_nil) (fun _ _ _ _ _ => (pv 5))) | exact (ps_set (i := 8) sc.nd rfl (Or.inr rfl) (pe_lc (own := [("number", 5), ("_", 9)]) (g := (gTup K 3 (gCons (gName 5) (gCons (gName 9) (gCons (gName 9) gNil))))) (tt := tYes) rfl sc.nd (pi_sq (pe_fld (pv 0) rfl)) (blkOk_by (N := N_Source_init) (sc := defScope s_Source_init) (by decide +kernel)) (fun _ _ _ _ _ => (pg_tup rfl (pgs_cons (pg_name (i := 5) sc.nd rfl (by first | exact Or.inl rfl | exact Or.inr rfl)) (pgs_cons (pg_name (i := 9) sc.nd rfl (by first | exact Or.inl rfl | exact Or.inr rfl)) (pgs_cons (pg_name (i := 9) sc.nd rfl (by first | exact Or.inl rfl | exact Or.inr rfl)) pgs_nil))))) (fun _ _ _ _ _ => pts_nil) (fun _ _ _ _ _ => (pv 5)))))
      (pss_cons (ps_if (pt_cmpR (op_uLt hr.units) (z_lenSetE (by rfl) m_len (by rfl) m_set (pv 8)) (pe_callB call_uLen (by rfl) m_len (by decide +kernel) (pa_cons (pv 8) pa_nil)) (nomark _)) (pss_one (z_raise rfl E_InvalidSource (takes_of rfl rfl rfl rfl) (by rfl))) pss_nil)
      (pss_one (ps_for (passes_of rfl) rfl (pi_sq (pe_fld (pv 0) rfl)) (pg_tup rfl (pgs_cons (pg_name (i := 9) sc.nd rfl (by first | exact Or.inl rfl | exact Or.inr rfl)) (pgs_cons (pg_name (i := 9) sc.nd rfl (by first | exact Or.inl rfl | exact Or.inr rfl)) (pgs_cons (pg_name (i := 7) sc.nd rfl (by first | exact Or.inl rfl | exact Or.inr rfl)) pgs_nil)))) (pss_one (ps_if (pt_not (pt_chain op_uLe (op_uLt hr.units) pe_int (pv 7) (pe_callB call_uLen (by rfl) m_len (by decide +kernel) (pa_cons (pe_fld (pv 0) rfl) pa_nil)))) (pss_one (z_raise rfl E_InvalidSource (takes_of rfl rfl rfl rfl) (by rfl))) pss_nil)))))))))))
abbrev s_law_source : Stmt := (topS 16)
theorem sc_law_source : FnScope N_law_source ["_law_segment", "_law_regions", "_law_entries"] (defScope s_law_source) := ⟨rfl, rfl, rfl, by decide +kernel, rfl, by decide +kernel, by decide +kernel⟩
theorem ok_law_source (N_InvalidSource : mg "InvalidSource" = some (.ref (c.cls "InvalidSource"))) (T_InvalidSource : ∀ y ∈ (["InvalidSource"] : List Str), PySem.W.exmOne K (.ref (c.cls y)) (.ref (c.cls "InvalidSource")) = some (SUB y "InvalidSource")) (C_Source : ClsF K mg c "Source" ["segment", "partition", "regions", "entries"]) (K_Source_init : MkrX P w K mg base 2 (c.cls "Source") ["self", "segment", "partition", "regions", "entries"] (sp_Source_init K c)) {f : Addr} {fd : FuncData} (F : Fun K "_law_source" "_law_source" s_law_source f fd) : FnOk P w K mg base CX0 4 f fd ["_law_segment", "_law_regions", "_law_entries"] (sp_law_source K c) := by
  have sc := sc_law_source
  refine F.ok sc_law_source (fun vs H Q E h => ((w_law_source (c := c)) vs H Q E h).1) (fun cdv A outer s H vs Q E hr h => ⟨T_law_source K c, ?_, ((w_law_source (c := c)) vs H Q E h).2⟩)
  exact (pss_one (z_try rfl rfl (by rfl) N_InvalidSource T_InvalidSource takes0 (fun W pn xe tk po => (pss_one (ps_ret (z_makeX C_Source K_Source_init (passW tk) (hr.mono (by decide)) (by rfl) (pa_cons (pv 0) (pa_cons pe_int (pa_cons (pv 1) (pa_cons (pv 2) pa_nil)))))))) (fun a oe cls d pn hz hf => (pss_one (ps_ret pe_non)))))
abbrev s_law : Stmt := (topS 17)
theorem sc_law : FnScope N_law ["_law_script"] (defScope s_law) := ⟨rfl, rfl, rfl, by decide +kernel, rfl, by decide +kernel, by decide +kernel⟩
theorem ok_law (C_Region : ClsF K mg c "Region" ["parent", "facts"]) (C_Record : ClsF K mg c "Record" ["name", "vector", "fields", "words"]) (D_law_next : Dfn P w K mg base 2 "_law_next" ["_law_state", "_law_many"] (sp_law_next K)) (K_Region_init : Mkr P w K mg base 1 (c.cls "Region") ["self", "parent", "facts"] (sp_Region_init K c)) (K_Record_init_2 : MkrK CX0 P w K mg base 1 (c.cls "Record") ["self", "name", "vector", "fields", "words"] (sp_Record_init K c) 2 [] [.e, .e] [(false, 0), (false, 1)]) (D_law_source : Dfn P w K mg base 4 "_law_source" ["_law_segment", "_law_regions", "_law_entries"] (sp_law_source K c)) (m_list : mg "list" = none) (m_range : mg "range" = none) (m_len : mg "len" = none) (m_tuple : mg "tuple" = none) {f : Addr} {fd : FuncData} (F : Fun K "law" "law" s_law f fd) : FnOk P w K mg base CX0 5 f fd ["_law_script"] (sp_law K) := by
  have sc := sc_law
  refine F.ok sc_law (fun vs H Q E h => ((w_law (c := c)) vs H Q E h).1) (fun cdv A outer s H vs Q E hr h => ⟨T_law K c, ?_, ((w_law (c := c)) vs H Q E h).2⟩)
  exact (pss_cons (ps_set (i := 1) sc.nd rfl (by first | exact Or.inl rfl | exact Or.inr rfl) (pe_lst (pa_cons (pe_callTy call_uList (by rfl) m_list (by decide +kernel) (pa_cons (pv 0) pa_nil)) (pa_cons pe_int (pa_cons pe_int pa_nil)))))
      (pss_cons (ps_for PassesOwn.never rfl (pi_range1 (by rfl) m_range (pa_cons pe_int pa_nil)) (pg_name (i := 2) sc.nd rfl (by first | exact Or.inl rfl | exact Or.inr rfl)) (pss_cons (ps_set (i := 3) sc.nd rfl (by first | exact Or.inl rfl | exact Or.inr rfl) (pe_lst pa_nil))
      (pss_cons (ps_set (i := 4) sc.nd rfl (by first | exact Or.inl rfl | exact Or.inr rfl) pe_bl)
      (pss_cons (ps_for PassesOwn.never rfl (pi_range1 (by rfl) m_range (pa_cons (z_call D_law_next (hr.mono (by decide)) (by rfl) (pa_cons (pv 1) (pa_cons pe_int pa_nil))) pa_nil)) (pg_name (i := 5) sc.nd rfl (by first | exact Or.inl rfl | exact Or.inr rfl)) (pss_cons (ps_set (i := 6) sc.nd rfl (by first | exact Or.inl rfl | exact Or.inr rfl) pe_non)
      (pss_cut (ps_if (pt_cmpR (op_uEq hr.units) (z_call D_law_next (hr.mono (by decide)) (by rfl) (pa_cons (pv 1) (pa_cons pe_int pa_nil))) pe_int (nomark _)) (pss_cons (ps_set (i := 6) sc.nd rfl (by first | exact Or.inl rfl | exact Or.inr rfl) (pe_op op_uSub (pe_op op_uDiv (z_call D_law_next (hr.mono (by decide)) (by rfl) (pa_cons (pv 1) (pa_cons pe_int pa_nil))) pe_int) pe_int))
      (pss_one (ps_set (i := 4) sc.nd rfl (by first | exact Or.inl rfl | exact Or.inr rfl) (pe_and (pv 4) (pe_and (pe_cmpR op_uLe pe_int (pv 6) (nomark _)) (pe_one (pe_cmpR (op_uLt hr.units) (pv 6) (pv 5) (nomark _)))))))) pss_nil)
      (pss_one (ps_expr (pe_bm PySem.F.plainAttrs_list PySem.F.slot_list_append PySem.F.type_list_append mt_append (pv 3) (pa_cons (z_make C_Region K_Region_init (hr.mono (by decide)) (by rfl) (pa_cons (pv 6) (pa_cons (pe_lst pa_nil) pa_nil))) pa_nil)))))))
      (pss_cons (ps_set (i := 7) sc.nd rfl (by first | exact Or.inl rfl | exact Or.inr rfl) (pe_lst pa_nil))
      (pss_cons (ps_set (i := 8) sc.nd rfl (by first | exact Or.inl rfl | exact Or.inr rfl) (pe_lst pa_nil))
      (pss_cons (ps_for PassesOwn.never rfl (pi_range1 (by rfl) m_range (pa_cons (z_call D_law_next (hr.mono (by decide)) (by rfl) (pa_cons (pv 1) (pa_cons pe_int pa_nil))) pa_nil)) (pg_name (i := 9) sc.nd rfl (by first | exact Or.inl rfl | exact Or.inr rfl)) (pss_cons (ps_set (i := 10) sc.nd rfl (by first | exact Or.inl rfl | exact Or.inr rfl) (z_call D_law_next (hr.mono (by decide)) (by rfl) (pa_cons (pv 1) (pa_cons pe_int pa_nil))))
      (pss_cons (ps_set (i := 11) sc.nd rfl (by first | exact Or.inl rfl | exact Or.inr rfl) (pe_op op_uDiv (z_call D_law_next (hr.mono (by decide)) (by rfl) (pa_cons (pv 1) (pa_cons (pe_op op_uAdd (pe_op op_uMul (pe_callB call_uLen (by rfl) m_len (by decide +kernel) (pa_cons (pv 3) pa_nil)) pe_int) pe_int) pa_nil))) pe_int))
      (pss_cut (ps_if (pt_cmpR (op_uEq hr.units) (z_call D_law_next (hr.mono (by decide)) (by rfl) (pa_cons (pv 1) (pa_cons pe_int pa_nil))) pe_int (nomark _)) (pss_one (ps_set (i := 11) sc.nd rfl (by first | exact Or.inl rfl | exact Or.inr rfl) (pe_un un_uNeg pe_int))) pss_nil)
      (pss_cons (ps_set (i := 4) sc.nd rfl (by first | exact Or.inl rfl | exact Or.inr rfl) (pe_and (pv 4) (pe_and (pe_cmpR op_uNotIn (pv 10) (pv 8) (by rfl)) (pe_and (pe_cmpR op_uLe pe_int (pv 11) (nomark _)) (pe_one (pe_cmpR (op_uLt hr.units) (pv 11) (pe_callB call_uLen (by rfl) m_len (by decide +kernel) (pa_cons (pv 3) pa_nil)) (nomark _)))))))
      (pss_cons (ps_expr (pe_bm PySem.F.plainAttrs_list PySem.F.slot_list_append PySem.F.type_list_append mt_append (pv 8) (pa_cons (pv 10) pa_nil)))
      (pss_one (ps_expr (pe_bm PySem.F.plainAttrs_list PySem.F.slot_list_append PySem.F.type_list_append mt_append (pv 7) (pa_cons (pe_tup (pa_cons (pv 10) (pa_cons (z_makeK C_Record K_Record_init_2 pass00 (hr.mono (by decide)) (by rfl) (pa_cons pe_str (pa_cons (pe_lst (pa_cons (pv 9) pa_nil)) pa_nil)) pk_nil) (pa_cons (pv 11) pa_nil)))) pa_nil))))))))))
      (pss_cons (ps_set (i := 12) sc.nd rfl (by first | exact Or.inl rfl | exact Or.inr rfl) (z_call D_law_source (hr.mono (by decide)) (by rfl) (pa_cons (pv 2) (pa_cons (pv 3) (pa_cons (pv 7) pa_nil)))))
      (pss_cons (ps_if (pt_cmpR (op_uNe hr.units) (pe_cmpR op_uIsNot (pv 12) pe_non (nomark _)) (pv 4) (nomark _)) (pss_one (ps_ret pe_bl)) pss_nil)
      (pss_one (ps_if (pt_cmpR op_uIsNot (pv 12) pe_non (nomark _)) (pss_cons (ps_if (PW.pt (pw_or (pt_cmpR (op_uNe hr.units) (pe_fld (pv 12) rfl) (pv 2) (nomark _)) (pw_or (pt_cmpR (op_uNe hr.units) (pe_fld (pv 12) rfl) pe_int (nomark _)) (pw_or1 (pt_cmpR (op_uNe hr.units) (pe_fld (pv 12) rfl) (pe_callTy call_uTuple (by rfl) m_tuple (by decide +kernel) (pa_cons (pv 3) pa_nil)) (nomark _)))))) (pss_one (ps_ret pe_bl)) pss_nil)
      (pss_one (ps_if (pt_cmpR (op_uNe hr.units) (pe_fld (pv 12) rfl) (pe_callTy call_uTuple (by rfl) m_tuple (by decide +kernel) (pa_cons (pv 7) pa_nil)) (nomark _)) (pss_one (ps_ret pe_bl)) pss_nil))) pss_nil)))))))))))
      (pss_one (ps_ret pe_bl))))
end
def cEnv (C0 C1 C2 C3 : Addr) : CEnv := ⟨fun x => (([("InvalidSource", C0), ("Source", C1), ("Region", C2), ("Record", C3)] : List (Str × Addr)).lookup x).getD 0, fun y => y ∈ ([] : List Str)⟩
theorem all_mk {l : PySem.W.OpenLaw} {w : World} {K : PySem.W.Frag} {h : Heap} {mg : Str → Option Value} {fa f0 f1 f2 f3 f4 f5 f6 f7 C0 C1 C2 C3  : Addr} (X : K.In h) (G : h.Ns mainGlobals mg) (hfa : mg "law" = some (.ref fa))
    {kD3 kT3_fields kT3_words : Addr}
    {ddkT3_fields ddkT3_words : Option Addr} {nnkT3_fields nnkT3_words : Nat} {sskT3_fields sskT3_words : Array (Option Value)}
    {od0 an0 od1 an1 od2 an2 od3 an3 od4 an4 od5 an5 od6 an6 od7 an7 : Option Addr} {sl0 sl1 sl2 sl3 sl4 sl5 sl6 sl7 : Array (Option Value)} {oc0 kV0 dc0 pm0 cd0 ct0 oc1 kV1 dc1 pm1 cd1 ct1 oc2 kV2 dc2 pm2 cd2 ct2 oc3 dc3 pm3 cd3 ct3 oc4 kV4 dc4 pm4 cd4 ct4 oc5 kV5 dc5 pm5 cd5 ct5 oc6 kV6 dc6 pm6 cd6 ct6 oc7 kV7 dc7 pm7 cd7 ct7 : Value}
    (b0 : PySem.W.nsIn K mainGlobals "InvalidSource" = some (some (.ref C0)))
    (xq0 : PySem.W.excIn K C0 [.type "ValueError", .type "Exception", .type "BaseException", .type "object"] "ValueError.__new__" = true)
    (kc0 : PySem.W.keepIn K (.ref C0) = true)
    (xb0 : PySem.W.subIn K (.ref C0) (.type "BaseException") = some true)
    (xt0 : PySem.W.typeIn K (.ref C0) = some (.type "type"))
    (xi0 : PySem.W.isClsIn K C0 = true)
    (xs0_0 : PySem.W.subIn K (.ref C0) (.ref C0) = some true)
    (b1 : PySem.W.nsIn K mainGlobals "Source" = some (some (.ref C1)))
    (pg1 : PySem.W.plainGet K C1 Str.empty = true)
    (hd1 : PySem.W.hasDictIn K C1 = true)
    (po1 : PySem.W.plainOver K C1 = true)
    (sa1 : PySem.W.findIn K (.ref C1) "__setattr__" = some (some (.builtin "object.__setattr__")))
    (ha1 : PySem.W.findIn K (.ref C1) "__class__" = some (some (.builtin "object.__class__")))
    (hm1 : PySem.W.mroIn K C1 (.type "object") = some true)
    (mk1 : PySem.W.makesIn K C1 = true)
    (kc1 : PySem.W.keepIn K (.ref C1) = true)
    (n1_0 : PySem.W.findIn K (.ref C1) "segment" = some none)
    (n1_1 : PySem.W.findIn K (.ref C1) "partition" = some none)
    (n1_2 : PySem.W.findIn K (.ref C1) "regions" = some none)
    (n1_3 : PySem.W.findIn K (.ref C1) "entries" = some none)
    (b2 : PySem.W.nsIn K mainGlobals "Region" = some (some (.ref C2)))
    (pg2 : PySem.W.plainGet K C2 Str.empty = true)
    (hd2 : PySem.W.hasDictIn K C2 = true)
    (po2 : PySem.W.plainOver K C2 = true)
    (sa2 : PySem.W.findIn K (.ref C2) "__setattr__" = some (some (.builtin "object.__setattr__")))
    (ha2 : PySem.W.findIn K (.ref C2) "__class__" = some (some (.builtin "object.__class__")))
    (hm2 : PySem.W.mroIn K C2 (.type "object") = some true)
    (mk2 : PySem.W.makesIn K C2 = true)
    (kc2 : PySem.W.keepIn K (.ref C2) = true)
    (n2_0 : PySem.W.findIn K (.ref C2) "parent" = some none)
    (n2_1 : PySem.W.findIn K (.ref C2) "facts" = some none)
    (b3 : PySem.W.nsIn K mainGlobals "Record" = some (some (.ref C3)))
    (pg3 : PySem.W.plainGet K C3 Str.empty = true)
    (hd3 : PySem.W.hasDictIn K C3 = true)
    (po3 : PySem.W.plainOver K C3 = true)
    (sa3 : PySem.W.findIn K (.ref C3) "__setattr__" = some (some (.builtin "object.__setattr__")))
    (ha3 : PySem.W.findIn K (.ref C3) "__class__" = some (some (.builtin "object.__class__")))
    (hm3 : PySem.W.mroIn K C3 (.type "object") = some true)
    (mk3 : PySem.W.makesIn K C3 = true)
    (kc3 : PySem.W.keepIn K (.ref C3) = true)
    (n3_0 : PySem.W.findIn K (.ref C3) "name" = some none)
    (n3_1 : PySem.W.findIn K (.ref C3) "vector" = some none)
    (n3_2 : PySem.W.findIn K (.ref C3) "fields" = some none)
    (n3_3 : PySem.W.findIn K (.ref C3) "words" = some none)
    (hn : PySem.W.specialIn K (.builtin "object.__class__") "__get__" = some (some (.builtin "getset_descriptor.__get__")))
    (htk : PySem.W.takesIn K (.builtin "object.__class__") = some true)
    (a0 : PySem.W.nsIn K mainGlobals "_law_row" = some (some (.ref f0)))
    (l0 : K.lookup f0 = some ⟨oc0, od0, .func (PySem.W.fnOf "_law_row" "_law_row" (defArgs s_law_row) (defBody s_law_row) (defScope s_law_row) .none kV0 dc0 pm0 an0 cd0 ct0), sl0⟩)
    (c0 : PySem.W.codeIn K cd0 "_law_row" = true)
    (k0 : PySem.W.keepIn K (.ref f0) = true)
    (a1 : PySem.W.nsIn K mainGlobals "_law_next" = some (some (.ref f1)))
    (l1 : K.lookup f1 = some ⟨oc1, od1, .func (PySem.W.fnOf "_law_next" "_law_next" (defArgs s_law_next) (defBody s_law_next) (defScope s_law_next) .none kV1 dc1 pm1 an1 cd1 ct1), sl1⟩)
    (c1 : PySem.W.codeIn K cd1 "_law_next" = true)
    (k1 : PySem.W.keepIn K (.ref f1) = true)
    (a2 : PySem.W.findIn K (.ref C2) "__init__" = some (some (.ref f2)))
    (i2 : PySem.W.isFn K (.ref f2) = true)
    (l2 : K.lookup f2 = some ⟨oc2, od2, .func (PySem.W.fnOf "__init__" "Region.__init__" (defArgs s_Region_init) (defBody s_Region_init) (defScope s_Region_init) .none kV2 dc2 pm2 an2 cd2 ct2), sl2⟩)
    (c2 : PySem.W.codeIn K cd2 "Region.__init__" = true)
    (k2 : PySem.W.keepIn K (.ref f2) = true)
    (a3 : PySem.W.findIn K (.ref C3) "__init__" = some (some (.ref f3)))
    (i3 : PySem.W.isFn K (.ref f3) = true)
    (l3 : K.lookup f3 = some ⟨oc3, od3, .func (PySem.W.fnOf "__init__" "Record.__init__" (defArgs s_Record_init) (defBody s_Record_init) (defScope s_Record_init) .none (.ref kD3) dc3 pm3 an3 cd3 ct3), sl3⟩)
    (c3 : PySem.W.codeIn K cd3 "Record.__init__" = true)
    (k3 : PySem.W.keepIn K (.ref f3) = true)
    (a4 : PySem.W.nsIn K mainGlobals "is_partition" = some (some (.ref f4)))
    (l4 : K.lookup f4 = some ⟨oc4, od4, .func (PySem.W.fnOf "is_partition" "is_partition" (defArgs s_is_partition) (defBody s_is_partition) (defScope s_is_partition) .none kV4 dc4 pm4 an4 cd4 ct4), sl4⟩)
    (c4 : PySem.W.codeIn K cd4 "is_partition" = true)
    (k4 : PySem.W.keepIn K (.ref f4) = true)
    (a5 : PySem.W.findIn K (.ref C1) "__init__" = some (some (.ref f5)))
    (i5 : PySem.W.isFn K (.ref f5) = true)
    (l5 : K.lookup f5 = some ⟨oc5, od5, .func (PySem.W.fnOf "__init__" "Source.__init__" (defArgs s_Source_init) (defBody s_Source_init) (defScope s_Source_init) .none kV5 dc5 pm5 an5 cd5 ct5), sl5⟩)
    (c5 : PySem.W.codeIn K cd5 "Source.__init__" = true)
    (k5 : PySem.W.keepIn K (.ref f5) = true)
    (a6 : PySem.W.nsIn K mainGlobals "_law_source" = some (some (.ref f6)))
    (l6 : K.lookup f6 = some ⟨oc6, od6, .func (PySem.W.fnOf "_law_source" "_law_source" (defArgs s_law_source) (defBody s_law_source) (defScope s_law_source) .none kV6 dc6 pm6 an6 cd6 ct6), sl6⟩)
    (c6 : PySem.W.codeIn K cd6 "_law_source" = true)
    (k6 : PySem.W.keepIn K (.ref f6) = true)
    (a7 : PySem.W.nsIn K mainGlobals "law" = some (some (.ref f7)))
    (l7 : K.lookup f7 = some ⟨oc7, od7, .func (PySem.W.fnOf "law" "law" (defArgs s_law) (defBody s_law) (defScope s_law) .none kV7 dc7 pm7 an7 cd7 ct7), sl7⟩)
    (c7 : PySem.W.codeIn K cd7 "law" = true)
    (k7 : PySem.W.keepIn K (.ref f7) = true)
    (kd3_fields : PySem.W.nsIn K kD3 "fields" = some (some (.ref kT3_fields)))
    (kx3_fields : K.lookup kT3_fields = some ⟨.type "tuple", ddkT3_fields, .seq ([] : List Value).toArray nnkT3_fields, sskT3_fields⟩)
    (kd3_words : PySem.W.nsIn K kD3 "words" = some (some (.ref kT3_words)))
    (kx3_words : K.lookup kT3_words = some ⟨.type "tuple", ddkT3_words, .seq ([] : List Value).toArray nnkT3_words, sskT3_words⟩)
    (z0 : PySem.W.nsIn K mainGlobals "len" = some none)
    (z1 : PySem.W.nsIn K mainGlobals "int" = some none)
    (z2 : PySem.W.nsIn K mainGlobals "tuple" = some none)
    (z3 : PySem.W.nsIn K mainGlobals "enumerate" = some none)
    (z4 : PySem.W.nsIn K mainGlobals "set" = some none)
    (z5 : PySem.W.nsIn K mainGlobals "list" = some none)
    (z6 : PySem.W.nsIn K mainGlobals "range" = some none)
    : ∃ fd : FuncData, (∀ (s : Shared) (v : Value), BindsTo s fd ⟨[v], []⟩ [("_law_script", v)]) ∧ ∀ base : Heap, K.In base → base.Ns mainGlobals mg → FnOk l.prog w K mg base CX0 5 fa fd ["_law_script"] (sp_law K) := by
  have e := hfa.symm.trans (PySem.W.mg_of X G a7)
  cases e
  have m_len := PySem.W.mg_none_of X G z0
  have m_int := PySem.W.mg_none_of X G z1
  have m_tuple := PySem.W.mg_none_of X G z2
  have m_enumerate := PySem.W.mg_none_of X G z3
  have m_set := PySem.W.mg_none_of X G z4
  have m_list := PySem.W.mg_none_of X G z5
  have m_range := PySem.W.mg_none_of X G z6
  have E_InvalidSource : ExcF K mg (cEnv C0 C1 C2 C3) "InvalidSource" := ⟨xq0, PySem.W.mg_of X G b0, kc0, xb0, xt0⟩
  have N_InvalidSource : mg "InvalidSource" = some (.ref ((cEnv C0 C1 C2 C3).cls "InvalidSource")) := PySem.W.mg_of X G b0
  have T_InvalidSource : ∀ y ∈ (["InvalidSource"] : List Str), PySem.W.exmOne K (.ref ((cEnv C0 C1 C2 C3).cls y)) (.ref ((cEnv C0 C1 C2 C3).cls "InvalidSource")) = some (SUB y "InvalidSource") := (List.forall_mem_cons.mpr ⟨(by rw [show SUB "InvalidSource" "InvalidSource" = true by decide +kernel]; exact exm_of xb0 xi0 xt0 xs0_0), (fun _ h => nomatch h)⟩)
  have F0 := fun_mk (st := s_law_row) l0 c0 k0
  have F1 := fun_mk (st := s_law_next) l1 c1 k1
  have F2 := fun_mk (st := s_Region_init) l2 c2 k2
  have F3 := fun_mk (st := s_Record_init) l3 c3 k3
  have F4 := fun_mk (st := s_is_partition) l4 c4 k4
  have F5 := fun_mk (st := s_Source_init) l5 c5 k5
  have F6 := fun_mk (st := s_law_source) l6 c6 k6
  have F7 := fun_mk (st := s_law) l7 c7 k7
  have O_Source : ClsOk K (cEnv C0 C1 C2 C3) "Source" ["segment", "partition", "regions", "entries"] := ⟨⟨pg1, hd1, po1, sa1⟩, na_of (List.forall_mem_cons.mpr ⟨n1_0, (List.forall_mem_cons.mpr ⟨n1_1, (List.forall_mem_cons.mpr ⟨n1_2, (List.forall_mem_cons.mpr ⟨n1_3, (fun _ h => nomatch h)⟩)⟩)⟩)⟩), ha1, hn, htk, hm1, (fun _ h => nomatch h), (fun _ h => nomatch h)⟩
  have C_Source : ClsF K mg (cEnv C0 C1 C2 C3) "Source" ["segment", "partition", "regions", "entries"] := ⟨O_Source, fun h => absurd h (by show _ ∉ ([] : List Str); decide +kernel), PySem.W.mg_of X G b1⟩
  have O_Region : ClsOk K (cEnv C0 C1 C2 C3) "Region" ["parent", "facts"] := ⟨⟨pg2, hd2, po2, sa2⟩, na_of (List.forall_mem_cons.mpr ⟨n2_0, (List.forall_mem_cons.mpr ⟨n2_1, (fun _ h => nomatch h)⟩)⟩), ha2, hn, htk, hm2, (fun _ h => nomatch h), (fun _ h => nomatch h)⟩
  have C_Region : ClsF K mg (cEnv C0 C1 C2 C3) "Region" ["parent", "facts"] := ⟨O_Region, fun h => absurd h (by show _ ∉ ([] : List Str); decide +kernel), PySem.W.mg_of X G b2⟩
  have O_Record : ClsOk K (cEnv C0 C1 C2 C3) "Record" ["name", "vector", "fields", "words"] := ⟨⟨pg3, hd3, po3, sa3⟩, na_of (List.forall_mem_cons.mpr ⟨n3_0, (List.forall_mem_cons.mpr ⟨n3_1, (List.forall_mem_cons.mpr ⟨n3_2, (List.forall_mem_cons.mpr ⟨n3_3, (fun _ h => nomatch h)⟩)⟩)⟩)⟩), ha3, hn, htk, hm3, (fun _ h => nomatch h), (fun _ h => nomatch h)⟩
  have C_Record : ClsF K mg (cEnv C0 C1 C2 C3) "Record" ["name", "vector", "fields", "words"] := ⟨O_Record, fun h => absurd h (by show _ ∉ ([] : List Str); decide +kernel), PySem.W.mg_of X G b3⟩
  refine ⟨PySem.W.fnOf "law" "law" (defArgs s_law) (defBody s_law) (defScope s_law) .none kV7 dc7 pm7 an7 cd7 ct7, fun s v => .of_eq rfl, fun base _ _ => ?_⟩
  have D_law_row : Dfn l.prog w K mg base 1 "_law_row" ["_law_script", "_law_k"] (sp_law_row K) := ⟨_, _, PySem.W.mg_of X G a0, F0.kp, F0.binds (ps := ["_law_script", "_law_k"]) (fun _ _ _ _ _ _ us hl => match us, hl with | [_, _], _ => rfl), ok_law_row m_len m_int F0⟩
  have D_law_next : Dfn l.prog w K mg base 2 "_law_next" ["_law_state", "_law_many"] (sp_law_next K) := ⟨_, _, PySem.W.mg_of X G a1, F1.kp, F1.binds (ps := ["_law_state", "_law_many"]) (fun _ _ _ _ _ _ us hl => match us, hl with | [_, _], _ => rfl), ok_law_next D_law_row m_int F1⟩
  have K_Region_init : Mkr l.prog w K mg base 1 ((cEnv C0 C1 C2 C3).cls "Region") ["self", "parent", "facts"] (sp_Region_init K (cEnv C0 C1 C2 C3)) := ⟨_, _, ⟨mk2, a2, i2, kc2⟩, F2.binds (ps := ["self", "parent", "facts"]) (fun _ _ _ _ _ _ us hl => match us, hl with | [_, _, _], _ => rfl), ok_Region_init m_tuple F2⟩
  have FD3 : FunD K "__init__" "Record.__init__" (defArgs s_Record_init) (defBody s_Record_init) (defScope s_Record_init) [] [("fields", .ref kT3_fields), ("words", .ref kT3_words)] f3 _ := ⟨⟨_, _, _, _, _, _, _, _, _, _, rfl, l3, c3, .inl ⟨rfl, rfl⟩, .inr ⟨kD3, rfl, (List.forall_mem_cons.mpr ⟨⟨_, kd3_fields, rfl⟩, (List.forall_mem_cons.mpr ⟨⟨_, kd3_words, rfl⟩, (fun _ h => nomatch h)⟩)⟩)⟩⟩, k3⟩
  have B_K_Record_init_2 := FunD.kbinds0 (ps := ["self", "name", "vector", "fields", "words"]) FD3 3 [] [("fields", .ref kT3_fields), ("words", .ref kT3_words)] (gSel [(false, 0), (false, 1)]) (by simp) (by simp) (fun r1 r2 r3 => gSel_rel [(false, 0), (false, 1)] r1 r2 r3) (fun D doc pm an cdv ct us mv ws h1 h2 h3 => match us, h1, mv, h2, ws, h3 with | [_, _, _], _, [_, _], _, [], _ => ⟨_, _, _, _, _, _, rfl, rfl, ⟨_, _, _, _, _, _, rfl, rfl, rfl⟩⟩)
  have K_Record_init_2 : MkrK CX0 l.prog w K mg base 1 ((cEnv C0 C1 C2 C3).cls "Record") ["self", "name", "vector", "fields", "words"] (sp_Record_init K (cEnv C0 C1 C2 C3)) 2 [] [.e, .e] [(false, 0), (false, 1)] := B_K_Record_init_2.elim fun mv hb => ⟨_, _, _, _, ⟨mk3, a3, i3, kc3⟩, (.cons ⟨_, rfl, sqT_lit kx3_fields .nil (by decide)⟩ (.cons ⟨_, rfl, sqT_lit kx3_words .nil (by decide)⟩ .nil)), hb, ok_Record_init m_tuple F3⟩
  have D_is_partition : Dfn l.prog w K mg base 1 "is_partition" ["regions"] (sp_is_partition K (cEnv C0 C1 C2 C3)) := ⟨_, _, PySem.W.mg_of X G a4, F4.kp, F4.binds (ps := ["regions"]) (fun _ _ _ _ _ _ us hl => match us, hl with | [_], _ => rfl), ok_is_partition m_enumerate F4⟩
  have K_Source_init : MkrX l.prog w K mg base 2 ((cEnv C0 C1 C2 C3).cls "Source") ["self", "segment", "partition", "regions", "entries"] (sp_Source_init K (cEnv C0 C1 C2 C3)) := ⟨_, _, ⟨mk1, a5, i5, kc1⟩, F5.binds (ps := ["self", "segment", "partition", "regions", "entries"]) (fun _ _ _ _ _ _ us hl => match us, hl with | [_, _, _, _, _], _ => rfl), ok_Source_init E_InvalidSource D_is_partition m_tuple m_len m_set F5⟩
  have D_law_source : Dfn l.prog w K mg base 4 "_law_source" ["_law_segment", "_law_regions", "_law_entries"] (sp_law_source K (cEnv C0 C1 C2 C3)) := ⟨_, _, PySem.W.mg_of X G a6, F6.kp, F6.binds (ps := ["_law_segment", "_law_regions", "_law_entries"]) (fun _ _ _ _ _ _ us hl => match us, hl with | [_, _, _], _ => rfl), ok_law_source N_InvalidSource T_InvalidSource C_Source K_Source_init F6⟩
  exact ok_law C_Region C_Record D_law_next K_Region_init K_Record_init_2 D_law_source m_list m_range m_len m_tuple F7
theorem walk {l : PySem.W.OpenLaw} {q : Program} {loose : List Str} {XP : (Str → Option Value) → Heap → Prop} {YP : World → Heap → Prop} {d : DefRec} {K : Params → PySem.W.Frag} (hn : l.most = some 63) (hdf : d.params.defaults = [])
    (hY : ∀ (w : World) (h : Heap), YP w h → (K w.params).In h)
    (F : ∀ (w : World) (mg : Str → Option Value) (fa : Addr) (h : Heap), (K w.params).In h → h.Ns mainGlobals mg → mg d.name = some (.ref fa) →
      ∃ fd : FuncData, (∀ (s : Shared) (u : Value), BindsTo s fd ⟨[u], []⟩ [("_law_script", u)]) ∧ ∀ base : Heap, (K w.params).In base → base.Ns mainGlobals mg → FnOk l.prog w (K w.params) mg base CX0 5 fa fd ["_law_script"] (sp_law (K w.params))) :
    PySem.W.WalkO q loose XP YP l.row.toRowW d [] (fun f vs => PySem.call f vs) :=
  L2.walk_of (n := 63) (k := 5) (x := "_law_script") (CX := fun _ => CX0) (sp := fun w => sp_law (K w.params)) hn (by decide) hdf ⟨rfl, by decide, by decide⟩ hY F (fun _ _ a ns hl _ hS => ⟨a, ns, rfl, hS, hl, fun _ => rfl⟩) fun _ _ _ _ _ z => z
end Z
open PySem PySem.W PyProof.Rows
set_option maxRecDepth 100000 in
set_option maxHeartbeats 0 in
theorem PySem.Challenge.cw_surenear_k53_sources_are_checked_holds : PySem.Challenge.rw_surenear_k53_sources_are_checked.Holds := by
  w_on; o_law; k_head; (case hw => w_witness2)
  k_fill
  refine Z.walk (l := PySem.Challenge.rw_surenear_k53_sources_are_checked) rfl rfl (fun w h Y => PySem.W.kIn_of Y) ?F
  case F =>
    intro w mg fa h KX G hmg
    refine' Z.all_mk KX G hmg ?b0 ?xq0 ?kc0 ?xb0 ?xt0 ?xi0 ?xs0_0 ?b1 ?pg1 ?hd1 ?po1 ?sa1 ?ha1 ?hm1 ?mk1 ?kc1 ?n1_0 ?n1_1 ?n1_2 ?n1_3 ?b2 ?pg2 ?hd2 ?po2 ?sa2 ?ha2 ?hm2 ?mk2 ?kc2 ?n2_0 ?n2_1 ?b3 ?pg3 ?hd3 ?po3 ?sa3 ?ha3 ?hm3 ?mk3 ?kc3 ?n3_0 ?n3_1 ?n3_2 ?n3_3 ?hn ?htk ?a0 ?l0 ?c0 ?k0 ?a1 ?l1 ?c1 ?k1 ?a2 ?i2 ?l2 ?c2 ?k2 ?a3 ?i3 ?l3 ?c3 ?k3 ?a4 ?l4 ?c4 ?k4 ?a5 ?i5 ?l5 ?c5 ?k5 ?a6 ?l6 ?c6 ?k6 ?a7 ?l7 ?c7 ?k7 ?kd3_fields ?kx3_fields ?kd3_words ?kx3_words ?z0 ?z1 ?z2 ?z3 ?z4 ?z5 ?z6
    (case b0 => k_is)
    (case xq0 => k_exc)
    (case kc0 => k_is)
    (case xb0 => k_is)
    (case xt0 => k_is)
    (case xi0 => k_is)
    (case xs0_0 => k_is)
    (case b1 => k_is)
    (case pg1 => k_is)
    (case hd1 => k_is)
    (case po1 => k_is)
    (case sa1 => k_is)
    (case ha1 => k_is)
    (case hm1 => k_is)
    (case mk1 => k_is)
    (case kc1 => k_is)
    (case n1_0 => k_is)
    (case n1_1 => k_is)
    (case n1_2 => k_is)
    (case n1_3 => k_is)
    (case b2 => k_is)
    (case pg2 => k_is)
    (case hd2 => k_is)
    (case po2 => k_is)
    (case sa2 => k_is)
    (case ha2 => k_is)
    (case hm2 => k_is)
    (case mk2 => k_is)
    (case kc2 => k_is)
    (case n2_0 => k_is)
    (case n2_1 => k_is)
    (case b3 => k_is)
    (case pg3 => k_is)
    (case hd3 => k_is)
    (case po3 => k_is)
    (case sa3 => k_is)
    (case ha3 => k_is)
    (case hm3 => k_is)
    (case mk3 => k_is)
    (case kc3 => k_is)
    (case n3_0 => k_is)
    (case n3_1 => k_is)
    (case n3_2 => k_is)
    (case n3_3 => k_is)
    (case hn => k_is)
    (case htk => k_is)
    (case a0 => k_is)
    (case l0 => k_is)
    (case c0 => k_is)
    (case k0 => k_is)
    (case a1 => k_is)
    (case l1 => k_is)
    (case c1 => k_is)
    (case k1 => k_is)
    (case a2 => k_is)
    (case i2 => k_is)
    (case l2 => k_is)
    (case c2 => k_is)
    (case k2 => k_is)
    (case a3 => k_is)
    (case i3 => k_is)
    (case l3 => k_is)
    (case c3 => k_is)
    (case k3 => k_is)
    (case a4 => k_is)
    (case l4 => k_is)
    (case c4 => k_is)
    (case k4 => k_is)
    (case a5 => k_is)
    (case i5 => k_is)
    (case l5 => k_is)
    (case c5 => k_is)
    (case k5 => k_is)
    (case a6 => k_is)
    (case l6 => k_is)
    (case c6 => k_is)
    (case k6 => k_is)
    (case a7 => k_is)
    (case l7 => k_is)
    (case c7 => k_is)
    (case k7 => k_is)
    (case kd3_fields => k_is)
    (case kx3_fields => k_is)
    (case kd3_words => k_is)
    (case kx3_words => k_is)
    (case z0 => k_is)
    (case z1 => k_is)
    (case z2 => k_is)
    (case z3 => k_is)
    (case z4 => k_is)
    (case z5 => k_is)
    (case z6 => k_is)

